import PyProof.Rows.All
import Wide.All
import Open.Line
import Wide.FinOn
import PySem.Challenge.RW_uf010004_01
set_option Elab.async false
set_option maxRecDepth 100000
set_option linter.unusedVariables false
set_option linter.unusedSimpArgs false

namespace Mine
open PySem

/-! ## Abstract values, store, monad -/

inductive V where
  | none
  | bool (b : Bool)
  | int (i : Int)
  | str (s : Str)
  | tup (l : List V)
  | ref (n : Nat)
  deriving Inhabited

inductive O where
  | list (l : List V)
  | dict (l : List (V × V))
  | inst (c : Str) (fs : List (Str × V))
  deriving Inhabited

abbrev Store := List O

inductive Res (α : Type) where
  | ok (a : α) (σ : Store)
  | exc (e : V) (σ : Store)
  | bad

def M (α : Type) := Store → Res α

namespace M
def pure {α : Type} (a : α) : M α := fun σ => .ok a σ
def bind {α β : Type} (m : M α) (f : α → M β) : M β := fun σ => match m σ with
  | .ok a σ' => f a σ'
  | .exc e σ' => .exc e σ'
  | .bad => .bad
def bad {α : Type} : M α := fun _ => .bad
end M
instance : Monad M where
  pure := M.pure
  bind := M.bind

/-- the object of a number -/
def getO (n : Nat) : M O := fun σ => match σ[n]? with
  | some o => .ok o σ
  | none => .bad
/-- an object is changed; the first one (the law's script) never is -/
def setO (n : Nat) (o : O) : M Unit := fun σ => if 0 < n ∧ n < σ.length then .ok () (σ.set n o) else .bad
def newO (o : O) : M V := fun σ => .ok (.ref σ.length) (σ ++ [o])

/-! ## The relation to the heap -/

abbrev Map := List (Addr × Addr)

def tupO (vs : List Value) (n : Nat) : Obj := { cls := .type "tuple", data := .seq vs.toArray n }
def listO (vs : List Value) (n : Nat) : Obj := { cls := .type "list", data := .seq vs.toArray n }

/-- a text that may be held -/
def SOk (x : Str) : Prop := x.length ≤ sizeLine ∧ PyData.strOk x = true
instance (x : Str) : Decidable (SOk x) := inferInstanceAs (Decidable (_ ∧ _))

mutual
inductive Rel (ρ : Map) (h : Heap) : Value → V → Prop
  | none : Rel ρ h .none .none
  | bool (b : Bool) : Rel ρ h (.bool b) (.bool b)
  | int (i : Int) (t : Tok) : Rel ρ h (.int i t) (.int i)
  | str (x : Str) (t : Tok) : SOk x → Rel ρ h (.str x t) (.str x)
  | tup {a : Addr} {vs : List Value} {n : Nat} {l : List V} : h.get? a = some (tupO vs n) → vs.length ≤ sizeLine → RelAll ρ h vs l → Rel ρ h (.ref a) (.tup l)
  | ref {a d : Addr} {n : Nat} : ρ[n]? = some (a, d) → Rel ρ h (.ref a) (.ref n)
inductive RelAll (ρ : Map) (h : Heap) : List Value → List V → Prop
  | nil : RelAll ρ h [] []
  | cons {v : Value} {vs : List Value} {x : V} {l : List V} : Rel ρ h v x → RelAll ρ h vs l → RelAll ρ h (v :: vs) (x :: l)
end

def ORel (ρ : Map) (h : Heap) (p : Addr × Addr) : O → Prop
  | .list l => p.2 = p.1 ∧ ∃ vs n, h.get? p.1 = some (listO vs n) ∧ vs.length ≤ sizeLine ∧ RelAll ρ h vs l
  | .dict _ => False
  | .inst _ _ => False

structure Inv (h₀ : Heap) (σ : Store) (ρ : Map) (h : Heap) : Prop where
  base : ∀ b o, h₀.get? b = some o → h.get? b = some o
  len : ρ.length = σ.length
  objs : ∀ (n : Nat) (o : O) (p : Addr × Addr), σ[n]? = some o → ρ[n]? = some p → ORel ρ h p o
  fresh : ∀ (n : Nat) (p : Addr × Addr), ρ[n]? = some p → 0 < n → h₀.get? p.1 = none ∧ h₀.get? p.2 = none
  apart : ∀ (i j : Nat) (p q : Addr × Addr), ρ[i]? = some p → ρ[j]? = some q → i ≠ j → p.1 ≠ q.1 ∧ p.1 ≠ q.2 ∧ p.2 ≠ q.1 ∧ p.2 ≠ q.2

structure Ext (W : List Addr) (ρ : Map) (h : Heap) (ρ' : Map) (h' : Heap) : Prop where
  pre : ∀ (n : Nat) (p : Addr × Addr), ρ[n]? = some p → ρ'[n]? = some p
  keep : ∀ b o, h.get? b = some o → b ∉ W → (∀ p ∈ ρ, b ≠ p.1 ∧ b ≠ p.2) → h'.get? b = some o
  tups : ∀ b vs n, h.get? b = some (tupO vs n) → h'.get? b = some (tupO vs n)
  alive : ∀ b o, h.get? b = some o → ∃ o', h'.get? b = some o'
  new : ∀ (i : Nat) (p : Addr × Addr), ρ'[i]? = some p → ρ.length ≤ i → h.get? p.1 = none ∧ h.get? p.2 = none

section
variable {W : List Addr} {ρ ρ' ρ'' : Map} {h h' h'' : Heap}

theorem Ext.refl : Ext W ρ h ρ h where
  pre := fun _ _ e => e
  keep := fun _ _ e _ _ => e
  tups := fun _ _ _ e => e
  alive := fun _ o e => ⟨o, e⟩
  new := fun i p e hi => by rw [List.getElem?_eq_none hi] at e; cases e

theorem Ext.len_le (x : Ext W ρ h ρ' h') : ρ.length ≤ ρ'.length := by
  rcases Nat.lt_or_ge ρ'.length ρ.length with hl | hl
  · have := x.pre ρ'.length _ (List.getElem?_eq_getElem hl)
    rw [List.getElem?_eq_none (Nat.le_refl _)] at this; cases this
  · exact hl

theorem Ext.trans (x : Ext W ρ h ρ' h') (y : Ext W ρ' h' ρ'' h'') : Ext W ρ h ρ'' h'' where
  pre := fun n p e => y.pre n p (x.pre n p e)
  keep := fun b o e hW hρ => by
    refine y.keep b o (x.keep b o e hW hρ) hW fun p hp => ?_
    obtain ⟨i, hi⟩ := List.getElem?_of_mem hp
    rcases Nat.lt_or_ge i ρ.length with hl | hl
    · have h1 := x.pre i _ (List.getElem?_eq_getElem hl)
      rw [hi] at h1; cases h1
      exact hρ _ (List.getElem_mem hl)
    · obtain ⟨n1, n2⟩ := x.new i p hi hl
      exact ⟨fun eq => (by rw [← eq, e] at n1; cases n1), fun eq => (by rw [← eq, e] at n2; cases n2)⟩
  tups := fun b vs n e => y.tups b vs n (x.tups b vs n e)
  alive := fun b o e => let ⟨o', e'⟩ := x.alive b o e; y.alive b o' e'
  new := fun i p e hi => by
    rcases Nat.lt_or_ge i ρ'.length with hl | hl
    · have h1 := y.pre i _ (List.getElem?_eq_getElem hl)
      rw [e] at h1; cases h1
      exact x.new i _ (List.getElem?_eq_getElem hl) hi
    · obtain ⟨n1, n2⟩ := y.new i p e hl
      refine ⟨?_, ?_⟩
      · cases e1 : h.get? p.1 with
        | none => rfl
        | some o => obtain ⟨o', e'⟩ := x.alive _ _ e1; rw [n1] at e'; cases e'
      · cases e1 : h.get? p.2 with
        | none => rfl
        | some o => obtain ⟨o', e'⟩ := x.alive _ _ e1; rw [n2] at e'; cases e'

theorem Ext.weak {W' : List Addr} (x : Ext W ρ h ρ' h') (hw : ∀ b ∈ W, b ∈ W' ∨ h.get? b = none) : Ext W' ρ h ρ' h' where
  pre := x.pre
  keep := fun b o e hW hρ => x.keep b o e (fun hm => (hw b hm).elim hW fun e' => by rw [e] at e'; cases e') hρ
  tups := x.tups
  alive := x.alive
  new := x.new

/-- a heap that keeps all but the frame -/
theorem Ext.of_keep (hk : ∀ b o, h.get? b = some o → b ∉ W → h'.get? b = some o) (ht : ∀ b o, h.get? b = some o → b ∈ W → (∀ vs n, o ≠ tupO vs n) ∧ ∃ o', h'.get? b = some o') : Ext W ρ h ρ h' where
  pre := fun _ _ e => e
  keep := fun b o e hW _ => hk b o e hW
  tups := fun b vs n e => hk b _ e fun hm => (ht b _ e hm).1 vs n rfl
  alive := fun b o e => by
    by_cases hm : b ∈ W
    · exact (ht b o e hm).2
    · exact ⟨o, hk b o e hm⟩
  new := fun i p e hi => by rw [List.getElem?_eq_none hi] at e; cases e

theorem Ext.of_keeps (hk : ∀ b o, h.get? b = some o → h'.get? b = some o) : Ext W ρ h ρ h' where
  pre := fun _ _ e => e
  keep := fun b o e _ _ => hk b o e
  tups := fun b _ _ e => hk b _ e
  alive := fun b o e => ⟨o, hk b o e⟩
  new := fun i p e hi => by rw [List.getElem?_eq_none hi] at e; cases e

def Sub (ρ : Map) (h : Heap) (ρ' : Map) (h' : Heap) : Prop :=
  (∀ (n : Nat) (p : Addr × Addr), ρ[n]? = some p → ρ'[n]? = some p) ∧ ∀ b vs n, h.get? b = some (tupO vs n) → h'.get? b = some (tupO vs n)
theorem Ext.sub (x : Ext W ρ h ρ' h') : Sub ρ h ρ' h' := ⟨x.pre, x.tups⟩
theorem Sub.snoc {p : Addr × Addr} : Sub ρ h (ρ ++ [p]) h := ⟨fun n q e => by
  rw [List.getElem?_append_left (by rcases Nat.lt_or_ge n ρ.length with hl | hl; exact hl; rw [List.getElem?_eq_none hl] at e; cases e)]; exact e, fun _ _ _ e => e⟩
theorem Sub.trans (x : Sub ρ h ρ' h') (y : Sub ρ' h' ρ'' h'') : Sub ρ h ρ'' h'' := ⟨fun n p e => y.1 n p (x.1 n p e), fun b vs n e => y.2 b vs n (x.2 b vs n e)⟩
theorem Sub.keeps (hk : ∀ b o, h.get? b = some o → h'.get? b = some o) : Sub ρ h ρ h' := ⟨fun _ _ e => e, fun b _ _ e => hk b _ e⟩
mutual
theorem Rel.sub (x : Sub ρ h ρ' h') : ∀ {v : Value} {a : V}, Rel ρ h v a → Rel ρ' h' v a
  | _, _, .none => .none
  | _, _, .bool b => .bool b
  | _, _, .int i t => .int i t
  | _, _, .str s t hs => .str s t hs
  | _, _, .tup e hl r => .tup (x.2 _ _ _ e) hl (RelAll.sub x r)
  | _, _, .ref e => .ref (x.1 _ _ e)
theorem RelAll.sub (x : Sub ρ h ρ' h') : ∀ {vs : List Value} {l : List V}, RelAll ρ h vs l → RelAll ρ' h' vs l
  | _, _, .nil => .nil
  | _, _, .cons r rs => .cons (Rel.sub x r) (RelAll.sub x rs)
end
theorem Rel.ext (x : Ext W ρ h ρ' h') {v : Value} {a : V} (r : Rel ρ h v a) : Rel ρ' h' v a := r.sub x.sub
theorem RelAll.ext (x : Ext W ρ h ρ' h') {vs : List Value} {l : List V} (r : RelAll ρ h vs l) : RelAll ρ' h' vs l := r.sub x.sub

theorem RelAll.length : ∀ {vs : List Value} {l : List V}, RelAll ρ h vs l → vs.length = l.length
  | _, _, .nil => rfl
  | _, _, .cons _ r => by rw [List.length_cons, List.length_cons, RelAll.length r]
theorem RelAll.append : ∀ {vs ws : List Value} {l m : List V}, RelAll ρ h vs l → RelAll ρ h ws m → RelAll ρ h (vs ++ ws) (l ++ m)
  | _, _, _, _, .nil, r => r
  | _, _, _, _, .cons a r, s => .cons a (RelAll.append r s)
theorem RelAll.get : ∀ {vs : List Value} {l : List V} {k : Nat} {x : V}, RelAll ρ h vs l → l[k]? = some x → ∃ v, vs[k]? = some v ∧ Rel ρ h v x
  | _, _, _, _, .nil, e => by simp at e
  | _, _, 0, _, .cons a _, e => by simp at e; subst e; exact ⟨_, rfl, a⟩
  | _, _, k + 1, _, .cons _ r, e => by
    simp only [List.getElem?_cons_succ] at e ⊢
    exact RelAll.get r e
theorem RelAll.get_none {vs : List Value} {l : List V} {k : Nat} (r : RelAll ρ h vs l) (e : l[k]? = none) : vs[k]? = none := by
  rw [List.getElem?_eq_none_iff] at e ⊢
  rw [r.length]; exact e
end

/-! ## Simulation -/
section
variable (prog : Program) (w : World) (h₀ : Heap)

def Post (W : List Addr) (ρ : Map) (s : Shared) (σ' : Store) (R : Map → Heap → Prop) (s' : Shared) : Prop :=
  ∃ ρ' h' tk, s' = { s with heap := h', toks := tk } ∧ Inv h₀ σ' ρ' h' ∧ Ext W ρ s.heap ρ' h' ∧ R ρ' h'

def Sim (A : Around) (W : List Addr) {α β : Type} (t : Sem β) (r : Res α) (R : α → Map → Heap → β → Prop) (ρ : Map) (s : Shared) : Prop :=
  match r with
  | .bad => True
  | .exc _ _ => True
  | .ok a σ' => wpAny (model prog w) A t (fun b s' => Post h₀ W ρ s σ' (fun ρ' h' => R a ρ' h' b) s') (fun _ _ => False) s
end

section
variable {prog : Program} {w : World} {h₀ : Heap} {A : Around} {W : List Addr} {ρ : Map} {s : Shared} {α β γ δ : Type} {σ : Store}

theorem Post.mono {σ' : Store} {R R' : Map → Heap → Prop} {s' : Shared} (h : ∀ ρ' h', R ρ' h' → R' ρ' h') : Post h₀ W ρ s σ' R s' → Post h₀ W ρ s σ' R' s' :=
  fun ⟨ρ', h', tk, e, i, x, r⟩ => ⟨ρ', h', tk, e, i, x, h _ _ r⟩

theorem Sim.bind {t : Sem β} {f : β → Sem γ} {m : M α} {k : α → M δ} {R : α → Map → Heap → β → Prop} {R' : δ → Map → Heap → γ → Prop}
    (h1 : Sim prog w h₀ A W t (m σ) R ρ s)
    (h2 : ∀ a σ₁ ρ₁ H tk b, Inv h₀ σ₁ ρ₁ H → Ext W ρ s.heap ρ₁ H → R a ρ₁ H b → Sim prog w h₀ A W (f b) (k a σ₁) R' ρ₁ { s with heap := H, toks := tk }) :
    Sim prog w h₀ A W (t >>= f) ((m >>= k) σ) R' ρ s := by
  show Sim prog w h₀ A W (t >>= f) (match m σ with | .ok a σ' => k a σ' | .exc e σ' => .exc e σ' | .bad => .bad) R' ρ s
  cases e : m σ with
  | bad => exact trivial
  | exc _ _ => exact trivial
  | ok a σ₁ =>
    rw [e] at h1
    show Sim prog w h₀ A W (t >>= f) (k a σ₁) R' ρ s
    cases e2 : k a σ₁ with
    | bad => exact trivial
    | exc _ _ => exact trivial
    | ok d σ₂ =>
      refine wpAny_bind (wpAny_mono h1 (fun b s' hp => ?_) fun _ _ h' => h'.elim)
      obtain ⟨ρ₁, H, tk, rfl, i, x, r⟩ := hp
      have := h2 a σ₁ ρ₁ H tk b i x r
      rw [e2] at this
      refine wpAny_mono this (fun c s'' hp' => ?_) fun _ _ h' => h'
      obtain ⟨ρ₂, H₂, tk₂, rfl, i₂, x₂, r₂⟩ := hp'
      exact ⟨ρ₂, H₂, tk₂, rfl, i₂, x.trans x₂, r₂⟩

theorem Sim.ret {b : β} {a : α} {R : α → Map → Heap → β → Prop} (i : Inv h₀ σ ρ s.heap) (r : R a ρ s.heap b) :
    Sim prog w h₀ A W (Pure.pure b : Sem β) ((Pure.pure a : M α) σ) R ρ s :=
  wpAny_pure ⟨ρ, s.heap, s.toks, rfl, i, Ext.refl, r⟩

theorem Sim.bad {t : Sem β} {R : α → Map → Heap → β → Prop} : Sim prog w h₀ A W t (M.bad (α := α) σ) R ρ s := trivial

theorem Sim.mono {t : Sem β} {r : Res α} {R R' : α → Map → Heap → β → Prop} (h : Sim prog w h₀ A W t r R ρ s) (hr : ∀ a ρ' h' b, R a ρ' h' b → R' a ρ' h' b) :
    Sim prog w h₀ A W t r R' ρ s := by
  cases r with
  | bad => exact trivial
  | exc _ _ => exact trivial
  | ok a σ' => exact wpAny_mono h (fun b s' hp => hp.mono fun _ _ => hr a _ _ b) fun _ _ x => x

theorem Sim.weak {W' : List Addr} {t : Sem β} {r : Res α} {R : α → Map → Heap → β → Prop} (h : Sim prog w h₀ A W t r R ρ s) (hw : ∀ b ∈ W, b ∈ W' ∨ s.heap.get? b = none) :
    Sim prog w h₀ A W' t r R ρ s := by
  cases r with
  | bad => exact trivial
  | exc _ _ => exact trivial
  | ok a σ' => exact wpAny_mono h (fun b s' ⟨ρ', h', tk, e, i, x, r⟩ => ⟨ρ', h', tk, e, i, x.weak hw, r⟩) fun _ _ x => x

/-- a tree that does not touch the state ahead -/
theorem Sim.ahead {t : Sem PUnit} {f : PUnit → Sem β} {r : Res α} {R : α → Map → Heap → β → Prop} (ht : ∀ (Q : PUnit → Shared → Prop) (E : Value → Shared → Prop), Q ⟨⟩ s → wpAny (model prog w) A t Q E s)
    (h : Sim prog w h₀ A W (f ⟨⟩) r R ρ s) : Sim prog w h₀ A W (t >>= f) r R ρ s := by
  cases r with
  | bad => exact trivial
  | exc _ _ => exact trivial
  | ok a σ' => exact wpAny_bind (ht _ _ h)

theorem Sim.standAt {p : Pos} {f : PUnit → Sem β} {r : Res α} {R : α → Map → Heap → β → Prop} (h : Sim prog w h₀ A W (f ⟨⟩) r R ρ s) :
    Sim prog w h₀ A W (PySem.standAt p >>= f) r R ρ s := Sim.ahead (fun _ _ hq => wpAny_standAt hq) h

theorem Sim.holding {vs : List Value} {t : Sem β} {r : Res α} {R : α → Map → Heap → β → Prop} (h : Sim prog w h₀ A W t r R ρ s) :
    Sim prog w h₀ A W (PySem.holding vs t) r R ρ s := by
  cases r with
  | bad => exact trivial
  | exc _ _ => exact trivial
  | ok a σ' => exact wpAny_holding h

theorem Sim.of_wp {t : Sem β} {a : α} {σ' : Store} {R : α → Map → Heap → β → Prop}
    (h : wpAny (model prog w) A t (fun b s' => Post h₀ W ρ s σ' (fun ρ' h' => R a ρ' h' b) s') (fun _ _ => False) s) : Sim prog w h₀ A W t (.ok a σ') R ρ s := h
end

end Mine

namespace Mine
open PySem

abbrev Loc := List (Option V)
abbrev Names := List (Str × NameKind)

def slotGo : Names → Str → Nat → Option (Nat × NameKind)
  | [], _, _ => none
  | (y, k) :: r, x, i => match x == y with
    | true => some (i, k)
    | false => slotGo r x (i + 1)
def slot (ns : Names) (x : Str) : Option (Nat × NameKind) := slotGo ns x 0

def ofOpt {α : Type} : Option α → M α
  | some a => pure a
  | none => M.bad

/-- the value of an own name -/
def ldLoc (loc : Loc) (i : Nat) : M V := ofOpt (loc[i]?.join)

def stLoc (ns : Names) (x : Str) (v : V) (loc : Loc) : M Loc := match slot ns x with
  | some (i, .local) => pure (loc.set i (some v))
  | some (i, .cell) => pure (loc.set i (some v))
  | _ => M.bad

/-- a comprehension's own names are plain locals -/
def stLocL (ns : Names) (x : Str) (v : V) (loc : Loc) : M Loc := match slot ns x with
  | some (i, .local) => pure (loc.set i (some v))
  | _ => M.bad

/-- what a text is run in: its own defs, and the plain values of its top -/
structure Cfg where
  isFn : Str → Bool
  call : Str → List V → M V
  glob : Str → Option V

/-! ### values -/
def constV : Const → M V
  | .none => pure .none
  | .bool b => pure (.bool b)
  | .int i => pure (.int i)
  | .str s => if SOk s then pure (.str s) else M.bad
  | _ => M.bad

def truth : V → M Bool
  | .none => pure false
  | .bool b => pure b
  | .int i => pure (i != 0)
  | .str s => pure (s.length != 0)
  | .tup l => pure (l.length != 0)
  | .ref n => do
    match ← getO n with
    | .list l => pure (l.length != 0)
    | _ => M.bad

/-- a number of 64 bits -/
def Small (a : Int) : Prop := -18446744073709551616 < a ∧ a < 18446744073709551616
instance (a : Int) : Decidable (Small a) := inferInstanceAs (Decidable (_ ∧ _))

def getList (n : Nat) : M (List V) := do
  match ← getO n with
  | .list l => pure l
  | _ => M.bad

def binop : Operator → V → V → M V
  | .Add, .int a, .int b => pure (.int (a + b))
  | .Sub, .int a, .int b => pure (.int (a - b))
  | .Mult, .int a, .int b => if Small a ∨ Small b then pure (.int (a * b)) else M.bad
  | .FloorDiv, .int a, .int b => if b ≠ 0 ∧ Small b then pure (.int (a.fdiv b)) else M.bad
  | .Mod, .int a, .int b => if b ≠ 0 ∧ Small b then pure (.int (a.fmod b)) else M.bad
  | .Pow, .int a, .int b => if 0 ≤ b ∧ b ≤ 1000 ∧ a.natAbs < 1000 then pure (.int (a ^ b.toNat)) else M.bad
  | .Add, .str a, .str b => if a.length + b.length ≤ sizeLine then pure (.str (a ++ b)) else M.bad
  | .Add, .tup a, .tup b => if a.length + b.length ≤ sizeLine then pure (.tup (a ++ b)) else M.bad
  | .Add, .ref a, .ref b => do
    let l ← getList a
    let m ← getList b
    if l.length + m.length ≤ sizeLine then newO (.list (l ++ m)) else M.bad
  | _, _, _ => M.bad

/-! ### equality -/
mutual
/-- a value as plain data; f tells the objects -/
def toPyT (f : Nat → Option PyData) : V → Option PyData
  | .none => some .none
  | .bool b => some (.bool b)
  | .int i => some (.int i)
  | .str s => some (.str s)
  | .tup l => (toPyTs f l).map .tuple
  | .ref n => f n
def toPyTs (f : Nat → Option PyData) : List V → Option (List PyData)
  | [] => some []
  | x :: r => match toPyT f x, toPyTs f r with
    | some d, some ds => some (d :: ds)
    | _, _ => none
end
def toPyF (σ : Store) : Nat → Nat → Option PyData
  | 0, _ => none
  | k + 1, n => match σ[n]? with
    | some (.list l) => (toPyTs (toPyF σ k) l).map .list
    | _ => none
def toPy (σ : Store) (v : V) : Option PyData := toPyT (toPyF σ 4) v

def veq (σ : Store) (a b : V) : Option Bool := match toPy σ a, toPy σ b with
  | some x, some y => if min x.depth y.depth ≤ 200 then some (PyData.eqv x y) else none
  | _, _ => none

/-- is a value among others -/
def vin (σ : Store) (x : V) : List V → Option Bool
  | [] => some false
  | y :: r => match veq σ y x, vin σ x r with
    | some e, some t => some (e || t)
    | _, _ => none

/-- the store is asked -/
def askS {α : Type} (f : Store → Option α) : M α := fun σ => match f σ with
  | some a => .ok a σ
  | none => .bad

/-- the order of texts -/
def strLt (a b : Str) : Bool := decide (a.cps.toList < b.cps.toList)

def cmp : CmpOp → V → V → M V
  | .Eq, a, b => askS fun σ => (veq σ a b).map V.bool
  | .NotEq, a, b => askS fun σ => (veq σ a b).map fun e => V.bool (!e)
  | .Lt, .int a, .int b => pure (.bool (decide (a < b)))
  | .LtE, .int a, .int b => pure (.bool (decide (a ≤ b)))
  | .Gt, .int a, .int b => pure (.bool (decide (b < a)))
  | .GtE, .int a, .int b => pure (.bool (decide (b ≤ a)))
  | .Is, a, .none => pure (.bool (match a with | .none => true | _ => false))
  | .IsNot, a, .none => pure (.bool (match a with | .none => false | _ => true))
  | .In, a, .tup l => askS fun σ => (vin σ a l).map V.bool
  | .NotIn, a, .tup l => askS fun σ => (vin σ a l).map fun e => V.bool (!e)
  | .In, a, .ref n => do let l ← getList n; askS fun σ => (vin σ a l).map V.bool
  | .NotIn, a, .ref n => do let l ← getList n; askS fun σ => (vin σ a l).map fun e => V.bool (!e)
  | _, _, _ => M.bad

/-! ### items -/
/-- a place in something of a length, negative ones from its end -/
def place (i : Int) (n : Nat) : Option Nat :=
  if 0 ≤ i then (if i < n then some i.toNat else none) else if 0 ≤ i + n then some (i + n).toNat else none

def chr1 (c : Nat) : Str := ⟨#[c]⟩

def item : V → V → M V
  | .tup l, .int i => ofOpt ((place i l.length).bind fun k => l[k]?)
  | .str s, .int i => ofOpt ((place i s.length).bind fun k => (s.cps[k]?).map fun c => V.str (chr1 c))
  | .ref n, .int i => do
    let l ← getList n
    ofOpt ((place i l.length).bind fun k => l[k]?)
  | _, _ => M.bad

def setItem : V → V → V → M Unit
  | .ref n, .int i, v => do
    let l ← getList n
    if 0 ≤ i ∧ i < l.length then setO n (.list (l.set i.toNat v)) else M.bad
  | _, _, _ => M.bad

/-- a slice: from, up to -/
def cut {α : Type} (l : List α) (lo hi : Option Int) : List α :=
  (l.drop (lo.elim 0 (clipAt l.length))).take (hi.elim l.length (clipAt l.length) - lo.elim 0 (clipAt l.length))
def cutStr (s : Str) (lo hi : Option Int) : Str := ⟨(cut s.cps.toList lo hi).toArray⟩

def sliceV (lo hi : Option Int) : V → M V
  | .tup l => pure (.tup (cut l lo hi))
  | .str s => pure (.str (cutStr s lo hi))
  | .ref n => do
    let l ← getList n
    newO (.list (cut l lo hi))
  | _ => M.bad

def bound : V → M (Option Int)
  | .none => pure none
  | .int i => pure (some i)
  | _ => M.bad

/-! ### what is walked -/
inductive Src where
  | vals (l : List V)
  | lst (n : Nat)
  | enum (n : Nat)

def listAt (σ : Store) (n : Nat) : Option (List V) := match σ[n]? with
  | some (.list l) => some l
  | _ => none
/-- what stands at a turn: none, where the walk is at its end -/
def Src.at (σ : Store) : Src → Nat → Option (Option V)
  | .vals l, i => some l[i]?
  | .lst n, i => (listAt σ n).map fun l => l[i]?
  | .enum n, i => (listAt σ n).map fun l => l[i]?.map fun v => .tup [.int i, v]
def Src.get (s : Src) (i : Nat) : M (Option V) := askS fun σ => s.at σ i
def Src.size (σ : Store) : Src → Option Nat
  | .vals l => some l.length
  | .lst n => (listAt σ n).map (·.length)
  | .enum n => (listAt σ n).map (·.length)
def Src.count (s : Src) : M Nat := askS s.size

def srcV : V → M Src
  | .tup l => pure (.vals l)
  | .ref n => do let _ ← getList n; pure (.lst n)
  | _ => M.bad

def rangeV (a b : Int) : List V := (List.range (b - a).toNat).map fun (k : Nat) => V.int (a + k)

/-! ### built-in functions -/
def allStrs : List V → Option (List Str)
  | [] => some []
  | .str s :: r => (allStrs r).map (s :: ·)
  | _ :: _ => none

def itemsOf : V → M (List V)
  | .tup l => pure l
  | .ref n => getList n
  | _ => M.bad

def bLen : V → M V
  | .tup l => pure (.int l.length)
  | .str s => pure (.int s.length)
  | .ref n => do let l ← getList n; pure (.int l.length)
  | _ => M.bad
def bList (a : V) : M V := do
  let l ← itemsOf a
  newO (.list l)
def bTuple (a : V) : M V := do
  let l ← itemsOf a
  pure (.tup l)

def blt (f : Str) : List V → M V
  | [a] =>
    if f = ("len" : Str) then bLen a
    else if f = ("list" : Str) then bList a
    else if f = ("tuple" : Str) then bTuple a
    else M.bad
  | _ => M.bad

inductive Kd where
  | bool | int | str | tuple | list
def kdOf (t : Str) : Option Kd :=
  if t = ("bool" : Str) then some .bool
  else if t = ("int" : Str) then some .int
  else if t = ("str" : Str) then some .str
  else if t = ("tuple" : Str) then some .tuple
  else if t = ("list" : Str) then some .list
  else none
def isKd : Kd → V → M V
  | _, .none => pure (.bool false)
  | k, .bool _ => pure (.bool (match k with | .bool | .int => true | _ => false))
  | k, .int _ => pure (.bool (match k with | .int => true | _ => false))
  | k, .str _ => pure (.bool (match k with | .str => true | _ => false))
  | k, .tup _ => pure (.bool (match k with | .tuple => true | _ => false))
  | k, .ref n => do
    let _ ← getList n
    pure (.bool (match k with | .list => true | _ => false))

def mAppend : V → V → M V
  | .ref n, a => do
    let l ← getList n
    if l.length + 1 ≤ sizeLine then do
      setO n (.list (l ++ [a]))
      pure .none
    else M.bad
  | _, _ => M.bad
def mJoin : V → V → M V
  | .str sep, a => do
    let l ← itemsOf a
    let ss ← ofOpt (allStrs l)
    if (ss.map (·.length)).sum + ss.length * sep.length ≤ 16777216 then pure (.str (Txt.join sep ss)) else M.bad
  | _, _ => M.bad

/-- a method, by the kind of what it is asked of -/
inductive MTag where
  | append | join
def mtag (v : V) (m : Str) (σ : Store) : Option MTag := match v with
  | .str _ => if m = ("join" : Str) then some .join else none
  | .ref n => (match σ[n]? with
    | some (.list _) => if m = ("append" : Str) then some .append else none
    | _ => none)
  | _ => none
def runM : MTag → V → List V → M V
  | .append, o, [a] => mAppend o a
  | .join, o, [a] => mJoin o a
  | _, _, _ => M.bad

/-! ### expressions -/
inductive Fl where
  | next | brk | cont
  | ret (v : V)

/-- the names of a comprehension's block, those of the block around it as cells -/
def relab (ns : Names) (names : Names) : Names := names.map fun (x, k) => if k == .free && ns.lookup x == some .cell then (x, .cell) else (x, k)

/-- the values that a comprehension's block sees -/
def innerLoc (ns : Names) (loc : Loc) : Names → M Loc
  | [] => pure []
  | (x, .free) :: r => (match slot ns x with
    | some (i, .cell) => do
      let t ← innerLoc ns loc r
      pure (((loc[i]?).getD none) :: t)
    | _ => M.bad)
  | (_, .cell) :: _ => M.bad
  | (_, _) :: r => do
    let t ← innerLoc ns loc r
    pure (none :: t)

def isGlob (ns : Names) (x : Str) : Bool := match slot ns x with
  | some (_, .globalImplicit) => !(x == ("__debug__" : Str))
  | _ => false

def compLoop (s : Src) (bindT : V → Loc → M Loc) (tests : Loc → M Bool) (elt : Loc → M V) : Nat → Nat → Loc → M (List V)
  | 0, _, _ => M.bad
  | k + 1, i, loc => do
    match ← s.get i with
    | none => pure []
    | some v => do
      let loc' ← bindT v loc
      if ← tests loc' then do
        let x ← elt loc'
        let r ← compLoop s bindT tests elt k (i + 1) loc'
        pure (x :: r)
      else compLoop s bindT tests elt k (i + 1) loc'

def bindNames (st : Str → V → Loc → M Loc) : List Expr → List V → Loc → M Loc
  | [], [], loc => pure loc
  | .Name x _ :: ts, v :: vs, loc => do
    let loc' ← st x v loc
    bindNames st ts vs loc'
  | _, _, _ => M.bad

/-- a target of names -/
def bindTo (st : Str → V → Loc → M Loc) : Expr → V → Loc → M Loc
  | .Name x _, v, loc => st x v loc
  | .Tuple ts _ _, .tup l, loc => bindNames st ts l loc
  | _, _, _ => M.bad

/-- a name's value -/
def ldName (C : Cfg) (ns : Names) (x : Str) (loc : Loc) : M V := match slot ns x with
  | some (i, .local) => ldLoc loc i
  | some (i, .cell) => ldLoc loc i
  | some (_, .globalImplicit) => ofOpt (C.glob x)
  | _ => M.bad

/-- a call without arguments (super() is one) -/
def isSuper : Expr → Bool
  | .Call (.Name _ _) [] [] _ => true
  | _ => false

/-- a call of a global name, its arguments at hand -/
def callGlob (C : Cfg) (f : Str) (vs : List V) : M V := if C.isFn f then C.call f vs else blt f vs

def rangeOf : V → M Src
  | .int n => if -1000000 ≤ n ∧ n ≤ 1000000 then pure (.vals (rangeV 0 n)) else M.bad
  | _ => M.bad
def enumOf : V → M Src
  | .ref n => do let _ ← getList n; pure (.enum n)
  | _ => M.bad

/-- targets that a walk can serve -/
def tgtOk : Src → Expr → Bool
  | .enum _, .Tuple .. => true
  | .enum _, _ => false
  | _, _ => true
/-- a block that a comprehension may have -/
def compOk (k : ScopeKind) (names : Names) : Bool := (match k with | .function => true | _ => false) &&
  names.all fun p => match p.2 with
    | .local => (match names.lookup p.1 with | some .local => true | _ => false)
    | _ => true
/-- a tuple display -/
def isTupE : Expr → Bool
  | .Tuple .. => true
  | _ => false

/-- a call that makes something to walk -/
def srcTag (C : Cfg) (ns : Names) (f : Str) : Nat := if isGlob ns f && !C.isFn f then (if f = ("range" : Str) then 1 else if f = ("enumerate" : Str) then 2 else 0) else 0

mutual
def ev (C : Cfg) : Expr → Names → Loc → M V
  | .Constant c _ _, _, _ => constV c
  | .Name x _, ns, loc => if x = ("__debug__" : Str) then M.bad else ldName C ns x loc
  | .BinOp l op r _, ns, loc => do
    let a ← ev C l ns loc
    let b ← ev C r ns loc
    binop op a b
  | .UnaryOp .Not x _, ns, loc => do
    let a ← ev C x ns loc
    let t ← truth a
    pure (.bool (!t))
  | .UnaryOp .USub (.Constant (.int i) _ _) _, _, _ => pure (.int (-i))
  | .BoolOp op vs _, ns, loc => evBool C vs op ns loc
  | .Compare l [op] [r] _, ns, loc => do
    let a ← ev C l ns loc
    let b ← ev C r ns loc
    cmp op a b
  | .IfExp t a b _, ns, loc => do
    if ← tst C t ns loc (ev C t ns loc) then ev C a ns loc else ev C b ns loc
  | .Subscript o (.Slice lo hi none _) _, ns, loc => do
    let a ← ev C o ns loc
    let l ← evOpt C lo ns loc
    let h ← evOpt C hi ns loc
    let l' ← bound l
    let h' ← bound h
    sliceV l' h' a
  | .Subscript o i _, ns, loc => do
    let a ← ev C o ns loc
    let b ← ev C i ns loc
    item a b
  | .List es _, ns, loc => do
    let vs ← evs C es ns loc
    if vs.length ≤ sizeLine then newO (.list vs) else M.bad
  | .Tuple es _ _, ns, loc => do
    let vs ← evs C es ns loc
    if vs.length ≤ sizeLine then pure (.tup vs) else M.bad
  | .Call (.Name f _) as [] _, ns, loc =>
    if isGlob ns f then
      (if f = ("isinstance" : Str) then evIsi C as ns loc
      else do
        let vs ← evs C as ns loc
        callGlob C f vs)
    else M.bad
  | .Call (.Attribute o m ap) as [] p, ns, loc =>
    if ap.endLine = p.line ∧ as.length < 30 ∧ isSuper o = false then do
      let v ← ev C o ns loc
      let tg ← askS (mtag v m)
      let vs ← evs C as ns loc
      runM tg v vs
    else M.bad
  | .ListComp elt [⟨target, iter, ifs, 0⟩] scope _, ns, loc => do
    let s ← src C iter ns loc (ev C iter ns loc)
    if tgtOk s target && compOk scope.kind scope.names then do
      let n ← s.count
      let loc' ← innerLoc ns loc scope.names
      let l ← compLoop s (bindTo (stLocL (relab ns scope.names)) target) (tests C ifs (relab ns scope.names)) (ev C elt (relab ns scope.names)) (n + 1) 0 loc'
      if l.length ≤ sizeLine then newO (.list l) else M.bad
    else M.bad
  | _, _, _ => M.bad

def evOpt (C : Cfg) : Option Expr → Names → Loc → M V
  | none, _, _ => pure .none
  | some e, ns, loc => ev C e ns loc

def evs (C : Cfg) : List Expr → Names → Loc → M (List V)
  | [], _, _ => pure []
  | e :: r, ns, loc => do
    let v ← ev C e ns loc
    let vs ← evs C r ns loc
    pure (v :: vs)

def evIsi (C : Cfg) : List Expr → Names → Loc → M V
  | [a, .Name t _], ns, loc => if isGlob ns t then do
      let v ← ev C a ns loc
      let k ← ofOpt (kdOf t)
      isKd k v
    else M.bad
  | _, _, _ => M.bad

def evBool (C : Cfg) : List Expr → BoolOp → Names → Loc → M V
  | [], _, _, _ => M.bad
  | e :: r, op, ns, loc => do
    let v ← ev C e ns loc
    match r with
    | [] => pure v
    | _ :: _ => do
      let t ← truth v
      match op, t with
      | .And, false => pure v
      | .Or, true => pure v
      | _, _ => evBool C r op ns loc

def tst (C : Cfg) : Expr → Names → Loc → M V → M Bool
  | .UnaryOp .Not x _, ns, loc, _ => do
    let b ← tst C x ns loc (ev C x ns loc)
    pure (!b)
  | .BoolOp op vs _, ns, loc, _ => tstAll C vs op ns loc
  | .IfExp t a b _, ns, loc, _ => do
    if ← tst C t ns loc (ev C t ns loc) then tst C a ns loc (ev C a ns loc) else tst C b ns loc (ev C b ns loc)
  | _, _, _, whole => do
    let v ← whole
    truth v

def tstAll (C : Cfg) : List Expr → BoolOp → Names → Loc → M Bool
  | [], op, _, _ => pure (op == .And)
  | e :: r, op, ns, loc => do
    let b ← tst C e ns loc (ev C e ns loc)
    match op, b with
    | .And, false => pure false
    | .Or, true => pure true
    | _, _ => tstAll C r op ns loc

def tests (C : Cfg) : List Expr → Names → Loc → M Bool
  | [], _, _ => pure true
  | e :: r, ns, loc => match r with
    | [] => tst C e ns loc (ev C e ns loc)
    | _ :: _ => M.bad

def src (C : Cfg) : Expr → Names → Loc → M V → M Src
  | .Call (.Name f _) as [] _, ns, loc, whole =>
    (match as with
    | [a] => if srcTag C ns f = 1 then (do
        let v ← ev C a ns loc
        rangeOf v)
      else if srcTag C ns f = 2 then (do
        let v ← ev C a ns loc
        enumOf v)
      else (do
        let v ← whole
        srcV v)
    | _ => do
      let v ← whole
      srcV v)
  | _, _, _, whole => do
    let v ← whole
    srcV v
end

/-! ### statements -/
def andThen (r : Fl × Loc) (k : Loc → M (Fl × Loc)) : M (Fl × Loc) := match r.1 with
  | .next => k r.2
  | f => pure (f, r.2)

def forLoop (s : Src) (bindT : V → Loc → M Loc) (body : Loc → M (Fl × Loc)) : Nat → Nat → Loc → M (Fl × Loc)
  | 0, _, _ => M.bad
  | k + 1, i, loc => do
    match ← s.get i with
    | none => pure (.next, loc)
    | some v => do
      let loc' ← bindT v loc
      let r ← body loc'
      match r.1 with
      | .next => forLoop s bindT body k (i + 1) r.2
      | .cont => forLoop s bindT body k (i + 1) r.2
      | .brk => pure (.next, r.2)
      | .ret v => pure (.ret v, r.2)

mutual
def ex (C : Cfg) : Stmt → Names → Loc → M (Fl × Loc)
  | .Expr (.Call f as [] p) _, ns, loc => do
    let _ ← ev C (.Call f as [] p) ns loc
    pure (.next, loc)
  | .Pass _, _, loc => pure (.next, loc)
  | .Return none _, _, loc => pure (.ret .none, loc)
  | .Return (some e) _, ns, loc => do
    let v ← ev C e ns loc
    pure (.ret v, loc)
  | .Assign [.Name x _] value _, ns, loc => do
    let v ← ev C value ns loc
    let loc' ← stLoc ns x v loc
    pure (.next, loc')
  | .Assign [.Subscript o i _] value _, ns, loc => do
    let v ← ev C value ns loc
    let a ← ev C o ns loc
    let b ← ev C i ns loc
    setItem a b v
    pure (.next, loc)
  | .Assign [.Tuple ts k q] value _, ns, loc => do
    if isTupE value then M.bad
    else do
      let v ← ev C value ns loc
      let loc' ← bindTo (stLoc ns) (.Tuple ts k q) v loc
      pure (.next, loc')
  | .If t a b _, ns, loc => do
    if ← tst C t ns loc (ev C t ns loc) then exs C a ns loc else exs C b ns loc
  | .For target iter body [] _, ns, loc => do
    let s ← src C iter ns loc (ev C iter ns loc)
    if tgtOk s target then do
      let n ← s.count
      forLoop s (bindTo (stLoc ns) target) (exs C body ns) (n + 1) 0 loc
    else M.bad
  | _, _, _ => M.bad

def exs (C : Cfg) : List Stmt → Names → Loc → M (Fl × Loc)
  | [], _, loc => pure (.next, loc)
  | s :: r, ns, loc => do
    let x ← ex C s ns loc
    andThen x (exs C r ns)
end

/-! ### functions -/
structure Fn where
  params : List Str
  names : Names
  body : List Stmt

def initLoc (params : List Str) (args : List V) : Names → Loc
  | [] => []
  | (x, _) :: r => ((params.zip args).lookup x) :: initLoc params args r

def callFn (C : Cfg) (f : Fn) (args : List V) : M V :=
  if args.length = f.params.length then do
    let r ← exs C f.body f.names (initLoc f.params args f.names)
    pure (match r.1 with | .ret v => v | _ => .none)
  else M.bad

/-- calls of at most so many deep -/
def callN (fns : Str → Option Fn) (glob : Str → Option V) : Nat → Str → List V → M V
  | 0, _, _ => M.bad
  | n + 1, f, args => match fns f with
    | some fn => callFn ⟨fun x => (fns x).isSome, callN fns glob n, glob⟩ fn args
    | none => M.bad

/-- the defs of a text -/
def fnsOf : List Stmt → Str → Option Fn
  | [], _ => none
  | .FunctionDef name args body _ _ _ scope _ _ _ :: r, x => match x == name with
    | true => some ⟨args.args.map (·.arg), scope.names, body⟩
    | false => fnsOf r x
  | _ :: r, x => fnsOf r x

end Mine

namespace Mine
open PySem PyProof.Rows

/-! ## slots and names -/
theorem slotGo_lookup {x : Str} : ∀ {ns : Names} {i j : Nat} {k : NameKind}, slotGo ns x i = some (j, k) → ns.lookup x = some k
  | [], _, _, _, h => by cases h
  | (y, k') :: r, i, j, k, h => by
    unfold slotGo at h
    rw [List.lookup_cons]
    split at h
    · rename_i he; rw [he]; cases h; rfl
    · rename_i he; rw [he]; exact slotGo_lookup h
theorem slot_lookup {x : Str} {ns : Names} {j : Nat} {k : NameKind} (h : slot ns x = some (j, k)) : ns.lookup x = some k := slotGo_lookup h

theorem slotGo_ge {x : Str} : ∀ {ns : Names} {i j : Nat} {k : NameKind}, slotGo ns x i = some (j, k) → i ≤ j
  | [], _, _, _, h => by cases h
  | (y, k') :: r, i, j, k, h => by
    unfold slotGo at h
    split at h
    · cases h; exact Nat.le_refl _
    · exact Nat.le_of_succ_le (slotGo_ge h)
theorem slotGo_inj {x y : Str} : ∀ {ns : Names} {i j : Nat} {k k' : NameKind}, slotGo ns x i = some (j, k) → slotGo ns y i = some (j, k') → x = y
  | [], _, _, _, _, h, _ => by cases h
  | (z, k₀) :: r, i, j, k, k', h, h' => by
    unfold slotGo at h h'
    split at h <;> split at h'
    · rename_i e1 _ e2; exact (beq_iff_eq.mp e1).trans (beq_iff_eq.mp e2).symm
    · cases h; exact absurd (slotGo_ge h') (Nat.not_succ_le_self _)
    · cases h'; exact absurd (slotGo_ge h) (Nat.not_succ_le_self _)
    · exact slotGo_inj h h'
theorem slot_inj {x y : Str} {ns : Names} {j : Nat} {k k' : NameKind} (h : slot ns x = some (j, k)) (h' : slot ns y = some (j, k')) : x = y := slotGo_inj h h'

/-! ## frames -/
def offMap (ρ : Map) (b : Addr) : Prop := ∀ p ∈ ρ, b ≠ p.1 ∧ b ≠ p.2

structure Frm (env : Env) (ns : Names) (loc : Loc) (ρ : Map) (h : Heap) : Prop where
  names : env.scope.names = ns
  kind : env.scope.kind = .function
  globals : env.globals = mainGlobals
  blts : env.builtins = builtinsNs
  vars : ∃ m, h.Ns env.locals m ∧ ∀ x i v, slot ns x = some (i, .local) → loc[i]? = some (some v) → ∃ val, m x = some val ∧ Rel ρ h val v
  cell : ∀ x i, slot ns x = some (i, .cell) → ∃ c o, env.cells.lookup x = some c ∧ h.IsCell c o ∧ ∀ v, loc[i]? = some (some v) → ∃ val, o = some val ∧ Rel ρ h val v
  live : ∀ x c, env.cells.lookup x = some c → ∃ o, h.IsCell c o
  offL : offMap ρ env.locals
  offC : ∀ x c, env.cells.lookup x = some c → c ≠ env.locals ∧ offMap ρ c
  apart : ∀ x y c, env.cells.lookup x = some c → env.cells.lookup y = some c → x = y

/-- what a frame may change -/
def frameW (env : Env) : List Addr := env.locals :: env.scope.names.filterMap fun p => env.cells.lookup p.1
/-- an address that a frame does not use -/
def offFrame (env : Env) (b : Addr) : Prop := b ≠ env.locals ∧ ∀ y c, env.cells.lookup y = some c → b ≠ c

section
variable {W : List Addr} {ρ ρ' : Map} {h h' : Heap} {env : Env} {ns : Names} {loc : Loc}

theorem offMap.ext (x : Ext W ρ h ρ' h') {b : Addr} {o : Obj} (hb : h.get? b = some o) (off : offMap ρ b) : offMap ρ' b := fun p hp => by
  obtain ⟨i, hi⟩ := List.getElem?_of_mem hp
  rcases Nat.lt_or_ge i ρ.length with hl | hl
  · have h1 := x.pre i _ (List.getElem?_eq_getElem hl)
    rw [hi] at h1; cases h1
    exact off _ (List.getElem_mem hl)
  · obtain ⟨n1, n2⟩ := x.new i p hi hl
    exact ⟨fun eq => (by rw [← eq, hb] at n1; cases n1), fun eq => (by rw [← eq, hb] at n2; cases n2)⟩

theorem mem_of_lookup {α : Type} : ∀ {l : List (Str × α)} {n : Str} {c : α}, l.lookup n = some c → (n, c) ∈ l
  | [], _, _, h => by cases h
  | (k, v) :: r, n, c, h => by
    rw [List.lookup_cons] at h
    split at h
    · rename_i e
      cases h; rw [beq_iff_eq.mp e]; exact List.mem_cons_self ..
    · exact List.mem_cons_of_mem _ (mem_of_lookup h)

theorem frameW_cell {x : Str} {k : NameKind} {c : Addr} (hm : (x, k) ∈ env.scope.names) (hc : env.cells.lookup x = some c) : c ∈ frameW env := List.mem_cons_of_mem _ (List.mem_filterMap.mpr ⟨(x, k), hm, hc⟩)
theorem offFrame.notin {b : Addr} (h : offFrame env b) : b ∉ frameW env := fun hm => by
  rcases List.mem_cons.mp hm with rfl | hm
  · exact h.1 rfl
  · obtain ⟨⟨x, k⟩, _, hc⟩ := List.mem_filterMap.mp hm
    exact h.2 x b hc rfl
theorem Frm.alive (F : Frm env ns loc ρ h) {b : Addr} (hm : b ∈ frameW env) : ∃ o, h.get? b = some o := by
  rcases List.mem_cons.mp hm with rfl | hm
  · obtain ⟨m, ⟨o, es, ep, ho, r⟩, hv⟩ := F.vars
    exact ⟨o, ho⟩
  · obtain ⟨⟨x, k⟩, _, hc⟩ := List.mem_filterMap.mp hm
    obtain ⟨_, o, ho, _⟩ := F.live x b hc
    exact ⟨o, ho⟩
theorem Frm.offDead (F : Frm env ns loc ρ h) {b : Addr} (hd : h.get? b = none) : offFrame env b := by
  refine ⟨fun e => ?_, fun y c hc e => ?_⟩
  · obtain ⟨m, ⟨o, es, ep, ho, r⟩, hv⟩ := F.vars
    rw [← e, hd] at ho; cases ho
  · obtain ⟨_, o, ho, _⟩ := F.live y c hc
    rw [← e, hd] at ho; cases ho

theorem Frm.ext (F : Frm env ns loc ρ h) (x : Ext W ρ h ρ' h') (hW : ∀ b ∈ W, offFrame env b) : Frm env ns loc ρ' h' where
  names := F.names
  kind := F.kind
  globals := F.globals
  blts := F.blts
  vars := by
    obtain ⟨m, hn, hv⟩ := F.vars
    obtain ⟨o, es, ep, ho, r⟩ := hn
    refine ⟨m, ⟨o, es, ep, x.keep _ _ ho (fun hm => (hW _ hm).1 rfl) F.offL, r⟩, fun y i v h1 h2 => ?_⟩
    obtain ⟨val, e, hr⟩ := hv y i v h1 h2
    exact ⟨val, e, hr.ext x⟩
  cell := fun y i h1 => by
    obtain ⟨c, o, e, ⟨ob, hob, hd⟩, hv⟩ := F.cell y i h1
    refine ⟨c, o, e, ⟨ob, x.keep _ _ hob (fun hm => (hW _ hm).2 y c e rfl) (F.offC y c e).2, hd⟩, fun v hl => ?_⟩
    obtain ⟨val, e', hr⟩ := hv v hl
    exact ⟨val, e', hr.ext x⟩
  live := fun y c e => by
    obtain ⟨o, ob, hob, hd⟩ := F.live y c e
    exact ⟨o, ob, x.keep _ _ hob (fun hm => (hW _ hm).2 y c e rfl) (F.offC y c e).2, hd⟩
  offL := by
    obtain ⟨m, ⟨o, es, ep, ho, r⟩, hv⟩ := F.vars
    exact offMap.ext x ho F.offL
  offC := fun y c e => by
    obtain ⟨_, o, ho, _⟩ := F.live y c e
    exact ⟨(F.offC y c e).1, offMap.ext x ho (F.offC y c e).2⟩
  apart := F.apart
end

/-! ## room -/
structure Rm (A : Around) (n : Nat) : Prop where
  handled : A.handled = none
  depth : A.depth + n < recursionLimit
  units : A.units + 8 * n + 300 < cLine

end Mine

namespace Mine
open PySem PyProof.Rows

section
variable {W : List Addr} {ρ ρ' : Map} {h h' h₀ : Heap} {σ : Store}

theorem ORel.sub {p : Addr × Addr} {o : O} (r : ORel ρ h p o) (x : Sub ρ h ρ' h') (h1 : ∀ ob, h.get? p.1 = some ob → h'.get? p.1 = some ob) (_h2 : ∀ ob, h.get? p.2 = some ob → h'.get? p.2 = some ob) : ORel ρ' h' p o := by
  cases o with
  | list l =>
    obtain ⟨e, vs, n, g, hl, ra⟩ := r
    exact ⟨e, vs, n, h1 _ g, hl, ra.sub x⟩
  | dict _ => exact r.elim
  | inst _ _ => exact r.elim
theorem ORel.ext {p : Addr × Addr} {o : O} (r : ORel ρ h p o) (x : Ext W ρ h ρ' h') (h1 : ∀ ob, h.get? p.1 = some ob → h'.get? p.1 = some ob) (h2 : ∀ ob, h.get? p.2 = some ob → h'.get? p.2 = some ob) : ORel ρ' h' p o := r.sub x.sub h1 h2

theorem ORel.live {p : Addr × Addr} {o : O} (r : ORel ρ h p o) : (∃ ob, h.get? p.1 = some ob) ∧ ∃ ob, h.get? p.2 = some ob := by
  cases o with
  | list l =>
    obtain ⟨e, vs, n, g, hl, ra⟩ := r
    exact ⟨⟨_, g⟩, ⟨_, by rw [e]; exact g⟩⟩
  | dict _ => exact r.elim
  | inst _ _ => exact r.elim

theorem Inv.lt (i : Inv h₀ σ ρ h) {n : Nat} {p : Addr × Addr} (e : ρ[n]? = some p) : ∃ o, σ[n]? = some o := by
  have hl : n < ρ.length := by
    rcases Nat.lt_or_ge n ρ.length with hl | hl
    · exact hl
    · rw [List.getElem?_eq_none hl] at e; cases e
  exact ⟨_, List.getElem?_eq_getElem (i.len ▸ hl)⟩
theorem Inv.gt (i : Inv h₀ σ ρ h) {n : Nat} {o : O} (e : σ[n]? = some o) : ∃ p, ρ[n]? = some p := by
  have hl : n < σ.length := by
    rcases Nat.lt_or_ge n σ.length with hl | hl
    · exact hl
    · rw [List.getElem?_eq_none hl] at e; cases e
  exact ⟨_, List.getElem?_eq_getElem (i.len.symm ▸ hl)⟩

theorem Inv.alive (i : Inv h₀ σ ρ h) {p : Addr × Addr} (hp : p ∈ ρ) : (∃ ob, h.get? p.1 = some ob) ∧ ∃ ob, h.get? p.2 = some ob := by
  obtain ⟨n, hn⟩ := List.getElem?_of_mem hp
  obtain ⟨o, ho⟩ := i.lt hn
  exact (i.objs n o p ho hn).live

/-- the heap is changed at a frame alone -/
theorem Inv.keep (i : Inv h₀ σ ρ h) (x : Ext W ρ h ρ h') (hW : ∀ b ∈ W, offMap ρ b ∧ h₀.get? b = none) (hk : ∀ b o, h.get? b = some o → b ∉ W → h'.get? b = some o) : Inv h₀ σ ρ h' where
  base := fun b o e => hk b o (i.base b o e) fun hm => by rw [(hW b hm).2] at e; cases e
  len := i.len
  objs := fun n o p e1 e2 => (i.objs n o p e1 e2).ext x (fun ob g => hk _ _ g fun hm => ((hW _ hm).1 p (List.mem_of_getElem? e2)).1 rfl) (fun ob g => hk _ _ g fun hm => ((hW _ hm).1 p (List.mem_of_getElem? e2)).2 rfl)
  fresh := i.fresh
  apart := i.apart

theorem Inv.keeps (i : Inv h₀ σ ρ h) (hk : ∀ b o, h.get? b = some o → h'.get? b = some o) : Inv h₀ σ ρ h' :=
  i.keep (W := []) (Ext.of_keeps hk) (fun _ hm => nomatch hm) fun b o e _ => hk b o e

theorem Inv.push (i : Inv h₀ σ ρ h) (o : Obj) : Inv h₀ σ ρ (h.push o) := i.keeps fun _ _ e => Heap.get?_push_of_some o e

theorem fresh_none : h.get? h.objs.size = none := by
  cases e : h.get? h.objs.size with
  | none => rfl
  | some o => exact absurd (Heap.lt_size e) (Nat.lt_irrefl _)

theorem Inv.off_size (i : Inv h₀ σ ρ h) : offMap ρ h.objs.size := fun p hp => by
  obtain ⟨⟨o1, e1⟩, ⟨o2, e2⟩⟩ := i.alive hp
  exact ⟨fun e => absurd (Heap.lt_size e1) (e ▸ Nat.lt_irrefl _), fun e => absurd (Heap.lt_size e2) (e ▸ Nat.lt_irrefl _)⟩

/-- a new object for the store -/
theorem Inv.new (i : Inv h₀ σ ρ h) {a : Addr} {o : O} (hk : ∀ b o, h.get? b = some o → h'.get? b = some o) (ha : h.get? a = none) (ho : ORel (ρ ++ [(a, a)]) h' (a, a) o) :
    Inv h₀ (σ ++ [o]) (ρ ++ [(a, a)]) h' ∧ Ext W ρ h (ρ ++ [(a, a)]) h' := by
  have hx : Ext W ρ h (ρ ++ [(a, a)]) h' :=
    { pre := fun n p e => by
        rw [List.getElem?_append_left (by rcases Nat.lt_or_ge n ρ.length with hl | hl; exact hl; rw [List.getElem?_eq_none hl] at e; cases e)]; exact e
      keep := fun b o e _ _ => hk b o e
      tups := fun b _ _ e => hk b _ e
      alive := fun b o e => ⟨o, hk b o e⟩
      new := fun j p e hj => by
        rw [List.getElem?_append_right hj] at e
        rcases Nat.eq_zero_or_pos (j - ρ.length) with hz | hz
        · rw [hz] at e; cases e; exact ⟨ha, ha⟩
        · rw [List.getElem?_eq_none (by simp; exact hz)] at e; cases e }
  have hoff : ∀ p ∈ ρ, a ≠ p.1 ∧ a ≠ p.2 := fun p hp => by
    obtain ⟨⟨o1, e1⟩, ⟨o2, e2⟩⟩ := i.alive hp
    exact ⟨fun e => (by rw [← e, ha] at e1; cases e1), fun e => (by rw [← e, ha] at e2; cases e2)⟩
  have hcase : ∀ (n : Nat) (p : Addr × Addr), (ρ ++ [(a, a)])[n]? = some p → ρ[n]? = some p ∨ (n = ρ.length ∧ p = (a, a)) := fun n p e => by
    rcases Nat.lt_or_ge n ρ.length with hl | hl
    · rw [List.getElem?_append_left hl] at e; exact .inl e
    · rw [List.getElem?_append_right hl] at e
      rcases Nat.eq_zero_or_pos (n - ρ.length) with hz | hz
      · rw [hz] at e; cases e; exact .inr ⟨Nat.le_antisymm (Nat.le_of_sub_eq_zero hz) hl, rfl⟩
      · rw [List.getElem?_eq_none (by simp; exact hz)] at e; cases e
  refine ⟨⟨fun b o e => hk b o (i.base b o e), by simp [i.len], fun n o' p e1 e2 => ?_, fun n p hp hn => ?_, fun j k p q e1 e2 hjk => ?_⟩, hx⟩
  · rcases hcase n p e2 with e2 | ⟨rfl, rfl⟩
    · have hl : n < σ.length := by
        rcases Nat.lt_or_ge n ρ.length with hl | hl
        · rw [← i.len]; exact hl
        · rw [List.getElem?_eq_none hl] at e2; cases e2
      rw [List.getElem?_append_left hl] at e1
      exact (i.objs n o' p e1 e2).ext hx (fun ob g => hk _ _ g) (fun ob g => hk _ _ g)
    · rw [i.len, List.getElem?_append_right (Nat.le_refl _), Nat.sub_self] at e1
      cases e1; exact ho
  · rcases hcase n p hp with hp | ⟨_, rfl⟩
    · exact i.fresh n p hp hn
    · show h₀.get? a = none ∧ h₀.get? a = none
      have : h₀.get? a = none := by
        cases e : h₀.get? a with
        | none => rfl
        | some o => rw [i.base _ _ e] at ha; cases ha
      exact ⟨this, this⟩
  · rcases hcase j p e1 with e1 | ⟨rfl, rfl⟩ <;> rcases hcase k q e2 with e2 | ⟨rfl, rfl⟩
    · exact i.apart j k p q e1 e2 hjk
    · have := hoff p (List.mem_of_getElem? e1)
      exact ⟨this.1.symm, this.1.symm, this.2.symm, this.2.symm⟩
    · have := hoff q (List.mem_of_getElem? e2)
      exact ⟨this.1, this.2, this.1, this.2⟩
    · exact absurd rfl hjk

/-- an object of the store is changed -/
theorem Inv.set (i : Inv h₀ σ ρ h) {n : Nat} {a : Addr} {o : O} (hpos : 0 < n) (hn : ρ[n]? = some (a, a)) (hk : ∀ b ob, b ≠ a → h.get? b = some ob → h'.get? b = some ob) (hlive : ∃ ob, h'.get? a = some ob)
    (hnt : ∀ vs k, h.get? a ≠ some (tupO vs k)) (ho : Ext W ρ h ρ h' → ORel ρ h' (a, a) o) : Inv h₀ (σ.set n o) ρ h' ∧ Ext W ρ h ρ h' := by
  have hx : Ext W ρ h ρ h' :=
    { pre := fun _ _ e => e
      keep := fun b ob e _ hb => hk b ob (fun eq => (hb _ (List.mem_of_getElem? hn)).1 eq) e
      tups := fun b vs k e => hk b _ (fun eq => hnt vs k (eq ▸ e)) e
      alive := fun b ob e => by
        by_cases hb : b = a
        · rw [hb]; exact hlive
        · exact ⟨ob, hk b ob hb e⟩
      new := fun j p e hj => by rw [List.getElem?_eq_none hj] at e; cases e }
  refine ⟨⟨fun b ob e => hk b ob (fun eq => ?_) (i.base b ob e), by simp [i.len], fun m o' p e1 e2 => ?_, i.fresh, i.apart⟩, hx⟩
  · have := (i.fresh _ _ hn hpos).1
    rw [eq] at e
    rw [e] at this; cases this
  · by_cases hm : m = n
    · subst hm
      rw [hn] at e2; cases e2
      obtain ⟨o₁, ho₁⟩ := i.lt hn
      have hl : m < σ.length := by
        rcases Nat.lt_or_ge m σ.length with hl | hl
        · exact hl
        · rw [List.getElem?_eq_none hl] at ho₁; cases ho₁
      rw [List.getElem?_set_self hl] at e1
      cases e1; exact ho hx
    · rw [List.getElem?_set_ne (Ne.symm hm)] at e1
      have ap := i.apart m n p (a, a) e2 hn hm
      exact (i.objs m o' p e1 e2).ext hx (fun ob g => hk _ _ ap.1 g) (fun ob g => hk _ _ ap.2.2.1 g)
end

/-! ## ends of a simulation -/
def RV : V → Map → Heap → Value → Prop := fun v ρ h b => Rel ρ h b v
def RB : Bool → Map → Heap → Bool → Prop := fun v _ _ b => b = v
def RL : List V → Map → Heap → List Value → Prop := fun l ρ h vs => RelAll ρ h vs l

section
variable {prog : Program} {w : World} {h₀ : Heap} {A : Around} {W : List Addr} {ρ : Map} {s : Shared} {α β : Type} {σ : Store}

/-- the heap stays -/
theorem Sim.same {t : Sem β} {a : α} {R : α → Map → Heap → β → Prop} (i : Inv h₀ σ ρ s.heap)
    (h : ∀ (Q : β → Shared → Prop) (E : Value → Shared → Prop), (∀ b tk, R a ρ s.heap b → Q b { s with toks := tk }) → wpAny (model prog w) A t Q E s) : Sim prog w h₀ A W t (.ok a σ) R ρ s :=
  h _ _ fun b tk r => ⟨ρ, s.heap, tk, rfl, i, Ext.refl, r⟩

/-- the heap grows, the store stays -/
theorem Sim.grown {t : Sem β} {a : α} {R : α → Map → Heap → β → Prop} (i : Inv h₀ σ ρ s.heap)
    (h : ∀ (Q : β → Shared → Prop) (E : Value → Shared → Prop), (∀ b h' tk, (∀ c o, s.heap.get? c = some o → h'.get? c = some o) → R a ρ h' b → Q b { s with heap := h', toks := tk }) → wpAny (model prog w) A t Q E s) :
    Sim prog w h₀ A W t (.ok a σ) R ρ s :=
  h _ _ fun b h' tk hk r => ⟨ρ, h', tk, rfl, i.keeps hk, Ext.of_keeps hk, r⟩

/-- a new tuple -/
theorem Sim.newTuple {vs : List Value} {l : List V} (i : Inv h₀ σ ρ s.heap) (r : RelAll ρ s.heap vs l) (hl : l.length ≤ sizeLine) : Sim prog w h₀ A W (PySem.newTuple vs) (.ok (.tup l) σ) RV ρ s := by
  have hlen := r.length
  have hk : ∀ b o, s.heap.get? b = some o → (s.heap.push (tupO vs 0)).get? b = some o := fun b o e => Heap.get?_push_of_some _ e
  refine Sim.grown i fun Q E hQ => ?_
  refine wpAny_newObj_type (T := "tuple") (hQ _ (s.heap.push (tupO vs 0)) s.toks hk ?_) (by show vs.toArray.size ≤ sizeLine; rw [List.size_toArray]; omega)
  exact Rel.tup (n := 0) (Heap.get?_push_size _ rfl) (by omega) (r.ext (W := []) (Ext.of_keeps hk))

/-- a new list -/
theorem Sim.newList {vs : List Value} {l : List V} (i : Inv h₀ σ ρ s.heap) (r : RelAll ρ s.heap vs l) (hl : l.length ≤ sizeLine) : Sim prog w h₀ A W (PySem.newList vs) (newO (.list l) σ) RV ρ s := by
  have hlen := r.length
  have hk : ∀ b o, s.heap.get? b = some o → (s.heap.push (listO vs 0)).get? b = some o := fun b o e => Heap.get?_push_of_some _ e
  have hN := i.new (W := W) (o := .list l) hk fresh_none ⟨rfl, vs, 0, Heap.get?_push_size _ rfl, by omega, ?_⟩
  · refine wpAny_newObj_type (T := "list") ⟨ρ ++ [(s.heap.objs.size, s.heap.objs.size)], s.heap.push (listO vs 0), s.toks, rfl, hN.1, hN.2, ?_⟩ (by show vs.toArray.size ≤ sizeLine; rw [List.size_toArray]; omega)
    refine Rel.ref (d := s.heap.objs.size) ?_
    rw [← i.len, List.getElem?_append_right (Nat.le_refl _), Nat.sub_self]; rfl
  · exact r.sub ((Sub.keeps hk).trans Sub.snoc)

/-- a list made anew at an address -/
theorem Sim.newListAt {t : Sem Value} {l : List V} (i : Inv h₀ σ ρ s.heap)
    (h : ∀ (Q : Value → Shared → Prop) (E : Value → Shared → Prop), (∀ a vs n h' tk, (∀ c o, s.heap.get? c = some o → h'.get? c = some o) → s.heap.get? a = none → h'.get? a = some (listO vs n) → vs.length ≤ sizeLine →
      RelAll ρ h' vs l → Q (.ref a) { s with heap := h', toks := tk }) → wpAny (model prog w) A t Q E s) : Sim prog w h₀ A W t (newO (.list l) σ) RV ρ s := by
  refine h _ _ fun a vs n h' tk hk ha hg hl r => ?_
  have hN := i.new (W := W) (o := .list l) (h' := h') hk ha ⟨rfl, vs, n, hg, hl, ?_⟩
  · exact ⟨ρ ++ [(a, a)], h', tk, rfl, hN.1, hN.2, Rel.ref (d := a) (by rw [← i.len, List.getElem?_append_right (Nat.le_refl _), Nat.sub_self]; rfl)⟩
  · exact r.sub Sub.snoc
end

end Mine

namespace Mine
open PySem PyProof.Rows

section
variable {prog : Program} {w : World} {h₀ : Heap} {A : Around} {W : List Addr} {ρ : Map} {s : Shared} {σ : Store}

/-- the list of a number -/
theorem Inv.list (i : Inv h₀ σ ρ s.heap) {n : Nat} {l : List V} {a d : Addr} (hσ : σ[n]? = some (.list l)) (hρ : ρ[n]? = some (a, d)) :
    d = a ∧ ∃ vs k, s.heap.get? a = some (listO vs k) ∧ vs.length ≤ sizeLine ∧ RelAll ρ s.heap vs l := i.objs n _ _ hσ hρ

theorem isList_of {h : Heap} {a : Addr} {vs : List Value} {k : Nat} (e : h.get? a = some (listO vs k)) : h.IsList a vs.toArray := ⟨_, e, rfl, k, rfl⟩
theorem isTuple_of {h : Heap} {a : Addr} {vs : List Value} {k : Nat} (e : h.get? a = some (tupO vs k)) : h.IsTuple a vs.toArray := ⟨_, e, rfl, k, rfl⟩
theorem sizeLine_lt : sizeLine < 2 ^ 63 := by decide

theorem getO_ok {n : Nat} {o : O} {σ' : Store} (h : getO n σ = .ok o σ') : σ' = σ ∧ σ[n]? = some o := by
  unfold getO at h
  split at h
  · cases h; exact ⟨rfl, by assumption⟩
  · cases h
theorem getO_exc {n : Nat} {e : V} {σ' : Store} (h : getO n σ = .exc e σ') : False := by
  unfold getO at h
  split at h <;> cases h

theorem bind_ok {α β : Type} {m : M α} {f : α → M β} {a : α} {σ' : Store} (h : m σ = .ok a σ') : (m >>= f) σ = f a σ' := by
  show (match m σ with | .ok a σ' => f a σ' | .exc e σ' => .exc e σ' | .bad => .bad) = _
  rw [h]
theorem bind_bad {α β : Type} {m : M α} {f : α → M β} (h : m σ = .bad) : (m >>= f) σ = .bad := by
  show (match m σ with | .ok a σ' => f a σ' | .exc e σ' => .exc e σ' | .bad => .bad) = _
  rw [h]
theorem bind_exc {α β : Type} {m : M α} {f : α → M β} {e : V} {σ' : Store} (h : m σ = .exc e σ') : (m >>= f) σ = .exc e σ' := by
  show (match m σ with | .ok a σ' => f a σ' | .exc e σ' => .exc e σ' | .bad => .bad) = _
  rw [h]
theorem getO_eq (n : Nat) : getO n σ = (match σ[n]? with | some o => .ok o σ | none => .bad) := rfl
theorem getList_eq (n : Nat) : getList n σ = (match σ[n]? with | some (.list l) => .ok l σ | _ => .bad) := by
  unfold getList
  cases e : σ[n]? with
  | none => rw [bind_bad (by rw [getO_eq, e])]
  | some o =>
    rw [bind_ok (a := o) (σ' := σ) (by rw [getO_eq, e])]
    cases o <;> rfl

/-- the list of a number is read -/
theorem Sim.getList {β γ : Type} {t : Sem β} {n : Nat} {k : List V → M γ} {R : γ → Map → Heap → β → Prop} (h : ∀ l, σ[n]? = some (.list l) → Sim prog w h₀ A W t (k l σ) R ρ s) :
    Sim prog w h₀ A W t ((getList n >>= k) σ) R ρ s := by
  cases e : σ[n]? with
  | none => rw [bind_bad (by rw [getList_eq, e])]; exact trivial
  | some o =>
    cases o with
    | list l => rw [bind_ok (by rw [getList_eq, e])]; exact h l e
    | dict _ => rw [bind_bad (by rw [getList_eq, e])]; exact trivial
    | inst _ _ => rw [bind_bad (by rw [getList_eq, e])]; exact trivial

theorem strOk_append {x y : Str} (hx : PyData.strOk x = true) (hy : PyData.strOk y = true) : PyData.strOk (x ++ y) = true := by
  unfold PyData.strOk at *
  show (x.cps ++ y.cps).all _ = true
  rw [Array.all_append, hx, hy]; rfl

theorem length_append (x y : Str) : (x ++ y).length = x.length + y.length := by
  show (x.cps ++ y.cps).size = _
  exact Array.size_append ..

theorem mulOk_fits {a b : Int} (h : Small a ∨ Small b) : IntMulOk a b :=
  h.elim (fun h => IntMulOk.of_left (intBits_le_64 h.1 h.2)) fun h => IntMulOk.of_right (intBits_le_64 h.1 h.2)
theorem Small.noPylong {a b : Int} (h : Small b) : Builtin.divisionGoesByPylong a b = false := PyProof.noPylong_of_log2 (by
  have h1 : b.natAbs < 2 ^ 64 := by have := h.1; have := h.2; omega
  by_cases hz : b.natAbs = 0
  · rw [hz]; decide
  · exact (Nat.log2_lt hz).mpr (Nat.lt_of_lt_of_le h1 (Nat.pow_le_pow_right (by decide) (by decide))))

theorem Sim.ite {α β : Type} {t : Sem β} {c : Prop} [Decidable c] {m : M α} {R : α → Map → Heap → β → Prop} (h : c → Sim prog w h₀ A W t (m σ) R ρ s) : Sim prog w h₀ A W t ((if c then m else M.bad) σ) R ρ s := by
  by_cases hc : c
  · rw [if_pos hc]; exact h hc
  · rw [if_neg hc]; exact trivial

theorem Sim.binop {op : Operator} {a b : Value} {x y : V} (i : Inv h₀ σ ρ s.heap) (ra : Rel ρ s.heap a x) (rb : Rel ρ s.heap b y) :
    Sim prog w h₀ A W (binaryOp op a b) (binop op x y σ) RV ρ s := by
  unfold Mine.binop
  split
  · cases ra; cases rb; exact Sim.same i fun Q E hQ => add_int (hQ _ _ (.int _ _))
  · cases ra; cases rb; exact Sim.same i fun Q E hQ => sub_int (hQ _ _ (.int _ _))
  · cases ra; cases rb
    exact Sim.ite fun hc => Sim.same i fun Q E hQ => PyProof.Rows.mul_int (hQ _ _ (.int _ _)) (mulOk_fits hc)
  · cases ra; cases rb
    exact Sim.ite fun hc => Sim.same i fun Q E hQ => floordiv_int hc.1 (hQ _ _ (.int _ _)) (.inl hc.2.noPylong)
  · cases ra; cases rb
    exact Sim.ite fun hc => Sim.same i fun Q E hQ => mod_int hc.1 (hQ _ _ (.int _ _))
  · cases ra; cases rb
    refine Sim.ite fun hc => Sim.same i fun Q E hQ => pow_int_small hc.1 (by omega) ?_ (hQ _ _ (.int _ _))
    exact Nat.lt_of_lt_of_le hc.2.2 (by decide)
  · cases ra with
    | str _ _ hx =>
    cases rb with
    | str _ _ hy =>
    refine Sim.ite fun hc => Sim.same i fun Q E hQ => add_str (fun t' tk => hQ _ _ (.str _ _ ⟨by rw [length_append]; exact hc, strOk_append hx.2 hy.2⟩)) hc
  · cases ra with
    | tup ga la r1 =>
    cases rb with
    | tup gb lb r2 =>
    rename_i l m ad vs n bd ws k
    refine Sim.ite fun hc => ?_
    have h1 := r1.length
    have h2 := r2.length
    by_cases hv : vs = []
    · subst hv
      cases r1
      refine Sim.same i fun Q E hQ => ?_
      exact concat_meets ⟨_, ga, rfl⟩ ⟨_, gb, rfl⟩ noFill_tuple_add seq_tuple_add PySem.F.slot_tuple_add PySem.F.entry_tuple_add (PySem.F.args_tuple_add_2 _ _)
        (tuple_addW0 ad bd ([] : List Value).toArray ws.toArray n k none none #[] #[] rfl) ⟨ga, gb, hQ _ _ (.tup gb lb r2)⟩
    · by_cases hw : ws = []
      · subst hw
        cases r2
        refine Sim.same i fun Q E hQ => ?_
        rw [List.append_nil] at hQ
        exact concat_meets ⟨_, ga, rfl⟩ ⟨_, gb, rfl⟩ noFill_tuple_add seq_tuple_add PySem.F.slot_tuple_add PySem.F.entry_tuple_add (PySem.F.args_tuple_add_2 _ _)
          (tuple_addW1 ad bd vs.toArray ([] : List Value).toArray n k none none #[] #[] (by simpa using hv) rfl) ⟨ga, gb, hQ _ _ (.tup ga la r1)⟩
      · have hk : ∀ b o, s.heap.get? b = some o → (s.heap.push (tupO (vs ++ ws) 0)).get? b = some o := fun b o e => Heap.get?_push_of_some _ e
        refine Sim.grown i fun Q E hQ => P.add_tuple (n := n) (n2 := k) ga gb (by simpa using hv) (by simpa using hw) ?_ (by simp; omega)
        have := hQ (.ref s.heap.objs.size) (s.heap.push (tupO (vs ++ ws) 0)) s.toks hk (.tup (n := 0) (Heap.get?_push_size _ rfl) (by simp; omega) ((r1.append r2).sub (Sub.keeps hk)))
        simpa [tupO] using this
  · cases ra with
    | ref ea =>
    cases rb with
    | ref eb =>
    refine Sim.getList fun l hl => Sim.getList fun m hm => Sim.ite fun hc => ?_
    obtain ⟨_, vs, k, ga, la, r1⟩ := i.list hl ea
    obtain ⟨_, ws, k', gb, lb, r2⟩ := i.list hm eb
    have h1 := r1.length
    have h2 := r2.length
    refine Sim.newListAt i fun Q E hQ => P.add_list (n := k) (n2 := k') ga gb ?_ (by simp; omega)
    have hk : ∀ b o, s.heap.get? b = some o → (s.heap.push (listO (vs ++ ws) 0)).get? b = some o := fun b o e => Heap.get?_push_of_some _ e
    have := hQ s.heap.objs.size (vs ++ ws) 0 (s.heap.push (listO (vs ++ ws) 0)) s.toks hk fresh_none (Heap.get?_push_size _ rfl) (by simp; omega) ((r1.append r2).sub (Sub.keeps hk))
    simpa [listO] using this
  · exact trivial
end

end Mine

namespace Mine
open PySem PyProof.Rows

/-! ## plain data -/
section
variable {h₀ : Heap} {ρ : Map} {h : Heap} {σ : Store}
mutual
theorem toPyT_reads {f : Nat → Option PyData} (hf : ∀ n d a b, f n = some d → ρ[n]? = some (a, b) → ∃ as, Reads h (.ref a) d as ∧ d.canLay0 = true) :
    ∀ {v : Value} {x : V} {d : PyData}, Rel ρ h v x → toPyT f x = some d → ∃ as, Reads h v d as ∧ d.canLay0 = true
  | _, _, _, .none, e => by cases e; exact ⟨_, .none, rfl⟩
  | _, _, _, .bool b, e => by cases e; exact ⟨_, .bool b, rfl⟩
  | _, _, _, .int i t, e => by cases e; exact ⟨_, .int i t, rfl⟩
  | _, _, _, .str x t hx, e => by cases e; exact ⟨_, .str x t, hx.2⟩
  | _, _, _, .ref hn, e => hf _ _ _ _ e hn
  | _, _, d, @Rel.tup _ _ a vs n l g _ r, e => by
    have e : (toPyTs f l).map PyData.tuple = some d := e
    obtain ⟨ds, e1, rfl⟩ := Option.map_eq_some_iff.mp e
    obtain ⟨as, hr, hc⟩ := toPyTs_reads hf r e1
    exact ⟨as, .tuple (vs := vs.toArray) (n := n) g rfl rfl (by simpa using hr), hc⟩
theorem toPyTs_reads {f : Nat → Option PyData} (hf : ∀ n d a b, f n = some d → ρ[n]? = some (a, b) → ∃ as, Reads h (.ref a) d as ∧ d.canLay0 = true) :
    ∀ {vs : List Value} {l : List V} {ds : List PyData}, RelAll ρ h vs l → toPyTs f l = some ds → ∃ as, ReadsAll h vs ds as ∧ PyData.canLayAll0 ds = true
  | _, _, _, .nil, e => by cases e; exact ⟨_, .nil, rfl⟩
  | _, _, ds, @RelAll.cons _ _ v vs x l r rs, e => by
    have e : (match toPyT f x, toPyTs f l with | some d, some ds => some (d :: ds) | _, _ => none) = some ds := e
    cases e1 : toPyT f x with
    | none => rw [e1] at e; cases e
    | some d =>
      cases e2 : toPyTs f l with
      | none => rw [e1, e2] at e; cases e
      | some ds' =>
        rw [e1, e2] at e; cases e
        obtain ⟨as, hr, hc⟩ := toPyT_reads hf r e1
        obtain ⟨bs, hrs, hcs⟩ := toPyTs_reads hf rs e2
        exact ⟨as ++ bs, .cons hr hrs, by show (d.canLay0 && PyData.canLayAll0 ds') = true; rw [hc, hcs]; rfl⟩
end

theorem toPyF_reads (i : Inv h₀ σ ρ h) : ∀ (k n : Nat) (d : PyData) (a b : Addr), toPyF σ k n = some d → ρ[n]? = some (a, b) → ∃ as, Reads h (.ref a) d as ∧ d.canLay0 = true
  | 0, _, _, _, _, e, _ => by cases e
  | k + 1, n, d, a, b, e, hn => by
    have e : (match σ[n]? with | some (.list l) => (toPyTs (toPyF σ k) l).map PyData.list | _ => none) = some d := e
    cases e1 : σ[n]? with
    | none => rw [e1] at e; cases e
    | some o =>
      rw [e1] at e
      cases o with
      | dict _ => cases e
      | inst _ _ => cases e
      | list l =>
        obtain ⟨ds, e2, rfl⟩ := Option.map_eq_some_iff.mp e
        obtain ⟨_, vs, m, g, hl, r⟩ := i.objs n _ _ e1 hn
        obtain ⟨as, hr, hc⟩ := toPyTs_reads (fun n d a b => toPyF_reads i k n d a b) r e2
        exact ⟨a :: as, .list (vs := vs.toArray) (n := m) g rfl rfl (by simpa using hr), hc⟩

theorem toPy_reads (i : Inv h₀ σ ρ h) {v : Value} {x : V} {d : PyData} (r : Rel ρ h v x) (e : toPy σ x = some d) : ∃ as, Reads h v d as ∧ d.canLay0 = true :=
  toPyT_reads (fun n d a b => toPyF_reads i 4 n d a b) r e
end

section
variable {prog : Program} {w : World} {h₀ : Heap} {A : Around} {W : List Addr} {ρ : Map} {s : Shared} {σ : Store}

/-- what a comparison tells -/
theorem veq_some {x y : V} {b : Bool} (h : veq σ x y = some b) : ∃ dx dy, toPy σ x = some dx ∧ toPy σ y = some dy ∧ min dx.depth dy.depth ≤ 200 ∧ b = PyData.eqv dx dy := by
  unfold veq at h
  cases e1 : toPy σ x with
  | none => rw [e1] at h; cases h
  | some dx =>
    cases e2 : toPy σ y with
    | none => rw [e1, e2] at h; cases h
    | some dy =>
      rw [e1, e2] at h
      dsimp only at h
      split at h
      · rename_i hd; cases h; exact ⟨dx, dy, rfl, rfl, hd, rfl⟩
      · cases h

theorem Sim.ask {α β : Type} {t : Sem β} {f : Store → Option α} {R : α → Map → Heap → β → Prop} (h : ∀ a, f σ = some a → Sim prog w h₀ A W t (.ok a σ) R ρ s) : Sim prog w h₀ A W t (askS f σ) R ρ s := by
  unfold askS
  cases e : f σ with
  | none => exact trivial
  | some a => exact h a e

theorem eqAt_of (i : Inv h₀ σ ρ s.heap) {a b : Value} {x y : V} {dx dy : PyData} (ra : Rel ρ s.heap a x) (rb : Rel ρ s.heap b y) (ex : toPy σ x = some dx) (ey : toPy σ y = some dy)
    (hd : min dx.depth dy.depth ≤ 200) (hu : A.units + 200 < cLine) : SeqAt.EqAt A s a b (PyData.eqv dx dy) := by
  obtain ⟨as, r1, c1⟩ := toPy_reads i ra ex
  obtain ⟨bs, r2, c2⟩ := toPy_reads i rb ey
  exact SeqAt.eqAt_reads dx dy A s a b as bs r1 r2 c1 c2 (by omega)
/-- the items of a row, one by one -/
theorem vin_any (i : Inv h₀ σ ρ s.heap) {b : Value} {y : V} (rb : Rel ρ s.heap b y) (hu : A.units + 200 < cLine) : ∀ {vs : List Value} {l : List V} {k : Bool}, RelAll ρ s.heap vs l → vin σ y l = some k →
    ∃ e : Value → Bool, k = vs.any e ∧ ∀ v ∈ vs, SeqAt.EqAt A s v b (e v) := by
  intro vs l k r h
  classical
  -- the answer by what is read
  refine ⟨fun v => decide (∃ dx dy, (∃ x, Rel ρ s.heap v x ∧ toPy σ x = some dx) ∧ toPy σ y = some dy ∧ PyData.eqv dx dy = true), ?_, ?_⟩
  · induction l generalizing vs k with
    | nil => cases r; cases h; rfl
    | cons x l ih =>
      cases r with
      | cons r rs =>
      have h : (match veq σ x y, vin σ y l with | some e, some t => some (e || t) | _, _ => none) = some k := h
      cases e1 : veq σ x y with
      | none => rw [e1] at h; cases h
      | some e =>
        cases e2 : vin σ y l with
        | none => rw [e1, e2] at h; cases h
        | some t =>
          rw [e1, e2] at h; cases h
          rw [List.any_cons, ih rs e2]
          congr 1
          obtain ⟨dx, dy, ex, ey, _, rfl⟩ := veq_some e1
          cases hq : PyData.eqv dx dy with
          | true => exact (decide_eq_true ⟨dx, dy, ⟨x, r, ex⟩, ey, hq⟩).symm
          | false =>
            refine (decide_eq_false ?_).symm
            rintro ⟨dx', dy', ⟨x', r', ex'⟩, ey', hq'⟩
            rw [ey] at ey'; cases ey'
            obtain ⟨as, r1, c1⟩ := toPy_reads i r ex
            obtain ⟨as', r2, c2⟩ := toPy_reads i r' ex'
            rw [SeqAt.Reads.unique _ _ _ _ _ c1 r1 r2, hq'] at hq; cases hq
  · induction l generalizing vs k with
    | nil => cases r; intro v hv; exact nomatch hv
    | cons x l ih =>
      cases r with
      | cons r rs =>
      have h : (match veq σ x y, vin σ y l with | some e, some t => some (e || t) | _, _ => none) = some k := h
      cases e1 : veq σ x y with
      | none => rw [e1] at h; cases h
      | some e =>
        cases e2 : vin σ y l with
        | none => rw [e1, e2] at h; cases h
        | some t =>
          intro u hm
          rcases List.mem_cons.mp hm with rfl | hm
          · obtain ⟨dx, dy, ex, ey, hd, rfl⟩ := veq_some e1
            have hE := eqAt_of i r rb ex ey hd hu
            have : PyData.eqv dx dy = decide (∃ dx dy, (∃ x, Rel ρ s.heap u x ∧ toPy σ x = some dx) ∧ toPy σ y = some dy ∧ PyData.eqv dx dy = true) := by
              cases hq : PyData.eqv dx dy with
              | true => exact (decide_eq_true ⟨dx, dy, ⟨x, r, ex⟩, ey, hq⟩).symm
              | false =>
                refine (decide_eq_false ?_).symm
                rintro ⟨dx', dy', ⟨x', r', ex'⟩, ey', hq'⟩
                rw [ey] at ey'; cases ey'
                obtain ⟨as, r1, c1⟩ := toPy_reads i r ex
                obtain ⟨as', r2, c2⟩ := toPy_reads i r' ex'
                rw [SeqAt.Reads.unique _ _ _ _ _ c1 r1 r2, hq'] at hq; cases hq
            rw [this] at hE; exact hE
          · exact ih rs e2 u hm

theorem Sim.cmp {op : CmpOp} {a b : Value} {x y : V} (i : Inv h₀ σ ρ s.heap) (hu : A.units + 201 < cLine) (ra : Rel ρ s.heap a x) (rb : Rel ρ s.heap b y) :
    Sim prog w h₀ A W (compareOp op a b) (cmp op x y σ) RV ρ s := by
  have hu1 : A.in1.units + 200 < cLine := by show A.units + 1 + 200 < cLine; omega
  unfold Mine.cmp
  split
  · refine Sim.ask fun c hc => ?_
    obtain ⟨k, hk, rfl⟩ := Option.map_eq_some_iff.mp hc
    obtain ⟨dx, dy, ex, ey, hd, rfl⟩ := veq_some hk
    obtain ⟨as, r1, c1⟩ := toPy_reads i ra ex
    obtain ⟨bs, r2, c2⟩ := toPy_reads i rb ey
    exact Sim.same i fun Q E hQ => SeqAt.compareEq_reads r1 r2 c1 c2 (by omega) (hQ _ s.toks (.bool _))
  · refine Sim.ask fun c hc => ?_
    obtain ⟨k, hk, rfl⟩ := Option.map_eq_some_iff.mp hc
    obtain ⟨dx, dy, ex, ey, hd, rfl⟩ := veq_some hk
    obtain ⟨as, r1, c1⟩ := toPy_reads i ra ex
    obtain ⟨bs, r2, c2⟩ := toPy_reads i rb ey
    exact Sim.same i fun Q E hQ => SeqAt.compareNe_reads r1 r2 c1 c2 (by omega) (hQ _ s.toks (.bool _))
  · cases ra; cases rb; exact Sim.same i fun Q E hQ => lt_int (hQ _ s.toks (.bool _))
  · cases ra; cases rb; exact Sim.same i fun Q E hQ => le_int (hQ _ s.toks (.bool _))
  · cases ra; cases rb; exact Sim.same i fun Q E hQ => gt_int (hQ _ s.toks (.bool _))
  · cases ra; cases rb; exact Sim.same i fun Q E hQ => ge_int (hQ _ s.toks (.bool _))
  · cases rb
    refine Sim.same i fun Q E hQ => is_none (hQ _ s.toks ?_)
    cases ra <;> exact .bool _
  · cases rb
    refine Sim.same i fun Q E hQ => isNot_none (hQ _ s.toks ?_)
    cases ra <;> exact .bool _
  · cases rb with
    | tup g hl r =>
    refine Sim.ask fun c hc => ?_
    obtain ⟨k, hk, rfl⟩ := Option.map_eq_some_iff.mp hc
    obtain ⟨e, rfl, he⟩ := vin_any (A := A.in1) i ra hu1 r hk
    refine Sim.same i fun Q E hQ => SeqAt.in_tupleAt e (isTuple_of g) (fun y hy => he y (by simpa using hy)) ?_
    have := hQ _ s.toks (.bool _)
    simpa using this
  · cases rb with
    | tup g hl r =>
    refine Sim.ask fun c hc => ?_
    obtain ⟨k, hk, rfl⟩ := Option.map_eq_some_iff.mp hc
    obtain ⟨e, rfl, he⟩ := vin_any (A := A.in1) i ra hu1 r hk
    refine Sim.same i fun Q E hQ => SeqAt.notIn_tupleAt e (isTuple_of g) (fun y hy => he y (by simpa using hy)) ?_
    have := hQ _ s.toks (.bool _)
    simpa using this
  · cases rb with
    | ref er =>
    refine Sim.getList fun l hσ => Sim.ask fun c hc => ?_
    obtain ⟨_, vs, m, g, hl, r⟩ := i.list hσ er
    obtain ⟨k, hk, rfl⟩ := Option.map_eq_some_iff.mp hc
    obtain ⟨e, rfl, he⟩ := vin_any (A := A.in1) i ra hu1 r hk
    refine Sim.same i fun Q E hQ => SeqAt.in_listAt e (isList_of g) (fun y hy => he y (by simpa using hy)) ?_
    have := hQ _ s.toks (.bool _)
    simpa using this
  · cases rb with
    | ref er =>
    refine Sim.getList fun l hσ => Sim.ask fun c hc => ?_
    obtain ⟨_, vs, m, g, hl, r⟩ := i.list hσ er
    obtain ⟨k, hk, rfl⟩ := Option.map_eq_some_iff.mp hc
    obtain ⟨e, rfl, he⟩ := vin_any (A := A.in1) i ra hu1 r hk
    refine Sim.same i fun Q E hQ => SeqAt.notIn_listAt e (isList_of g) (fun y hy => he y (by simpa using hy)) ?_
    have := hQ _ s.toks (.bool _)
    simpa using this
  · exact trivial

theorem Sim.truth {a : Value} {x : V} (i : Inv h₀ σ ρ s.heap) (ra : Rel ρ s.heap a x) : Sim prog w h₀ A W (truthy a) (truth x σ) RB ρ s := by
  have hs := sizeLine_lt
  unfold Mine.truth
  split
  · cases ra; exact Sim.same i fun Q E hQ => truthy_none (hQ _ s.toks rfl)
  · cases ra; exact Sim.same i fun Q E hQ => wpAny_truthy_bool (hQ _ s.toks rfl)
  · cases ra; exact Sim.same i fun Q E hQ => truthy_int (hQ _ s.toks rfl)
  · cases ra with
    | str x t hx =>
    refine Sim.same i fun Q E hQ => P.truthy_str (by have := hx.1; omega) (hQ _ _ ?_)
    show _ = _
    rw [Bool.eq_iff_iff]; simp
  · cases ra with
    | tup g hl r =>
    refine Sim.same i fun Q E hQ => truthy_tuple (isTuple_of g) (by simp; omega) (hQ _ _ ?_)
    have := r.length
    show _ = _
    rw [Bool.eq_iff_iff]
    simp [← this]
  · cases ra with
    | ref er =>
    rename_i n _ _
    cases e : σ[n]? with
    | none => rw [bind_bad (by rw [getO_eq, e])]; exact trivial
    | some o =>
      rw [bind_ok (a := o) (σ' := σ) (by rw [getO_eq, e])]
      cases o with
      | list l =>
        obtain ⟨_, vs, m, g, hl, r⟩ := i.list e er
        refine Sim.same i fun Q E hQ => wpAny_truthy_list (isList_of g) (by simp; omega) (hQ _ _ ?_)
        have := r.length
        show _ = _
        rw [Bool.eq_iff_iff]
        simp [← this]
      | dict _ => exact trivial
      | inst _ _ => exact trivial
end

end Mine

namespace Mine
open PySem PyProof.Rows

section
variable {prog : Program} {w : World} {h₀ : Heap} {A : Around} {W : List Addr} {ρ : Map} {s : Shared} {σ : Store}

theorem place_seqIndex {i : Int} {n k : Nat} (h : place i n = some k) (hn : n ≤ sizeLine) : seqIndex? i n = some k ∧ -(2 ^ 63) ≤ i ∧ i < 2 ^ 63 := by
  have hs := sizeLine_lt
  unfold place at h
  split at h
  · split at h
    · cases h
      exact ⟨seqIndex_of (by omega) (by omega), by omega, by omega⟩
    · cases h
  · split at h
    · cases h
      exact ⟨seqIndex_neg (by omega) (by omega), by omega, by omega⟩
    · cases h

theorem place_lt {i : Int} {n k : Nat} (h : place i n = some k) : k < n := by
  unfold place at h
  split at h
  · split at h
    · cases h; omega
    · cases h
  · split at h
    · cases h; omega
    · cases h

theorem getItem_listAny {l : Addr} {vs : List Value} {n k : Nat} {i : Int} {t : Tok} {x : Value} {Q : Value → Shared → Prop} {E : Value → Shared → Prop} (g : s.heap.get? l = some (listO vs n)) (hl : vs.length ≤ sizeLine)
    (hk : place i vs.length = some k) (hx : vs[k]? = some x) (h : Q x s) : wpAny (model prog w) A (getItem (.ref l) (.int i t)) Q E s := by
  have hs := sizeLine_lt
  unfold place at hk
  split at hk
  · rename_i h0
    split at hk
    · cases hk
      exact wpAny_getItem_list (isList_of g) h0 (by omega) (by simpa using hx) h
    · cases hk
  · rename_i h0
    split at hk
    · cases hk
      exact wpAny_getItem_list_neg (isList_of g) (by omega) (by simp; omega) (by omega) (by simpa using hx) h
    · cases hk

theorem Sim.ofOpt {α β : Type} {t : Sem β} {o : Option α} {R : α → Map → Heap → β → Prop} (h : ∀ a, o = some a → Sim prog w h₀ A W t (.ok a σ) R ρ s) : Sim prog w h₀ A W t (ofOpt o σ) R ρ s := by
  cases o with
  | none => exact trivial
  | some a => exact h a rfl
theorem Sim.ofOptBind {α β γ : Type} {t : Sem β} {o : Option α} {k : α → M γ} {R : γ → Map → Heap → β → Prop} (h : ∀ a, o = some a → Sim prog w h₀ A W t (k a σ) R ρ s) : Sim prog w h₀ A W t ((Mine.ofOpt o >>= k) σ) R ρ s := by
  cases o with
  | none => exact trivial
  | some a => exact h a rfl

theorem Sim.item {a b : Value} {x y : V} (i : Inv h₀ σ ρ s.heap) (ra : Rel ρ s.heap a x) (rb : Rel ρ s.heap b y) :
    Sim prog w h₀ A W (getItem a b) (item x y σ) RV ρ s := by
  have hs := sizeLine_lt
  unfold Mine.item
  split
  · cases ra with
    | tup g hl r =>
    cases rb with
    | int k t =>
    have hlen := r.length
    refine Sim.ofOpt fun v hv => ?_
    obtain ⟨j, hj, hv⟩ := Option.bind_eq_some_iff.mp hv
    obtain ⟨val, e, hr⟩ := r.get hv
    obtain ⟨h1, h2, h3⟩ := place_seqIndex hj (by omega)
    exact Sim.same i fun Q E hQ => P.getItem_tuple g h2 h3 (by simpa [hlen] using h1) (by simpa using e) (hQ _ s.toks hr)
  · cases ra with
    | str x t hx =>
    cases rb with
    | int k u =>
    refine Sim.ofOpt fun v hv => ?_
    obtain ⟨j, hj, hv⟩ := Option.bind_eq_some_iff.mp hv
    obtain ⟨c, hc, rfl⟩ := Option.map_eq_some_iff.mp hv
    obtain ⟨h1, h2, h3⟩ := place_seqIndex hj hx.1
    refine Sim.same i fun Q E hQ => P.getItem_str (c := c) ?_ (by rw [h1]; simpa using hc) (hQ _ _ (.str _ _ ⟨by show 1 ≤ sizeLine; decide, ?_⟩))
    · simp only [Bool.or_eq_false_iff, decide_eq_false_iff_not]; omega
    · have h4 := hx.2
      unfold PyData.strOk at h4 ⊢
      rw [Array.all_eq_true] at h4
      have hlt : j < (_ : Str).cps.size := place_lt hj
      have := h4 j hlt
      rw [Array.getElem?_eq_getElem hlt] at hc
      cases hc
      simpa [chr1] using this
  · cases ra with
    | ref er =>
    cases rb with
    | int k t =>
    refine Sim.getList fun l hσ => Sim.ofOpt fun v hv => ?_
    obtain ⟨_, vs, m, g, hl, r⟩ := i.list hσ er
    have hlen := r.length
    obtain ⟨j, hj, hv⟩ := Option.bind_eq_some_iff.mp hv
    obtain ⟨val, e, hr⟩ := r.get hv
    exact Sim.same i fun Q E hQ => getItem_listAny g hl (by rw [hlen]; exact hj) e (hQ _ s.toks hr)
  · exact trivial

/-! slices -/
theorem RelAll.cut {h : Heap} {vs : List Value} {l : List V} (r : RelAll ρ h vs l) (lo hi : Option Int) : RelAll ρ h (Mine.cut vs lo hi) (Mine.cut l lo hi) := by
  have hd : ∀ (n : Nat) {vs : List Value} {l : List V}, RelAll ρ h vs l → RelAll ρ h (vs.drop n) (l.drop n) := by
    intro n
    induction n with
    | zero => intro vs l r; exact r
    | succ n ih => intro vs l r; cases r with
      | nil => exact .nil
      | cons _ r => exact ih r
  have ht : ∀ (n : Nat) {vs : List Value} {l : List V}, RelAll ρ h vs l → RelAll ρ h (vs.take n) (l.take n) := by
    intro n
    induction n with
    | zero => intro vs l r; exact .nil
    | succ n ih => intro vs l r; cases r with
      | nil => exact .nil
      | cons a r => exact .cons a (ih r)
  unfold Mine.cut
  rw [r.length]
  exact ht _ (hd _ r)

theorem cut_length_le {α : Type} (l : List α) (lo hi : Option Int) : (Mine.cut l lo hi).length ≤ l.length := by
  unfold Mine.cut
  rw [List.length_take, List.length_drop]; omega

theorem slicePick_cut (vs : List Value) (lo hi : Option Int) : slicePick vs.toArray lo hi none = (Mine.cut vs lo hi).toArray := by
  rw [slicePick_plain]; simp [Mine.cut]

theorem Sim.bound {β γ : Type} {t : Sem β} {v : Value} {x : V} {k : Option Int → M γ} {R : γ → Map → Heap → β → Prop} (r : Rel ρ s.heap v x) (h : ∀ o, IsPart v o → Sim prog w h₀ A W t (k o σ) R ρ s) :
    Sim prog w h₀ A W t ((Mine.bound x >>= k) σ) R ρ s := by
  unfold Mine.bound
  split
  · cases r; exact h _ .none
  · cases r; exact h _ (.int _ _)
  · exact trivial

theorem slicePartIndex_of {v : Value} {o : Option Int} {Q : Option Int → Shared → Prop} {E : Value → Shared → Prop} (p : IsPart v o) (h : Q o s) : wpAny (model prog w) A (Builtin.Slice.slicePartIndex v) Q E s := by
  cases p with
  | none => exact slicePart_none h
  | int i t => exact slicePart_int h

theorem adjust_places (lo hi : Option Int) (n : Nat) : Builtin.Slice.sliceAdjust lo hi 1 (n : Int) = (((lo.elim 0 (clipAt n) : Nat) : Int), ((hi.elim n (clipAt n) : Nat) : Int)) ∧
    Builtin.Slice.slicePlaces ((lo.elim 0 (clipAt n) : Nat) : Int) ((hi.elim n (clipAt n) : Nat) : Int) 1 = hi.elim n (clipAt n) - lo.elim 0 (clipAt n) := by
  constructor
  · unfold Builtin.Slice.sliceAdjust
    have h1 : ¬ ((1 : Int) < 0) := by omega
    simp only [h1, if_false]
    congr 1
    · cases lo with
      | none => rfl
      | some i =>
        have := clipAt_cast n i
        simp only [Option.elim]
        rw [this]
        split <;> omega
    · cases hi with
      | none => rfl
      | some i =>
        have := clipAt_cast n i
        simp only [Option.elim]
        rw [this]
        split <;> omega
  · unfold Builtin.Slice.slicePlaces
    have h1 : (1 : Int) > 0 := by omega
    simp only [h1, if_true, Int.ediv_one]
    split <;> omega

theorem pick_cut (vs : List Value) (a k : Nat) : ((List.range k).filterMap fun (j : Nat) => vs.toArray[((a : Int) + (j : Int) * 1).toNat]?) = (vs.drop a).take k := by
  have e : (fun (j : Nat) => vs.toArray[((a : Int) + (j : Int) * 1).toNat]?) = fun j => vs.toArray[a + j]? := by
    funext j
    have : ((a : Int) + (j : Int) * 1).toNat = a + j := by omega
    rw [this]
  rw [e]
  have := pick_run vs.toArray a k
  rw [List.filterMap_map] at this
  exact this

theorem getItem_tuple_slice {t sl : Addr} {vs : List Value} {n : Nat} {vl vu : Value} {lo hi : Option Int} {Q : Value → Shared → Prop} {E : Value → Shared → Prop} (g : s.heap.get? t = some (tupO vs n)) (hs : s.heap.IsSliceOf sl vl vu .none)
    (pl : IsPart vl lo) (pu : IsPart vu hi) (hsz : vs.length ≤ sizeLine)
    (h1 : Mine.cut vs lo hi = vs → Q (.ref t) s) (h2 : Q (.ref s.heap.objs.size) { s with heap := s.heap.push (tupO (Mine.cut vs lo hi) 0) }) : wpAny (model prog w) A (getItem (.ref t) (.ref sl)) Q E s := by
  obtain ⟨os, hos, hcs, hds⟩ := id hs
  have ht : IsTup s.heap t vs.toArray := isTuple_of g
  have hTs : s.TypeIs (.ref sl) "slice" := ⟨os, hos, hcs⟩
  unfold getItem
  refine wpAny_holding ?_
  refine wpAny_bind (wpAny_sequenceKey ht.typeIs (by decide) ?_)
  refine wpAny_bind (wpAny_callSpecial?_slot (name := Str.ofString "__getitem__") ht.typeIs slot_tuple_getitem
    (wpAny_call_entry slot_tuple_getitem ht.typeIs entry_tuple_getitem ?_ (args_tuple_getitem _ _)))
  show wpAny _ _ (Builtin.Tuple.tupleItemsOf (.ref t) >>= _) _ _ s
  refine wpAny_bind (tupleItemsOf_ ht ?_)
  refine wpAny_bind (wpAny_typeOf hTs ?_)
  rw [if_pos (by decide)]
  obtain ⟨ha, hp⟩ := adjust_places lo hi vs.length
  have happ : ∀ (Q' : Int × Int × Nat → Shared → Prop) (E' : Value → Shared → Prop), Q' (((lo.elim 0 (clipAt vs.length) : Nat) : Int), 1, hi.elim vs.length (clipAt vs.length) - lo.elim 0 (clipAt vs.length)) s →
      wpAny (model prog w) A.in1 (Builtin.Slice.sliceApplied (.ref sl) (pure ((vs.toArray.size : Nat) : Int))) Q' E' s := by
    intro Q' E' hq
    unfold Builtin.Slice.sliceApplied Builtin.Slice.sliceFields
    refine wpAny_bind (wpAny_bind (wpAny_field hos hds (x := vl) rfl (wpAny_bind (wpAny_field hos hds (x := vu) rfl (wpAny_bind (wpAny_field hos hds (x := .none) rfl (wpAny_pure ?_)))))))
    refine wpAny_bind (slicePart_none ?_)
    show wpAny _ _ (if ((1 : Int) == 0) = true then _ else _) _ _ s
    rw [if_neg (by decide)]
    refine wpAny_bind (slicePartIndex_of pl (wpAny_bind (slicePartIndex_of pu (wpAny_bind (wpAny_pure ?_)))))
    rw [List.size_toArray]
    show wpAny _ _ (match Builtin.Slice.sliceAdjust lo hi 1 (vs.length : Int) with | (lo, hi) => pure (lo, (1 : Int), Builtin.Slice.slicePlaces lo hi 1)) _ _ s
    rw [ha]
    show wpAny _ _ (pure (_, (1 : Int), Builtin.Slice.slicePlaces _ _ 1)) _ _ s
    rw [hp]
    exact wpAny_pure hq
  refine wpAny_bind (happ _ _ ?_)
  have hsz2 : sizeOk (.seq (Mine.cut vs lo hi).toArray) := by
    show (Mine.cut vs lo hi).toArray.size ≤ sizeLine
    rw [List.size_toArray]
    exact Nat.le_trans (cut_length_le vs lo hi) hsz
  dsimp only
  rw [pick_cut]
  split
  · rename_i hc
    simp only [Bool.and_eq_true, beq_iff_eq, List.size_toArray] at hc
    have e : Mine.cut vs lo hi = vs := by
      unfold Mine.cut
      have h0 : lo.elim 0 (clipAt vs.length) = 0 := by omega
      rw [h0] at hc ⊢
      rw [List.drop_zero, hc.2, List.take_length]
    refine wpAny_bind (m := Builtin.Tuple.tupleIsExact (.ref t)) (wpAny_bind (wpAny_typeOf ht.typeIs (wpAny_pure ?_)))
    rw [if_pos (by decide)]
    exact wpAny_bind (wpAny_rule (wpAny_pure ⟨_, rfl, wpAny_pure (h1 e)⟩))
  · exact wpAny_bind (m := Builtin.Tuple.tupleExact _) (wpAny_newObj_type (wpAny_pure ⟨_, rfl, wpAny_pure h2⟩) hsz2)

theorem strSlice_cut (x : Str) (lo hi : Option Int) : (Builtin.Str.strSliceIndices lo hi 1 x.length).filterMap (x.cps[·]?) = Mine.cut x.cps.toList lo hi ∧
    ((Builtin.Str.strSliceIndices lo hi 1 x.length).length = x.length → Mine.cut x.cps.toList lo hi = x.cps.toList) := by
  have e : Builtin.Str.strSliceIndices lo hi 1 x.length = sliceRange ((lo.elim 0 (clipAt x.length) : Nat) : Int) ((hi.elim x.length (clipAt x.length) : Nat) : Int) 1 := by
    unfold Builtin.Str.strSliceIndices
    have h1 : (1 : Int) > 0 := by omega
    simp only [h1, if_true]
    congr 1
    · cases lo with
      | none => rfl
      | some i => simp only [Option.elim]; rw [clipAt_cast]
    · cases hi with
      | none => rfl
      | some i => simp only [Option.elim]; rw [clipAt_cast]
  have hl : x.cps.toList.length = x.length := by simp [Str.length]
  have hcut : Mine.cut x.cps.toList lo hi = (x.cps.toList.drop (lo.elim 0 (clipAt x.length))).take (hi.elim x.length (clipAt x.length) - lo.elim 0 (clipAt x.length)) := by
    unfold Mine.cut; rw [hl]
  rw [e, sliceRange_one]
  constructor
  · rw [pick_run, hcut]
  · intro h
    rw [List.length_map, List.length_range] at h
    have hle : hi.elim x.length (clipAt x.length) ≤ x.length := by
      cases hi with
      | none => exact Nat.le_refl _
      | some i =>
        have := clipAt_cast x.length i
        simp only [Option.elim]
        omega
    have h0 : lo.elim 0 (clipAt x.length) = 0 ∨ x.length = 0 := by omega
    rw [hcut]
    rcases h0 with h0 | h0
    · rw [h0] at h ⊢
      rw [List.drop_zero, h, ← hl, List.take_length]
    · have : x.cps.toList = [] := List.eq_nil_of_length_eq_zero (hl.trans h0)
      rw [this]; simp

theorem strOk_sub {x y : Str} (hx : SOk x) (h : ∀ c ∈ y.cps.toList, c ∈ x.cps.toList) (hl : y.length ≤ x.length) : SOk y := by
  refine ⟨Nat.le_trans hl hx.1, ?_⟩
  have h4 := hx.2
  unfold PyData.strOk at h4 ⊢
  rw [Array.all_eq_true_iff_forall_mem] at h4 ⊢
  intro c hc
  exact h4 c (Array.mem_toList_iff.mp (h c (Array.mem_toList_iff.mpr hc)))

theorem SOk.cut {x : Str} (hx : SOk x) (lo hi : Option Int) : SOk (cutStr x lo hi) := by
  refine strOk_sub hx ?_ ?_
  · intro c hc
    simp only [cutStr, Mine.cut] at hc
    exact List.mem_of_mem_drop (List.mem_of_mem_take hc)
  · have := cut_length_le x.cps.toList lo hi
    simpa [cutStr, Str.length] using this

/-- a slice is taken: the slice's object lies at sl -/
theorem Sim.slice {a vl vu : Value} {sl : Addr} {x : V} {lo hi : Option Int} (i : Inv h₀ σ ρ s.heap) (ra : Rel ρ s.heap a x) (hs : s.heap.IsSliceOf sl vl vu .none) (pl : IsPart vl lo) (pu : IsPart vu hi) :
    Sim prog w h₀ A W (getItem a (.ref sl)) (sliceV lo hi x σ) RV ρ s := by
  unfold sliceV
  split
  · cases ra with
    | @tup _ vs n l g hl r =>
    have hlen := r.length
    refine Sim.grown i fun Q E hQ => getItem_tuple_slice g hs pl pu hl (fun e => ?_) ?_
    · refine hQ _ s.heap s.toks (fun _ _ e => e) ?_
      refine .tup (n := n) g hl ?_
      have := r.cut lo hi
      rw [e] at this; exact this
    · have hk : ∀ b o, s.heap.get? b = some o → (s.heap.push (tupO (Mine.cut vs lo hi) 0)).get? b = some o := fun b o e => Heap.get?_push_of_some _ e
      exact hQ _ _ s.toks hk (.tup (n := 0) (Heap.get?_push_size _ rfl) (Nat.le_trans (cut_length_le vs lo hi) hl) ((r.cut lo hi).sub (Sub.keeps hk)))
  · rename_i y
    cases ra with
    | str _ t hy =>
    obtain ⟨p, hp⟩ : ∃ p : Option (Int × Tok), vl = partValue p ∧ p.map (·.1) = lo := by
      cases pl with
      | none => exact ⟨none, rfl, rfl⟩
      | int k u => exact ⟨some (k, u), rfl, rfl⟩
    obtain ⟨q, hq⟩ : ∃ p : Option (Int × Tok), vu = partValue p ∧ p.map (·.1) = hi := by
      cases pu with
      | none => exact ⟨none, rfl, rfl⟩
      | int k u => exact ⟨some (k, u), rfl, rfl⟩
    obtain ⟨os, hos, hcs, hds⟩ := hs
    refine Sim.same i fun Q E hQ => wpAny_getItem_str_slice (l := p) (u := q) (st := none) ⟨os, hos, hcs, by rw [hds, hp.1, hq.1]; rfl⟩ rfl ?_
    have e1 : slicePicked y p q none = Builtin.Str.strSliceIndices lo hi 1 y.length := by unfold slicePicked; rw [hp.2, hq.2]; rfl
    unfold sliceMade
    rw [e1]
    split
    · rename_i hc
      simp only [Bool.and_eq_true, beq_iff_eq] at hc
      have := (strSlice_cut _ lo hi).2 hc.2
      refine hQ _ s.toks ?_
      have e2 : ∀ x : Str, Mine.cut x.cps.toList lo hi = x.cps.toList → cutStr x lo hi = x := fun x e => by unfold cutStr; rw [e]
      show Rel _ _ _ (V.str _)
      rw [e2 _ this]
      exact .str _ _ hy
    · rw [(strSlice_cut _ lo hi).1]
      exact ⟨(hy.cut lo hi).1, hQ _ _ (.str _ _ (hy.cut lo hi))⟩
  · cases ra with
    | ref er =>
    refine Sim.getList fun l hσ => ?_
    obtain ⟨_, vs, m, g, hl, r⟩ := i.list hσ er
    refine Sim.newListAt i fun Q E hQ => wpAny_getItem_list_slice (isList_of g) hs pl pu .none (by simp) ?_ (by simpa using hl)
    rw [slicePick_cut]
    have hk : ∀ b o, s.heap.get? b = some o → (s.heap.push (listO (Mine.cut vs lo hi) 0)).get? b = some o := fun b o e => Heap.get?_push_of_some _ e
    exact hQ _ (Mine.cut vs lo hi) 0 _ s.toks hk fresh_none (Heap.get?_push_size _ rfl) (Nat.le_trans (cut_length_le vs lo hi) hl) ((r.cut lo hi).sub (Sub.keeps hk))
  · exact trivial

end

end Mine

namespace Mine
open PySem PyProof.Rows

section
variable {prog : Program} {w : World} {h₀ : Heap} {A : Around} {W : List Addr} {ρ : Map} {s : Shared} {σ : Store}

theorem setItem_listAt {l : Addr} {vs : List Value} {n : Nat} {k : Int} {t : Tok} {v : Value} {Q : Unit → Shared → Prop} {E : Value → Shared → Prop} (g : s.heap.get? l = some (listO vs n)) (h0 : 0 ≤ k) (hk : k < vs.length) (hfit : k < 2 ^ 63)
    (h : Q () { s with heap := s.heap.update l (Obj.mapSeq (·.setIfInBounds k.toNat v)) }) : wpAny (model prog w) A (PySem.setItem (.ref l) (.int k t) v) Q E s := by
  have hT : s.heap.IsList l vs.toArray := isList_of g
  unfold PySem.setItem
  refine wpAny_holding ?_
  refine wpAny_bind (wpAny_sequenceKey hT.typeIs (by decide) ?_)
  refine wpAny_bind (wpAny_callSpecial?_slot (name := Str.ofString "__setitem__") hT.typeIs slot_list_setitem
    (wpAny_call_entry slot_list_setitem hT.typeIs entry_list_setitem ?_ (args_list_setitem _ _ _)))
  show wpAny _ _ (Builtin.List.listSubscript? (.int k t) >>= _) _ _ s
  refine wpAny_bind (wpAny_listSubscript_int (fitsIndex_of h0 hfit) ?_)
  clear hfit
  obtain ⟨j, rfl⟩ := Int.eq_ofNat_of_zero_le h0
  have hj : j < vs.length := by omega
  have hx : vs.toArray[j]? = some vs[j] := by simp [hj]
  show wpAny _ _ ((seqItemAt l j >>= fun r => pure (r.map (j, ·))) >>= _) _ _ s
  refine wpAny_bind (wpAny_bind (wpAny_seqItemAt g rfl (wpAny_pure ?_)))
  rw [hx]
  show wpAny _ _ (setSeqItemAt l j v >>= _) _ _ s
  refine wpAny_bind (wpAny_setSeqItemAt g rfl ?_)
  exact wpAny_pure ⟨.none, rfl, wpAny_pure h⟩

theorem update_list {l : Addr} {vs ws : List Value} {n : Nat} {f : Array Value → Array Value} (g : s.heap.get? l = some (listO vs n)) (hf : f vs.toArray = ws.toArray) :
    ∃ m, (s.heap.update l (Obj.mapSeq f)).get? l = some (listO ws m) := by
  have e : Obj.mapSeq f (listO vs n) = listO ws (if ws.length = vs.length then n else n + 1) := by
    unfold Obj.mapSeq listO
    simp only [hf]
    congr 2
    simp
  have := Heap.get?_update_self (Obj.mapSeq f) g (by rw [e]; rfl)
  rw [e] at this
  exact ⟨_, this⟩

theorem setO_ok {n : Nat} {o : O} (hpos : 0 < n) (hn : n < σ.length) : setO n o σ = .ok () (σ.set n o) := by unfold setO; rw [if_pos ⟨hpos, hn⟩]
theorem setO_bad {n : Nat} {o : O} (hpos : ¬ 0 < n) : setO n o σ = .bad := by unfold setO; rw [if_neg fun h => hpos h.1]

theorem lt_of_get {α : Type} {l : List α} {n : Nat} {a : α} (h : l[n]? = some a) : n < l.length := by
  rcases Nat.lt_or_ge n l.length with hl | hl
  · exact hl
  · rw [List.getElem?_eq_none hl] at h; cases h

theorem RelAll.set {h : Heap} : ∀ {vs : List Value} {l : List V} {k : Nat} {v : Value} {x : V}, RelAll ρ h vs l → Rel ρ h v x → RelAll ρ h (vs.set k v) (l.set k x)
  | _, _, _, _, _, .nil, _ => .nil
  | _, _, 0, _, _, .cons _ r, q => .cons q r
  | _, _, k + 1, _, _, .cons a r, q => .cons a (RelAll.set r q)

/-- a list of the store is turned -/
theorem Sim.turnList {t : Sem Unit} {n : Nat} {l m : List V} {a : Addr} {d : Addr} {vs : List Value} {k : Nat} (i : Inv h₀ σ ρ s.heap) (hσ : σ[n]? = some (.list l)) (hρ : ρ[n]? = some (a, d)) (g : s.heap.get? a = some (listO vs k))
    (hm : ∃ ws, RelAll ρ s.heap ws m ∧ ws.length ≤ sizeLine ∧ ∀ (Q : Unit → Shared → Prop) (E : Value → Shared → Prop), (∀ h', (∃ j, h'.get? a = some (listO ws j)) → (∀ b o, b ≠ a → s.heap.get? b = some o → h'.get? b = some o) → Q () { s with heap := h' }) → wpAny (model prog w) A t Q E s) :
    Sim prog w h₀ A W t (setO n (.list m) σ) (fun _ _ _ _ => True) ρ s := by
  obtain ⟨ws, r, hl, hwp⟩ := hm
  by_cases hpos : 0 < n
  case neg => rw [setO_bad hpos]; exact trivial
  rw [setO_ok hpos (lt_of_get hσ)]
  obtain ⟨rfl, _⟩ := i.list hσ hρ
  refine hwp _ _ fun h' hg hk => ?_
  obtain ⟨j, hg⟩ := hg
  have hN := i.set (W := W) (n := n) (a := d) (o := .list m) (h' := h') hpos hρ hk ⟨_, hg⟩ (fun vs' k' e => by rw [g] at e; simp [listO, tupO] at e) fun x => ⟨rfl, ws, j, hg, hl, r.ext x⟩
  exact ⟨ρ, h', s.toks, rfl, hN.1, hN.2, trivial⟩

theorem Sim.setItem {a b c : Value} {x y z : V} (i : Inv h₀ σ ρ s.heap) (ra : Rel ρ s.heap a x) (rb : Rel ρ s.heap b y) (rc : Rel ρ s.heap c z) :
    Sim prog w h₀ A W (PySem.setItem a b c) (setItem x y z σ) (fun _ _ _ _ => True) ρ s := by
  unfold Mine.setItem
  split
  · cases ra with
    | ref er =>
    cases rb with
    | int k t =>
    refine Sim.getList fun l hσ => Sim.ite fun hc => ?_
    obtain ⟨_, vs, m, g, hl, r⟩ := i.list hσ er
    have hlen := r.length
    obtain ⟨h0, h1⟩ := hc
    have hs := sizeLine_lt
    refine Sim.turnList i hσ er g ⟨vs.set (Int.toNat _) c, r.set rc, by simpa using hl, fun Q E hQ => setItem_listAt g h0 (by omega) (by omega) (hQ _ (update_list g (by simp)) fun b o hb e => ?_)⟩
    rw [Heap.get?_update_other _ _ (Ne.symm hb)]; exact e
  · exact trivial

/-! built-in functions -/
theorem Sim.itemsOf {β γ : Type} {t : Sem β} {x : V} {k : List V → M γ} {R : γ → Map → Heap → β → Prop} (h1 : ∀ l, x = .tup l → Sim prog w h₀ A W t (k l σ) R ρ s) (h2 : ∀ n l, x = .ref n → σ[n]? = some (.list l) → Sim prog w h₀ A W t (k l σ) R ρ s) :
    Sim prog w h₀ A W t ((Mine.itemsOf x >>= k) σ) R ρ s := by
  cases x with
  | tup l => exact h1 l rfl
  | ref n => exact Sim.getList fun l hl => h2 n l rfl hl
  | none => exact trivial
  | bool _ => exact trivial
  | int _ => exact trivial
  | str _ => exact trivial

theorem Sim.bLen {a : Value} {x : V} (i : Inv h₀ σ ρ s.heap) (ra : Rel ρ s.heap a x) : Sim prog w h₀ A W (call (.builtin "len") [a]) (bLen x σ) RV ρ s := by
  have hs := sizeLine_lt
  unfold Mine.bLen
  split
  · cases ra with
    | tup g hl r =>
    have hlen := r.length
    refine Sim.same i fun Q E hQ => P.len_tuple g (by simp; omega) ?_
    have := hQ _ (s.toks + 1 + 1) (.int _ (s.toks + 1))
    simpa [hlen] using this
  · cases ra with
    | str _ t hx =>
    exact Sim.same i fun Q E hQ => P.len_str (by have := hx.1; omega) (hQ _ _ (.int _ _))
  · cases ra with
    | ref er =>
    refine Sim.getList fun l hσ => ?_
    obtain ⟨_, vs, m, g, hl, r⟩ := i.list hσ er
    have hlen := r.length
    refine Sim.same i fun Q E hQ => Calls.call_len_list (isList_of g) (by simp; omega) ?_
    have := hQ _ (s.toks + 1 + 1) (.int _ (s.toks + 1))
    simpa [hlen] using this
  · exact trivial

theorem Sim.bList {a : Value} {x : V} (i : Inv h₀ σ ρ s.heap) (ra : Rel ρ s.heap a x) : Sim prog w h₀ A W (call (.type "list") [a]) (bList x σ) RV ρ s := by
  have key : ∀ (ad : Addr) (T : String) (o : Obj) (vs : List Value) (n : Nat) (l : List V), a = .ref ad → (T = "list" ∨ T = "tuple") → s.heap.get? ad = some o → o.cls = .type T → o.data = .seq vs.toArray n → vs.length ≤ sizeLine →
      RelAll ρ s.heap vs l → Sim prog w h₀ A W (call (.type "list") [a]) (newO (.list l) σ) RV ρ s := by
    intro ad T o vs n l e hT ho hc hd hl r
    subst e
    refine Sim.newListAt i fun Q E hQ => call_list_seq ad hT ho hc hd (fun h' c' hk hg => ?_) (by simpa using hl)
    exact hQ _ vs c' h' s.toks hk fresh_none hg hl (r.sub (Sub.keeps hk))
  refine Sim.itemsOf (fun l e => ?_) fun n l e hσ => ?_
  · subst e
    cases ra with
    | tup g hl r => exact key _ "tuple" _ _ _ l rfl (.inr rfl) g rfl rfl hl r
  · subst e
    cases ra with
    | ref er =>
      obtain ⟨_, vs, m, g, hl, r⟩ := i.list hσ er
      exact key _ "list" _ _ _ l rfl (.inl rfl) g rfl rfl hl r

theorem Sim.bTuple {a : Value} {x : V} (i : Inv h₀ σ ρ s.heap) (ra : Rel ρ s.heap a x) : Sim prog w h₀ A W (call (.type "tuple") [a]) (bTuple x σ) RV ρ s := by
  refine Sim.itemsOf (fun l e => ?_) fun n l e hσ => ?_
  · subst e
    cases ra with
    | tup g hl r => exact Sim.same i fun Q E hQ => call_tuple_same (isTuple_of g) (hQ _ s.toks (.tup g hl r))
  · subst e
    cases ra with
    | ref er =>
      obtain ⟨_, vs, m, g, hl, r⟩ := i.list hσ er
      refine Sim.grown i fun Q E hQ => call_tuple_list (isList_of g) (fun h' hk => ?_) (by simpa using hl)
      have hk' : ∀ b o, s.heap.get? b = some o → (h'.push (tupO vs 0)).get? b = some o := fun b o e => Heap.get?_push_of_some _ (hk b o e)
      exact hQ _ (h'.push (tupO vs 0)) s.toks hk' (.tup (n := 0) (Heap.get?_push_size _ rfl) hl (r.sub (Sub.keeps hk')))

def kdName : Kd → String
  | .bool => "bool"
  | .int => "int"
  | .str => "str"
  | .tuple => "tuple"
  | .list => "list"

theorem Sim.isKd {a : Value} {x : V} {k : Kd} (i : Inv h₀ σ ρ s.heap) (ra : Rel ρ s.heap a x) : Sim prog w h₀ A W (call (.builtin "isinstance") [a, .type (kdName k)]) (isKd k x σ) RV ρ s := by
  cases ra with
  | none =>
    refine Sim.same i fun Q E hQ => ?_
    cases k
    · exact IsiPair.NoneType_bool (hQ _ _ (.bool _))
    · exact IsiPair.NoneType_int (hQ _ _ (.bool _))
    · exact IsiPair.NoneType_str (hQ _ _ (.bool _))
    · exact IsiPair.NoneType_tuple (hQ _ _ (.bool _))
    · exact IsiPair.NoneType_list (hQ _ _ (.bool _))
  | bool _ =>
    refine Sim.same i fun Q E hQ => ?_
    cases k
    · exact IsiPair.bool_bool (hQ _ _ (.bool _))
    · exact IsiPair.bool_int (hQ _ _ (.bool _))
    · exact IsiPair.bool_str (hQ _ _ (.bool _))
    · exact IsiPair.bool_tuple (hQ _ _ (.bool _))
    · exact IsiPair.bool_list (hQ _ _ (.bool _))
  | int _ _ =>
    refine Sim.same i fun Q E hQ => ?_
    cases k
    · exact IsiPair.int_bool (hQ _ _ (.bool _))
    · exact IsiPair.int_int (hQ _ _ (.bool _))
    · exact IsiPair.int_str (hQ _ _ (.bool _))
    · exact IsiPair.int_tuple (hQ _ _ (.bool _))
    · exact IsiPair.int_list (hQ _ _ (.bool _))
  | str _ _ _ =>
    refine Sim.same i fun Q E hQ => ?_
    cases k
    · exact IsiPair.str_bool (hQ _ _ (.bool _))
    · exact IsiPair.str_int (hQ _ _ (.bool _))
    · exact IsiPair.str_str (hQ _ _ (.bool _))
    · exact IsiPair.str_tuple (hQ _ _ (.bool _))
    · exact IsiPair.str_list (hQ _ _ (.bool _))
  | tup g hl r =>
    refine Sim.same i fun Q E hQ => ?_
    cases k
    · exact IsiPair.tuple_bool g rfl (hQ _ _ (.bool _))
    · exact IsiPair.tuple_int g rfl (hQ _ _ (.bool _))
    · exact IsiPair.tuple_str g rfl (hQ _ _ (.bool _))
    · exact IsiPair.tuple_tuple g rfl (hQ _ _ (.bool _))
    · exact IsiPair.tuple_list g rfl (hQ _ _ (.bool _))
  | ref er =>
    refine Sim.getList fun l hσ => ?_
    obtain ⟨_, vs, m, g, hl, r⟩ := i.list hσ er
    refine Sim.same i fun Q E hQ => ?_
    cases k
    · exact IsiPair.list_bool g rfl (hQ _ _ (.bool _))
    · exact IsiPair.list_int g rfl (hQ _ _ (.bool _))
    · exact IsiPair.list_str g rfl (hQ _ _ (.bool _))
    · exact IsiPair.list_tuple g rfl (hQ _ _ (.bool _))
    · exact IsiPair.list_list g rfl (hQ _ _ (.bool _))

/-! methods -/
theorem Sim.mAppend {a b : Value} {x y : V} (i : Inv h₀ σ ρ s.heap) (ra : Rel ρ s.heap a x) (rb : Rel ρ s.heap b y) : Sim prog w h₀ A W (call (.builtin "list.append") [a, b]) (mAppend x y σ) RV ρ s := by
  unfold Mine.mAppend
  split
  · cases ra with
    | ref er =>
    rename_i n a d
    refine Sim.getList fun l hσ => Sim.ite fun hc => ?_
    obtain ⟨rfl, vs, m, g, hl, r⟩ := i.list hσ er
    have hlen := r.length
    by_cases hpos : 0 < n
    case neg => rw [bind_bad (setO_bad hpos)]; exact trivial
    rw [bind_ok (setO_ok hpos (lt_of_get hσ))]
    refine wpAny_list_append_plain ⟨m, g⟩ (fun h' hg hk => ?_) (by simpa using hl)
    obtain ⟨m', hg⟩ := hg
    have hg : h'.get? d = some (listO (vs ++ [b]) m') := by simpa [listO] using hg
    have hN := i.set (W := W) (n := n) (a := d) (o := .list (l ++ [y])) (h' := h') hpos er (fun c o hb e => hk.extBut c o hb e) ⟨_, hg⟩ (fun vs' k' e => by rw [g] at e; simp [listO, tupO] at e)
      fun z => ⟨rfl, vs ++ [b], m', hg, by simp; omega, (r.append (.cons rb .nil)).ext z⟩
    exact ⟨ρ, h', s.toks, rfl, hN.1, hN.2, .none⟩
  · exact trivial

theorem strsAre_of {h : Heap} : ∀ {vs : List Value} {l : List V} {ss : List Str}, RelAll ρ h vs l → allStrs l = some ss → StrsAre vs ss ∧ ∀ x ∈ ss, SOk x
  | _, _, _, .nil, e => by cases e; exact ⟨.nil, fun _ h => nomatch h⟩
  | _, _, ss, @RelAll.cons _ _ v vs x l r rs, e => by
    cases x with
    | str y =>
      have e : (allStrs l).map (y :: ·) = some ss := e
      obtain ⟨ts, e1, rfl⟩ := Option.map_eq_some_iff.mp e
      cases r with
      | str _ t hy =>
        obtain ⟨h1, h2⟩ := strsAre_of rs e1
        exact ⟨.cons y t h1, fun z hz => (List.mem_cons.mp hz).elim (fun e => e ▸ hy) (h2 z)⟩
    | none => cases e
    | bool _ => cases e
    | int _ => cases e
    | tup _ => cases e
    | ref _ => cases e

theorem strOk_join {sep : Str} (hs : PyData.strOk sep = true) : ∀ {ss : List Str}, (∀ x ∈ ss, SOk x) → PyData.strOk (Str.join sep ss) = true
  | [], _ => by show PyData.strOk Str.empty = true; simp [PyData.strOk, Str.empty]
  | [x], h => (h x (by simp)).2
  | x :: y :: r, h => by
    show PyData.strOk (x ++ sep ++ Str.join sep (y :: r)) = true
    exact strOk_append (strOk_append (h x (by simp)).2 hs) (strOk_join hs fun z hz => h z (List.mem_cons_of_mem _ hz))

theorem Sim.mJoin {a b : Value} {x y : V} (i : Inv h₀ σ ρ s.heap) (ra : Rel ρ s.heap a x) (rb : Rel ρ s.heap b y) : Sim prog w h₀ A W (call (.builtin "str.join") [a, b]) (mJoin x y σ) RV ρ s := by
  unfold Mine.mJoin
  split
  · rename_i sep
    cases ra with
    | str _ t hx =>
    have key : ∀ ss, (ss.map (·.length)).sum + ss.length * sep.length ≤ 16777216 → (∀ x ∈ ss, SOk x) → SOk (Txt.join sep ss) := fun ss h1 h2 => by
      refine ⟨?_, ?_⟩
      · show (Builtin.Str.glued sep ss).length ≤ sizeLine
        rw [size_glued]
        have h3 : (ss.length - 1) * sep.length ≤ ss.length * sep.length := Nat.mul_le_mul_right _ (Nat.sub_le _ _)
        show _ ≤ 16777216
        omega
      · show PyData.strOk (Builtin.Str.glued sep ss) = true
        rw [StrLaws.glued_eq_join]
        exact strOk_join hx.2 h2
    refine Sim.itemsOf (fun l e => ?_) fun n l e hσ => ?_
    · subst e
      cases rb with
      | tup g hl r =>
        refine Sim.ofOptBind fun ss hss => Sim.ite fun hc => ?_
        obtain ⟨h1, h2⟩ := strsAre_of r hss
        exact Sim.same i fun Q E hQ => join_tuple (isTuple_of g) (by simpa using h1) hc fun t' k => hQ _ _ (.str _ _ (key ss hc h2))
    · subst e
      cases rb with
      | ref er =>
        obtain ⟨_, vs, m, g, hl, r⟩ := i.list hσ er
        refine Sim.ofOptBind fun ss hss => Sim.ite fun hc => ?_
        obtain ⟨h1, h2⟩ := strsAre_of r hss
        exact Sim.same i fun Q E hQ => join_list (isList_of g) (by simpa using h1) hc fun t' k => hQ _ _ (.str _ _ (key ss hc h2))
  · exact trivial
end

end Mine

namespace Mine
open PySem PyProof.Rows

/-! ## the top -/
structure FdOk (fd : FuncData) (f : Fn) : Prop where
  body : fd.body = .stmts f.body
  names : fd.scope.names = f.names
  kind : fd.scope.kind = .function
  co : fd.scope.isCoroutine = false
  gen : fd.scope.isGenerator = false
  clo : fd.closure = []
  globals : fd.globals = mainGlobals
  blts : fd.builtins = builtinsNs
  binds : ∀ vals : List Value, vals.length = f.params.length → bindArgs fd ⟨vals, []⟩ = pure (f.params.zip vals)
  pkind : ∀ x ∈ f.params, f.names.lookup x = some .local ∨ f.names.lookup x = some .cell
  nodup : f.params.Nodup

def bltNames : List Str := ["len", "list", "tuple", "isinstance", "bool", "int", "str", "range", "enumerate", "sorted", "sum", "all", "max", "min", "dict", "zip", "reversed", "set"]

structure Base (fns : Str → Option Fn) (glob : Str → Option V) (mg mb : Str → Option Value) (h₀ : Heap) : Prop where
  g : h₀.Ns mainGlobals mg
  b : h₀.Ns builtinsNs mb
  nolimit : h₀.NoLimit
  fn : ∀ f fn, fns f = some fn → ∃ a o fd, mg f = some (.ref a) ∧ h₀.get? a = some o ∧ o.data = .func fd ∧ FdOk fd fn ∧ h₀.CodeRec fd.code fd.qualname
  blt : ∀ f ∈ bltNames, fns f = none → mg f = none ∧ mb f = bootBuiltins f
  const : ∀ x v, glob x = some v → ∃ val, mg x = some val ∧ ∀ ρ h, Rel ρ h val v

section
variable {prog : Program} {w : World} {h₀ : Heap} {A : Around} {W : List Addr} {ρ : Map} {s : Shared} {σ : Store} {fns : Str → Option Fn} {glob : Str → Option V} {mg mb : Str → Option Value}
variable {env : Env} {ns : Names} {loc : Loc} {C : Cfg} {n : Nat}

theorem Frm.kindOf (F : Frm env ns loc ρ s.heap) {x : Str} {i : Nat} {k : NameKind} (h : slot ns x = some (i, k)) : env.kindOf x = some k := by
  show env.scope.names.lookup x = some k
  rw [F.names]; exact slot_lookup h

theorem Frm.ext0 {ρ' : Map} {h h' : Heap} (F : Frm env ns loc ρ h) (x : Ext [] ρ h ρ' h') : Frm env ns loc ρ' h' := F.ext x fun _ hm => nomatch hm

theorem isGlob_slot {x : Str} (h : isGlob ns x = true) : (∃ i, slot ns x = some (i, .globalImplicit)) ∧ (x == ("__debug__" : Str)) = false := by
  unfold isGlob at h
  split at h
  · exact ⟨⟨_, by assumption⟩, by simpa using h⟩
  · cases h

theorem Sim.ldLoc {i : Nat} {t : Sem Value} (h : ∀ v, loc[i]? = some (some v) → Sim prog w h₀ A W t (.ok v σ) RV ρ s) : Sim prog w h₀ A W t (ldLoc loc i σ) RV ρ s := by
  refine Sim.ofOpt fun v hv => h v ?_
  cases e : loc[i]? with
  | none => rw [e] at hv; cases hv
  | some o => rw [e] at hv; cases o with
    | none => cases hv
    | some u => cases hv; rfl

theorem Sim.name {x : Str} {pos : Pos} (B : Base fns glob mg mb h₀) (hg : C.glob = glob) (F : Frm env ns loc ρ s.heap) (i : Inv h₀ σ ρ s.heap) :
    Sim prog w h₀ A W (eval (.Name x pos) env) (ev C (.Name x pos) ns loc σ) RV ρ s := by
  show Sim prog w h₀ A W _ ((if x = ("__debug__" : Str) then M.bad else ldName C ns x loc) σ) RV ρ s
  by_cases hx : x = ("__debug__" : Str)
  · rw [if_pos hx]; exact trivial
  · rw [if_neg hx]
    have hd : (x == ("__debug__" : Str)) = false := by simpa using hx
    cases hs : slot ns x with
    | none => unfold ldName; rw [hs]; exact trivial
    | some p =>
      obtain ⟨j, k⟩ := p
      cases k with
      | «local» =>
        have e : ldName C ns x loc = Mine.ldLoc loc j := by unfold ldName; rw [hs]
        rw [e]
        refine Sim.ldLoc fun v hv => ?_
        obtain ⟨m, hn, hl⟩ := F.vars
        obtain ⟨val, hm, r⟩ := hl x j v hs hv
        exact Sim.same i fun Q E hQ => wpAny_Name (wpAny_loadName_local F.kind (F.kindOf hs) hn hm (hQ _ s.toks r)) hd
      | cell =>
        have e : ldName C ns x loc = Mine.ldLoc loc j := by unfold ldName; rw [hs]
        rw [e]
        refine Sim.ldLoc fun v hv => ?_
        obtain ⟨c, o, hc, hcell, hl⟩ := F.cell x j hs
        obtain ⟨val, rfl, r⟩ := hl v hv
        exact Sim.same i fun Q E hQ => wpAny_Name (wpAny_loadName_cell F.kind (F.kindOf hs) hc hcell (hQ _ s.toks r)) hd
      | free => unfold ldName; rw [hs]; exact trivial
      | globalImplicit =>
        have e : ldName C ns x loc = Mine.ofOpt (C.glob x) := by unfold ldName; rw [hs]
        rw [e, hg]
        refine Sim.ofOpt fun v hv => ?_
        obtain ⟨val, hm, r⟩ := B.const x v hv
        exact Sim.same i fun Q E hQ => Calls.Name_function_global F.kind (F.kindOf hs) (Calls.loadGlobal_global (by rw [F.globals]; exact B.g.keeps i.base) hm (hQ _ s.toks (r _ _))) hd
      | globalExplicit => unfold ldName; rw [hs]; exact trivial

/-- a global def is loaded -/
theorem wp_global {x : Str} {pos : Pos} {v : Value} {Q : Value → Shared → Prop} {E : Value → Shared → Prop} (B : Base fns glob mg mb h₀) (F : Frm env ns loc ρ s.heap) (i : Inv h₀ σ ρ s.heap) (hx : isGlob ns x = true) (hv : mg x = some v) (h : Q v s) :
    wpAny (model prog w) A (eval (.Name x pos) env) Q E s := by
  obtain ⟨⟨j, hs⟩, hd⟩ := isGlob_slot hx
  exact Calls.Name_function_global F.kind (F.kindOf hs) (Calls.loadGlobal_global (by rw [F.globals]; exact B.g.keeps i.base) hv h) hd
theorem wp_builtin {x : Str} {pos : Pos} {v : Value} {Q : Value → Shared → Prop} {E : Value → Shared → Prop} (B : Base fns glob mg mb h₀) (F : Frm env ns loc ρ s.heap) (i : Inv h₀ σ ρ s.heap) (hx : isGlob ns x = true) (hn : x ∈ bltNames) (hf : fns x = none)
    (hv : bootBuiltins x = some v) (h : Q v s) : wpAny (model prog w) A (eval (.Name x pos) env) Q E s := by
  obtain ⟨⟨j, hs⟩, hd⟩ := isGlob_slot hx
  obtain ⟨h1, h2⟩ := B.blt x hn hf
  exact Calls.Name_function_global F.kind (F.kindOf hs) (Calls.loadGlobal_builtin (by rw [F.globals]; exact B.g.keeps i.base) h1 (by rw [F.blts]; exact B.b.keeps i.base) (h2.trans hv) h) hd

theorem M.assoc {α β γ : Type} (m : M α) (f : α → M β) (g : β → M γ) : (m >>= f) >>= g = m >>= fun a => f a >>= g := by
  funext σ
  cases e : m σ with
  | bad => rw [bind_bad e, bind_bad (bind_bad e)]
  | exc v σ' => rw [bind_exc e, bind_exc (bind_exc e)]
  | ok a σ' =>
    rw [bind_ok e]
    show (match (m >>= f) σ with | .ok a σ' => g a σ' | .exc e σ' => .exc e σ' | .bad => .bad) = (match f a σ' with | .ok a σ' => g a σ' | .exc e σ' => .exc e σ' | .bad => .bad)
    rw [bind_ok e]

/-! wrappers -/
theorem Sim.wrap {α β : Type} {t t' : Sem β} {r : Res α} {R : α → Map → Heap → β → Prop} (hw : ∀ (Q : β → Shared → Prop) (E : Value → Shared → Prop), wpAny (model prog w) A t Q E s → wpAny (model prog w) A t' Q E s)
    (h : Sim prog w h₀ A W t r R ρ s) : Sim prog w h₀ A W t' r R ρ s := by
  cases r with
  | bad => exact trivial
  | exc _ _ => exact trivial
  | ok a σ' => exact hw _ _ h
theorem Sim.operate {vs : List Value} {t : Sem Value} {r : Res V} {R : V → Map → Heap → Value → Prop} (h : Sim prog w h₀ A W t r R ρ s) : Sim prog w h₀ A W (PySem.operate vs t) r R ρ s :=
  Sim.wrap (fun _ _ => wpAny_operating) h

/-- a step behind that changes nothing -/
theorem Sim.behind {α : Type} {t : Sem Value} {f : Value → Sem PUnit} {r : Res α} {R : α → Map → Heap → Value → Prop} (hf : ∀ v (s' : Shared) (Q : PUnit → Shared → Prop) (E : Value → Shared → Prop), Q ⟨⟩ s' → wpAny (model prog w) A (f v) Q E s')
    (h : Sim prog w h₀ A W t r R ρ s) : Sim prog w h₀ A W (t >>= fun v => f v >>= fun _ => Pure.pure v) r R ρ s := by
  cases r with
  | bad => exact trivial
  | exc _ _ => exact trivial
  | ok a σ' => exact wpAny_bind (wpAny_mono h (fun v s' hp => wpAny_bind (hf v s' _ _ (wpAny_pure hp))) fun _ _ x => x)

variable (prog w h₀ C n) in
/-- an expression is simulated -/
def EvS (e : Expr) : Prop := ∀ (env : Env) (ns : Names) (loc : Loc) (σ : Store) (ρ : Map) (s : Shared) (A : Around), Rm A n → Frm env ns loc ρ s.heap → Inv h₀ σ ρ s.heap →
  Sim prog w h₀ A [] (eval e env) (ev C e ns loc σ) RV ρ s
variable (prog w h₀ C n) in
def TstS (e : Expr) : Prop := ∀ (env : Env) (ns : Names) (loc : Loc) (σ : Store) (ρ : Map) (s : Shared) (A : Around), Rm A n → Frm env ns loc ρ s.heap → Inv h₀ σ ρ s.heap →
  Sim prog w h₀ A [] (isTrue e env (eval e env)) (tst C e ns loc (ev C e ns loc) σ) RB ρ s
variable (prog w h₀ C n) in
def EvsS (es : List Expr) : Prop := ∀ (env : Env) (ns : Names) (loc : Loc) (σ : Store) (ρ : Map) (s : Shared) (A : Around) (pos : Pos), Rm A n → Frm env ns loc ρ s.heap → Inv h₀ σ ρ s.heap →
  Sim prog w h₀ A [] (spliced (backTo pos (starEach es env))) (evs C es ns loc σ) RL ρ s

theorem Rm.u {A : Around} (h : Rm A n) : A.units + 201 < cLine := by have := h.units; omega

theorem ev_const {c : Const} {k : Nat} {pos : Pos} : EvS prog w h₀ C n (.Constant c k pos) := fun env ns loc σ ρ s A hA F i => by
  show Sim prog w h₀ A [] (constValue env c) (constV c σ) RV ρ s
  cases c with
  | none => exact Sim.ret i .none
  | bool b => exact Sim.ret i (.bool b)
  | int z => exact Sim.same i fun Q E hQ => wpAny_mkInt (hQ _ _ (.int _ _))
  | str x => exact Sim.ite fun hc => Sim.same i fun Q E hQ => wpAny_mkText (hQ _ _ (.str _ _ hc))
  | float _ => exact trivial
  | complex _ _ => exact trivial
  | bytes _ => exact trivial
  | ellipsis => exact trivial

theorem ev_binop {l r : Expr} {op : Operator} {pos : Pos} (hl : EvS prog w h₀ C n l) (hr : EvS prog w h₀ C n r) : EvS prog w h₀ C n (.BinOp l op r pos) := fun env ns loc σ ρ s A hA F i => by
  rw [arm_eval_BinOp]
  show Sim prog w h₀ A [] _ ((ev C l ns loc >>= fun a => ev C r ns loc >>= fun b => binop op a b) σ) RV ρ s
  refine Sim.bind (hl env ns loc σ ρ s A hA F i) fun a σ₁ ρ₁ H₁ tk₁ va i₁ x₁ r₁ => ?_
  refine Sim.bind (Sim.holding (hr env ns loc σ₁ ρ₁ _ A hA (F.ext0 x₁) i₁)) fun b σ₂ ρ₂ H₂ tk₂ vb i₂ x₂ r₂ => ?_
  exact Sim.standAt (Sim.operate (Sim.binop i₂ (r₁.ext x₂) r₂))

theorem ev_not {x : Expr} {pos : Pos} (hx : EvS prog w h₀ C n x) : EvS prog w h₀ C n (.UnaryOp .Not x pos) := fun env ns loc σ ρ s A hA F i => by
  rw [arm_eval_UnaryOp]
  show Sim prog w h₀ A [] _ ((ev C x ns loc >>= fun a => truth a >>= fun t => pure (V.bool (!t))) σ) RV ρ s
  refine Sim.bind (hx env ns loc σ ρ s A hA F i) fun a σ₁ ρ₁ H₁ tk₁ va i₁ x₁ r₁ => ?_
  refine Sim.standAt (Sim.holding ?_)
  have := Sim.truth (prog := prog) (w := w) (A := A) (W := []) (s := { s with heap := H₁, toks := tk₁ }) i₁ r₁
  cases e : truth a σ₁ with
  | bad => rw [bind_bad e]; exact trivial
  | exc v σ' => rw [bind_exc e]; exact trivial
  | ok b σ' =>
    rw [bind_ok e]
    rw [e] at this
    refine not_value (wpAny_mono this (fun b' s' hp => ?_) fun _ _ x => x)
    exact hp.mono fun ρ' h' e => by cases e; exact .bool _

theorem ev_usub {z : Int} {k : Nat} {p pos : Pos} : EvS prog w h₀ C n (.UnaryOp .USub (.Constant (.int z) k p) pos) := fun env ns loc σ ρ s A hA F i => by
  show Sim prog w h₀ A [] _ ((pure (V.int (-z)) : M V) σ) RV ρ s
  exact Sim.same i fun Q E hQ => wpAny_UnaryOp (wpAny_Constant_int (neg_int (hQ _ _ (.int _ _))))

theorem markedBehindIn_sim {op : CmpOp} {r : Expr} {t : Sem Value} {res : Res V} (hr : ∀ es k p, r ≠ .Set es k p) (h : Sim prog w h₀ A W t res RV ρ s) : Sim prog w h₀ A W (markedBehindIn op r t) res RV ρ s := by
  have e : behindInMarks op r = false := by cases r <;> first | rfl | exact absurd rfl (hr _ _ _)
  rw [markedBehindIn_of_false e]; exact h

/-- the other side of a comparison is no set display -/
theorem ev_set {es : List Expr} {k : Nat} {p : Pos} : ev C (.Set es k p) ns loc = M.bad := rfl

theorem ev_compare {l r : Expr} {op : CmpOp} {pos : Pos} (hl : EvS prog w h₀ C n l) (hr : EvS prog w h₀ C n r) : EvS prog w h₀ C n (.Compare l [op] [r] pos) := fun env ns loc σ ρ s A hA F i => by
  rw [eval_Compare1]
  show Sim prog w h₀ A [] _ ((ev C l ns loc >>= fun a => ev C r ns loc >>= fun b => cmp op a b) σ) RV ρ s
  refine Sim.bind (hl env ns loc σ ρ s A hA F i) fun a σ₁ ρ₁ H₁ tk₁ va i₁ x₁ r₁ => ?_
  by_cases hset : ∃ es k p, r = .Set es k p
  · obtain ⟨es, k, p, rfl⟩ := hset
    rw [ev_set, bind_bad rfl]; exact trivial
  · refine Sim.bind (Sim.holding (markedBehindIn_sim (fun es k p e => hset ⟨es, k, p, e⟩) (hr env ns loc σ₁ ρ₁ _ A hA (F.ext0 x₁) i₁))) fun b σ₂ ρ₂ H₂ tk₂ vb i₂ x₂ r₂ => ?_
    exact Sim.standAt (Sim.operate (Sim.cmp i₂ hA.u (r₁.ext x₂) r₂))

/-- a test that is no connective -/
theorem tst_value {e : Expr} (he : EvS prog w h₀ C n e) (h1 : ∀ (ns : Names) (loc : Loc) (whole : M V), tst C e ns loc whole = (whole >>= fun v => truth v)) (h2 : ∀ (env : Env) (whole : Sem Value), isTrue e env whole = (do let v ← whole; standAt e.pos; holding [v] (truthy v))) :
    TstS prog w h₀ C n e := fun env ns loc σ ρ s A hA F i => by
  rw [h1, h2]
  refine Sim.bind (he env ns loc σ ρ s A hA F i) fun a σ₁ ρ₁ H₁ tk₁ va i₁ x₁ r₁ => ?_
  exact Sim.standAt (Sim.holding (Sim.truth i₁ r₁))

theorem tst_compare {l r : Expr} {op : CmpOp} {pos : Pos} (hl : EvS prog w h₀ C n l) (hr : EvS prog w h₀ C n r) : TstS prog w h₀ C n (.Compare l [op] [r] pos) := fun env ns loc σ ρ s A hA F i => by
  rw [isTrue_Compare1]
  show Sim prog w h₀ A [] _ (((ev C l ns loc >>= fun a => ev C r ns loc >>= fun b => cmp op a b) >>= fun v => truth v) σ) RB ρ s
  rw [M.assoc]
  refine Sim.bind (hl env ns loc σ ρ s A hA F i) fun a σ₁ ρ₁ H₁ tk₁ va i₁ x₁ r₁ => ?_
  rw [M.assoc]
  by_cases hset : ∃ es k p, r = .Set es k p
  · obtain ⟨es, k, p, rfl⟩ := hset
    rw [ev_set, bind_bad rfl]; exact trivial
  · refine Sim.bind (Sim.holding (markedBehindIn_sim (fun es k p e => hset ⟨es, k, p, e⟩) (hr env ns loc σ₁ ρ₁ _ A hA (F.ext0 x₁) i₁))) fun b σ₂ ρ₂ H₂ tk₂ vb i₂ x₂ r₂ => ?_
    refine Sim.standAt (Sim.bind (Sim.operate (Sim.cmp i₂ hA.u (r₁.ext x₂) r₂)) fun c σ₃ ρ₃ H₃ tk₃ vc i₃ x₃ r₃ => ?_)
    exact Sim.holding (Sim.truth i₃ r₃)
end

end Mine

namespace Mine
open PySem PyProof.Rows

section
variable {prog : Program} {w : World} {h₀ : Heap} {A : Around} {W : List Addr} {ρ : Map} {s : Shared} {σ : Store} {fns : Str → Option Fn} {glob : Str → Option V} {mg mb : Str → Option Value}
variable {env : Env} {ns : Names} {loc : Loc} {C : Cfg} {n : Nat}

/-- a test of a bool, then one of two ways -/
theorem Sim.cond {α β : Type} {t : Sem Bool} {f g : Sem β} {m : M Bool} {k l : M α} {R : α → Map → Heap → β → Prop} (h : Sim prog w h₀ A W t (m σ) RB ρ s)
    (h1 : ∀ σ₁ ρ₁ H tk, Inv h₀ σ₁ ρ₁ H → Ext W ρ s.heap ρ₁ H → Sim prog w h₀ A W f (k σ₁) R ρ₁ { s with heap := H, toks := tk })
    (h2 : ∀ σ₁ ρ₁ H tk, Inv h₀ σ₁ ρ₁ H → Ext W ρ s.heap ρ₁ H → Sim prog w h₀ A W g (l σ₁) R ρ₁ { s with heap := H, toks := tk }) :
    Sim prog w h₀ A W (t >>= fun b => if b = true then f else g) ((m >>= fun b => if b = true then k else l) σ) R ρ s := by
  refine Sim.bind h fun b σ₁ ρ₁ H tk b' i x r => ?_
  cases r
  cases b with
  | true => exact h1 σ₁ ρ₁ H tk i x
  | false => exact h2 σ₁ ρ₁ H tk i x

theorem ev_ifexp {t a b : Expr} {pos : Pos} (ht : TstS prog w h₀ C n t) (ha : EvS prog w h₀ C n a) (hb : EvS prog w h₀ C n b) : EvS prog w h₀ C n (.IfExp t a b pos) := fun env ns loc σ ρ s A hA F i => by
  rw [arm_eval_IfExp]
  exact Sim.cond (ht env ns loc σ ρ s A hA F i) (fun σ₁ ρ₁ H tk i₁ x₁ => ha env ns loc σ₁ ρ₁ _ A hA (F.ext0 x₁) i₁) (fun σ₁ ρ₁ H tk i₁ x₁ => hb env ns loc σ₁ ρ₁ _ A hA (F.ext0 x₁) i₁)

theorem tst_ifexp {t a b : Expr} {pos : Pos} (ht : TstS prog w h₀ C n t) (ha : TstS prog w h₀ C n a) (hb : TstS prog w h₀ C n b) : TstS prog w h₀ C n (.IfExp t a b pos) := fun env ns loc σ ρ s A hA F i => by
  rw [arm_isTrue_IfExp]
  exact Sim.cond (ht env ns loc σ ρ s A hA F i) (fun σ₁ ρ₁ H tk i₁ x₁ => ha env ns loc σ₁ ρ₁ _ A hA (F.ext0 x₁) i₁) (fun σ₁ ρ₁ H tk i₁ x₁ => hb env ns loc σ₁ ρ₁ _ A hA (F.ext0 x₁) i₁)

theorem tst_not {x : Expr} {pos : Pos} (hx : TstS prog w h₀ C n x) : TstS prog w h₀ C n (.UnaryOp .Not x pos) := fun env ns loc σ ρ s A hA F i => by
  rw [arm_isTrue_UnaryOp]
  refine Sim.bind (hx env ns loc σ ρ s A hA F i) fun b σ₁ ρ₁ H tk b' i₁ x₁ r => ?_
  cases r
  exact Sim.ret i₁ rfl

variable (prog w h₀ C n) in
def TstAllS (es : List Expr) : Prop := ∀ (op : BoolOp) (env : Env) (ns : Names) (loc : Loc) (σ : Store) (ρ : Map) (s : Shared) (A : Around), Rm A n → Frm env ns loc ρ s.heap → Inv h₀ σ ρ s.heap →
  Sim prog w h₀ A [] (allTrue op es env) (tstAll C es op ns loc σ) RB ρ s
variable (prog w h₀ C n) in
def EvBoolS (es : List Expr) : Prop := ∀ (op : BoolOp) (pos : Pos) (env : Env) (ns : Names) (loc : Loc) (σ : Store) (ρ : Map) (s : Shared) (A : Around), Rm A n → Frm env ns loc ρ s.heap → Inv h₀ σ ρ s.heap →
  Sim prog w h₀ A [] (boolOp pos op (evalEach es env)) (evBool C es op ns loc σ) RV ρ s

theorem tstAll_nil : TstAllS prog w h₀ C n [] := fun op env ns loc σ ρ s A hA F i => Sim.ret i rfl
theorem tstAll_cons {e : Expr} {r : List Expr} (he : TstS prog w h₀ C n e) (hr : TstAllS prog w h₀ C n r) : TstAllS prog w h₀ C n (e :: r) := fun op env ns loc σ ρ s A hA F i => by
  rw [arm_allTrue_cons]
  refine Sim.bind (he env ns loc σ ρ s A hA F i) fun b σ₁ ρ₁ H tk b' i₁ x₁ e => ?_
  cases e
  cases op <;> cases b
  · exact Sim.ret i₁ rfl
  · exact hr _ env ns loc σ₁ ρ₁ _ A hA (F.ext0 x₁) i₁
  · exact hr _ env ns loc σ₁ ρ₁ _ A hA (F.ext0 x₁) i₁
  · exact Sim.ret i₁ rfl
theorem tst_boolop {op : BoolOp} {es : List Expr} {pos : Pos} (h : TstAllS prog w h₀ C n es) : TstS prog w h₀ C n (.BoolOp op es pos) := fun env ns loc σ ρ s A hA F i => by
  rw [arm_isTrue_BoolOp]; exact h op env ns loc σ ρ s A hA F i

theorem evBool_nil : EvBoolS prog w h₀ C n [] := fun op pos env ns loc σ ρ s A hA F i => trivial
theorem evBool_cons {e : Expr} {r : List Expr} (he : EvS prog w h₀ C n e) (hr : EvBoolS prog w h₀ C n r) : EvBoolS prog w h₀ C n (e :: r) := fun op pos env ns loc σ ρ s A hA F i => by
  cases r with
  | nil =>
    show Sim prog w h₀ A [] (eval e env) ((ev C e ns loc >>= fun v => (pure v : M V)) σ) RV ρ s
    have : (ev C e ns loc >>= fun v => (pure v : M V)) σ = ev C e ns loc σ := by
      cases h : ev C e ns loc σ with
      | bad => rw [bind_bad h]
      | exc _ _ => rw [bind_exc h]
      | ok a σ' => rw [bind_ok h]; rfl
    rw [this]
    exact he env ns loc σ ρ s A hA F i
  | cons e2 r =>
    rw [arm_evalEach_cons, arm_evalEach_cons]
    refine Sim.bind (he env ns loc σ ρ s A hA F i) fun a σ₁ ρ₁ H₁ tk₁ va i₁ x₁ r₁ => ?_
    refine Sim.standAt (Sim.bind (Sim.holding (Sim.truth i₁ r₁)) fun b σ₂ ρ₂ H₂ tk₂ b' i₂ x₂ e => ?_)
    cases e
    have hh := hr op pos env ns loc σ₂ ρ₂ { s with heap := H₂, toks := tk₂ } A hA ((F.ext0 x₁).ext0 x₂) i₂
    rw [arm_evalEach_cons] at hh
    cases op <;> cases b
    · exact Sim.ret i₂ (r₁.ext x₂)
    · exact hh
    · exact hh
    · exact Sim.ret i₂ (r₁.ext x₂)
theorem ev_boolop {op : BoolOp} {es : List Expr} {pos : Pos} (h : EvBoolS prog w h₀ C n es) : EvS prog w h₀ C n (.BoolOp op es pos) := fun env ns loc σ ρ s A hA F i => by
  rw [arm_eval_BoolOp]; exact h op pos env ns loc σ ρ s A hA F i

/-! rows of expressions -/
theorem starEach_cons {e : Expr} {r : List Expr} (h : ∀ v p, e ≠ .Starred v p) : starEach (e :: r) env = (false, eval e env) :: starEach r env := by
  cases e <;> first | rfl | exact absurd rfl (h _ _)
theorem evs_nil : EvsS prog w h₀ C n [] := fun env ns loc σ ρ s A pos hA F i => Sim.ret i .nil
theorem evs_cons {e : Expr} {r : List Expr} (he : EvS prog w h₀ C n e) (hr : EvsS prog w h₀ C n r) : EvsS prog w h₀ C n (e :: r) := fun env ns loc σ ρ s A pos hA F i => by
  show Sim prog w h₀ A [] _ ((ev C e ns loc >>= fun v => evs C r ns loc >>= fun vs => pure (v :: vs)) σ) RL ρ s
  by_cases hst : ∃ v p, e = .Starred v p
  · obtain ⟨v, p, rfl⟩ := hst
    have : ev C (.Starred v p) ns loc σ = .bad := rfl
    rw [bind_bad this]; exact trivial
  · rw [starEach_cons (fun v p e' => hst ⟨v, p, e'⟩)]
    show Sim prog w h₀ A [] (spliced ((false, eval e env) :: backTo pos (starEach r env))) _ RL ρ s
    have e : spliced ((false, eval e env) :: backTo pos (starEach r env)) = (eval e env >>= fun v => holding [v] (spliced (backTo pos (starEach r env))) >>= fun vs => Pure.pure (v :: vs)) := rfl
    rw [e]
    refine Sim.bind (he env ns loc σ ρ s A hA F i) fun a σ₁ ρ₁ H₁ tk₁ va i₁ x₁ r₁ => ?_
    refine Sim.bind (Sim.holding (hr env ns loc σ₁ ρ₁ _ A pos hA (F.ext0 x₁) i₁)) fun b σ₂ ρ₂ H₂ tk₂ vb i₂ x₂ r₂ => ?_
    exact Sim.ret i₂ (.cons (r₁.ext x₂) r₂)

theorem ev_list {es : List Expr} {pos : Pos} (h : EvsS prog w h₀ C n es) : EvS prog w h₀ C n (.List es pos) := fun env ns loc σ ρ s A hA F i => by
  rw [arm_eval_List]
  refine Sim.standAt (Sim.bind (h env ns loc σ ρ s A pos hA F i) fun l σ₁ ρ₁ H₁ tk₁ vs i₁ x₁ r₁ => ?_)
  exact Sim.ite fun hc => Sim.newList i₁ r₁ hc
theorem ev_tuple {es : List Expr} {k : Nat} {pos : Pos} (h : EvsS prog w h₀ C n es) : EvS prog w h₀ C n (.Tuple es k pos) := fun env ns loc σ ρ s A hA F i => by
  rw [arm_eval_Tuple]
  refine Sim.standAt (Sim.bind (h env ns loc σ ρ s A pos hA F i) fun l σ₁ ρ₁ H₁ tk₁ vs i₁ x₁ r₁ => ?_)
  exact Sim.ite fun hc => Sim.newTuple i₁ r₁ hc

/-! subscripts -/
/-- what can be asked for an item bears no __getitem__ of the text's own -/
theorem getitem_plain {v : Value} {x : V} {Q : Bool → Shared → Prop} {E : Value → Shared → Prop} (i : Inv h₀ σ ρ s.heap) (r : Rel ρ s.heap v x) (hx : (∃ l, x = .tup l) ∨ (∃ t, x = .str t) ∨ ∃ m l, x = .ref m ∧ σ[m]? = some (.list l)) (h : Q false s) :
    wpAny (model prog w) A (getitemInPython v) Q E s := by
  have key : ∀ (T id : String), s.TypeIs v T → typeLookup (.type T) "__getitem__" = pure (some (.builtin id)) → wpAny (model prog w) A (getitemInPython v) Q E s := by
    intro T id hT hl
    rw [getitemInPython_of_ne hT.not_modules]
    exact wpAny_bind (wpAny_specialOf hT hl (wpAny_pure h))
  rcases hx with ⟨l, rfl⟩ | ⟨t, rfl⟩ | ⟨m, l, rfl, hσ⟩
  · cases r with
    | tup g _ _ => exact key "tuple" _ (isTuple_of g).typeIs slot_tuple_getitem.lookup
  · cases r with
    | str _ t _ => exact key "str" _ (typeIs_str s _ t) F.slot_str_getitem.lookup
  · cases r with
    | ref er =>
      obtain ⟨_, vs, k, g, _, _⟩ := i.list hσ er
      exact key "list" _ (isList_of g).typeIs slot_list_getitem.lookup

theorem item_kind {x y : V} {v : V} {σ' : Store} (h : item x y σ = .ok v σ') : (∃ l, x = .tup l) ∨ (∃ t, x = .str t) ∨ ∃ m l, x = .ref m ∧ σ[m]? = some (.list l) := by
  unfold item at h
  split at h
  · exact .inl ⟨_, rfl⟩
  · exact .inr (.inl ⟨_, rfl⟩)
  · rename_i m i
    refine .inr (.inr ⟨m, ?_⟩)
    cases e : σ[m]? with
    | none => rw [bind_bad (by rw [getList_eq, e])] at h; cases h
    | some o => cases o with
      | list l => exact ⟨l, rfl, rfl⟩
      | dict _ => rw [bind_bad (by rw [getList_eq, e])] at h; cases h
      | inst _ _ => rw [bind_bad (by rw [getList_eq, e])] at h; cases h
  · cases h
theorem slice_kind {lo hi : Option Int} {x : V} {v : V} {σ' : Store} (h : sliceV lo hi x σ = .ok v σ') : (∃ l, x = .tup l) ∨ (∃ t, x = .str t) ∨ ∃ m l, x = .ref m ∧ σ[m]? = some (.list l) := by
  unfold sliceV at h
  split at h
  · exact .inl ⟨_, rfl⟩
  · exact .inr (.inl ⟨_, rfl⟩)
  · rename_i m
    refine .inr (.inr ⟨m, ?_⟩)
    cases e : σ[m]? with
    | none => rw [bind_bad (by rw [getList_eq, e])] at h; cases h
    | some o => cases o with
      | list l => exact ⟨l, rfl, rfl⟩
      | dict _ => rw [bind_bad (by rw [getList_eq, e])] at h; cases h
      | inst _ _ => rw [bind_bad (by rw [getList_eq, e])] at h; cases h
  · cases h

/-- the end of a subscript -/
theorem Sim.subTail {value slice : Expr} {o i : Value} {x : V} {r : Res V} {ops : List Value} (iv : Inv h₀ σ ρ s.heap) (ro : Rel ρ s.heap o x) (hk : ∀ v σ', r = .ok v σ' → (∃ l, x = .tup l) ∨ (∃ t, x = .str t) ∨ ∃ m l, x = .ref m ∧ σ[m]? = some (.list l))
    (hs : subscripted slice false o i = PySem.operate ops (getItem o i)) (h : Sim prog w h₀ A W (getItem o i) r RV ρ s) :
    Sim prog w h₀ A W (getitemInPython o >>= fun b => subscripted slice b o i >>= fun r => letTemporaryGo value o r >>= fun _ => Pure.pure r) r RV ρ s := by
  cases r with
  | bad => exact trivial
  | exc _ _ => exact trivial
  | ok v σ' =>
    refine wpAny_bind (getitem_plain iv ro (hk v σ' rfl) ?_)
    rw [hs]
    exact wpAny_bind (wpAny_operating (wpAny_mono h (fun b s' hp => wpAny_bind (wpAny_letTemporaryGo (wpAny_pure hp))) fun _ _ x => x))

theorem ev_slice_bad {lo hi st : Option Expr} {p : Pos} : ev C (.Slice lo hi st p) ns loc = M.bad := rfl

theorem ev_sub {o i : Expr} {pos : Pos} (ho : EvS prog w h₀ C n o) (hi : EvS prog w h₀ C n i) (he : ∀ (ns : Names) (loc : Loc), ev C (.Subscript o i pos) ns loc = (ev C o ns loc >>= fun a => ev C i ns loc >>= fun b => item a b)) : EvS prog w h₀ C n (.Subscript o i pos) := fun env ns loc σ ρ s A hA F iv => by
  rw [arm_eval_Subscript, he]
  refine Sim.bind (ho env ns loc σ ρ s A hA F iv) fun a σ₁ ρ₁ H₁ tk₁ va i₁ x₁ r₁ => ?_
  by_cases hsl : ∃ lo hi st p, i = .Slice lo hi st p
  · obtain ⟨lo, hi', st, p, rfl⟩ := hsl
    rw [ev_slice_bad, bind_bad rfl]; exact trivial
  · refine Sim.bind (Sim.holding (hi env ns loc σ₁ ρ₁ _ A hA (F.ext0 x₁) i₁)) fun b σ₂ ρ₂ H₂ tk₂ vb i₂ x₂ r₂ => ?_
    refine Sim.standAt (Sim.subTail (ops := [va, vb]) i₂ (r₁.ext x₂) (fun v σ' e => item_kind e) ?_ (Sim.item i₂ (r₁.ext x₂) r₂))
    cases i <;> first | rfl | exact absurd ⟨_, _, _, _, rfl⟩ hsl

variable (prog w h₀ C n) in
def EvOptS (o : Option Expr) : Prop := ∀ (env : Env) (ns : Names) (loc : Loc) (σ : Store) (ρ : Map) (s : Shared) (A : Around), Rm A n → Frm env ns loc ρ s.heap → Inv h₀ σ ρ s.heap →
  Sim prog w h₀ A [] (valueOrNone (evalOpt o env)) (evOpt C o ns loc σ) RV ρ s
theorem evOpt_none : EvOptS prog w h₀ C n none := fun env ns loc σ ρ s A hA F i => Sim.ret i .none
theorem evOpt_some {e : Expr} (h : EvS prog w h₀ C n e) : EvOptS prog w h₀ C n (some e) := fun env ns loc σ ρ s A hA F i => h env ns loc σ ρ s A hA F i

def RS : V × V → Map → Heap → Value → Prop := fun q ρ h iv => ∃ sl vl vu, iv = .ref sl ∧ h.IsSliceOf sl vl vu .none ∧ Rel ρ h vl q.1 ∧ Rel ρ h vu q.2

theorem slice_obj {lo hi : Option Expr} {p : Pos} (hlo : EvOptS prog w h₀ C n lo) (hhi : EvOptS prog w h₀ C n hi) (hA : Rm A n) (F : Frm env ns loc ρ s.heap) (iv : Inv h₀ σ ρ s.heap) :
    Sim prog w h₀ A [] (eval (.Slice lo hi none p) env) ((evOpt C lo ns loc >>= fun l => evOpt C hi ns loc >>= fun h => (Pure.pure (l, h) : M (V × V))) σ) RS ρ s := by
  rw [arm_eval_Slice]
  refine Sim.bind (hlo env ns loc σ ρ s A hA F iv) fun a σ₁ ρ₁ H₁ tk₁ va i₁ x₁ r₁ => ?_
  refine Sim.bind (Sim.holding (hhi env ns loc σ₁ ρ₁ _ A hA (F.ext0 x₁) i₁)) fun b σ₂ ρ₂ H₂ tk₂ vb i₂ x₂ r₂ => ?_
  refine Sim.grown (s := { s with heap := H₂, toks := tk₂ }) i₂ fun Q E hQ => ?_
  refine wpAny_bind (wpAny_holding (wpAny_pure (wpAny_newObj_type (T := "slice") ?_ (by show (3 : Nat) ≤ sizeLine + 2; decide))))
  have hk : ∀ b o, H₂.get? b = some o → (H₂.push { cls := .type "slice", data := .fields #[va, vb, .none] }).get? b = some o := fun b o e => Heap.get?_push_of_some _ e
  exact hQ _ _ tk₂ hk ⟨_, va, vb, rfl, Heap.IsSliceOf.new .., (r₁.ext x₂).sub (Sub.keeps hk), r₂.sub (Sub.keeps hk)⟩

theorem ev_slice {o : Expr} {lo hi : Option Expr} {p pos : Pos} (ho : EvS prog w h₀ C n o) (hlo : EvOptS prog w h₀ C n lo) (hhi : EvOptS prog w h₀ C n hi) : EvS prog w h₀ C n (.Subscript o (.Slice lo hi none p) pos) := fun env ns loc σ ρ s A hA F iv => by
  rw [arm_eval_Subscript]
  have e : ev C (.Subscript o (.Slice lo hi none p) pos) ns loc = (ev C o ns loc >>= fun a => (evOpt C lo ns loc >>= fun l => evOpt C hi ns loc >>= fun h => (Pure.pure (l, h) : M (V × V))) >>= fun q => bound q.1 >>= fun l' => bound q.2 >>= fun h' => sliceV l' h' a) := by
    show (ev C o ns loc >>= fun a => evOpt C lo ns loc >>= fun l => evOpt C hi ns loc >>= fun h => bound l >>= fun l' => bound h >>= fun h' => sliceV l' h' a) = _
    congr 1; funext a
    rw [M.assoc]; congr 1; funext l
    rw [M.assoc]; rfl
  rw [e]
  refine Sim.bind (ho env ns loc σ ρ s A hA F iv) fun a σ₁ ρ₁ H₁ tk₁ va i₁ x₁ r₁ => ?_
  refine Sim.bind (Sim.holding (slice_obj hlo hhi hA (F.ext0 x₁) i₁)) fun q σ₂ ρ₂ H₂ tk₂ vb i₂ x₂ r₂ => ?_
  obtain ⟨sl, vl, vu, rfl, hs, rl, ru⟩ := r₂
  refine Sim.standAt (Sim.bound (s := { s with heap := H₂, toks := tk₂ }) rl fun l' pl => Sim.bound (s := { s with heap := H₂, toks := tk₂ }) ru fun h' pu => ?_)
  exact Sim.subTail (ops := [.ref sl, va]) i₂ (r₁.ext x₂) (fun v σ' e => slice_kind e) rfl (Sim.slice (s := { s with heap := H₂, toks := tk₂ }) i₂ (r₁.ext x₂) hs pl pu)

/-! calls -/
variable (prog w h₀ mg C n) in
/-- the text's own defs are simulated -/
def CallS : Prop := ∀ (f : Str) (a : Addr) (args : List V) (vals : List Value) (σ : Store) (ρ : Map) (s : Shared) (A : Around), Rm A n → C.isFn f = true → mg f = some (.ref a) → RelAll ρ s.heap vals args → Inv h₀ σ ρ s.heap →
  Sim prog w h₀ A [] (call (.ref a) vals) (C.call f args σ) RV ρ s

theorem noStar {es : List Expr} {pos : Pos} : (∀ e ∈ es, ∀ v p, e ≠ .Starred v p) → (backTo pos (starEach es env)).any (·.1) = false ∧ (backTo pos (starEach es env)).all (fun x => !x.1) = true := by
  induction es with
  | nil => intro _; exact ⟨rfl, rfl⟩
  | cons e r ih =>
    intro h
    rw [starEach_cons (h e (by simp))]
    obtain ⟨h1, h2⟩ := ih fun e' he' => h e' (by simp [he'])
    refine ⟨?_, ?_⟩
    · show (false || (backTo pos (starEach r env)).any (·.1)) = false
      rw [h1]; rfl
    · show (true && (backTo pos (starEach r env)).all _) = true
      rw [h2]; rfl

theorem evs_star {es : List Expr} : (∃ e ∈ es, ∃ v p, e = .Starred v p) → ∀ σ, ∃ r, evs C es ns loc σ = r ∧ ∀ l σ', r ≠ .ok l σ' := by
  induction es with
  | nil => rintro ⟨e, he, _⟩; exact nomatch he
  | cons e r ih =>
    rintro ⟨e', he', v, p, rfl⟩ σ
    refine ⟨_, rfl, fun l σ' h => ?_⟩
    have h : ((ev C e ns loc >>= fun v => evs C r ns loc >>= fun vs => (Pure.pure (v :: vs) : M (List V))) σ) = .ok l σ' := h
    cases h1 : ev C e ns loc σ with
    | bad => rw [bind_bad h1] at h; cases h
    | exc _ _ => rw [bind_exc h1] at h; cases h
    | ok a σ₁ =>
      rw [bind_ok h1] at h
      rcases List.mem_cons.mp he' with rfl | hm
      · cases h1
      · obtain ⟨_, rfl, hn⟩ := ih ⟨_, hm, v, p, rfl⟩ σ₁
        cases h2 : evs C r ns loc σ₁ with
        | bad => rw [bind_bad h2] at h; cases h
        | exc _ _ => rw [bind_exc h2] at h; cases h
        | ok b σ₂ => exact hn _ _ h2

/-- arguments, then a call -/
theorem Sim.args {α : Type} {f : Value} {first : List Value} {es : List Expr} {pos : Pos} {k : List V → M α} {R : α → Map → Heap → Value → Prop} (hes : EvsS prog w h₀ C n es) (hA : Rm A n) (F : Frm env ns loc ρ s.heap) (i : Inv h₀ σ ρ s.heap)
    (hcw : ∀ (Q : Value → Shared → Prop) (E : Value → Shared → Prop), (∀ e ∈ es, ∀ v p, e ≠ .Starred v p) →
      wpAny (model prog w) A (spliced (backTo pos (starEach es env))) (fun vs s₁ => (∀ b o, h₀.get? b = some o → s₁.heap.get? b = some o) ∧ wpAny (model prog w) A (call f (first ++ vs)) Q E s₁) E s → wpAny (model prog w) A (callWith pos f first (backTo pos (starEach es env)) []) Q E s)
    (hk : ∀ l σ₁ ρ₁ H tk vs, Inv h₀ σ₁ ρ₁ H → Ext [] ρ s.heap ρ₁ H → RelAll ρ₁ H vs l → Sim prog w h₀ A [] (call f (first ++ vs)) (k l σ₁) R ρ₁ { s with heap := H, toks := tk }) :
    Sim prog w h₀ A [] (callWith pos f first (backTo pos (starEach es env)) []) ((evs C es ns loc >>= k) σ) R ρ s := by
  cases h1 : evs C es ns loc σ with
  | bad => rw [bind_bad h1]; exact trivial
  | exc _ _ => rw [bind_exc h1]; exact trivial
  | ok l σ₁ =>
    have hst : ∀ e ∈ es, ∀ v p, e ≠ .Starred v p := fun e he v p heq => by
      obtain ⟨_, rfl, hn⟩ := evs_star (C := C) (ns := ns) (loc := loc) ⟨e, he, v, p, heq⟩ σ
      exact hn _ _ h1
    rw [bind_ok h1]
    cases h2 : k l σ₁ with
    | bad => exact trivial
    | exc _ _ => exact trivial
    | ok v σ₂ =>
      refine hcw _ _ hst ?_
      have := hes env ns loc σ ρ s A pos hA F i
      rw [h1] at this
      refine wpAny_mono this (fun vs s₁ hp => ?_) fun _ _ x => x.elim
      obtain ⟨ρ₁, H, tk, rfl, i₁, x₁, r₁⟩ := hp
      refine ⟨i₁.base, ?_⟩
      have := hk l σ₁ ρ₁ H tk vs i₁ x₁ r₁
      rw [h2] at this
      refine wpAny_mono this (fun b s' hp => ?_) fun _ _ x => x
      obtain ⟨ρ₂, H₂, tk₂, rfl, i₂, x₂, r₂⟩ := hp
      exact ⟨ρ₂, H₂, tk₂, rfl, i₂, x₁.trans x₂, r₂⟩
end

end Mine

namespace Mine
open PySem PyProof.Rows

theorem bb_len : bootBuiltins ("len" : Str) = some (.builtin "len") := by decide +kernel
theorem bb_list : bootBuiltins ("list" : Str) = some (.type "list") := by decide +kernel
theorem bb_tuple : bootBuiltins ("tuple" : Str) = some (.type "tuple") := by decide +kernel
theorem bb_isinstance : bootBuiltins ("isinstance" : Str) = some (.builtin "isinstance") := by decide +kernel
theorem bb_bool : bootBuiltins ("bool" : Str) = some (.type "bool") := by decide +kernel
theorem bb_int : bootBuiltins ("int" : Str) = some (.type "int") := by decide +kernel
theorem bb_str : bootBuiltins ("str" : Str) = some (.type "str") := by decide +kernel
theorem bb_range : bootBuiltins ("range" : Str) = some (.type "range") := by decide +kernel
theorem bb_enumerate : bootBuiltins ("enumerate" : Str) = some (.type "enumerate") := by decide +kernel

section
variable {prog : Program} {w : World} {h₀ : Heap} {A : Around} {W : List Addr} {ρ : Map} {s : Shared} {σ : Store} {fns : Str → Option Fn} {glob : Str → Option V} {mg mb : Str → Option Value}
variable {env : Env} {ns : Names} {loc : Loc} {C : Cfg} {n : Nat}

theorem evalArgs_any {f : Value} {es : List Expr} {pos : Pos} {Q : Args → Shared → Prop} {E : Value → Shared → Prop} (hst : ∀ e ∈ es, ∀ v p, e ≠ .Starred v p)
    (h : wpAny (model prog w) A (spliced (backTo pos (starEach es env))) (fun vs s' => Q ⟨vs, []⟩ s') E s) : wpAny (model prog w) A (evalArgs f true (backTo pos (starEach es env)) []) Q E s := by
  cases es with
  | nil =>
    unfold evalArgs
    show wpAny _ A (spliced [] >>= _) Q E s
    refine wpAny_bind (wpAny_mono h (fun vs s' h' => ?_) fun _ _ x => x)
    exact wpAny_bind (wpAny_pure (wpAny_holding (wpAny_bind (wpAny_pure (wpAny_bind (wpAny_pure (wpAny_pure h')))))))
  | cons e r =>
    rw [starEach_cons (hst e (by simp))] at h ⊢
    exact Calls.evalArgs_plain h

theorem cw_function {pos : Pos} {a : Addr} {o : Obj} {fd : FuncData} {first : List Value} {es : List Expr} {Q : Value → Shared → Prop} {E : Value → Shared → Prop} (ho : h₀.get? a = some o) (hd : o.data = .func fd) (hst : ∀ e ∈ es, ∀ v p, e ≠ .Starred v p)
    (h : wpAny (model prog w) A (spliced (backTo pos (starEach es env))) (fun vs s₁ => (∀ b o, h₀.get? b = some o → s₁.heap.get? b = some o) ∧ wpAny (model prog w) A (call (.ref a) (first ++ vs)) Q E s₁) E s) :
    wpAny (model prog w) A (callWith pos (.ref a) first (backTo pos (starEach es env)) []) Q E s :=
  Calls.callWith_function (o := o) (fd := fd) (evalArgs_any hst (wpAny_mono h (fun vs s₁ h₁ => ⟨⟨h₁.1 _ _ ho, hd⟩, h₁.2⟩) fun _ _ x => x))
theorem cw_builtin {pos : Pos} {id : String} {first : List Value} {es : List Expr} {Q : Value → Shared → Prop} {E : Value → Shared → Prop} (hst : ∀ e ∈ es, ∀ v p, e ≠ .Starred v p)
    (h : wpAny (model prog w) A (spliced (backTo pos (starEach es env))) (fun vs s₁ => (∀ b o, h₀.get? b = some o → s₁.heap.get? b = some o) ∧ wpAny (model prog w) A (call (.builtin id) (first ++ vs)) Q E s₁) E s) :
    wpAny (model prog w) A (callWith pos (.builtin id) first (backTo pos (starEach es env)) []) Q E s :=
  Calls.callWith_builtin (noStar hst).1 (evalArgs_any hst (wpAny_mono h (fun vs s₁ h₁ => h₁.2) fun _ _ x => x))
theorem cw_type {pos : Pos} {T : String} {first : List Value} {es : List Expr} {Q : Value → Shared → Prop} {E : Value → Shared → Prop} (hst : ∀ e ∈ es, ∀ v p, e ≠ .Starred v p)
    (h : wpAny (model prog w) A (spliced (backTo pos (starEach es env))) (fun vs s₁ => (∀ b o, h₀.get? b = some o → s₁.heap.get? b = some o) ∧ wpAny (model prog w) A (call (.type T) (first ++ vs)) Q E s₁) E s) :
    wpAny (model prog w) A (callWith pos (.type T) first (backTo pos (starEach es env)) []) Q E s :=
  PyProof.Rows.callWith_type (noStar hst).1 (evalArgs_any hst (wpAny_mono h (fun vs s₁ h₁ => h₁.2) fun _ _ x => x))

/-- a built-in's call, by what its name stands for -/
theorem Sim.blt {f : Str} {fv : Value} {vals : List Value} {vs : List V} (hb : bootBuiltins f = some fv) (i : Inv h₀ σ ρ s.heap) (r : RelAll ρ s.heap vals vs) :
    Sim prog w h₀ A W (call fv vals) (blt f vs σ) RV ρ s := by
  unfold Mine.blt
  split
  · cases r with
    | cons ra rn =>
    cases rn
    by_cases h1 : f = ("len" : Str)
    · rw [if_pos h1]; subst h1; rw [bb_len] at hb; cases hb; exact Sim.bLen i ra
    · rw [if_neg h1]
      by_cases h2 : f = ("list" : Str)
      · rw [if_pos h2]; subst h2; rw [bb_list] at hb; cases hb; exact Sim.bList i ra
      · rw [if_neg h2]
        by_cases h3 : f = ("tuple" : Str)
        · rw [if_pos h3]; subst h3; rw [bb_tuple] at hb; cases hb; exact Sim.bTuple i ra
        · rw [if_neg h3]; exact trivial
  · exact trivial

/-- the names that blt serves -/
theorem blt_name {f : Str} {vs : List V} {v : V} {σ' : Store} (h : blt f vs σ = .ok v σ') : f ∈ bltNames ∧ ((∃ id, bootBuiltins f = some (.builtin id)) ∨ ∃ T, bootBuiltins f = some (.type T)) := by
  unfold Mine.blt at h
  split at h
  · by_cases h1 : f = ("len" : Str)
    · subst h1; exact ⟨by decide +kernel, .inl ⟨_, bb_len⟩⟩
    · rw [if_neg h1] at h
      by_cases h2 : f = ("list" : Str)
      · subst h2; exact ⟨by decide +kernel, .inr ⟨_, bb_list⟩⟩
      · rw [if_neg h2] at h
        by_cases h3 : f = ("tuple" : Str)
        · subst h3; exact ⟨by decide +kernel, .inr ⟨_, bb_tuple⟩⟩
        · rw [if_neg h3] at h; cases h
  · cases h

theorem Sim.ite2 {α β : Type} {t : Sem β} {c : Prop} [Decidable c] {m k : M α} {R : α → Map → Heap → β → Prop} (h : c → Sim prog w h₀ A W t (m σ) R ρ s) (h' : ¬ c → Sim prog w h₀ A W t (k σ) R ρ s) : Sim prog w h₀ A W t ((if c then m else k) σ) R ρ s := by
  by_cases hc : c
  · rw [if_pos hc]; exact h hc
  · rw [if_neg hc]; exact h' hc

theorem Call_name (f : Str) (p pos : Pos) (es : List Expr) : eval (.Call (.Name f p) es [] pos) env = (eval (.Name f p) env >>= fun fv => callWith pos fv [] (backTo pos (starEach es env)) []) := rfl

/-- the value of a name is at hand, the state stays -/
theorem Sim.head {α β : Type} {t : Sem Value} {v : Value} {f : Value → Sem β} {r : Res α} {R : α → Map → Heap → β → Prop} (ht : ∀ (Q : Value → Shared → Prop) (E : Value → Shared → Prop), Q v s → wpAny (model prog w) A t Q E s)
    (h : Sim prog w h₀ A W (f v) r R ρ s) : Sim prog w h₀ A W (t >>= f) r R ρ s := by
  cases r with
  | bad => exact trivial
  | exc _ _ => exact trivial
  | ok a σ' => exact wpAny_bind (ht _ _ h)

theorem kd_names {t : Str} {k : Kd} (h : kdOf t = some k) : t ∈ bltNames ∧ bootBuiltins t = some (.type (kdName k)) := by
  unfold kdOf at h
  by_cases h1 : t = ("bool" : Str)
  · rw [if_pos h1] at h; cases h; subst h1; exact ⟨by decide +kernel, bb_bool⟩
  · rw [if_neg h1] at h
    by_cases h1 : t = ("int" : Str)
    · rw [if_pos h1] at h; cases h; subst h1; exact ⟨by decide +kernel, bb_int⟩
    · rw [if_neg h1] at h
      by_cases h1 : t = ("str" : Str)
      · rw [if_pos h1] at h; cases h; subst h1; exact ⟨by decide +kernel, bb_str⟩
      · rw [if_neg h1] at h
        by_cases h1 : t = ("tuple" : Str)
        · rw [if_pos h1] at h; cases h; subst h1; exact ⟨by decide +kernel, bb_tuple⟩
        · rw [if_neg h1] at h
          by_cases h1 : t = ("list" : Str)
          · rw [if_pos h1] at h; cases h; subst h1; exact ⟨by decide +kernel, bb_list⟩
          · rw [if_neg h1] at h; cases h

/-- no def of the text's own bears a built-in's name -/
def NoShadow (fns : Str → Option Fn) : Prop := ∀ f ∈ bltNames, fns f = none

theorem ev_isinstance {f t : Str} {a : Expr} {p q pos : Pos} (B : Base fns glob mg mb h₀) (hns : NoShadow fns) (ha : EvS prog w h₀ C n a) (hA : Rm A n) (F : Frm env ns loc ρ s.heap) (i : Inv h₀ σ ρ s.heap) (hf : isGlob ns f = true) (hfi : f = ("isinstance" : Str)) (ht : isGlob ns t = true) :
    Sim prog w h₀ A [] (eval (.Call (.Name f p) [a, .Name t q] [] pos) env) ((ev C a ns loc >>= fun v => ofOpt (kdOf t) >>= fun k => isKd k v) σ) RV ρ s := by
  rw [Call_name]
  subst hfi
  refine Sim.head (v := .builtin "isinstance") (fun Q E h => wp_builtin B F i hf (by decide +kernel) (hns _ (by decide +kernel)) bb_isinstance h) ?_
  by_cases hst : ∃ v p, a = .Starred v p
  · obtain ⟨v, p, rfl⟩ := hst
    rw [bind_bad rfl]; exact trivial
  · rw [starEach_cons (fun v p e' => hst ⟨v, p, e'⟩)]
    cases hk : kdOf t with
    | none =>
      cases h1 : ev C a ns loc σ with
      | bad => rw [bind_bad h1]; exact trivial
      | exc _ _ => rw [bind_exc h1]; exact trivial
      | ok v σ₁ => rw [bind_ok h1]; exact trivial
    | some k =>
      obtain ⟨hn, hb⟩ := kd_names hk
      cases h1 : ev C a ns loc σ with
      | bad => rw [bind_bad h1]; exact trivial
      | exc _ _ => rw [bind_exc h1]; exact trivial
      | ok v σ₁ =>
        rw [bind_ok h1]
        show Sim prog w h₀ A [] _ (isKd k v σ₁) RV ρ s
        cases h2 : isKd k v σ₁ with
        | bad => exact trivial
        | exc _ _ => exact trivial
        | ok u σ₂ =>
          refine Calls.callWith_builtin (by rfl) (Calls.evalArgs_plain (Calls.spliced_cons ?_))
          have := ha env ns loc σ ρ s A hA F i
          rw [h1] at this
          refine wpAny_mono this (fun val s₁ hp => ?_) fun _ _ x => x.elim
          obtain ⟨ρ₁, H, tk, rfl, i₁, x₁, r₁⟩ := hp
          show wpAny _ A (spliced [(false, eval (.Name t q) env)]) _ _ _
          refine Calls.spliced_cons (wp_builtin B (F.ext0 x₁) i₁ ht hn (hns _ hn) hb (Calls.spliced_nil ?_))
          have hs := Sim.isKd (prog := prog) (w := w) (A := A) (W := []) (s := { s with heap := H, toks := tk }) (k := k) i₁ r₁
          rw [h2] at hs
          refine wpAny_mono hs (fun b s' hp => ?_) fun _ _ x => x
          obtain ⟨ρ₂, H₂, tk₂, rfl, i₂, x₂, r₂⟩ := hp
          exact ⟨ρ₂, H₂, tk₂, rfl, i₂, x₁.trans x₂, r₂⟩

variable (prog w h₀ C n) in
def IsiS (es : List Expr) : Prop := ∀ (f : Str) (p pos : Pos) (env : Env) (ns : Names) (loc : Loc) (σ : Store) (ρ : Map) (s : Shared) (A : Around), Rm A n → Frm env ns loc ρ s.heap → Inv h₀ σ ρ s.heap → isGlob ns f = true → f = ("isinstance" : Str) →
  Sim prog w h₀ A [] (eval (.Call (.Name f p) es [] pos) env) (evIsi C es ns loc σ) RV ρ s
theorem isi_two {a : Expr} {t : Str} {q : Pos} (B : Base fns glob mg mb h₀) (hns : NoShadow fns) (ha : EvS prog w h₀ C n a) : IsiS prog w h₀ C n [a, .Name t q] := fun f p pos env ns loc σ ρ s A hA F i hf hi =>
  Sim.ite fun ht => ev_isinstance B hns ha hA F i hf hi ht

theorem ev_callName {f : Str} {es : List Expr} {p pos : Pos} (B : Base fns glob mg mb h₀) (hfn : ∀ f, C.isFn f = (fns f).isSome) (hC : CallS prog w h₀ mg C n) (hes : EvsS prog w h₀ C n es)
    (hisi : IsiS prog w h₀ C n es) : EvS prog w h₀ C n (.Call (.Name f p) es [] pos) := fun env ns loc σ ρ s A hA F i => by
  show Sim prog w h₀ A [] _ ((if isGlob ns f = true then
      (if f = ("isinstance" : Str) then evIsi C es ns loc
      else (evs C es ns loc >>= fun vs => callGlob C f vs)) else M.bad) σ) RV ρ s
  refine Sim.ite fun hf => Sim.ite2 (fun hi => hisi f p pos env ns loc σ ρ s A hA F i hf hi) fun hi => ?_
  · rw [Call_name]
    cases hfun : fns f with
    | some fn =>
      obtain ⟨a, o, fd, hm, ho, hd, hok, hcd⟩ := B.fn f fn hfun
      have hisf : C.isFn f = true := by rw [hfn, hfun]; rfl
      refine Sim.head (v := .ref a) (fun Q E h => wp_global B F i hf hm h) ?_
      refine Sim.args hes hA F i (fun Q E hst h => cw_function ho hd hst h) fun l σ₁ ρ₁ H tk vs i₁ x₁ r₁ => ?_
      show Sim prog w h₀ A [] _ ((if C.isFn f = true then C.call f l else blt f l) σ₁) RV ρ₁ _
      rw [if_pos hisf]
      exact hC f a l vs σ₁ ρ₁ _ A hA hisf hm r₁ i₁
    | none =>
      have hisf : C.isFn f = false := by rw [hfn, hfun]; rfl
      have e : callGlob C f = blt f := by funext l; unfold callGlob; rw [hisf]; rfl
      rw [e]
      cases h1 : evs C es ns loc σ with
      | bad => rw [bind_bad h1]; exact trivial
      | exc _ _ => rw [bind_exc h1]; exact trivial
      | ok l₀ σ₀ =>
        cases h2 : blt f l₀ σ₀ with
        | bad => rw [bind_ok h1, h2]; exact trivial
        | exc _ _ => rw [bind_ok h1, h2]; exact trivial
        | ok u σ₂ =>
          obtain ⟨hn, hb⟩ := blt_name h2
          rcases hb with ⟨id, hb⟩ | ⟨T, hb⟩
          · refine Sim.head (v := .builtin id) (fun Q E h => wp_builtin B F i hf hn hfun hb h) ?_
            exact Sim.args hes hA F i (fun Q E hst h => cw_builtin hst h) fun l σ₁ ρ₁ H tk vs i₁ x₁ r₁ => Sim.blt hb i₁ r₁
          · refine Sim.head (v := .type T) (fun Q E h => wp_builtin B F i hf hn hfun hb h) ?_
            exact Sim.args hes hA F i (fun Q E hst h => cw_type hst h) fun l σ₁ ρ₁ H tk vs i₁ x₁ r₁ => Sim.blt hb i₁ r₁
end

end Mine

namespace Mine
open PySem PyProof.Rows

section
variable {prog : Program} {w : World} {h₀ : Heap} {A : Around} {W : List Addr} {ρ : Map} {s : Shared} {σ : Store} {fns : Str → Option Fn} {glob : Str → Option V} {mg mb : Str → Option Value}
variable {env : Env} {ns : Names} {loc : Loc} {C : Cfg} {n : Nat}

theorem attributeBase_plain {o : Expr} {m : Str} {whole : Sem Value} (h : isSuper o = false) : attributeBase o m env whole = whole := by
  cases o with
  | Call f as ks p =>
    cases f <;> first | rfl | (cases as <;> first | rfl | (cases ks <;> first | rfl | cases h))
  | _ => rfl

def MTag.T : MTag → String
  | .append => "list"
  | .join => "str"
def MTag.name : MTag → Str
  | .append => "append"
  | .join => "join"
def MTag.id : MTag → String
  | .append => "list.append"
  | .join => "str.join"
theorem MTag.attrs (t : MTag) : PlainAttrs t.T := by
  cases t with
  | append => exact F.plainAttrs_list
  | join => exact F.plainAttrs_str
theorem MTag.slot (t : MTag) : Slot t.T t.name t.id := by
  cases t with
  | append => exact F.slot_list_append
  | join => exact F.slot_str_join
theorem MTag.type (t : MTag) : typeOf (.builtin t.id) = pure (.type "method_descriptor") := by
  cases t with
  | append => exact F.type_list_append
  | join => exact F.type_str_join

theorem mtag_is {v : Value} {x : V} {m : Str} {t : MTag} (i : Inv h₀ σ ρ s.heap) (r : Rel ρ s.heap v x) (h : mtag x m σ = some t) : m = t.name ∧ s.TypeIs v t.T ∧ ∀ a, v = .ref a → ∃ o, s.heap.get? a = some o ∧ o.dict = none := by
  unfold mtag at h
  split at h
  · cases r with
    | str _ tk _ =>
    split at h
    · cases h; exact ⟨by assumption, typeIs_str s _ tk, fun _ e => nomatch e⟩
    · cases h
  · cases r with
    | ref er =>
    rename_i k a d
    cases e : σ[k]? with
    | none => rw [e] at h; cases h
    | some o =>
      rw [e] at h
      cases o with
      | list l =>
        obtain ⟨_, vs, j, g, hl, ra⟩ := i.list e er
        dsimp only at h
        split at h
        · cases h
          exact ⟨by assumption, (isList_of g).typeIs, fun b e => by cases e; exact ⟨_, g, rfl⟩⟩
        · cases h
      | dict _ => cases h
      | inst _ _ => cases h
  · cases h

theorem Sim.runM {t : MTag} {v : Value} {x : V} {vals : List Value} {vs : List V} (i : Inv h₀ σ ρ s.heap) (r : Rel ρ s.heap v x) (rs : RelAll ρ s.heap vals vs) : Sim prog w h₀ A W (call (.builtin t.id) (v :: vals)) (runM t x vs σ) RV ρ s := by
  unfold Mine.runM
  split
  · cases rs with
    | cons ra rn => cases rn; exact Sim.mAppend i r ra
  · cases rs with
    | cons ra rn => cases rn; exact Sim.mJoin i r ra
  · exact trivial

theorem ev_callMeth {o : Expr} {m : Str} {ap pos : Pos} {es : List Expr} (ho : EvS prog w h₀ C n o) (hes : EvsS prog w h₀ C n es) : EvS prog w h₀ C n (.Call (.Attribute o m ap) es [] pos) := fun env ns loc σ ρ s A hA F i => by
  show Sim prog w h₀ A [] _ ((if ap.endLine = pos.line ∧ es.length < 30 ∧ isSuper o = false then (ev C o ns loc >>= fun v => askS (mtag v m) >>= fun tg => evs C es ns loc >>= fun vs => runM tg v vs) else M.bad) σ) RV ρ s
  refine Sim.ite fun hc => ?_
  obtain ⟨h1, h2, h3⟩ := hc
  rw [arm_eval_Call, attributeBase_plain h3]
  refine Sim.bind (ho env ns loc σ ρ s A hA F i) fun a σ₁ ρ₁ H₁ tk₁ va i₁ x₁ r₁ => Sim.standAt ?_
  cases ht : mtag a m σ₁ with
  | none => rw [bind_bad (by unfold askS; rw [ht])]; exact trivial
  | some t =>
    rw [bind_ok (a := t) (σ' := σ₁) (by unfold askS; rw [ht])]
    obtain ⟨hm, hT, hd⟩ := mtag_is (s := { s with heap := H₁, toks := tk₁ }) i₁ r₁ ht
    subst hm
    cases h4 : evs C es ns loc σ₁ with
    | bad => rw [bind_bad h4]; exact trivial
    | exc _ _ => rw [bind_exc h4]; exact trivial
    | ok l σ₂ =>
      have hst : ∀ e ∈ es, ∀ v p, e ≠ .Starred v p := fun e he v p heq => by
        obtain ⟨_, rfl, hn⟩ := evs_star (C := C) (ns := ns) (loc := loc) ⟨e, he, v, p, heq⟩ σ₁
        exact hn _ _ h4
      have hform : methodCallForm (es.length + ([] : List Keyword).length) (backTo pos (starEach es env)) (backToKw pos (keywordEach [] env)) = true := by
        show ((backTo pos (starEach es env)).all (fun x => !x.1) && true && decide (es.length + 0 + 0 < 30)) = true
        rw [(noStar hst).2]; simpa using h2
      have hpos : methodCallPos true o env ap pos = pure pos := by
        unfold methodCallPos
        rw [if_pos (by simp [h1])]
      refine Sim.wrap (t := callWith pos (.builtin t.id) [va] (backTo pos (starEach es env)) []) (fun Q E h => ?_) ?_
      · unfold methodCall
        rw [hform]
        refine wpAny_bind (wpAny_holding (getMethod_builtin hT t.attrs t.slot t.type hd ?_))
        exact wpAny_bind (wpAny_of_eq hpos h)
      · exact Sim.args hes hA (F.ext0 x₁) i₁ (fun Q E hst h => cw_builtin hst h) fun l σ₁ ρ₁ H tk vs i₁ x₁ r => Sim.runM i₁ (r₁.ext x₁) r
end

end Mine

namespace Mine
open PySem PyProof.Rows

/-! ## walks -/
/-- all but some addresses stay -/
def KeepBut (wr : List Addr) (h h' : Heap) : Prop := ∀ b o, b ∉ wr → h.get? b = some o → h'.get? b = some o

section
variable {prog : Program} {w : World} {h₀ hb : Heap} {A : Around} {W wr : List Addr} {ρ ρ' ρb : Map} {h h' : Heap} {s : Shared} {σ : Store}

theorem KeepBut.refl : KeepBut wr h h := fun _ _ _ e => e
theorem KeepBut.trans {h'' : Heap} (x : KeepBut wr h h') (y : KeepBut wr h' h'') : KeepBut wr h h'' := fun b o hb e => y b o hb (x b o hb e)
theorem KeepBut.of_but {a : Addr} (x : Heap.ExtBut a h h') (ha : a ∈ wr) : KeepBut wr h h' := fun b o hb e => x b o (fun eq => hb (eq ▸ ha)) e

theorem Ext.but (x : Ext W ρb hb ρ h) (hk : KeepBut wr h h') (hd : ∀ b ∈ wr, hb.get? b = none) : Ext W ρb hb ρ h' := by
  have out : ∀ b o, hb.get? b = some o → b ∉ wr := fun b o e hm => by rw [hd b hm] at e; cases e
  exact {
    pre := x.pre
    keep := fun b o e hW hρ => hk b o (out b o e) (x.keep b o e hW hρ)
    tups := fun b vs n e => hk b _ (out b _ e) (x.tups b vs n e)
    alive := fun b o e => let ⟨o', e'⟩ := x.alive b o e; ⟨o', hk b o' (out b o e) e'⟩
    new := x.new }

/-- the walker's own objects: off the store, and no tuples -/
def Own (wr : List Addr) (ρ : Map) (h : Heap) : Prop := ∀ b ∈ wr, offMap ρ b ∧ ∃ o, h.get? b = some o ∧ ∀ vs n, o ≠ tupO vs n

theorem KeepBut.sub (hk : KeepBut wr h h') (ho : Own wr ρ h) : Sub ρ h ρ h' := ⟨fun _ _ e => e, fun b vs n e => hk b _ (fun hm => by
  obtain ⟨_, o, e', hn⟩ := ho b hm
  rw [e] at e'; cases e'; exact hn vs n rfl) e⟩

theorem Inv.but (i : Inv h₀ σ ρ h) (hk : KeepBut wr h h') (ho : Own wr ρ h) (h0 : ∀ b ∈ wr, h₀.get? b = none) : Inv h₀ σ ρ h' where
  base := fun b o e => hk b o (fun hm => by rw [h0 b hm] at e; cases e) (i.base b o e)
  len := i.len
  objs := fun n o p e1 e2 => (i.objs n o p e1 e2).sub (hk.sub ho) (fun ob g => hk _ _ (fun hm => ((ho _ hm).1 p (List.mem_of_getElem? e2)).1 rfl) g) (fun ob g => hk _ _ (fun hm => ((ho _ hm).1 p (List.mem_of_getElem? e2)).2 rfl) g)
  fresh := i.fresh
  apart := i.apart

/-- a frame off the walker's objects stays -/
theorem Frm.but {env : Env} {ns : Names} {loc : Loc} (F : Frm env ns loc ρ h) (hk : KeepBut wr h h') (ho : Own wr ρ h) (hf : ∀ b ∈ wr, offFrame env b) : Frm env ns loc ρ h' := by
  have hloc : env.locals ∉ wr := fun hm => (hf _ hm).1 rfl
  have hcell : ∀ x c, env.cells.lookup x = some c → c ∉ wr := fun x c e hm => (hf _ hm).2 x c e rfl
  have hs := hk.sub ho
  exact {
    names := F.names
    kind := F.kind
    globals := F.globals
    blts := F.blts
    vars := by
      obtain ⟨m, hn, hv⟩ := F.vars
      obtain ⟨o, es, ep, ho, r⟩ := hn
      refine ⟨m, ⟨o, es, ep, hk _ _ hloc ho, r⟩, fun y i v h1 h2 => ?_⟩
      obtain ⟨val, e, hr⟩ := hv y i v h1 h2
      exact ⟨val, e, hr.sub hs⟩
    cell := fun y i h1 => by
      obtain ⟨c, o, e, ⟨ob, hob, hd⟩, hv⟩ := F.cell y i h1
      refine ⟨c, o, e, ⟨ob, hk _ _ (hcell _ _ e) hob, hd⟩, fun v hl => ?_⟩
      obtain ⟨val, e', hr⟩ := hv v hl
      exact ⟨val, e', hr.sub hs⟩
    live := fun y c e => by
      obtain ⟨o, ob, hob, hd⟩ := F.live y c e
      exact ⟨o, ob, hk _ _ (hcell _ _ e) hob, hd⟩
    offL := F.offL
    offC := F.offC
    apart := F.apart }

/-- a walker at a turn -/
inductive ItAt : Src → Value → List Addr → Nat → Map → Heap → Prop
  | tup {l : List V} {I t : Addr} {vs : List Value} {n i : Nat} {ρ : Map} {h : Heap} : h.IsTupleIter I t i → h.get? t = some (tupO vs n) → RelAll ρ h vs l → offMap ρ I → ItAt (.vals l) (.ref I) [I] i ρ h
  | range {a b : Int} {I : Addr} {i : Nat} {ρ : Map} {h : Heap} : IsRangeIter h I (a + i) (((b - a).toNat : Int) - i) 1 → offMap ρ I → ItAt (.vals (rangeV a b)) (.ref I) [I] i ρ h
  | lst {n : Nat} {I l d : Addr} {i : Nat} {ρ : Map} {h : Heap} : h.IsListIter I l i → ρ[n]? = some (l, d) → offMap ρ I → ItAt (.lst n) (.ref I) [I] i ρ h
  | enum {n : Nat} {e I l d : Addr} {i : Nat} {old : Value} {ρ : Map} {h : Heap} : IsEnum h e I i old → h.IsListIter I l i → ρ[n]? = some (l, d) → e ≠ I → offMap ρ e → offMap ρ I → ItAt (.enum n) (.ref e) [e, I] i ρ h

theorem IsTupleIter.keep {I t : Addr} {i : Nat} (x : h.IsTupleIter I t i) (e : ∀ o, h.get? I = some o → h'.get? I = some o) : h'.IsTupleIter I t i := let ⟨o, ho, r⟩ := x; ⟨o, e _ ho, r⟩

theorem ItAt.own {sr : Src} {it : Value} {i : Nat} (x : ItAt sr it wr i ρ h) : Own wr ρ h := by
  cases x with
  | tup hit _ _ off =>
    obtain ⟨o, ho, hc, hd⟩ := hit
    intro b hb
    rw [List.mem_singleton.mp hb]
    exact ⟨off, o, ho, fun vs n e => by rw [e] at hc; exact absurd (Value.type.inj hc) (by decide)⟩
  | range hit off =>
    intro b hb
    rw [List.mem_singleton.mp hb]
    exact ⟨off, _, hit, fun vs n e => absurd (Value.type.inj (congrArg Obj.cls e)) (by decide)⟩
  | lst hit _ off =>
    obtain ⟨o, ho, hc, hd⟩ := hit
    intro b hb
    rw [List.mem_singleton.mp hb]
    exact ⟨off, o, ho, fun vs n e => by rw [e] at hc; exact absurd (Value.type.inj hc) (by decide)⟩
  | enum he hit _ hne offe off =>
    obtain ⟨o, ho, hc, hd⟩ := hit
    intro b hb
    rcases List.mem_cons.mp hb with rfl | hb
    · exact ⟨offe, _, he, fun vs n e => absurd (Value.type.inj (congrArg Obj.cls e)) (by decide)⟩
    · rw [List.mem_singleton.mp hb]
      exact ⟨off, o, ho, fun vs n e => by rw [e] at hc; exact absurd (Value.type.inj hc) (by decide)⟩

theorem ItAt.ext {sr : Src} {it : Value} {i : Nat} (x : Ext W ρ h ρ' h') (hW : ∀ b ∈ wr, b ∉ W) (r : ItAt sr it wr i ρ h) : ItAt sr it wr i ρ' h' := by
  have ho := r.own
  have hk : ∀ b ∈ wr, ∀ o, h.get? b = some o → h'.get? b = some o := fun b hb o e => x.keep b o e (hW b hb) (ho b hb).1
  have hoff : ∀ b ∈ wr, offMap ρ' b := fun b hb => by
    obtain ⟨off, o, e, _⟩ := ho b hb
    exact offMap.ext x e off
  cases r with
  | tup hit g ra off => exact .tup (IsTupleIter.keep hit (hk _ (List.mem_singleton.mpr rfl))) (x.tups _ _ _ g) (ra.ext x) (hoff _ (List.mem_singleton.mpr rfl))
  | range hit off => exact .range (hk _ (List.mem_singleton.mpr rfl) _ hit) (hoff _ (List.mem_singleton.mpr rfl))
  | lst hit e off => exact .lst (hit.at (hk _ (List.mem_singleton.mpr rfl))) (x.pre _ _ e) (hoff _ (List.mem_singleton.mpr rfl))
  | enum he hit e hne offe off =>
    exact .enum (hk _ (List.mem_cons_self ..) _ he) (hit.at (hk _ (List.mem_cons_of_mem _ (List.mem_singleton.mpr rfl)))) (x.pre _ _ e) hne (hoff _ (List.mem_cons_self ..)) (hoff _ (List.mem_cons_of_mem _ (List.mem_singleton.mpr rfl)))

theorem letGo_plain {target : Expr} {I : Addr} {v : Value} {o : Obj} {T : String} {Q : Unit → Shared → Prop} {E : Value → Shared → Prop} (ho : s.heap.get? I = some o) (hc : o.cls = .type T)
    (hT : ["enumerate", "zip", "dict_itemiterator", "dict_reverseitemiterator", "odict_iterator", "itertools.zip_longest", "itertools.pairwise"].contains T = false) (h : Q () s) : wpAny (model prog w) A (letOwnedTupleGo target (.ref I) v) Q E s := by
  have key : ∀ f : Expr, (letOwnedTupleGo f (.ref I) v = Pure.pure () ∨ letOwnedTupleGo f (.ref I) v = (match v with
      | .ref a => (load I >>= fun o => match o.cls, o.data with
        | .type n, .fields vs => if (["enumerate", "zip", "dict_itemiterator", "dict_reverseitemiterator", "odict_iterator", "itertools.zip_longest", "itertools.pairwise"].contains n && vs[0]? == some (rawInt a)) = true then
            (rule "for.unpacks-the-owned-tuple" >>= fun _ => updateField I 0 .none) else Pure.pure ()
        | _, _ => Pure.pure ())
      | _ => Pure.pure ())) := by
    intro f
    cases f <;> first | exact .inl rfl | (right; cases v <;> rfl)
  rcases key target with e | e
  · rw [e]; exact wpAny_pure h
  · rw [e]
    cases v with
    | ref a =>
      refine wpAny_bind (wpAny_load ho ?_)
      rw [hc]
      cases o.data with
      | fields vs =>
        show wpAny _ _ (if (["enumerate", "zip", "dict_itemiterator", "dict_reverseitemiterator", "odict_iterator", "itertools.zip_longest", "itertools.pairwise"].contains T && _) = true then _ else _) _ _ _
        rw [hT]
        exact wpAny_pure h
      | _ => exact wpAny_pure h
    | _ => exact wpAny_pure h

theorem rangeV_get (a b : Int) (i : Nat) : (rangeV a b)[i]? = if i < (b - a).toNat then some (.int (a + i)) else none := by
  unfold rangeV
  rw [List.getElem?_map]
  by_cases h : i < (b - a).toNat
  · rw [if_pos h, List.getElem?_range h]; rfl
  · rw [if_neg h, List.getElem?_eq_none (by simpa using h)]; rfl

theorem listAt_some {n : Nat} {o : Option (Option V)} {f : List V → Option V} {r : Option V} (h : (listAt σ n).map f = some r) : ∃ l, σ[n]? = some (.list l) ∧ f l = r := by
  unfold listAt at h
  cases e : σ[n]? with
  | none => rw [e] at h; cases h
  | some ob =>
    rw [e] at h
    cases ob with
    | list l => exact ⟨l, rfl, Option.some.inj h⟩
    | dict _ => cases h
    | inst _ _ => cases h

/-- a turn of a walk -/
theorem ItAt.next {sr : Src} {it : Value} {i : Nat} {o : Option V} {target : Expr} {Q : Option Value → Shared → Prop} {E : Value → Shared → Prop} (hA : A.handled = none) (x : ItAt sr it wr i ρ s.heap) (iv : Inv h₀ σ ρ s.heap) (e : sr.at σ i = some o)
    (htg : tgtOk sr target = true)
    (h1 : ∀ h', o = none → KeepBut wr s.heap h' → Q none { s with heap := h' })
    (h2 : ∀ v val h' tk, o = some v → KeepBut wr s.heap h' →
      (∀ (Q' : Unit → Shared → Prop) (E' : Value → Shared → Prop), (∀ h'', KeepBut wr s.heap h'' → Rel ρ h'' val v → ItAt sr it wr (i + 1) ρ h'' → Q' () { s with heap := h'', toks := tk }) →
        wpAny (model prog w) A (letOwnedTupleGo target it val) Q' E' { s with heap := h', toks := tk }) → Q (some val) { s with heap := h', toks := tk }) :
    wpAny (model prog w) A (pyNext it) Q E s := by
  have own := x.own
  cases x with
  | @tup l I t vs n _ _ _ hit g ra off =>
    cases e
    have hne : t ≠ I := fun eq => by
      obtain ⟨o, ho, hc, _⟩ := hit
      rw [← eq, g] at ho; cases ho; exact absurd (Value.type.inj hc) (by decide)
    cases hl : l[i]? with
    | none =>
      exact wpAny_pyNext_tuple_end hA hit (isTuple_of g) (by simpa using ra.get_none hl) fun h' hx => h1 h' hl (KeepBut.of_but hx (List.mem_singleton.mpr rfl))
    | some v =>
      obtain ⟨val, hv, r⟩ := ra.get hl
      refine wpAny_pyNext_tuple_item hit (isTuple_of g) (x := val) (by simpa using hv) fun h' hit' hx => ?_
      have hk := KeepBut.of_but (wr := [I]) hx.extBut (List.mem_singleton.mpr rfl)
      have hs := hk.sub own
      refine h2 v val h' s.toks hl hk fun Q' E' hq => ?_
      obtain ⟨ob, hob, hc, _⟩ := id hit'
      exact letGo_plain (s := { s with heap := h' }) hob hc (by decide) (hq h' hk (r.sub hs) (.tup hit' (hs.2 _ _ _ g) (ra.sub hs) off))
  | @range a b I _ _ _ hit off =>
    cases e
    rw [rangeV_get] at h1 h2
    by_cases hlt : i < (b - a).toNat
    · rw [if_pos hlt] at h2
      refine wpAny_pyNext_range_item hit (by omega) fun h' hit' hx => ?_
      have hk := KeepBut.of_but (wr := [I]) hx.extBut (List.mem_singleton.mpr rfl)
      refine h2 _ _ h' (s.toks + 1) rfl hk fun Q' E' hq => ?_
      refine letGo_plain (s := { s with heap := h', toks := s.toks + 1 }) hit' rfl (by decide) (hq h' hk (.int _ _) (.range ?_ off))
      have e1 : a + (i : Int) + 1 = a + ((i + 1 : Nat) : Int) := by omega
      have e2 : ((b - a).toNat : Int) - (i : Int) - 1 = ((b - a).toNat : Int) - ((i + 1 : Nat) : Int) := by omega
      rw [e1, e2] at hit'; exact hit'
    · rw [if_neg hlt] at h1
      exact wpAny_pyNext_range_end hA hit (by omega) fun h' hx => h1 h' rfl (KeepBut.of_but hx (List.mem_singleton.mpr rfl))
  | @lst n I l d _ _ _ hit er off =>
    obtain ⟨m, hσ, rfl⟩ := listAt_some (o := some o) e
    obtain ⟨rfl, vs, k, g, hl, ra⟩ := iv.list hσ er
    cases hm : m[i]? with
    | none =>
      exact wpAny_pyNext_list_end hA hit (isList_of g) (by simpa using ra.get_none hm) fun h' hx => h1 h' hm (KeepBut.of_but hx (List.mem_singleton.mpr rfl))
    | some v =>
      obtain ⟨val, hv, r⟩ := ra.get hm
      refine wpAny_pyNext_list_item hit (isList_of g) (x := val) (by simpa using hv) fun h' hit' hx => ?_
      have hk := KeepBut.of_but (wr := [I]) hx.extBut (List.mem_singleton.mpr rfl)
      have hs := hk.sub own
      refine h2 v val h' s.toks hm hk fun Q' E' hq => ?_
      obtain ⟨ob, hob, hc, _⟩ := id hit'
      exact letGo_plain (s := { s with heap := h' }) hob hc (by decide) (hq h' hk (r.sub hs) (.lst hit' er off))
  | @enum n ea I l d _ old _ _ he hit er hne offe off =>
    obtain ⟨m, hσ, rfl⟩ := listAt_some (o := some o) e
    obtain ⟨rfl, vs, k, g, hl, ra⟩ := iv.list hσ er
    cases hm : m[i]? with
    | none =>
      rw [hm] at h1
      exact wpAny_pyNext_enum_end hA he hit (isList_of g) (by simpa using ra.get_none hm) fun h' hx => h1 h' rfl (KeepBut.of_but hx (List.mem_cons_of_mem _ (List.mem_singleton.mpr rfl)))
    | some v =>
      rw [hm] at h2
      obtain ⟨val, hv, r⟩ := ra.get hm
      refine wpAny_pyNext_enum_item he hit (isList_of g) (x := val) (by simpa using hv) hne fun h' he' hit' ht hsz hx => ?_
      have hk : KeepBut [ea, I] s.heap h' := fun b o hb e => hx b o (fun eq => hb (eq ▸ List.mem_cons_self ..)) (fun eq => hb (eq ▸ List.mem_cons_of_mem _ (List.mem_singleton.mpr rfl))) e
      have hs := hk.sub own
      refine h2 _ (.ref s.heap.objs.size) h' (s.toks + 1) rfl hk fun Q' E' hq => ?_
      cases target with
      | Tuple elts x1 pos =>
        refine wpAny_letOwnedTupleGo_enum (s := { s with heap := h', toks := s.toks + 1 }) he' fun h'' he'' hb => ?_
        have hne1 : s.heap.objs.size ≠ ea := fun eq => by
          have := Heap.lt_size he; rw [eq] at this; exact Nat.lt_irrefl _ this
        have hk2 : KeepBut [ea, I] h' h'' := KeepBut.of_but hb.extBut (List.mem_cons_self ..)
        have hs2 : Sub ρ h' ρ h'' := ⟨fun _ _ e => e, fun b ws n' e' => hb.extBut b _ (fun eq => by rw [eq, he'] at e'; exact absurd (Value.type.inj (congrArg Obj.cls (Option.some.inj e'))) (by decide)) e'⟩
        refine hq h'' (hk.trans hk2) (.tup (n := 0) (hb.extBut _ _ hne1 ht) (by show (2 : Nat) ≤ sizeLine; decide) (.cons (.int _ _) (.cons ((r.sub hs).sub hs2) .nil))) (.enum he'' (hit'.at fun o e => hb.extBut _ _ hne.symm e) er hne offe off)
      | _ => cases htg

/-! what is walked, ahead of its walker -/
def RSrc (hb : Heap) : Src → Map → Heap → Value → Prop
  | .vals l, ρ, h, v => (∃ t vs n, v = .ref t ∧ h.get? t = some (tupO vs n) ∧ RelAll ρ h vs l) ∨
      ∃ r a b t u w, v = .ref r ∧ IsRange h r a b 1 t u w ∧ Builtin.Range.small a b 1 = true ∧ l = rangeV a b
  | .lst n, ρ, h, v => ∃ a d vs k, v = .ref a ∧ ρ[n]? = some (a, d) ∧ h.get? a = some (listO vs k)
  | .enum n, ρ, h, v => ∃ e I, v = .ref e ∧ ItAt (.enum n) (.ref e) [e, I] 0 ρ h ∧ hb.get? e = none ∧ hb.get? I = none

theorem size_dead {h h' : Heap} (hk : ∀ b o, h.get? b = some o → ∃ o', h'.get? b = some o') : h.get? h'.objs.size = none := by
  cases e : h.get? h'.objs.size with
  | none => rfl
  | some o => obtain ⟨o', e'⟩ := hk _ _ e; exact absurd (Heap.lt_size e') (Nat.lt_irrefl _)

/-- a walk begins -/
theorem RSrc.iter {sr : Src} {v : Value} {Q : Value → Shared → Prop} {E : Value → Shared → Prop} (iv : Inv h₀ σ ρ s.heap) (x : Ext W ρb hb ρ s.heap) (r : RSrc hb sr ρ s.heap v)
    (h : ∀ it wr h', (∀ b o, s.heap.get? b = some o → h'.get? b = some o) → ItAt sr it wr 0 ρ h' → (∀ b ∈ wr, hb.get? b = none) → Q it { s with heap := h' }) : wpAny (model prog w) A (pyIter v) Q E s := by
  have hd := size_dead x.alive
  have off := iv.off_size
  have hnew : ∀ ob b o, s.heap.get? b = some o → (s.heap.push ob).get? b = some o := fun ob b o e => Heap.get?_push_of_some _ e
  cases sr with
  | vals l =>
    rcases r with ⟨t, vs, n, rfl, g, ra⟩ | ⟨r, a, b, t, u, w, rfl, hr, hsm, rfl⟩
    · refine wpAny_pyIter_tuple (isTuple_of g) (h _ [s.heap.objs.size] _ (hnew _) (.tup ⟨_, Heap.get?_push_size _ rfl, rfl, rfl⟩ (hnew _ _ _ g) (ra.sub (Sub.keeps (hnew _))) off) fun b hb => by rw [List.mem_singleton.mp hb]; exact hd)
    · refine wpAny_pyIter_range hr hsm (h _ [s.heap.objs.size] _ (hnew _) (.range ?_ off) fun b hb => by rw [List.mem_singleton.mp hb]; exact hd)
      have e : Builtin.Range.rangeSize a b 1 = ((b - a).toNat : Int) - ((0 : Nat) : Int) := by rw [rangeSize_one]; split <;> omega
      have e2 : a + ((0 : Nat) : Int) = a := by omega
      rw [← e, e2]
      exact Heap.get?_push_size _ rfl
  | lst n =>
    obtain ⟨a, d, vs, k, rfl, er, g⟩ := r
    exact wpAny_pyIter_list (isList_of g) (h _ [s.heap.objs.size] _ (hnew _) (.lst ⟨_, Heap.get?_push_size _ rfl, rfl, rfl⟩ er off) fun b hb => by rw [List.mem_singleton.mp hb]; exact hd)
  | enum n =>
    obtain ⟨e, I, rfl, hi, d1, d2⟩ := r
    have hi' := hi
    cases hi with
    | enum he hit er hne offe off' =>
      refine wpAny_pyIter_enum he (h _ [e, I] s.heap (fun _ _ e => e) hi' fun b hb => ?_)
      rcases List.mem_cons.mp hb with rfl | hb
      · exact d1
      · rw [List.mem_singleton.mp hb]; exact d2

/-- a walker is its own walker -/
theorem ItAt.self {sr : Src} {it : Value} {i : Nat} {Q : Value → Shared → Prop} {E : Value → Shared → Prop} (x : ItAt sr it wr i ρ s.heap) (h : Q it s) : wpAny (model prog w) A (pyIter it) Q E s := by
  cases x with
  | tup hit _ _ _ => exact wpAny_pyIter_tupleiter hit h
  | range hit _ => exact wpAny_pyIter_rangeiter hit h
  | lst hit _ _ => exact wpAny_pyIter_listiter hit h
  | enum he _ _ _ _ _ => exact wpAny_pyIter_enum he h
end
end Mine

namespace Mine
open PySem PyProof.Rows

section
variable {prog : Program} {w : World} {h₀ hb : Heap} {A : Around} {W wr : List Addr} {ρ ρ' ρb : Map} {s : Shared} {σ : Store} {fns : Str → Option Fn} {glob : Str → Option V} {mg mb : Str → Option Value}
variable {env : Env} {ns : Names} {loc : Loc} {C : Cfg} {n : Nat}

def RFrm (env : Env) (ns : Names) : Loc → Map → Heap → Unit → Prop := fun loc ρ h _ => Frm env ns loc ρ h

theorem get_set_some {α : Type} {l : List α} {i j : Nat} {a b : α} (h : (l.set i a)[j]? = some b) : (i = j ∧ b = a) ∨ (i ≠ j ∧ l[j]? = some b) := by
  by_cases hij : i = j
  · subst hij
    left
    rcases Nat.lt_or_ge i l.length with hl | hl
    · rw [List.getElem?_set_self hl] at h; cases h; exact ⟨rfl, rfl⟩
    · rw [List.getElem?_eq_none (by simpa using hl)] at h; cases h
  · rw [List.getElem?_set_ne hij] at h; exact .inr ⟨hij, h⟩

theorem ns_not_tup {h : Heap} {a : Addr} {m : Str → Option Value} (hn : h.Ns a m) {o : Obj} (e : h.get? a = some o) : ∀ vs n, o ≠ tupO vs n := by
  obtain ⟨o', es, ep, ho, hd, r⟩ := hn
  rw [e] at ho; cases ho
  intro vs n e; rw [e] at hd; cases hd
theorem cell_not_tup {h : Heap} {a : Addr} {v : Option Value} (hn : h.IsCell a v) {o : Obj} (e : h.get? a = some o) : ∀ vs n, o ≠ tupO vs n := by
  obtain ⟨o', ho, hd⟩ := hn
  rw [e] at ho; cases ho
  intro vs n e; rw [e] at hd; cases hd

theorem function_not_class (F : Frm env ns loc ρ s.heap) : (env.scope.kind == .class || (env.scope.kind == .module && env.locals != env.globals)) = false := by rw [F.kind]; rfl

/-- a plain local is stored -/
theorem Sim.storeLocal {x : Str} {i : Nat} {v : Value} {a : V} (F : Frm env ns loc ρ s.heap) (iv : Inv h₀ σ ρ s.heap) (hf : h₀.get? env.locals = none) (hs : slot ns x = some (i, .local)) (r : Rel ρ s.heap v a) :
    Sim prog w h₀ A [env.locals] (storeName env x v) (.ok (loc.set i (some a)) σ) (RFrm env ns) ρ s := by
  obtain ⟨m, hn, hv⟩ := F.vars
  refine wpAny_storeName_local (F.kindOf hs) hn (fun h' hn' hsb => ?_) (function_not_class F)
  have hk : ∀ b o, s.heap.get? b = some o → b ∉ [env.locals] → h'.get? b = some o := fun b o e hb => hsb.extBut b o (fun eq => hb (List.mem_singleton.mpr eq)) e
  have hx : Ext [env.locals] ρ s.heap ρ h' := Ext.of_keep hk fun b o e hm => by
    rw [List.mem_singleton.mp hm] at e ⊢
    obtain ⟨o', _, _, e', _⟩ := hn'
    exact ⟨ns_not_tup hn e, o', e'⟩
  refine ⟨ρ, h', s.toks + 1, rfl, iv.keep hx (fun b hm => by rw [List.mem_singleton.mp hm]; exact ⟨F.offL, hf⟩) hk, hx, ?_⟩
  exact {
    names := F.names
    kind := F.kind
    globals := F.globals
    blts := F.blts
    vars := by
      refine ⟨_, hn', fun y j u h1 h2 => ?_⟩
      rcases get_set_some h2 with ⟨rfl, e⟩ | ⟨hne, h2⟩
      · cases e
        rw [slot_inj h1 hs]
        exact ⟨v, if_pos rfl, r.ext hx⟩
      · obtain ⟨val, e, hr⟩ := hv y j u h1 h2
        refine ⟨val, ?_, hr.ext hx⟩
        rw [if_neg (fun eq => by rw [eq, hs] at h1; cases h1; exact hne rfl)]; exact e
    cell := fun y j h1 => by
      obtain ⟨c, o, e, ⟨ob, hob, hd⟩, hv⟩ := F.cell y j h1
      refine ⟨c, o, e, ⟨ob, hk _ _ hob (fun hm => (F.offC y c e).1 (List.mem_singleton.mp hm)), hd⟩, fun u h2 => ?_⟩
      rcases get_set_some h2 with ⟨rfl, _⟩ | ⟨hne, h2⟩
      · rw [slot_inj h1 hs, hs] at h1; cases h1
      · obtain ⟨val, e', hr⟩ := hv u h2
        exact ⟨val, e', hr.ext hx⟩
    live := fun y c e => by
      obtain ⟨o, ob, hob, hd⟩ := F.live y c e
      exact ⟨o, ob, hk _ _ hob (fun hm => (F.offC y c e).1 (List.mem_singleton.mp hm)), hd⟩
    offL := F.offL
    offC := F.offC
    apart := F.apart }

/-- a cell is stored -/
theorem Sim.storeCell {x : Str} {i : Nat} {v : Value} {a : V} (F : Frm env ns loc ρ s.heap) (iv : Inv h₀ σ ρ s.heap) (hf : ∀ b ∈ frameW env, h₀.get? b = none) (hs : slot ns x = some (i, .cell)) (r : Rel ρ s.heap v a) :
    Sim prog w h₀ A (frameW env) (storeName env x v) (.ok (loc.set i (some a)) σ) (RFrm env ns) ρ s := by
  obtain ⟨c, o₀, hc, hcell, hv₀⟩ := F.cell x i hs
  have hcW : c ∈ frameW env := frameW_cell (k := .cell) (by rw [F.names]; exact mem_of_lookup (slot_lookup hs)) hc
  refine wpAny_storeName_cell F.kind (F.kindOf hs) hc hcell fun h' hn' hsb => ?_
  have hk : ∀ b o, s.heap.get? b = some o → b ∉ [c] → h'.get? b = some o := fun b o e hb => hsb.extBut b o (fun eq => hb (List.mem_singleton.mpr eq)) e
  have hx : Ext [c] ρ s.heap ρ h' := Ext.of_keep hk fun b o e hm => by
    rw [List.mem_singleton.mp hm] at e ⊢
    obtain ⟨o', e', _⟩ := hn'
    exact ⟨cell_not_tup hcell e, o', e'⟩
  refine ⟨ρ, h', s.toks, rfl, iv.keep hx (fun b hm => by rw [List.mem_singleton.mp hm]; exact ⟨(F.offC x c hc).2, hf c hcW⟩) hk, hx.weak fun b hm => .inl (by rw [List.mem_singleton.mp hm]; exact hcW), ?_⟩
  exact {
    names := F.names
    kind := F.kind
    globals := F.globals
    blts := F.blts
    vars := by
      obtain ⟨m, ⟨o, es, ep, ho, rr⟩, hv⟩ := F.vars
      refine ⟨m, ⟨o, es, ep, hk _ _ ho (fun hm => (F.offC x c hc).1 (List.mem_singleton.mp hm).symm), rr⟩, fun y j u h1 h2 => ?_⟩
      rcases get_set_some h2 with ⟨rfl, _⟩ | ⟨hne, h2⟩
      · rw [slot_inj h1 hs, hs] at h1; cases h1
      · obtain ⟨val, e, hr⟩ := hv y j u h1 h2
        exact ⟨val, e, hr.ext hx⟩
    cell := fun y j h1 => by
      obtain ⟨d, o, e, ⟨ob, hob, hd⟩, hv⟩ := F.cell y j h1
      by_cases hdc : d = c
      · subst hdc
        have hyx := F.apart y x d e hc
        subst hyx
        rw [hs] at h1; cases h1
        refine ⟨d, some v, e, hn', fun u h2 => ?_⟩
        rcases get_set_some h2 with ⟨_, e⟩ | ⟨hne, h2⟩
        · cases e; exact ⟨v, rfl, r.ext hx⟩
        · exact absurd rfl hne
      · refine ⟨d, o, e, ⟨ob, hk _ _ hob (fun hm => hdc (List.mem_singleton.mp hm)), hd⟩, fun u h2 => ?_⟩
        rcases get_set_some h2 with ⟨rfl, _⟩ | ⟨hne, h2⟩
        · rw [slot_inj h1 hs, hc] at e; cases e; exact absurd rfl hdc
        · obtain ⟨val, e', hr⟩ := hv u h2
          exact ⟨val, e', hr.ext hx⟩
    live := fun y d e => by
      obtain ⟨o, ob, hob, hd⟩ := F.live y d e
      by_cases hdc : d = c
      · subst hdc; exact ⟨_, hn'⟩
      · exact ⟨o, ob, hk _ _ hob (fun hm => hdc (List.mem_singleton.mp hm)), hd⟩
    offL := F.offL
    offC := F.offC
    apart := F.apart }

/-- a way to store a name -/
structure StS (prog : Program) (w : World) (h₀ : Heap) (env : Env) (ns : Names) (W : List Addr) (st : Str → V → Loc → M Loc) : Prop where
  store : ∀ (x : Str) (v : Value) (a : V) (loc : Loc) (σ : Store) (ρ : Map) (s : Shared) (A : Around), Frm env ns loc ρ s.heap → Inv h₀ σ ρ s.heap → Rel ρ s.heap v a → Sim prog w h₀ A W (storeName env x v) (st x a loc σ) (RFrm env ns) ρ s

theorem stLocL_ok (hf : h₀.get? env.locals = none) : StS prog w h₀ env ns [env.locals] (stLocL ns) where
  store := fun x v a loc σ ρ s A F iv r => by
    unfold stLocL
    cases hs : slot ns x with
    | none => exact trivial
    | some p =>
      obtain ⟨i, k⟩ := p
      cases k <;> first | exact trivial | exact Sim.storeLocal F iv hf hs r
theorem stLoc_ok (hf : ∀ b ∈ frameW env, h₀.get? b = none) : StS prog w h₀ env ns (frameW env) (stLoc ns) where
  store := fun x v a loc σ ρ s A F iv r => by
    unfold stLoc
    cases hs : slot ns x with
    | none => exact trivial
    | some p =>
      obtain ⟨i, k⟩ := p
      cases k <;> first
        | exact trivial
        | exact Sim.storeCell F iv hf hs r
        | exact (Sim.storeLocal F iv (hf _ (List.mem_cons_self ..)) hs r).weak fun b hm => .inl (by rw [List.mem_singleton.mp hm]; exact List.mem_cons_self ..)

theorem Sim.bindName {x : Str} {v : Value} {r : Res Loc} {R : Loc → Map → Heap → Unit → Prop} (h : Sim prog w h₀ A W (storeName env x v) r R ρ s) : Sim prog w h₀ A W (PySem.bindName env x v) r R ρ s :=
  Sim.wrap (fun _ _ => wpAny_bindName) h

theorem assignEach_name {x : Str} {p : Pos} {r : List Expr} : assignEach (.Name x p :: r) env = (false, assign (.Name x p) env) :: assignEach r env := rfl

/-- names in a row -/
theorem bindNames_ok {st : Str → V → Loc → M Loc} (S : StS prog w h₀ env ns W st) : ∀ (ts : List Expr) (vs : List Value) (l : List V) (loc : Loc) (σ : Store) (ρ : Map) (s : Shared), Frm env ns loc ρ s.heap → Inv h₀ σ ρ s.heap → RelAll ρ s.heap vs l →
    Sim prog w h₀ A W (assignInOrder ((assignEach ts env).map (·.2)) vs) (bindNames st ts l loc σ) (RFrm env ns) ρ s
  | [], vs, l, loc, σ, ρ, s, F, iv, r => by
    cases l with
    | nil => cases r; exact Sim.ret iv F
    | cons a l => exact trivial
  | t :: ts, vs, l, loc, σ, ρ, s, F, iv, r => by
    cases t with
    | Name x p =>
      cases r with
      | nil => exact trivial
      | cons r rs =>
        rename_i v vs a l
        rw [assignEach_name]
        show Sim prog w h₀ A W (PySem.holding vs (assign (.Name x p) env v) >>= fun _ => assignInOrder ((assignEach ts env).map (·.2)) vs) ((st x a loc >>= fun loc' => bindNames st ts l loc') σ) (RFrm env ns) ρ s
        refine Sim.bind (R := RFrm env ns) (Sim.holding ?_) fun loc₁ σ₁ ρ₁ H tk _ i₁ x₁ F₁ => bindNames_ok S ts vs l loc₁ σ₁ ρ₁ _ F₁ i₁ (rs.ext x₁)
        rw [arm_assign_Name]
        exact Sim.standAt (Sim.bindName (S.store x v a loc σ ρ s A F iv r))
    | _ => cases l <;> exact trivial

theorem bindNames_len {st : Str → V → Loc → M Loc} : ∀ {ts : List Expr} {l : List V} {loc loc' : Loc} {σ σ' : Store}, bindNames st ts l loc σ = .ok loc' σ' → ts.length = l.length ∧ (assignEach ts env).findIdx? (·.1) = none ∧ (assignEach ts env).length = ts.length
  | [], [], _, _, _, _, _ => ⟨rfl, rfl, rfl⟩
  | [], _ :: _, _, _, _, _, h => by cases h
  | .Name x p :: ts, v :: vs, loc, loc', σ, σ', h => by
    change (st x v loc >>= fun loc' => bindNames st ts vs loc') σ = .ok loc' σ' at h
    cases e : st x v loc σ with
    | bad => rw [bind_bad e] at h; cases h
    | exc _ _ => rw [bind_exc e] at h; cases h
    | ok l₁ σ₁ =>
      rw [bind_ok e] at h
      obtain ⟨h1, h2, h3⟩ := bindNames_len h
      refine ⟨by simp [h1], ?_, ?_⟩
      · rw [assignEach_name, List.findIdx?_cons, h2]; rfl
      · rw [assignEach_name]; simp [h3]
  | t :: ts, [], _, _, _, _, h => by cases t <;> cases h

/-- a target is bound -/
theorem Sim.bindTo {st : Str → V → Loc → M Loc} (S : StS prog w h₀ env ns W st) {t : Expr} {v : Value} {a : V} (hA : A.handled = none) (F : Frm env ns loc ρ s.heap) (iv : Inv h₀ σ ρ s.heap) (r : Rel ρ s.heap v a) :
    Sim prog w h₀ A W (assign t env v) (bindTo st t a loc σ) (RFrm env ns) ρ s := by
  cases t with
  | Name x p =>
    rw [arm_assign_Name]
    exact Sim.standAt (Sim.bindName (S.store x v a loc σ ρ s A F iv r))
  | Tuple ts k p =>
    cases r with
    | tup g hl ra =>
      rename_i ta vs nn l
      show Sim prog w h₀ A W _ (bindNames st ts l loc σ) (RFrm env ns) ρ s
      rw [arm_assign_Tuple]
      refine Sim.standAt ?_
      cases hb : bindNames st ts l loc σ with
      | bad => exact trivial
      | exc _ _ => exact trivial
      | ok loc₁ σ₁ =>
        obtain ⟨h1, h2, h3⟩ := bindNames_len (env := env) hb
        have hlen : (assignEach ts env).length = vs.toArray.size := by rw [h3, h1, List.size_toArray, ra.length]
        unfold unpack
        refine wpAny_bind (wpAny_holding ?_)
        rw [h2, hlen]
        refine wpAny_unpackItems_tuple hA (isTuple_of g) fun h' hx => ?_
        have hk : ∀ b o, s.heap.get? b = some o → h'.get? b = some o := fun b o e => hx b o (Nat.ne_of_lt (Heap.lt_size e)) e
        have hs := bindNames_ok (A := A) S ts vs l loc σ ρ { s with heap := h' } (F.ext0 (Ext.of_keeps hk)) (iv.keeps hk) (ra.sub (Sub.keeps hk))
        rw [hb] at hs
        refine wpAny_mono hs (fun b s' hp => ?_) fun _ _ x => x
        obtain ⟨ρ₁, H, tk, rfl, i₁, x₁, F₁⟩ := hp
        exact ⟨ρ₁, H, tk, rfl, i₁, (Ext.of_keeps hk).trans x₁, F₁⟩
    | _ => exact trivial
  | _ => exact trivial
end
end Mine

namespace Mine
open PySem PyProof.Rows

section
variable {prog : Program} {w : World} {h₀ hb : Heap} {A : Around} {W wr : List Addr} {ρ ρ' ρb : Map} {s : Shared} {σ : Store} {fns : Str → Option Fn} {glob : Str → Option V} {mg mb : Str → Option Value}
variable {env : Env} {ns : Names} {loc : Loc} {C : Cfg} {n : Nat}

/-! ## what is walked -/
variable (prog w h₀ C n) in
def SrcS (e : Expr) : Prop := ∀ (env : Env) (ns : Names) (loc : Loc) (σ : Store) (ρ : Map) (s : Shared) (A : Around), Rm A n → Frm env ns loc ρ s.heap → Inv h₀ σ ρ s.heap →
  Sim prog w h₀ A [] (eval e env) (src C e ns loc (ev C e ns loc) σ) (RSrc s.heap) ρ s

/-- a step of the store's side alone -/
theorem Sim.map {α β γ : Type} {t : Sem β} {m : M α} {k : α → M γ} {R : α → Map → Heap → β → Prop} {R' : γ → Map → Heap → β → Prop} (h : Sim prog w h₀ A W t (m σ) R ρ s)
    (hk : ∀ a σ₁ ρ₁ H b c σ₂, Inv h₀ σ₁ ρ₁ H → R a ρ₁ H b → k a σ₁ = .ok c σ₂ → σ₂ = σ₁ ∧ R' c ρ₁ H b) : Sim prog w h₀ A W t ((m >>= k) σ) R' ρ s := by
  cases e : m σ with
  | bad => rw [bind_bad e]; exact trivial
  | exc _ _ => rw [bind_exc e]; exact trivial
  | ok a σ₁ =>
    rw [bind_ok e]
    rw [e] at h
    cases e2 : k a σ₁ with
    | bad => exact trivial
    | exc _ _ => exact trivial
    | ok c σ₂ =>
      refine wpAny_mono h (fun b s' hp => ?_) fun _ _ x => x
      obtain ⟨ρ₁, H, tk, rfl, i, x, r⟩ := hp
      obtain ⟨rfl, r'⟩ := hk a σ₁ ρ₁ H b c σ₂ i r e2
      exact ⟨ρ₁, H, tk, rfl, i, x, r'⟩

theorem getList_ok {k : List V → M α} {m : Nat} {c : α} {σ₂ : Store} (h : (getList m >>= k) σ = .ok c σ₂) : ∃ l, σ[m]? = some (.list l) ∧ k l σ = .ok c σ₂ := by
  cases e : σ[m]? with
  | none => rw [bind_bad (by rw [getList_eq, e])] at h; cases h
  | some o =>
    cases o with
    | list l => rw [bind_ok (by rw [getList_eq, e])] at h; exact ⟨l, rfl, h⟩
    | dict _ => rw [bind_bad (by rw [getList_eq, e])] at h; cases h
    | inst _ _ => rw [bind_bad (by rw [getList_eq, e])] at h; cases h

theorem src_value {e : Expr} (he : EvS prog w h₀ C n e) (hA : Rm A n) (F : Frm env ns loc ρ s.heap) (i : Inv h₀ σ ρ s.heap) :
    Sim prog w h₀ A [] (eval e env) ((ev C e ns loc >>= srcV) σ) (RSrc s.heap) ρ s := by
  refine Sim.map (he env ns loc σ ρ s A hA F i) fun a σ₁ ρ₁ H b c σ₂ i₁ r hk => ?_
  cases r with
  | tup g hl ra => cases hk; exact ⟨rfl, .inl ⟨_, _, _, rfl, g, ra⟩⟩
  | ref er =>
    obtain ⟨l, hσ, hk⟩ := getList_ok hk
    cases hk
    obtain ⟨_, vs, k, g, _, _⟩ := Inv.list (s := { s with heap := H }) i₁ hσ er
    exact ⟨rfl, _, _, vs, k, rfl, er, g⟩
  | _ => cases hk


theorem evs_one {a : Expr} {α : Type} {k : V → M α} : (ev C a ns loc >>= k) = (evs C [a] ns loc >>= fun l => match l with | [v] => k v | _ => M.bad) := by
  show _ = ((ev C a ns loc >>= fun v => (evs C [] ns loc >>= fun vs => pure (v :: vs))) >>= _)
  rw [M.assoc]; rfl

theorem Sim.rangeCall {a : Value} {x : V} (i : Inv h₀ σ ρ s.heap) (ra : Rel ρ s.heap a x) : Sim prog w h₀ A [] (call (.type "range") [a]) (rangeOf x σ) (RSrc hb) ρ s := by
  cases ra with
  | int z t =>
    refine Sim.ite fun hc => ?_
    refine Sim.grown i fun Q E hQ => call_range_1 (hQ _ _ _ (fun c o e => Heap.get?_push_of_some _ e) (.inr ⟨_, 0, z, _, _, _, rfl, IsRange.new .., ?_, rfl⟩))
    exact small_one (by decide) (by decide) (by omega) (by omega)
  | _ => exact trivial

theorem Sim.enumCall {a : Value} {x : V} (i : Inv h₀ σ ρ s.heap) (hd : ∀ b o, hb.get? b = some o → ∃ o', s.heap.get? b = some o') (ra : Rel ρ s.heap a x) : Sim prog w h₀ A [] (call (.type "enumerate") [a]) (enumOf x σ) (RSrc hb) ρ s := by
  cases ra with
  | ref er =>
    refine Sim.getList fun l hσ => ?_
    obtain ⟨rfl, vs, k, g, hl, r⟩ := i.list hσ er
    refine Sim.grown i fun Q E hQ => call_enumerate_list (isList_of g) fun h' he hit hsz hk => hQ _ _ s.toks hk ?_
    have off1 := i.off_size
    have dead : hb.get? (s.heap.objs.size + 1) = none := by
      cases e : hb.get? (s.heap.objs.size + 1) with
      | none => rfl
      | some o => obtain ⟨o', e'⟩ := hd _ _ e; exact absurd (Heap.lt_size e') (Nat.not_lt.mpr (Nat.le_succ _))
    refine ⟨_, _, rfl, .enum he hit er (Nat.succ_ne_self _) (fun p hp => ?_) off1, dead, size_dead hd⟩
    obtain ⟨⟨o1, e1⟩, ⟨o2, e2⟩⟩ := i.alive hp
    exact ⟨Nat.ne_of_gt (Nat.lt_succ_of_lt (Heap.lt_size e1)), Nat.ne_of_gt (Nat.lt_succ_of_lt (Heap.lt_size e2))⟩
  | _ => exact trivial

/-- the call of a type of one argument -/
theorem Sim.typeOne {α : Type} {f : Str} {T : String} {a : Expr} {p pos : Pos} {k : V → M α} {R : α → Map → Heap → Value → Prop} (B : Base fns glob mg mb h₀) (ha : EvS prog w h₀ C n a) (hA : Rm A n) (F : Frm env ns loc ρ s.heap) (i : Inv h₀ σ ρ s.heap) (hg : isGlob ns f = true) (hf : fns f = none)
    (hn : f ∈ bltNames) (hT : bootBuiltins f = some (.type T))
    (hk : ∀ x v σ₁ ρ₁ H tk, Inv h₀ σ₁ ρ₁ H → Ext [] ρ s.heap ρ₁ H → Rel ρ₁ H v x → Sim prog w h₀ A [] (call (.type T) [v]) (k x σ₁) R ρ₁ { s with heap := H, toks := tk }) :
    Sim prog w h₀ A [] (eval (.Call (.Name f p) [a] [] pos) env) ((ev C a ns loc >>= k) σ) R ρ s := by
  rw [evs_one, Call_name]
  refine Sim.head (v := .type T) (fun Q E h => wp_builtin B F i hg hn hf hT h) ?_
  refine Sim.args (evs_cons ha evs_nil) hA F i (fun Q E hst h => cw_type hst h) fun l σ₁ ρ₁ H tk vs i₁ x₁ r₁ => ?_
  cases r₁ with
  | nil => exact trivial
  | cons r rs => cases rs with
    | nil => exact hk _ _ σ₁ ρ₁ H tk i₁ x₁ r
    | cons _ _ => exact trivial

theorem src_call {f : Str} {as : List Expr} {p pos : Pos} (B : Base fns glob mg mb h₀) (hfn : ∀ f, C.isFn f = (fns f).isSome) (he : EvS prog w h₀ C n (.Call (.Name f p) as [] pos)) (has : ∀ a ∈ as, EvS prog w h₀ C n a) : SrcS prog w h₀ C n (.Call (.Name f p) as [] pos) :=
  fun env ns loc σ ρ s A hA F i => by
  have whole := src_value he hA F i
  have hc : ∀ k, srcTag C ns f = k + 1 → isGlob ns f = true ∧ fns f = none ∧ ((k = 0 ∧ f = ("range" : Str)) ∨ (k = 1 ∧ f = ("enumerate" : Str))) := by
    intro k htag
    unfold srcTag at htag
    by_cases h1 : (isGlob ns f && !C.isFn f) = true
    · rw [if_pos h1] at htag
      simp only [Bool.and_eq_true, Bool.not_eq_true'] at h1
      refine ⟨h1.1, ?_, ?_⟩
      · have := h1.2; rw [hfn] at this
        cases e : fns f with
        | none => rfl
        | some _ => rw [e] at this; cases this
      · by_cases h2 : f = ("range" : Str)
        · rw [if_pos h2] at htag; exact .inl ⟨by omega, h2⟩
        · rw [if_neg h2] at htag
          by_cases h3 : f = ("enumerate" : Str)
          · rw [if_pos h3] at htag; exact .inr ⟨by omega, h3⟩
          · rw [if_neg h3] at htag; cases htag
    · rw [if_neg h1] at htag; cases htag
  rcases as with _ | ⟨a, _ | ⟨b, r⟩⟩
  · exact whole
  · show Sim prog w h₀ A [] _ ((if srcTag C ns f = 1 then (ev C a ns loc >>= fun v => rangeOf v) else if srcTag C ns f = 2 then (ev C a ns loc >>= fun v => enumOf v) else (ev C (.Call (.Name f p) [a] [] pos) ns loc >>= fun v => srcV v)) σ) (RSrc s.heap) ρ s
    by_cases t1 : srcTag C ns f = 1
    · rw [if_pos t1]
      obtain ⟨hg, hf, hx⟩ := hc 0 t1
      rcases hx with ⟨_, rfl⟩ | ⟨hh, _⟩
      · exact Sim.typeOne B (has a (List.mem_singleton.mpr rfl)) hA F i hg hf (by decide +kernel) bb_range fun x v σ₁ ρ₁ H tk i₁ x₁ r => Sim.rangeCall i₁ r
      · cases hh
    · rw [if_neg t1]
      by_cases t2 : srcTag C ns f = 2
      · rw [if_pos t2]
        obtain ⟨hg, hf, hx⟩ := hc 1 t2
        rcases hx with ⟨hh, _⟩ | ⟨_, rfl⟩
        · cases hh
        · exact Sim.typeOne B (has a (List.mem_singleton.mpr rfl)) hA F i hg hf (by decide +kernel) bb_enumerate fun x v σ₁ ρ₁ H tk i₁ x₁ r => Sim.enumCall i₁ x₁.alive r
      · rw [if_neg t2]; exact whole
  · exact whole

/-! ## comprehensions -/
theorem isCell_of {k : NameKind} (h : (k == NameKind.free) = true) : k = .free := by simpa using h

/-- the cells that a comprehension's block shares -/
theorem closure_go (env : Env) : ∀ (names : Names) (cs : List (Str × Addr)), (∀ x ∈ names, x.2 = .free → ∃ c, env.cells.lookup x.1 = some c) → (∀ x c, cs.lookup x = some c → env.cells.lookup x = some c) →
    ∃ cl, (forIn names cs fun x r => if (x.2 == NameKind.free) = true then (do let c ← cellOf env x.1; pure (ForInStep.yield ((x.1, c) :: r))) else pure (ForInStep.yield r)) = (Pure.pure cl : Sem (List (Str × Addr))) ∧
      (∀ x c, cl.lookup x = some c → env.cells.lookup x = some c) ∧ (∀ x ∈ names, x.2 = .free → ∃ c, cl.lookup x.1 = some c) ∧ ∀ x, (∃ c, cs.lookup x = some c) → ∃ c, cl.lookup x = some c
  | [], cs, _, h2 => ⟨cs, rfl, h2, fun _ hm => (nomatch hm), fun _ h => h⟩
  | (x, k) :: r, cs, h1, h2 => by
    rw [List.forIn_cons]
    by_cases hk : (k == NameKind.free) = true
    · obtain ⟨c, hc⟩ := h1 (x, k) (List.mem_cons_self ..) (isCell_of hk)
      have e : cellOf env x = Pure.pure c := by unfold cellOf; rw [show env.cells.lookup x = some c from hc]
      rw [if_pos hk, e]
      have h2' : ∀ y d, List.lookup y ((x, c) :: cs) = some d → env.cells.lookup y = some d := fun y d hd => by
        rw [List.lookup_cons] at hd
        split at hd
        · rename_i hy
          cases hd; rw [beq_iff_eq.mp hy]; exact hc
        · exact h2 y d hd
      obtain ⟨cl, e1, e2, e3, e4⟩ := closure_go env r ((x, c) :: cs) (fun y hy => h1 y (List.mem_cons_of_mem _ hy)) h2'
      refine ⟨cl, e1, e2, fun y hy hf => ?_, fun y hy => e4 y ?_⟩
      · rcases List.mem_cons.mp hy with rfl | hy
        · exact e4 x ⟨c, by rw [List.lookup_cons, beq_self_eq_true]⟩
        · exact e3 y hy hf
      · obtain ⟨d, hd⟩ := hy
        rw [List.lookup_cons]
        split
        · exact ⟨_, rfl⟩
        · exact ⟨d, hd⟩
    · rw [if_neg hk]
      obtain ⟨cl, e1, e2, e3, e4⟩ := closure_go env r cs (fun y hy => h1 y (List.mem_cons_of_mem _ hy)) h2
      refine ⟨cl, e1, e2, fun y hy hf => ?_, e4⟩
      rcases List.mem_cons.mp hy with rfl | hy
      · exact absurd (by rw [show k = NameKind.free from hf]; rfl) hk
      · exact e3 y hy hf

theorem closure_ok {scope : Scope} (h : ∀ x ∈ scope.names, x.2 = .free → ∃ c, env.cells.lookup x.1 = some c) : ∃ cl, closureFor scope env = Pure.pure cl ∧ (∀ x c, cl.lookup x = some c → env.cells.lookup x = some c) ∧ ∀ x ∈ scope.names, x.2 = .free → ∃ c, cl.lookup x.1 = some c := by
  obtain ⟨cl, e1, e2, e3, _⟩ := closure_go env scope.names [] h fun _ _ e => by cases e
  refine ⟨cl, ?_, e2, e3⟩
  show ((forIn scope.names [] fun (x : Str × NameKind) (r : List (Str × Addr)) => if (x.2 == NameKind.free) = true then (do let c ← cellOf env x.1; pure (ForInStep.yield ((x.1, c) :: r))) else pure (ForInStep.yield r)) >>= fun r => Pure.pure r) = Pure.pure cl
  rw [e1]; rfl

/-- what innerLoc says -/
theorem innerLoc_ok {loc : Loc} : ∀ {names : Names} {loc' : Loc} {σ σ' : Store}, innerLoc ns loc names σ = .ok loc' σ' → σ' = σ ∧ (∀ x ∈ names, x.2 ≠ .cell) ∧ (∀ x ∈ names, x.2 = .free → ∃ j, slot ns x.1 = some (j, .cell)) ∧
    ∀ (x : Str) (i i₀ : Nat) (k : NameKind), slotGo names x i₀ = some (i, k) → i₀ ≤ i ∧ ∃ o, loc'[i - i₀]? = some o ∧ (k ≠ .free → o = none) ∧ (k = .free → ∃ j, slot ns x = some (j, .cell) ∧ o = (loc[j]?).getD none)
  | [], loc', σ, σ', h => by
    cases h
    exact ⟨rfl, fun _ hm => (nomatch hm), fun _ hm => (nomatch hm), fun _ _ _ _ e => by cases e⟩
  | (x, k) :: r, loc', σ, σ', h => by
    have step : ∀ (o : Option V), ((innerLoc ns loc r >>= fun t => (pure (o :: t) : M Loc)) σ = .ok loc' σ') → ∃ t, loc' = o :: t ∧ innerLoc ns loc r σ = .ok t σ' := fun o h => by
      cases e : innerLoc ns loc r σ with
      | bad => rw [bind_bad e] at h; cases h
      | exc _ _ => rw [bind_exc e] at h; cases h
      | ok t σ₁ => rw [bind_ok e] at h; cases h; exact ⟨t, rfl, rfl⟩
    have fin : ∀ (o : Option V), k ≠ .cell → (k = .free → ∃ j, slot ns x = some (j, .cell) ∧ o = (loc[j]?).getD none) → (k ≠ .free → o = none) → ((innerLoc ns loc r >>= fun t => (pure (o :: t) : M Loc)) σ = .ok loc' σ') →
        σ' = σ ∧ (∀ y ∈ (x, k) :: r, y.2 ≠ .cell) ∧ (∀ y ∈ (x, k) :: r, y.2 = .free → ∃ j, slot ns y.1 = some (j, .cell)) ∧
        ∀ (y : Str) (i i₀ : Nat) (k' : NameKind), slotGo ((x, k) :: r) y i₀ = some (i, k') → i₀ ≤ i ∧ ∃ o, loc'[i - i₀]? = some o ∧ (k' ≠ .free → o = none) ∧ (k' = .free → ∃ j, slot ns y = some (j, .cell) ∧ o = (loc[j]?).getD none) := fun o hc hf hn h => by
      obtain ⟨t, rfl, e⟩ := step o h
      obtain ⟨h1, h2, h3, h4⟩ := innerLoc_ok e
      refine ⟨h1, fun y hy => ?_, fun y hy hfy => ?_, fun y i i₀ k' hs => ?_⟩
      · rcases List.mem_cons.mp hy with rfl | hy
        · exact hc
        · exact h2 y hy
      · rcases List.mem_cons.mp hy with rfl | hy
        · obtain ⟨j, hj, _⟩ := hf hfy; exact ⟨j, hj⟩
        · exact h3 y hy hfy
      · unfold slotGo at hs
        split at hs
        · rename_i hyx
          cases hs
          rw [beq_iff_eq.mp hyx]
          exact ⟨Nat.le_refl _, o, by rw [Nat.sub_self]; rfl, hn, hf⟩
        · obtain ⟨hle, o', ho', hh⟩ := h4 y i (i₀ + 1) k' hs
          refine ⟨by omega, o', ?_, hh⟩
          rw [show i - i₀ = (i - (i₀ + 1)) + 1 by omega, List.getElem?_cons_succ]; exact ho'
    cases k with
    | free =>
      cases hs : slot ns x with
      | none => unfold innerLoc at h; rw [hs] at h; cases h
      | some p =>
        obtain ⟨j, k'⟩ := p
        cases k' with
        | cell =>
          unfold innerLoc at h; rw [hs] at h
          exact fin ((loc[j]?).getD none) (by decide) (fun _ => ⟨j, hs, rfl⟩) (fun h => absurd rfl h) h
        | _ => unfold innerLoc at h; rw [hs] at h; cases h
    | cell => cases h
    | «local» => exact fin none (by decide) (fun h => by cases h) (fun _ => rfl) h
    | globalImplicit => exact fin none (by decide) (fun h => by cases h) (fun _ => rfl) h
    | globalExplicit => exact fin none (by decide) (fun h => by cases h) (fun _ => rfl) h

/-- a slot of the relabelled names -/
theorem relab_slot {names : Names} : ∀ {x : Str} {i i₀ : Nat} {k : NameKind}, slotGo (relab ns names) x i₀ = some (i, k) → ∃ k₀, slotGo names x i₀ = some (i, k₀) ∧ (k = k₀ ∨ (k₀ = .free ∧ k = .cell)) := by
  induction names with
  | nil => intro x i i₀ k h; cases h
  | cons p r ih =>
    intro x i i₀ k h
    obtain ⟨y, ky⟩ := p
    have e : relab ns ((y, ky) :: r) = (y, if (ky == .free && ns.lookup y == some .cell) = true then .cell else ky) :: relab ns r := by
      unfold relab
      rw [List.map_cons]
      by_cases hc : (ky == .free && ns.lookup y == some .cell) = true
      · dsimp only; rw [if_pos hc, if_pos hc]
      · dsimp only; rw [if_neg hc, if_neg hc]
    rw [e] at h
    unfold slotGo at h ⊢
    cases hxy : (x == y) with
    | true =>
      rw [hxy] at h
      cases h
      refine ⟨ky, rfl, ?_⟩
      by_cases hc : (ky == .free && ns.lookup y == some .cell) = true
      · rw [if_pos hc]; simp only [Bool.and_eq_true] at hc; exact .inr ⟨isCell_of hc.1, rfl⟩
      · rw [if_neg hc]; exact .inl rfl
    | false =>
      rw [hxy] at h
      exact ih h

theorem slot_mem {names : Names} {x : Str} {i : Nat} {k : NameKind} (h : slot names x = some (i, k)) : (x, k) ∈ names := mem_of_lookup (slot_lookup h)

/-- the frame of a comprehension's block -/
theorem compFrm {scope : Scope} {cl : List (Str × Addr)} {c : Addr} {loc' : Loc} {σ' : Store} {cenv : Env} {h : Heap} (F : Frm env ns loc ρ h) (hin : innerLoc ns loc scope.names σ = .ok loc' σ') (hk : scope.kind = .function)
    (hcl : ∀ x c, cl.lookup x = some c → env.cells.lookup x = some c) (hcl2 : ∀ x ∈ scope.names, x.2 = .free → ∃ c, cl.lookup x.1 = some c)
    (hce : cenv = { newEnv scope c env.globals cl env.qual none .none (some env) env.builtins with scope := relabel scope env }) (hn : h.Ns c fun _ => none) (hoff : offMap ρ c) (hne : ∀ x d, env.cells.lookup x = some d → d ≠ c) :
    Frm cenv (relab ns scope.names) loc' ρ h := by
  subst hce
  obtain ⟨_, hnc, hfr, hsl⟩ := innerLoc_ok hin
  exact {
    names := by
      show (relabel scope env).names = _
      unfold relabel relab
      have : env.scope.names = ns := F.names
      simp only [F.kind, Env.kindOf, this]
      congr 1
      funext p
      obtain ⟨y, k⟩ := p
      cases k <;> simp
    kind := hk
    globals := F.globals
    blts := F.blts
    vars := ⟨_, hn, fun x i v h1 h2 => by
      obtain ⟨k₀, hs, hkk⟩ := relab_slot h1
      rcases hkk with rfl | ⟨_, hc⟩
      · obtain ⟨_, o, ho, hno, _⟩ := hsl x i 0 _ hs
        rw [Nat.sub_zero] at ho
        rw [ho, hno (by decide)] at h2; cases h2
      · cases hc⟩
    cell := fun x i h1 => by
      obtain ⟨k₀, hs, hkk⟩ := relab_slot h1
      have hmem := slot_mem hs
      have hfree : k₀ = .free := by
        rcases hkk with rfl | ⟨h, _⟩
        · exact absurd rfl (hnc _ hmem)
        · exact h
      subst hfree
      obtain ⟨_, o, ho, _, hof⟩ := hsl x i 0 _ hs
      obtain ⟨j, hj, rfl⟩ := hof rfl
      rw [Nat.sub_zero] at ho
      obtain ⟨d, od, e1, e2, e3⟩ := F.cell x j hj
      obtain ⟨d', hd'⟩ := hcl2 _ hmem rfl
      have : env.cells.lookup x = some d' := hcl _ _ hd'
      rw [e1] at this; cases this
      refine ⟨d, od, hd', e2, fun v hv => e3 v ?_⟩
      rw [ho] at hv
      cases e : loc[j]? with
      | none => rw [e] at hv; cases hv
      | some u => rw [e] at hv; exact hv
    live := fun x d e => F.live x d (hcl _ _ e)
    offL := hoff
    offC := fun x d e => ⟨hne x d (hcl _ _ e), (F.offC x d (hcl _ _ e)).2⟩
    apart := fun x y d e1 e2 => F.apart x y d (hcl _ _ e1) (hcl _ _ e2) }
end

/-- the comprehensions that are run -/
theorem comp_cases : ∀ gens : List Comprehension, (∃ t it ifs, gens = [⟨t, it, ifs, 0⟩]) ∨ ∀ (C : Cfg) (elt : Expr) (scope : Scope) (p : Pos) (ns : Names) (loc : Loc), ev C (.ListComp elt gens scope p) ns loc = M.bad
  | [] => .inr fun _ _ _ _ _ _ => rfl
  | [⟨t, it, ifs, .ofNat 0⟩] => .inl ⟨t, it, ifs, rfl⟩
  | [⟨t, it, ifs, .ofNat (k + 1)⟩] => .inr fun _ _ _ _ _ _ => rfl
  | [⟨t, it, ifs, .negSucc k⟩] => .inr fun _ _ _ _ _ _ => rfl
  | ⟨_, _, _, .ofNat 0⟩ :: _ :: _ => .inr fun _ _ _ _ _ _ => rfl
  | ⟨_, _, _, .ofNat (_ + 1)⟩ :: _ :: _ => .inr fun _ _ _ _ _ _ => rfl
  | ⟨_, _, _, .negSucc _⟩ :: _ :: _ => .inr fun _ _ _ _ _ _ => rfl
end Mine

namespace Mine
open PySem PyProof.Rows

section
variable {prog : Program} {w : World} {h₀ hb : Heap} {A : Around} {W wr : List Addr} {ρ ρ' ρb : Map} {s sb : Shared} {σ : Store} {fns : Str → Option Fn} {glob : Str → Option V} {mg mb : Str → Option Value}
variable {env cenv : Env} {ns ns' : Names} {loc : Loc} {C : Cfg} {n : Nat}

/-- a turn of a comprehension's loop -/
theorem compLoop_turn {elt target iter : Expr} {ifs : List Expr} {scope : Scope} {pos : Pos} {it acc : Value} {R : Result → Shared → Prop}
    (h : wpAny (model prog w) A (pyNext it) (fun r s₁ => match r with
      | none => R (.ok .next) s₁
      | some v => wpAny (model prog w) A (letOwnedTupleGo target it v) (fun _ s₁' => wpAny (model prog w) A (assign target env v) (fun _ s₂ =>
          wpAny (model prog w) A (forIn ifs true fun c r => if r = true then do let ok ← isTrue c env (eval c env); pure (ForInStep.yield ok) else pure (ForInStep.yield r)) (fun ok s₃ =>
            if ok = true then wpAny (model prog w) A (eval elt env) (fun x s₄ =>
              wpAny (model prog w) A (call (.builtin "list.append") [acc, x]) (fun _ s₅ => codeAny (model prog w) A (.compLoop (.ListComp elt [⟨target, iter, ifs, 0⟩] scope pos) 0 it acc env) R s₅) (fun _ _ => False) s₄) (fun _ _ => False) s₃
            else codeAny (model prog w) A (.compLoop (.ListComp elt [⟨target, iter, ifs, 0⟩] scope pos) 0 it acc env) R s₃) (fun _ _ => False) s₂) (fun _ _ => False) s₁') (fun _ _ => False) s₁) (fun _ _ => False) s) :
    codeAny (model prog w) A (.compLoop (.ListComp elt [⟨target, iter, ifs, 0⟩] scope pos) 0 it acc env) R s := by
  refine codeAny_of_tree ?_
  show wpAny _ A ((compTurn (.ListComp elt [⟨target, iter, ifs, 0⟩] scope pos) 0 it acc env).onRaise (fun x => do noteFrame x env; theTreesLotGoes x)) _ _ s
  refine wpAny_noted ?_
  rw [compTurn_list]
  refine wpAny_bind (wpAny_standAt (wpAny_bind (wpAny_mono h (fun r s₁ h₁ => ?_) fun _ _ h' => h'.elim)))
  cases r with
  | none => exact wpAny_pure h₁
  | some v =>
    refine wpAny_bind (wpAny_mono h₁ (fun _ s₁' h₁' => ?_) fun _ _ h' => h'.elim)
    refine wpAny_bind (wpAny_mono h₁' (fun _ s₂ h₂ => wpAny_bind (wpAny_mono h₂ (fun ok s₃ h₃ => ?_) fun _ _ h' => h'.elim)) fun _ _ h' => h'.elim)
    cases ok with
    | false => exact wpAny_pure ⟨rfl, h₃⟩
    | true =>
      exact wpAny_bind (wpAny_bind (wpAny_mono h₃ (fun x s₄ h₄ => wpAny_bind (wpAny_mono h₄ (fun _ s₅ h₅ => wpAny_pure (wpAny_pure ⟨rfl, h₅⟩)) fun _ _ h' => h'.elim)) fun _ _ h' => h'.elim))

variable (prog w h₀ C n) in
/-- the tests of a comprehension -/
def TestsS (ifs : List Expr) : Prop := ∀ (env : Env) (ns : Names) (loc : Loc) (σ : Store) (ρ : Map) (s : Shared) (A : Around), Rm A n → Frm env ns loc ρ s.heap → Inv h₀ σ ρ s.heap →
  Sim prog w h₀ A [] (forIn ifs true fun c r => if r = true then do let ok ← isTrue c env (eval c env); pure (ForInStep.yield ok) else pure (ForInStep.yield r)) (tests C ifs ns loc σ) RB ρ s
theorem tests_nil : TestsS prog w h₀ C n [] := fun env ns loc σ ρ s A hA F i => Sim.ret i rfl
theorem tests_one {e : Expr} (h : TstS prog w h₀ C n e) : TestsS prog w h₀ C n [e] := fun env ns loc σ ρ s A hA F i =>
  Sim.wrap (fun _ _ => wpAny_tests_one) (h env ns loc σ ρ s A hA F i)
theorem tests_more {e f : Expr} {r : List Expr} : TestsS prog w h₀ C n (e :: f :: r) := fun env ns loc σ ρ s A hA F i => trivial

/-- the state of a comprehension's loop, but for its walk -/
structure CE (h₀ : Heap) (ρb : Map) (hb : Heap) (cenv : Env) (ns' : Names) (D : Addr) (loc : Loc) (l : List V) (σ : Store) (ρ : Map) (h : Heap) : Prop where
  inv : Inv h₀ σ ρ h
  frm : Frm cenv ns' loc ρ h
  ext : Ext [] ρb hb ρ h
  acc : ∃ vs k, h.get? D = some (listO vs k) ∧ RelAll ρ h vs l
  off : offMap ρ D

/-- what stays through it -/
structure CK (h₀ : Heap) (hb : Heap) (cenv : Env) (wr : List Addr) (D : Addr) : Prop where
  deadW : ∀ b ∈ wr, hb.get? b = none
  deadD : hb.get? D = none
  deadC : hb.get? cenv.locals = none
  offW : ∀ b ∈ wr, offFrame cenv b
  offD : offFrame cenv D
  base : ∀ b o, h₀.get? b = some o → ∃ o', hb.get? b = some o'
  DW : D ∉ wr

theorem list_not_tup {vs ws : List Value} {j k : Nat} : listO vs j ≠ tupO ws k := fun e => absurd (Value.type.inj (congrArg Obj.cls e)) (by decide)

theorem bind_inv {α β : Type} {m : M α} {f : α → M β} {b : β} {σ₂ : Store} (h : (m >>= f) σ = .ok b σ₂) : ∃ a σ₁, m σ = .ok a σ₁ ∧ f a σ₁ = .ok b σ₂ := by
  cases e : m σ with
  | bad => rw [bind_bad e] at h; cases h
  | exc _ _ => rw [bind_exc e] at h; cases h
  | ok a σ₁ => rw [bind_ok e] at h; exact ⟨a, σ₁, rfl, h⟩

theorem CK.base0 {D : Addr} (K : CK h₀ hb cenv wr D) {b : Addr} (h : hb.get? b = none) : h₀.get? b = none := by
  cases e : h₀.get? b with
  | none => rfl
  | some o => obtain ⟨o', e'⟩ := K.base _ _ e; rw [h] at e'; cases e'

theorem CE.but {D : Addr} {l : List V} {h h' : Heap} (K : CK h₀ hb cenv wr D) (x : CE h₀ ρb hb cenv ns' D loc l σ ρ h) (hk : KeepBut wr h h') (ho : Own wr ρ h) : CE h₀ ρb hb cenv ns' D loc l σ ρ h' where
  inv := x.inv.but hk ho fun b hb => K.base0 (K.deadW b hb)
  frm := x.frm.but hk ho K.offW
  ext := x.ext.but hk K.deadW
  acc := by
    obtain ⟨vs, k, g, r⟩ := x.acc
    exact ⟨vs, k, hk _ _ K.DW g, r.sub (hk.sub ho)⟩
  off := x.off

theorem CE.step {D : Addr} {l : List V} {h h' : Heap} {σ' : Store} {loc' : Loc} (K : CK h₀ hb cenv wr D) (x : CE h₀ ρb hb cenv ns' D loc l σ ρ h) (hW : ∀ b ∈ W, b = cenv.locals) (i : Inv h₀ σ' ρ' h') (e : Ext W ρ h ρ' h') (F : Frm cenv ns' loc' ρ' h') :
    CE h₀ ρb hb cenv ns' D loc' l σ' ρ' h' where
  inv := i
  frm := F
  ext := ((x.ext.weak (W' := W) fun _ hm => nomatch hm).trans e).weak fun b hm => .inr (by rw [hW b hm]; exact K.deadC)
  acc := by
    obtain ⟨vs, k, g, r⟩ := x.acc
    exact ⟨vs, k, e.keep _ _ g (fun hm => K.offD.1 (hW _ hm)) x.off, r.ext e⟩
  off := by
    obtain ⟨vs, k, g, r⟩ := x.acc
    exact offMap.ext e g x.off

/-- an item more -/
theorem CE.push {D : Addr} {l : List V} {v : Value} {a : V} {Q : Value → Shared → Prop} {E : Value → Shared → Prop} {sr : Src} {it : Value} {i : Nat} (K : CK h₀ hb cenv wr D) (x : CE h₀ ρb hb cenv ns' D loc l σ ρ s.heap) (wk : ItAt sr it wr i ρ s.heap) (r : Rel ρ s.heap v a) (hl : l.length ≤ sizeLine)
    (h : ∀ h', CE h₀ ρb hb cenv ns' D loc (l ++ [a]) σ ρ h' → ItAt sr it wr i ρ h' → Q .none { s with heap := h' }) : wpAny (model prog w) A (call (.builtin "list.append") [.ref D, v]) Q E s := by
  obtain ⟨vs, k, g, rv⟩ := x.acc
  have hlen := rv.length
  refine wpAny_list_append_plain ⟨k, g⟩ (fun h' hg hk => ?_) (by rw [List.size_toArray, hlen]; exact hl)
  obtain ⟨m', hg⟩ := hg
  have hg : h'.get? D = some (listO (vs ++ [v]) m') := by simpa [listO] using hg
  have hkk : ∀ b o, s.heap.get? b = some o → b ∉ [D] → h'.get? b = some o := fun b o e hb => hk.extBut b o (fun eq => hb (List.mem_singleton.mpr eq)) e
  have hx : Ext [D] ρ s.heap ρ h' := Ext.of_keep hkk fun b o e hm => by
    rw [List.mem_singleton.mp hm] at e ⊢
    rw [g] at e; cases e
    exact ⟨fun vs n => list_not_tup, _, hg⟩
  refine h h' ⟨x.inv.keep hx (fun b hm => by rw [List.mem_singleton.mp hm]; exact ⟨x.off, K.base0 K.deadD⟩) hkk, x.frm.ext hx (fun b hm => by rw [List.mem_singleton.mp hm]; exact K.offD), ?_, ⟨vs ++ [v], m', hg, (rv.append (.cons r .nil)).ext hx⟩, x.off⟩
    (wk.ext hx fun b hb hm => K.DW (List.mem_singleton.mp hm ▸ hb))
  exact ((x.ext.weak (W' := [D]) fun _ hm => nomatch hm).trans hx).weak fun b hm => .inr (by rw [List.mem_singleton.mp hm]; exact K.deadD)

theorem compLoop_step {sr : Src} {bt : V → Loc → M Loc} {tt : Loc → M Bool} {et : Loc → M V} {k i : Nat} {o : Option V} (h : sr.at σ i = some o) : compLoop sr bt tt et (k + 1) i loc σ =
    (match o with | none => (pure [] : M (List V)) | some v => (bt v loc >>= fun loc' => tt loc' >>= fun c => if c = true then (et loc' >>= fun x => compLoop sr bt tt et k (i + 1) loc' >>= fun r => pure (x :: r)) else compLoop sr bt tt et k (i + 1) loc')) σ := by
  show (sr.get i >>= _) σ = _
  refine (bind_ok (a := o) (σ' := σ) (by unfold Src.get askS; dsimp only; rw [h])).trans ?_
  cases o <;> rfl
theorem compLoop_bad {sr : Src} {bt : V → Loc → M Loc} {tt : Loc → M Bool} {et : Loc → M V} {k i : Nat} (h : sr.at σ i = none) : compLoop sr bt tt et (k + 1) i loc σ = .bad := by
  show (sr.get i >>= _) σ = _
  rw [bind_bad (by unfold Src.get askS; dsimp only; rw [h])]

theorem compLoop_ok {elt target iter : Expr} {ifs : List Expr} {scope : Scope} {pos : Pos} {D : Addr} {sr : Src} {it : Value} (hA : Rm A n) (K : CK h₀ hb cenv wr D) (ht : TestsS prog w h₀ C n ifs) (he : EvS prog w h₀ C n elt) (htg : tgtOk sr target = true) :
    ∀ (k i : Nat) (loc : Loc) (l₀ : List V) (σ : Store) (ρ : Map) (H : Heap) (tk : Nat) (l : List V) (σ' : Store), CE h₀ ρb hb cenv ns' D loc l₀ σ ρ H → ItAt sr it wr i ρ H →
      compLoop sr (bindTo (stLocL ns') target) (tests C ifs ns') (ev C elt ns') k i loc σ = .ok l σ' → l₀.length + l.length ≤ sizeLine →
      codeAny (model prog w) A (.compLoop (.ListComp elt [⟨target, iter, ifs, 0⟩] scope pos) 0 it (.ref D) cenv)
        (fun r s' => r = .ok .next ∧ ∃ loc' ρ' H' tk', s' = { sb with heap := H', toks := tk' } ∧ CE h₀ ρb hb cenv ns' D loc' (l₀ ++ l) σ' ρ' H') { sb with heap := H, toks := tk }
  | 0, _, _, _, _, _, _, _, _, _, _, _, h, _ => by cases h
  | k + 1, i, loc, l₀, σ, ρ, H, tk, l, σ', x, wk, h, hl => by
    have S := stLocL_ok (prog := prog) (w := w) (env := cenv) (ns := ns') (K.base0 K.deadC)
    cases hat : sr.at σ i with
    | none => rw [compLoop_bad hat] at h; cases h
    | some o =>
      rw [compLoop_step hat] at h
      refine compLoop_turn (s := { sb with heap := H, toks := tk }) (wk.next (s := { sb with heap := H, toks := tk }) hA.handled x.inv hat htg (fun h' hn hk => ?_) fun v val h' tk' hv hk hgo => ?_)
      · subst hn
        cases h
        exact ⟨rfl, loc, ρ, h', tk, rfl, by rw [List.append_nil]; exact x.but K hk wk.own⟩
      · subst hv
        obtain ⟨loc₁, σ₁, hb1, h⟩ := bind_inv h
        obtain ⟨b, σ₂, hb2, h⟩ := bind_inv h
        refine hgo _ _ fun h'' hk'' rv wk' => ?_
        have x1 := x.but K hk'' wk.own
        have h1 := Sim.bindTo (s := { sb with heap := h'', toks := tk' }) (t := target) S hA.handled x1.frm x1.inv rv
        rw [hb1] at h1
        refine wpAny_mono h1 (fun _ s' hp => ?_) fun _ _ f => f
        obtain ⟨ρ₁, H₁, tk₁, rfl, i₁, e₁, F₁⟩ := hp
        have x2 := x1.step K (fun b hm => List.mem_singleton.mp hm) i₁ e₁ F₁
        have wk2 := wk'.ext e₁ fun b hb hm => (K.offW b hb).1 (List.mem_singleton.mp hm)
        have h2 := ht cenv ns' loc₁ σ₁ ρ₁ { sb with heap := H₁, toks := tk₁ } A hA x2.frm x2.inv
        rw [hb2] at h2
        refine wpAny_mono h2 (fun ok s' hp => ?_) fun _ _ f => f
        obtain ⟨ρ₂, H₂, tk₂, rfl, i₂, e₂, hok⟩ := hp
        have hok : ok = b := hok
        subst hok
        have x3 := x2.step K (W := []) (fun b hm => absurd hm (List.not_mem_nil)) i₂ e₂ (x2.frm.ext0 e₂)
        have wk3 := wk2.ext e₂ fun b hb hm => absurd hm List.not_mem_nil
        cases ok with
        | false => exact compLoop_ok hA K ht he htg k (i + 1) loc₁ l₀ σ₂ ρ₂ H₂ tk₂ l σ' x3 wk3 h hl
        | true =>
          change (ev C elt ns' loc₁ >>= fun x => compLoop sr (bindTo (stLocL ns') target) (tests C ifs ns') (ev C elt ns') k (i + 1) loc₁ >>= fun r => pure (x :: r)) σ₂ = .ok l σ' at h
          obtain ⟨a, σ₃, hb3, h⟩ := bind_inv h
          obtain ⟨r, σ₄, hb4, h⟩ := bind_inv h
          cases h
          have h3 := he cenv ns' loc₁ σ₂ ρ₂ { sb with heap := H₂, toks := tk₂ } A hA x3.frm x3.inv
          rw [hb3] at h3
          refine wpAny_mono h3 (fun y s' hp => ?_) fun _ _ f => f
          obtain ⟨ρ₃, H₃, tk₃, rfl, i₃, e₃, ry⟩ := hp
          have x4 := x3.step K (W := []) (fun b hm => absurd hm (List.not_mem_nil)) i₃ e₃ (x3.frm.ext0 e₃)
          have wk4 := wk3.ext e₃ fun b hb hm => absurd hm List.not_mem_nil
          rw [List.length_cons] at hl
          refine CE.push (s := { sb with heap := H₃, toks := tk₃ }) K x4 wk4 ry (by omega) fun h' x5 wk5 => ?_
          have := compLoop_ok (iter := iter) (scope := scope) (pos := pos) hA K ht he htg k (i + 1) loc₁ (l₀ ++ [a]) σ₃ ρ₃ h' tk₃ r σ' x5 wk5 hb4 (by rw [List.length_append, List.length_singleton]; omega)
          rw [List.append_assoc] at this
          exact this

/-- an object of the heap is taken into the store -/
theorem Inv.adopt {a : Addr} {o : O} {h : Heap} (i : Inv h₀ σ ρ h) (off : offMap ρ a) (h0 : h₀.get? a = none) (ho : ORel (ρ ++ [(a, a)]) h (a, a) o) : Inv h₀ (σ ++ [o]) (ρ ++ [(a, a)]) h := by
  have hcase : ∀ (n : Nat) (p : Addr × Addr), (ρ ++ [(a, a)])[n]? = some p → ρ[n]? = some p ∨ (n = ρ.length ∧ p = (a, a)) := fun n p e => by
    rcases Nat.lt_or_ge n ρ.length with hl | hl
    · rw [List.getElem?_append_left hl] at e; exact .inl e
    · rw [List.getElem?_append_right hl] at e
      rcases Nat.eq_zero_or_pos (n - ρ.length) with hz | hz
      · rw [hz] at e; cases e; exact .inr ⟨Nat.le_antisymm (Nat.le_of_sub_eq_zero hz) hl, rfl⟩
      · rw [List.getElem?_eq_none (by simp; exact hz)] at e; cases e
  refine ⟨i.base, by simp [i.len], fun n o' p e1 e2 => ?_, fun n p hp hn => ?_, fun j k p q e1 e2 hjk => ?_⟩
  · rcases hcase n p e2 with e2 | ⟨rfl, rfl⟩
    · have hl : n < σ.length := by
        rcases Nat.lt_or_ge n ρ.length with hl | hl
        · rw [← i.len]; exact hl
        · rw [List.getElem?_eq_none hl] at e2; cases e2
      rw [List.getElem?_append_left hl] at e1
      exact (i.objs n o' p e1 e2).sub Sub.snoc (fun ob g => g) (fun ob g => g)
    · rw [i.len, List.getElem?_append_right (Nat.le_refl _), Nat.sub_self] at e1
      cases e1; exact ho
  · rcases hcase n p hp with hp | ⟨_, rfl⟩
    · exact i.fresh n p hp hn
    · exact ⟨h0, h0⟩
  · rcases hcase j p e1 with e1 | ⟨rfl, rfl⟩ <;> rcases hcase k q e2 with e2 | ⟨rfl, rfl⟩
    · exact i.apart j k p q e1 e2 hjk
    · have := off p (List.mem_of_getElem? e1)
      exact ⟨this.1.symm, this.1.symm, this.2.symm, this.2.symm⟩
    · have := off q (List.mem_of_getElem? e2)
      exact ⟨this.1, this.2, this.1, this.2⟩
    · exact absurd rfl hjk
theorem Ext.adopt {a : Addr} {h : Heap} (x : Ext W ρb hb ρ h) (hd : hb.get? a = none) : Ext W ρb hb (ρ ++ [(a, a)]) h where
  pre := fun n p e => Sub.snoc (h := h).1 n p (x.pre n p e)
  keep := x.keep
  tups := x.tups
  alive := x.alive
  new := fun j p e hj => by
    rcases Nat.lt_or_ge j ρ.length with hl | hl
    · rw [List.getElem?_append_left hl] at e; exact x.new j p e hj
    · rw [List.getElem?_append_right hl] at e
      rcases Nat.eq_zero_or_pos (j - ρ.length) with hz | hz
      · rw [hz] at e; cases e; exact ⟨hd, hd⟩
      · rw [List.getElem?_eq_none (by simp; exact hz)] at e; cases e
end
end Mine

namespace Mine
open PySem PyProof.Rows

section
variable {prog : Program} {w : World} {h₀ hb : Heap} {A : Around} {W wr : List Addr} {ρ ρ' ρb : Map} {s sb : Shared} {σ : Store} {fns : Str → Option Fn} {glob : Str → Option V} {mg mb : Str → Option Value}
variable {env cenv : Env} {ns ns' : Names} {loc : Loc} {C : Cfg} {n : Nat}

/-- what a comprehension answers on the store's side -/
def compM (C : Cfg) (elt target iter : Expr) (ifs : List Expr) (scope : Scope) (ns : Names) (loc : Loc) : M V := do
  let s ← src C iter ns loc (ev C iter ns loc)
  if tgtOk s target && compOk scope.kind scope.names then do
    let n ← s.count
    let loc' ← innerLoc ns loc scope.names
    let l ← compLoop s (bindTo (stLocL (relab ns scope.names)) target) (tests C ifs (relab ns scope.names)) (ev C elt (relab ns scope.names)) (n + 1) 0 loc'
    if l.length ≤ sizeLine then newO (.list l) else M.bad
  else M.bad

theorem compOk_kind {k : ScopeKind} {names : Names} (h : compOk k names = true) : k = .function ∧ ∀ x ∈ names, x.2 = .local → names.lookup x.1 = some .local := by
  unfold compOk at h
  simp only [Bool.and_eq_true, List.all_eq_true] at h
  obtain ⟨h1, h2⟩ := h
  refine ⟨?_, fun x hx hl => ?_⟩
  · cases k <;> first | rfl | cases h1
  · have := h2 x hx
    rw [hl] at this
    dsimp only at this
    cases e : names.lookup x.1 with
    | none => rw [e] at this; cases this
    | some k' => rw [e] at this; cases k' <;> first | rfl | cases this

theorem ask_ok {α : Type} {f : Store → Option α} {a : α} {σ' : Store} (h : askS f σ = .ok a σ') : σ' = σ ∧ f σ = some a := by
  unfold askS at h
  cases e : f σ with
  | none => rw [e] at h; cases h
  | some b => rw [e] at h; cases h; exact ⟨rfl, rfl⟩

theorem ite_ok {α : Type} {c : Prop} [Decidable c] {m : M α} {a : α} {σ' : Store} (h : (if c then m else M.bad) σ = .ok a σ') : c ∧ m σ = .ok a σ' := by
  by_cases hc : c
  · rw [if_pos hc] at h; exact ⟨hc, h⟩
  · rw [if_neg hc] at h; cases h

theorem set_no_fold {iter : Expr} (h : ∀ es k p, iter ≠ .Set es k p) : ∀ x, foldedSetIterable iter env x = pure x := by
  intro x
  cases iter <;> first | rfl | exact absurd rfl (h _ _ _)

theorem src_set {es : List Expr} {k : Nat} {p : Pos} : src C (.Set es k p) ns loc (ev C (.Set es k p) ns loc) σ = .bad := rfl

/-- a comprehension up to its end -/
theorem comp_core {elt target iter : Expr} {ifs : List Expr} {scope : Scope} {pos : Pos} {v : V} {σ' : Store} {use : Option (Value → Sem Unit)} {Q : Value → Shared → Prop} {E : Value → Shared → Prop} {pp : Pos} (hA : Rm A n) (F : Frm env ns loc ρ s.heap) (iv : Inv h₀ σ ρ s.heap)
    (hs : SrcS prog w h₀ C n iter) (ht : TestsS prog w h₀ C n ifs) (he : EvS prog w h₀ C n elt) (h : compM C elt target iter ifs scope ns loc σ = .ok v σ')
    (hend : ∀ D c f ρ' H tk m, Inv h₀ σ' ρ' H → Ext [] ρ s.heap ρ' H → Rel ρ' H (.ref D) v → H.Ns c m → offMap ρ' c → s.heap.get? c = none → compPost (model prog w) A E use Q (.ref D) c (.ok f) { s with heap := H, toks := tk }) :
    wpAny (model prog w) A (comprehension (.ListComp elt [⟨target, iter, ifs, 0⟩] scope pos) scope env pp (newList []) false (eval iter env) use) Q E s := by
  obtain ⟨sr, σ₁, h1, k1⟩ := bind_inv h
  obtain ⟨hc, k2⟩ := ite_ok k1
  obtain ⟨N, σ₂, h2, k3⟩ := bind_inv k2
  obtain ⟨rfl, h2'⟩ := ask_ok h2
  obtain ⟨loc', σ₃, h3, k4⟩ := bind_inv k3
  obtain ⟨l, σ₄, h4, k5⟩ := bind_inv k4
  obtain ⟨hl, k6⟩ := ite_ok k5
  cases k6
  simp only [Bool.and_eq_true] at hc
  obtain ⟨htg, hco⟩ := hc
  obtain ⟨hkind, hnames⟩ := compOk_kind hco
  have hin := h3
  obtain ⟨rfl, hnc, hfr, hsl⟩ := innerLoc_ok h3
  obtain ⟨cl, hclos, hcl, hcl2⟩ := closure_ok (env := env) (scope := scope) fun x hx hf => by
    obtain ⟨j, hj⟩ := hfr x hx hf
    obtain ⟨c, o, e, _⟩ := F.cell x.1 j hj
    exact ⟨c, e⟩
  have hset : ∀ es k p, iter ≠ .Set es k p := fun es k p e => by subst e; rw [src_set] at h1; cases h1
  refine wpAny_comprehension_free (g := ⟨target, iter, ifs, 0⟩) (gs := []) (cl := cl) rfl (set_no_fold hset) hclos hkind hnames ?_
  have hsrc := hs env ns loc σ ρ s A hA F iv
  rw [h1] at hsrc
  refine wpAny_mono hsrc (fun xv s₁ hp => ?_) fun _ _ f => f.elim
  obtain ⟨ρ₁, H₁, tk₁, rfl, i₁, x₁, r₁⟩ := hp
  refine RSrc.iter (s := { s with heap := H₁, toks := tk₁ }) i₁ x₁ r₁ fun it wr h₂ hk₂ wk hdead => ?_
  have i₂ := i₁.keeps hk₂
  have x₂ : Ext [] ρ s.heap ρ₁ h₂ := x₁.trans (Ext.of_keeps hk₂)
  have F₂ : Frm env ns loc ρ₁ h₂ := F.ext0 x₂
  -- the list that grows, the block's names
  refine wpAny_newObj_type (T := "list") (wpAny_newFunctionEnv hnc (by intro y hy; simp at hy) (fun h₃ hns₃ hsb₃ => ?_) hkind)
  dsimp only at hns₃ hsb₃ ⊢
  have hD3 : ∀ b o, h₂.get? b = some o → h₃.get? b = some o := fun b o e => hsb₃.extBut b o (Nat.ne_of_lt (Heap.lt_size (Heap.get?_push_of_some _ e))) (Heap.get?_push_of_some _ (Heap.get?_push_of_some _ e))
  generalize hH2 : h₂.push { cls := .type "list", dict := none, data := .seq ([] : List Value).toArray } = H2 at hns₃ hsb₃ ⊢
  have hDg : h₃.get? h₂.objs.size = some (listO [] 0) := hsb₃.extBut _ _ (by rw [← hH2, Heap.size_push]; exact Nat.ne_of_lt (Nat.lt_succ_self _)) (Heap.get?_push_of_some _ (hH2 ▸ Heap.get?_push_size _ rfl))
  have hDC : h₂.objs.size ≠ H2.objs.size := by rw [← hH2, Heap.size_push]; exact Nat.ne_of_lt (Nat.lt_succ_self _)
  have deadD := size_dead x₂.alive
  have hs2 : H2.objs.size = h₂.objs.size + 1 := by rw [← hH2, Heap.size_push]
  have deadC2 : h₂.get? H2.objs.size = none := by
    cases e : h₂.get? H2.objs.size with
    | none => rfl
    | some o => exact absurd (Heap.lt_size e) (by rw [hs2]; exact Nat.not_lt.mpr (Nat.le_succ _))
  have deadC : s.heap.get? H2.objs.size = none := by
    cases e : s.heap.get? H2.objs.size with
    | none => rfl
    | some o => obtain ⟨o', e'⟩ := x₂.alive _ _ e; rw [deadC2] at e'; cases e'
  have i₃ := i₂.keeps hD3
  have offD : offMap ρ₁ h₂.objs.size := i₂.off_size
  have offC : offMap ρ₁ H2.objs.size := fun p hp => by
    obtain ⟨⟨o1, e1⟩, ⟨o2, e2⟩⟩ := i₂.alive hp
    exact ⟨fun e => (by rw [← e, deadC2] at e1; cases e1), fun e => (by rw [← e, deadC2] at e2; cases e2)⟩
  have F₃ : Frm env ns loc ρ₁ h₃ := F₂.ext0 (Ext.of_keeps hD3)
  generalize hce : ({ newEnv scope H2.objs.size env.globals cl env.qual none .none (some env) (builtinsNs) with scope := relabel scope env } : Env) = cenv
  have hcloc : cenv.locals = H2.objs.size := by rw [← hce]; rfl
  have hccell : cenv.cells = cl := by rw [← hce]; rfl
  have Fc : Frm cenv (relab ns scope.names) loc' ρ₁ h₃ := compFrm F₃ hin hkind hcl hcl2 (by rw [← hce]; rfl) hns₃ offC fun x d hd e => by
    obtain ⟨_, o, ho, _⟩ := F₂.live x d hd
    rw [e, deadC2] at ho; cases ho
  have hcl_live : ∀ y c, cenv.cells.lookup y = some c → ∃ o, s.heap.get? c = some o := fun y c hc => by
    rw [hccell] at hc
    obtain ⟨_, o, ho, _⟩ := F.live y c (hcl _ _ hc)
    exact ⟨o, ho⟩
  have K : CK h₀ s.heap cenv wr h₂.objs.size :=
    { deadW := hdead
      deadD := deadD
      deadC := by rw [hcloc]; exact deadC
      offW := fun b hb => by
        refine ⟨fun e => ?_, fun y c hc e => ?_⟩
        · obtain ⟨_, o, ho, _⟩ := wk.own b hb
          rw [e, hcloc, deadC2] at ho; cases ho
        · obtain ⟨o, ho⟩ := hcl_live y c hc
          rw [← e, hdead b hb] at ho; cases ho
      offD := ⟨by rw [hcloc]; exact hDC, fun y c hc e => by
          obtain ⟨o, ho⟩ := hcl_live y c hc
          rw [← e, deadD] at ho; cases ho⟩
      base := fun b o e => ⟨o, iv.base b o e⟩
      DW := fun hm => by
        obtain ⟨_, o, ho, _⟩ := wk.own _ hm
        exact absurd (Heap.lt_size ho) (Nat.lt_irrefl _) }
  have X : CE h₀ ρ s.heap cenv (relab ns scope.names) h₂.objs.size loc' [] σ₃ ρ₁ h₃ :=
    { inv := i₃
      frm := Fc
      ext := x₂.trans (Ext.of_keeps hD3)
      acc := ⟨[], 0, hDg, .nil⟩
      off := offD }
  have wk3 := wk.ext (Ext.of_keeps (W := []) hD3) fun b hb hm => absurd hm List.not_mem_nil
  have loop := fun tk => compLoop_ok (iter := iter) (scope := scope) (pos := pos) (sb := s) hA K ht he htg (N + 1) 0 loc' [] σ₃ ρ₁ h₃ tk l σ₄ X wk3 h4 (by simpa using hl)
  have fin : ∀ tk, codeAny (model prog w) A (.compLoop (.ListComp elt [⟨target, iter, ifs, 0⟩] scope pos) 0 it (.ref h₂.objs.size) cenv) (compPost (model prog w) A E use Q (.ref h₂.objs.size) H2.objs.size) { s with heap := h₃, toks := tk } := fun tk => by
    refine codeAny_mono (loop tk) fun r s' hr => ?_
    obtain ⟨rfl, loc₅, ρ₅, H₅, tk₅, rfl, X₅⟩ := hr
    obtain ⟨vs, k, g, rv⟩ := X₅.acc
    obtain ⟨m, hn, _⟩ := X₅.frm.vars
    rw [hcloc] at hn
    have offC5 := X₅.frm.offL
    rw [hcloc] at offC5
    refine hend _ _ _ (ρ₅ ++ [(h₂.objs.size, h₂.objs.size)]) H₅ tk₅ m (X₅.inv.adopt X₅.off (K.base0 deadD) ⟨rfl, vs, k, g, by rw [rv.length]; simpa using hl, rv.sub Sub.snoc⟩) (X₅.ext.adopt deadD) (.ref (d := h₂.objs.size) ?_) hn (fun p hp => ?_) deadC
    · rw [← X₅.inv.len, List.getElem?_append_right (Nat.le_refl _), Nat.sub_self]; rfl
    · rcases List.mem_append.mp hp with hp | hp
      · exact offC5 p hp
      · rw [List.mem_singleton.mp hp]; exact ⟨hDC.symm, hDC.symm⟩
  exact codeAny_compStart_list (fin _) (wk3.self (s := { s with heap := h₃, toks := _ }) (fin _))
end
end Mine

namespace Mine
open PySem PyProof.Rows

section
variable {prog : Program} {w : World} {h₀ hb : Heap} {A : Around} {W wr : List Addr} {ρ ρ' ρb : Map} {s sb : Shared} {σ : Store} {fns : Str → Option Fn} {glob : Str → Option V} {mg mb : Str → Option Value}
variable {env cenv : Env} {ns ns' : Names} {loc : Loc} {C : Cfg} {n : Nat}

/-- a comprehension's names let go -/
theorem comp_end {c : Addr} {H h' : Heap} {m : Str → Option Value} (i : Inv h₀ σ ρ' H) (x : Ext W ρ hb ρ' H) (h0 : ∀ b o, h₀.get? b = some o → ∃ o', hb.get? b = some o') (hn : H.Ns c m) (off : offMap ρ' c) (hd : hb.get? c = none) (hs : Heap.SameBut c H h') :
    Inv h₀ σ ρ' h' ∧ Ext W ρ hb ρ' h' ∧ KeepBut [c] H h' ∧ Own [c] ρ' H := by
  have hk : KeepBut [c] H h' := KeepBut.of_but hs.extBut (List.mem_singleton.mpr rfl)
  have own : Own [c] ρ' H := fun b hb => by
    rw [List.mem_singleton.mp hb]
    obtain ⟨o, es, ep, ho, r⟩ := id hn
    exact ⟨off, o, ho, ns_not_tup hn ho⟩
  refine ⟨i.but hk own fun b hb' => ?_, x.but hk fun b hb' => by rw [List.mem_singleton.mp hb']; exact hd, hk, own⟩
  rw [List.mem_singleton.mp hb']
  cases e : h₀.get? c with
  | none => rfl
  | some o => obtain ⟨o', e'⟩ := h0 _ _ e; rw [hd] at e'; cases e'

theorem ev_listcomp {elt target iter : Expr} {ifs : List Expr} {scope : Scope} {pos : Pos} (hs : SrcS prog w h₀ C n iter) (ht : TestsS prog w h₀ C n ifs) (he : EvS prog w h₀ C n elt) : EvS prog w h₀ C n (.ListComp elt [⟨target, iter, ifs, 0⟩] scope pos) :=
  fun env ns loc σ ρ s A hA F i => by
  show Sim prog w h₀ A [] _ (compM C elt target iter ifs scope ns loc σ) RV ρ s
  cases h : compM C elt target iter ifs scope ns loc σ with
  | bad => exact trivial
  | exc _ _ => exact trivial
  | ok v σ' =>
    refine comp_core (use := none) hA F i hs ht he h fun D c f ρ' H tk m i' x' r hn off hd => ⟨m, hn, fun h' hsb => ?_⟩
    obtain ⟨i₂, x₂, hk, own⟩ := comp_end i' x' (fun b o e => ⟨o, i.base b o e⟩) hn off hd hsb
    exact ⟨ρ', h', tk, rfl, i₂, x₂, r.sub (hk.sub own)⟩

/-! ## statements -/
def RFl (ρ : Map) (h : Heap) : Fl → Flow → Prop
  | .next, f => f = .next
  | .brk, f => f = .brk
  | .cont, f => f = .cont
  | .ret v, f => ∃ val, f = .ret val ∧ Rel ρ h val v
def RX (env : Env) (ns : Names) : Fl × Loc → Map → Heap → Flow → Prop := fun r ρ h f => RFl ρ h r.1 f ∧ Frm env ns r.2 ρ h

variable (prog w h₀ C n) in
def ExS (st : Stmt) : Prop := ∀ (env : Env) (ns : Names) (loc : Loc) (σ : Store) (ρ : Map) (s : Shared) (A : Around), Rm A n → (∀ b ∈ frameW env, h₀.get? b = none) → Frm env ns loc ρ s.heap → Inv h₀ σ ρ s.heap →
  Sim prog w h₀ A (frameW env) (exec st env) (ex C st ns loc σ) (RX env ns) ρ s
variable (prog w h₀ C n) in
def ExsS (sts : List Stmt) : Prop := ∀ (env : Env) (ns : Names) (loc : Loc) (σ : Store) (ρ : Map) (s : Shared) (A : Around), Rm A n → (∀ b ∈ frameW env, h₀.get? b = none) → Frm env ns loc ρ s.heap → Inv h₀ σ ρ s.heap →
  Sim prog w h₀ A (frameW env) (execs sts env) (exs C sts ns loc σ) (RX env ns) ρ s

/-- an expression within a statement -/
theorem EvS.st {e : Expr} (he : EvS prog w h₀ C n e) (hA : Rm A n) (F : Frm env ns loc ρ s.heap) (i : Inv h₀ σ ρ s.heap) : Sim prog w h₀ A W (eval e env) (ev C e ns loc σ) (fun v ρ' h' b => Rel ρ' h' b v ∧ Frm env ns loc ρ' h') ρ s := by
  have := he env ns loc σ ρ s A hA F i
  cases h : ev C e ns loc σ with
  | bad => exact trivial
  | exc _ _ => exact trivial
  | ok v σ' =>
    rw [h] at this
    refine wpAny_mono this (fun b s' hp => ?_) fun _ _ x => x
    obtain ⟨ρ₁, H, tk, rfl, i₁, x₁, r₁⟩ := hp
    exact ⟨ρ₁, H, tk, rfl, i₁, x₁.weak fun _ hm => absurd hm List.not_mem_nil, r₁, F.ext0 x₁⟩
theorem TstS.st {e : Expr} (he : TstS prog w h₀ C n e) (hA : Rm A n) (F : Frm env ns loc ρ s.heap) (i : Inv h₀ σ ρ s.heap) : Sim prog w h₀ A W (isTrue e env (eval e env)) (tst C e ns loc (ev C e ns loc) σ) (fun v ρ' h' b => b = v ∧ Frm env ns loc ρ' h') ρ s := by
  have := he env ns loc σ ρ s A hA F i
  cases h : tst C e ns loc (ev C e ns loc) σ with
  | bad => exact trivial
  | exc _ _ => exact trivial
  | ok v σ' =>
    rw [h] at this
    refine wpAny_mono this (fun b s' hp => ?_) fun _ _ x => x
    obtain ⟨ρ₁, H, tk, rfl, i₁, x₁, r₁⟩ := hp
    exact ⟨ρ₁, H, tk, rfl, i₁, x₁.weak fun _ hm => absurd hm List.not_mem_nil, r₁, F.ext0 x₁⟩

theorem exs_nil : ExsS prog w h₀ C n [] := fun env ns loc σ ρ s A hA hf F i => Sim.ret i ⟨rfl, F⟩
theorem exs_cons {st : Stmt} {r : List Stmt} (h : ExS prog w h₀ C n st) (hr : ExsS prog w h₀ C n r) : ExsS prog w h₀ C n (st :: r) := fun env ns loc σ ρ s A hA hf F i => by
  rw [execs_cons]
  show Sim prog w h₀ A (frameW env) _ ((ex C st ns loc >>= fun x => andThen x (exs C r ns)) σ) (RX env ns) ρ s
  refine Sim.bind (h env ns loc σ ρ s A hA hf F i) fun a σ₁ ρ₁ H tk f i₁ x₁ r₁ => ?_
  obtain ⟨fl, loc₁⟩ := a
  obtain ⟨rf, F₁⟩ := r₁
  cases fl with
  | next => cases rf; exact hr env ns loc₁ σ₁ ρ₁ _ A hA hf F₁ i₁
  | brk => cases rf; exact Sim.ret i₁ ⟨rfl, F₁⟩
  | cont => cases rf; exact Sim.ret i₁ ⟨rfl, F₁⟩
  | ret v =>
    obtain ⟨val, rfl, rv⟩ := rf
    exact Sim.ret i₁ ⟨⟨val, rfl, rv⟩, F₁⟩

theorem ex_pass {pos : Pos} : ExS prog w h₀ C n (.Pass pos) := fun env ns loc σ ρ s A hA hf F i => by
  rw [arm_exec_Pass]; exact Sim.standAt (Sim.ret i ⟨rfl, F⟩)
theorem ex_return0 {pos : Pos} : ExS prog w h₀ C n (.Return none pos) := fun env ns loc σ ρ s A hA hf F i => by
  rw [arm_exec_Return]; exact Sim.standAt (Sim.ret i ⟨⟨.none, rfl, .none⟩, F⟩)
theorem ex_return {e : Expr} {pos : Pos} (he : EvS prog w h₀ C n e) : ExS prog w h₀ C n (.Return (some e) pos) := fun env ns loc σ ρ s A hA hf F i => by
  rw [arm_exec_Return]
  refine Sim.standAt (Sim.bind (he.st hA F i) fun a σ₁ ρ₁ H tk b i₁ x₁ r₁ => ?_)
  exact Sim.ret i₁ ⟨⟨b, rfl, r₁.1⟩, r₁.2⟩
theorem ex_if {t : Expr} {a b : List Stmt} {pos : Pos} (ht : TstS prog w h₀ C n t) (ha : ExsS prog w h₀ C n a) (hb : ExsS prog w h₀ C n b) : ExS prog w h₀ C n (.If t a b pos) := fun env ns loc σ ρ s A hA hf F i => by
  rw [arm_exec_If]
  refine Sim.standAt (Sim.bind (ht.st hA F i) fun c σ₁ ρ₁ H tk c' i₁ x₁ r₁ => ?_)
  obtain ⟨rfl, F₁⟩ := r₁
  cases c' with
  | true => exact ha env ns loc σ₁ ρ₁ _ A hA hf F₁ i₁
  | false => exact hb env ns loc σ₁ ρ₁ _ A hA hf F₁ i₁

theorem Sim.dropValue {e : Expr} {p : Pos} {v : Value} (i : Inv h₀ σ ρ s.heap) (F : Frm env ns loc ρ s.heap) : Sim prog w h₀ A W (PySem.dropValue e p v) ((Pure.pure (Fl.next, loc) : M (Fl × Loc)) σ) (RX env ns) ρ s := by
  have fin : Post h₀ W ρ s σ (fun ρ' h' => RX env ns (.next, loc) ρ' h' .next) s := ⟨ρ, s.heap, s.toks, rfl, i, Ext.refl, rfl, F⟩
  have go : wpAny (model prog w) A (do PySem.standAt p; let _ ← runValue (.builtin "proto.let_go" {}); Pure.pure Flow.next) (fun b s' => Post h₀ W ρ s σ (fun ρ' h' => RX env ns (.next, loc) ρ' h' b) s') (fun _ _ => False) s :=
    wpAny_bind (wpAny_standAt (wpAny_bind (wpAny_runValue (codeAny_builtin entry_let_go (show wpAny _ _ (PySem.ret .none) _ _ s from wpAny_pure (wpAny_pure fin))))))
  cases e <;> cases v <;> first | exact wpAny_pure fin | exact go

theorem ex_expr {f : Expr} {as : List Expr} {p pos : Pos} (he : EvS prog w h₀ C n (.Call f as [] p)) : ExS prog w h₀ C n (.Expr (.Call f as [] p) pos) := fun env ns loc σ ρ s A hA hf F i => by
  rw [arm_exec_Expr]
  have hi : interactive env = false := by unfold interactive; rw [F.kind]; rfl
  have hsw : swapsWith (.Call f as [] p) none pos.line env = Pure.pure false := rfl
  rw [hi, hsw]
  refine Sim.standAt ?_
  show Sim prog w h₀ A (frameW env) (eval (.Call f as [] p) env >>= fun v => PySem.dropValue (.Call f as [] p) pos v) ((ev C (.Call f as [] p) ns loc >>= fun _ => (Pure.pure (Fl.next, loc) : M (Fl × Loc))) σ) (RX env ns) ρ s
  exact Sim.bind (he.st hA F i) fun a σ₁ ρ₁ H tk b i₁ x₁ r₁ => Sim.dropValue i₁ r₁.2

/-! assignments -/
theorem Sim.pureNext {t : Sem Unit} {m : M Loc} (h : Sim prog w h₀ A W t (m σ) (RFrm env ns) ρ s) : Sim prog w h₀ A W (t >>= fun _ => Pure.pure Flow.next) ((m >>= fun l => (Pure.pure (Fl.next, l) : M (Fl × Loc))) σ) (RX env ns) ρ s :=
  Sim.bind h fun a σ₁ ρ₁ H tk b i₁ x₁ r₁ => Sim.ret i₁ ⟨rfl, r₁⟩

variable (prog w h₀ C n) in
/-- what an assignment needs of a comprehension to its right -/
def CompS (value : Expr) : Prop := ∀ elt t it ifs sc p, value = .ListComp elt [⟨t, it, ifs, 0⟩] sc p → SrcS prog w h₀ C n it ∧ TestsS prog w h₀ C n ifs ∧ EvS prog w h₀ C n elt

theorem ex_assignName_plain {x : Str} {p pos : Pos} {value : Expr} (hv : EvS prog w h₀ C n value) (hA : Rm A n) (hf : ∀ b ∈ frameW env, h₀.get? b = none) (F : Frm env ns loc ρ s.heap) (i : Inv h₀ σ ρ s.heap) (hsw : swapsWith value (some (.Name x p)) pos.line env = pure false) :
    Sim prog w h₀ A (frameW env) (exec (.Assign [.Name x p] value pos) env) (ex C (.Assign [.Name x p] value pos) ns loc σ) (RX env ns) ρ s := by
  rw [PySem.exec_Assign_Name _ _ _ _ _ hsw]
  show Sim prog w h₀ A (frameW env) _ ((ev C value ns loc >>= fun v => stLoc ns x v loc >>= fun l => (Pure.pure (Fl.next, l) : M (Fl × Loc))) σ) (RX env ns) ρ s
  refine Sim.standAt (Sim.bind (hv.st hA F i) fun a σ₁ ρ₁ H tk b i₁ x₁ r₁ => Sim.standAt ?_)
  exact Sim.pureNext (Sim.bindName ((stLoc_ok hf).store x b a loc σ₁ ρ₁ _ A r₁.2 i₁ r₁.1))

theorem ex_assignName_used {x : Str} {p pos cp : Pos} {elt target iter : Expr} {ifs : List Expr} {scope : Scope} (hs : SrcS prog w h₀ C n iter) (ht : TestsS prog w h₀ C n ifs) (he : EvS prog w h₀ C n elt) (hA : Rm A n) (hf : ∀ b ∈ frameW env, h₀.get? b = none)
    (F : Frm env ns loc ρ s.heap) (i : Inv h₀ σ ρ s.heap) (hsw : swapsWith (.ListComp elt [⟨target, iter, ifs, 0⟩] scope cp) (some (.Name x p)) pos.line env = pure true) :
    Sim prog w h₀ A (frameW env) (exec (.Assign [.Name x p] (.ListComp elt [⟨target, iter, ifs, 0⟩] scope cp) pos) env) (ex C (.Assign [.Name x p] (.ListComp elt [⟨target, iter, ifs, 0⟩] scope cp) pos) ns loc σ) (RX env ns) ρ s := by
  rw [exec_Assign_Name_used _ _ _ _ hsw]
  show Sim prog w h₀ A (frameW env) _ ((compM C elt target iter ifs scope ns loc >>= fun v => stLoc ns x v loc >>= fun l => (Pure.pure (Fl.next, l) : M (Fl × Loc))) σ) (RX env ns) ρ s
  cases h : compM C elt target iter ifs scope ns loc σ with
  | bad => rw [bind_bad h]; exact trivial
  | exc _ _ => rw [bind_exc h]; exact trivial
  | ok v σ' =>
    rw [bind_ok h]
    cases h2 : stLoc ns x v loc σ' with
    | bad => rw [bind_bad h2]; exact trivial
    | exc _ _ => rw [bind_exc h2]; exact trivial
    | ok loc' σ'' =>
      rw [bind_ok h2]
      refine wpAny_bind (wpAny_standAt (wpAny_bind ?_))
      rw [arm_evalThenUse_ListComp]
      refine wpAny_bind (comp_core (use := some (assign (.Name x p) env)) (Q := fun _ s' => _) hA F i hs ht he h fun D c f ρ' H tk m i' x' r hn off hd => ?_)
      have st := Sim.bindTo (s := { s with heap := H, toks := tk }) (t := .Name x p) (stLoc_ok (prog := prog) (w := w) (env := env) (ns := ns) hf) hA.handled (F.ext0 x') i' r
      rw [show bindTo (stLoc ns) (.Name x p) v loc σ' = .ok loc' σ'' from h2] at st
      refine wpAny_mono st (fun _ s' hp => ?_) fun _ _ f => f
      obtain ⟨ρ₁, H₁, tk₁, rfl, i₁, x₁, F₁⟩ := hp
      have hcF : offFrame env c := F.offDead hd
      obtain ⟨o, es, ep, ho, rr⟩ := id hn
      have hn1 : H₁.Ns c m := ⟨o, es, ep, x₁.keep _ _ ho hcF.notin off, rr⟩
      refine ⟨m, hn1, fun h' hsb => wpAny_pure (wpAny_pure ?_)⟩
      have x2 : Ext (frameW env) ρ s.heap ρ₁ H₁ := (x'.weak fun _ hm => absurd hm List.not_mem_nil).trans x₁
      obtain ⟨i₂, x₂, hk, own⟩ := comp_end i₁ x2 (fun b o e => ⟨o, i.base b o e⟩) hn1 (offMap.ext x₁ ho off) hd hsb
      exact ⟨ρ₁, h', tk₁, rfl, i₂, x₂, rfl, F₁.but hk own fun b hb => by rw [List.mem_singleton.mp hb]; exact hcF⟩

theorem ex_assignName {x : Str} {p pos : Pos} {value : Expr} (hv : EvS prog w h₀ C n value) (hc : CompS prog w h₀ C n value) : ExS prog w h₀ C n (.Assign [.Name x p] value pos) := fun env ns loc σ ρ s A hA hf F i => by
  have plain := fun hsw => ex_assignName_plain (x := x) (p := p) (pos := pos) hv hA hf F i hsw
  have badv : ∀ (hb : ev C value ns loc σ = .bad), Sim prog w h₀ A (frameW env) (exec (.Assign [.Name x p] value pos) env) (ex C (.Assign [.Name x p] value pos) ns loc σ) (RX env ns) ρ s := fun hb => by
    show Sim prog w h₀ A (frameW env) _ ((ev C value ns loc >>= fun v => stLoc ns x v loc >>= fun l => (Pure.pure (Fl.next, l) : M (Fl × Loc))) σ) (RX env ns) ρ s
    rw [bind_bad hb]; exact trivial
  cases value with
  | ListComp elt gens scope cp =>
    have hb : ∃ b, swapsWith (.ListComp elt gens scope cp) (some (.Name x p)) pos.line env = Pure.pure b := ⟨_, rfl⟩
    obtain ⟨b, hb⟩ := hb
    cases b with
    | false => exact plain hb
    | true =>
      rcases comp_cases gens with ⟨t, it, ifs, rfl⟩ | hbad
      · obtain ⟨h1, h2, h3⟩ := hc elt t it ifs scope cp rfl
        exact ex_assignName_used h1 h2 h3 hA hf F i hb
      · exact badv (by rw [hbad]; rfl)
  | SetComp _ _ _ _ => exact badv rfl
  | DictComp _ _ _ _ _ => exact badv rfl
  | _ => exact plain rfl

theorem ex_assignSub {o i : Expr} {p pos : Pos} {value : Expr} (hv : EvS prog w h₀ C n value) (ho : EvS prog w h₀ C n o) (hi : EvS prog w h₀ C n i) : ExS prog w h₀ C n (.Assign [.Subscript o i p] value pos) := fun env ns loc σ ρ s A hA hf F iv => by
  rw [exec_Assign_Subscript _ _ _ _ _ (by cases value <;> rfl)]
  show Sim prog w h₀ A (frameW env) _ ((ev C value ns loc >>= fun v => ev C o ns loc >>= fun a => ev C i ns loc >>= fun b => Mine.setItem a b v >>= fun _ => (Pure.pure (Fl.next, loc) : M (Fl × Loc))) σ) (RX env ns) ρ s
  refine Sim.standAt (Sim.bind (hv.st hA F iv) fun a σ₁ ρ₁ H₁ tk₁ va i₁ x₁ r₁ => ?_)
  rw [arm_assign_Subscript]
  simp only [bind_assoc]
  refine Sim.bind (Sim.holding (ho.st hA r₁.2 i₁)) fun b σ₂ ρ₂ H₂ tk₂ vb i₂ x₂ r₂ => ?_
  refine Sim.bind (Sim.holding (hi.st hA r₂.2 i₂)) fun c σ₃ ρ₃ H₃ tk₃ vc i₃ x₃ r₃ => Sim.standAt ?_
  have F₃ := r₃.2
  refine Sim.bind (R := fun _ ρ' h' _ => Frm env ns loc ρ' h') (Sim.holding ?_) fun _ σ₄ ρ₄ H₄ tk₄ _ i₄ x₄ F₄ => Sim.ahead (fun _ _ hq => wpAny_release hq) (Sim.ret i₄ ⟨rfl, F₄⟩)
  have hset := Sim.setItem (prog := prog) (w := w) (A := A) (W := []) (s := { s with heap := H₃, toks := tk₃ }) i₃ (r₂.1.ext x₃) r₃.1 ((r₁.1.ext x₂).ext x₃)
  cases h : Mine.setItem b c a σ₃ with
  | bad => exact trivial
  | exc _ _ => exact trivial
  | ok u σ' =>
    rw [h] at hset
    refine wpAny_mono hset (fun _ s' hp => ?_) fun _ _ f => f
    obtain ⟨ρ₅, H₅, tk₅, rfl, i₅, x₅, _⟩ := hp
    exact ⟨ρ₅, H₅, tk₅, rfl, i₅, x₅.weak fun _ hm => absurd hm List.not_mem_nil, F₃.ext0 x₅⟩

theorem ex_assignTup {ts : List Expr} {k : Nat} {p pos : Pos} {value : Expr} (hv : EvS prog w h₀ C n value) : ExS prog w h₀ C n (.Assign [.Tuple ts k p] value pos) := fun env ns loc σ ρ s A hA hf F i => by
  rw [arm_exec_Assign]
  show Sim prog w h₀ A (frameW env) _ ((if isTupE value = true then M.bad else (ev C value ns loc >>= fun v => bindTo (stLoc ns) (.Tuple ts k p) v loc >>= fun l => (Pure.pure (Fl.next, l) : M (Fl × Loc)))) σ) (RX env ns) ρ s
  by_cases ht : isTupE value = true
  · rw [if_pos ht]; exact trivial
  · rw [if_neg ht]
    have h1 : swapsWithSole [.Tuple ts k p] value pos.line env = Pure.pure false := by cases value <;> rfl
    have h2 : swappedStores [.Tuple ts k p] value env = Pure.pure none := by cases value <;> first | rfl | exact absurd rfl ht
    rw [h1, h2]
    refine Sim.standAt ?_
    show Sim prog w h₀ A (frameW env) (eval value env >>= fun v => (assign (.Tuple ts k p) env v >>= fun _ => Pure.pure Flow.next)) _ (RX env ns) ρ s
    refine Sim.bind (hv.st hA F i) fun a σ₁ ρ₁ H₁ tk₁ va i₁ x₁ r₁ => ?_
    exact Sim.pureNext (Sim.bindTo (stLoc_ok hf) hA.handled r₁.2 i₁ r₁.1)
end
end Mine

namespace Mine
open PySem PyProof.Rows

section
variable {prog : Program} {w : World} {h₀ hb : Heap} {A : Around} {W wr : List Addr} {ρ ρ' ρb : Map} {s sb : Shared} {σ : Store} {fns : Str → Option Fn} {glob : Str → Option V} {mg mb : Str → Option Value}
variable {env cenv : Env} {ns ns' : Names} {loc : Loc} {C : Cfg} {n : Nat}

/-! ## for -/
theorem forLoop_turn {R : Result → Shared → Prop} {target : Expr} {it : Value} {body : List Stmt}
    (h : wpAny (model prog w) A (pyNext it) (fun r s₁ => match r with
      | none => R (.ok .next) s₁
      | some v => wpAny (model prog w) A (letOwnedTupleGo target it v) (fun _ s₁' =>
          wpAny (model prog w) A (assign target env v) (fun _ s₂ => wpAny (model prog w) A (execs body env) (fun f s₃ => match f with
            | .next | .cont => codeAny (model prog w) A (.forLoop target it body [] env) R s₃
            | .brk => R (.ok .next) s₃
            | .ret v => R (.ok (.ret v)) s₃) (fun _ _ => False) s₂) (fun _ _ => False) s₁') (fun _ _ => False) s₁) (fun _ _ => False) s) :
    codeAny (model prog w) A (.forLoop target it body [] env) R s := by
  refine codeAny_of_tree ?_
  show wpAny _ A ((forTurn target it body [] env).onRaise (fun x => do noteFrame x env; theTreesLotGoes x)) _ _ s
  refine wpAny_noted ?_
  simp only [forTurn]
  refine wpAny_bind (wpAny_standAt (wpAny_bind (wpAny_onRaise (wpAny_mono h (fun r s₁ h₁ => ?_) fun _ _ h' => h'.elim))))
  cases r with
  | none => exact wpAny_pure ⟨rfl, codeAny_block (wpAny_execs_nil h₁)⟩
  | some v =>
    refine wpAny_bind (wpAny_mono h₁ (fun _ s₁' h₁' => ?_) fun _ _ h' => h'.elim)
    refine wpAny_bind (wpAny_mono h₁' (fun _ s₂ h₂ => wpAny_bind (wpAny_mono h₂ (fun f s₃ h₃ => ?_) fun _ _ h' => h'.elim)) fun _ _ h' => h'.elim)
    cases f with
    | next => exact wpAny_pure ⟨rfl, h₃⟩
    | cont => exact wpAny_pure ⟨rfl, h₃⟩
    | brk => exact wpAny_pure h₃
    | ret v => exact wpAny_pure h₃

/-- the state of a loop, but for its walk -/
structure FE (h₀ : Heap) (ρb : Map) (hb : Heap) (env : Env) (ns : Names) (loc : Loc) (σ : Store) (ρ : Map) (h : Heap) : Prop where
  inv : Inv h₀ σ ρ h
  frm : Frm env ns loc ρ h
  ext : Ext (frameW env) ρb hb ρ h
structure FK (h₀ : Heap) (hb : Heap) (env : Env) (wr : List Addr) : Prop where
  deadW : ∀ b ∈ wr, hb.get? b = none
  dead0 : ∀ b ∈ wr, h₀.get? b = none
  offW : ∀ b ∈ wr, offFrame env b

theorem FE.but {h h' : Heap} (K : FK h₀ hb env wr) (x : FE h₀ ρb hb env ns loc σ ρ h) (hk : KeepBut wr h h') (ho : Own wr ρ h) : FE h₀ ρb hb env ns loc σ ρ h' where
  inv := x.inv.but hk ho K.dead0
  frm := x.frm.but hk ho K.offW
  ext := x.ext.but hk K.deadW

theorem forLoop_step {sr : Src} {bt : V → Loc → M Loc} {body : Loc → M (Fl × Loc)} {k i : Nat} {o : Option V} (h : sr.at σ i = some o) : forLoop sr bt body (k + 1) i loc σ =
    (match o with | none => (pure (.next, loc) : M (Fl × Loc)) | some v => (bt v loc >>= fun loc' => body loc' >>= fun r => match r.1 with
      | .next => forLoop sr bt body k (i + 1) r.2
      | .cont => forLoop sr bt body k (i + 1) r.2
      | .brk => pure (.next, r.2)
      | .ret v => pure (.ret v, r.2))) σ := by
  show (sr.get i >>= _) σ = _
  refine (bind_ok (a := o) (σ' := σ) (by unfold Src.get askS; dsimp only; rw [h])).trans ?_
  cases o <;> rfl
theorem forLoop_bad {sr : Src} {bt : V → Loc → M Loc} {body : Loc → M (Fl × Loc)} {k i : Nat} (h : sr.at σ i = none) : forLoop sr bt body (k + 1) i loc σ = .bad := by
  show (sr.get i >>= _) σ = _
  rw [bind_bad (by unfold Src.get askS; dsimp only; rw [h])]

theorem forLoop_ok {target : Expr} {body : List Stmt} {sr : Src} {it : Value} (hA : Rm A n) (K : FK h₀ hb env wr) (hf : ∀ b ∈ frameW env, h₀.get? b = none) (hbd : ExsS prog w h₀ C n body) (htg : tgtOk sr target = true) :
    ∀ (k i : Nat) (loc : Loc) (σ : Store) (ρ : Map) (H : Heap) (tk : Nat) (r : Fl × Loc) (σ' : Store), FE h₀ ρb hb env ns loc σ ρ H → ItAt sr it wr i ρ H →
      forLoop sr (bindTo (stLoc ns) target) (exs C body ns) k i loc σ = .ok r σ' →
      codeAny (model prog w) A (.forLoop target it body [] env)
        (fun res s' => ∃ f ρ' H' tk', res = .ok f ∧ s' = { sb with heap := H', toks := tk' } ∧ RFl ρ' H' r.1 f ∧ FE h₀ ρb hb env ns r.2 σ' ρ' H') { sb with heap := H, toks := tk }
  | 0, _, _, _, _, _, _, _, _, _, _, h => by cases h
  | k + 1, i, loc, σ, ρ, H, tk, r, σ', x, wk, h => by
    have S := stLoc_ok (prog := prog) (w := w) (env := env) (ns := ns) hf
    have offW : ∀ b ∈ wr, b ∉ frameW env := fun b hb => (K.offW b hb).notin
    cases hat : sr.at σ i with
    | none => rw [forLoop_bad hat] at h; cases h
    | some o =>
      rw [forLoop_step hat] at h
      refine forLoop_turn (s := { sb with heap := H, toks := tk }) (wk.next (s := { sb with heap := H, toks := tk }) hA.handled x.inv hat htg (fun h' hn hk => ?_) fun v val h' tk' hv hk hgo => ?_)
      · subst hn
        cases h
        exact ⟨.next, ρ, h', tk, rfl, rfl, rfl, x.but K hk wk.own⟩
      · subst hv
        obtain ⟨loc₁, σ₁, hb1, k1⟩ := bind_inv h
        obtain ⟨⟨fl, loc₂⟩, σ₂, hb2, k2⟩ := bind_inv k1
        refine hgo _ _ fun h'' hk'' rv wk' => ?_
        have x1 := x.but K hk'' wk.own
        have h1 := Sim.bindTo (s := { sb with heap := h'', toks := tk' }) (t := target) S hA.handled x1.frm x1.inv rv
        rw [hb1] at h1
        refine wpAny_mono h1 (fun _ s' hp => ?_) fun _ _ f => f
        obtain ⟨ρ₁, H₁, tk₁, rfl, i₁, e₁, F₁⟩ := hp
        have x2 : FE h₀ ρb hb env ns loc₁ σ₁ ρ₁ H₁ := ⟨i₁, F₁, x1.ext.trans e₁⟩
        have wk2 := wk'.ext e₁ offW
        have h2 := hbd env ns loc₁ σ₁ ρ₁ { sb with heap := H₁, toks := tk₁ } A hA hf x2.frm x2.inv
        rw [hb2] at h2
        refine wpAny_mono h2 (fun f s' hp => ?_) fun _ _ f => f
        obtain ⟨ρ₂, H₂, tk₂, rfl, i₂, e₂, rf, F₂⟩ := hp
        have x3 : FE h₀ ρb hb env ns loc₂ σ₂ ρ₂ H₂ := ⟨i₂, F₂, x2.ext.trans e₂⟩
        have wk3 := wk2.ext e₂ offW
        cases fl with
        | next => cases rf; exact forLoop_ok hA K hf hbd htg k (i + 1) loc₂ σ₂ ρ₂ H₂ tk₂ r σ' x3 wk3 k2
        | cont => cases rf; exact forLoop_ok hA K hf hbd htg k (i + 1) loc₂ σ₂ ρ₂ H₂ tk₂ r σ' x3 wk3 k2
        | brk => cases rf; cases k2; exact ⟨.next, ρ₂, H₂, tk₂, rfl, rfl, rfl, x3⟩
        | ret u =>
          obtain ⟨val, rfl, ru⟩ := rf
          cases k2
          exact ⟨.ret val, ρ₂, H₂, tk₂, rfl, rfl, ⟨val, rfl, ru⟩, x3⟩

theorem ex_for {target iter : Expr} {body : List Stmt} {pos : Pos} (hs : SrcS prog w h₀ C n iter) (hbd : ExsS prog w h₀ C n body) : ExS prog w h₀ C n (.For target iter body [] pos) := fun env ns loc σ ρ s A hA hf F iv => by
  show Sim prog w h₀ A (frameW env) _ ((src C iter ns loc (ev C iter ns loc) >>= fun sr => if tgtOk sr target = true then (sr.count >>= fun N => forLoop sr (bindTo (stLoc ns) target) (exs C body ns) (N + 1) 0 loc) else M.bad) σ) (RX env ns) ρ s
  cases h1 : src C iter ns loc (ev C iter ns loc) σ with
  | bad => rw [bind_bad h1]; exact trivial
  | exc _ _ => rw [bind_exc h1]; exact trivial
  | ok sr σ₁ =>
    rw [bind_ok h1]
    refine Sim.ite fun htg => ?_
    cases h2 : sr.count σ₁ with
    | bad => rw [bind_bad h2]; exact trivial
    | exc _ _ => rw [bind_exc h2]; exact trivial
    | ok N σ₂ =>
      rw [bind_ok h2]
      obtain ⟨rfl, h2'⟩ := ask_ok h2
      cases h3 : forLoop sr (bindTo (stLoc ns) target) (exs C body ns) (N + 1) 0 loc σ₂ with
      | bad => exact trivial
      | exc _ _ => exact trivial
      | ok r σ' =>
        have hset : ∀ es k p, iter ≠ .Set es k p := fun es k p e => by subst e; rw [src_set] at h1; cases h1
        have hsrc := hs env ns loc σ ρ s A hA F iv
        rw [h1] at hsrc
        refine wpAny_For (wpAny_mono hsrc (fun xv s₁ hp => ?_) fun _ _ f => f.elim) (set_no_fold hset)
        obtain ⟨ρ₁, H₁, tk₁, rfl, i₁, x₁, r₁⟩ := hp
        refine RSrc.iter (s := { s with heap := H₁, toks := tk₁ }) i₁ x₁ r₁ fun it wr h₂ hk₂ wk hdead => ?_
        have i₂ := i₁.keeps hk₂
        have x₂ : Ext [] ρ s.heap ρ₁ h₂ := x₁.trans (Ext.of_keeps hk₂)
        have K : FK h₀ s.heap env wr :=
          { deadW := hdead
            dead0 := fun b hb => by
              cases e : h₀.get? b with
              | none => rfl
              | some o => have := iv.base _ _ e; rw [hdead b hb] at this; cases this
            offW := fun b hb => F.offDead (hdead b hb) }
        have X : FE h₀ ρ s.heap env ns loc σ₂ ρ₁ h₂ := ⟨i₂, F.ext0 x₂, x₂.weak fun _ hm => absurd hm List.not_mem_nil⟩
        refine codeAny_mono (forLoop_ok (sb := s) hA K hf hbd htg (N + 1) 0 loc σ₂ ρ₁ h₂ tk₁ r σ' X wk h3) fun res s' hr => ?_
        obtain ⟨f, ρ', H', tk', rfl, rfl, rf, X'⟩ := hr
        exact ⟨ρ', H', tk', rfl, X'.inv, X'.ext, rf, X'.frm⟩
end

/-! ## all expressions, all statements -/
section
variable {prog : Program} {w : World} {h₀ : Heap} {fns : Str → Option Fn} {glob : Str → Option V} {mg mb : Str → Option Value} {C : Cfg} {n : Nat}

theorem evS_bad {e : Expr} (h : ∀ ns loc, ev C e ns loc = M.bad) : EvS prog w h₀ C n e := fun env ns loc σ ρ s A hA F i => by rw [h]; exact trivial
theorem srcS_value {e : Expr} (he : EvS prog w h₀ C n e) (h : ∀ ns loc whole, src C e ns loc whole = (whole >>= srcV)) : SrcS prog w h₀ C n e := fun env ns loc σ ρ s A hA F i => by
  rw [h]; exact src_value he hA F i

end

/-- what an expression is -/
def isCompE : Expr → Bool
  | .ListComp _ _ _ _ => true
  | _ => false
def isSliceE : Expr → Bool
  | .Slice _ _ _ _ => true
  | _ => false
def isAttrE : Expr → Bool
  | .Attribute _ _ _ => true
  | _ => false
end Mine

namespace Mine
open PySem PyProof.Rows

section
variable {prog : Program} {w : World} {h₀ : Heap} {fns : Str → Option Fn} {glob : Str → Option V} {mg mb : Str → Option Value} {C : Cfg} {n : Nat}

/-- what holds of every expression -/
structure Al (prog : Program) (w : World) (h₀ : Heap) (C : Cfg) (n : Nat) (e : Expr) : Prop where
  ev : EvS prog w h₀ C n e
  tst : TstS prog w h₀ C n e
  src : SrcS prog w h₀ C n e
  comp : CompS prog w h₀ C n e
  slice : ∀ lo hi q, e = .Slice lo hi none q → EvOptS prog w h₀ C n lo ∧ EvOptS prog w h₀ C n hi
  attr : ∀ o m q, e = .Attribute o m q → EvS prog w h₀ C n o

structure Hyp (prog : Program) (w : World) (h₀ : Heap) (fns : Str → Option Fn) (glob : Str → Option V) (mg mb : Str → Option Value) (C : Cfg) (n : Nat) : Prop where
  B : Base fns glob mg mb h₀
  fn : ∀ f, C.isFn f = (fns f).isSome
  glob : C.glob = glob
  ns : NoShadow fns
  call : CallS prog w h₀ mg C n

theorem evsS_of : ∀ {es : List Expr}, (∀ e ∈ es, EvS prog w h₀ C n e) → EvsS prog w h₀ C n es
  | [], _ => evs_nil
  | e :: r, h => evs_cons (h e (List.mem_cons_self ..)) (evsS_of fun e he => h e (List.mem_cons_of_mem _ he))
theorem evBoolS_of : ∀ {es : List Expr}, (∀ e ∈ es, EvS prog w h₀ C n e) → EvBoolS prog w h₀ C n es
  | [], _ => evBool_nil
  | e :: r, h => evBool_cons (h e (List.mem_cons_self ..)) (evBoolS_of fun e he => h e (List.mem_cons_of_mem _ he))
theorem tstAllS_of : ∀ {es : List Expr}, (∀ e ∈ es, TstS prog w h₀ C n e) → TstAllS prog w h₀ C n es
  | [], _ => tstAll_nil
  | e :: r, h => tstAll_cons (h e (List.mem_cons_self ..)) (tstAllS_of fun e he => h e (List.mem_cons_of_mem _ he))
theorem testsS_of : ∀ {es : List Expr}, (∀ e ∈ es, TstS prog w h₀ C n e) → TestsS prog w h₀ C n es
  | [], _ => tests_nil
  | [e], h => tests_one (h e (List.mem_cons_self ..))
  | _ :: _ :: _, _ => tests_more
theorem isiS_of (B : Base fns glob mg mb h₀) (hns : NoShadow fns) : ∀ {es : List Expr}, (∀ e ∈ es, EvS prog w h₀ C n e) → IsiS prog w h₀ C n es
  | [], _ => fun _ _ _ _ _ _ _ _ _ _ _ _ _ _ _ => trivial
  | [_], _ => fun _ _ _ _ _ _ _ _ _ _ _ _ _ _ _ => trivial
  | [a, .Name t q], h => isi_two B hns (h a (List.mem_cons_self ..))
  | [a, b], h => by
    intro f p pos env ns loc σ ρ s A hA F i hf hi
    by_cases hb : ∃ t q, b = .Name t q
    · obtain ⟨t, q, rfl⟩ := hb
      exact isi_two B hns (h a (List.mem_cons_self ..)) f p pos env ns loc σ ρ s A hA F i hf hi
    · have : evIsi C [a, b] ns loc = M.bad := by cases b <;> first | rfl | exact absurd ⟨_, _, rfl⟩ hb
      rw [this]; exact trivial
  | a :: b :: c :: r, _ => by
    intro f p pos env ns loc σ ρ s A hA F i hf hi
    have : evIsi C (a :: b :: c :: r) ns loc = M.bad := by cases b <;> rfl
    rw [this]; exact trivial

theorem noComp {e : Expr} (h : isCompE e = false) : CompS prog w h₀ C n e := fun elt t it ifs sc p e' => by rw [e'] at h; cases h
theorem noSlice {e : Expr} (h : isSliceE e = false) : ∀ lo hi q, e = .Slice lo hi none q → EvOptS prog w h₀ C n lo ∧ EvOptS prog w h₀ C n hi := fun lo hi q e' => by rw [e'] at h; cases h
theorem noAttr {e : Expr} (h : isAttrE e = false) : ∀ o m q, e = .Attribute o m q → EvS prog w h₀ C n o := fun o m q e' => by rw [e'] at h; cases h

/-- an expression that is no test, no walk of its own kind -/
theorem Al.plain {e : Expr} (he : EvS prog w h₀ C n e) (h1 : ∀ (ns : Names) (loc : Loc) (whole : M V), Mine.tst C e ns loc whole = (whole >>= fun v => truth v)) (h2 : ∀ (env : Env) (whole : Sem Value), isTrue e env whole = (do let v ← whole; standAt e.pos; holding [v] (truthy v)))
    (h3 : ∀ ns loc whole, Mine.src C e ns loc whole = (whole >>= srcV)) (h4 : isCompE e = false) (h5 : isSliceE e = false) (h6 : isAttrE e = false) : Al prog w h₀ C n e where
  ev := he
  tst := tst_value he h1 h2
  src := srcS_value he h3
  comp := noComp h4
  slice := noSlice h5
  attr := noAttr h6

theorem tst_bad {e : Expr} (h : ∀ ns loc, Mine.ev C e ns loc = M.bad) (h1 : ∀ (ns : Names) (loc : Loc) (whole : M V), Mine.tst C e ns loc whole = (whole >>= fun v => truth v)) : TstS prog w h₀ C n e := fun env ns loc σ ρ s A hA F i => by
  rw [h1, h]; exact trivial

theorem Al.nothing {e : Expr} (h : ∀ ns loc, Mine.ev C e ns loc = M.bad) (h1 : ∀ (ns : Names) (loc : Loc) (whole : M V), Mine.tst C e ns loc whole = (whole >>= fun v => truth v))
    (h3 : ∀ ns loc whole, Mine.src C e ns loc whole = (whole >>= srcV)) (h4 : isCompE e = false) (h5 : isSliceE e = false) (h6 : isAttrE e = false) : Al prog w h₀ C n e where
  ev := evS_bad h
  tst := tst_bad h h1
  src := srcS_value (evS_bad h) h3
  comp := noComp h4
  slice := noSlice h5
  attr := noAttr h6

mutual
theorem al_ok (H : Hyp prog w h₀ fns glob mg mb C n) : ∀ e : Expr, Al prog w h₀ C n e
  | .Constant c k p => .plain ev_const (fun _ _ _ => rfl) (fun _ _ => rfl) (fun _ _ _ => rfl) rfl rfl rfl
  | .Name x p => .plain (fun env ns loc σ ρ s A hA F i => Sim.name H.B H.glob F i) (fun _ _ _ => rfl) (fun _ _ => rfl) (fun _ _ _ => rfl) rfl rfl rfl
  | .BinOp l op r p => .plain (ev_binop (al_ok H l).ev (al_ok H r).ev) (fun _ _ _ => rfl) (fun _ _ => rfl) (fun _ _ _ => rfl) rfl rfl rfl
  | .UnaryOp op x p => by
    have hx := al_ok H x
    cases op with
    | Not => exact ⟨ev_not hx.ev, tst_not hx.tst, srcS_value (ev_not hx.ev) (fun _ _ _ => rfl), noComp rfl, noSlice rfl, noAttr rfl⟩
    | USub =>
      cases x with
      | Constant c k q =>
        cases c with
        | int z => exact .plain ev_usub (fun _ _ _ => rfl) (fun _ _ => rfl) (fun _ _ _ => rfl) rfl rfl rfl
        | _ => exact .nothing (fun _ _ => rfl) (fun _ _ _ => rfl) (fun _ _ _ => rfl) rfl rfl rfl
      | _ => exact .nothing (fun _ _ => rfl) (fun _ _ _ => rfl) (fun _ _ _ => rfl) rfl rfl rfl
    | _ => exact .nothing (fun _ _ => rfl) (fun _ _ _ => rfl) (fun _ _ _ => rfl) rfl rfl rfl
  | .BoolOp op vs p => by
    have hv := als_ok H vs
    have he : EvS prog w h₀ C n (.BoolOp op vs p) := ev_boolop (evBoolS_of fun e he => (hv e he).ev)
    exact ⟨he, tst_boolop (tstAllS_of fun e he => (hv e he).tst), srcS_value he (fun _ _ _ => rfl), noComp rfl, noSlice rfl, noAttr rfl⟩
  | .Compare l ops rs p => by
    have hl := al_ok H l
    have hr := als_ok H rs
    match ops, rs with
    | [op], [r] =>
      have he : EvS prog w h₀ C n (.Compare l [op] [r] p) := ev_compare hl.ev (hr r (List.mem_cons_self ..)).ev
      exact ⟨he, tst_compare hl.ev (hr r (List.mem_cons_self ..)).ev, srcS_value he (fun _ _ _ => rfl), noComp rfl, noSlice rfl, noAttr rfl⟩
    | [], _ => exact .nothing (fun _ _ => rfl) (fun _ _ _ => rfl) (fun _ _ _ => rfl) rfl rfl rfl
    | _ :: _ :: _, _ => exact .nothing (fun _ _ => rfl) (fun _ _ _ => rfl) (fun _ _ _ => rfl) rfl rfl rfl
    | [_], [] => exact .nothing (fun _ _ => rfl) (fun _ _ _ => rfl) (fun _ _ _ => rfl) rfl rfl rfl
    | [_], _ :: _ :: _ => exact .nothing (fun _ _ => rfl) (fun _ _ _ => rfl) (fun _ _ _ => rfl) rfl rfl rfl
  | .IfExp t a b p => by
    have ht := al_ok H t
    have ha := al_ok H a
    have hb := al_ok H b
    have he : EvS prog w h₀ C n (.IfExp t a b p) := ev_ifexp ht.tst ha.ev hb.ev
    exact ⟨he, tst_ifexp ht.tst ha.tst hb.tst, srcS_value he (fun _ _ _ => rfl), noComp rfl, noSlice rfl, noAttr rfl⟩
  | .Slice lo hi st p => ⟨evS_bad fun _ _ => rfl, tst_bad (fun _ _ => rfl) (fun _ _ _ => rfl), srcS_value (evS_bad fun _ _ => rfl) (fun _ _ _ => rfl), noComp rfl, by
      have hlo := opt_ok H lo
      have hhi := opt_ok H hi
      intro lo' hi' q e
      cases e
      exact ⟨hlo, hhi⟩, noAttr rfl⟩
  | .Subscript o i p => by
    have ho := al_ok H o
    have hi := al_ok H i
    have he : EvS prog w h₀ C n (.Subscript o i p) := by
      cases i with
      | Slice lo hi' st q =>
        cases st with
        | none => obtain ⟨h1, h2⟩ := hi.slice lo hi' q rfl; exact ev_slice ho.ev h1 h2
        | some st => exact ev_sub ho.ev hi.ev (fun _ _ => rfl)
      | _ => exact ev_sub ho.ev hi.ev (fun _ _ => rfl)
    exact .plain he (fun _ _ _ => rfl) (fun _ _ => rfl) (fun _ _ _ => rfl) rfl rfl rfl
  | .List es p => .plain (ev_list (evsS_of fun e he => (als_ok H es e he).ev)) (fun _ _ _ => rfl) (fun _ _ => rfl) (fun _ _ _ => rfl) rfl rfl rfl
  | .Tuple es k p => .plain (ev_tuple (evsS_of fun e he => (als_ok H es e he).ev)) (fun _ _ _ => rfl) (fun _ _ => rfl) (fun _ _ _ => rfl) rfl rfl rfl
  | .Attribute o m p => ⟨evS_bad fun _ _ => rfl, tst_bad (fun _ _ => rfl) (fun _ _ _ => rfl), srcS_value (evS_bad fun _ _ => rfl) (fun _ _ _ => rfl), noComp rfl, noSlice rfl, by
      have ho := al_ok H o
      intro o' m' q e
      cases e
      exact ho.ev⟩
  | .Call f as ks p => by
    have hf := al_ok H f
    have has := als_ok H as
    cases ks with
    | cons k ks =>
      have hb : ∀ ns loc, Mine.ev C (.Call f as (k :: ks) p) ns loc = M.bad := fun ns loc => by cases f <;> rfl
      have hsr : ∀ ns loc whole, Mine.src C (.Call f as (k :: ks) p) ns loc whole = (whole >>= srcV) := fun ns loc whole => by cases f <;> rfl
      exact .nothing hb (fun _ _ _ => rfl) hsr rfl rfl rfl
    | nil =>
      cases f with
      | Name x q =>
        have he : EvS prog w h₀ C n (.Call (.Name x q) as [] p) := ev_callName H.B H.fn H.call (evsS_of fun e he => (has e he).ev) (isiS_of H.B H.ns fun e he => (has e he).ev)
        exact ⟨he, tst_value he (fun _ _ _ => rfl) (fun _ _ => rfl), src_call H.B H.fn he (fun e he => (has e he).ev), noComp rfl, noSlice rfl, noAttr rfl⟩
      | Attribute o m q =>
        have he : EvS prog w h₀ C n (.Call (.Attribute o m q) as [] p) := ev_callMeth (hf.attr o m q rfl) (evsS_of fun e he => (has e he).ev)
        exact .plain he (fun _ _ _ => rfl) (fun _ _ => rfl) (fun _ _ _ => rfl) rfl rfl rfl
      | _ => exact .nothing (fun _ _ => rfl) (fun _ _ _ => rfl) (fun _ _ _ => rfl) rfl rfl rfl
  | .ListComp elt gens scope p => by
    have he := al_ok H elt
    have hg := gens_ok H gens
    have hc : CompS prog w h₀ C n (.ListComp elt gens scope p) := fun elt' t' it' ifs' sc' p' e => by
      cases e
      obtain ⟨h1, h2⟩ := hg _ (List.mem_cons_self ..)
      exact ⟨h1, h2, he.ev⟩
    have hev : EvS prog w h₀ C n (.ListComp elt gens scope p) := by
      rcases comp_cases gens with ⟨t, it, ifs, rfl⟩ | hbad
      · obtain ⟨h1, h2⟩ := hg _ (List.mem_cons_self ..)
        exact ev_listcomp h1 h2 he.ev
      · exact evS_bad fun ns loc => hbad C elt scope p ns loc
    exact ⟨hev, tst_value hev (fun _ _ _ => rfl) (fun _ _ => rfl), srcS_value hev (fun _ _ _ => rfl), hc, noSlice rfl, noAttr rfl⟩
  | .NamedExpr _ _ _ => .nothing (fun _ _ => rfl) (fun _ _ _ => rfl) (fun _ _ _ => rfl) rfl rfl rfl
  | .Lambda _ _ _ _ => .nothing (fun _ _ => rfl) (fun _ _ _ => rfl) (fun _ _ _ => rfl) rfl rfl rfl
  | .Dict _ _ _ => .nothing (fun _ _ => rfl) (fun _ _ _ => rfl) (fun _ _ _ => rfl) rfl rfl rfl
  | .Set _ _ _ => .nothing (fun _ _ => rfl) (fun _ _ _ => rfl) (fun _ _ _ => rfl) rfl rfl rfl
  | .SetComp _ _ _ _ => .nothing (fun _ _ => rfl) (fun _ _ _ => rfl) (fun _ _ _ => rfl) rfl rfl rfl
  | .DictComp _ _ _ _ _ => .nothing (fun _ _ => rfl) (fun _ _ _ => rfl) (fun _ _ _ => rfl) rfl rfl rfl
  | .GeneratorExp _ _ _ _ => .nothing (fun _ _ => rfl) (fun _ _ _ => rfl) (fun _ _ _ => rfl) rfl rfl rfl
  | .Await _ _ => .nothing (fun _ _ => rfl) (fun _ _ _ => rfl) (fun _ _ _ => rfl) rfl rfl rfl
  | .Yield _ _ => .nothing (fun _ _ => rfl) (fun _ _ _ => rfl) (fun _ _ _ => rfl) rfl rfl rfl
  | .YieldFrom _ _ => .nothing (fun _ _ => rfl) (fun _ _ _ => rfl) (fun _ _ _ => rfl) rfl rfl rfl
  | .FormattedValue _ _ _ _ => .nothing (fun _ _ => rfl) (fun _ _ _ => rfl) (fun _ _ _ => rfl) rfl rfl rfl
  | .JoinedStr _ _ => .nothing (fun _ _ => rfl) (fun _ _ _ => rfl) (fun _ _ _ => rfl) rfl rfl rfl
  | .Starred _ _ => .nothing (fun _ _ => rfl) (fun _ _ _ => rfl) (fun _ _ _ => rfl) rfl rfl rfl
theorem als_ok (H : Hyp prog w h₀ fns glob mg mb C n) : ∀ es : List Expr, ∀ e ∈ es, Al prog w h₀ C n e
  | [] => fun _ hm => absurd hm List.not_mem_nil
  | e :: r => fun e' hm => by
    have h1 := al_ok H e
    have h2 := als_ok H r
    rcases List.mem_cons.mp hm with rfl | hm
    · exact h1
    · exact h2 e' hm
theorem opt_ok (H : Hyp prog w h₀ fns glob mg mb C n) : ∀ o : Option Expr, EvOptS prog w h₀ C n o
  | none => evOpt_none
  | some e => evOpt_some (al_ok H e).ev
theorem gens_ok (H : Hyp prog w h₀ fns glob mg mb C n) : ∀ gs : List Comprehension, ∀ g ∈ gs, SrcS prog w h₀ C n g.iter ∧ TestsS prog w h₀ C n g.ifs
  | [] => fun _ hm => absurd hm List.not_mem_nil
  | ⟨t, it, ifs, k⟩ :: r => fun g hm => by
    have h1 := al_ok H it
    have h2 := als_ok H ifs
    have h3 := gens_ok H r
    rcases List.mem_cons.mp hm with rfl | hm
    · exact ⟨h1.src, testsS_of fun e he => (h2 e he).tst⟩
    · exact h3 g hm
end

mutual
theorem ex_ok (H : Hyp prog w h₀ fns glob mg mb C n) : ∀ st : Stmt, ExS prog w h₀ C n st
  | .Expr e p => by
    have he := al_ok H e
    cases e with
    | Call f as ks q =>
      cases ks with
      | nil => exact ex_expr he.ev
      | cons _ _ => exact fun env ns loc σ ρ s A hA hf F i => trivial
    | _ => exact fun env ns loc σ ρ s A hA hf F i => trivial
  | .Pass p => ex_pass
  | .Return none p => ex_return0
  | .Return (some e) p => ex_return (al_ok H e).ev
  | .Assign ts v p => by
    have hv := al_ok H v
    match ts with
    | [] => exact fun env ns loc σ ρ s A hA hf F i => trivial
    | [.Name x q] => exact ex_assignName hv.ev hv.comp
    | [.Subscript o i q] => exact ex_assignSub hv.ev (al_ok H o).ev (al_ok H i).ev
    | [.Tuple ts k q] => exact ex_assignTup hv.ev
    | [.BoolOp _ _ _] | [.NamedExpr _ _ _] | [.BinOp _ _ _ _] | [.UnaryOp _ _ _] | [.Lambda _ _ _ _] | [.IfExp _ _ _ _] | [.Dict _ _ _] | [.Set _ _ _] | [.ListComp _ _ _ _] | [.SetComp _ _ _ _] | [.DictComp _ _ _ _ _] | [.GeneratorExp _ _ _ _]
    | [.Await _ _] | [.Yield _ _] | [.YieldFrom _ _] | [.Compare _ _ _ _] | [.Call _ _ _ _] | [.FormattedValue _ _ _ _] | [.JoinedStr _ _] | [.Constant _ _ _] | [.Attribute _ _ _] | [.Starred _ _] | [.List _ _] | [.Slice _ _ _ _] => exact fun env ns loc σ ρ s A hA hf F i => trivial
    | t :: _ :: _ =>
      intro env ns loc σ ρ s A hA hf F i
      cases t <;> exact trivial
  | .If t a b p => ex_if (al_ok H t).tst (exs_ok H a) (exs_ok H b)
  | .For t it body els p => by
    have h1 := al_ok H it
    have h2 := exs_ok H body
    cases els with
    | nil => exact ex_for h1.src h2
    | cons _ _ => exact fun env ns loc σ ρ s A hA hf F i => trivial
  | .FunctionDef .. => fun env ns loc σ ρ s A hA hf F i => trivial
  | .AsyncFunctionDef .. => fun env ns loc σ ρ s A hA hf F i => trivial
  | .ClassDef .. => fun env ns loc σ ρ s A hA hf F i => trivial
  | .Delete .. => fun env ns loc σ ρ s A hA hf F i => trivial
  | .TypeAlias .. => fun env ns loc σ ρ s A hA hf F i => trivial
  | .AugAssign .. => fun env ns loc σ ρ s A hA hf F i => trivial
  | .AnnAssign .. => fun env ns loc σ ρ s A hA hf F i => trivial
  | .AsyncFor .. => fun env ns loc σ ρ s A hA hf F i => trivial
  | .While .. => fun env ns loc σ ρ s A hA hf F i => trivial
  | .With .. => fun env ns loc σ ρ s A hA hf F i => trivial
  | .AsyncWith .. => fun env ns loc σ ρ s A hA hf F i => trivial
  | .Match .. => fun env ns loc σ ρ s A hA hf F i => trivial
  | .Raise .. => fun env ns loc σ ρ s A hA hf F i => trivial
  | .Try .. => fun env ns loc σ ρ s A hA hf F i => trivial
  | .TryStar .. => fun env ns loc σ ρ s A hA hf F i => trivial
  | .Assert .. => fun env ns loc σ ρ s A hA hf F i => trivial
  | .Import .. => fun env ns loc σ ρ s A hA hf F i => trivial
  | .ImportFrom .. => fun env ns loc σ ρ s A hA hf F i => trivial
  | .Global .. => fun env ns loc σ ρ s A hA hf F i => trivial
  | .Nonlocal .. => fun env ns loc σ ρ s A hA hf F i => trivial
  | .Break .. => fun env ns loc σ ρ s A hA hf F i => trivial
  | .Continue .. => fun env ns loc σ ρ s A hA hf F i => trivial
theorem exs_ok (H : Hyp prog w h₀ fns glob mg mb C n) : ∀ sts : List Stmt, ExsS prog w h₀ C n sts
  | [] => exs_nil
  | st :: r => exs_cons (ex_ok H st) (exs_ok H r)
end
end
end Mine

namespace Mine
open PySem PyProof.Rows

/-! ## calls of the text's own defs -/
theorem cellsFrom_some {x : Str} : ∀ (names : Names) (n : Nat) (acc : List (Str × Addr)), names.lookup x = some .cell ∨ (acc.lookup x).isSome = true → ((cellsFrom n names acc).lookup x).isSome = true
  | [], _, _, h => by
    rcases h with h | h
    · cases h
    · exact h
  | (y, k) :: r, n, acc, h => by
    unfold cellsFrom
    by_cases hk : (k == NameKind.cell) = true
    · rw [if_pos hk]
      refine cellsFrom_some r (n + 1) _ ?_
      cases hxy : x == y with
      | true => right; rw [List.lookup_cons, hxy]; rfl
      | false =>
        rcases h with h | h
        · left; rw [List.lookup_cons, hxy] at h; exact h
        · right; rw [List.lookup_cons, hxy]; exact h
    · rw [if_neg hk]
      refine cellsFrom_some r n acc ?_
      rcases h with h | h
      · cases hxy : x == y with
        | true => rw [List.lookup_cons, hxy] at h; cases h; exact absurd rfl hk
        | false => left; rw [List.lookup_cons, hxy] at h; exact h
      · exact .inr h

theorem initLoc_get {params : List Str} {args : List V} {x : Str} : ∀ {names : Names} {i j : Nat} {k : NameKind}, slotGo names x i = some (j, k) → i ≤ j ∧ (initLoc params args names)[j - i]? = some ((params.zip args).lookup x)
  | [], _, _, _, h => by cases h
  | (y, k') :: r, i, j, k, h => by
    unfold slotGo at h
    split at h
    · rename_i e
      cases h
      rw [beq_iff_eq.mp e]
      exact ⟨Nat.le_refl _, by rw [Nat.sub_self]; rfl⟩
    · obtain ⟨h1, h2⟩ := initLoc_get (params := params) (args := args) h
      refine ⟨by omega, ?_⟩
      rw [show j - i = (j - (i + 1)) + 1 by omega]
      exact h2

section
variable {ρ : Map} {h : Heap}
theorem zip_lookup {x : Str} : ∀ {params : List Str} {vals : List Value} {args : List V} {a : V}, RelAll ρ h vals args → (params.zip args).lookup x = some a → ∃ v, (params.zip vals).lookup x = some v ∧ Rel ρ h v a
  | [], _, _, _, _, e => by cases e
  | p :: ps, _, _, _, .nil, e => by cases e
  | p :: ps, _, _, _, .cons r rs, e => by
    rw [List.zip_cons_cons, List.lookup_cons] at e ⊢
    cases hx : x == p with
    | true => rw [hx] at e; cases e; exact ⟨_, rfl, r⟩
    | false => rw [hx] at e; exact zip_lookup rs e
end

theorem bindL_out {kindOf : Str → Option NameKind} {x : Str} : ∀ {binds : List (Str × Value)} {m : Str → Option Value}, (∀ p ∈ binds, p.1 ≠ x) → bindL kindOf binds m x = m x
  | [], _, _ => rfl
  | (y, v) :: r, m, h => by
    unfold bindL
    rw [bindL_out fun p hp => h p (List.mem_cons_of_mem _ hp)]
    split
    · exact if_neg fun e => h (y, v) (List.mem_cons_self ..) e.symm
    · rfl
theorem bindL_in {kindOf : Str → Option NameKind} {x : Str} {v : Value} (hk : kindOf x = some .local) : ∀ {binds : List (Str × Value)} {m : Str → Option Value}, (binds.map (·.1)).Nodup → binds.lookup x = some v → bindL kindOf binds m x = some v
  | [], _, _, h => by cases h
  | (y, u) :: r, m, hn, h => by
    unfold bindL
    rw [List.lookup_cons] at h
    rw [List.map_cons, List.nodup_cons] at hn
    cases hx : x == y with
    | true =>
      rw [hx] at h; cases h
      have e := beq_iff_eq.mp hx
      subst e
      rw [bindL_out fun p hp e => hn.1 (List.mem_map.mpr ⟨p, hp, e⟩), if_pos hk]
      exact if_pos rfl
    | false => rw [hx] at h; exact bindL_in hk hn.2 h
theorem bindC_out {kindOf : Str → Option NameKind} {x : Str} : ∀ {binds : List (Str × Value)} {m : Str → Option Value}, (∀ p ∈ binds, p.1 ≠ x) → bindC kindOf binds m x = m x
  | [], _, _ => rfl
  | (y, v) :: r, m, h => by
    unfold bindC
    rw [bindC_out fun p hp => h p (List.mem_cons_of_mem _ hp)]
    split
    · rfl
    · exact if_neg fun e => h (y, v) (List.mem_cons_self ..) e.symm
theorem bindC_in {kindOf : Str → Option NameKind} {x : Str} {v : Value} (hk : kindOf x = some .cell) : ∀ {binds : List (Str × Value)} {m : Str → Option Value}, (binds.map (·.1)).Nodup → binds.lookup x = some v → bindC kindOf binds m x = some v
  | [], _, _, h => by cases h
  | (y, u) :: r, m, hn, h => by
    unfold bindC
    rw [List.lookup_cons] at h
    rw [List.map_cons, List.nodup_cons] at hn
    cases hx : x == y with
    | true =>
      rw [hx] at h; cases h
      have e := beq_iff_eq.mp hx
      subst e
      rw [bindC_out fun p hp e => hn.1 (List.mem_map.mpr ⟨p, hp, e⟩), if_neg (by rw [hk]; decide)]
      exact if_pos rfl
    | false => rw [hx] at h; exact bindC_in hk hn.2 h

theorem zip_fst_mem {x : Str} : ∀ {params : List Str} {vals : List Value}, x ∈ (params.zip vals).map (·.1) → x ∈ params
  | [], _, h => by cases h
  | _ :: _, [], h => by cases h
  | p :: ps, v :: vs, h => by
    rw [List.zip_cons_cons, List.map_cons] at h
    rcases List.mem_cons.mp h with h | h
    · exact h ▸ List.mem_cons_self ..
    · exact List.mem_cons_of_mem _ (zip_fst_mem h)
theorem zip_fst_nodup : ∀ {params : List Str} {vals : List Value}, params.Nodup → ((params.zip vals).map (·.1)).Nodup
  | [], _, _ => List.nodup_nil
  | _ :: _, [], _ => List.nodup_nil
  | p :: ps, v :: vs, hn => by
    rw [List.zip_cons_cons, List.map_cons, List.nodup_cons]
    rw [List.nodup_cons] at hn
    exact ⟨fun hm => hn.1 (zip_fst_mem hm), zip_fst_nodup hn.2⟩

section
variable {prog : Program} {w : World} {h₀ : Heap} {A : Around} {ρ : Map} {s : Shared} {σ : Store} {fns : Str → Option Fn} {glob : Str → Option V} {mg mb : Str → Option Value}

theorem Rm.deeper {n : Nat} {env : Env} (h : Rm A (n + 1)) : Rm (A.deeper env) n where
  handled := h.handled
  depth := by show A.depth + 1 + n < recursionLimit; have := h.depth; omega
  units := by show A.units + 3 + 8 * n + 300 < cLine; have := h.units; omega

/-- the frame of a call -/
theorem callFrm {fd : FuncData} {f : Fn} {a : Addr} {vals : List Value} {args : List V} {s₁ : Shared} (ok : FdOk fd f) (i : Inv h₀ σ ρ s.heap) (r : RelAll ρ s.heap vals args)
    (x : InCallC s (callEnvC fd s.heap.objs.size a).locals (bindL (callEnvC fd s.heap.objs.size a).kindOf (f.params.zip vals) fun _ => none) (callEnvC fd s.heap.objs.size a).cells (bindC (callEnvC fd s.heap.objs.size a).kindOf (f.params.zip vals) fun _ => none) s₁) :
    Frm (callEnvC fd s.heap.objs.size a) f.names (initLoc f.params args f.names) ρ s₁.heap := by
  have hk : ∀ b o, s.heap.get? b = some o → s₁.heap.get? b = some o := x.toInCall.keep
  have hnm : (callEnvC fd s.heap.objs.size a).scope.names = f.names := ok.names
  have hkind : ∀ y i k, slot f.names y = some (i, k) → (callEnvC fd s.heap.objs.size a).kindOf y = some k := fun y i k h => by
    show (callEnvC fd s.heap.objs.size a).scope.names.lookup y = _
    rw [hnm]; exact slot_lookup h
  have hlc : ∀ y c, (callEnvC fd s.heap.objs.size a).cells.lookup y = some c → s.heap.objs.size < c := fun y c hc => x.above y c (mem_of_lookup hc)
  have off : ∀ b : Addr, s.heap.objs.size ≤ b → offMap ρ b := fun b hb p hp => by
    obtain ⟨⟨o1, e1⟩, ⟨o2, e2⟩⟩ := i.alive hp
    exact ⟨fun e => absurd (Heap.lt_size e1) (Nat.not_lt.mpr (e ▸ hb)), fun e => absurd (Heap.lt_size e2) (Nat.not_lt.mpr (e ▸ hb))⟩
  exact {
    names := hnm
    kind := ok.kind
    globals := ok.globals
    blts := ok.blts
    vars := ⟨_, x.toInCall.ns, fun y j v h1 h2 => by
      obtain ⟨_, h3⟩ := initLoc_get (params := f.params) (args := args) h1
      rw [Nat.sub_zero, h2] at h3
      obtain ⟨val, hv, rv⟩ := zip_lookup r (Option.some.inj h3).symm
      exact ⟨val, bindL_in (hkind y j _ h1) (zip_fst_nodup ok.nodup) hv, rv.sub (Sub.keeps hk)⟩⟩
    cell := fun y j h1 => by
      have hsome := cellsFrom_some f.names (s.heap.objs.size + 1) [] (.inl (slot_lookup h1))
      obtain ⟨c, hc⟩ := Option.isSome_iff_exists.mp hsome
      have hc' : (callEnvC fd s.heap.objs.size a).cells.lookup y = some c := by
        show (cellsFrom (s.heap.objs.size + 1) fd.scope.names []).lookup y = some c
        rw [ok.names]; exact hc
      refine ⟨c, _, hc', x.cell y c hc', fun v h2 => ?_⟩
      obtain ⟨_, h3⟩ := initLoc_get (params := f.params) (args := args) h1
      rw [Nat.sub_zero, h2] at h3
      obtain ⟨val, hv, rv⟩ := zip_lookup r (Option.some.inj h3).symm
      exact ⟨val, bindC_in (hkind y j _ h1) (zip_fst_nodup ok.nodup) hv, rv.sub (Sub.keeps hk)⟩
    live := fun y c hc => ⟨_, x.cell y c hc⟩
    offL := off _ (Nat.le_refl _)
    offC := fun y c hc => ⟨Nat.ne_of_gt (hlc y c hc), off _ (Nat.le_of_lt (hlc y c hc))⟩
    apart := fun y z c h1 h2 => name_of_addr x.apart (mem_of_lookup h1) (mem_of_lookup h2) }

/-- a call of a def of the text's own -/
theorem callFn_ok {n : Nat} {C : Cfg} {f : Str} {fn : Fn} {a : Addr} {args : List V} {vals : List Value} (H : Hyp prog w h₀ fns glob mg mb C n) (hf : fns f = some fn) (hm : mg f = some (.ref a)) (hA : Rm A (n + 1)) (r : RelAll ρ s.heap vals args) (i : Inv h₀ σ ρ s.heap) :
    Sim prog w h₀ A [] (call (.ref a) vals) (callFn C fn args σ) RV ρ s := by
  obtain ⟨a', o, fd, hm', ho, hd, ok, hcd⟩ := H.B.fn f fn hf
  rw [hm] at hm'; cases hm'
  unfold callFn
  refine Sim.ite fun hlen => ?_
  cases h1 : exs C fn.body fn.names (initLoc fn.params args fn.names) σ with
  | bad => rw [bind_bad h1]; exact trivial
  | exc _ _ => rw [bind_exc h1]; exact trivial
  | ok res σ' =>
    rw [bind_ok h1]
    have hvl : vals.length = fn.params.length := by rw [r.length, hlen]
    refine wpAny_call (codeAny_call_cells (binds := fn.params.zip vals) (by have := hA.depth; omega) (i.base _ _ ho) hd (H.B.nolimit.keeps i.base) (hcd.keeps i.base) ok.body (ok.binds vals hvl) ok.clo (fun y hy => ?_) (fun s₁ x => ?_) ok.co ok.gen ok.kind)
    · have hp : y.1 ∈ fn.params := zip_fst_mem (List.mem_map.mpr ⟨y, hy, rfl⟩)
      rw [ok.names]
      rcases ok.pkind y.1 hp with h | h
      · exact .inl h
      · exact .inr ⟨h, cellsFrom_some _ _ _ (.inl h)⟩
    · have F := callFrm ok i r x
      obtain ⟨H₁, tk₁, rfl⟩ := x.toInCall.same
      have hk : ∀ b o, s.heap.get? b = some o → H₁.get? b = some o := x.toInCall.keep
      have dead : ∀ b ∈ frameW (callEnvC fd s.heap.objs.size a), s.heap.get? b = none := fun b hb => by
        have hge : s.heap.objs.size ≤ b := by
          rcases List.mem_cons.mp hb with rfl | hb
          · exact Nat.le_refl _
          · obtain ⟨⟨y, k⟩, _, hc⟩ := List.mem_filterMap.mp hb
            exact Nat.le_of_lt (x.above y b (mem_of_lookup hc))
        cases e : s.heap.get? b with
        | none => rfl
        | some o => exact absurd (Heap.lt_size e) (Nat.not_lt.mpr hge)
      have dead0 : ∀ b ∈ frameW (callEnvC fd s.heap.objs.size a), h₀.get? b = none := fun b hb => by
        cases e : h₀.get? b with
        | none => rfl
        | some o => have := i.base _ _ e; rw [dead b hb] at this; cases this
      have hs := exs_ok H fn.body (callEnvC fd s.heap.objs.size a) fn.names (initLoc fn.params args fn.names) σ ρ { s with heap := H₁, toks := tk₁ } (A.deeper (callEnvC fd s.heap.objs.size a)) hA.deeper dead0 F (i.keeps hk)
      rw [h1] at hs
      refine wpAny_mono hs (fun fl s' hp => ?_) fun _ _ f => f.elim
      obtain ⟨ρ', H', tk', rfl, i', x', rf, F'⟩ := hp
      have hx : Ext [] ρ s.heap ρ' H' := ((Ext.of_keeps hk).trans x').weak fun b hb => .inr (dead b hb)
      obtain ⟨fl', loc'⟩ := res
      cases fl' with
      | next => cases rf; exact ⟨ρ', H', tk', rfl, i', hx, .none⟩
      | brk => cases rf; exact ⟨ρ', H', tk', rfl, i', hx, .none⟩
      | cont => cases rf; exact ⟨ρ', H', tk', rfl, i', hx, .none⟩
      | ret v =>
        obtain ⟨val, rfl, rv⟩ := rf
        exact ⟨ρ', H', tk', rfl, i', hx, rv⟩

/-- the run of a text: its defs, its plain values, calls of at most so many deep -/
def cfgN (fns : Str → Option Fn) (glob : Str → Option V) (d : Nat) : Cfg := ⟨fun x => (fns x).isSome, callN fns glob d, glob⟩

theorem callN_ok (B : Base fns glob mg mb h₀) (hns : NoShadow fns) : ∀ d : Nat, CallS prog w h₀ mg (cfgN fns glob d) d
  | 0 => fun f a args vals σ ρ s A hA hf hm r i => trivial
  | d + 1 => fun f a args vals σ ρ s A hA hf hm r i => by
    show Sim prog w h₀ A [] _ (callN fns glob (d + 1) f args σ) RV ρ s
    unfold callN
    cases hfn : fns f with
    | none => exact trivial
    | some fn =>
      exact callFn_ok (C := cfgN fns glob d) ⟨B, fun _ => rfl, rfl, hns, callN_ok B hns d⟩ hfn hm hA r i
end
end Mine

namespace Mine
open PySem PySem.W PyProof.Rows

/-! ## the head: from the top of a text to its defs -/
theorem zip_find : ∀ {ps : List Str} {vals : List Value}, ps.Nodup → vals.length = ps.length → (ps.filterMap fun n => ((ps.zip vals).lookup n).map (n, ·)) = ps.zip vals := by
  intro ps vals hn hl
  have key : ∀ (pre : List (Str × Value)) (ps : List Str) (vals : List Value), ps.Nodup → vals.length = ps.length → (∀ x ∈ ps, pre.lookup x = none) → (ps.filterMap fun n => ((pre ++ ps.zip vals).lookup n).map (n, ·)) = ps.zip vals := by
    intro pre ps
    induction ps generalizing pre with
    | nil => intro vals _ _ _; rfl
    | cons p ps ih =>
      intro vals hn hl hp
      cases vals with
      | nil => cases hl
      | cons v vs =>
        rw [List.nodup_cons] at hn
        have e1 : (pre ++ (p :: ps).zip (v :: vs)).lookup p = some v := by
          rw [List.lookup_append, hp p (List.mem_cons_self ..), List.zip_cons_cons, List.lookup_cons, beq_self_eq_true]; rfl
        rw [List.filterMap_cons, e1]
        dsimp only [Option.map]
        rw [List.zip_cons_cons]
        congr 1
        have := ih (pre ++ [(p, v)]) vs hn.2 (by simpa using hl) (fun x hx => by
          rw [List.lookup_append, hp x (List.mem_cons_of_mem _ hx), List.lookup_cons]
          have : (x == p) = false := by
            cases e : x == p with
            | false => rfl
            | true => rw [beq_iff_eq.mp e] at hx; exact absurd hx hn.1
          rw [this]; rfl)
        rw [List.append_assoc] at this
        exact this
  exact key [] ps vals hn hl (fun _ _ => rfl)

theorem bind_plain {name : Str} {as : List Arg} {body : List Stmt} {scope : Scope} {pm code doc : Value} {vals : List Value} (hn : (as.map (·.arg)).Nodup) (hl : vals.length = (as.map (·.arg)).length) :
    bindArgs (Calls.docDef name ⟨[], as, none, [], [], none, []⟩ body scope pm code doc) ⟨vals, []⟩ = pure ((as.map (·.arg)).zip vals) := by
  have hm : ((as.map (·.arg)).filter fun n => (((as.map (·.arg)).zip vals).lookup n).isNone) = [] := by
    rw [List.filter_eq_nil_iff]
    intro n hn'
    have : ∀ (ps : List Str) (vals : List Value), n ∈ ps → vals.length = ps.length → ((ps.zip vals).lookup n).isNone = false := by
      intro ps
      induction ps with
      | nil => intro _ h; cases h
      | cons p ps ih =>
        intro vals h hl
        cases vals with
        | nil => cases hl
        | cons v vs =>
          rw [List.zip_cons_cons, List.lookup_cons]
          cases e : n == p with
          | true => rfl
          | false =>
            rcases List.mem_cons.mp h with h | h
            · rw [h, beq_self_eq_true] at e; cases e
            · exact ih vs h (by simpa using hl)
    rw [this _ _ hn' hl]; decide
  unfold bindArgs Calls.docDef
  have hs : seqItems? .none = (Pure.pure none : Sem (Option (Array Value))) := by kernel_rfl
  dsimp only
  rw [hs]
  simp only [List.map_nil, List.nil_append, List.append_nil, List.forIn_nil, pure_bind, Option.isNone_none, Bool.and_true]
  have he : ((none : Option (Array Value)).getD #[]).toList = [] := rfl
  rw [if_neg (by rw [hl]; simp)]
  simp only [he, List.length_nil, Nat.zero_sub, List.drop_zero, Nat.sub_zero, List.take_length, hm, List.isEmpty_nil, Bool.not_true, Bool.false_eq_true, if_false, List.drop_length, List.zip_nil_left, List.forIn_nil, pure_bind]
  rw [zip_find hn hl]

/-- the defs of a text's top -/
def defOf (d : DefRec) : Str × Fn := (d.name, ⟨d.params.args.map (·.arg), d.scope.names, d.body⟩)
def defsV (q : Program) : List (Str × Fn) := (recsOf q).map defOf
def fnsT (tab : List (Str × Fn)) : Str → Option Fn := fun x => tab.lookup x

/-- a def that can be run -/
def recOk (d : DefRec) : Bool :=
  (match d.params with | ⟨[], _, none, [], [], none, []⟩ => true | _ => false) && (match d.scope.kind with | .function => true | _ => false) && !d.scope.isCoroutine && !d.scope.isGenerator &&
  decide (d.params.args.map (·.arg)).Nodup && (d.params.args.map (·.arg)).all fun x => match d.scope.names.lookup x with | some .local => true | some .cell => true | _ => false

theorem recOk_fd {d : DefRec} {pm code doc : Value} (h : recOk d = true) : FdOk (Calls.docDef d.name d.params d.body d.scope pm code doc) (defOf d).2 := by
  obtain ⟨name, params, body, scope, pos⟩ := d
  unfold recOk at h
  simp only [Bool.and_eq_true] at h
  obtain ⟨⟨⟨⟨⟨h1, h2⟩, h3⟩, h4⟩, h5⟩, h6⟩ := h
  obtain ⟨po, as, va, ko, kd, kw, df⟩ := params
  have hp : po = [] ∧ va = none ∧ ko = [] ∧ kd = [] ∧ kw = none ∧ df = [] := by
    split at h1
    · rename_i e; cases e; exact ⟨rfl, rfl, rfl, rfl, rfl, rfl⟩
    · cases h1
  obtain ⟨rfl, rfl, rfl, rfl, rfl, rfl⟩ := hp
  have hn : (as.map (·.arg)).Nodup := of_decide_eq_true h5
  exact {
    body := rfl
    names := rfl
    kind := by
      show scope.kind = .function
      split at h2
      · assumption
      · cases h2
    co := by show scope.isCoroutine = false; simpa using h3
    gen := by show scope.isGenerator = false; simpa using h4
    clo := rfl
    globals := rfl
    blts := rfl
    binds := fun vals hl => bind_plain hn hl
    pkind := fun x hx => by
      have := List.all_eq_true.mp h6 x hx
      show scope.names.lookup x = some .local ∨ scope.names.lookup x = some .cell
      split at this
      · left; assumption
      · right; assumption
      · cases this
    nodup := hn }

/-- the built-in names that a text leaves alone -/
def bltFree (q : Program) (loose : List Str) : Bool := bltNames.all fun x => !startupNames.contains x && !loose.contains x && !((recsOf q).map (·.name)).contains x && !((litsOf q).map (·.1)).contains x && !((clssOf q loose).map (·.name)).contains x

theorem lookup_map {x : Str} {fn : Fn} : ∀ {ds : List DefRec}, (ds.map defOf).lookup x = some fn → ∃ d ∈ ds, d.name = x ∧ (defOf d).2 = fn
  | [], h => by cases h
  | d :: ds, h => by
    rw [List.map_cons] at h
    unfold defOf at h
    rw [List.lookup_cons] at h
    split at h
    · rename_i e
      cases h
      exact ⟨d, List.mem_cons_self .., (beq_iff_eq.mp e).symm, rfl⟩
    · obtain ⟨d', hd, r⟩ := lookup_map (ds := ds) h
      exact ⟨d', List.mem_cons_of_mem _ hd, r⟩

theorem base_of {q : Program} {loose : List Str} {mean : ExcName → Option Value} {mg mb : Str → Option Value} {h : Heap} {tab : List (Str × Fn)} (T : Top q loose mean mg mb h) (he : defsV q = tab) (hr : (recsOf q).all recOk = true) (hb : bltFree q loose = true) :
    Base (fnsT tab) (fun _ => none) mg mb h where
  g := T.g
  b := T.b
  nolimit := T.nolimit
  fn := fun f fn hf => by
    subst he
    obtain ⟨d, hd, rfl, rfl⟩ := lookup_map hf
    obtain ⟨a, o, pm, code, doc, h1, h2, h3, h4⟩ := T.fn d hd
    exact ⟨a, o, _, h1, h2, h3, recOk_fd (List.all_eq_true.mp hr d hd), h4⟩
  blt := fun f hf hn => by
    have := List.all_eq_true.mp hb f hf
    simp only [Bool.and_eq_true, Bool.not_eq_true'] at this
    obtain ⟨⟨⟨⟨h1, h2⟩, h3⟩, h4⟩, h5⟩ := this
    have nc : ∀ {l : List Str}, l.contains f = false → f ∉ l := fun h hm => by
      rw [List.contains_iff_mem.mpr hm] at h; cases h
    exact ⟨T.free f (nc h1) (nc h2) (nc h3) (nc h4) (nc h5), T.builtins f (by
      intro e; subst e
      exact absurd h1 (by decide +kernel))⟩
  const := fun x v h => by cases h

/-- what is to be shown of a law's run -/
def LawOk (tab : List (Str × Fn)) (d : Nat) : Prop := ∀ zs : List Int, zs.length ≤ 63 → ∃ σ, callN (fnsT tab) (fun _ => none) d "law" [.ref 0] [.list (zs.map .int)] = .ok (.bool true) σ

theorem ints_rel {ρ : Map} {h : Heap} : ∀ {vs : List Value} {zs : List Int}, IntsAre vs zs → RelAll ρ h vs (zs.map .int)
  | _, _, .nil => .nil
  | _, _, .cons i t r => .cons (.int i t) (ints_rel r)

theorem law_run {prog : Program} {w : World} {mg mb : Str → Option Value} {s₁ : Shared} {tab : List (Str × Fn)} {fa la : Addr} {vs : List Value} {n d : Nat} {zs : List Int} {A : Around} (B : Base (fnsT tab) (fun _ => none) mg mb s₁.heap) (hns : bltNames.all (fun x => (fnsT tab x).isNone) = true) (hm : mg "law" = some (.ref fa))
    (hf : (fnsT tab "law").isSome = true) (hl : s₁.heap.get? la = some (listO vs n)) (hI : IntsAre vs zs) (hlen : zs.length ≤ 63) (ok : LawOk tab d) (hA : Rm A d) :
    wpAny (model prog w) A (call (.ref fa) [.ref la]) (fun v s' => v = .bool true ∧ (∀ b o, s₁.heap.get? b = some o → s'.heap.get? b = some o) ∧ s'.os = s₁.os ∧ s'.gens = s₁.gens) (fun _ _ => False) s₁ := by
  obtain ⟨σ', hok⟩ := ok zs hlen
  have hns' : NoShadow (fnsT tab) := fun f hf => by
    have := List.all_eq_true.mp hns f hf
    cases e : fnsT tab f with
    | none => rfl
    | some _ => rw [e] at this; cases this
  have hvl : vs.length ≤ sizeLine := by
    have h1 : ∀ {vs : List Value} {zs : List Int}, IntsAre vs zs → vs.length = zs.length := by
      intro vs zs h
      induction h with
      | nil => rfl
      | cons _ _ _ ih => simp [ih]
    rw [h1 hI]
    exact Nat.le_trans hlen (by decide)
  have hinv : Inv s₁.heap [.list (zs.map .int)] [(la, la)] s₁.heap :=
    { base := fun _ _ e => e
      len := rfl
      objs := fun k o p e1 e2 => by
        cases k with
        | zero => cases e1; cases e2; exact ⟨rfl, vs, n, hl, hvl, ints_rel hI⟩
        | succ k => cases e2
      fresh := fun k p e hk => by
        cases k with
        | zero => cases hk
        | succ k => cases e
      apart := fun i j p q e1 e2 hij => by
        cases i with
        | zero =>
          cases j with
          | zero => exact absurd rfl hij
          | succ j => cases e2
        | succ i => cases e1 }
  have := callN_ok (prog := prog) (w := w) B hns' d "law" fa [.ref 0] [.ref la] _ _ s₁ A hA hf hm (.cons (.ref (d := la) rfl) .nil) hinv
  rw [show (cfgN (fnsT tab) (fun _ => none) d).call "law" [.ref 0] [.list (zs.map .int)] = .ok (.bool true) σ' from hok] at this
  refine wpAny_mono this (fun v s' hp => ?_) fun _ _ f => f
  obtain ⟨ρ', h', tk, rfl, i, x, r⟩ := hp
  cases r
  exact ⟨rfl, i.base, rfl, rfl⟩

theorem list_at {P : Params} {h : Heap} {la : Addr} {vs : List Value} {xs : List WData} (hL : h.IsList la vs.toArray) (hw : Well P h (.ref la) (.list xs)) : h.get? la = some (listO vs 0) := by
  cases hw with
  | list hget _ =>
    obtain ⟨ob, hob, _, nn, hdat⟩ := hL
    rw [hget] at hob
    cases hob
    have e : _ = vs.toArray := (Data.seq.inj hdat).1
    rw [hget, e]; rfl
theorem room_caller {d : Nat} (h : d ≤ 400) : Rm callerA d where
  handled := rfl
  depth := by show 1 + claimMargin + d < recursionLimit; have : 1 + claimMargin + 400 < recursionLimit := by decide
              omega
  units := by show 4 + 8 * d + 300 < cLine; have : (4 : Nat) + 8 * 400 + 300 < cLine := by decide
              omega
end Mine

namespace Mine
open PySem

/-! ## the same run, with what comes behind at hand -/
variable {α : Type}

/-- a comprehension, what it walks at hand -/
def compAll (C : Cfg) (elt target : Expr) (ifs : List Expr) (scope : Scope) (s : Src) (ns : Names) (loc : Loc) : M V :=
  if tgtOk s target && compOk scope.kind scope.names then
    s.count >>= fun n => innerLoc ns loc scope.names >>= fun loc' =>
    compLoop s (bindTo (stLocL (relab ns scope.names)) target) (tests C ifs (relab ns scope.names)) (ev C elt (relab ns scope.names)) (n + 1) 0 loc' >>= fun l =>
    (if l.length ≤ sizeLine then newO (.list l) else M.bad)
  else M.bad
/-- a loop, what it walks at hand -/
def forAll (C : Cfg) (target : Expr) (body : List Stmt) (s : Src) (ns : Names) (loc : Loc) : M (Fl × Loc) :=
  if tgtOk s target then s.count >>= fun n => forLoop s (bindTo (stLoc ns) target) (exs C body ns) (n + 1) 0 loc else M.bad

mutual
def evK (C : Cfg) : Expr → Names → Loc → (V → M α) → M α
  | .Constant c _ _, _, _, k => constV c >>= k
  | .Name x _, ns, loc, k => (if x = ("__debug__" : Str) then M.bad else ldName C ns x loc) >>= k
  | .BinOp l op r _, ns, loc, k => evK C l ns loc fun a => evK C r ns loc fun b => binop op a b >>= k
  | .UnaryOp .Not x _, ns, loc, k => evK C x ns loc fun a => truth a >>= fun t => k (.bool (!t))
  | .UnaryOp .USub (.Constant (.int i) _ _) _, _, _, k => k (.int (-i))
  | .BoolOp op vs _, ns, loc, k => evBoolK C vs op ns loc k
  | .Compare l [op] [r] _, ns, loc, k => evK C l ns loc fun a => evK C r ns loc fun b => cmp op a b >>= k
  | .IfExp t a b _, ns, loc, k => tstK C t ns loc (evK C t ns loc) fun c => if c = true then evK C a ns loc k else evK C b ns loc k
  | .Subscript o (.Slice lo hi none _) _, ns, loc, k => evK C o ns loc fun a => evOptK C lo ns loc fun l => evOptK C hi ns loc fun h => bound l >>= fun l' => bound h >>= fun h' => sliceV l' h' a >>= k
  | .Subscript o i _, ns, loc, k => evK C o ns loc fun a => evK C i ns loc fun b => item a b >>= k
  | .List es _, ns, loc, k => evsK C es ns loc fun vs => (if vs.length ≤ sizeLine then newO (.list vs) else M.bad) >>= k
  | .Tuple es _ _, ns, loc, k => evsK C es ns loc fun vs => (if vs.length ≤ sizeLine then pure (.tup vs) else M.bad) >>= k
  | .Call (.Name f _) as [] _, ns, loc, k =>
    if isGlob ns f then
      (if f = ("isinstance" : Str) then evIsiK C as ns loc k
      else evsK C as ns loc fun vs => callGlob C f vs >>= k)
    else M.bad
  | .Call (.Attribute o m ap) as [] p, ns, loc, k =>
    if ap.endLine = p.line ∧ as.length < 30 ∧ isSuper o = false then
      evK C o ns loc fun v => askS (mtag v m) >>= fun tg => evsK C as ns loc fun vs => runM tg v vs >>= k
    else M.bad
  | .ListComp elt [⟨target, iter, ifs, 0⟩] scope _, ns, loc, k => srcK C iter ns loc (evK C iter ns loc) fun s => compAll C elt target ifs scope s ns loc >>= k
  | _, _, _, _ => M.bad

def evOptK (C : Cfg) : Option Expr → Names → Loc → (V → M α) → M α
  | none, _, _, k => k .none
  | some e, ns, loc, k => evK C e ns loc k

def evsK (C : Cfg) : List Expr → Names → Loc → (List V → M α) → M α
  | [], _, _, k => k []
  | e :: r, ns, loc, k => evK C e ns loc fun v => evsK C r ns loc fun vs => k (v :: vs)

def evIsiK (C : Cfg) : List Expr → Names → Loc → (V → M α) → M α
  | [a, .Name t _], ns, loc, k => if isGlob ns t then evK C a ns loc fun v => ofOpt (kdOf t) >>= fun kd => isKd kd v >>= k else M.bad
  | _, _, _, _ => M.bad

def evBoolK (C : Cfg) : List Expr → BoolOp → Names → Loc → (V → M α) → M α
  | [], _, _, _, _ => M.bad
  | e :: r, op, ns, loc, k => evK C e ns loc fun v => match r with
    | [] => k v
    | _ :: _ => truth v >>= fun t => match op with
      | .And => cond t (evBoolK C r op ns loc k) (k v)
      | .Or => cond t (k v) (evBoolK C r op ns loc k)

def tstK (C : Cfg) : Expr → Names → Loc → ((V → M α) → M α) → (Bool → M α) → M α
  | .UnaryOp .Not x _, ns, loc, _, k => tstK C x ns loc (evK C x ns loc) fun b => k (!b)
  | .BoolOp op vs _, ns, loc, _, k => tstAllK C vs op ns loc k
  | .IfExp t a b _, ns, loc, _, k => tstK C t ns loc (evK C t ns loc) fun c => if c = true then tstK C a ns loc (evK C a ns loc) k else tstK C b ns loc (evK C b ns loc) k
  | _, _, _, whole, k => whole fun v => truth v >>= k

def tstAllK (C : Cfg) : List Expr → BoolOp → Names → Loc → (Bool → M α) → M α
  | [], op, _, _, k => k (op == .And)
  | e :: r, op, ns, loc, k => tstK C e ns loc (evK C e ns loc) fun b => match op with
    | .And => cond b (tstAllK C r op ns loc k) (k false)
    | .Or => cond b (k true) (tstAllK C r op ns loc k)

def srcK (C : Cfg) : Expr → Names → Loc → ((V → M α) → M α) → (Src → M α) → M α
  | .Call (.Name f _) as [] _, ns, loc, whole, k =>
    (match as with
    | [a] => if srcTag C ns f = 1 then evK C a ns loc fun v => rangeOf v >>= k
      else if srcTag C ns f = 2 then evK C a ns loc fun v => enumOf v >>= k
      else whole fun v => srcV v >>= k
    | _ => whole fun v => srcV v >>= k)
  | _, _, _, whole, k => whole fun v => srcV v >>= k
end

theorem M.pure_bind {α β : Type} (a : α) (f : α → M β) : ((Pure.pure a : M α) >>= f) = f a := rfl
theorem M.bad_bind {α β : Type} (f : α → M β) : ((M.bad : M α) >>= f) = M.bad := rfl
theorem M.ite_bind {α β : Type} {c : Prop} [Decidable c] (m n : M α) (f : α → M β) : ((if c then m else n) >>= f) = if c then m >>= f else n >>= f := by split <;> rfl
theorem M.bind_congr {α β : Type} {m : M α} {f g : α → M β} (h : ∀ a, f a = g a) : (m >>= f) = (m >>= g) := by rw [funext h]

/-- the two agree at an expression -/
structure KOk (C : Cfg) (e : Expr) : Prop where
  ev : ∀ (α : Type) (ns : Names) (loc : Loc) (k : V → M α), evK C e ns loc k = (ev C e ns loc >>= k)
  tst : ∀ (α : Type) (ns : Names) (loc : Loc) (k : Bool → M α), tstK C e ns loc (evK C e ns loc) k = (tst C e ns loc (Mine.ev C e ns loc) >>= k)
  src : ∀ (α : Type) (ns : Names) (loc : Loc) (k : Src → M α), srcK C e ns loc (evK C e ns loc) k = (Mine.src C e ns loc (Mine.ev C e ns loc) >>= k)
  slice : ∀ lo hi q, e = .Slice lo hi none q → (∀ (α : Type) (ns : Names) (loc : Loc) (k : V → M α), evOptK C lo ns loc k = (evOpt C lo ns loc >>= k)) ∧ ∀ (α : Type) (ns : Names) (loc : Loc) (k : V → M α), evOptK C hi ns loc k = (evOpt C hi ns loc >>= k)
  attr : ∀ o m q, e = .Attribute o m q → ∀ (α : Type) (ns : Names) (loc : Loc) (k : V → M α), evK C o ns loc k = (Mine.ev C o ns loc >>= k)

variable {C : Cfg}
theorem kNoSlice {e : Expr} (h : isSliceE e = false) : ∀ lo hi q, e = .Slice lo hi none q → (∀ (α : Type) (ns : Names) (loc : Loc) (k : V → M α), evOptK C lo ns loc k = (evOpt C lo ns loc >>= k)) ∧ ∀ (α : Type) (ns : Names) (loc : Loc) (k : V → M α), evOptK C hi ns loc k = (evOpt C hi ns loc >>= k) := fun lo hi q e' => by rw [e'] at h; cases h
theorem kNoAttr {e : Expr} (h : isAttrE e = false) : ∀ o m q, e = .Attribute o m q → ∀ (α : Type) (ns : Names) (loc : Loc) (k : V → M α), evK C o ns loc k = (Mine.ev C o ns loc >>= k) := fun o m q e' => by rw [e'] at h; cases h
theorem KOk.plain {e : Expr} (he : ∀ (α : Type) (ns : Names) (loc : Loc) (k : V → M α), evK C e ns loc k = (Mine.ev C e ns loc >>= k))
    (h1 : ∀ (ns : Names) (loc : Loc) (whole : M V), Mine.tst C e ns loc whole = (whole >>= fun v => truth v)) (h2 : ∀ (α : Type) (ns : Names) (loc : Loc) (whole : (V → M α) → M α) (k : Bool → M α), tstK C e ns loc whole k = whole fun v => truth v >>= k)
    (h3 : ∀ ns loc whole, Mine.src C e ns loc whole = (whole >>= srcV)) (h4 : ∀ (α : Type) (ns : Names) (loc : Loc) (whole : (V → M α) → M α) (k : Src → M α), srcK C e ns loc whole k = whole fun v => srcV v >>= k)
    (h5 : isSliceE e = false) (h6 : isAttrE e = false) : KOk C e where
  ev := he
  tst := fun α ns loc k => by rw [h1, h2, he, M.assoc]
  src := fun α ns loc k => by rw [h3, h4, he, M.assoc]
  slice := kNoSlice h5
  attr := kNoAttr h6

theorem evsK_of : ∀ {es : List Expr}, (∀ e ∈ es, KOk C e) → ∀ (α : Type) (ns : Names) (loc : Loc) (k : List V → M α), evsK C es ns loc k = (evs C es ns loc >>= k)
  | [], _, α, ns, loc, k => rfl
  | e :: r, h, α, ns, loc, k => by
    show evK C e ns loc (fun v => evsK C r ns loc fun vs => k (v :: vs)) = ((ev C e ns loc >>= fun v => evs C r ns loc >>= fun vs => pure (v :: vs)) >>= k)
    rw [(h e (List.mem_cons_self ..)).ev, M.assoc]
    refine M.bind_congr fun a => ?_
    rw [evsK_of fun e he => h e (List.mem_cons_of_mem _ he), M.assoc]
    rfl
theorem evBoolK_of : ∀ {es : List Expr}, (∀ e ∈ es, KOk C e) → ∀ (α : Type) (op : BoolOp) (ns : Names) (loc : Loc) (k : V → M α), evBoolK C es op ns loc k = (evBool C es op ns loc >>= k)
  | [], _, α, op, ns, loc, k => rfl
  | [e], h, α, op, ns, loc, k => by
    show evK C e ns loc (fun v => k v) = ((ev C e ns loc >>= fun v => pure v) >>= k)
    rw [(h e (List.mem_cons_self ..)).ev, M.assoc]
    rfl
  | e :: e2 :: r, h, α, op, ns, loc, k => by
    have ih := evBoolK_of (es := e2 :: r) fun e he => h e (List.mem_cons_of_mem _ he)
    show evK C e ns loc (fun v => truth v >>= fun t => match op with
      | .And => cond t (evBoolK C (e2 :: r) op ns loc k) (k v)
      | .Or => cond t (k v) (evBoolK C (e2 :: r) op ns loc k)) = ((ev C e ns loc >>= fun v => truth v >>= fun t => match op, t with
      | .And, false => pure v
      | .Or, true => pure v
      | _, _ => evBool C (e2 :: r) op ns loc) >>= k)
    rw [(h e (List.mem_cons_self ..)).ev, M.assoc]
    refine M.bind_congr fun a => ?_
    rw [M.assoc]
    refine M.bind_congr fun t => ?_
    cases op <;> cases t
    · rfl
    · exact ih α .And ns loc k
    · exact ih α .Or ns loc k
    · rfl
theorem tstAllK_of : ∀ {es : List Expr}, (∀ e ∈ es, KOk C e) → ∀ (α : Type) (op : BoolOp) (ns : Names) (loc : Loc) (k : Bool → M α), tstAllK C es op ns loc k = (tstAll C es op ns loc >>= k)
  | [], _, α, op, ns, loc, k => rfl
  | e :: r, h, α, op, ns, loc, k => by
    have ih := tstAllK_of (es := r) fun e he => h e (List.mem_cons_of_mem _ he)
    show tstK C e ns loc (evK C e ns loc) (fun t => match op with
      | .And => cond t (tstAllK C r op ns loc k) (k false)
      | .Or => cond t (k true) (tstAllK C r op ns loc k)) = ((tst C e ns loc (ev C e ns loc) >>= fun t => match op, t with
      | .And, false => pure false
      | .Or, true => pure true
      | _, _ => tstAll C r op ns loc) >>= k)
    rw [(h e (List.mem_cons_self ..)).tst, M.assoc]
    refine M.bind_congr fun t => ?_
    cases op <;> cases t
    · rfl
    · exact ih α .And ns loc k
    · exact ih α .Or ns loc k
    · rfl
theorem evIsiK_of : ∀ {es : List Expr}, (∀ e ∈ es, KOk C e) → ∀ (α : Type) (ns : Names) (loc : Loc) (k : V → M α), evIsiK C es ns loc k = (evIsi C es ns loc >>= k)
  | [], _, _, _, _, _ => rfl
  | [_], _, _, _, _, _ => rfl
  | [a, b], h, α, ns, loc, k => by
    by_cases hb : ∃ t q, b = .Name t q
    · obtain ⟨t, q, rfl⟩ := hb
      show (if isGlob ns t = true then evK C a ns loc fun v => ofOpt (kdOf t) >>= fun kd => isKd kd v >>= k else M.bad) = ((if isGlob ns t = true then (ev C a ns loc >>= fun v => ofOpt (kdOf t) >>= fun kd => isKd kd v) else M.bad) >>= k)
      rw [M.ite_bind, M.bad_bind, (h a (List.mem_cons_self ..)).ev, M.assoc]
      congr 1
      refine M.bind_congr fun v => ?_
      rw [M.assoc]
    · have h1 : evIsi C [a, b] ns loc = M.bad := by cases b <;> first | rfl | exact absurd ⟨_, _, rfl⟩ hb
      have h2 : evIsiK C [a, b] ns loc k = M.bad := by cases b <;> first | rfl | exact absurd ⟨_, _, rfl⟩ hb
      rw [h1, h2]; rfl
  | a :: b :: c :: r, _, α, ns, loc, k => by
    have h1 : evIsi C (a :: b :: c :: r) ns loc = M.bad := by cases b <;> rfl
    have h2 : evIsiK C (a :: b :: c :: r) ns loc k = M.bad := by cases b <;> rfl
    rw [h1, h2]; rfl

theorem srcK_call {f : Str} {as : List Expr} {p q : Pos} (he : ∀ (α : Type) (ns : Names) (loc : Loc) (k : V → M α), evK C (.Call (.Name f p) as [] q) ns loc k = (ev C (.Call (.Name f p) as [] q) ns loc >>= k)) (has : ∀ e ∈ as, KOk C e) :
    ∀ (α : Type) (ns : Names) (loc : Loc) (k : Src → M α), srcK C (.Call (.Name f p) as [] q) ns loc (evK C (.Call (.Name f p) as [] q) ns loc) k = (src C (.Call (.Name f p) as [] q) ns loc (ev C (.Call (.Name f p) as [] q) ns loc) >>= k) := fun α ns loc k => by
  have hw : evK C (.Call (.Name f p) as [] q) ns loc (fun v => srcV v >>= k) = ((ev C (.Call (.Name f p) as [] q) ns loc >>= fun v => srcV v) >>= k) := by rw [he, M.assoc]
  rcases as with _ | ⟨a, _ | ⟨b, r⟩⟩
  · exact hw
  · show (if srcTag C ns f = 1 then evK C a ns loc fun v => rangeOf v >>= k else if srcTag C ns f = 2 then evK C a ns loc fun v => enumOf v >>= k else evK C (.Call (.Name f p) [a] [] q) ns loc fun v => srcV v >>= k) =
      ((if srcTag C ns f = 1 then (ev C a ns loc >>= fun v => rangeOf v) else if srcTag C ns f = 2 then (ev C a ns loc >>= fun v => enumOf v) else (ev C (.Call (.Name f p) [a] [] q) ns loc >>= fun v => srcV v)) >>= k)
    rw [M.ite_bind, M.ite_bind, (has a (List.mem_singleton.mpr rfl)).ev, (has a (List.mem_singleton.mpr rfl)).ev, M.assoc, M.assoc, hw]
  · exact hw

theorem KOk.nothing {e : Expr} (hb : ∀ ns loc, Mine.ev C e ns loc = M.bad) (hk : ∀ (α : Type) (ns : Names) (loc : Loc) (k : V → M α), evK C e ns loc k = M.bad)
    (h1 : ∀ (ns : Names) (loc : Loc) (whole : M V), Mine.tst C e ns loc whole = (whole >>= fun v => truth v)) (h2 : ∀ (α : Type) (ns : Names) (loc : Loc) (whole : (V → M α) → M α) (k : Bool → M α), tstK C e ns loc whole k = whole fun v => truth v >>= k)
    (h3 : ∀ ns loc whole, Mine.src C e ns loc whole = (whole >>= srcV)) (h4 : ∀ (α : Type) (ns : Names) (loc : Loc) (whole : (V → M α) → M α) (k : Src → M α), srcK C e ns loc whole k = whole fun v => srcV v >>= k)
    (h5 : isSliceE e = false) (h6 : isAttrE e = false) : KOk C e :=
  KOk.plain (fun α ns loc k => by rw [hb, hk]; rfl) h1 h2 h3 h4 h5 h6

theorem K_binop {l r : Expr} {op : Operator} {p : Pos} (hl : KOk C l) (hr : KOk C r) : ∀ (α : Type) (ns : Names) (loc : Loc) (k : V → M α), evK C (.BinOp l op r p) ns loc k = (ev C (.BinOp l op r p) ns loc >>= k) := fun α ns loc k => by
  show evK C l ns loc (fun a => evK C r ns loc fun b => binop op a b >>= k) = ((ev C l ns loc >>= fun a => ev C r ns loc >>= fun b => binop op a b) >>= k)
  rw [hl.ev, M.assoc]
  refine M.bind_congr fun a => ?_
  rw [hr.ev, M.assoc]
theorem K_compare {l r : Expr} {op : CmpOp} {p : Pos} (hl : KOk C l) (hr : KOk C r) : ∀ (α : Type) (ns : Names) (loc : Loc) (k : V → M α), evK C (.Compare l [op] [r] p) ns loc k = (ev C (.Compare l [op] [r] p) ns loc >>= k) := fun α ns loc k => by
  show evK C l ns loc (fun a => evK C r ns loc fun b => cmp op a b >>= k) = ((ev C l ns loc >>= fun a => ev C r ns loc >>= fun b => cmp op a b) >>= k)
  rw [hl.ev, M.assoc]
  refine M.bind_congr fun a => ?_
  rw [hr.ev, M.assoc]
theorem K_not {x : Expr} {p : Pos} (hx : KOk C x) : ∀ (α : Type) (ns : Names) (loc : Loc) (k : V → M α), evK C (.UnaryOp .Not x p) ns loc k = (ev C (.UnaryOp .Not x p) ns loc >>= k) := fun α ns loc k => by
  show evK C x ns loc (fun a => truth a >>= fun t => k (.bool (!t))) = ((ev C x ns loc >>= fun a => truth a >>= fun t => pure (V.bool (!t))) >>= k)
  rw [hx.ev, M.assoc]
  refine M.bind_congr fun a => ?_
  rw [M.assoc]; rfl
theorem K_sub {o i : Expr} {p : Pos} (ho : KOk C o) (hi : KOk C i) (he : ∀ ns loc, ev C (.Subscript o i p) ns loc = (ev C o ns loc >>= fun a => ev C i ns loc >>= fun b => item a b)) (hk : ∀ (α : Type) ns loc (k : V → M α), evK C (.Subscript o i p) ns loc k = evK C o ns loc fun a => evK C i ns loc fun b => item a b >>= k) :
    ∀ (α : Type) (ns : Names) (loc : Loc) (k : V → M α), evK C (.Subscript o i p) ns loc k = (ev C (.Subscript o i p) ns loc >>= k) := fun α ns loc k => by
  rw [he, hk, ho.ev, M.assoc]
  refine M.bind_congr fun a => ?_
  rw [hi.ev, M.assoc]
theorem K_slice {o : Expr} {lo hi : Option Expr} {p q : Pos} (ho : KOk C o) (hlo : ∀ (α : Type) (ns : Names) (loc : Loc) (k : V → M α), evOptK C lo ns loc k = (evOpt C lo ns loc >>= k)) (hhi : ∀ (α : Type) (ns : Names) (loc : Loc) (k : V → M α), evOptK C hi ns loc k = (evOpt C hi ns loc >>= k)) :
    ∀ (α : Type) (ns : Names) (loc : Loc) (k : V → M α), evK C (.Subscript o (.Slice lo hi none q) p) ns loc k = (ev C (.Subscript o (.Slice lo hi none q) p) ns loc >>= k) := fun α ns loc k => by
  show evK C o ns loc (fun a => evOptK C lo ns loc fun l => evOptK C hi ns loc fun h => bound l >>= fun l' => bound h >>= fun h' => sliceV l' h' a >>= k) =
    ((ev C o ns loc >>= fun a => evOpt C lo ns loc >>= fun l => evOpt C hi ns loc >>= fun h => bound l >>= fun l' => bound h >>= fun h' => sliceV l' h' a) >>= k)
  rw [ho.ev, M.assoc]
  refine M.bind_congr fun a => ?_
  rw [hlo, M.assoc]
  refine M.bind_congr fun l => ?_
  rw [hhi, M.assoc]
  refine M.bind_congr fun h => ?_
  rw [M.assoc]
  refine M.bind_congr fun l' => ?_
  rw [M.assoc]
theorem K_list {es : List Expr} {p : Pos} (h : ∀ e ∈ es, KOk C e) : ∀ (α : Type) (ns : Names) (loc : Loc) (k : V → M α), evK C (.List es p) ns loc k = (ev C (.List es p) ns loc >>= k) := fun α ns loc k => by
  show evsK C es ns loc (fun vs => (if vs.length ≤ sizeLine then newO (.list vs) else M.bad) >>= k) = ((evs C es ns loc >>= fun vs => if vs.length ≤ sizeLine then newO (.list vs) else M.bad) >>= k)
  rw [evsK_of h, M.assoc]
theorem K_tuple {es : List Expr} {p : Pos} {j : Nat} (h : ∀ e ∈ es, KOk C e) : ∀ (α : Type) (ns : Names) (loc : Loc) (k : V → M α), evK C (.Tuple es j p) ns loc k = (ev C (.Tuple es j p) ns loc >>= k) := fun α ns loc k => by
  show evsK C es ns loc (fun vs => (if vs.length ≤ sizeLine then (pure (.tup vs) : M V) else M.bad) >>= k) = ((evs C es ns loc >>= fun vs => if vs.length ≤ sizeLine then (pure (.tup vs) : M V) else M.bad) >>= k)
  rw [evsK_of h, M.assoc]
theorem K_ifexp {t a b : Expr} {p : Pos} (ht : KOk C t) (ha : KOk C a) (hb : KOk C b) : ∀ (α : Type) (ns : Names) (loc : Loc) (k : V → M α), evK C (.IfExp t a b p) ns loc k = (ev C (.IfExp t a b p) ns loc >>= k) := fun α ns loc k => by
  show tstK C t ns loc (evK C t ns loc) (fun c => if c = true then evK C a ns loc k else evK C b ns loc k) = ((tst C t ns loc (ev C t ns loc) >>= fun c => if c = true then ev C a ns loc else ev C b ns loc) >>= k)
  rw [ht.tst, M.assoc]
  refine M.bind_congr fun c => ?_
  rw [M.ite_bind, ha.ev, hb.ev]
theorem KT_ifexp {t a b : Expr} {p : Pos} (ht : KOk C t) (ha : KOk C a) (hb : KOk C b) : ∀ (α : Type) (ns : Names) (loc : Loc) (k : Bool → M α), tstK C (.IfExp t a b p) ns loc (evK C (.IfExp t a b p) ns loc) k = (tst C (.IfExp t a b p) ns loc (ev C (.IfExp t a b p) ns loc) >>= k) := fun α ns loc k => by
  show tstK C t ns loc (evK C t ns loc) (fun c => if c = true then tstK C a ns loc (evK C a ns loc) k else tstK C b ns loc (evK C b ns loc) k) = ((tst C t ns loc (ev C t ns loc) >>= fun c => if c = true then tst C a ns loc (ev C a ns loc) else tst C b ns loc (ev C b ns loc)) >>= k)
  rw [ht.tst, M.assoc]
  refine M.bind_congr fun c => ?_
  rw [M.ite_bind, ha.tst, hb.tst]
theorem KT_not {x : Expr} {p : Pos} (hx : KOk C x) : ∀ (α : Type) (ns : Names) (loc : Loc) (k : Bool → M α), tstK C (.UnaryOp .Not x p) ns loc (evK C (.UnaryOp .Not x p) ns loc) k = (tst C (.UnaryOp .Not x p) ns loc (ev C (.UnaryOp .Not x p) ns loc) >>= k) := fun α ns loc k => by
  show tstK C x ns loc (evK C x ns loc) (fun b => k (!b)) = ((tst C x ns loc (ev C x ns loc) >>= fun b => pure (!b)) >>= k)
  rw [hx.tst, M.assoc]; rfl
theorem K_callName {f : Str} {es : List Expr} {p q : Pos} (h : ∀ e ∈ es, KOk C e) : ∀ (α : Type) (ns : Names) (loc : Loc) (k : V → M α), evK C (.Call (.Name f p) es [] q) ns loc k = (ev C (.Call (.Name f p) es [] q) ns loc >>= k) := fun α ns loc k => by
  show (if isGlob ns f = true then (if f = ("isinstance" : Str) then evIsiK C es ns loc k else evsK C es ns loc fun vs => callGlob C f vs >>= k) else M.bad) =
    ((if isGlob ns f = true then (if f = ("isinstance" : Str) then evIsi C es ns loc else (evs C es ns loc >>= fun vs => callGlob C f vs)) else M.bad) >>= k)
  rw [M.ite_bind, M.bad_bind, M.ite_bind, evIsiK_of h, evsK_of h, M.assoc]
theorem K_callMeth {o : Expr} {m : Str} {es : List Expr} {p q : Pos} (ho : ∀ (α : Type) (ns : Names) (loc : Loc) (k : V → M α), evK C o ns loc k = (ev C o ns loc >>= k)) (h : ∀ e ∈ es, KOk C e) : ∀ (α : Type) (ns : Names) (loc : Loc) (k : V → M α), evK C (.Call (.Attribute o m p) es [] q) ns loc k = (ev C (.Call (.Attribute o m p) es [] q) ns loc >>= k) := fun α ns loc k => by
  show (if p.endLine = q.line ∧ es.length < 30 ∧ isSuper o = false then evK C o ns loc (fun v => askS (mtag v m) >>= fun tg => evsK C es ns loc fun vs => runM tg v vs >>= k) else M.bad) =
    ((if p.endLine = q.line ∧ es.length < 30 ∧ isSuper o = false then (ev C o ns loc >>= fun v => askS (mtag v m) >>= fun tg => evs C es ns loc >>= fun vs => runM tg v vs) else M.bad) >>= k)
  rw [M.ite_bind, M.bad_bind, ho, M.assoc]
  congr 1
  refine M.bind_congr fun v => ?_
  rw [M.assoc]
  refine M.bind_congr fun tg => ?_
  rw [evsK_of h, M.assoc]
theorem K_comp {elt t it : Expr} {ifs : List Expr} {scope : Scope} {p : Pos} (hs : ∀ (α : Type) (ns : Names) (loc : Loc) (k : Src → M α), srcK C it ns loc (evK C it ns loc) k = (src C it ns loc (ev C it ns loc) >>= k)) :
    ∀ (α : Type) (ns : Names) (loc : Loc) (k : V → M α), evK C (.ListComp elt [⟨t, it, ifs, 0⟩] scope p) ns loc k = (ev C (.ListComp elt [⟨t, it, ifs, 0⟩] scope p) ns loc >>= k) := fun α ns loc k => by
  show srcK C it ns loc (evK C it ns loc) (fun s => compAll C elt t ifs scope s ns loc >>= k) = ((src C it ns loc (ev C it ns loc) >>= fun s => compAll C elt t ifs scope s ns loc) >>= k)
  rw [hs, M.assoc]

theorem compK_cases : ∀ gens : List Comprehension, (∃ t it ifs, gens = [⟨t, it, ifs, 0⟩]) ∨ ((∀ (C : Cfg) (elt : Expr) (scope : Scope) (p : Pos) (ns : Names) (loc : Loc), ev C (.ListComp elt gens scope p) ns loc = M.bad) ∧ ∀ (C : Cfg) (elt : Expr) (scope : Scope) (p : Pos) (α : Type) (ns : Names) (loc : Loc) (k : V → M α), evK C (.ListComp elt gens scope p) ns loc k = M.bad)
  | [] => .inr ⟨fun _ _ _ _ _ _ => rfl, fun _ _ _ _ _ _ _ _ => rfl⟩
  | [⟨t, it, ifs, .ofNat 0⟩] => .inl ⟨t, it, ifs, rfl⟩
  | [⟨t, it, ifs, .ofNat (k + 1)⟩] => .inr ⟨fun _ _ _ _ _ _ => rfl, fun _ _ _ _ _ _ _ _ => rfl⟩
  | [⟨t, it, ifs, .negSucc k⟩] => .inr ⟨fun _ _ _ _ _ _ => rfl, fun _ _ _ _ _ _ _ _ => rfl⟩
  | ⟨_, _, _, .ofNat 0⟩ :: _ :: _ => .inr ⟨fun _ _ _ _ _ _ => rfl, fun _ _ _ _ _ _ _ _ => rfl⟩
  | ⟨_, _, _, .ofNat (_ + 1)⟩ :: _ :: _ => .inr ⟨fun _ _ _ _ _ _ => rfl, fun _ _ _ _ _ _ _ _ => rfl⟩
  | ⟨_, _, _, .negSucc _⟩ :: _ :: _ => .inr ⟨fun _ _ _ _ _ _ => rfl, fun _ _ _ _ _ _ _ _ => rfl⟩

mutual
theorem k_ok (C : Cfg) : ∀ e : Expr, KOk C e
  | .Constant c k p => .plain (fun _ _ _ _ => rfl) (fun _ _ _ => rfl) (fun _ _ _ _ _ => rfl) (fun _ _ _ => rfl) (fun _ _ _ _ _ => rfl) rfl rfl
  | .Name x p => .plain (fun _ _ _ _ => rfl) (fun _ _ _ => rfl) (fun _ _ _ _ _ => rfl) (fun _ _ _ => rfl) (fun _ _ _ _ _ => rfl) rfl rfl
  | .BinOp l op r p => .plain (K_binop (k_ok C l) (k_ok C r)) (fun _ _ _ => rfl) (fun _ _ _ _ _ => rfl) (fun _ _ _ => rfl) (fun _ _ _ _ _ => rfl) rfl rfl
  | .UnaryOp op x p => by
    have hx := k_ok C x
    cases op with
    | Not => exact ⟨K_not hx, KT_not hx, fun α ns loc k => by show evK C (.UnaryOp .Not x p) ns loc (fun v => srcV v >>= k) = ((ev C (.UnaryOp .Not x p) ns loc >>= srcV) >>= k); rw [K_not hx, M.assoc], kNoSlice rfl, kNoAttr rfl⟩
    | USub =>
      cases x with
      | Constant c k q =>
        cases c with
        | int z => exact .plain (fun _ _ _ _ => rfl) (fun _ _ _ => rfl) (fun _ _ _ _ _ => rfl) (fun _ _ _ => rfl) (fun _ _ _ _ _ => rfl) rfl rfl
        | _ => exact .nothing (fun _ _ => rfl) (fun _ _ _ _ => rfl) (fun _ _ _ => rfl) (fun _ _ _ _ _ => rfl) (fun _ _ _ => rfl) (fun _ _ _ _ _ => rfl) rfl rfl
      | _ => exact .nothing (fun _ _ => rfl) (fun _ _ _ _ => rfl) (fun _ _ _ => rfl) (fun _ _ _ _ _ => rfl) (fun _ _ _ => rfl) (fun _ _ _ _ _ => rfl) rfl rfl
    | _ => exact .nothing (fun _ _ => rfl) (fun _ _ _ _ => rfl) (fun _ _ _ => rfl) (fun _ _ _ _ _ => rfl) (fun _ _ _ => rfl) (fun _ _ _ _ _ => rfl) rfl rfl
  | .BoolOp op vs p => by
    have hv := ks_ok C vs
    exact ⟨fun α ns loc k => evBoolK_of hv α op ns loc k, fun α ns loc k => tstAllK_of hv α op ns loc k, fun α ns loc k => by
      show evBoolK C vs op ns loc (fun v => srcV v >>= k) = ((evBool C vs op ns loc >>= srcV) >>= k)
      rw [evBoolK_of hv, M.assoc], kNoSlice rfl, kNoAttr rfl⟩
  | .Compare l ops rs p => by
    have hl := k_ok C l
    have hr := ks_ok C rs
    match ops, rs with
    | [op], [r] => exact .plain (K_compare hl (hr r (List.mem_cons_self ..))) (fun _ _ _ => rfl) (fun _ _ _ _ _ => rfl) (fun _ _ _ => rfl) (fun _ _ _ _ _ => rfl) rfl rfl
    | [], _ => exact .nothing (fun _ _ => rfl) (fun _ _ _ _ => rfl) (fun _ _ _ => rfl) (fun _ _ _ _ _ => rfl) (fun _ _ _ => rfl) (fun _ _ _ _ _ => rfl) rfl rfl
    | _ :: _ :: _, _ => exact .nothing (fun _ _ => rfl) (fun _ _ _ _ => rfl) (fun _ _ _ => rfl) (fun _ _ _ _ _ => rfl) (fun _ _ _ => rfl) (fun _ _ _ _ _ => rfl) rfl rfl
    | [_], [] => exact .nothing (fun _ _ => rfl) (fun _ _ _ _ => rfl) (fun _ _ _ => rfl) (fun _ _ _ _ _ => rfl) (fun _ _ _ => rfl) (fun _ _ _ _ _ => rfl) rfl rfl
    | [_], _ :: _ :: _ => exact .nothing (fun _ _ => rfl) (fun _ _ _ _ => rfl) (fun _ _ _ => rfl) (fun _ _ _ _ _ => rfl) (fun _ _ _ => rfl) (fun _ _ _ _ _ => rfl) rfl rfl
  | .IfExp t a b p => by
    have ht := k_ok C t
    have ha := k_ok C a
    have hb := k_ok C b
    exact ⟨K_ifexp ht ha hb, KT_ifexp ht ha hb, fun α ns loc k => by show evK C (.IfExp t a b p) ns loc (fun v => srcV v >>= k) = ((ev C (.IfExp t a b p) ns loc >>= srcV) >>= k); rw [K_ifexp ht ha hb, M.assoc], kNoSlice rfl, kNoAttr rfl⟩
  | .Slice lo hi st p => by
    have hlo := kopt_ok C lo
    have hhi := kopt_ok C hi
    exact ⟨fun _ _ _ _ => rfl, fun _ _ _ _ => rfl, fun _ _ _ _ => rfl, fun lo' hi' q e => by cases e; exact ⟨hlo, hhi⟩, kNoAttr rfl⟩
  | .Subscript o i p => by
    have ho := k_ok C o
    have hi := k_ok C i
    have he : ∀ (α : Type) (ns : Names) (loc : Loc) (k : V → M α), evK C (.Subscript o i p) ns loc k = (ev C (.Subscript o i p) ns loc >>= k) := by
      cases i with
      | Slice lo hi' st q =>
        cases st with
        | none => obtain ⟨h1, h2⟩ := hi.slice lo hi' q rfl; exact K_slice ho h1 h2
        | some st => exact K_sub ho hi (fun _ _ => rfl) (fun _ _ _ _ => rfl)
      | _ => exact K_sub ho hi (fun _ _ => rfl) (fun _ _ _ _ => rfl)
    exact .plain he (fun _ _ _ => rfl) (fun _ _ _ _ _ => rfl) (fun _ _ _ => rfl) (fun _ _ _ _ _ => rfl) rfl rfl
  | .List es p => .plain (K_list (ks_ok C es)) (fun _ _ _ => rfl) (fun _ _ _ _ _ => rfl) (fun _ _ _ => rfl) (fun _ _ _ _ _ => rfl) rfl rfl
  | .Tuple es j p => .plain (K_tuple (ks_ok C es)) (fun _ _ _ => rfl) (fun _ _ _ _ _ => rfl) (fun _ _ _ => rfl) (fun _ _ _ _ _ => rfl) rfl rfl
  | .Attribute o m p => by
    have ho := k_ok C o
    exact ⟨fun _ _ _ _ => rfl, fun _ _ _ _ => rfl, fun _ _ _ _ => rfl, kNoSlice rfl, fun o' m' q e => by cases e; exact ho.ev⟩
  | .Call f as ks p => by
    have hf := k_ok C f
    have has := ks_ok C as
    cases ks with
    | cons k ks =>
      exact .nothing (fun ns loc => by cases f <;> rfl) (fun _ ns loc _ => by cases f <;> rfl) (fun _ _ _ => rfl) (fun _ _ _ _ _ => rfl) (fun ns loc whole => by cases f <;> rfl) (fun _ ns loc whole _ => by cases f <;> rfl) rfl rfl
    | nil =>
      cases f with
      | Name x q => exact ⟨K_callName has, fun α ns loc k => by show evK C (.Call (.Name x q) as [] p) ns loc (fun v => truth v >>= k) = ((ev C (.Call (.Name x q) as [] p) ns loc >>= truth) >>= k); rw [K_callName has, M.assoc], srcK_call (K_callName has) has, kNoSlice rfl, kNoAttr rfl⟩
      | Attribute o m q => exact .plain (K_callMeth (hf.attr o m q rfl) has) (fun _ _ _ => rfl) (fun _ _ _ _ _ => rfl) (fun _ _ _ => rfl) (fun _ _ _ _ _ => rfl) rfl rfl
      | _ => exact .nothing (fun _ _ => rfl) (fun _ _ _ _ => rfl) (fun _ _ _ => rfl) (fun _ _ _ _ _ => rfl) (fun _ _ _ => rfl) (fun _ _ _ _ _ => rfl) rfl rfl
  | .ListComp elt gens scope p => by
    have hg := kgens_ok C gens
    rcases compK_cases gens with ⟨t, it, ifs, rfl⟩ | ⟨hbad, hbadK⟩
    · exact .plain (K_comp (hg _ (List.mem_cons_self ..))) (fun _ _ _ => rfl) (fun _ _ _ _ _ => rfl) (fun _ _ _ => rfl) (fun _ _ _ _ _ => rfl) rfl rfl
    · exact .nothing (hbad C elt scope p) (fun α => hbadK C elt scope p α) (fun _ _ _ => rfl) (fun _ _ _ _ _ => rfl) (fun _ _ _ => rfl) (fun _ _ _ _ _ => rfl) rfl rfl
  | .NamedExpr _ _ _ => .nothing (fun _ _ => rfl) (fun _ _ _ _ => rfl) (fun _ _ _ => rfl) (fun _ _ _ _ _ => rfl) (fun _ _ _ => rfl) (fun _ _ _ _ _ => rfl) rfl rfl
  | .Lambda _ _ _ _ => .nothing (fun _ _ => rfl) (fun _ _ _ _ => rfl) (fun _ _ _ => rfl) (fun _ _ _ _ _ => rfl) (fun _ _ _ => rfl) (fun _ _ _ _ _ => rfl) rfl rfl
  | .Dict _ _ _ => .nothing (fun _ _ => rfl) (fun _ _ _ _ => rfl) (fun _ _ _ => rfl) (fun _ _ _ _ _ => rfl) (fun _ _ _ => rfl) (fun _ _ _ _ _ => rfl) rfl rfl
  | .Set _ _ _ => .nothing (fun _ _ => rfl) (fun _ _ _ _ => rfl) (fun _ _ _ => rfl) (fun _ _ _ _ _ => rfl) (fun _ _ _ => rfl) (fun _ _ _ _ _ => rfl) rfl rfl
  | .SetComp _ _ _ _ => .nothing (fun _ _ => rfl) (fun _ _ _ _ => rfl) (fun _ _ _ => rfl) (fun _ _ _ _ _ => rfl) (fun _ _ _ => rfl) (fun _ _ _ _ _ => rfl) rfl rfl
  | .DictComp _ _ _ _ _ => .nothing (fun _ _ => rfl) (fun _ _ _ _ => rfl) (fun _ _ _ => rfl) (fun _ _ _ _ _ => rfl) (fun _ _ _ => rfl) (fun _ _ _ _ _ => rfl) rfl rfl
  | .GeneratorExp _ _ _ _ => .nothing (fun _ _ => rfl) (fun _ _ _ _ => rfl) (fun _ _ _ => rfl) (fun _ _ _ _ _ => rfl) (fun _ _ _ => rfl) (fun _ _ _ _ _ => rfl) rfl rfl
  | .Await _ _ => .nothing (fun _ _ => rfl) (fun _ _ _ _ => rfl) (fun _ _ _ => rfl) (fun _ _ _ _ _ => rfl) (fun _ _ _ => rfl) (fun _ _ _ _ _ => rfl) rfl rfl
  | .Yield _ _ => .nothing (fun _ _ => rfl) (fun _ _ _ _ => rfl) (fun _ _ _ => rfl) (fun _ _ _ _ _ => rfl) (fun _ _ _ => rfl) (fun _ _ _ _ _ => rfl) rfl rfl
  | .YieldFrom _ _ => .nothing (fun _ _ => rfl) (fun _ _ _ _ => rfl) (fun _ _ _ => rfl) (fun _ _ _ _ _ => rfl) (fun _ _ _ => rfl) (fun _ _ _ _ _ => rfl) rfl rfl
  | .FormattedValue _ _ _ _ => .nothing (fun _ _ => rfl) (fun _ _ _ _ => rfl) (fun _ _ _ => rfl) (fun _ _ _ _ _ => rfl) (fun _ _ _ => rfl) (fun _ _ _ _ _ => rfl) rfl rfl
  | .JoinedStr _ _ => .nothing (fun _ _ => rfl) (fun _ _ _ _ => rfl) (fun _ _ _ => rfl) (fun _ _ _ _ _ => rfl) (fun _ _ _ => rfl) (fun _ _ _ _ _ => rfl) rfl rfl
  | .Starred _ _ => .nothing (fun _ _ => rfl) (fun _ _ _ _ => rfl) (fun _ _ _ => rfl) (fun _ _ _ _ _ => rfl) (fun _ _ _ => rfl) (fun _ _ _ _ _ => rfl) rfl rfl
theorem ks_ok (C : Cfg) : ∀ es : List Expr, ∀ e ∈ es, KOk C e
  | [] => fun _ hm => absurd hm List.not_mem_nil
  | e :: r => fun e' hm => by
    have h1 := k_ok C e
    have h2 := ks_ok C r
    rcases List.mem_cons.mp hm with rfl | hm
    · exact h1
    · exact h2 e' hm
theorem kopt_ok (C : Cfg) : ∀ o : Option Expr, ∀ (α : Type) (ns : Names) (loc : Loc) (k : V → M α), evOptK C o ns loc k = (evOpt C o ns loc >>= k)
  | none => fun _ _ _ _ => rfl
  | some e => (k_ok C e).ev
theorem kgens_ok (C : Cfg) : ∀ gs : List Comprehension, ∀ g ∈ gs, ∀ (α : Type) (ns : Names) (loc : Loc) (k : Src → M α), srcK C g.iter ns loc (evK C g.iter ns loc) k = (src C g.iter ns loc (ev C g.iter ns loc) >>= k)
  | [] => fun _ hm => absurd hm List.not_mem_nil
  | ⟨t, it, ifs, k⟩ :: r => fun g hm => by
    have h1 := k_ok C it
    have h3 := kgens_ok C r
    rcases List.mem_cons.mp hm with rfl | hm
    · exact h1.src
    · exact h3 g hm
end

/-! statements -/
def flK (k : Fl × Loc → M α) (next : Loc → M α) (x : Fl × Loc) : M α := match x with
  | (.next, loc) => next loc
  | (f, loc) => k (f, loc)

mutual
def exK (C : Cfg) : Stmt → Names → Loc → (Fl × Loc → M α) → M α
  | .Expr (.Call f as [] p) _, ns, loc, k => evK C (.Call f as [] p) ns loc fun _ => k (.next, loc)
  | .Pass _, _, loc, k => k (.next, loc)
  | .Return none _, _, loc, k => k (.ret .none, loc)
  | .Return (some e) _, ns, loc, k => evK C e ns loc fun v => k (.ret v, loc)
  | .Assign [.Name x _] value _, ns, loc, k => evK C value ns loc fun v => stLoc ns x v loc >>= fun loc' => k (.next, loc')
  | .Assign [.Subscript o i _] value _, ns, loc, k => evK C value ns loc fun v => evK C o ns loc fun a => evK C i ns loc fun b => setItem a b v >>= fun _ => k (.next, loc)
  | .Assign [.Tuple ts j q] value _, ns, loc, k => if isTupE value then M.bad else evK C value ns loc fun v => bindTo (stLoc ns) (.Tuple ts j q) v loc >>= fun loc' => k (.next, loc')
  | .If t a b _, ns, loc, k => tstK C t ns loc (evK C t ns loc) fun c => if c = true then exsK C a ns loc k else exsK C b ns loc k
  | .For target iter body [] _, ns, loc, k => srcK C iter ns loc (evK C iter ns loc) fun s => forAll C target body s ns loc >>= k
  | _, _, _, _ => M.bad

def exsK (C : Cfg) : List Stmt → Names → Loc → (Fl × Loc → M α) → M α
  | [], _, loc, k => k (.next, loc)
  | s :: r, ns, loc, k => exK C s ns loc (flK k fun loc' => exsK C r ns loc' k)
end

mutual
theorem exK_ok (C : Cfg) : ∀ (st : Stmt) (α : Type) (ns : Names) (loc : Loc) (k : Fl × Loc → M α), exK C st ns loc k = (ex C st ns loc >>= k)
  | .Expr e p, α, ns, loc, k => by
    cases e with
    | Call f as ks q =>
      cases ks with
      | nil =>
        show evK C (.Call f as [] q) ns loc (fun _ => k (.next, loc)) = ((ev C (.Call f as [] q) ns loc >>= fun _ => pure (.next, loc)) >>= k)
        rw [(k_ok C _).ev, M.assoc]; rfl
      | cons _ _ => rfl
    | _ => rfl
  | .Pass p, α, ns, loc, k => rfl
  | .Return none p, α, ns, loc, k => rfl
  | .Return (some e) p, α, ns, loc, k => by
    show evK C e ns loc (fun v => k (.ret v, loc)) = ((ev C e ns loc >>= fun v => pure (.ret v, loc)) >>= k)
    rw [(k_ok C _).ev, M.assoc]; rfl
  | .Assign ts v p, α, ns, loc, k => by
    match ts with
    | [] => rfl
    | [.Name x q] =>
      show evK C v ns loc (fun v => stLoc ns x v loc >>= fun loc' => k (.next, loc')) = ((ev C v ns loc >>= fun v => stLoc ns x v loc >>= fun loc' => pure (.next, loc')) >>= k)
      rw [(k_ok C _).ev, M.assoc]
      refine M.bind_congr fun a => ?_
      rw [M.assoc]; rfl
    | [.Subscript o i q] =>
      show evK C v ns loc (fun v => evK C o ns loc fun a => evK C i ns loc fun b => setItem a b v >>= fun _ => k (.next, loc)) = ((ev C v ns loc >>= fun v => ev C o ns loc >>= fun a => ev C i ns loc >>= fun b => setItem a b v >>= fun _ => pure (.next, loc)) >>= k)
      rw [(k_ok C _).ev, M.assoc]
      refine M.bind_congr fun v => ?_
      rw [(k_ok C _).ev, M.assoc]
      refine M.bind_congr fun a => ?_
      rw [(k_ok C _).ev, M.assoc]
      refine M.bind_congr fun b => ?_
      rw [M.assoc]; rfl
    | [.Tuple ts j q] =>
      show (if isTupE v = true then M.bad else evK C v ns loc fun v => bindTo (stLoc ns) (.Tuple ts j q) v loc >>= fun loc' => k (.next, loc')) = ((if isTupE v = true then M.bad else (ev C v ns loc >>= fun v => bindTo (stLoc ns) (.Tuple ts j q) v loc >>= fun loc' => pure (.next, loc'))) >>= k)
      rw [M.ite_bind, M.bad_bind, (k_ok C _).ev, M.assoc]
      congr 1
      refine M.bind_congr fun a => ?_
      rw [M.assoc]; rfl
    | [.BoolOp _ _ _] | [.NamedExpr _ _ _] | [.BinOp _ _ _ _] | [.UnaryOp _ _ _] | [.Lambda _ _ _ _] | [.IfExp _ _ _ _] | [.Dict _ _ _] | [.Set _ _ _] | [.ListComp _ _ _ _] | [.SetComp _ _ _ _] | [.DictComp _ _ _ _ _] | [.GeneratorExp _ _ _ _]
    | [.Await _ _] | [.Yield _ _] | [.YieldFrom _ _] | [.Compare _ _ _ _] | [.Call _ _ _ _] | [.FormattedValue _ _ _ _] | [.JoinedStr _ _] | [.Constant _ _ _] | [.Attribute _ _ _] | [.Starred _ _] | [.List _ _] | [.Slice _ _ _ _] => rfl
    | t :: _ :: _ => cases t <;> rfl
  | .If t a b p, α, ns, loc, k => by
    show tstK C t ns loc (evK C t ns loc) (fun c => if c = true then exsK C a ns loc k else exsK C b ns loc k) = ((tst C t ns loc (ev C t ns loc) >>= fun c => if c = true then exs C a ns loc else exs C b ns loc) >>= k)
    rw [(k_ok C _).tst, M.assoc]
    refine M.bind_congr fun c => ?_
    rw [M.ite_bind, exsK_ok C a, exsK_ok C b]
  | .For t it body els p, α, ns, loc, k => by
    cases els with
    | nil =>
      show srcK C it ns loc (evK C it ns loc) (fun s => forAll C t body s ns loc >>= k) = ((src C it ns loc (ev C it ns loc) >>= fun s => forAll C t body s ns loc) >>= k)
      rw [(k_ok C _).src, M.assoc]
    | cons _ _ => rfl
  | .FunctionDef .., α, ns, loc, k => rfl
  | .AsyncFunctionDef .., α, ns, loc, k => rfl
  | .ClassDef .., α, ns, loc, k => rfl
  | .Delete .., α, ns, loc, k => rfl
  | .TypeAlias .., α, ns, loc, k => rfl
  | .AugAssign .., α, ns, loc, k => rfl
  | .AnnAssign .., α, ns, loc, k => rfl
  | .AsyncFor .., α, ns, loc, k => rfl
  | .While .., α, ns, loc, k => rfl
  | .With .., α, ns, loc, k => rfl
  | .AsyncWith .., α, ns, loc, k => rfl
  | .Match .., α, ns, loc, k => rfl
  | .Raise .., α, ns, loc, k => rfl
  | .Try .., α, ns, loc, k => rfl
  | .TryStar .., α, ns, loc, k => rfl
  | .Assert .., α, ns, loc, k => rfl
  | .Import .., α, ns, loc, k => rfl
  | .ImportFrom .., α, ns, loc, k => rfl
  | .Global .., α, ns, loc, k => rfl
  | .Nonlocal .., α, ns, loc, k => rfl
  | .Break .., α, ns, loc, k => rfl
  | .Continue .., α, ns, loc, k => rfl
theorem exsK_ok (C : Cfg) : ∀ (sts : List Stmt) (α : Type) (ns : Names) (loc : Loc) (k : Fl × Loc → M α), exsK C sts ns loc k = (exs C sts ns loc >>= k)
  | [], α, ns, loc, k => rfl
  | st :: r, α, ns, loc, k => by
    show exK C st ns loc (flK k fun loc' => exsK C r ns loc' k) = ((ex C st ns loc >>= fun x => andThen x (exs C r ns)) >>= k)
    rw [exK_ok C st, M.assoc]
    refine M.bind_congr fun x => ?_
    obtain ⟨fl, loc'⟩ := x
    cases fl with
    | next => exact exsK_ok C r α ns loc' k
    | brk => rfl
    | cont => rfl
    | ret v => rfl
end

def retK (r : Fl × Loc) : M V := pure (match r.1 with | .ret v => v | _ => .none)
theorem callFn_K (C : Cfg) (f : Fn) (args : List V) : callFn C f args = if args.length = f.params.length then exsK C f.body f.names (initLoc f.params args f.names) retK else M.bad := by
  unfold callFn
  rw [exsK_ok]; rfl
theorem M.bind_pure {α : Type} (m : M α) : (m >>= fun a => (Pure.pure a : M α)) = m := by
  funext σ
  cases e : m σ with
  | bad => rw [bind_bad e]
  | exc _ _ => rw [bind_exc e]
  | ok a σ' => rw [bind_ok e]; rfl
theorem exs_K (C : Cfg) (sts : List Stmt) (ns : Names) (loc : Loc) : exs C sts ns loc = exsK C sts ns loc fun x => pure x := by rw [exsK_ok, M.bind_pure]
theorem ev_K (C : Cfg) (e : Expr) (ns : Names) (loc : Loc) : ev C e ns loc = evK C e ns loc fun x => pure x := by rw [(k_ok C e).ev, M.bind_pure]
theorem tests_K (C : Cfg) (e : Expr) (ns : Names) (loc : Loc) : tests C [e] ns loc = tstK C e ns loc (evK C e ns loc) fun x => pure x := by rw [(k_ok C e).tst, M.bind_pure]; rfl

/-! ## ways into a text -/
def nthS (l : List Stmt) (i : Nat) : Stmt := (l[i]?).getD (.Pass ⟨0, 0, 0, 0⟩)
def noE : Expr := .Constant .none 0 ⟨0, 0, 0, 0⟩
def nthE (l : List Expr) (i : Nat) : Expr := (l[i]?).getD noE
def sVal : Stmt → Expr
  | .Assign _ v _ => v
  | .Return (some v) _ => v
  | .Expr v _ => v
  | .For _ i _ _ _ => i
  | .If t _ _ _ => t
  | _ => noE
def sTgt : Stmt → Expr
  | .For t _ _ _ _ => t
  | .Assign ts _ _ => nthE ts 0
  | _ => noE
def sBody : Stmt → List Stmt
  | .For _ _ b _ _ => b
  | .If _ b _ _ => b
  | _ => []
def sElse : Stmt → List Stmt
  | .If _ _ b _ => b
  | _ => []
/-- the parts of an expression, in order -/
def ePart (e : Expr) (i : Nat) : Expr := match e with
  | .BoolOp _ vs _ => nthE vs i
  | .BinOp l _ r _ => nthE [l, r] i
  | .UnaryOp _ x _ => x
  | .IfExp t a b _ => nthE [t, a, b] i
  | .Compare l _ rs _ => nthE (l :: rs) i
  | .Call f as _ _ => nthE (f :: as) i
  | .Attribute o _ _ => o
  | .Subscript o j _ => nthE [o, j] i
  | .Slice lo hi st _ => nthE [lo.getD noE, hi.getD noE, st.getD noE] i
  | .List es _ => nthE es i
  | .Tuple es _ _ => nthE es i
  | .ListComp elt gs _ _ => nthE (elt :: gs.flatMap fun g => g.iter :: g.target :: g.ifs) i
  | _ => noE
def cElt (e : Expr) : Expr := ePart e 0
def cIter (e : Expr) : Expr := ePart e 1
def cTgt (e : Expr) : Expr := ePart e 2
def cIfs : Expr → List Expr
  | .ListComp _ [g] _ _ => g.ifs
  | _ => []
def cScope : Expr → Scope
  | .ListComp _ _ s _ => s
  | _ => default
end Mine

namespace Mine
open PySem PyProof.Rows

/-! ## the law's own functions, in plain form (printed by gen.py) -/
def tab01 : List (Str × Fn) := defsV PySem.Challenge.pw_uf010004_01
def cl01 (d : Nat) (f : Str) (as : List V) : M V := callN (fnsT tab01) (fun _ => none) d f as
def cf01 (d : Nat) : Cfg := cfgN (fnsT tab01) (fun _ => none) d
theorem cl01_succ {f : Str} {fn : Fn} (h : fnsT tab01 f = some fn) (d : Nat) (as : List V) : cl01 (d + 1) f as = callFn (cf01 d) fn as := by
  show callN _ _ (d + 1) f as = _
  unfold callN
  rw [h]; rfl

def P_parts_of_F : Fn := (fnsT tab01 "parts_of").getD ⟨[], [], []⟩
theorem P_parts_of_K : fnsT tab01 "parts_of" = some P_parts_of_F := by kernel_rfl
def P_parts_of_t5 (d : Nat) (v_body : V) (v_word : V) : M V := (newO (.list []) >>= fun t2 => (pure t2 : M V))
def P_parts_of_t4 (d : Nat) (v_body : V) (v_word : V) : M V := (cmp .Eq v_word (V.str (Str.ofString "call")) >>= fun t3 => (truth t3 >>= fun b4 => (if b4 = true then (item v_body (V.int 2) >>= fun t5 => (bList t5 >>= fun t6 => (pure t6 : M V))) else (P_parts_of_t5 d v_body v_word))))
def P_parts_of_t3 (d : Nat) (v_body : V) (v_word : V) : M V := (cmp .Eq v_word (V.str (Str.ofString "sum")) >>= fun t7 => (truth t7 >>= fun b8 => (cond b8 (bound (V.int 1) >>= fun i15 => bound V.none >>= fun i16 => sliceV i15 i16 v_body >>= fun t17 => (bList t17 >>= fun t18 => (pure t18 : M V))) (cmp .Eq v_word (V.str (Str.ofString "if")) >>= fun t9 => (truth t9 >>= fun b10 => (cond b10 (bound (V.int 1) >>= fun i11 => bound V.none >>= fun i12 => sliceV i11 i12 v_body >>= fun t13 => (bList t13 >>= fun t14 => (pure t14 : M V))) (P_parts_of_t4 d v_body v_word)))))))
def P_parts_of_t2 (d : Nat) (v_body : V) (v_word : V) : M V := (cmp .Eq v_word (V.str (Str.ofString "put")) >>= fun t19 => (truth t19 >>= fun b20 => (if b20 = true then (item v_body (V.int 1) >>= fun t21 => (item v_body (V.int 3) >>= fun t22 => (newO (.list [t21, t22]) >>= fun t23 => (pure t23 : M V)))) else (P_parts_of_t3 d v_body v_word))))
def P_parts_of_t1 (d : Nat) (v_body : V) (v_word : V) : M V := (cmp .Eq v_word (V.str (Str.ofString "get")) >>= fun t24 => (truth t24 >>= fun b25 => (if b25 = true then (item v_body (V.int 1) >>= fun t26 => (newO (.list [t26]) >>= fun t27 => (pure t27 : M V))) else (P_parts_of_t2 d v_body v_word))))
def P_parts_of_c1 : Expr := (sVal (nthS (sBody (nthS P_parts_of_F.body 1)) 0))
theorem P_parts_of_c1_in (v_body : V) (v_word : V) : innerLoc P_parts_of_F.names [some v_body, some v_word, none] (cScope P_parts_of_c1).names = pure [none, none, none] := by kernel_rfl
theorem P_parts_of_c1_bind (o_labelx : Option V) (o_partx : Option V) (v_labelx : V) (v_partx : V) : bindTo (stLocL (relab P_parts_of_F.names (cScope P_parts_of_c1).names)) (cTgt P_parts_of_c1) (.tup [v_labelx, v_partx]) [none, o_labelx, o_partx] = pure [none, some v_labelx, some v_partx] := by kernel_rfl
theorem P_parts_of_c1_elt (d : Nat) (v_labelx : V) (v_partx : V) : ev (cf01 d) (cElt P_parts_of_c1) (relab P_parts_of_F.names (cScope P_parts_of_c1).names) [none, some v_labelx, some v_partx] = (pure v_partx : M V) := by rw [ev_K]; kernel_rfl
theorem P_parts_of_c1_tst (d : Nat) (loc : Loc) : tests (cf01 d) (cIfs P_parts_of_c1) (relab P_parts_of_F.names (cScope P_parts_of_c1).names) loc = (pure true : M Bool) := by kernel_rfl
theorem P_parts_of_c1_ok : compOk (cScope P_parts_of_c1).kind (cScope P_parts_of_c1).names = true := by kernel_rfl
theorem P_parts_of_sh (d : Nat) (v_body : V) : cl01 (d + 1) "parts_of" [v_body] = (item v_body (V.int 0) >>= fun t1 => (cmp .Eq t1 (V.str (Str.ofString "make")) >>= fun t28 => (truth t28 >>= fun b29 => (if b29 = true then (item v_body (V.int 1) >>= fun t31 => (srcV t31 >>= fun s32 => (compAll (cf01 d) (cElt P_parts_of_c1) (cTgt P_parts_of_c1) (cIfs P_parts_of_c1) (cScope P_parts_of_c1) s32 P_parts_of_F.names [some v_body, some t1, none] >>= fun t30 => (pure t30 : M V)))) else (P_parts_of_t1 d v_body t1))))) := by
  rw [cl01_succ P_parts_of_K, callFn_K]; kernel_rfl

def P_places_of_F : Fn := (fnsT tab01 "places_of").getD ⟨[], [], []⟩
theorem P_places_of_K : fnsT tab01 "places_of" = some P_places_of_F := by kernel_rfl
def P_places_of_l1 : Stmt := (nthS P_places_of_F.body 1)
def P_places_of_c1 : Expr := (ePart (sVal (nthS (sBody P_places_of_l1) 0)) 1)
theorem P_places_of_c1_in (v_body : V) (v_found : V) (v_number : V) (v_part : V) : innerLoc P_places_of_F.names [some v_body, some v_found, some v_number, some v_part, none, none, none] (cScope P_places_of_c1).names = pure [none, none, some v_number] := by kernel_rfl
theorem P_places_of_c1_bind (v_number : V) (o_placex : Option V) (v_placex : V) : bindTo (stLocL (relab P_places_of_F.names (cScope P_places_of_c1).names)) (cTgt P_places_of_c1) v_placex [none, o_placex, some v_number] = pure [none, some v_placex, some v_number] := by kernel_rfl
theorem P_places_of_c1_elt (d : Nat) (v_number : V) (v_placex : V) : ev (cf01 d) (cElt P_places_of_c1) (relab P_places_of_F.names (cScope P_places_of_c1).names) [none, some v_placex, some v_number] = (binop .Add (V.tup [v_number]) v_placex >>= fun t34 => (pure t34 : M V)) := by rw [ev_K]; kernel_rfl
theorem P_places_of_c1_tst (d : Nat) (loc : Loc) : tests (cf01 d) (cIfs P_places_of_c1) (relab P_places_of_F.names (cScope P_places_of_c1).names) loc = (pure true : M Bool) := by kernel_rfl
theorem P_places_of_c1_ok : compOk (cScope P_places_of_c1).kind (cScope P_places_of_c1).names = true := by kernel_rfl
theorem P_places_of_l1_step (d : Nat) (v_numberx : V) (v_partx : V) (v_body : V) (v_found : V) (o_part : Option V) (o_number : Option V) : (bindTo (stLoc P_places_of_F.names) (sTgt P_places_of_l1) (.tup [v_numberx, v_partx]) [some v_body, some v_found, o_number, o_part, none, none, none] >>= exs (cf01 d) (sBody P_places_of_l1) P_places_of_F.names) = (cl01 d "places_of" [v_partx] >>= fun t36 => (srcV t36 >>= fun s37 => (compAll (cf01 d) (cElt P_places_of_c1) (cTgt P_places_of_c1) (cIfs P_places_of_c1) (cScope P_places_of_c1) s37 P_places_of_F.names [some v_body, some v_found, some v_numberx, some v_partx, none, none, none] >>= fun t35 => (binop .Add v_found t35 >>= fun t38 => (pure (Fl.next, [some v_body, some t38, some v_numberx, some v_partx, none, none, none]) : M (Fl × Loc)))))) := by
  refine Eq.trans (show _ = exs (cf01 d) (sBody P_places_of_l1) P_places_of_F.names [some v_body, some v_found, some v_numberx, some v_partx, none, none, none] from by kernel_rfl) ?_
  rw [exs_K]; kernel_rfl
def P_places_of_a1 (d : Nat) (loc : Loc) : M V := exsK (cf01 d) (List.drop 2 P_places_of_F.body) P_places_of_F.names loc retK
theorem P_places_of_a1_eq (d : Nat) (v_body : V) (v_found : V) (o_part : Option V) (o_number : Option V) : P_places_of_a1 d [some v_body, some v_found, o_number, o_part, none, none, none] = (newO (.list [(V.tup [])]) >>= fun t39 => (binop .Add v_found t39 >>= fun t40 => (pure t40 : M V))) := by kernel_rfl
theorem P_places_of_sh (d : Nat) (v_body : V) : cl01 (d + 1) "places_of" [v_body] = (newO (.list []) >>= fun t33 => (cl01 d "parts_of" [v_body] >>= fun t41 => (enumOf t41 >>= fun s42 => (forAll (cf01 d) (sTgt P_places_of_l1) (sBody P_places_of_l1) s42 P_places_of_F.names [some v_body, some t33, none, none, none, none, none] >>= flK retK (P_places_of_a1 d))))) := by
  rw [cl01_succ P_places_of_K, callFn_K]; kernel_rfl

def P_at_place_F : Fn := (fnsT tab01 "at_place").getD ⟨[], [], []⟩
theorem P_at_place_K : fnsT tab01 "at_place" = some P_at_place_F := by kernel_rfl
def P_at_place_l1 : Stmt := (nthS P_at_place_F.body 0)
theorem P_at_place_l1_step (d : Nat) (v_numberx : V) (v_body : V) (v_place : V) (o_number : Option V) : (bindTo (stLoc P_at_place_F.names) (sTgt P_at_place_l1) v_numberx [some v_body, some v_place, o_number, none] >>= exs (cf01 d) (sBody P_at_place_l1) P_at_place_F.names) = (cl01 d "parts_of" [v_body] >>= fun t43 => (item t43 v_numberx >>= fun t44 => (pure (Fl.next, [some t44, some v_place, some v_numberx, none]) : M (Fl × Loc)))) := by
  refine Eq.trans (show _ = exs (cf01 d) (sBody P_at_place_l1) P_at_place_F.names [some v_body, some v_place, some v_numberx, none] from by kernel_rfl) ?_
  rw [exs_K]; kernel_rfl
def P_at_place_a1 (d : Nat) (loc : Loc) : M V := exsK (cf01 d) (List.drop 1 P_at_place_F.body) P_at_place_F.names loc retK
theorem P_at_place_a1_eq (d : Nat) (v_body : V) (v_place : V) (o_number : Option V) : P_at_place_a1 d [some v_body, some v_place, o_number, none] = (pure v_body : M V) := by kernel_rfl
theorem P_at_place_sh (d : Nat) (v_body : V) (v_place : V) : cl01 (d + 1) "at_place" [v_body, v_place] = (srcV v_place >>= fun s45 => (forAll (cf01 d) (sTgt P_at_place_l1) (sBody P_at_place_l1) s45 P_at_place_F.names [some v_body, some v_place, none, none] >>= flK retK (P_at_place_a1 d))) := by
  rw [cl01_succ P_at_place_K, callFn_K]; kernel_rfl

def L_cell_F : Fn := (fnsT tab01 "_law_cell").getD ⟨[], [], []⟩
theorem L_cell_K : fnsT tab01 "_law_cell" = some L_cell_F := by kernel_rfl
def L_cell_t1 (d : Nat) (v_script : V) (v_k : V) : M V := (pure (V.int 0) : M V)
theorem L_cell_sh (d : Nat) (v_script : V) (v_k : V) : cl01 (d + 1) "_law_cell" [v_script, v_k] = (bLen v_script >>= fun t46 => (cmp .Lt v_k t46 >>= fun t47 => (truth t47 >>= fun b48 => (if b48 = true then (item v_script v_k >>= fun t49 => (binop .Mult t49 (V.int 48271) >>= fun t50 => (binop .Mod t50 (V.int 2147483647) >>= fun t51 => (pure t51 : M V)))) else (L_cell_t1 d v_script v_k))))) := by
  rw [cl01_succ L_cell_K, callFn_K]; kernel_rfl

def L_next_F : Fn := (fnsT tab01 "_law_next").getD ⟨[], [], []⟩
theorem L_next_K : fnsT tab01 "_law_next" = some L_next_F := by kernel_rfl
theorem L_next_sh (d : Nat) (v_state : V) : cl01 (d + 1) "_law_next" [v_state] = (item v_state (V.int 0) >>= fun t52 => (binop .Mult t52 (V.int 48271) >>= fun t53 => (binop .Add t53 (V.int 11) >>= fun t54 => (binop .Mod t54 (V.int 2147483647) >>= fun t55 => (setItem v_state (V.int 0) t55 >>= fun _ => (item v_state (V.int 1) >>= fun t56 => (binop .Sub t56 (V.int 1) >>= fun t57 => (setItem v_state (V.int 1) t57 >>= fun _ => (item v_state (V.int 0) >>= fun t58 => (binop .FloorDiv t58 (V.int 7) >>= fun t59 => (pure t59 : M V))))))))))) := by
  rw [cl01_succ L_next_K, callFn_K]; kernel_rfl

def L_labels_F : Fn := (fnsT tab01 "_law_labels").getD ⟨[], [], []⟩
theorem L_labels_K : fnsT tab01 "_law_labels" = some L_labels_F := by kernel_rfl
def L_labels_c1 : Expr := (ePart (sVal (nthS L_labels_F.body 4)) 1)
theorem L_labels_c1_in (v_cell_here : V) (v_many : V) (v_signs : V) (v_size : V) (v_at : V) (v_step : V) : innerLoc L_labels_F.names [some v_cell_here, some v_many, some v_signs, some v_size, some v_at, some v_step, none, none, none, none, none] (cScope L_labels_c1).names = pure [none, none, some v_cell_here, some v_signs, some v_step] := by kernel_rfl
theorem L_labels_c1_bind (v_cell_here : V) (v_signs : V) (v_step : V) (o_kx : Option V) (v_kx : V) : bindTo (stLocL (relab L_labels_F.names (cScope L_labels_c1).names)) (cTgt L_labels_c1) v_kx [none, o_kx, some v_cell_here, some v_signs, some v_step] = pure [none, some v_kx, some v_cell_here, some v_signs, some v_step] := by kernel_rfl
theorem L_labels_c1_elt (d : Nat) (v_cell_here : V) (v_signs : V) (v_step : V) (v_kx : V) : ev (cf01 d) (cElt L_labels_c1) (relab L_labels_F.names (cScope L_labels_c1).names) [none, some v_kx, some v_cell_here, some v_signs, some v_step] = (binop .FloorDiv v_cell_here (V.int 1274) >>= fun t67 => (binop .Mult t67 v_kx >>= fun t68 => (binop .Add v_step t68 >>= fun t69 => (binop .Mod t69 (V.int 26) >>= fun t70 => (item v_signs t70 >>= fun t71 => (pure t71 : M V)))))) := by rw [ev_K]; kernel_rfl
theorem L_labels_c1_tst (d : Nat) (loc : Loc) : tests (cf01 d) (cIfs L_labels_c1) (relab L_labels_F.names (cScope L_labels_c1).names) loc = (pure true : M Bool) := by kernel_rfl
theorem L_labels_c1_ok : compOk (cScope L_labels_c1).kind (cScope L_labels_c1).names = true := by kernel_rfl
def L_labels_l1 : Stmt := (nthS L_labels_F.body 6)
theorem L_labels_l1_step (d : Nat) (v_kx : V) (v_cell_here : V) (v_many : V) (v_signs : V) (v_size : V) (v_at : V) (v_step : V) (v_base : V) (v_found : V) (o_k : Option V) (o_sign : Option V) : (bindTo (stLoc L_labels_F.names) (sTgt L_labels_l1) v_kx [some v_cell_here, some v_many, some v_signs, some v_size, some v_at, some v_step, o_k, some v_base, some v_found, o_sign, none] >>= exs (cf01 d) (sBody L_labels_l1) L_labels_F.names) = (binop .FloorDiv v_cell_here (V.int 49) >>= fun t76 => (binop .Mult (V.int 3) v_kx >>= fun t77 => (binop .Add t76 t77 >>= fun t78 => (binop .Mod t78 (V.int 26) >>= fun t79 => (item v_signs t79 >>= fun t80 => (askS (mtag v_found "append") >>= fun g81 => (bound V.none >>= fun i82 => bound v_at >>= fun i83 => sliceV i82 i83 v_base >>= fun t84 => (binop .Add t84 t80 >>= fun t85 => (bound v_at >>= fun i86 => bound V.none >>= fun i87 => sliceV i86 i87 v_base >>= fun t88 => (binop .Add t85 t88 >>= fun t89 => (runM g81 v_found [t89] >>= fun t90 => (pure (Fl.next, [some v_cell_here, some v_many, some v_signs, some v_size, some v_at, some v_step, some v_kx, some v_base, some v_found, some t80, none]) : M (Fl × Loc))))))))))))) := by
  refine Eq.trans (show _ = exs (cf01 d) (sBody L_labels_l1) L_labels_F.names [some v_cell_here, some v_many, some v_signs, some v_size, some v_at, some v_step, some v_kx, some v_base, some v_found, o_sign, none] from by kernel_rfl) ?_
  rw [exs_K]; kernel_rfl
def L_labels_a1 (d : Nat) (loc : Loc) : M V := exsK (cf01 d) (List.drop 7 L_labels_F.body) L_labels_F.names loc retK
theorem L_labels_a1_eq (d : Nat) (v_cell_here : V) (v_many : V) (v_signs : V) (v_size : V) (v_at : V) (v_step : V) (v_base : V) (v_found : V) (o_k : Option V) (o_sign : Option V) : L_labels_a1 d [some v_cell_here, some v_many, some v_signs, some v_size, some v_at, some v_step, o_k, some v_base, some v_found, o_sign, none] = (pure v_found : M V) := by kernel_rfl
theorem L_labels_sh (d : Nat) (v_cell_here : V) (v_many : V) : cl01 (d + 1) "_law_labels" [v_cell_here, v_many] = (binop .Mod v_cell_here (V.int 7) >>= fun t60 => (binop .FloorDiv v_cell_here (V.int 7) >>= fun t61 => (binop .Add t60 (V.int 1) >>= fun t62 => (binop .Mod t61 t62 >>= fun t63 => (binop .FloorDiv v_cell_here (V.int 49) >>= fun t64 => (binop .Mod t64 (V.int 26) >>= fun t65 => (askS (mtag (V.str (Str.ofString "")) "join") >>= fun g66 => (rangeOf t60 >>= fun s73 => (compAll (cf01 d) (cElt L_labels_c1) (cTgt L_labels_c1) (cIfs L_labels_c1) (cScope L_labels_c1) s73 L_labels_F.names [some v_cell_here, some v_many, some (V.str (Str.ofString "abcdefghijklmnopqrstuvwxyz")), some t60, some t63, some t65, none, none, none, none, none] >>= fun t72 => (runM g66 (V.str (Str.ofString "")) [t72] >>= fun t74 => (newO (.list []) >>= fun t75 => (rangeOf v_many >>= fun s91 => (forAll (cf01 d) (sTgt L_labels_l1) (sBody L_labels_l1) s91 L_labels_F.names [some v_cell_here, some v_many, some (V.str (Str.ofString "abcdefghijklmnopqrstuvwxyz")), some t60, some t63, some t65, none, some t74, some t75, none, none] >>= flK retK (L_labels_a1 d)))))))))))))) := by
  rw [cl01_succ L_labels_K, callFn_K]; kernel_rfl

def L_leaf_F : Fn := (fnsT tab01 "_law_leaf").getD ⟨[], [], []⟩
theorem L_leaf_K : fnsT tab01 "_law_leaf" = some L_leaf_F := by kernel_rfl
def L_leaf_t1 (d : Nat) (v_number : V) (v_many : V) : M V := (binop .FloorDiv v_number (V.int 4) >>= fun t92 => (binop .Pow (V.int 10) (V.int 12) >>= fun t93 => (binop .Mult (V.int 2) t93 >>= fun t94 => (binop .Add t94 (V.int 1) >>= fun t95 => (binop .Mod t92 t95 >>= fun t96 => (binop .Pow (V.int 10) (V.int 12) >>= fun t97 => (binop .Sub t96 t97 >>= fun t98 => (newO (.list [(V.int 0), (V.int 1), (V.int (-1)), t98]) >>= fun t99 => (binop .Mod v_number (V.int 4) >>= fun t100 => (item t99 t100 >>= fun t101 => (pure (V.tup [(V.str (Str.ofString "number")), t101]) : M V)))))))))))
theorem L_leaf_sh (d : Nat) (v_number : V) (v_many : V) : cl01 (d + 1) "_law_leaf" [v_number, v_many] = (cmp .Gt v_many (V.int 0) >>= fun t102 => (truth t102 >>= fun b103 => (cond b103 (binop .Mod v_number (V.int 3) >>= fun t104 => (cmp .Gt t104 (V.int 0) >>= fun t105 => (truth t105 >>= fun b106 => (cond b106 (binop .FloorDiv v_number (V.int 3) >>= fun t107 => (binop .Mod t107 v_many >>= fun t108 => (pure (V.tup [(V.str (Str.ofString "input")), t108]) : M V))) (L_leaf_t1 d v_number v_many))))) (L_leaf_t1 d v_number v_many)))) := by
  rw [cl01_succ L_leaf_K, callFn_K]; kernel_rfl

def L_fields_F : Fn := (fnsT tab01 "_law_fields").getD ⟨[], [], []⟩
theorem L_fields_K : fnsT tab01 "_law_fields" = some L_fields_F := by kernel_rfl
def L_fields_l1 : Stmt := (nthS L_fields_F.body 2)
def L_fields_c1 : Expr := (ePart (sVal (nthS (sBody L_fields_l1) 2)) 1)
theorem L_fields_c1_in (v_state : V) (v_many : V) (v_known : V) (v_labels_here : V) (v_left : V) (v_number : V) (v_found : V) (v_k : V) (v_step : V) (v_label : V) : innerLoc L_fields_F.names [some v_state, some v_many, some v_known, some v_labels_here, some v_left, some v_number, some v_found, some v_k, some v_step, some v_label, none, none, none, none, none] (cScope L_fields_c1).names = pure [none, none] := by kernel_rfl
theorem L_fields_c1_bind (o_pairx : Option V) (v_pairx : V) : bindTo (stLocL (relab L_fields_F.names (cScope L_fields_c1).names)) (cTgt L_fields_c1) v_pairx [none, o_pairx] = pure [none, some v_pairx] := by kernel_rfl
theorem L_fields_c1_elt (d : Nat) (v_pairx : V) : ev (cf01 d) (cElt L_fields_c1) (relab L_fields_F.names (cScope L_fields_c1).names) [none, some v_pairx] = (item v_pairx (V.int 0) >>= fun t121 => (pure t121 : M V)) := by rw [ev_K]; kernel_rfl
theorem L_fields_c1_tst (d : Nat) (loc : Loc) : tests (cf01 d) (cIfs L_fields_c1) (relab L_fields_F.names (cScope L_fields_c1).names) loc = (pure true : M Bool) := by kernel_rfl
theorem L_fields_c1_ok : compOk (cScope L_fields_c1).kind (cScope L_fields_c1).names = true := by kernel_rfl
theorem L_fields_l1_step (d : Nat) (v_kx : V) (v_state : V) (v_many : V) (v_known : V) (v_labels_here : V) (v_left : V) (v_number : V) (v_found : V) (o_label : Option V) (o_k : Option V) (o_step : Option V) : (bindTo (stLoc L_fields_F.names) (sTgt L_fields_l1) v_kx [some v_state, some v_many, some v_known, some v_labels_here, some v_left, some v_number, some v_found, o_k, o_step, o_label, none, none, none, none, none] >>= exs (cf01 d) (sBody L_fields_l1) L_fields_F.names) = (binop .FloorDiv v_number (V.int 16) >>= fun t111 => (binop .Mod t111 (V.int 2) >>= fun t112 => (binop .Mult (V.int 2) t112 >>= fun t113 => (binop .Add (V.int 1) t113 >>= fun t114 => (binop .FloorDiv v_number (V.int 4) >>= fun t115 => (binop .Mult v_kx t114 >>= fun t116 => (binop .Add t115 t116 >>= fun t117 => (bLen v_labels_here >>= fun t118 => (binop .Mod t117 t118 >>= fun t119 => (item v_labels_here t119 >>= fun t120 => (srcV v_found >>= fun s123 => (compAll (cf01 d) (cElt L_fields_c1) (cTgt L_fields_c1) (cIfs L_fields_c1) (cScope L_fields_c1) s123 L_fields_F.names [some v_state, some v_many, some v_known, some v_labels_here, some v_left, some v_number, some v_found, some v_kx, some t114, some t120, none, none, none, none, none] >>= fun t122 => (cmp .NotIn t120 t122 >>= fun t124 => (truth t124 >>= fun b125 => (if b125 = true then (askS (mtag v_found "append") >>= fun g126 => (cl01 d "_law_body" [v_state, v_many, v_known, v_labels_here, v_left] >>= fun t127 => (runM g126 v_found [(V.tup [t120, t127])] >>= fun t128 => (pure (Fl.next, [some v_state, some v_many, some v_known, some v_labels_here, some v_left, some v_number, some v_found, some v_kx, some t114, some t120, none, none, none, none, none]) : M (Fl × Loc))))) else (pure (Fl.next, [some v_state, some v_many, some v_known, some v_labels_here, some v_left, some v_number, some v_found, some v_kx, some t114, some t120, none, none, none, none, none]) : M (Fl × Loc))))))))))))))))) := by
  refine Eq.trans (show _ = exs (cf01 d) (sBody L_fields_l1) L_fields_F.names [some v_state, some v_many, some v_known, some v_labels_here, some v_left, some v_number, some v_found, some v_kx, o_step, o_label, none, none, none, none, none] from by kernel_rfl) ?_
  rw [exs_K]; kernel_rfl
def L_fields_a1 (d : Nat) (loc : Loc) : M V := exsK (cf01 d) (List.drop 3 L_fields_F.body) L_fields_F.names loc retK
theorem L_fields_a1_eq (d : Nat) (v_state : V) (v_many : V) (v_known : V) (v_labels_here : V) (v_left : V) (v_number : V) (v_found : V) (o_label : Option V) (o_k : Option V) (o_step : Option V) : L_fields_a1 d [some v_state, some v_many, some v_known, some v_labels_here, some v_left, some v_number, some v_found, o_k, o_step, o_label, none, none, none, none, none] = (bTuple v_found >>= fun t129 => (pure t129 : M V)) := by kernel_rfl
theorem L_fields_sh (d : Nat) (v_state : V) (v_many : V) (v_known : V) (v_labels_here : V) (v_left : V) : cl01 (d + 1) "_law_fields" [v_state, v_many, v_known, v_labels_here, v_left] = (cl01 d "_law_next" [v_state] >>= fun t109 => (newO (.list []) >>= fun t110 => (binop .Mod t109 (V.int 4) >>= fun t130 => (rangeOf t130 >>= fun s131 => (forAll (cf01 d) (sTgt L_fields_l1) (sBody L_fields_l1) s131 L_fields_F.names [some v_state, some v_many, some v_known, some v_labels_here, some v_left, some t109, some t110, none, none, none, none, none, none, none, none] >>= flK retK (L_fields_a1 d)))))) := by
  rw [cl01_succ L_fields_K, callFn_K]; kernel_rfl

def L_body_F : Fn := (fnsT tab01 "_law_body").getD ⟨[], [], []⟩
theorem L_body_K : fnsT tab01 "_law_body" = some L_body_F := by kernel_rfl
def L_body_t6 (d : Nat) (v_state : V) (v_many : V) (v_known : V) (v_labels_here : V) (v_left : V) (v_number : V) (v_way : V) (v_more : V) (v_label : V) (o_name : Option V) (o_size : Option V) (o_kids_here : Option V) (v_first : V) (v_second : V) : M V := (binop .Sub v_left (V.int 1) >>= fun t142 => (cl01 d "_law_body" [v_state, v_many, v_known, v_labels_here, t142] >>= fun t143 => (pure (V.tup [(V.str (Str.ofString "if")), v_first, v_second, t143]) : M V)))
def L_body_t5 (d : Nat) (v_state : V) (v_many : V) (v_known : V) (v_labels_here : V) (v_left : V) (v_number : V) (v_way : V) (v_more : V) (v_label : V) (o_name : Option V) (o_size : Option V) (o_kids_here : Option V) (o_first : Option V) : M V := (binop .Sub v_left (V.int 1) >>= fun t138 => (cl01 d "_law_body" [v_state, v_many, v_known, v_labels_here, t138] >>= fun t139 => (binop .Sub v_left (V.int 1) >>= fun t140 => (cl01 d "_law_body" [v_state, v_many, v_known, v_labels_here, t140] >>= fun t141 => (cmp .Eq v_way (V.int 9) >>= fun t144 => (truth t144 >>= fun b145 => (if b145 = true then (pure (V.tup [(V.str (Str.ofString "sum")), t139, t141]) : M V) else (L_body_t6 d v_state v_many v_known v_labels_here v_left v_number v_way v_more v_label o_name o_size o_kids_here t139 t141))))))))
def L_body_t4 (d : Nat) (v_state : V) (v_many : V) (v_known : V) (v_labels_here : V) (v_left : V) (v_number : V) (v_way : V) (v_more : V) (v_label : V) (o_name : Option V) (o_size : Option V) (o_kids_here : Option V) (o_first : Option V) : M V := (cmp .Lt v_way (V.int 9) >>= fun t146 => (truth t146 >>= fun b147 => (if b147 = true then (binop .Sub v_left (V.int 1) >>= fun t148 => (cl01 d "_law_fields" [v_state, v_many, v_known, v_labels_here, t148] >>= fun t149 => (pure (V.tup [(V.str (Str.ofString "make")), t149]) : M V))) else (L_body_t5 d v_state v_many v_known v_labels_here v_left v_number v_way v_more v_label o_name o_size o_kids_here o_first))))
def L_body_t3 (d : Nat) (v_state : V) (v_many : V) (v_known : V) (v_labels_here : V) (v_left : V) (v_number : V) (v_way : V) (v_more : V) (v_label : V) (o_name : Option V) (o_size : Option V) (o_kids_here : Option V) : M V := (cmp .Lt v_way (V.int 7) >>= fun t150 => (truth t150 >>= fun b151 => (if b151 = true then (binop .Sub v_left (V.int 1) >>= fun t152 => (cl01 d "_law_body" [v_state, v_many, v_known, v_labels_here, t152] >>= fun t153 => (binop .Sub v_left (V.int 1) >>= fun t154 => (cl01 d "_law_body" [v_state, v_many, v_known, v_labels_here, t154] >>= fun t155 => (pure (V.tup [(V.str (Str.ofString "put")), t153, v_label, t155]) : M V))))) else (L_body_t4 d v_state v_many v_known v_labels_here v_left v_number v_way v_more v_label o_name o_size o_kids_here none))))
def L_body_t2 (d : Nat) (v_state : V) (v_many : V) (v_known : V) (v_labels_here : V) (v_left : V) (v_number : V) (v_way : V) (v_more : V) (v_label : V) (o_name : Option V) (o_size : Option V) (o_kids_here : Option V) : M V := (cmp .Lt v_way (V.int 5) >>= fun t156 => (truth t156 >>= fun b157 => (cond b157 (binop .Sub v_left (V.int 1) >>= fun t162 => (cl01 d "_law_body" [v_state, v_many, v_known, v_labels_here, t162] >>= fun t163 => (pure (V.tup [(V.str (Str.ofString "get")), t163, v_label]) : M V))) (cmp .Gt v_way (V.int 11) >>= fun t158 => (truth t158 >>= fun b159 => (cond b159 (binop .Sub v_left (V.int 1) >>= fun t160 => (cl01 d "_law_body" [v_state, v_many, v_known, v_labels_here, t160] >>= fun t161 => (pure (V.tup [(V.str (Str.ofString "get")), t161, v_label]) : M V))) (L_body_t3 d v_state v_many v_known v_labels_here v_left v_number v_way v_more v_label o_name o_size o_kids_here)))))))
def L_body_a1 (d : Nat) (loc : Loc) : M V := exsK (cf01 d) (List.drop 1 (sBody (nthS L_body_F.body 5))) L_body_F.names loc (flK retK (fun loc' => exsK (cf01 d) (List.drop 6 L_body_F.body) L_body_F.names loc' retK))
def L_body_c1 : Expr := (sVal (nthS (sBody (nthS L_body_F.body 5)) 1))
theorem L_body_c1_in (v_state : V) (v_many : V) (v_known : V) (v_labels_here : V) (v_left : V) (v_number : V) (v_way : V) (v_more : V) (v_label : V) (o_name : Option V) (o_size : Option V) : innerLoc L_body_F.names [some v_state, some v_many, some v_known, some v_labels_here, some v_left, some v_number, some v_way, some v_more, some v_label, o_name, o_size, none, none, none, none, none, none, none, none, none, none] (cScope L_body_c1).names = pure [none, none, none, some v_known, some v_labels_here, some v_left, some v_many, some v_state] := by kernel_rfl
theorem L_body_c1_bind (v_state : V) (v_many : V) (v_known : V) (v_labels_here : V) (v_left : V) (o_kx : Option V) (v_kx : V) : bindTo (stLocL (relab L_body_F.names (cScope L_body_c1).names)) (cTgt L_body_c1) v_kx [none, o_kx, none, some v_known, some v_labels_here, some v_left, some v_many, some v_state] = pure [none, some v_kx, none, some v_known, some v_labels_here, some v_left, some v_many, some v_state] := by kernel_rfl
theorem L_body_c1_elt (d : Nat) (v_state : V) (v_many : V) (v_known : V) (v_labels_here : V) (v_left : V) (v_kx : V) : ev (cf01 d) (cElt L_body_c1) (relab L_body_F.names (cScope L_body_c1).names) [none, some v_kx, none, some v_known, some v_labels_here, some v_left, some v_many, some v_state] = (binop .Sub v_left (V.int 1) >>= fun t175 => (cl01 d "_law_body" [v_state, v_many, v_known, v_labels_here, t175] >>= fun t176 => (pure t176 : M V))) := by rw [ev_K]; kernel_rfl
theorem L_body_c1_tst (d : Nat) (loc : Loc) : tests (cf01 d) (cIfs L_body_c1) (relab L_body_F.names (cScope L_body_c1).names) loc = (pure true : M Bool) := by kernel_rfl
theorem L_body_c1_ok : compOk (cScope L_body_c1).kind (cScope L_body_c1).names = true := by kernel_rfl
theorem L_body_a1_eq (d : Nat) (v_state : V) (v_many : V) (v_known : V) (v_labels_here : V) (v_left : V) (v_number : V) (v_way : V) (v_more : V) (v_label : V) (o_name : Option V) (o_size : Option V) : L_body_a1 d [some v_state, some v_many, some v_known, some v_labels_here, some v_left, some v_number, some v_way, some v_more, some v_label, o_name, o_size, none, none, none, none, none, none, none, none, none, none] = (ofOpt o_size >>= fun t178 => (rangeOf t178 >>= fun s179 => (compAll (cf01 d) (cElt L_body_c1) (cTgt L_body_c1) (cIfs L_body_c1) (cScope L_body_c1) s179 L_body_F.names [some v_state, some v_many, some v_known, some v_labels_here, some v_left, some v_number, some v_way, some v_more, some v_label, o_name, o_size, none, none, none, none, none, none, none, none, none, none] >>= fun t177 => (ofOpt o_name >>= fun t180 => (bTuple t177 >>= fun t181 => (pure (V.tup [(V.str (Str.ofString "call")), t180, t181]) : M V)))))) := by kernel_rfl
def L_body_t1 (d : Nat) (v_state : V) (v_many : V) (v_known : V) (v_labels_here : V) (v_left : V) (v_number : V) (v_way : V) (v_more : V) (v_label : V) : M V := (cmp .Gt v_way (V.int 7) >>= fun t164 => (truth t164 >>= fun b165 => (cond b165 (newO (.list []) >>= fun t166 => (cmp .NotEq v_known t166 >>= fun t167 => (truth t167 >>= fun b168 => (cond b168 (cmp .Eq v_left (V.int 6) >>= fun t169 => (truth t169 >>= fun b170 => (cond b170 (bLen v_known >>= fun t171 => (binop .Mod v_more t171 >>= fun t172 => (item v_known t172 >>= fun t173 => (bindTo (stLoc L_body_F.names) (sTgt (nthS (sBody (nthS L_body_F.body 5)) 0)) t173 [some v_state, some v_many, some v_known, some v_labels_here, some v_left, some v_number, some v_way, some v_more, some v_label, none, none, none, none, none, none, none, none, none, none, none, none] >>= L_body_a1 d)))) (L_body_t2 d v_state v_many v_known v_labels_here v_left v_number v_way v_more v_label none none none)))) (L_body_t2 d v_state v_many v_known v_labels_here v_left v_number v_way v_more v_label none none none))))) (L_body_t2 d v_state v_many v_known v_labels_here v_left v_number v_way v_more v_label none none none))))
theorem L_body_sh (d : Nat) (v_state : V) (v_many : V) (v_known : V) (v_labels_here : V) (v_left : V) : cl01 (d + 1) "_law_body" [v_state, v_many, v_known, v_labels_here, v_left] = (cl01 d "_law_next" [v_state] >>= fun t132 => (binop .Mod t132 (V.int 14) >>= fun t133 => (binop .FloorDiv t132 (V.int 14) >>= fun t134 => (bLen v_labels_here >>= fun t135 => (binop .Mod t134 t135 >>= fun t136 => (item v_labels_here t136 >>= fun t137 => (cmp .LtE v_left (V.int 1) >>= fun t182 => (truth t182 >>= fun b183 => (cond b183 (cl01 d "_law_leaf" [t134, v_many] >>= fun t191 => (pure t191 : M V)) (item v_state (V.int 1) >>= fun t184 => (cmp .LtE t184 (V.int 0) >>= fun t185 => (truth t185 >>= fun b186 => (cond b186 (cl01 d "_law_leaf" [t134, v_many] >>= fun t190 => (pure t190 : M V)) (cmp .Lt t133 (V.int 2) >>= fun t187 => (truth t187 >>= fun b188 => (cond b188 (cl01 d "_law_leaf" [t134, v_many] >>= fun t189 => (pure t189 : M V)) (L_body_t1 d v_state v_many v_known v_labels_here v_left t132 t133 t134 t137))))))))))))))))) := by
  rw [cl01_succ L_body_K, callFn_K]; kernel_rfl

def L_kids_F : Fn := (fnsT tab01 "_law_kids").getD ⟨[], [], []⟩
theorem L_kids_K : fnsT tab01 "_law_kids" = some L_kids_F := by kernel_rfl
def L_kids_c1 : Expr := (sVal (nthS L_kids_F.body 2))
theorem L_kids_c1_in (v_body_here : V) : innerLoc L_kids_F.names [some v_body_here, none] (cScope L_kids_c1).names = pure [none, none, none, none] := by kernel_rfl
theorem L_kids_c1_bind (o_partx : Option V) (v_partx : V) : bindTo (stLocL (relab L_kids_F.names (cScope L_kids_c1).names)) (cTgt L_kids_c1) v_partx [none, o_partx, none, none] = pure [none, some v_partx, none, none] := by kernel_rfl
theorem L_kids_c1_elt (d : Nat) (v_partx : V) : ev (cf01 d) (cElt L_kids_c1) (relab L_kids_F.names (cScope L_kids_c1).names) [none, some v_partx, none, none] = (pure v_partx : M V) := by rw [ev_K]; kernel_rfl
theorem L_kids_c1_tst (d : Nat) (v_partx : V) : tests (cf01 d) (cIfs L_kids_c1) (relab L_kids_F.names (cScope L_kids_c1).names) [none, some v_partx, none, none] = (isKd Kd.tuple v_partx >>= fun t192 => (truth t192 >>= fun b193 => (pure b193 : M Bool))) := by rw [show cIfs L_kids_c1 = [ePart L_kids_c1 3] from by kernel_rfl, tests_K]; kernel_rfl
theorem L_kids_c1_ok : compOk (cScope L_kids_c1).kind (cScope L_kids_c1).names = true := by kernel_rfl
def L_kids_t2 (d : Nat) (v_body_here : V) : M V := (bound (V.int 1) >>= fun i195 => bound V.none >>= fun i196 => sliceV i195 i196 v_body_here >>= fun t197 => (srcV t197 >>= fun s198 => (compAll (cf01 d) (cElt L_kids_c1) (cTgt L_kids_c1) (cIfs L_kids_c1) (cScope L_kids_c1) s198 L_kids_F.names [some v_body_here, none] >>= fun t194 => (pure t194 : M V))))
def L_kids_t1 (d : Nat) (v_body_here : V) : M V := (item v_body_here (V.int 0) >>= fun t199 => (cmp .Eq t199 (V.str (Str.ofString "call")) >>= fun t200 => (truth t200 >>= fun b201 => (if b201 = true then (item v_body_here (V.int 2) >>= fun t202 => (bList t202 >>= fun t203 => (pure t203 : M V))) else (L_kids_t2 d v_body_here)))))
def L_kids_c2 : Expr := (sVal (nthS (sBody (nthS L_kids_F.body 0)) 0))
theorem L_kids_c2_in (v_body_here : V) : innerLoc L_kids_F.names [some v_body_here, none] (cScope L_kids_c2).names = pure [none, none] := by kernel_rfl
theorem L_kids_c2_bind (o_pairx : Option V) (v_pairx : V) : bindTo (stLocL (relab L_kids_F.names (cScope L_kids_c2).names)) (cTgt L_kids_c2) v_pairx [none, o_pairx] = pure [none, some v_pairx] := by kernel_rfl
theorem L_kids_c2_elt (d : Nat) (v_pairx : V) : ev (cf01 d) (cElt L_kids_c2) (relab L_kids_F.names (cScope L_kids_c2).names) [none, some v_pairx] = (item v_pairx (V.int 1) >>= fun t207 => (pure t207 : M V)) := by rw [ev_K]; kernel_rfl
theorem L_kids_c2_tst (d : Nat) (loc : Loc) : tests (cf01 d) (cIfs L_kids_c2) (relab L_kids_F.names (cScope L_kids_c2).names) loc = (pure true : M Bool) := by kernel_rfl
theorem L_kids_c2_ok : compOk (cScope L_kids_c2).kind (cScope L_kids_c2).names = true := by kernel_rfl
theorem L_kids_sh (d : Nat) (v_body_here : V) : cl01 (d + 1) "_law_kids" [v_body_here] = (item v_body_here (V.int 0) >>= fun t204 => (cmp .Eq t204 (V.str (Str.ofString "make")) >>= fun t205 => (truth t205 >>= fun b206 => (if b206 = true then (item v_body_here (V.int 1) >>= fun t209 => (srcV t209 >>= fun s210 => (compAll (cf01 d) (cElt L_kids_c2) (cTgt L_kids_c2) (cIfs L_kids_c2) (cScope L_kids_c2) s210 L_kids_F.names [some v_body_here, none] >>= fun t208 => (pure t208 : M V)))) else (L_kids_t1 d v_body_here))))) := by
  rw [cl01_succ L_kids_K, callFn_K]; kernel_rfl

def L_places_F : Fn := (fnsT tab01 "_law_places").getD ⟨[], [], []⟩
theorem L_places_K : fnsT tab01 "_law_places" = some L_places_F := by kernel_rfl
def L_places_l1 : Stmt := (nthS L_places_F.body 2)
def L_places_l2 : Stmt := (nthS (sBody L_places_l1) 0)
theorem L_places_l2_step (d : Nat) (v_placex : V) (v_innerx : V) (v_body_here : V) (v_found : V) (v_kids_here : V) (v_k : V) (o_place : Option V) (o_inner : Option V) : (bindTo (stLoc L_places_F.names) (sTgt L_places_l2) (.tup [v_placex, v_innerx]) [some v_body_here, some v_found, some v_kids_here, some v_k, o_place, o_inner, none, none, none, none] >>= exs (cf01 d) (sBody L_places_l2) L_places_F.names) = (askS (mtag v_found "append") >>= fun g213 => (binop .Add (V.tup [v_k]) v_placex >>= fun t214 => (runM g213 v_found [(V.tup [t214, v_innerx])] >>= fun t215 => (pure (Fl.next, [some v_body_here, some v_found, some v_kids_here, some v_k, some v_placex, some v_innerx, none, none, none, none]) : M (Fl × Loc))))) := by
  refine Eq.trans (show _ = exs (cf01 d) (sBody L_places_l2) L_places_F.names [some v_body_here, some v_found, some v_kids_here, some v_k, some v_placex, some v_innerx, none, none, none, none] from by kernel_rfl) ?_
  rw [exs_K]; kernel_rfl
def L_places_a1 (d : Nat) (loc : Loc) : M (Fl × Loc) := exsK (cf01 d) (List.drop 1 (sBody L_places_l1)) L_places_F.names loc (fun x => pure x)
theorem L_places_a1_eq (d : Nat) (v_body_here : V) (v_found : V) (v_kids_here : V) (v_k : V) (o_place : Option V) (o_inner : Option V) : L_places_a1 d [some v_body_here, some v_found, some v_kids_here, some v_k, o_place, o_inner, none, none, none, none] = (pure (Fl.next, [some v_body_here, some v_found, some v_kids_here, some v_k, o_place, o_inner, none, none, none, none]) : M (Fl × Loc)) := by kernel_rfl
theorem L_places_l1_step (d : Nat) (v_kx : V) (v_body_here : V) (v_found : V) (v_kids_here : V) (o_inner : Option V) (o_place : Option V) (o_k : Option V) : (bindTo (stLoc L_places_F.names) (sTgt L_places_l1) v_kx [some v_body_here, some v_found, some v_kids_here, o_k, o_place, o_inner, none, none, none, none] >>= exs (cf01 d) (sBody L_places_l1) L_places_F.names) = (item v_kids_here v_kx >>= fun t216 => (cl01 d "_law_places" [t216] >>= fun t217 => (srcV t217 >>= fun s218 => (forAll (cf01 d) (sTgt L_places_l2) (sBody L_places_l2) s218 L_places_F.names [some v_body_here, some v_found, some v_kids_here, some v_kx, o_place, o_inner, none, none, none, none] >>= flK (fun x => pure x) (L_places_a1 d))))) := by
  refine Eq.trans (show _ = exs (cf01 d) (sBody L_places_l1) L_places_F.names [some v_body_here, some v_found, some v_kids_here, some v_kx, o_place, o_inner, none, none, none, none] from by kernel_rfl) ?_
  rw [exs_K]; kernel_rfl
def L_places_a2 (d : Nat) (loc : Loc) : M V := exsK (cf01 d) (List.drop 3 L_places_F.body) L_places_F.names loc retK
theorem L_places_a2_eq (d : Nat) (v_body_here : V) (v_found : V) (v_kids_here : V) (o_inner : Option V) (o_place : Option V) (o_k : Option V) : L_places_a2 d [some v_body_here, some v_found, some v_kids_here, o_k, o_place, o_inner, none, none, none, none] = (askS (mtag v_found "append") >>= fun g219 => (runM g219 v_found [(V.tup [(V.tup []), v_body_here])] >>= fun t220 => (pure v_found : M V))) := by kernel_rfl
theorem L_places_sh (d : Nat) (v_body_here : V) : cl01 (d + 1) "_law_places" [v_body_here] = (newO (.list []) >>= fun t211 => (cl01 d "_law_kids" [v_body_here] >>= fun t212 => (bLen t212 >>= fun t221 => (rangeOf t221 >>= fun s222 => (forAll (cf01 d) (sTgt L_places_l1) (sBody L_places_l1) s222 L_places_F.names [some v_body_here, some t211, some t212, none, none, none, none, none, none, none] >>= flK retK (L_places_a2 d)))))) := by
  rw [cl01_succ L_places_K, callFn_K]; kernel_rfl

def L_law_F : Fn := (fnsT tab01 "law").getD ⟨[], [], []⟩
theorem L_law_K : fnsT tab01 "law" = some L_law_F := by kernel_rfl
def L_law_l1 : Stmt := (nthS L_law_F.body 7)
def L_law_c1 : Expr := (ePart (ePart (sVal (nthS (sBody L_law_l1) 0)) 1) 0)
theorem L_law_c1_in (v_script : V) (v_state : V) (v_labels_here : V) (v_known : V) (v_body_here : V) (v_due : V) (v_found : V) (v_place : V) : innerLoc L_law_F.names [some v_script, some v_state, some v_labels_here, some v_known, some v_body_here, some v_due, some v_found, some v_place, none, none, none, none, none, none, none, none] (cScope L_law_c1).names = pure [none, none, none, none, none] := by kernel_rfl
theorem L_law_c1_bind (o_kx : Option V) (v_kx : V) : bindTo (stLocL (relab L_law_F.names (cScope L_law_c1).names)) (cTgt L_law_c1) v_kx [none, o_kx, none, none, none] = pure [none, some v_kx, none, none, none] := by kernel_rfl
theorem L_law_c1_elt (d : Nat) (v_kx : V) : ev (cf01 d) (cElt L_law_c1) (relab L_law_F.names (cScope L_law_c1).names) [none, some v_kx, none, none, none] = (pure v_kx : M V) := by rw [ev_K]; kernel_rfl
theorem L_law_c1_tst (d : Nat) (v_kx : V) : tests (cf01 d) (cIfs L_law_c1) (relab L_law_F.names (cScope L_law_c1).names) [none, some v_kx, none, none, none] = (isKd Kd.bool v_kx >>= fun t241 => (truth t241 >>= fun b242 => (cond b242 (pure true : M Bool) (isKd Kd.int v_kx >>= fun t243 => (truth t243 >>= fun b244 => (cond (!b244) (pure true : M Bool) (pure false : M Bool))))))) := by rw [show cIfs L_law_c1 = [ePart L_law_c1 3] from by kernel_rfl, tests_K]; kernel_rfl
theorem L_law_c1_ok : compOk (cScope L_law_c1).kind (cScope L_law_c1).names = true := by kernel_rfl
theorem L_law_l1_step (d : Nat) (v_placex : V) (v_script : V) (v_state : V) (v_labels_here : V) (v_known : V) (v_body_here : V) (v_due : V) (v_found : V) (o_place : Option V) : (bindTo (stLoc L_law_F.names) (sTgt L_law_l1) v_placex [some v_script, some v_state, some v_labels_here, some v_known, some v_body_here, some v_due, some v_found, o_place, none, none, none, none, none, none, none, none] >>= exs (cf01 d) (sBody L_law_l1) L_law_F.names) = (isKd Kd.tuple v_placex >>= fun t239 => (truth t239 >>= fun b240 => (cond (!b240) (pure (Fl.ret (V.bool false), [some v_script, some v_state, some v_labels_here, some v_known, some v_body_here, some v_due, some v_found, some v_placex, none, none, none, none, none, none, none, none]) : M (Fl × Loc)) (srcV v_placex >>= fun s246 => (compAll (cf01 d) (cElt L_law_c1) (cTgt L_law_c1) (cIfs L_law_c1) (cScope L_law_c1) s246 L_law_F.names [some v_script, some v_state, some v_labels_here, some v_known, some v_body_here, some v_due, some v_found, some v_placex, none, none, none, none, none, none, none, none] >>= fun t245 => (newO (.list []) >>= fun t247 => (cmp .NotEq t245 t247 >>= fun t248 => (truth t248 >>= fun b249 => (cond b249 (pure (Fl.ret (V.bool false), [some v_script, some v_state, some v_labels_here, some v_known, some v_body_here, some v_due, some v_found, some v_placex, none, none, none, none, none, none, none, none]) : M (Fl × Loc)) (pure (Fl.next, [some v_script, some v_state, some v_labels_here, some v_known, some v_body_here, some v_due, some v_found, some v_placex, none, none, none, none, none, none, none, none]) : M (Fl × Loc))))))))))) := by
  refine Eq.trans (show _ = exs (cf01 d) (sBody L_law_l1) L_law_F.names [some v_script, some v_state, some v_labels_here, some v_known, some v_body_here, some v_due, some v_found, some v_placex, none, none, none, none, none, none, none, none] from by kernel_rfl) ?_
  rw [exs_K]; kernel_rfl
def L_law_a1 (d : Nat) (loc : Loc) : M V := exsK (cf01 d) (List.drop 8 L_law_F.body) L_law_F.names loc retK
def L_law_c2 : Expr := (ePart (sVal (nthS L_law_F.body 11)) 0)
theorem L_law_c2_in (v_script : V) (v_state : V) (v_labels_here : V) (v_known : V) (v_body_here : V) (v_due : V) (v_found : V) (o_place : Option V) : innerLoc L_law_F.names [some v_script, some v_state, some v_labels_here, some v_known, some v_body_here, some v_due, some v_found, o_place, none, none, none, none, none, none, none, none] (cScope L_law_c2).names = pure [none, none, none, some v_body_here] := by kernel_rfl
theorem L_law_c2_bind (v_body_here : V) (o_placex : Option V) (v_placex : V) : bindTo (stLocL (relab L_law_F.names (cScope L_law_c2).names)) (cTgt L_law_c2) v_placex [none, o_placex, none, some v_body_here] = pure [none, some v_placex, none, some v_body_here] := by kernel_rfl
theorem L_law_c2_elt (d : Nat) (v_body_here : V) (v_placex : V) : ev (cf01 d) (cElt L_law_c2) (relab L_law_F.names (cScope L_law_c2).names) [none, some v_placex, none, some v_body_here] = (cl01 d "at_place" [v_body_here, v_placex] >>= fun t253 => (pure t253 : M V)) := by rw [ev_K]; kernel_rfl
theorem L_law_c2_tst (d : Nat) (loc : Loc) : tests (cf01 d) (cIfs L_law_c2) (relab L_law_F.names (cScope L_law_c2).names) loc = (pure true : M Bool) := by kernel_rfl
theorem L_law_c2_ok : compOk (cScope L_law_c2).kind (cScope L_law_c2).names = true := by kernel_rfl
def L_law_c3 : Expr := (ePart (sVal (nthS L_law_F.body 11)) 1)
theorem L_law_c3_in (v_script : V) (v_state : V) (v_labels_here : V) (v_known : V) (v_body_here : V) (v_due : V) (v_found : V) (o_place : Option V) : innerLoc L_law_F.names [some v_script, some v_state, some v_labels_here, some v_known, some v_body_here, some v_due, some v_found, o_place, none, none, none, none, none, none, none, none] (cScope L_law_c3).names = pure [none, none] := by kernel_rfl
theorem L_law_c3_bind (o_pairx : Option V) (v_pairx : V) : bindTo (stLocL (relab L_law_F.names (cScope L_law_c3).names)) (cTgt L_law_c3) v_pairx [none, o_pairx] = pure [none, some v_pairx] := by kernel_rfl
theorem L_law_c3_elt (d : Nat) (v_pairx : V) : ev (cf01 d) (cElt L_law_c3) (relab L_law_F.names (cScope L_law_c3).names) [none, some v_pairx] = (item v_pairx (V.int 1) >>= fun t256 => (pure t256 : M V)) := by rw [ev_K]; kernel_rfl
theorem L_law_c3_tst (d : Nat) (loc : Loc) : tests (cf01 d) (cIfs L_law_c3) (relab L_law_F.names (cScope L_law_c3).names) loc = (pure true : M Bool) := by kernel_rfl
theorem L_law_c3_ok : compOk (cScope L_law_c3).kind (cScope L_law_c3).names = true := by kernel_rfl
def L_law_t2 (d : Nat) (v_script : V) (v_state : V) (v_labels_here : V) (v_known : V) (v_body_here : V) (v_due : V) (v_found : V) (o_place : Option V) : M V := (srcV v_found >>= fun s255 => (compAll (cf01 d) (cElt L_law_c2) (cTgt L_law_c2) (cIfs L_law_c2) (cScope L_law_c2) s255 L_law_F.names [some v_script, some v_state, some v_labels_here, some v_known, some v_body_here, some v_due, some v_found, o_place, none, none, none, none, none, none, none, none] >>= fun t254 => (srcV v_due >>= fun s258 => (compAll (cf01 d) (cElt L_law_c3) (cTgt L_law_c3) (cIfs L_law_c3) (cScope L_law_c3) s258 L_law_F.names [some v_script, some v_state, some v_labels_here, some v_known, some v_body_here, some v_due, some v_found, o_place, none, none, none, none, none, none, none, none] >>= fun t257 => (cmp .Eq t254 t257 >>= fun t259 => (pure t259 : M V))))))
def L_law_c4 : Expr := (ePart (sVal (nthS L_law_F.body 10)) 1)
theorem L_law_c4_in (v_script : V) (v_state : V) (v_labels_here : V) (v_known : V) (v_body_here : V) (v_due : V) (v_found : V) (o_place : Option V) : innerLoc L_law_F.names [some v_script, some v_state, some v_labels_here, some v_known, some v_body_here, some v_due, some v_found, o_place, none, none, none, none, none, none, none, none] (cScope L_law_c4).names = pure [none, none] := by kernel_rfl
theorem L_law_c4_bind (o_pairx : Option V) (v_pairx : V) : bindTo (stLocL (relab L_law_F.names (cScope L_law_c4).names)) (cTgt L_law_c4) v_pairx [none, o_pairx] = pure [none, some v_pairx] := by kernel_rfl
theorem L_law_c4_elt (d : Nat) (v_pairx : V) : ev (cf01 d) (cElt L_law_c4) (relab L_law_F.names (cScope L_law_c4).names) [none, some v_pairx] = (item v_pairx (V.int 0) >>= fun t260 => (pure t260 : M V)) := by rw [ev_K]; kernel_rfl
theorem L_law_c4_tst (d : Nat) (loc : Loc) : tests (cf01 d) (cIfs L_law_c4) (relab L_law_F.names (cScope L_law_c4).names) loc = (pure true : M Bool) := by kernel_rfl
theorem L_law_c4_ok : compOk (cScope L_law_c4).kind (cScope L_law_c4).names = true := by kernel_rfl
theorem L_law_a1_eq (d : Nat) (v_script : V) (v_state : V) (v_labels_here : V) (v_known : V) (v_body_here : V) (v_due : V) (v_found : V) (o_place : Option V) : L_law_a1 d [some v_script, some v_state, some v_labels_here, some v_known, some v_body_here, some v_due, some v_found, o_place, none, none, none, none, none, none, none, none] = (askS (mtag v_found "append") >>= fun g250 => (runM g250 v_found [(V.str (Str.ofString "more"))] >>= fun t251 => (cl01 d "places_of" [v_body_here] >>= fun t252 => (srcV v_due >>= fun s262 => (compAll (cf01 d) (cElt L_law_c4) (cTgt L_law_c4) (cIfs L_law_c4) (cScope L_law_c4) s262 L_law_F.names [some v_script, some v_state, some v_labels_here, some v_known, some v_body_here, some v_due, some t252, o_place, none, none, none, none, none, none, none, none] >>= fun t261 => (cmp .NotEq t252 t261 >>= fun t263 => (truth t263 >>= fun b264 => (if b264 = true then (pure (V.bool false) : M V) else (L_law_t2 d v_script v_state v_labels_here v_known v_body_here v_due t252 o_place))))))))) := by kernel_rfl
def L_law_t1 (d : Nat) (v_script : V) (v_state : V) (v_labels_here : V) (v_known : V) (v_body_here : V) (v_due : V) (v_found : V) : M V := (srcV v_found >>= fun s265 => (forAll (cf01 d) (sTgt L_law_l1) (sBody L_law_l1) s265 L_law_F.names [some v_script, some v_state, some v_labels_here, some v_known, some v_body_here, some v_due, some v_found, none, none, none, none, none, none, none, none, none] >>= flK retK (L_law_a1 d)))
def L_law_c5 : Expr := (ePart (ePart (sVal (nthS L_law_F.body 6)) 1) 1)
theorem L_law_c5_in (v_script : V) (v_state : V) (v_labels_here : V) (v_known : V) (v_body_here : V) (v_due : V) (v_found : V) : innerLoc L_law_F.names [some v_script, some v_state, some v_labels_here, some v_known, some v_body_here, some v_due, some v_found, none, none, none, none, none, none, none, none, none] (cScope L_law_c5).names = pure [none, none] := by kernel_rfl
theorem L_law_c5_bind (o_pairx : Option V) (v_pairx : V) : bindTo (stLocL (relab L_law_F.names (cScope L_law_c5).names)) (cTgt L_law_c5) v_pairx [none, o_pairx] = pure [none, some v_pairx] := by kernel_rfl
theorem L_law_c5_elt (d : Nat) (v_pairx : V) : ev (cf01 d) (cElt L_law_c5) (relab L_law_F.names (cScope L_law_c5).names) [none, some v_pairx] = (item v_pairx (V.int 0) >>= fun t268 => (pure t268 : M V)) := by rw [ev_K]; kernel_rfl
theorem L_law_c5_tst (d : Nat) (loc : Loc) : tests (cf01 d) (cIfs L_law_c5) (relab L_law_F.names (cScope L_law_c5).names) loc = (pure true : M Bool) := by kernel_rfl
theorem L_law_c5_ok : compOk (cScope L_law_c5).kind (cScope L_law_c5).names = true := by kernel_rfl
theorem L_law_sh (d : Nat) (v_script : V) : cl01 (d + 1) "law" [v_script] = (cl01 d "_law_cell" [v_script, (V.int 0)] >>= fun t223 => (binop .Mod t223 (V.int 2147483645) >>= fun t224 => (binop .Add (V.int 1) t224 >>= fun t225 => (cl01 d "_law_cell" [v_script, (V.int 1)] >>= fun t226 => (binop .Mod t226 (V.int 10) >>= fun t227 => (binop .Add (V.int 4) t227 >>= fun t228 => (newO (.list [t225, t228]) >>= fun t229 => (cl01 d "_law_cell" [v_script, (V.int 2)] >>= fun t230 => (cl01 d "_law_labels" [t230, (V.int 4)] >>= fun t231 => (newO (.list [(V.tup [(V.str (Str.ofString "f")), (V.int 1)]), (V.tup [(V.str (Str.ofString "g")), (V.int 2)]), (V.tup [(V.str (Str.ofString "h")), (V.int 0)])]) >>= fun t232 => (cl01 d "_law_cell" [v_script, (V.int 1)] >>= fun t233 => (binop .FloorDiv t233 (V.int 10) >>= fun t234 => (binop .Mod t234 (V.int 5) >>= fun t235 => (cl01 d "_law_body" [t229, t235, t232, t231, (V.int 8)] >>= fun t236 => (cl01 d "_law_places" [t236] >>= fun t237 => (cl01 d "places_of" [t236] >>= fun t238 => (isKd Kd.list t238 >>= fun t266 => (truth t266 >>= fun b267 => (cond (!b267) (pure (V.bool false) : M V) (srcV t237 >>= fun s270 => (compAll (cf01 d) (cElt L_law_c5) (cTgt L_law_c5) (cIfs L_law_c5) (cScope L_law_c5) s270 L_law_F.names [some v_script, some t229, some t231, some t232, some t236, some t237, some t238, none, none, none, none, none, none, none, none, none] >>= fun t269 => (cmp .NotEq t238 t269 >>= fun t271 => (truth t271 >>= fun b272 => (cond b272 (pure (V.bool false) : M V) (L_law_t1 d v_script t229 t231 t232 t236 t237 t238))))))))))))))))))))))))) := by
  rw [cl01_succ L_law_K, callFn_K]; kernel_rfl

end Mine

namespace Mine
open PySem

/-! ## plain runs -/
/-- a run comes to an end, with -/
def Wp {α : Type} (m : M α) (σ : Store) (Q : α → Store → Prop) : Prop := ∃ a σ', m σ = .ok a σ' ∧ Q a σ'

section
variable {α β : Type} {σ : Store} {m : M α} {f : α → M β}

theorem Wp.intro {Q : α → Store → Prop} {a : α} {σ' : Store} (h : m σ = .ok a σ') (q : Q a σ') : Wp m σ Q := ⟨a, σ', h, q⟩
theorem Wp_ok {Q : α → Store → Prop} {a : α} {σ' : Store} (h : m σ = .ok a σ') : Wp m σ Q ↔ Q a σ' := by
  constructor
  · rintro ⟨b, τ, e, q⟩; rw [h] at e; cases e; exact q
  · exact fun q => ⟨a, σ', h, q⟩
theorem Wp_bind {Q : β → Store → Prop} : Wp (m >>= f) σ Q ↔ Wp m σ fun a σ' => Wp (f a) σ' Q := by
  constructor
  · rintro ⟨b, τ, e, q⟩
    obtain ⟨a, σ₁, h1, h2⟩ := bind_inv e
    exact ⟨a, σ₁, h1, b, τ, h2, q⟩
  · rintro ⟨a, σ₁, h1, b, τ, h2, q⟩
    exact ⟨b, τ, by rw [bind_ok h1]; exact h2, q⟩
theorem Wp.mono {Q Q' : α → Store → Prop} (h : Wp m σ Q) (hq : ∀ a σ', Q a σ' → Q' a σ') : Wp m σ Q' := let ⟨a, σ', e, q⟩ := h; ⟨a, σ', e, hq a σ' q⟩
/-- a step, then the rest -/
theorem Wp.step {Q : α → Store → Prop} {Q' : β → Store → Prop} (h : Wp m σ Q) (hq : ∀ a σ', Q a σ' → Wp (f a) σ' Q') : Wp (m >>= f) σ Q' := Wp_bind.mpr (h.mono hq)
theorem Wp_pure {Q : α → Store → Prop} {a : α} : Wp (Pure.pure a : M α) σ Q ↔ Q a σ := Wp_ok rfl
theorem Wp_newO {Q : V → Store → Prop} {o : O} : Wp (newO o) σ Q ↔ Q (.ref σ.length) (σ ++ [o]) := Wp_ok rfl
theorem Wp_ofOpt {Q : α → Store → Prop} {a : α} : Wp (ofOpt (some a)) σ Q ↔ Q a σ := Wp_ok rfl

/-! numbers -/
variable {a b : Int} {Q : V → Store → Prop}
theorem Wp_add : Wp (binop .Add (.int a) (.int b)) σ Q ↔ Q (.int (a + b)) σ := Wp_ok rfl
theorem Wp_sub : Wp (binop .Sub (.int a) (.int b)) σ Q ↔ Q (.int (a - b)) σ := Wp_ok rfl
theorem Wp_mul (h : Small a ∨ Small b) : Wp (binop .Mult (.int a) (.int b)) σ Q ↔ Q (.int (a * b)) σ := Wp_ok (by show (if Small a ∨ Small b then pure (V.int (a * b)) else M.bad : M V) σ = _; rw [if_pos h]; rfl)
theorem fdiv_pos {a b : Int} (hb : 0 < b) : a.fdiv b = a / b := Int.fdiv_eq_ediv_of_nonneg a (Int.le_of_lt hb)
theorem fmod_pos {a b : Int} (hb : 0 < b) : a.fmod b = a % b := Int.fmod_eq_emod_of_nonneg a (Int.le_of_lt hb)
theorem Wp_div (h : 0 < b) (h' : b < 18446744073709551616) : Wp (binop .FloorDiv (.int a) (.int b)) σ Q ↔ Q (.int (a / b)) σ := Wp_ok (by
  show (if b ≠ 0 ∧ Small b then pure (V.int (a.fdiv b)) else M.bad : M V) σ = _
  rw [if_pos ⟨by omega, by unfold Small; omega⟩, fdiv_pos h]; rfl)
theorem Wp_mod (h : 0 < b) (h' : b < 18446744073709551616) : Wp (binop .Mod (.int a) (.int b)) σ Q ↔ Q (.int (a % b)) σ := Wp_ok (by
  show (if b ≠ 0 ∧ Small b then pure (V.int (a.fmod b)) else M.bad : M V) σ = _
  rw [if_pos ⟨by omega, by unfold Small; omega⟩, fmod_pos h]; rfl)
theorem Wp_lt : Wp (cmp .Lt (.int a) (.int b)) σ Q ↔ Q (.bool (decide (a < b))) σ := Wp_ok rfl
theorem Wp_le : Wp (cmp .LtE (.int a) (.int b)) σ Q ↔ Q (.bool (decide (a ≤ b))) σ := Wp_ok rfl
theorem Wp_gt : Wp (cmp .Gt (.int a) (.int b)) σ Q ↔ Q (.bool (decide (b < a))) σ := Wp_ok rfl
theorem Wp_ge : Wp (cmp .GtE (.int a) (.int b)) σ Q ↔ Q (.bool (decide (b ≤ a))) σ := Wp_ok rfl
theorem Wp_truthB {c : Bool} {Q : Bool → Store → Prop} : Wp (truth (.bool c)) σ Q ↔ Q c σ := Wp_ok rfl

/-! lists of the store -/
theorem getList_at {n : Nat} {l : List V} (h : σ[n]? = some (.list l)) : getList n σ = .ok l σ := by rw [getList_eq, h]
theorem Wp_getList {n : Nat} {l : List V} {Q : List V → Store → Prop} (h : σ[n]? = some (.list l)) : Wp (getList n) σ Q ↔ Q l σ := Wp_ok (getList_at h)
theorem Wp_itemRef {n : Nat} {l : List V} {k : Int} {x : V} (h : σ[n]? = some (.list l)) (hk : 0 ≤ k) (hx : l[k.toNat]? = some x) : Wp (item (.ref n) (.int k)) σ Q ↔ Q x σ := Wp_ok (by
  have hl : k < l.length := by have := lt_of_get hx; omega
  show (getList n >>= fun l => ofOpt ((place k l.length).bind fun j => l[j]?)) σ = _
  rw [bind_ok (getList_at h)]
  unfold place
  rw [if_pos hk, if_pos hl]
  show ofOpt (l[k.toNat]?) σ = _
  rw [hx]; rfl)
theorem Wp_itemTup {l : List V} {k : Int} {x : V} (hk : 0 ≤ k) (hx : l[k.toNat]? = some x) : Wp (item (.tup l) (.int k)) σ Q ↔ Q x σ := Wp_ok (by
  have hl : k < l.length := by have := lt_of_get hx; omega
  show ofOpt ((place k l.length).bind fun j => l[j]?) σ = _
  unfold place
  rw [if_pos hk, if_pos hl]
  show ofOpt (l[k.toNat]?) σ = _
  rw [hx]; rfl)
theorem Wp_lenRef {n : Nat} {l : List V} (h : σ[n]? = some (.list l)) : Wp (bLen (.ref n)) σ Q ↔ Q (.int l.length) σ := Wp_ok (by
  show (getList n >>= fun l => pure (V.int l.length)) σ = _
  rw [bind_ok (getList_at h)]; rfl)
theorem Wp_setItem {n : Nat} {l : List V} {k : Int} {v : V} {Q : Unit → Store → Prop} (h : σ[n]? = some (.list l)) (hn : 0 < n) (hk : 0 ≤ k) (hl : k < l.length) : Wp (setItem (.ref n) (.int k) v) σ Q ↔ Q () (σ.set n (.list (l.set k.toNat v))) := Wp_ok (by
  show (getList n >>= fun l => if 0 ≤ k ∧ k < l.length then setO n (.list (l.set k.toNat v)) else M.bad) σ = _
  rw [bind_ok (getList_at h), if_pos ⟨hk, hl⟩, setO_ok hn (lt_of_get h)])
theorem Wp_srcRef {n : Nat} {l : List V} {Q : Src → Store → Prop} (h : σ[n]? = some (.list l)) : Wp (srcV (.ref n)) σ Q ↔ Q (.lst n) σ := Wp_ok (by
  show (getList n >>= fun _ => pure (Src.lst n)) σ = _
  rw [bind_ok (getList_at h)]; rfl)
theorem Wp_srcTup {l : List V} {Q : Src → Store → Prop} : Wp (srcV (.tup l)) σ Q ↔ Q (.vals l) σ := Wp_ok rfl
theorem Wp_enumRef {n : Nat} {l : List V} {Q : Src → Store → Prop} (h : σ[n]? = some (.list l)) : Wp (enumOf (.ref n)) σ Q ↔ Q (.enum n) σ := Wp_ok (by
  show (getList n >>= fun _ => pure (Src.enum n)) σ = _
  rw [bind_ok (getList_at h)]; rfl)
theorem Wp_range {n : Int} {Q : Src → Store → Prop} (h : -1000000 ≤ n) (h' : n ≤ 1000000) : Wp (rangeOf (.int n)) σ Q ↔ Q (.vals (rangeV 0 n)) σ := Wp_ok (by
  show (if -1000000 ≤ n ∧ n ≤ 1000000 then pure (Src.vals (rangeV 0 n)) else M.bad : M Src) σ = _
  rw [if_pos ⟨h, h'⟩]; rfl)
theorem Wp_listRef {n : Nat} {l : List V} (h : σ[n]? = some (.list l)) : Wp (bList (.ref n)) σ Q ↔ Q (.ref σ.length) (σ ++ [.list l]) := Wp_ok (by
  show (getList n >>= fun l => newO (.list l)) σ = _
  rw [bind_ok (getList_at h)]; rfl)
theorem Wp_listTup {l : List V} : Wp (bList (.tup l)) σ Q ↔ Q (.ref σ.length) (σ ++ [.list l]) := Wp_ok rfl
theorem Wp_tupleRef {n : Nat} {l : List V} (h : σ[n]? = some (.list l)) : Wp (bTuple (.ref n)) σ Q ↔ Q (.tup l) σ := Wp_ok (by
  show (getList n >>= fun l => pure (V.tup l)) σ = _
  rw [bind_ok (getList_at h)]; rfl)
theorem Wp_append {n : Nat} {l : List V} {v : V} {R : V → Store → Prop} (h : σ[n]? = some (.list l)) (hn : 0 < n) (hl : l.length < sizeLine) : Wp (runM .append (.ref n) [v]) σ R ↔ R .none (σ.set n (.list (l ++ [v]))) := Wp_ok (by
  show (getList n >>= fun l => if l.length + 1 ≤ sizeLine then (setO n (.list (l ++ [v])) >>= fun _ => pure V.none) else M.bad) σ = _
  rw [bind_ok (getList_at h), if_pos (by omega), bind_ok (setO_ok hn (lt_of_get h))]; rfl)
theorem Wp_mtag {n : Nat} {l : List V} {Q : MTag → Store → Prop} (h : σ[n]? = some (.list l)) : Wp (askS (mtag (.ref n) "append")) σ Q ↔ Q .append σ := Wp_ok (by
  unfold askS mtag
  dsimp only
  rw [h]
  dsimp only
  rw [if_pos rfl])
theorem Wp_addRef {n m : Nat} {l k : List V} (h : σ[n]? = some (.list l)) (h' : σ[m]? = some (.list k)) (hl : l.length + k.length ≤ sizeLine) : Wp (binop .Add (.ref n) (.ref m)) σ Q ↔ Q (.ref σ.length) (σ ++ [.list (l ++ k)]) := Wp_ok (by
  show (getList n >>= fun l => getList m >>= fun k => if l.length + k.length ≤ sizeLine then newO (.list (l ++ k)) else M.bad) σ = _
  rw [bind_ok (getList_at h), bind_ok (getList_at h'), if_pos hl]; rfl)
theorem Wp_addTup {l k : List V} (hl : l.length + k.length ≤ sizeLine) : Wp (binop .Add (.tup l) (.tup k)) σ Q ↔ Q (.tup (l ++ k)) σ := Wp_ok (by
  show (if l.length + k.length ≤ sizeLine then pure (V.tup (l ++ k)) else M.bad : M V) σ = _
  rw [if_pos hl]; rfl)
theorem Wp_kd {k : Kd} {l : List V} : Wp (isKd k (.tup l)) σ Q ↔ Q (.bool (match k with | .tuple => true | _ => false)) σ := Wp_ok rfl
end

/-! loops -/
section
variable {C : Cfg} {target elt : Expr} {body : List Stmt} {ifs : List Expr} {scope : Scope} {ns : Names} {σ : Store}

/-- a walk of a source as long as something holds -/
def Walks (sr : Src) (l : List V) (J : Store → Prop) : Prop := ∀ σ, J σ → (∀ i, sr.at σ i = some l[i]?) ∧ sr.size σ = some l.length
theorem walks_vals {l : List V} {J : Store → Prop} : Walks (.vals l) l J := fun σ _ => ⟨fun _ => rfl, rfl⟩
theorem walks_lst {n : Nat} {l : List V} {J : Store → Prop} (h : ∀ σ, J σ → σ[n]? = some (.list l)) : Walks (.lst n) l J := fun σ hj => by
  have e : listAt σ n = some l := by unfold listAt; rw [h σ hj]
  exact ⟨fun i => by show (listAt σ n).map _ = _; rw [e]; rfl, by show (listAt σ n).map _ = _; rw [e]; rfl⟩
theorem walks_enum {n : Nat} {l : List V} {J : Store → Prop} (h : ∀ σ, J σ → σ[n]? = some (.list l)) : Walks (.enum n) (l.mapIdx fun i v => V.tup [.int i, v]) J := fun σ hj => by
  have e : listAt σ n = some l := by unfold listAt; rw [h σ hj]
  refine ⟨fun i => ?_, ?_⟩
  · show (listAt σ n).map _ = _
    rw [e, List.getElem?_mapIdx]; rfl
  · show (listAt σ n).map _ = _
    rw [e, List.length_mapIdx]; rfl

theorem forLoop_wp {sr : Src} {l : List V} {bt : V → Loc → M Loc} {bd : Loc → M (Fl × Loc)} {J : Store → Prop} (hw : Walks sr l J) (P : Nat → Loc → Store → Prop) (hJ : ∀ i loc σ, P i loc σ → J σ) {Q : Fl × Loc → Store → Prop}
    (step : ∀ i v loc σ, l[i]? = some v → P i loc σ → Wp (bt v loc >>= bd) σ fun r σ' => (r.1 = .next ∧ P (i + 1) r.2 σ') ∨ (∃ u, r.1 = .ret u ∧ Q r σ'))
    (fin : ∀ loc σ, P l.length loc σ → Q (.next, loc) σ) : ∀ (k i : Nat) (loc : Loc) (σ : Store), l.length + 1 ≤ i + k → i ≤ l.length → P i loc σ → Wp (forLoop sr bt bd k i loc) σ Q
  | 0, i, loc, σ, h1, h2, _ => by omega
  | k + 1, i, loc, σ, h1, h2, p => by
    obtain ⟨hat, _⟩ := hw σ (hJ i loc σ p)
    rcases Nat.lt_or_ge i l.length with hl | hl
    · have hv : l[i]? = some l[i] := List.getElem?_eq_getElem hl
      obtain ⟨r, σ', e, hr⟩ := step i l[i] loc σ hv p
      have e1 : forLoop sr bt bd (k + 1) i loc σ = (bt l[i] loc >>= fun loc' => bd loc' >>= fun r => match r.1 with
        | .next => forLoop sr bt bd k (i + 1) r.2
        | .cont => forLoop sr bt bd k (i + 1) r.2
        | .brk => pure (.next, r.2)
        | .ret v => pure (.ret v, r.2)) σ := by rw [forLoop_step (hat i), hv] <;> rfl
      have e2 : forLoop sr bt bd (k + 1) i loc σ = (match r.1 with
        | .next => forLoop sr bt bd k (i + 1) r.2
        | .cont => forLoop sr bt bd k (i + 1) r.2
        | .brk => pure (.next, r.2)
        | .ret v => pure (.ret v, r.2) : M (Fl × Loc)) σ' := by
        rw [e1, ← M.assoc, bind_ok e]
      obtain ⟨fl, loc'⟩ := r
      rcases hr with ⟨hn, p'⟩ | ⟨u, hu, q⟩
      · cases hn
        obtain ⟨a, τ, e3, q⟩ := forLoop_wp hw P hJ step fin k (i + 1) loc' σ' (by omega) (by omega) p'
        exact ⟨a, τ, by rw [e2]; exact e3, q⟩
      · cases hu
        exact ⟨_, σ', by rw [e2]; rfl, q⟩
    · have : i = l.length := by omega
      subst this
      have hv : l[l.length]? = none := List.getElem?_eq_none (Nat.le_refl _)
      refine ⟨_, σ, by rw [forLoop_step (hat l.length), hv]; rfl, fin loc σ p⟩

theorem Wp_forAll {sr : Src} {l : List V} {J : Store → Prop} (hw : Walks sr l J) (htg : tgtOk sr target = true) (P : Nat → Loc → Store → Prop) (hJ : ∀ i loc σ, P i loc σ → J σ) {Q : Fl × Loc → Store → Prop} {loc : Loc} (h0 : P 0 loc σ)
    (step : ∀ i v loc σ, l[i]? = some v → P i loc σ → Wp (bindTo (stLoc ns) target v loc >>= exs C body ns) σ fun r σ' => (r.1 = .next ∧ P (i + 1) r.2 σ') ∨ (∃ u, r.1 = .ret u ∧ Q r σ'))
    (fin : ∀ loc σ, P l.length loc σ → Q (.next, loc) σ) : Wp (forAll C target body sr ns loc) σ Q := by
  obtain ⟨_, hsz⟩ := hw σ (hJ 0 loc σ h0)
  unfold forAll
  rw [if_pos htg]
  refine Wp_bind.mpr ((Wp_ok (σ' := σ) (a := l.length) ?_).mpr (forLoop_wp hw P hJ step fin (l.length + 1) 0 loc σ (by omega) (by omega) h0))
  unfold Src.count askS; dsimp only; rw [hsz]

theorem compLoop_wp {sr : Src} {l : List V} {bt : V → Loc → M Loc} {tt : Loc → M Bool} {et : Loc → M V} {J : Store → Prop} (hw : Walks sr l J) (P : Nat → List V → Loc → Store → Prop) (hJ : ∀ i acc loc σ, P i acc loc σ → J σ)
    (step : ∀ i v acc loc σ, l[i]? = some v → P i acc loc σ → Wp (bt v loc) σ fun loc' σ₁ => Wp (tt loc') σ₁ fun b σ₂ => if b = true then Wp (et loc') σ₂ fun y σ₃ => P (i + 1) (acc ++ [y]) loc' σ₃ else P (i + 1) acc loc' σ₂) :
    ∀ (k i : Nat) (acc : List V) (loc : Loc) (σ : Store), l.length + 1 ≤ i + k → i ≤ l.length → P i acc loc σ → Wp (compLoop sr bt tt et k i loc) σ fun out σ' => ∃ loc', P l.length (acc ++ out) loc' σ'
  | 0, i, acc, loc, σ, h1, h2, _ => by omega
  | k + 1, i, acc, loc, σ, h1, h2, p => by
    obtain ⟨hat, _⟩ := hw σ (hJ i acc loc σ p)
    rcases Nat.lt_or_ge i l.length with hl | hl
    · have hv : l[i]? = some l[i] := List.getElem?_eq_getElem hl
      have e1 : compLoop sr bt tt et (k + 1) i loc σ = (bt l[i] loc >>= fun loc' => tt loc' >>= fun c => if c = true then (et loc' >>= fun x => compLoop sr bt tt et k (i + 1) loc' >>= fun r => pure (x :: r)) else compLoop sr bt tt et k (i + 1) loc') σ := by
        rw [compLoop_step (hat i), hv]
      obtain ⟨loc', σ₁, e2, b, σ₂, e3, hb⟩ := step i l[i] acc loc σ hv p
      rw [bind_ok e2, bind_ok e3] at e1
      cases b with
      | false =>
        obtain ⟨a, τ, e4, q⟩ := compLoop_wp hw P hJ step k (i + 1) acc loc' σ₂ (by omega) (by omega) hb
        exact ⟨a, τ, by rw [e1]; exact e4, q⟩
      | true =>
        obtain ⟨y, σ₃, e4, p'⟩ := hb
        obtain ⟨a, τ, e5, loc'', q⟩ := compLoop_wp hw P hJ step k (i + 1) (acc ++ [y]) loc' σ₃ (by omega) (by omega) p'
        refine ⟨y :: a, τ, ?_, loc'', by rw [List.append_assoc] at q; exact q⟩
        rw [e1]
        show (et loc' >>= fun x => compLoop sr bt tt et k (i + 1) loc' >>= fun r => pure (x :: r)) σ₂ = _
        rw [bind_ok e4, bind_ok e5]; rfl
    · have : i = l.length := by omega
      subst this
      have hv : l[l.length]? = none := List.getElem?_eq_none (Nat.le_refl _)
      exact ⟨[], σ, by rw [compLoop_step (hat l.length), hv]; rfl, loc, by rw [List.append_nil]; exact p⟩

theorem Wp_compAll {sr : Src} {l : List V} {J : Store → Prop} (hw : Walks sr l J) (htg : tgtOk sr target = true) (hok : compOk scope.kind scope.names = true) {loc loc₀ : Loc} (hin : innerLoc ns loc scope.names = pure loc₀) (P : Nat → List V → Loc → Store → Prop)
    (hJ : ∀ i acc loc σ, P i acc loc σ → J σ) (h0 : P 0 [] loc₀ σ)
    (step : ∀ i v acc loc σ, l[i]? = some v → P i acc loc σ → Wp (bindTo (stLocL (relab ns scope.names)) target v loc) σ fun loc' σ₁ => Wp (tests C ifs (relab ns scope.names) loc') σ₁ fun b σ₂ => if b = true then Wp (ev C elt (relab ns scope.names) loc') σ₂ fun y σ₃ => P (i + 1) (acc ++ [y]) loc' σ₃ else P (i + 1) acc loc' σ₂)
    {Q : V → Store → Prop} (fin : ∀ out loc σ', P l.length out loc σ' → out.length ≤ sizeLine ∧ Q (.ref σ'.length) (σ' ++ [.list out])) : Wp (compAll C elt target ifs scope sr ns loc) σ Q := by
  obtain ⟨_, hsz⟩ := hw σ (hJ 0 [] _ σ h0)
  unfold compAll
  rw [if_pos (by rw [htg, hok]; rfl)]
  refine Wp_bind.mpr ((Wp_ok (σ' := σ) (a := l.length) (by unfold Src.count askS; dsimp only; rw [hsz])).mpr ?_)
  rw [hin]
  refine Wp_bind.mpr (Wp_pure.mpr (Wp_bind.mpr ((compLoop_wp hw P hJ step (l.length + 1) 0 [] loc₀ σ (by omega) (by omega) h0).mono fun out σ' ⟨loc', p⟩ => ?_)))
  rw [List.nil_append] at p
  obtain ⟨hl, q⟩ := fin out loc' σ' p
  rw [if_pos hl]
  exact Wp_newO.mpr q

/-- a comprehension that leaves the store as it is -/
theorem Wp_compPure {sr : Src} {l : List V} (hw : Walks sr l fun τ => τ = σ) (htg : tgtOk sr target = true) (hok : compOk scope.kind scope.names = true) {loc loc₀ : Loc} (hin : innerLoc ns loc scope.names = pure loc₀) (S : Loc → Prop) (hS : S loc₀) (g : V → Option V)
    (step : ∀ v loc, v ∈ l → S loc → Wp (bindTo (stLocL (relab ns scope.names)) target v loc) σ fun loc' σ₁ => σ₁ = σ ∧ S loc' ∧ Wp (tests C ifs (relab ns scope.names) loc') σ fun b σ₂ => σ₂ = σ ∧ (if b = true then Wp (ev C elt (relab ns scope.names) loc') σ fun y σ₃ => σ₃ = σ ∧ g v = some y else g v = none))
    {Q : V → Store → Prop} (hl : (l.filterMap g).length ≤ sizeLine) (fin : Q (.ref σ.length) (σ ++ [.list (l.filterMap g)])) : Wp (compAll C elt target ifs scope sr ns loc) σ Q := by
  refine Wp_compAll hw htg hok hin (fun i acc loc τ => τ = σ ∧ S loc ∧ acc = (l.take i).filterMap g) (fun _ _ _ _ h => h.1) ⟨rfl, hS, rfl⟩ (fun i v acc loc τ hv hp => ?_) fun out loc τ hp => ?_
  · obtain ⟨rfl, hs, rfl⟩ := hp
    have htake : l.take (i + 1) = l.take i ++ [v] := by rw [List.take_add_one, hv]; rfl
    refine (step v loc (List.mem_of_getElem? hv) hs).mono fun loc' σ₁ h => ?_
    obtain ⟨rfl, hs', h⟩ := h
    refine h.mono fun b σ₂ h => ?_
    obtain ⟨rfl, h⟩ := h
    cases b with
    | false => exact ⟨rfl, hs', by rw [htake, List.filterMap_append]; have h : g v = none := h; simp [h]⟩
    | true => exact h.mono fun y σ₃ h => ⟨h.1, hs', by rw [htake, List.filterMap_append]; simp [h.2]⟩
  · obtain ⟨rfl, _, rfl⟩ := hp
    rw [List.take_length]
    exact ⟨hl, fin⟩
theorem tgtOk_vals {l : List V} : tgtOk (.vals l) target = true := by cases target <;> rfl
theorem tgtOk_lst {n : Nat} : tgtOk (.lst n) target = true := by cases target <;> rfl
end

/-! what stays of a store -/
def Le (σ σ' : Store) : Prop := ∀ (n : Nat) (o : O), σ[n]? = some o → σ'[n]? = some o
theorem Le.refl {σ : Store} : Le σ σ := fun _ _ h => h
theorem Le.trans {σ σ' σ'' : Store} (h : Le σ σ') (h' : Le σ' σ'') : Le σ σ'' := fun n o e => h' n o (h n o e)
theorem Le.append {σ τ : Store} : Le σ (σ ++ τ) := fun n o e => by rw [List.getElem?_append_left (lt_of_get e)]; exact e
theorem Le.len {σ σ' : Store} (h : Le σ σ') : σ.length ≤ σ'.length := by
  rcases Nat.lt_or_ge σ'.length σ.length with hl | hl
  · have := h σ'.length _ (List.getElem?_eq_getElem hl)
    rw [List.getElem?_eq_none (Nat.le_refl _)] at this; cases this
  · exact hl
theorem get_new {σ : Store} {o : O} : (σ ++ [o])[σ.length]? = some o := by rw [List.getElem?_append_right (Nat.le_refl _), Nat.sub_self]; rfl
/-- all but one -/
def LeBut (k : Nat) (σ σ' : Store) : Prop := ∀ (n : Nat) (o : O), n ≠ k → σ[n]? = some o → σ'[n]? = some o
theorem LeBut.refl {k : Nat} {σ : Store} : LeBut k σ σ := fun _ _ _ h => h
theorem LeBut.trans {k : Nat} {σ σ' σ'' : Store} (h : LeBut k σ σ') (h' : LeBut k σ' σ'') : LeBut k σ σ'' := fun n o hn e => h' n o hn (h n o hn e)
theorem Le.but {k : Nat} {σ σ' : Store} (h : Le σ σ') : LeBut k σ σ' := fun n o _ e => h n o e
theorem LeBut.set {k : Nat} {σ : Store} {o : O} : LeBut k σ (σ.set k o) := fun n o' hn e => by rw [List.getElem?_set_ne (Ne.symm hn)]; exact e
end Mine

namespace Mine
open PySem

/-! ## law 01: what is drawn -/
inductive Shape : V → List V → Prop
  | leaf (w : Str) (z : Int) : w = Str.ofString "input" ∨ w = Str.ofString "number" → Shape (.tup [.str w, .int z]) []
  | get (b : V) (s : Str) : Shape (.tup [.str (Str.ofString "get"), b, .str s]) [b]
  | put (b c : V) (s : Str) : Shape (.tup [.str (Str.ofString "put"), b, .str s, c]) [b, c]
  | sum (a b : V) : Shape (.tup [.str (Str.ofString "sum"), a, b]) [a, b]
  | ite (a b c : V) : Shape (.tup [.str (Str.ofString "if"), a, b, c]) [a, b, c]
  | make (fs : List (Str × V)) : fs.length ≤ 3 → Shape (.tup [.str (Str.ofString "make"), .tup (fs.map fun p => .tup [.str p.1, p.2])]) (fs.map (·.2))
  | call (f : Str) (ks : List V) : ks.length ≤ 2 → Shape (.tup [.str (Str.ofString "call"), .str f, .tup ks]) ks
inductive Bod : Nat → V → Prop
  | mk {n : Nat} {v : V} {ks : List V} : Shape v ks → (∀ x ∈ ks, Bod n x) → Bod (n + 1) v

theorem set_get {σ : Store} {n : Nat} {o o' : O} (h : σ[n]? = some o) : (σ.set n o')[n]? = some o' := List.getElem?_set_self (lt_of_get h)

theorem cell_ok {d : Nat} {zs : List Int} {σ : Store} {k : Int} (h : σ[0]? = some (.list (zs.map .int))) (hk : 0 ≤ k) : Wp (cl01 (d + 1) "_law_cell" [.ref 0, .int k]) σ (fun r σ' => σ' = σ ∧ ∃ c, r = .int c ∧ 0 ≤ c ∧ c < 2147483647) := by
  rw [L_cell_sh]
  simp only [Wp_bind, Wp_lenRef h, Wp_lt, Wp_truthB]
  by_cases hl : k < ((zs.map V.int).length : Nat)
  · rw [if_pos (decide_eq_true hl)]
    have hx : (zs.map V.int)[k.toNat]? = some (.int (zs[k.toNat]'(by simp at hl; omega))) := by
      rw [List.getElem?_map, List.getElem?_eq_getElem (by simp at hl; omega)]; rfl
    simp only [Wp_bind, Wp_itemRef h hk hx, Wp_mul (Or.inr (show Small 48271 by decide)), Wp_mod (show (0 : Int) < 2147483647 by decide) (show (2147483647 : Int) < 18446744073709551616 by decide), Wp_pure]
    exact ⟨trivial, _, rfl, by omega, by omega⟩
  · rw [if_neg (by simpa using hl)]
    exact Wp_pure.mpr ⟨rfl, 0, rfl, by decide, by decide⟩

theorem next_ok {d : Nat} {σ : Store} {n : Nat} {s c : Int} (h : σ[n]? = some (.list [.int s, .int c])) (hn : 0 < n) : Wp (cl01 (d + 1) "_law_next" [.ref n]) σ (fun r σ' => ∃ z s', r = .int z ∧ 0 ≤ z ∧ z < 2147483647 ∧ σ' = σ.set n (.list [.int s', .int (c - 1)])) := by
  rw [L_next_sh]
  simp only [Wp_bind, Wp_itemRef h (show (0 : Int) ≤ 0 by decide) (show ([V.int s, V.int c])[(0 : Int).toNat]? = some (.int s) from rfl), Wp_mul (Or.inr (show Small 48271 by decide)), Wp_add,
    Wp_mod (show (0 : Int) < 2147483647 by decide) (show (2147483647 : Int) < 18446744073709551616 by decide), Wp_setItem h hn (show (0 : Int) ≤ 0 by decide) (show (0 : Int) < ([V.int s, V.int c].length : Nat) from by show (0 : Int) < ((2 : Nat) : Int); decide)]
  generalize hs' : (s * 48271 + 11) % 2147483647 = s'
  have h1 : (σ.set n (.list ([V.int s, V.int c].set (0 : Int).toNat (.int s'))))[n]? = some (.list [.int s', .int c]) := set_get h
  simp only [Wp_itemRef h1 (show (0 : Int) ≤ 1 by decide) (show ([V.int s', V.int c])[(1 : Int).toNat]? = some (.int c) from rfl), Wp_sub, Wp_setItem h1 hn (show (0 : Int) ≤ 1 by decide) (show (1 : Int) < ([V.int s', V.int c].length : Nat) from by show (1 : Int) < ((2 : Nat) : Int); decide)]
  have h2 : ((σ.set n (.list ([V.int s, V.int c].set (0 : Int).toNat (.int s')))).set n (.list ([V.int s', V.int c].set (1 : Int).toNat (.int (c - 1)))))[n]? = some (.list [.int s', .int (c - 1)]) := set_get h1
  simp only [Wp_itemRef h2 (show (0 : Int) ≤ 0 by decide) (show ([V.int s', V.int (c - 1)])[(0 : Int).toNat]? = some (.int s') from rfl), Wp_div (show (0 : Int) < 7 by decide) (show (7 : Int) < 18446744073709551616 by decide), Wp_pure]
  refine ⟨s' / 7, s', rfl, by omega, by omega, ?_⟩
  rw [List.set_set]; rfl

theorem Wp_pow {σ : Store} {Q : V → Store → Prop} {a b : Int} (h : 0 ≤ b) (h1 : b ≤ 1000) (h2 : a.natAbs < 1000) : Wp (binop .Pow (.int a) (.int b)) σ Q ↔ Q (.int (a ^ b.toNat)) σ := Wp_ok (by
  show (if 0 ≤ b ∧ b ≤ 1000 ∧ a.natAbs < 1000 then pure (V.int (a ^ b.toNat)) else M.bad : M V) σ = _
  rw [if_pos ⟨h, h1, h2⟩]; rfl)

theorem leaf_ok {d : Nat} {σ : Store} {n k : Int} (hk : k ≤ 4) : Wp (cl01 (d + 1) "_law_leaf" [.int n, .int k]) σ (fun r σ' => Le σ σ' ∧ Shape r []) := by
  have t1 : Wp (L_leaf_t1 d (.int n) (.int k)) σ (fun r σ' => Le σ σ' ∧ Shape r []) := by
    unfold L_leaf_t1
    have hp : (10 : Int) ^ (12 : Int).toNat = 1000000000000 := by decide
    simp only [Wp_bind, Wp_pow (show (0 : Int) ≤ 12 by decide) (show (12 : Int) ≤ 1000 by decide) (show (10 : Int).natAbs < 1000 by decide), hp, Wp_mul (Or.inl (show Small 2 by decide)), Wp_add, Wp_sub, Wp_newO,
      Wp_div (show (0 : Int) < 4 by decide) (show (4 : Int) < 18446744073709551616 by decide), Wp_mod (show (0 : Int) < 4 by decide) (show (4 : Int) < 18446744073709551616 by decide),
      Wp_mod (show (0 : Int) < 2 * 1000000000000 + 1 by decide) (show (2 * 1000000000000 + 1 : Int) < 18446744073709551616 by decide)]
    have h1 : 0 ≤ n % 4 := by omega
    have h2 : (n % 4).toNat < 4 := by omega
    have hx : ∃ z, ([V.int 0, V.int 1, V.int (-1), V.int (n / 4 % (2 * 1000000000000 + 1) - 1000000000000)])[(n % 4).toNat]? = some (.int z) := by
      generalize (n % 4).toNat = j at h2
      rcases j with _ | _ | _ | _ | j
      · exact ⟨_, rfl⟩
      · exact ⟨_, rfl⟩
      · exact ⟨_, rfl⟩
      · exact ⟨_, rfl⟩
      · omega
    obtain ⟨z, hx⟩ := hx
    rw [Wp_itemRef get_new h1 hx]
    exact Wp_pure.mpr ⟨Le.append, .leaf _ _ (.inr rfl)⟩
  rw [L_leaf_sh]
  simp only [Wp_bind, Wp_gt, Wp_truthB]
  by_cases h0 : 0 < k
  · rw [decide_eq_true h0, cond_true]
    simp only [Wp_bind, Wp_mod (show (0 : Int) < 3 by decide) (show (3 : Int) < 18446744073709551616 by decide), Wp_gt, Wp_truthB]
    cases decide (0 < n % 3)
    · exact t1
    · rw [cond_true]
      simp only [Wp_bind, Wp_div (show (0 : Int) < 3 by decide) (show (3 : Int) < 18446744073709551616 by decide), Wp_mod h0 (show k < 18446744073709551616 by omega), Wp_pure]
      exact ⟨Le.refl, .leaf _ _ (.inl rfl)⟩
  · rw [decide_eq_false h0]; exact t1
end Mine

namespace Mine
open PySem

theorem Le.setNew {σ τ : Store} {k : Nat} {o : O} (h : Le σ τ) (hk : σ.length ≤ k) : Le σ (τ.set k o) := fun n o' e => by
  rw [List.getElem?_set_ne (fun eq => by have := lt_of_get e; omega)]; exact h n o' e
theorem Wp_mtagJoin {σ : Store} {s : Str} {Q : MTag → Store → Prop} : Wp (askS (mtag (.str s) "join")) σ Q ↔ Q .join σ := Wp_ok (by
  unfold askS mtag
  dsimp only
  rw [if_pos rfl])
theorem Wp_itemStr {σ : Store} {Q : V → Store → Prop} {s : Str} {k : Int} {c : Nat} (hk : 0 ≤ k) (hl : k < s.length) (hx : s.cps[k.toNat]? = some c) : Wp (item (.str s) (.int k)) σ Q ↔ Q (.str (chr1 c)) σ := Wp_ok (by
  show ofOpt ((place k s.length).bind fun j => (s.cps[j]?).map fun c => V.str (chr1 c)) σ = _
  unfold place
  rw [if_pos hk, if_pos hl]
  show ofOpt ((s.cps[k.toNat]?).map fun c => V.str (chr1 c)) σ = _
  rw [hx]; rfl)
theorem Wp_addStr {σ : Store} {Q : V → Store → Prop} {x y : Str} (hl : x.length + y.length ≤ sizeLine) : Wp (binop .Add (.str x) (.str y)) σ Q ↔ Q (.str (x ++ y)) σ := Wp_ok (by
  show (if x.length + y.length ≤ sizeLine then pure (V.str (x ++ y)) else M.bad : M V) σ = _
  rw [if_pos hl]; rfl)
theorem cutStr_le (s : Str) (lo hi : Option Int) : (cutStr s lo hi).length ≤ s.length := by
  show (cut s.cps.toList lo hi).toArray.size ≤ s.cps.size
  rw [List.size_toArray, ← Array.length_toList]
  exact cut_length_le _ _ _

theorem allStrs_ok : ∀ (l : List V), (∀ x ∈ l, ∃ c, x = .str (chr1 c)) → ∃ ss, allStrs l = some ss ∧ ss.length = l.length ∧ (ss.map (·.length)).sum = l.length
  | [], _ => ⟨[], rfl, rfl, rfl⟩
  | x :: r, h => by
    obtain ⟨c, rfl⟩ := h x (List.mem_cons_self ..)
    obtain ⟨ss, h1, h2, h3⟩ := allStrs_ok r fun y hy => h y (List.mem_cons_of_mem _ hy)
    refine ⟨chr1 c :: ss, by show (allStrs r).map _ = _; rw [h1]; rfl, by simp [h2], ?_⟩
    rw [List.map_cons, List.sum_cons, h3, List.length_cons, show (chr1 c).length = 1 from rfl]; omega

theorem Wp_joinChars {σ : Store} {Q : V → Store → Prop} {n : Nat} {l : List V} (h : σ[n]? = some (.list l)) (hl : ∀ x ∈ l, ∃ c, x = .str (chr1 c)) (hlen : l.length ≤ 100) (q : ∀ s : Str, s.length ≤ 100 → Q (.str s) σ) :
    Wp (runM .join (.str (Str.ofString "")) [.ref n]) σ Q := by
  obtain ⟨ss, h1, h2, h3⟩ := allStrs_ok l hl
  have h0 : (Str.ofString "").length = 0 := by decide +kernel
  have hc : (ss.map (·.length)).sum + ss.length * (Str.ofString "").length ≤ 16777216 := by rw [h0, h3]; omega
  refine ⟨.str (Txt.join (Str.ofString "") ss), σ, ?_, q _ ?_⟩
  · show (getList n >>= fun l => ofOpt (allStrs l) >>= fun ss => if (ss.map (·.length)).sum + ss.length * (Str.ofString "").length ≤ 16777216 then pure (V.str (Txt.join (Str.ofString "") ss)) else M.bad) σ = _
    rw [bind_ok (getList_at h), bind_ok (a := ss) (σ' := σ) (by rw [h1]; rfl), if_pos hc]; rfl
  · show (Builtin.Str.glued (Str.ofString "") ss).length ≤ 100
    rw [size_glued, h0, h3]; omega

theorem signs_at {k : Int} (h0 : 0 ≤ k) (h1 : k < 26) : ∃ c, (Str.ofString "abcdefghijklmnopqrstuvwxyz").cps[k.toNat]? = some c := by
  have hs : (Str.ofString "abcdefghijklmnopqrstuvwxyz").cps.size = 26 := by decide +kernel
  exact ⟨_, Array.getElem?_eq_getElem (by rw [hs]; omega)⟩
theorem signs_len : (Str.ofString "abcdefghijklmnopqrstuvwxyz").length = 26 := by decide +kernel

theorem range_val {n : Int} {i : Nat} {v : V} (h : (rangeV 0 n)[i]? = some v) : v = .int i ∧ (i : Int) < n := by
  rw [rangeV_get] at h
  split at h
  · cases h; exact ⟨by rw [Int.zero_add], by omega⟩
  · cases h
theorem range_len {n : Int} : (rangeV 0 n).length = n.toNat := by unfold rangeV; simp

theorem labels_ok {d : Nat} {σ : Store} {c : Int} : Wp (cl01 (d + 1) "_law_labels" [.int c, .int 4]) σ (fun r σ' => Le σ σ' ∧ ∃ n l, r = .ref n ∧ σ.length ≤ n ∧ σ'[n]? = some (.list l) ∧ l.length = 4 ∧ ∀ x ∈ l, ∃ s, x = V.str s) := by
  rw [L_labels_sh]
  have hsz : 0 ≤ c % 7 ∧ c % 7 < 7 := by omega
  generalize hsize : c % 7 = size at hsz
  simp only [Wp_bind, Wp_mod (b := 7) (by decide) (by decide), hsize, Wp_div (b := 7) (by decide) (by decide), Wp_add, Wp_mod (b := size + 1) (by omega) (by omega), Wp_div (b := 49) (by decide) (by decide), Wp_mod (b := 26) (by decide) (by decide), Wp_mtagJoin, Wp_range (n := size) (by omega) (by omega)]
  generalize c / 7 % (size + 1) = at'
  generalize hst : c / 49 % 26 = stp
  refine Wp_compAll (J := fun τ => True) walks_vals tgtOk_vals L_labels_c1_ok (L_labels_c1_in ..) (fun i acc loc τ => τ = σ ∧ (∃ o, loc = [none, o, some (.int c), some (.str (Str.ofString "abcdefghijklmnopqrstuvwxyz")), some (.int stp)]) ∧ acc.length = i ∧ ∀ x ∈ acc, ∃ c, x = .str (chr1 c)) (fun _ _ _ _ _ => trivial) ⟨rfl, ⟨_, rfl⟩, rfl, by simp⟩ (fun i v acc loc τ hv hp => ?_) fun out loc τ hp => ?_
  · obtain ⟨rfl, ⟨o, rfl⟩, hlen, hall⟩ := hp
    obtain ⟨rfl, hi⟩ := range_val hv
    rw [L_labels_c1_bind, Wp_pure, L_labels_c1_tst, Wp_pure, if_pos rfl, L_labels_c1_elt]
    simp only [Wp_bind, Wp_div (b := 1274) (by decide) (by decide), Wp_mul (b := (i : Int)) (.inr (by unfold Small; omega)), Wp_add, Wp_mod (b := 26) (by decide) (by decide)]
    have hm : 0 ≤ (stp + c / 1274 * (i : Int)) % 26 ∧ (stp + c / 1274 * (i : Int)) % 26 < 26 := by omega
    generalize (stp + c / 1274 * (i : Int)) % 26 = m at hm
    obtain ⟨ch, hch⟩ := signs_at hm.1 hm.2
    rw [Wp_itemStr hm.1 (by rw [signs_len]; exact hm.2) hch, Wp_pure]
    refine ⟨rfl, ⟨_, rfl⟩, by simp [hlen], fun x hx => ?_⟩
    rcases List.mem_append.mp hx with hx | hx
    · exact hall x hx
    · rw [List.mem_singleton.mp hx]; exact ⟨ch, rfl⟩
  · obtain ⟨rfl, _, hlen, hall⟩ := hp
    rw [range_len] at hlen
    refine ⟨by rw [hlen]; have : (16777216 : Nat) = sizeLine := rfl; omega, ?_⟩
    refine Wp_joinChars get_new hall (by omega) fun base hbase => ?_
    simp only [Wp_newO, Wp_range (n := 4) (by decide) (by decide)]
    have hk1 : (τ ++ [O.list out] ++ [O.list []])[(τ ++ [O.list out]).length]? = some (.list []) := get_new
    generalize hf : (τ ++ [O.list out]).length = f at hk1 ⊢
    have hfl : τ.length < f := by rw [← hf]; simp
    have hLe : Le τ (τ ++ [O.list out] ++ [O.list []]) := Le.append.trans Le.append
    generalize τ ++ [O.list out] ++ [O.list []] = τ' at hk1 hLe ⊢
    refine Wp_forAll (J := fun τ => True) walks_vals tgtOk_vals (fun i loc τ₁ => Le τ τ₁ ∧ (∃ o1 o2, loc = [some (.int c), some (.int 4), some (.str (Str.ofString "abcdefghijklmnopqrstuvwxyz")), some (.int size), some (.int at'), some (.int stp), o1, some (.str base), some (.ref f), o2, none]) ∧
      ∃ l, τ₁[f]? = some (.list l) ∧ l.length = i ∧ ∀ x ∈ l, ∃ s, x = V.str s) (fun _ _ _ _ => trivial) ⟨hLe, ⟨_, _, rfl⟩, [], hk1, rfl, by simp⟩ (fun i v loc τ₁ hv hp => ?_) fun loc τ₁ hp => ?_
    · obtain ⟨hle, ⟨o1, o2, rfl⟩, l, hl, hll, hla⟩ := hp
      obtain ⟨rfl, hi⟩ := range_val hv
      rw [L_labels_l1_step]
      have hm : 0 ≤ (c / 49 + 3 * (i : Int)) % 26 ∧ (c / 49 + 3 * (i : Int)) % 26 < 26 := by omega
      simp only [Wp_bind, Wp_div (b := 49) (by decide) (by decide), Wp_mul (a := 3) (.inl (by decide)), Wp_add, Wp_mod (b := 26) (by decide) (by decide)]
      generalize (c / 49 + 3 * (i : Int)) % 26 = m at hm
      obtain ⟨ch, hch⟩ := signs_at hm.1 hm.2
      have hs1 : (cutStr base none (some at')).length ≤ base.length := cutStr_le _ _ _
      have hs2 : (cutStr base (some at') none).length ≤ base.length := cutStr_le _ _ _
      have hsl : (16777216 : Nat) = sizeLine := rfl
      have hc1 : (chr1 ch).length = 1 := rfl
      simp only [Wp_itemStr hm.1 (by rw [signs_len]; exact hm.2) hch, Wp_mtag hl]
      refine (Wp_ok (a := none) (σ' := τ₁) rfl).mpr ((Wp_ok (a := some at') (σ' := τ₁) rfl).mpr ((Wp_ok (a := V.str (cutStr base none (some at'))) (σ' := τ₁) rfl).mpr ?_))
      rw [Wp_addStr (by omega)]
      refine (Wp_ok (a := some at') (σ' := τ₁) rfl).mpr ((Wp_ok (a := none) (σ' := τ₁) rfl).mpr ((Wp_ok (a := V.str (cutStr base (some at') none)) (σ' := τ₁) rfl).mpr ?_))
      rw [Wp_addStr (by rw [length_append]; omega), Wp_append hl (by omega) (by omega), Wp_pure]
      refine .inl ⟨rfl, hle.setNew (Nat.le_of_lt hfl), ⟨_, _, rfl⟩, _, set_get hl, by simp [hll], fun x hx => ?_⟩
      rcases List.mem_append.mp hx with hx | hx
      · exact hla x hx
      · rw [List.mem_singleton.mp hx]; exact ⟨_, rfl⟩
    · obtain ⟨hle, ⟨o1, o2, rfl⟩, l, hl, hll, hla⟩ := hp
      show Wp (L_labels_a1 d _) _ _
      rw [L_labels_a1_eq, Wp_pure]
      exact ⟨hle, f, l, rfl, Nat.le_of_lt hfl, hl, by rw [hll, range_len]; rfl, hla⟩
end Mine

namespace Mine
open PySem

def knownV : List V := [.tup [.str (Str.ofString "f"), .int 1], .tup [.str (Str.ofString "g"), .int 2], .tup [.str (Str.ofString "h"), .int 0]]

/-- what the drawing needs of the store -/
structure Gc (σ : Store) (st kn lb : Nat) : Prop where
  pos : 0 < st
  state : ∃ s c, σ[st]? = some (.list [.int s, .int c])
  known : σ[kn]? = some (.list knownV)
  labels : ∃ l, σ[lb]? = some (.list l) ∧ l.length = 4 ∧ ∀ x ∈ l, ∃ s, x = V.str s
  ne : kn ≠ st ∧ lb ≠ st
/-- what it leaves -/
def Pst (st : Nat) (σ σ' : Store) : Prop := LeBut st σ σ' ∧ ∃ s c, σ'[st]? = some (.list [.int s, .int c])
theorem Pst.trans {st : Nat} {σ σ' σ'' : Store} (h : Pst st σ σ') (h' : Pst st σ' σ'') : Pst st σ σ'' := ⟨h.1.trans h'.1, h'.2⟩
theorem Gc.keep {σ σ' : Store} {st kn lb : Nat} (g : Gc σ st kn lb) (h : Pst st σ σ') : Gc σ' st kn lb where
  pos := g.pos
  state := h.2
  known := h.1 _ _ g.ne.1 g.known
  labels := let ⟨l, h1, h2⟩ := g.labels; ⟨l, h.1 _ _ g.ne.2 h1, h2⟩
  ne := g.ne
theorem Pst.le {σ σ' : Store} {st : Nat} (hs : ∃ s c, σ[st]? = some (.list [.int s, .int c])) (h : Le σ σ') : Pst st σ σ' := ⟨h.but, let ⟨s, c, e⟩ := hs; ⟨s, c, h _ _ e⟩⟩

theorem LeBut.setNew {st : Nat} {σ τ : Store} {k : Nat} {o : O} (h : LeBut st σ τ) (hk : σ.length ≤ k) : LeBut st σ (τ.set k o) := fun n o' hn e => by
  rw [List.getElem?_set_ne (fun eq => by have := lt_of_get e; omega)]; exact h n o' hn e
theorem Pst.len {st : Nat} {σ τ : Store} (h : Pst st σ τ) (hs : ∃ s c, σ[st]? = some (.list [.int s, .int c])) : σ.length ≤ τ.length := by
  rcases Nat.lt_or_ge τ.length σ.length with hl | hl
  · obtain ⟨s, c, e⟩ := h.2
    have h1 := lt_of_get e
    have := h.1 τ.length _ (by omega) (List.getElem?_eq_getElem hl)
    rw [List.getElem?_eq_none (Nat.le_refl _)] at this; cases this
  · exact hl
theorem veq_ints {σ : Store} (a b : Int) : ∃ c, veq σ (.int a) (.int b) = some c := ⟨PyData.eqv (.int a) (.int b), rfl⟩
theorem Wp_eqInt {σ : Store} {Q : V → Store → Prop} {a b : Int} (h : ∀ c, Q (.bool c) σ) : Wp (cmp .Eq (.int a) (.int b)) σ Q := by
  obtain ⟨c, e⟩ := veq_ints (σ := σ) a b
  refine ⟨.bool c, σ, ?_, h c⟩
  show askS (fun σ => (veq σ (.int a) (.int b)).map V.bool) σ = _
  unfold askS; dsimp only; rw [e]; rfl
theorem toPy_list {σ : Store} {n : Nat} {l : List V} {ds : List PyData} (h : σ[n]? = some (.list l)) (hd : toPyTs (toPyF σ 3) l = some ds) : toPy σ (.ref n) = some (.list ds) := by
  show toPyF σ 4 n = _
  show (match σ[n]? with | some (.list l) => (toPyTs (toPyF σ 3) l).map PyData.list | _ => none) = _
  rw [h]; dsimp only; rw [hd]; rfl
theorem Wp_neKnown {σ : Store} {Q : V → Store → Prop} {n m : Nat} (h : σ[n]? = some (.list knownV)) (h' : σ[m]? = some (.list [])) (q : ∀ c, Q (.bool c) σ) : Wp (cmp .NotEq (.ref n) (.ref m)) σ Q := by
  have e1 := toPy_list (ds := [.tuple [.str (Str.ofString "f"), .int 1], .tuple [.str (Str.ofString "g"), .int 2], .tuple [.str (Str.ofString "h"), .int 0]]) h rfl
  have e2 := toPy_list (ds := []) h' rfl
  have e : ∃ c, veq σ (.ref n) (.ref m) = some c := by
    unfold veq
    rw [e1, e2]
    dsimp only
    rw [if_pos (by decide +kernel)]
    exact ⟨_, rfl⟩
  obtain ⟨c, e⟩ := e
  refine ⟨.bool (!c), σ, ?_, q _⟩
  show askS (fun σ => (veq σ (.ref n) (.ref m)).map fun e => V.bool (!e)) σ = _
  unfold askS; dsimp only; rw [e]; rfl

theorem vin_strs {σ : Store} {s : Str} : ∀ l : List V, (∀ x ∈ l, ∃ s, x = V.str s) → ∃ c, vin σ (.str s) l = some c
  | [], _ => ⟨false, rfl⟩
  | x :: r, h => by
    obtain ⟨t, rfl⟩ := h x (List.mem_cons_self ..)
    obtain ⟨c, hc⟩ := vin_strs r fun y hy => h y (List.mem_cons_of_mem _ hy)
    refine ⟨PyData.eqv (.str t) (.str s) || c, ?_⟩
    show (match veq σ (.str t) (.str s), vin σ (.str s) r with | some e, some t => some (e || t) | _, _ => none) = _
    rw [hc]; rfl
theorem Wp_notInStrs {σ : Store} {Q : V → Store → Prop} {s : Str} {n : Nat} {l : List V} (h : σ[n]? = some (.list l)) (hl : ∀ x ∈ l, ∃ s, x = V.str s) (q : ∀ c, Q (.bool c) σ) : Wp (cmp .NotIn (.str s) (.ref n)) σ Q := by
  obtain ⟨c, e⟩ := vin_strs (σ := σ) (s := s) l hl
  refine ⟨.bool (!c), σ, ?_, q _⟩
  show (getList n >>= fun l => askS fun σ => (vin σ (.str s) l).map fun e => V.bool (!e)) σ = _
  rw [bind_ok (getList_at h)]
  unfold askS; dsimp only; rw [e]; rfl

theorem label_at {l : List V} (hl : l.length = 4) (hs : ∀ x ∈ l, ∃ s, x = V.str s) (z : Int) : ∃ s, l[(z % ((l.length : Nat) : Int)).toNat]? = some (V.str s) := by
  have h1 : (z % ((l.length : Nat) : Int)).toNat < l.length := by rw [hl]; omega
  obtain ⟨s, e⟩ := hs _ (List.getElem_mem h1)
  exact ⟨s, by rw [List.getElem?_eq_getElem h1, e]⟩

def pairV (p : Str × V) : V := .tup [.str p.1, p.2]

theorem fields_ok {d n : Nat} {k : Int} {st kn lb : Nat} (ih : ∀ σ, Gc σ st kn lb → Wp (cl01 d "_law_body" [.ref st, .int k, .ref kn, .ref lb, .int ((n : Int) + 1)]) σ (fun r σ' => Pst st σ σ' ∧ Bod (n + 1) r)) (hd : 1 ≤ d) {σ : Store} (g : Gc σ st kn lb) :
    Wp (cl01 (d + 1) "_law_fields" [.ref st, .int k, .ref kn, .ref lb, .int ((n : Int) + 1)]) σ (fun r σ' => Pst st σ σ' ∧ ∃ fs : List (Str × V), r = .tup (fs.map pairV) ∧ fs.length ≤ 3 ∧ ∀ p ∈ fs, Bod (n + 1) p.2) := by
  obtain ⟨d, rfl⟩ : ∃ e, d = e + 1 := ⟨d - 1, by omega⟩
  rw [L_fields_sh]
  obtain ⟨s, c, hs⟩ := g.state
  refine Wp.step (next_ok hs g.pos) fun r σ₁ h => ?_
  obtain ⟨z, s', rfl, hz0, hz1, rfl⟩ := h
  have p1 : Pst st σ (σ.set st (.list [.int s', .int (c - 1)])) := ⟨LeBut.set, s', c - 1, set_get hs⟩
  have g1 := g.keep p1
  generalize σ.set st (.list [.int s', .int (c - 1)]) = σ₁ at p1 g1
  simp only [Wp_bind, Wp_newO, Wp_mod (b := 4) (by decide) (by decide), Wp_range (n := z % 4) (by omega) (by omega)]
  have hk1 : (σ₁ ++ [O.list []])[σ₁.length]? = some (.list []) := get_new
  have p2 : Pst st σ₁ (σ₁ ++ [O.list []]) := Pst.le g1.state Le.append
  have hlt : ∀ {m o}, σ₁[m]? = some o → m ≠ σ₁.length := fun h => Nat.ne_of_lt (lt_of_get h)
  have hkn : kn ≠ σ₁.length := hlt g1.known
  have hlb : lb ≠ σ₁.length := by obtain ⟨_, e, _⟩ := g1.labels; exact hlt e
  have hσf : σ.length ≤ σ₁.length := p1.len g.state
  have hst : st ≠ σ₁.length := by obtain ⟨_, _, e⟩ := g1.state; exact hlt e
  generalize hf : σ₁.length = f at hk1 hst hkn hlb hσf ⊢
  have hf0 : 0 < f := by have := g.pos; obtain ⟨_, _, e⟩ := g1.state; have := lt_of_get e; omega
  have g2 := g1.keep p2
  generalize σ₁ ++ [O.list []] = σ₂ at hk1 p2 g2 ⊢
  have p12 := p1.trans p2
  refine Wp_forAll (J := fun τ => True) walks_vals tgtOk_vals (fun i loc τ => Pst st σ τ ∧ (∃ o1 o2 o3, loc = [some (.ref st), some (.int k), some (.ref kn), some (.ref lb), some (.int ((n : Int) + 1)), some (.int z), some (.ref f), o1, o2, o3, none, none, none, none, none]) ∧
    Gc τ st kn lb ∧ ∃ fs : List (Str × V), τ[f]? = some (.list (fs.map pairV)) ∧ fs.length ≤ i ∧ ∀ p ∈ fs, Bod (n + 1) p.2) (fun _ _ _ _ => trivial) ⟨p12, ⟨_, _, _, rfl⟩, g2, [], hk1, Nat.le_refl _, by simp⟩ (fun i v loc τ hv hp => ?_) fun loc τ hp => ?_
  · obtain ⟨pp, ⟨o1, o2, o3, rfl⟩, gg, fs, hfs, hfl, hfb⟩ := hp
    obtain ⟨rfl, hi⟩ := range_val hv
    obtain ⟨l, hl, hl4, hls⟩ := gg.labels
    rw [L_fields_l1_step]
    have h4 : (0 : Int) < ((l.length : Nat) : Int) ∧ ((l.length : Nat) : Int) < 18446744073709551616 := by rw [hl4]; decide
    simp only [Wp_bind, Wp_div (b := 16) (by decide) (by decide), Wp_mod (b := 2) (by decide) (by decide), Wp_mul (a := 2) (.inl (by decide)), Wp_add, Wp_div (b := 4) (by decide) (by decide), Wp_mul (a := (i : Int)) (.inl (by unfold Small; omega)), Wp_lenRef hl, Wp_mod h4.1 h4.2]
    generalize (z / 4 + (i : Int) * (1 + 2 * (z / 16 % 2))) = zz
    generalize (1 + 2 * (z / 16 % 2)) = sp
    obtain ⟨lab, hlab⟩ := label_at hl4 hls zz
    rw [Wp_itemRef hl (Int.emod_nonneg _ (by omega)) hlab]
    rw [Wp_srcRef hfs]
    refine Wp_compPure (walks_lst fun τ' h => by rw [h]; exact hfs) tgtOk_lst L_fields_c1_ok (L_fields_c1_in ..) (fun loc => ∃ o, loc = [none, o]) ⟨_, rfl⟩ (fun v => match v with | .tup (a :: _) => some a | _ => none) (fun v loc hv hs => ?_) ?_ ?_
    · obtain ⟨o, rfl⟩ := hs
      obtain ⟨p, _, rfl⟩ := List.mem_map.mp hv
      rw [L_fields_c1_bind, Wp_pure]
      refine ⟨rfl, ⟨_, rfl⟩, ?_⟩
      rw [L_fields_c1_tst, Wp_pure]
      refine ⟨rfl, ?_⟩
      rw [if_pos rfl, L_fields_c1_elt, Wp_bind]
      rw [show pairV p = .tup [.str p.1, p.2] from rfl, Wp_itemTup (k := 0) (by decide) (show ([V.str p.1, p.2])[(0 : Int).toNat]? = some (.str p.1) from rfl), Wp_pure]
      exact ⟨rfl, rfl⟩
    · refine Nat.le_trans (List.length_filterMap_le _ _) ?_
      rw [List.length_map]
      have : (16777216 : Nat) = sizeLine := rfl
      omega
    · have hle : Le τ (τ ++ [O.list ((fs.map pairV).filterMap fun v => match v with | .tup (a :: _) => some a | _ => none)]) := Le.append
      have hnew : (τ ++ [O.list ((fs.map pairV).filterMap fun v => match v with | .tup (a :: _) => some a | _ => none)])[τ.length]? = some (.list ((fs.map pairV).filterMap fun v => match v with | .tup (a :: _) => some a | _ => none)) := get_new
      have hstr : ∀ x ∈ (fs.map pairV).filterMap (fun v => match v with | .tup (a :: _) => some a | _ => none), ∃ s, x = V.str s := fun x hx => by
        obtain ⟨v, hv, e⟩ := List.mem_filterMap.mp hx
        obtain ⟨p, _, rfl⟩ := List.mem_map.mp hv
        cases e; exact ⟨p.1, rfl⟩
      generalize τ ++ [O.list ((fs.map pairV).filterMap fun v => match v with | .tup (a :: _) => some a | _ => none)] = τ₁ at hle hnew ⊢
      refine Wp_notInStrs hnew hstr fun b => ?_
      rw [Wp_truthB]
      have pl : Pst st τ τ₁ := Pst.le gg.state hle
      have gl := gg.keep pl
      have hfs1 := hle _ _ hfs
      cases b with
      | false =>
        rw [if_neg (by decide), Wp_pure]
        exact .inl ⟨rfl, pp.trans pl, ⟨_, _, _, rfl⟩, gl, fs, hfs1, Nat.le_succ_of_le hfl, hfb⟩
      | true =>
        rw [if_pos rfl, Wp_bind, Wp_mtag hfs1, Wp_bind]
        refine (ih τ₁ gl).mono fun r τ₂ h => ?_
        obtain ⟨p2, hb⟩ := h
        have hfs2 := p2.1 f _ hst.symm hfs1
        rw [Wp_bind, Wp_append hfs2 hf0 (by rw [List.length_map]; have : (16777216 : Nat) = sizeLine := rfl; omega), Wp_pure]
        have p3 : Pst st σ (τ₂.set f (.list (fs.map pairV ++ [.tup [.str lab, r]]))) := by
          refine ⟨((pp.trans pl).trans p2).1.setNew hσf, ?_⟩
          obtain ⟨s, c, e⟩ := p2.2
          exact ⟨s, c, by rw [List.getElem?_set_ne hst.symm]; exact e⟩
        have g3 : Gc (τ₂.set f (.list (fs.map pairV ++ [.tup [.str lab, r]]))) st kn lb := by
          have g2 := gl.keep p2
          obtain ⟨l, h1, h2⟩ := g2.labels
          exact ⟨g2.pos, p3.2, by rw [List.getElem?_set_ne hkn.symm]; exact g2.known, ⟨l, by rw [List.getElem?_set_ne hlb.symm]; exact h1, h2⟩, g2.ne⟩
        refine .inl ⟨rfl, ?_, ⟨_, _, _, rfl⟩, ?_, fs ++ [(lab, r)], ?_, by simp; omega, fun p hp => ?_⟩
        · exact p3
        · exact g3
        · rw [List.map_append]; exact set_get hfs2
        · rcases List.mem_append.mp hp with hp | hp
          · exact hfb p hp
          · rw [List.mem_singleton.mp hp]; exact hb
  · obtain ⟨pp, ⟨o1, o2, o3, rfl⟩, gg, fs, hfs, hfl, hfb⟩ := hp
    show Wp (L_fields_a1 _ _) _ _
    rw [L_fields_a1_eq, Wp_bind, Wp_tupleRef hfs, Wp_pure]
    refine ⟨pp, fs, rfl, ?_, hfb⟩
    rw [range_len] at hfl; omega

theorem Bod.one {n : Nat} {v : V} (h : Shape v []) : Bod (n + 1) v := .mk h (by simp)

set_option maxHeartbeats 1000000 in
theorem body_ok {k : Int} {st kn lb : Nat} (hk : k ≤ 4) : ∀ (n d : Nat) (σ : Store), 2 * n + 2 ≤ d → Gc σ st kn lb → Wp (cl01 d "_law_body" [.ref st, .int k, .ref kn, .ref lb, .int ((n : Int) + 1)]) σ (fun r σ' => Pst st σ σ' ∧ Bod (n + 1) r) := by
  intro n
  induction n with
  | zero =>
    intro d σ hd g
    obtain ⟨d, rfl⟩ : ∃ e, d = e + 2 := ⟨d - 2, by omega⟩
    rw [L_body_sh]
    obtain ⟨s, c, hs⟩ := g.state
    refine Wp.step (next_ok hs g.pos) fun r σ₁ h => ?_
    obtain ⟨z, s', rfl, hz0, hz1, rfl⟩ := h
    have p1 : Pst st σ (σ.set st (.list [.int s', .int (c - 1)])) := ⟨LeBut.set, s', c - 1, set_get hs⟩
    have g1 := g.keep p1
    generalize σ.set st (.list [.int s', .int (c - 1)]) = σ₁ at p1 g1
    obtain ⟨l, hl, hl4, hls⟩ := g1.labels
    have h4 : (0 : Int) < ((l.length : Nat) : Int) ∧ ((l.length : Nat) : Int) < 18446744073709551616 := by rw [hl4]; decide
    simp only [Wp_bind, Wp_mod (b := 14) (by decide) (by decide), Wp_div (b := 14) (by decide) (by decide), Wp_lenRef hl, Wp_mod h4.1 h4.2]
    obtain ⟨lab, hlab⟩ := label_at hl4 hls (z / 14)
    rw [Wp_itemRef hl (Int.emod_nonneg _ (by omega)) hlab]
    simp only [Wp_le, Wp_truthB]
    rw [decide_eq_true (show ((0 : Nat) : Int) + 1 ≤ 1 by decide), cond_true, Wp_bind]
    refine (leaf_ok hk).mono fun r σ₂ h => Wp_pure.mpr ⟨p1.trans (Pst.le g1.state h.1), .one h.2⟩
  | succ n ih =>
    intro d σ hd g
    obtain ⟨d, rfl⟩ : ∃ e, d = e + 2 := ⟨d - 2, by omega⟩
    rw [L_body_sh]
    obtain ⟨s, c, hs⟩ := g.state
    refine Wp.step (next_ok hs g.pos) fun r σ₁ h => ?_
    obtain ⟨z, s', rfl, hz0, hz1, rfl⟩ := h
    have p1 : Pst st σ (σ.set st (.list [.int s', .int (c - 1)])) := ⟨LeBut.set, s', c - 1, set_get hs⟩
    have g1 := g.keep p1
    generalize σ.set st (.list [.int s', .int (c - 1)]) = σ₁ at p1 g1
    obtain ⟨l, hl, hl4, hls⟩ := g1.labels
    have h4 : (0 : Int) < ((l.length : Nat) : Int) ∧ ((l.length : Nat) : Int) < 18446744073709551616 := by rw [hl4]; decide
    simp only [Wp_bind, Wp_mod (b := 14) (by decide) (by decide), Wp_div (b := 14) (by decide) (by decide), Wp_lenRef hl, Wp_mod h4.1 h4.2]
    obtain ⟨lab, hlab⟩ := label_at hl4 hls (z / 14)
    rw [Wp_itemRef hl (Int.emod_nonneg _ (by omega)) hlab]
    have leaf : Wp (cl01 (d + 1) "_law_leaf" [.int (z / 14), .int k] >>= fun t => (pure t : M V)) σ₁ (fun r σ' => Pst st σ σ' ∧ Bod (n + 1 + 1) r) :=
      Wp.step (leaf_ok hk) fun r σ₂ h => Wp_pure.mpr ⟨p1.trans (Pst.le g1.state h.1), .one h.2⟩
    -- a body within
    have sub : ((n + 1 : Nat) : Int) + 1 - 1 = (n : Int) + 1 := by omega
    have inner : ∀ (τ : Store) {f : V → M V} {Q : V → Store → Prop}, Gc τ st kn lb → (∀ r τ', Pst st τ τ' → Gc τ' st kn lb → Bod (n + 1) r → Wp (f r) τ' Q) → Wp (binop .Sub (.int (((n + 1 : Nat) : Int) + 1)) (.int 1) >>= fun t => cl01 (d + 1) "_law_body" [.ref st, .int k, .ref kn, .ref lb, t] >>= f) τ Q := by
      intro τ f Q gt hf
      rw [Wp_bind, Wp_sub, sub]
      exact Wp.step (ih (d + 1) τ (by omega) gt) fun r τ' h => hf r τ' h.1 (gt.keep h.1) h.2
    have two : ∀ {x y : V}, Bod (n + 1) x → Bod (n + 1) y → ∀ v ∈ [x, y], Bod (n + 1) v := fun hx hy v hv => by
      rcases List.mem_cons.mp hv with rfl | hv
      · exact hx
      · rw [List.mem_singleton.mp hv]; exact hy
    have get : ∀ τ, Pst st σ τ → Gc τ st kn lb → Wp (binop .Sub (.int (((n + 1 : Nat) : Int) + 1)) (.int 1) >>= fun t => cl01 (d + 1) "_law_body" [.ref st, .int k, .ref kn, .ref lb, t] >>= fun b => (pure (V.tup [.str (Str.ofString "get"), b, .str lab]) : M V)) τ (fun r σ' => Pst st σ σ' ∧ Bod (n + 1 + 1) r) := fun τ pt gt =>
      inner τ gt fun r τ' p' _ hb => Wp_pure.mpr ⟨pt.trans p', .mk (.get r lab) fun v hv => by rw [List.mem_singleton.mp hv]; exact hb⟩
    have t5 : ∀ τ o1 o2 o3 o4, Pst st σ τ → Gc τ st kn lb → Wp (L_body_t5 (d + 1) (.ref st) (.int k) (.ref kn) (.ref lb) (.int (((n + 1 : Nat) : Int) + 1)) (.int z) (.int (z % 14)) (.int (z / 14)) (.str lab) o1 o2 o3 o4) τ (fun r σ' => Pst st σ σ' ∧ Bod (n + 1 + 1) r) := fun τ o1 o2 o3 o4 pt gt => by
      unfold L_body_t5
      refine inner τ gt fun a τ₁ pa ga ha => inner τ₁ ga fun b τ₂ pb gb hb => ?_
      rw [Wp_bind]
      refine Wp_eqInt fun c => ?_
      rw [Wp_bind, Wp_truthB]
      cases c with
      | true => exact Wp_pure.mpr ⟨(pt.trans pa).trans pb, .mk (.sum a b) (two ha hb)⟩
      | false =>
        rw [if_neg (by decide)]
        unfold L_body_t6
        exact inner τ₂ gb fun e τ₃ pe ge he => Wp_pure.mpr ⟨((pt.trans pa).trans pb).trans pe, .mk (.ite a b e) fun v hv => by
          rcases List.mem_cons.mp hv with rfl | hv
          · exact ha
          · exact two hb he v hv⟩
    have t4 : ∀ τ o1 o2 o3 o4, Pst st σ τ → Gc τ st kn lb → Wp (L_body_t4 (d + 1) (.ref st) (.int k) (.ref kn) (.ref lb) (.int (((n + 1 : Nat) : Int) + 1)) (.int z) (.int (z % 14)) (.int (z / 14)) (.str lab) o1 o2 o3 o4) τ (fun r σ' => Pst st σ σ' ∧ Bod (n + 1 + 1) r) := fun τ o1 o2 o3 o4 pt gt => by
      unfold L_body_t4
      rw [Wp_bind, Wp_lt, Wp_bind, Wp_truthB]
      cases decide (z % 14 < 9) with
      | false => exact t5 τ o1 o2 o3 o4 pt gt
      | true =>
        rw [if_pos rfl, Wp_bind, Wp_sub, sub]
        refine Wp.step (fields_ok (fun τ' gt' => ih d τ' (by omega) gt') (by omega) gt) fun r τ' h => ?_
        obtain ⟨p', fs, rfl, hf3, hfb⟩ := h
        exact Wp_pure.mpr ⟨pt.trans p', .mk (.make fs hf3) fun v hv => by
          obtain ⟨q, hq, rfl⟩ := List.mem_map.mp hv
          exact hfb q hq⟩
    have t3 : ∀ τ o1 o2 o3, Pst st σ τ → Gc τ st kn lb → Wp (L_body_t3 (d + 1) (.ref st) (.int k) (.ref kn) (.ref lb) (.int (((n + 1 : Nat) : Int) + 1)) (.int z) (.int (z % 14)) (.int (z / 14)) (.str lab) o1 o2 o3) τ (fun r σ' => Pst st σ σ' ∧ Bod (n + 1 + 1) r) := fun τ o1 o2 o3 pt gt => by
      unfold L_body_t3
      rw [Wp_bind, Wp_lt, Wp_bind, Wp_truthB]
      cases decide (z % 14 < 7) with
      | false => exact t4 τ o1 o2 o3 none pt gt
      | true =>
        rw [if_pos rfl]
        exact inner τ gt fun a τ₁ pa ga ha => inner τ₁ ga fun b τ₂ pb gb hb => Wp_pure.mpr ⟨(pt.trans pa).trans pb, .mk (.put a b lab) (two ha hb)⟩
    have t2 : ∀ τ o1 o2 o3, Pst st σ τ → Gc τ st kn lb → Wp (L_body_t2 (d + 1) (.ref st) (.int k) (.ref kn) (.ref lb) (.int (((n + 1 : Nat) : Int) + 1)) (.int z) (.int (z % 14)) (.int (z / 14)) (.str lab) o1 o2 o3) τ (fun r σ' => Pst st σ σ' ∧ Bod (n + 1 + 1) r) := fun τ o1 o2 o3 pt gt => by
      unfold L_body_t2
      rw [Wp_bind, Wp_lt, Wp_bind, Wp_truthB]
      cases decide (z % 14 < 5) with
      | true => exact get τ pt gt
      | false =>
        rw [cond_false, Wp_bind, Wp_gt, Wp_bind, Wp_truthB]
        cases decide (11 < z % 14) with
        | true => exact get τ pt gt
        | false => exact t3 τ o1 o2 o3 pt gt
    have t1 : Wp (L_body_t1 (d + 1) (.ref st) (.int k) (.ref kn) (.ref lb) (.int (((n + 1 : Nat) : Int) + 1)) (.int z) (.int (z % 14)) (.int (z / 14)) (.str lab)) σ₁ (fun r σ' => Pst st σ σ' ∧ Bod (n + 1 + 1) r) := by
      unfold L_body_t1
      rw [Wp_bind, Wp_gt, Wp_bind, Wp_truthB]
      cases decide (7 < z % 14) with
      | false => exact t2 σ₁ _ _ _ p1 g1
      | true =>
        rw [cond_true, Wp_bind, Wp_newO, Wp_bind]
        have pl : Pst st σ₁ (σ₁ ++ [O.list []]) := Pst.le g1.state Le.append
        have hnew : (σ₁ ++ [O.list []])[σ₁.length]? = some (.list []) := get_new
        have g2 := g1.keep pl
        generalize σ₁ ++ [O.list []] = σ₂ at pl hnew g2 ⊢
        refine Wp_neKnown g2.known hnew fun b => ?_
        rw [Wp_bind, Wp_truthB]
        cases b with
        | false => exact t2 σ₂ _ _ _ (p1.trans pl) g2
        | true =>
          rw [cond_true, Wp_bind]
          refine Wp_eqInt fun b => ?_
          rw [Wp_bind, Wp_truthB]
          cases b with
          | false => exact t2 σ₂ _ _ _ (p1.trans pl) g2
          | true =>
            rw [cond_true, Wp_bind, Wp_lenRef g2.known, Wp_bind, Wp_mod (show (0 : Int) < ((knownV.length : Nat) : Int) by decide) (show ((knownV.length : Nat) : Int) < 18446744073709551616 by decide), Wp_bind]
            have hj : 0 ≤ z / 14 % ((knownV.length : Nat) : Int) ∧ z / 14 % ((knownV.length : Nat) : Int) < 3 := by
              have : ((knownV.length : Nat) : Int) = 3 := rfl
              rw [this]; omega
            generalize z / 14 % ((knownV.length : Nat) : Int) = j at hj
            have hx : ∃ (nm : Str) (sz : Int), knownV[j.toNat]? = some (.tup [.str nm, .int sz]) ∧ 0 ≤ sz ∧ sz ≤ 2 := by
              have h3 : j.toNat < 3 := by omega
              generalize j.toNat = j' at h3
              rcases j' with _ | _ | _ | j'
              · exact ⟨_, _, rfl, by decide, by decide⟩
              · exact ⟨_, _, rfl, by decide, by decide⟩
              · exact ⟨_, _, rfl, by decide, by decide⟩
              · omega
            obtain ⟨nm, sz, hx, hs0, hs2⟩ := hx
            rw [Wp_itemRef g2.known hj.1 hx]
            have hb : ∀ loc : Loc, True := fun _ => trivial
            have hbind : bindTo (stLoc L_body_F.names) (sTgt (nthS (sBody (nthS L_body_F.body 5)) 0)) (.tup [.str nm, .int sz]) [some (.ref st), some (.int k), some (.ref kn), some (.ref lb), some (.int (((n + 1 : Nat) : Int) + 1)), some (.int z), some (.int (z % 14)), some (.int (z / 14)), some (.str lab), none, none, none, none, none, none, none, none, none, none, none, none] =
              pure [some (.ref st), some (.int k), some (.ref kn), some (.ref lb), some (.int (((n + 1 : Nat) : Int) + 1)), some (.int z), some (.int (z % 14)), some (.int (z / 14)), some (.str lab), some (.str nm), some (.int sz), none, none, none, none, none, none, none, none, none, none] := by kernel_rfl
            rw [hbind, Wp_bind, Wp_pure, L_body_a1_eq]
            simp only [Wp_bind, Wp_ofOpt, Wp_range (n := sz) (by omega) (by omega)]
            refine Wp_compAll (J := fun τ => True) walks_vals tgtOk_vals L_body_c1_ok (L_body_c1_in ..) (fun i acc loc τ => Pst st σ τ ∧ Gc τ st kn lb ∧ (∃ o, loc = [none, o, none, some (.ref kn), some (.ref lb), some (.int (((n + 1 : Nat) : Int) + 1)), some (.int k), some (.ref st)]) ∧ acc.length = i ∧ ∀ x ∈ acc, Bod (n + 1) x)
              (fun _ _ _ _ _ => trivial) ⟨p1.trans pl, g2, ⟨_, rfl⟩, rfl, by simp⟩ (fun i v acc loc τ hv hp => ?_) fun out loc τ hp => ?_
            · obtain ⟨pt, gt, ⟨o, rfl⟩, hlen, hall⟩ := hp
              rw [L_body_c1_bind, Wp_pure, L_body_c1_tst, Wp_pure, if_pos rfl, L_body_c1_elt]
              refine inner τ gt fun r τ' p' g' hb => Wp_pure.mpr ⟨pt.trans p', g', ⟨_, rfl⟩, by simp [hlen], fun x hx => ?_⟩
              rcases List.mem_append.mp hx with hx | hx
              · exact hall x hx
              · rw [List.mem_singleton.mp hx]; exact hb
            · obtain ⟨pt, gt, _, hlen, hall⟩ := hp
              rw [range_len] at hlen
              refine ⟨by rw [hlen]; have : (16777216 : Nat) = sizeLine := rfl; omega, ?_⟩
              rw [Wp_tupleRef get_new, Wp_pure]
              exact ⟨pt.trans (Pst.le gt.state Le.append), .mk (.call nm out (by omega)) hall⟩
    simp only [Wp_le, Wp_truthB]
    cases decide (((n + 1 : Nat) : Int) + 1 ≤ 1) with
    | true => exact leaf
    | false =>
      rw [cond_false, Wp_bind]
      obtain ⟨s2, c2, hs2⟩ := g1.state
      rw [Wp_itemRef hs2 (show (0 : Int) ≤ 1 by decide) (show ([V.int s2, V.int c2])[(1 : Int).toNat]? = some (.int c2) from rfl), Wp_bind, Wp_le, Wp_bind, Wp_truthB]
      cases decide (c2 ≤ 0) with
      | true => exact leaf
      | false =>
        rw [cond_false, Wp_bind, Wp_lt, Wp_bind, Wp_truthB]
        cases decide (z % 14 < 2) with
        | true => exact leaf
        | false => exact t1
end Mine

namespace Mine
open PySem

/-! ## equal data -/
inductive Cl : Nat → V → Prop
  | none {n : Nat} : Cl n .none
  | bool {n : Nat} (b : Bool) : Cl n (.bool b)
  | int {n : Nat} (i : Int) : Cl n (.int i)
  | str {n : Nat} (s : Str) : Cl n (.str s)
  | tup {n : Nat} {l : List V} : (∀ x ∈ l, Cl n x) → Cl (n + 1) (.tup l)

theorem Cl.mono {n : Nat} {v : V} (h : Cl n v) : ∀ {m : Nat}, n ≤ m → Cl m v := by
  induction h with
  | none => exact fun _ => .none
  | bool b => exact fun _ => .bool b
  | int i => exact fun _ => .int i
  | str s => exact fun _ => .str s
  | tup _ ih =>
    intro m hm
    obtain ⟨m, rfl⟩ : ∃ k, m = k + 1 := ⟨m - 1, by omega⟩
    exact .tup fun x hx => ih x hx (by omega)

theorem cls_data {n : Nat} : ∀ l : List V, (∀ x ∈ l, ∃ d, (∀ f, toPyT f x = some d) ∧ PyData.eqv d d = true ∧ d.depth ≤ n) → ∃ ds, (∀ f, toPyTs f l = some ds) ∧ PyData.eqvAll ds ds = true ∧ PyData.depthAll ds ≤ n
  | [], _ => ⟨[], fun _ => rfl, rfl, Nat.zero_le _⟩
  | x :: r, h => by
    obtain ⟨d, h1, h2, h3⟩ := h x (List.mem_cons_self ..)
    obtain ⟨ds, h4, h5, h6⟩ := cls_data r fun y hy => h y (List.mem_cons_of_mem _ hy)
    refine ⟨d :: ds, fun f => ?_, ?_, ?_⟩
    · show (match toPyT f x, toPyTs f r with | some d, some ds => some (d :: ds) | _, _ => none) = _
      rw [h1, h4]
    · rw [PyData.eqvAll, h2, h5]; rfl
    · rw [PyData.depthAll]; omega
theorem cl_data {n : Nat} {v : V} (h : Cl n v) : ∃ d, (∀ f, toPyT f v = some d) ∧ PyData.eqv d d = true ∧ d.depth ≤ n := by
  induction h with
  | none => exact ⟨.none, fun _ => rfl, rfl, Nat.zero_le _⟩
  | bool b => exact ⟨.bool b, fun _ => rfl, by rw [PyData.eqv]; simp, Nat.zero_le _⟩
  | int i => exact ⟨.int i, fun _ => rfl, by rw [PyData.eqv]; simp, Nat.zero_le _⟩
  | str s => exact ⟨.str s, fun _ => rfl, by rw [PyData.eqv]; simp, Nat.zero_le _⟩
  | tup _ ih =>
    obtain ⟨ds, h1, h2, h3⟩ := cls_data _ ih
    refine ⟨.tuple ds, fun f => ?_, by rw [PyData.eqv]; exact h2, by rw [PyData.depth]; omega⟩
    show (toPyTs f _).map PyData.tuple = _
    rw [h1]; rfl
theorem veq_same {σ : Store} {a b n : Nat} {l : List V} (ha : σ[a]? = some (.list l)) (hb : σ[b]? = some (.list l)) (hl : ∀ x ∈ l, Cl n x) (hn : n ≤ 190) : veq σ (.ref a) (.ref b) = some true := by
  obtain ⟨ds, h1, h2, h3⟩ := cls_data (n := n) l fun x hx => cl_data (hl x hx)
  unfold veq
  rw [toPy_list ha (h1 _), toPy_list hb (h1 _)]
  dsimp only
  have hd : (PyData.list ds).depth ≤ 191 := by rw [PyData.depth]; omega
  rw [if_pos (Nat.le_trans (Nat.min_le_left _ _) (by omega)), PyData.eqv, h2]
theorem Wp_neSame {σ : Store} {Q : V → Store → Prop} {a b n : Nat} {l : List V} (ha : σ[a]? = some (.list l)) (hb : σ[b]? = some (.list l)) (hl : ∀ x ∈ l, Cl n x) (hn : n ≤ 190) : Wp (cmp .NotEq (.ref a) (.ref b)) σ Q ↔ Q (.bool false) σ := Wp_ok (by
  show askS (fun σ => (veq σ (.ref a) (.ref b)).map fun e => V.bool (!e)) σ = _
  unfold askS; dsimp only; rw [veq_same ha hb hl hn]; rfl)
theorem Wp_eqSame {σ : Store} {Q : V → Store → Prop} {a b n : Nat} {l : List V} (ha : σ[a]? = some (.list l)) (hb : σ[b]? = some (.list l)) (hl : ∀ x ∈ l, Cl n x) (hn : n ≤ 190) : Wp (cmp .Eq (.ref a) (.ref b)) σ Q ↔ Q (.bool true) σ := Wp_ok (by
  show askS (fun σ => (veq σ (.ref a) (.ref b)).map V.bool) σ = _
  unfold askS; dsimp only; rw [veq_same ha hb hl hn]; rfl)

/-! ## kids and places -/
theorem Bod.tup {n : Nat} {v : V} (h : Bod n v) : ∃ l, v = .tup l := by
  cases h with
  | mk s _ => cases s <;> exact ⟨_, rfl⟩
theorem Shape.few {v : V} {ks : List V} (h : Shape v ks) : ks.length ≤ 3 := by
  cases h with
  | make fs hf => rw [List.length_map]; exact hf
  | call f ks hk => omega
  | _ => simp
theorem Bod.cl {n : Nat} {v : V} (h : Bod n v) : Cl (3 * n) v := by
  induction h with
  | @mk n v ks s _ ih =>
    have up : ∀ x ∈ ks, ∀ m, 3 * n ≤ m → Cl m x := fun x hx m hm => (ih x hx).mono hm
    have e : 3 * (n + 1) = 3 * n + 2 + 1 := by omega
    rw [e]
    cases s with
    | leaf w z _ =>
      refine .tup fun x hx => ?_
      simp only [List.mem_cons, List.not_mem_nil, or_false] at hx
      rcases hx with rfl | rfl
      · exact .str _
      · exact .int _
    | get b s =>
      refine .tup fun x hx => ?_
      simp only [List.mem_cons, List.not_mem_nil, or_false] at hx
      rcases hx with rfl | rfl | rfl
      · exact .str _
      · exact up _ (by simp) _ (by omega)
      · exact .str _
    | put b c s =>
      refine .tup fun x hx => ?_
      simp only [List.mem_cons, List.not_mem_nil, or_false] at hx
      rcases hx with rfl | rfl | rfl | rfl
      · exact .str _
      · exact up _ (by simp) _ (by omega)
      · exact .str _
      · exact up _ (by simp) _ (by omega)
    | sum a b =>
      refine .tup fun x hx => ?_
      simp only [List.mem_cons, List.not_mem_nil, or_false] at hx
      rcases hx with rfl | rfl | rfl
      · exact .str _
      · exact up _ (by simp) _ (by omega)
      · exact up _ (by simp) _ (by omega)
    | ite a b c =>
      refine .tup fun x hx => ?_
      simp only [List.mem_cons, List.not_mem_nil, or_false] at hx
      rcases hx with rfl | rfl | rfl | rfl
      · exact .str _
      · exact up _ (by simp) _ (by omega)
      · exact up _ (by simp) _ (by omega)
      · exact up _ (by simp) _ (by omega)
    | make fs _ =>
      refine .tup fun x hx => ?_
      simp only [List.mem_cons, List.not_mem_nil, or_false] at hx
      rcases hx with rfl | rfl
      · exact .str _
      · refine .tup fun x hx => ?_
        obtain ⟨p, hp, rfl⟩ := List.mem_map.mp hx
        refine .tup fun x hx => ?_
        simp only [List.mem_cons, List.not_mem_nil, or_false] at hx
        rcases hx with rfl | rfl
        · exact .str _
        · exact up _ (List.mem_map.mpr ⟨p, hp, rfl⟩) _ (by omega)
    | call f ks _ =>
      refine .tup fun x hx => ?_
      simp only [List.mem_cons, List.not_mem_nil, or_false] at hx
      rcases hx with rfl | rfl | rfl
      · exact .str _
      · exact .str _
      · exact .tup fun x hx => up x hx _ (by omega)

def isTup : V → Bool
  | .tup _ => true
  | _ => false
def sndV : V → V
  | .tup [_, x] => x
  | _ => .none
def kidsV : V → List V
  | .tup (.str w :: r) =>
    if w = Str.ofString "make" then (match r with | [.tup l] => l.map sndV | _ => [])
    else if w = Str.ofString "call" then (match r with | [_, .tup ks] => ks | _ => [])
    else r.filter isTup
  | _ => []

theorem kids_of {v : V} {ks : List V} (h : Shape v ks) (ht : ∀ x ∈ ks, ∃ l, x = .tup l) : kidsV v = ks := by
  have tt : ∀ x ∈ ks, isTup x = true := fun x hx => by obtain ⟨l, rfl⟩ := ht x hx; rfl
  cases h with
  | leaf w z hw =>
    rcases hw with rfl | rfl
    · unfold kidsV; dsimp only
      rw [if_neg (by decide +kernel), if_neg (by decide +kernel)]; rfl
    · unfold kidsV; dsimp only
      rw [if_neg (by decide +kernel), if_neg (by decide +kernel)]; rfl
  | get b s =>
    unfold kidsV; dsimp only
    rw [if_neg (by decide +kernel), if_neg (by decide +kernel)]
    obtain ⟨l, rfl⟩ := ht b (by simp)
    rfl
  | put b c s =>
    unfold kidsV; dsimp only
    rw [if_neg (by decide +kernel), if_neg (by decide +kernel)]
    obtain ⟨l, rfl⟩ := ht b (by simp)
    obtain ⟨l', rfl⟩ := ht c (by simp)
    rfl
  | sum a b =>
    unfold kidsV; dsimp only
    rw [if_neg (by decide +kernel), if_neg (by decide +kernel)]
    exact List.filter_eq_self.mpr tt
  | ite a b c =>
    unfold kidsV; dsimp only
    rw [if_neg (by decide +kernel), if_neg (by decide +kernel)]
    exact List.filter_eq_self.mpr tt
  | make fs _ =>
    unfold kidsV; dsimp only
    rw [if_pos rfl]
    show List.map sndV (fs.map fun p => V.tup [.str p.1, p.2]) = _
    rw [List.map_map]; rfl
  | call f ks _ =>
    unfold kidsV; dsimp only
    rw [if_neg (by decide +kernel), if_pos rfl]

abbrev Pt := List V × V
def consI (i : Nat) (q : Pt) : Pt := (.int i :: q.1, q.2)
def plL (f : V → List Pt) : Nat → List V → List Pt
  | _, [] => []
  | i, x :: xs => (f x).map (consI i) ++ plL f (i + 1) xs
def pl : Nat → V → List Pt
  | 0, _ => []
  | n + 1, v => plL (pl n) 0 (kidsV v) ++ [([], v)]

theorem plL_append {f : V → List Pt} : ∀ (xs ys : List V) (i : Nat), plL f i (xs ++ ys) = plL f i xs ++ plL f (i + xs.length) ys
  | [], ys, i => rfl
  | x :: xs, ys, i => by
    show (f x).map (consI i) ++ plL f (i + 1) (xs ++ ys) = ((f x).map (consI i) ++ plL f (i + 1) xs) ++ plL f (i + (xs.length + 1)) ys
    rw [plL_append xs ys (i + 1), List.append_assoc, show i + 1 + xs.length = i + (xs.length + 1) by omega]
theorem plL_take {f : V → List Pt} {ks : List V} {i : Nat} {x : V} (h : ks[i]? = some x) : plL f 0 (ks.take (i + 1)) = plL f 0 (ks.take i) ++ (f x).map (consI i) := by
  rw [List.take_add_one, h, Option.toList_some, plL_append]
  show _ ++ ((f x).map (consI _) ++ []) = _
  have : (ks.take i).length = i := by rw [List.length_take]; have := lt_of_get h; omega
  rw [List.append_nil, this, Nat.zero_add]
theorem plL_len {f : V → List Pt} {m : Nat} : ∀ (ks : List V) (i : Nat), (∀ x ∈ ks, (f x).length ≤ m) → (plL f i ks).length ≤ ks.length * m
  | [], i, _ => by simp [plL]
  | x :: xs, i, h => by
    show ((f x).map (consI i) ++ plL f (i + 1) xs).length ≤ (xs.length + 1) * m
    have h1 := h x (List.mem_cons_self ..)
    have h2 := plL_len xs (i + 1) fun y hy => h y (List.mem_cons_of_mem _ hy)
    rw [List.length_append, List.length_map, Nat.add_mul, Nat.one_mul]; omega
theorem plL_mem {f : V → List Pt} {q : Pt} : ∀ (ks : List V) (i : Nat), q ∈ plL f i ks → ∃ j x r, ks[j]? = some x ∧ r ∈ f x ∧ q = consI (i + j) r
  | [], i, h => by cases h
  | x :: xs, i, h => by
    rcases List.mem_append.mp h with h | h
    · obtain ⟨r, hr, rfl⟩ := List.mem_map.mp h
      exact ⟨0, x, r, rfl, hr, rfl⟩
    · obtain ⟨j, y, r, h1, h2, h3⟩ := plL_mem xs (i + 1) h
      exact ⟨j + 1, y, r, h1, h2, by rw [h3]; congr 1; omega⟩

theorem kids_bod {n : Nat} {v : V} (h : Bod (n + 1) v) : Shape v (kidsV v) ∧ (∀ x ∈ kidsV v, Bod n x) ∧ (kidsV v).length ≤ 3 := by
  cases h with
  | mk s hk =>
    have := kids_of s fun x hx => (hk x hx).tup
    rw [this]
    exact ⟨s, hk, s.few⟩

theorem pl_len : ∀ {n : Nat} {v : V}, Bod n v → (pl n v).length ≤ 4 ^ n
  | 0, v, h => by cases h
  | n + 1, v, h => by
    obtain ⟨_, hk, hl⟩ := kids_bod h
    show (plL (pl n) 0 (kidsV v) ++ [([], v)]).length ≤ _
    have h1 := plL_len (f := pl n) (m := 4 ^ n) (kidsV v) 0 fun x hx => pl_len (hk x hx)
    have h2 : (kidsV v).length * 4 ^ n ≤ 3 * 4 ^ n := Nat.mul_le_mul_right _ hl
    have h3 : 1 ≤ 4 ^ n := Nat.one_le_pow _ _ (by decide)
    rw [List.length_append, Nat.pow_succ]
    show _ + 1 ≤ _
    omega
theorem pl_fits {n : Nat} {v : V} (h : Bod n v) (hn : n ≤ 8) : (pl n v).length ≤ 65536 := Nat.le_trans (pl_len h) (Nat.pow_le_pow_right (by decide) hn)
/-- the places are rows of numbers -/
theorem pl_ints : ∀ {n : Nat} {v : V} {q : Pt}, q ∈ pl n v → q.1.length ≤ n ∧ ∀ x ∈ q.1, ∃ i : Nat, x = .int i
  | 0, v, q, h => by cases h
  | n + 1, v, q, h => by
    rcases List.mem_append.mp h with h | h
    · obtain ⟨j, x, r, _, hr, rfl⟩ := plL_mem _ _ h
      obtain ⟨h1, h2⟩ := pl_ints hr
      refine ⟨by show r.1.length + 1 ≤ n + 1; omega, fun y hy => ?_⟩
      rcases List.mem_cons.mp hy with rfl | hy
      · exact ⟨_, rfl⟩
      · exact h2 y hy
    · rw [List.mem_singleton.mp h]
      exact ⟨Nat.zero_le _, fun y hy => by cases hy⟩
theorem pl_bod : ∀ {n : Nat} {v : V} {q : Pt}, Bod n v → q ∈ pl n v → ∃ m, m ≤ n ∧ Bod m q.2
  | 0, v, q, hb, h => by cases h
  | n + 1, v, q, hb, h => by
    rcases List.mem_append.mp h with h | h
    · obtain ⟨j, x, r, hx, hr, rfl⟩ := plL_mem _ _ h
      obtain ⟨m, hm, b⟩ := pl_bod ((kids_bod hb).2.1 x (List.mem_of_getElem? hx)) hr
      exact ⟨m, by omega, b⟩
    · rw [List.mem_singleton.mp h]; exact ⟨n + 1, Nat.le_refl _, hb⟩
end Mine

namespace Mine
open PySem

/-! ## parts and kids, as the texts tell them -/
def NewList (σ : Store) (l : List V) (r : V) (σ' : Store) : Prop := Le σ σ' ∧ ∃ m, r = .ref m ∧ σ.length ≤ m ∧ σ'[m]? = some (.list l)
theorem NewList.new {σ : Store} {l : List V} : NewList σ l (.ref σ.length) (σ ++ [.list l]) := ⟨Le.append, _, rfl, Nat.le_refl _, get_new⟩

theorem eq_str {σ : Store} {Q : V → Store → Prop} {a b : Str} : Wp (cmp .Eq (.str a) (.str b)) σ Q ↔ Q (.bool (a == b)) σ := Wp_ok rfl
theorem Wp_item0 {σ : Store} {Q : V → Store → Prop} {a : V} {r : List V} : Wp (item (.tup (a :: r)) (.int 0)) σ Q ↔ Q a σ := Wp_itemTup (by decide) rfl
theorem Wp_item1 {σ : Store} {Q : V → Store → Prop} {a b : V} {r : List V} : Wp (item (.tup (a :: b :: r)) (.int 1)) σ Q ↔ Q b σ := Wp_itemTup (by decide) rfl
theorem Wp_item2 {σ : Store} {Q : V → Store → Prop} {a b c : V} {r : List V} : Wp (item (.tup (a :: b :: c :: r)) (.int 2)) σ Q ↔ Q c σ := Wp_itemTup (by decide) rfl
theorem Wp_item3 {σ : Store} {Q : V → Store → Prop} {a b c e : V} {r : List V} : Wp (item (.tup (a :: b :: c :: e :: r)) (.int 3)) σ Q ↔ Q e σ := Wp_itemTup (by decide) rfl
theorem Wp_boundInt {σ : Store} {Q : Option Int → Store → Prop} {k : Int} : Wp (bound (.int k)) σ Q ↔ Q (some k) σ := Wp_ok rfl
theorem Wp_boundNone {σ : Store} {Q : Option Int → Store → Prop} : Wp (bound .none) σ Q ↔ Q none σ := Wp_ok rfl
theorem Wp_sliceTup {σ : Store} {Q : V → Store → Prop} {lo hi : Option Int} {l : List V} : Wp (sliceV lo hi (.tup l)) σ Q ↔ Q (.tup (cut l lo hi)) σ := Wp_ok rfl
theorem Wp_kdInt {σ : Store} {Q : V → Store → Prop} {k : Kd} {i : Int} : Wp (isKd k (.int i)) σ Q ↔ Q (.bool (match k with | .int => true | _ => false)) σ := Wp_ok rfl
theorem Wp_kdStr {σ : Store} {Q : V → Store → Prop} {k : Kd} {s : Str} : Wp (isKd k (.str s)) σ Q ↔ Q (.bool (match k with | .str => true | _ => false)) σ := Wp_ok rfl
/-- all but the first -/
theorem Wp_rest {σ : Store} {Q : V → Store → Prop} {a : V} {r : List V} {f : V → M V} : Wp (bound (V.int 1) >>= fun i => bound V.none >>= fun j => sliceV i j (.tup (a :: r)) >>= f) σ Q ↔ Wp (f (.tup r)) σ Q := by
  have e : cut (a :: r) (some 1) none = r := by
    unfold cut
    have h1 : clipAt (a :: r).length 1 = 1 := by
      unfold clipAt
      simp
      omega
    show ((a :: r).drop (clipAt (a :: r).length 1)).take ((a :: r).length - clipAt (a :: r).length 1) = r
    rw [h1]; simp
  rw [Wp_bind, Wp_boundInt, Wp_bind, Wp_boundNone, Wp_bind, Wp_sliceTup, e]

theorem parts_ok {d : Nat} {σ : Store} {v : V} {ks : List V} (h : Shape v ks) : Wp (cl01 (d + 1) "parts_of" [v]) σ (NewList σ ks) := by
  rw [P_parts_of_sh]
  have n1 : (Str.ofString "get" == Str.ofString "make") = false := by decide +kernel
  have n2 : (Str.ofString "put" == Str.ofString "make") = false := by decide +kernel
  have n3 : (Str.ofString "put" == Str.ofString "get") = false := by decide +kernel
  have n4 : (Str.ofString "sum" == Str.ofString "make") = false := by decide +kernel
  have n5 : (Str.ofString "sum" == Str.ofString "get") = false := by decide +kernel
  have n6 : (Str.ofString "sum" == Str.ofString "put") = false := by decide +kernel
  have n7 : (Str.ofString "if" == Str.ofString "make") = false := by decide +kernel
  have n8 : (Str.ofString "if" == Str.ofString "get") = false := by decide +kernel
  have n9 : (Str.ofString "if" == Str.ofString "put") = false := by decide +kernel
  have n10 : (Str.ofString "if" == Str.ofString "sum") = false := by decide +kernel
  have m1 : (Str.ofString "call" == Str.ofString "make") = false := by decide +kernel
  have m2 : (Str.ofString "call" == Str.ofString "get") = false := by decide +kernel
  have m3 : (Str.ofString "call" == Str.ofString "put") = false := by decide +kernel
  have m4 : (Str.ofString "call" == Str.ofString "sum") = false := by decide +kernel
  have m5 : (Str.ofString "call" == Str.ofString "if") = false := by decide +kernel
  cases h with
  | leaf w z hw =>
    have o : ∀ w', w' ∈ [Str.ofString "make", Str.ofString "get", Str.ofString "put", Str.ofString "sum", Str.ofString "if", Str.ofString "call"] → (w == w') = false := by
      rcases hw with rfl | rfl <;> decide +kernel
    simp only [Wp_bind, Wp_item0, eq_str, Wp_truthB, o (Str.ofString "make") (by simp), Bool.false_eq_true, if_false, P_parts_of_t1, o (Str.ofString "get") (by simp), P_parts_of_t2, o (Str.ofString "put") (by simp), P_parts_of_t3, o (Str.ofString "sum") (by simp), o (Str.ofString "if") (by simp), cond_false, P_parts_of_t4, o (Str.ofString "call") (by simp), P_parts_of_t5, Wp_newO, Wp_pure]
    exact .new
  | get b s =>
    simp only [Wp_bind, Wp_item0, Wp_item1, eq_str, Wp_truthB, n1, Bool.false_eq_true, if_false, P_parts_of_t1, beq_self_eq_true, if_true, Wp_newO, Wp_pure]
    exact .new
  | put b c s =>
    simp only [Wp_bind, Wp_item0, Wp_item1, Wp_item3, eq_str, Wp_truthB, n2, n3, Bool.false_eq_true, if_false, P_parts_of_t1, P_parts_of_t2, beq_self_eq_true, if_true, Wp_newO, Wp_pure]
    exact .new
  | sum a b =>
    simp only [Wp_bind, Wp_item0, eq_str, Wp_truthB, n4, n5, n6, Bool.false_eq_true, if_false, P_parts_of_t1, P_parts_of_t2, P_parts_of_t3, beq_self_eq_true, if_true, cond_true]
    simp only [← Wp_bind]
    rw [Wp_rest, Wp_bind, Wp_listTup, Wp_pure]
    exact .new
  | ite a b c =>
    simp only [Wp_bind, Wp_item0, eq_str, Wp_truthB, n7, n8, n9, n10, Bool.false_eq_true, if_false, P_parts_of_t1, P_parts_of_t2, P_parts_of_t3, beq_self_eq_true, if_true, cond_true, cond_false]
    simp only [← Wp_bind]
    rw [Wp_rest, Wp_bind, Wp_listTup, Wp_pure]
    exact .new
  | make fs hf =>
    simp only [Wp_bind, Wp_item0, Wp_item1, eq_str, Wp_truthB, beq_self_eq_true, if_true, Wp_srcTup]
    refine Wp_compPure walks_vals tgtOk_vals P_parts_of_c1_ok (P_parts_of_c1_in ..) (fun loc => ∃ o1 o2, loc = [none, o1, o2]) ⟨_, _, rfl⟩ (fun v => some (sndV v)) (fun v loc hv hs => ?_) ?_ ?_
    · obtain ⟨o1, o2, rfl⟩ := hs
      obtain ⟨p, _, rfl⟩ := List.mem_map.mp hv
      rw [P_parts_of_c1_bind, Wp_pure]
      refine ⟨rfl, ⟨_, _, rfl⟩, ?_⟩
      rw [P_parts_of_c1_tst, Wp_pure]
      refine ⟨rfl, ?_⟩
      rw [if_pos rfl, P_parts_of_c1_elt, Wp_pure]
      exact ⟨rfl, rfl⟩
    · refine Nat.le_trans (List.length_filterMap_le _ _) ?_
      rw [List.length_map]
      have : (16777216 : Nat) = sizeLine := rfl
      omega
    · rw [Wp_pure]
      have e : (fs.map fun p => V.tup [.str p.1, p.2]).filterMap (fun v => some (sndV v)) = fs.map (·.2) := by
        rw [List.filterMap_eq_map', List.map_map]; rfl
      rw [e]
      exact .new
  | call f ks _ =>
    simp only [Wp_bind, Wp_item0, Wp_item2, eq_str, Wp_truthB, m1, m2, m3, m4, m5, Bool.false_eq_true, if_false, P_parts_of_t1, P_parts_of_t2, P_parts_of_t3, P_parts_of_t4, beq_self_eq_true, if_true, cond_false, Wp_listTup, Wp_pure]
    exact .new

theorem kidsT_ok {d : Nat} {σ : Store} {v : V} {ks : List V} (h : Shape v ks) (ht : ∀ x ∈ ks, ∃ l, x = .tup l) : Wp (cl01 (d + 1) "_law_kids" [v]) σ (NewList σ ks) := by
  rw [L_kids_sh]
  -- the plain ones
  have rest : ∀ (w : Str) (r : List V), (w == Str.ofString "make") = false → (w == Str.ofString "call") = false → r.length ≤ 10 → r.filter isTup = ks → (∀ x ∈ r, (∃ l, x = .tup l) ∨ (∃ z, x = .int z) ∨ ∃ s, x = .str s) →
      Wp (item (.tup (.str w :: r)) (V.int 0) >>= fun t204 => (cmp .Eq t204 (V.str (Str.ofString "make")) >>= fun t205 => (truth t205 >>= fun b206 => (if b206 = true then (item (.tup (.str w :: r)) (V.int 1) >>= fun t209 => (srcV t209 >>= fun s210 => (compAll (cf01 d) (cElt L_kids_c2) (cTgt L_kids_c2) (cIfs L_kids_c2) (cScope L_kids_c2) s210 L_kids_F.names [some (.tup (.str w :: r)), none] >>= fun t208 => (pure t208 : M V)))) else (L_kids_t1 d (.tup (.str w :: r))))))) σ (NewList σ ks) := by
    intro w r h1 h2 hlen hf hk
    simp only [Wp_bind, Wp_item0, eq_str, Wp_truthB, h1, Bool.false_eq_true, if_false, L_kids_t1, h2, L_kids_t2]
    simp only [← Wp_bind]
    rw [Wp_rest, Wp_bind, Wp_srcTup, Wp_bind]
    refine Wp_compPure walks_vals tgtOk_vals L_kids_c1_ok (L_kids_c1_in ..) (fun loc => ∃ o, loc = [none, o, none, none]) ⟨_, rfl⟩ (fun v => if isTup v then some v else none) (fun v loc hv hs => ?_) ?_ ?_
    · obtain ⟨o, rfl⟩ := hs
      rw [L_kids_c1_bind, Wp_pure]
      refine ⟨rfl, ⟨_, rfl⟩, ?_⟩
      rw [L_kids_c1_tst, Wp_bind]
      rcases hk v hv with ⟨l, rfl⟩ | ⟨z, rfl⟩ | ⟨s, rfl⟩
      · rw [Wp_kd, Wp_bind, Wp_truthB, Wp_pure]
        refine ⟨rfl, ?_⟩
        rw [if_pos rfl, L_kids_c1_elt, Wp_pure]
        exact ⟨rfl, rfl⟩
      · rw [Wp_kdInt, Wp_bind, Wp_truthB, Wp_pure]
        exact ⟨rfl, rfl⟩
      · rw [Wp_kdStr, Wp_bind, Wp_truthB, Wp_pure]
        exact ⟨rfl, rfl⟩
    · refine Nat.le_trans (List.length_filterMap_le _ _) ?_
      have : (16777216 : Nat) = sizeLine := rfl
      omega
    · rw [Wp_pure]
      have e : r.filterMap (fun v => if isTup v then some v else none) = r.filter isTup := by
        have : (fun v => if isTup v = true then some v else none) = Option.guard isTup := by
          funext v; simp [Option.guard]
        rw [this, List.filterMap_eq_filter]
      rw [e, hf]
      exact .new
  have hkv := kids_of h ht
  have tt : ∀ {x}, x ∈ ks → (∃ l, x = V.tup l) ∨ (∃ z, x = V.int z) ∨ ∃ s, x = V.str s := fun hx => .inl (ht _ hx)
  cases h with
  | leaf w z hw =>
    refine rest w [.int z] (by rcases hw with rfl | rfl <;> decide +kernel) (by rcases hw with rfl | rfl <;> decide +kernel) (by simp) rfl fun x hx => ?_
    rw [List.mem_singleton.mp hx]; exact .inr (.inl ⟨z, rfl⟩)
  | get b s =>
    obtain ⟨l, rfl⟩ := ht b (by simp)
    refine rest _ [.tup l, .str s] (by decide +kernel) (by decide +kernel) (by simp) rfl fun x hx => ?_
    simp only [List.mem_cons, List.not_mem_nil, or_false] at hx
    rcases hx with rfl | rfl
    · exact .inl ⟨_, rfl⟩
    · exact .inr (.inr ⟨_, rfl⟩)
  | put b c s =>
    obtain ⟨l, rfl⟩ := ht b (by simp)
    obtain ⟨l', rfl⟩ := ht c (by simp)
    refine rest _ [.tup l, .str s, .tup l'] (by decide +kernel) (by decide +kernel) (by simp) rfl fun x hx => ?_
    simp only [List.mem_cons, List.not_mem_nil, or_false] at hx
    rcases hx with rfl | rfl | rfl
    · exact .inl ⟨_, rfl⟩
    · exact .inr (.inr ⟨_, rfl⟩)
    · exact .inl ⟨_, rfl⟩
  | sum a b =>
    exact rest _ [a, b] (by decide +kernel) (by decide +kernel) (by simp) (List.filter_eq_self.mpr fun x hx => by obtain ⟨l, rfl⟩ := ht x hx; rfl) fun x hx => tt hx
  | ite a b c =>
    exact rest _ [a, b, c] (by decide +kernel) (by decide +kernel) (by simp) (List.filter_eq_self.mpr fun x hx => by obtain ⟨l, rfl⟩ := ht x hx; rfl) fun x hx => tt hx
  | make fs hf =>
    simp only [Wp_bind, Wp_item0, Wp_item1, eq_str, Wp_truthB, beq_self_eq_true, if_true, Wp_srcTup]
    refine Wp_compPure walks_vals tgtOk_vals L_kids_c2_ok (L_kids_c2_in ..) (fun loc => ∃ o, loc = [none, o]) ⟨_, rfl⟩ (fun v => some (sndV v)) (fun v loc hv hs => ?_) ?_ ?_
    · obtain ⟨o, rfl⟩ := hs
      obtain ⟨p, _, rfl⟩ := List.mem_map.mp hv
      rw [L_kids_c2_bind, Wp_pure]
      refine ⟨rfl, ⟨_, rfl⟩, ?_⟩
      rw [L_kids_c2_tst, Wp_pure]
      refine ⟨rfl, ?_⟩
      rw [if_pos rfl, L_kids_c2_elt, Wp_bind, Wp_item1, Wp_pure]
      exact ⟨rfl, rfl⟩
    · refine Nat.le_trans (List.length_filterMap_le _ _) ?_
      rw [List.length_map]
      have : (16777216 : Nat) = sizeLine := rfl
      omega
    · rw [Wp_pure]
      have e : (fs.map fun p => V.tup [.str p.1, p.2]).filterMap (fun v => some (sndV v)) = fs.map (·.2) := by
        rw [List.filterMap_eq_map', List.map_map]; rfl
      rw [e]
      exact .new
  | call f ks _ =>
    have m1 : (Str.ofString "call" == Str.ofString "make") = false := by decide +kernel
    simp only [Wp_bind, Wp_item0, Wp_item2, eq_str, Wp_truthB, m1, Bool.false_eq_true, if_false, L_kids_t1, beq_self_eq_true, if_true, Wp_listTup, Wp_pure]
    exact .new
end Mine

namespace Mine
open PySem

def tupP (q : Pt) : V := .tup q.1
def duoP (q : Pt) : V := .tup [.tup q.1, q.2]

theorem places_ok : ∀ (n : Nat) (v : V) (d : Nat) (σ : Store), Bod n v → n ≤ 8 → n + 1 ≤ d → Wp (cl01 d "places_of" [v]) σ (NewList σ ((pl n v).map tupP))
  | 0, v, d, σ, h, _, _ => by cases h
  | n + 1, v, d, σ, h, hn, hd => by
    obtain ⟨d, rfl⟩ : ∃ e, d = e + 2 := ⟨d - 2, by omega⟩
    obtain ⟨hsh, hkb, hk3⟩ := kids_bod h
    have hsl : (16777216 : Nat) = sizeLine := rfl
    rw [P_places_of_sh, Wp_bind, Wp_newO]
    have hf0 : (σ ++ [O.list []])[σ.length]? = some (.list []) := get_new
    have hle0 : Le σ (σ ++ [O.list []]) := Le.append
    generalize hσ0 : σ ++ [O.list []] = σ₀ at hf0 hle0 ⊢
    refine Wp.step (parts_ok hsh) fun r σ₁ hr => ?_
    obtain ⟨hle1, m, rfl, hm, hml⟩ := hr
    rw [Wp_bind, Wp_enumRef hml, Wp_bind]
    have hall : (pl (n + 1) v).length ≤ 65536 := pl_fits h hn
    have hall' : (plL (pl n) 0 (kidsV v)).length ≤ 65535 := by
      have : (pl (n + 1) v).length = (plL (pl n) 0 (kidsV v)).length + 1 := by show (plL (pl n) 0 (kidsV v) ++ [([], v)]).length = _; rw [List.length_append]; rfl
      omega
    have hpre : ∀ i, (plL (pl n) 0 ((kidsV v).take i)).length ≤ 65535 := fun i => by
      have e := plL_append (f := pl n) ((kidsV v).take i) ((kidsV v).drop i) 0
      rw [List.take_append_drop] at e
      rw [e, List.length_append] at hall'
      omega
    refine Wp_forAll (J := fun τ => τ[m]? = some (.list (kidsV v))) (walks_enum fun τ h => h) (by kernel_rfl) (fun i loc τ => τ[m]? = some (.list (kidsV v)) ∧ Le σ τ ∧ ∃ f o1 o2, loc = [some v, some (.ref f), o1, o2, none, none, none] ∧ σ.length ≤ f ∧ τ[f]? = some (.list ((plL (pl n) 0 ((kidsV v).take i)).map tupP)))
      (fun _ _ _ h => h.1) ⟨hml, hle0.trans hle1, σ.length, _, _, rfl, Nat.le_refl _, hle1 _ _ hf0⟩ (fun i u loc τ hv hp => ?_) fun loc τ hp => ?_
    · obtain ⟨hmt, hle, f, o1, o2, rfl, hfl, hft⟩ := hp
      rw [List.getElem?_mapIdx] at hv
      cases hx : (kidsV v)[i]? with
      | none => rw [hx] at hv; cases hv
      | some x =>
        rw [hx] at hv
        cases hv
        have hbx := hkb x (List.mem_of_getElem? hx)
        rw [P_places_of_l1_step]
        refine Wp.step (places_ok n x (d + 1) τ hbx (by omega) (by omega)) fun r τ₁ hr => ?_
        obtain ⟨hle2, m2, rfl, hm2, hm2l⟩ := hr
        rw [Wp_bind, Wp_srcRef hm2l, Wp_bind]
        have hpx := pl_fits hbx (by omega)
        refine Wp_compPure (walks_lst fun τ' h => by rw [h]; exact hm2l) tgtOk_lst P_places_of_c1_ok (P_places_of_c1_in ..) (fun loc => ∃ o, loc = [none, o, some (.int i)]) ⟨_, rfl⟩ (fun v => match v with | .tup l => some (.tup (.int i :: l)) | _ => none) (fun u loc hu hs => ?_) ?_ ?_
        · obtain ⟨o, rfl⟩ := hs
          obtain ⟨q, hq, rfl⟩ := List.mem_map.mp hu
          rw [P_places_of_c1_bind, Wp_pure]
          refine ⟨rfl, ⟨_, rfl⟩, ?_⟩
          rw [P_places_of_c1_tst, Wp_pure]
          refine ⟨rfl, ?_⟩
          have hql := (pl_ints hq).1
          rw [if_pos rfl, P_places_of_c1_elt, Wp_bind, show tupP q = .tup q.1 from rfl, Wp_addTup (by simp; omega), Wp_pure]
          exact ⟨rfl, rfl⟩
        · refine Nat.le_trans (List.length_filterMap_le _ _) ?_
          rw [List.length_map]; omega
        · have e : ((pl n x).map tupP).filterMap (fun v => match v with | .tup l => some (.tup (.int i :: l)) | _ => none) = ((pl n x).map (consI i)).map tupP := by
            rw [List.filterMap_map, List.map_map]
            show List.filterMap (some ∘ (tupP ∘ consI i)) (pl n x) = _
            rw [List.filterMap_eq_map]
          rw [e]
          have hle3 : Le τ₁ (τ₁ ++ [O.list (((pl n x).map (consI i)).map tupP)]) := Le.append
          have hnew : (τ₁ ++ [O.list (((pl n x).map (consI i)).map tupP)])[τ₁.length]? = some (.list (((pl n x).map (consI i)).map tupP)) := get_new
          generalize τ₁ ++ [O.list (((pl n x).map (consI i)).map tupP)] = τ₂ at hle3 hnew ⊢
          have hft2 := hle3 _ _ (hle2 _ _ hft)
          rw [Wp_bind, Wp_addRef hft2 hnew (by simp only [List.length_map]; have := hpre i; omega), Wp_pure]
          refine .inl ⟨rfl, ?_, ?_, τ₂.length, _, _, rfl, ?_, ?_⟩
          · exact Le.append _ _ (hle3 _ _ (hle2 _ _ hmt))
          · exact ((hle.trans hle2).trans hle3).trans Le.append
          · have := ((hle.trans hle2).trans hle3).len; omega
          · rw [plL_take hx, List.map_append]; exact get_new
    · obtain ⟨hmt, hle, f, o1, o2, rfl, hfl, hft⟩ := hp
      show Wp (P_places_of_a1 _ _) _ _
      rw [P_places_of_a1_eq, Wp_bind, Wp_newO]
      rw [List.length_mapIdx, List.take_length] at hft
      have hft2 : (τ ++ [O.list [V.tup []]])[f]? = some (.list ((plL (pl n) 0 (kidsV v)).map tupP)) := Le.append _ _ hft
      rw [Wp_bind, Wp_addRef hft2 get_new (by simp only [List.length_map, List.length_singleton]; omega), Wp_pure]
      refine ⟨(hle.trans Le.append).trans Le.append, _, rfl, ?_, ?_⟩
      · have := hle.len; simp; omega
      · have e : (pl (n + 1) v).map tupP = (plL (pl n) 0 (kidsV v)).map tupP ++ [V.tup []] := by
          show (plL (pl n) 0 (kidsV v) ++ [([], v)]).map tupP = _
          rw [List.map_append]; rfl
        rw [e]; exact get_new

theorem due_ok : ∀ (n : Nat) (v : V) (d : Nat) (σ : Store), Bod n v → n ≤ 8 → n + 1 ≤ d → 0 < σ.length → Wp (cl01 d "_law_places" [v]) σ (NewList σ ((pl n v).map duoP))
  | 0, v, d, σ, h, _, _, _ => by cases h
  | n + 1, v, d, σ, h, hn, hd, hσ => by
    obtain ⟨d, rfl⟩ : ∃ e, d = e + 2 := ⟨d - 2, by omega⟩
    obtain ⟨hsh, hkb, hk3⟩ := kids_bod h
    have hsl : (16777216 : Nat) = sizeLine := rfl
    rw [L_places_sh, Wp_bind, Wp_newO]
    have hf0 : (σ ++ [O.list []])[σ.length]? = some (.list []) := get_new
    have hle0 : Le σ (σ ++ [O.list []]) := Le.append
    have hlen0 : (σ ++ [O.list []]).length = σ.length + 1 := by simp
    generalize hσ0 : σ ++ [O.list []] = σ₀ at hf0 hle0 hlen0 ⊢
    refine Wp.step (kidsT_ok hsh fun x hx => (hkb x hx).tup) fun r σ₁ hr => ?_
    obtain ⟨hle1, m, rfl, hm, hml⟩ := hr
    rw [Wp_bind, Wp_lenRef hml, Wp_bind, Wp_range (by omega) (by omega), Wp_bind]
    have hall : (pl (n + 1) v).length ≤ 65536 := pl_fits h hn
    have hall' : (plL (pl n) 0 (kidsV v)).length ≤ 65535 := by
      have : (pl (n + 1) v).length = (plL (pl n) 0 (kidsV v)).length + 1 := by show (plL (pl n) 0 (kidsV v) ++ [([], v)]).length = _; rw [List.length_append]; rfl
      omega
    have hpre : ∀ i, (plL (pl n) 0 ((kidsV v).take i)).length ≤ 65535 := fun i => by
      have e := plL_append (f := pl n) ((kidsV v).take i) ((kidsV v).drop i) 0
      rw [List.take_append_drop] at e
      rw [e, List.length_append] at hall'
      omega
    have hmf : m ≠ σ.length := by omega
    refine Wp_forAll (J := fun τ => True) walks_vals tgtOk_vals (fun i loc τ => τ[m]? = some (.list (kidsV v)) ∧ Le σ τ ∧ (∃ o1 o2 o3, loc = [some v, some (.ref σ.length), some (.ref m), o1, o2, o3, none, none, none, none]) ∧ τ[σ.length]? = some (.list ((plL (pl n) 0 ((kidsV v).take i)).map duoP)))
      (fun _ _ _ _ => trivial) ⟨hml, hle0.trans hle1, ⟨_, _, _, rfl⟩, hle1 _ _ hf0⟩ (fun i u loc τ hv hp => ?_) fun loc τ hp => ?_
    · obtain ⟨hmt, hle, ⟨o1, o2, o3, rfl⟩, hft⟩ := hp
      obtain ⟨rfl, hi⟩ := range_val hv
      have hi' : i < (kidsV v).length := by omega
      have hx : (kidsV v)[i]? = some (kidsV v)[i] := List.getElem?_eq_getElem hi'
      generalize (kidsV v)[i] = x at hx
      have hbx := hkb x (List.mem_of_getElem? hx)
      rw [L_places_l1_step, Wp_bind, Wp_itemRef hmt (by omega) (by simpa using hx)]
      refine Wp.step (due_ok n x (d + 1) τ hbx (by omega) (by omega) (by have := hle.len; omega)) fun r τ₁ hr => ?_
      obtain ⟨hle2, m2, rfl, hm2, hm2l⟩ := hr
      have hpx := pl_fits hbx (by omega)
      have hτl : σ.length < τ.length := lt_of_get hft
      have hm2f : m2 ≠ σ.length := by omega
      rw [Wp_bind, Wp_srcRef hm2l, Wp_bind]
      refine Wp_forAll (J := fun τ => τ[m2]? = some (.list ((pl n x).map duoP))) (walks_lst fun τ h => h) tgtOk_lst (fun j loc τ' => τ'[m2]? = some (.list ((pl n x).map duoP)) ∧ τ'[m]? = some (.list (kidsV v)) ∧ Le σ τ' ∧
          (∃ o2 o3, loc = [some v, some (.ref σ.length), some (.ref m), some (.int i), o2, o3, none, none, none, none]) ∧ τ'[σ.length]? = some (.list ((plL (pl n) 0 ((kidsV v).take i) ++ ((pl n x).take j).map (consI i)).map duoP)))
        (fun _ _ _ h => h.1) ⟨hm2l, hle2 _ _ hmt, hle.trans hle2, ⟨_, _, rfl⟩, by rw [List.take_zero, List.map_nil, List.append_nil]; exact hle2 _ _ hft⟩ (fun j u loc τ' hu hp => ?_) fun loc τ' hp => ?_
      · obtain ⟨h1, h2, h3, ⟨p2, p3, rfl⟩, h5⟩ := hp
        rw [List.getElem?_map] at hu
        cases hq : (pl n x)[j]? with
        | none => rw [hq] at hu; cases hu
        | some q =>
          rw [hq] at hu
          cases hu
          have hql := (pl_ints (List.mem_of_getElem? hq)).1
          rw [show duoP q = .tup [.tup q.1, q.2] from rfl, L_places_l2_step, Wp_bind, Wp_mtag h5, Wp_bind, Wp_addTup (by simp; omega), Wp_bind,
            Wp_append h5 hσ (by simp only [List.length_map, List.length_append, List.length_take]; have := hpre i; omega), Wp_pure]
          refine .inl ⟨rfl, ?_, ?_, h3.setNew (Nat.le_refl _), ⟨_, _, rfl⟩, ?_⟩
          · rw [List.getElem?_set_ne (Ne.symm hm2f)]; exact h1
          · rw [List.getElem?_set_ne (Ne.symm hmf)]; exact h2
          · rw [set_get h5, List.take_add_one, hq, Option.toList_some]
            simp only [List.map_append, List.map_cons, List.map_nil, List.append_assoc]
            rfl
      · obtain ⟨h1, h2, h3, ⟨p2, p3, rfl⟩, h5⟩ := hp
        show Wp (L_places_a1 _ _) _ _
        rw [L_places_a1_eq, Wp_pure]
        refine .inl ⟨rfl, h2, h3, ⟨_, _, _, rfl⟩, ?_⟩
        rw [h5, plL_take hx, List.length_map, List.take_length]
    · obtain ⟨hmt, hle, ⟨o1, o2, o3, rfl⟩, hft⟩ := hp
      rw [range_len, Int.toNat_natCast, List.take_length] at hft
      show Wp (L_places_a2 _ _) _ _
      rw [L_places_a2_eq, Wp_bind, Wp_mtag hft, Wp_bind, Wp_append hft hσ (by rw [List.length_map]; omega), Wp_pure]
      refine ⟨hle.setNew (Nat.le_refl _), _, rfl, Nat.le_refl _, ?_⟩
      rw [set_get hft]
      have e : (pl (n + 1) v).map duoP = (plL (pl n) 0 (kidsV v)).map duoP ++ [V.tup [V.tup [], v]] := by
        show (plL (pl n) 0 (kidsV v) ++ [([], v)]).map duoP = _
        rw [List.map_append]; rfl
      rw [e]

theorem at_ok {n : Nat} {v : V} {q : Pt} {d : Nat} {σ : Store} (h : Bod n v) (hq : q ∈ pl n v) : Wp (cl01 (d + 2) "at_place" [v, .tup q.1]) σ (fun r σ' => Le σ σ' ∧ r = q.2) := by
  rw [P_at_place_sh, Wp_bind, Wp_srcTup, Wp_bind]
  refine Wp_forAll (J := fun τ => True) walks_vals tgtOk_vals (fun i loc τ => Le σ τ ∧ ∃ m u o, loc = [some u, some (.tup q.1), o, none] ∧ Bod m u ∧ (q.1.drop i, q.2) ∈ pl m u) (fun _ _ _ _ => trivial) ⟨Le.refl, n, v, _, rfl, h, hq⟩ (fun i w loc τ hw hp => ?_) fun loc τ hp => ?_
  · obtain ⟨hle, m, u, o, rfl, hb, hm⟩ := hp
    have hdrop : q.1.drop i = w :: q.1.drop (i + 1) := by
      have hl := lt_of_get hw
      rw [List.drop_eq_getElem_cons hl]
      rw [List.getElem?_eq_getElem hl] at hw
      cases hw; rfl
    rw [hdrop] at hm
    rw [P_at_place_l1_step]
    cases m with
    | zero => cases hb
    | succ m =>
      obtain ⟨hsh, hkb, _⟩ := kids_bod hb
      rcases List.mem_append.mp hm with hm | hm
      · obtain ⟨j, x, r, hx, hr, e⟩ := plL_mem _ _ hm
        have e1 : w = .int j := by have h1 := (List.cons.inj (congrArg Prod.fst e)).1; rw [h1, Nat.zero_add]
        have e2 : q.1.drop (i + 1) = r.1 := by have := congrArg Prod.fst e; exact (List.cons.inj this).2
        have e3 : q.2 = r.2 := by have h1 := congrArg Prod.snd e; exact h1
        subst e1
        refine Wp.step (parts_ok hsh) fun r' τ₁ hr' => ?_
        obtain ⟨hle1, m1, rfl, _, hml⟩ := hr'
        rw [Wp_bind, Wp_itemRef hml (by omega) (by simpa using hx), Wp_pure]
        refine .inl ⟨rfl, hle.trans hle1, m, x, _, rfl, hkb x (List.mem_of_getElem? hx), ?_⟩
        rw [e2, e3]; exact hr
      · cases List.mem_singleton.mp hm
  · obtain ⟨hle, m, u, o, rfl, hb, hm⟩ := hp
    show Wp (P_at_place_a1 _ _) _ _
    rw [P_at_place_a1_eq, Wp_pure]
    refine ⟨hle, ?_⟩
    rw [List.drop_length] at hm
    cases m with
    | zero => cases hb
    | succ m =>
      rcases List.mem_append.mp hm with hm | hm
      · obtain ⟨j, x, r, hx, hr, e⟩ := plL_mem _ _ hm
        cases congrArg Prod.fst e
      · exact (congrArg Prod.snd (List.mem_singleton.mp hm)).symm
end Mine

namespace Mine
open PySem

theorem Wp_kdRef {σ : Store} {Q : V → Store → Prop} {k : Kd} {n : Nat} {l : List V} (h : σ[n]? = some (.list l)) : Wp (isKd k (.ref n)) σ Q ↔ Q (.bool (match k with | .list => true | _ => false)) σ := Wp_ok (by
  show (getList n >>= fun _ => pure (V.bool (match k with | .list => true | _ => false))) σ = _
  rw [bind_ok (getList_at h)]; rfl)

theorem tupP_cl {n : Nat} {v : V} {q : Pt} (h : q ∈ pl n v) : Cl 1 (tupP q) := .tup fun x hx => by
  obtain ⟨i, rfl⟩ := (pl_ints h).2 x hx
  exact .int _

/-- the first ones, or the second ones, of the due pairs -/
def fstV : V → V
  | .tup (a :: _) => a
  | _ => .none

theorem map_fst (ps : List Pt) : (ps.map duoP).filterMap (fun v => some (fstV v)) = ps.map tupP := by
  rw [List.filterMap_eq_map', List.map_map]; rfl
theorem map_snd (ps : List Pt) : (ps.map duoP).filterMap (fun v => some (sndV v)) = ps.map (·.2) := by
  rw [List.filterMap_eq_map', List.map_map]; rfl

set_option maxHeartbeats 1000000 in
theorem law01_wp (zs : List Int) : Wp (cl01 40 "law" [.ref 0]) [.list (zs.map .int)] (fun r _ => r = .bool true) := by
  have hsl : (16777216 : Nat) = sizeLine := rfl
  rw [show (40 : Nat) = 39 + 1 from rfl, L_law_sh]
  have h0 : ([O.list (zs.map V.int)] : Store)[0]? = some (.list (zs.map .int)) := rfl
  refine Wp.step (cell_ok (d := 38) h0 (by decide)) fun r σ h => ?_
  obtain ⟨rfl, c0, rfl, _, _⟩ := h
  rw [Wp_bind, Wp_mod (by decide) (by decide), Wp_bind, Wp_add]
  refine Wp.step (cell_ok (d := 38) h0 (by decide)) fun r σ h => ?_
  obtain ⟨rfl, c1, rfl, _, _⟩ := h
  rw [Wp_bind, Wp_mod (by decide) (by decide), Wp_bind, Wp_add, Wp_bind, Wp_newO]
  generalize hs1 : ([O.list (zs.map V.int)] : Store) ++ [.list [.int (1 + c0 % 2147483645), .int (4 + c1 % 10)]] = σ₁
  have hst : σ₁[1]? = some (.list [.int (1 + c0 % 2147483645), .int (4 + c1 % 10)]) := by rw [← hs1]; rfl
  have h01 : σ₁[0]? = some (.list (zs.map .int)) := by rw [← hs1]; rfl
  have hl1 : σ₁.length = 2 := by rw [← hs1]; rfl
  show Wp _ σ₁ _
  refine Wp.step (cell_ok (d := 38) h01 (by decide)) fun r σ h => ?_
  obtain ⟨e, c2, rfl, _, _⟩ := h
  rw [e]; clear e
  refine Wp.step (labels_ok (d := 38)) fun r σ₂ h => ?_
  obtain ⟨hle2, lb, ll, rfl, hlb, hlbl, hl4, hls⟩ := h
  rw [Wp_bind, Wp_newO]
  have hkn : (σ₂ ++ [O.list knownV])[σ₂.length]? = some (.list knownV) := get_new
  have hle3 : Le σ₂ (σ₂ ++ [O.list knownV]) := Le.append
  have hk2 : 2 ≤ σ₂.length := by have := hle2.len; omega
  show Wp _ (σ₂ ++ [O.list knownV]) _
  generalize σ₂ ++ [O.list knownV] = σ₃ at hkn hle3 ⊢
  have h03 := hle3 _ _ (hle2 _ _ h01)
  refine Wp.step (cell_ok (d := 38) h03 (by decide)) fun r σ h => ?_
  obtain ⟨e, c1', rfl, _, _⟩ := h
  rw [e]; clear e
  rw [Wp_bind, Wp_div (by decide) (by decide), Wp_bind, Wp_mod (by decide) (by decide)]
  have g3 : Gc σ₃ 1 σ₂.length lb := ⟨by decide, ⟨_, _, hle3 _ _ (hle2 _ _ hst)⟩, hkn, ⟨ll, hle3 _ _ hlbl, hl4, hls⟩, by omega, by omega⟩
  have hbody := body_ok (k := c1' / 10 % 5) (st := 1) (kn := σ₂.length) (lb := lb) (by omega) 7 39 σ₃ (by decide) g3
  refine Wp.step (show Wp (cl01 39 "_law_body" [.ref 1, .int (c1' / 10 % 5), .ref σ₂.length, .ref lb, .int 8]) σ₃ (fun r σ' => Pst 1 σ₃ σ' ∧ Bod (7 + 1) r) from hbody) fun b σ₄ h => ?_
  obtain ⟨p4, hb⟩ := h
  have hpos4 : 0 < σ₄.length := by obtain ⟨_, _, e⟩ := p4.2; have := lt_of_get e; omega
  refine Wp.step (due_ok 8 b 39 σ₄ hb (by decide) (by decide) hpos4) fun r σ₅ h => ?_
  obtain ⟨hle5, md, rfl, hmd, hdue⟩ := h
  refine Wp.step (places_ok 8 b 39 σ₅ hb (by decide) (by decide)) fun r σ₆ h => ?_
  obtain ⟨hle6, m1, rfl, hm1, hfound⟩ := h
  have hmd5 := lt_of_get hdue
  have hdue6 := hle6 _ _ hdue
  have hb : Bod 8 b := hb
  have hfit : (pl 8 b).length ≤ 65536 := pl_fits hb (by decide)
  have hcl : ∀ x ∈ (pl 8 b).map tupP, Cl 1 x := fun x hx => by obtain ⟨q, hq, rfl⟩ := List.mem_map.mp hx; exact tupP_cl hq
  rw [Wp_bind, Wp_kdRef hfound, Wp_bind, Wp_truthB]
  show Wp (cond (!true) _ _) _ _
  rw [show (!true) = false from rfl, cond_false, Wp_bind, Wp_srcRef hdue6, Wp_bind]
  refine Wp_compPure (walks_lst fun τ' h => by rw [h]; exact hdue6) tgtOk_lst L_law_c5_ok (L_law_c5_in ..) (fun loc => ∃ o, loc = [none, o]) ⟨_, rfl⟩ (fun v => some (fstV v)) (fun u loc hu hs => ?_) ?_ ?_
  · obtain ⟨o, rfl⟩ := hs
    obtain ⟨q, hq, rfl⟩ := List.mem_map.mp hu
    rw [L_law_c5_bind, Wp_pure]
    refine ⟨rfl, ⟨_, rfl⟩, ?_⟩
    rw [L_law_c5_tst, Wp_pure]
    refine ⟨rfl, ?_⟩
    rw [if_pos rfl, L_law_c5_elt, Wp_bind, show duoP q = .tup [.tup q.1, q.2] from rfl, Wp_item0, Wp_pure]
    exact ⟨rfl, rfl⟩
  · refine Nat.le_trans (List.length_filterMap_le _ _) ?_
    rw [List.length_map]; omega
  rw [map_fst]
  have hle7 : Le σ₆ (σ₆ ++ [O.list ((pl 8 b).map tupP)]) := Le.append
  have hnew7 : (σ₆ ++ [O.list ((pl 8 b).map tupP)])[σ₆.length]? = some (.list ((pl 8 b).map tupP)) := get_new
  generalize σ₆ ++ [O.list ((pl 8 b).map tupP)] = σ₇ at hle7 hnew7 ⊢
  have hfound7 := hle7 _ _ hfound
  have hdue7 := hle7 _ _ hdue6
  rw [Wp_bind, Wp_neSame hfound7 hnew7 hcl (by decide), Wp_bind, Wp_truthB, cond_false]
  unfold L_law_t1
  rw [Wp_bind, Wp_srcRef hfound7, Wp_bind]
  refine Wp_forAll (J := fun τ => τ[m1]? = some (.list ((pl 8 b).map tupP))) (walks_lst fun τ h => h) tgtOk_lst (fun i loc τ => τ[m1]? = some (.list ((pl 8 b).map tupP)) ∧ τ[md]? = some (.list ((pl 8 b).map duoP)) ∧
      ∃ o, loc = [some (.ref 0), some (.ref 1), some (.ref lb), some (.ref σ₂.length), some b, some (.ref md), some (.ref m1), o, none, none, none, none, none, none, none, none])
    (fun _ _ _ h => h.1) ⟨hfound7, hdue7, _, by rw [show ([O.list (zs.map V.int)] : Store).length = 1 from rfl]⟩ (fun i u loc τ hu hp => ?_) fun loc τ hp => ?_
  · obtain ⟨ht1, ht2, o, rfl⟩ := hp
    rw [List.getElem?_map] at hu
    cases hq : (pl 8 b)[i]? with
    | none => rw [hq] at hu; cases hu
    | some q =>
      rw [hq] at hu
      cases hu
      have hqm := List.mem_of_getElem? hq
      rw [L_law_l1_step, show tupP q = .tup q.1 from rfl, Wp_bind, Wp_kd, Wp_bind, Wp_truthB]
      show Wp (cond (!true) _ _) _ _
      rw [show (!true) = false from rfl, cond_false, Wp_bind, Wp_srcTup, Wp_bind]
      refine Wp_compPure walks_vals tgtOk_vals L_law_c1_ok (L_law_c1_in ..) (fun loc => ∃ o, loc = [none, o, none, none, none]) ⟨_, rfl⟩ (fun v => none) (fun u loc hu hs => ?_) ?_ ?_
      · obtain ⟨o, rfl⟩ := hs
        obtain ⟨j, rfl⟩ := (pl_ints hqm).2 u hu
        rw [L_law_c1_bind, Wp_pure]
        refine ⟨rfl, ⟨_, rfl⟩, ?_⟩
        rw [L_law_c1_tst, Wp_bind, Wp_kdInt, Wp_bind, Wp_truthB]
        show Wp (cond false _ _) _ _
        rw [cond_false, Wp_bind, Wp_kdInt, Wp_bind, Wp_truthB]
        show Wp (cond (!true) _ _) _ _
        rw [show (!true) = false from rfl, cond_false, Wp_pure]
        exact ⟨rfl, rfl⟩
      · refine Nat.le_trans (List.length_filterMap_le _ _) ?_
        have := (pl_ints hqm).1; omega
      · have e : q.1.filterMap (fun _ => (none : Option V)) = [] := List.filterMap_eq_nil_iff.mpr fun _ _ => rfl
        rw [e, Wp_bind, Wp_newO]
        have ha : (τ ++ [O.list []] ++ [O.list []])[τ.length]? = some (.list []) := Le.append _ _ get_new
        have hb : (τ ++ [O.list []] ++ [O.list []])[(τ ++ [O.list []]).length]? = some (.list []) := get_new
        have hle : Le τ (τ ++ [O.list []] ++ [O.list []]) := Le.append.trans Le.append
        rw [Wp_bind, Wp_neSame ha hb (n := 0) (by simp) (by decide), Wp_bind, Wp_truthB, cond_false, Wp_pure]
        exact .inl ⟨rfl, hle _ _ ht1, hle _ _ ht2, _, rfl⟩
  · obtain ⟨ht1, ht2, o, rfl⟩ := hp
    show Wp (L_law_a1 _ _) _ _
    rw [L_law_a1_eq, Wp_bind, Wp_mtag ht1, Wp_bind, Wp_append ht1 (by omega) (by rw [List.length_map]; omega)]
    have hdm : (τ.set m1 (.list ((pl 8 b).map tupP ++ [V.str (Str.ofString "more")])))[md]? = some (.list ((pl 8 b).map duoP)) := by
      rw [List.getElem?_set_ne (by omega)]; exact ht2
    generalize τ.set m1 (.list ((pl 8 b).map tupP ++ [V.str (Str.ofString "more")])) = τ₁ at hdm ⊢
    refine Wp.step (places_ok 8 b 39 τ₁ hb (by decide) (by decide)) fun r τ₂ h => ?_
    obtain ⟨hle2, m3, rfl, hm3, hf3⟩ := h
    have hd2 := hle2 _ _ hdm
    rw [Wp_bind, Wp_srcRef hd2, Wp_bind]
    refine Wp_compPure (walks_lst fun τ' h => by rw [h]; exact hd2) tgtOk_lst L_law_c4_ok (L_law_c4_in ..) (fun loc => ∃ o, loc = [none, o]) ⟨_, rfl⟩ (fun v => some (fstV v)) (fun u loc hu hs => ?_) ?_ ?_
    · obtain ⟨o, rfl⟩ := hs
      obtain ⟨q, hq, rfl⟩ := List.mem_map.mp hu
      rw [L_law_c4_bind, Wp_pure]
      refine ⟨rfl, ⟨_, rfl⟩, ?_⟩
      rw [L_law_c4_tst, Wp_pure]
      refine ⟨rfl, ?_⟩
      rw [if_pos rfl, L_law_c4_elt, Wp_bind, show duoP q = .tup [.tup q.1, q.2] from rfl, Wp_item0, Wp_pure]
      exact ⟨rfl, rfl⟩
    · refine Nat.le_trans (List.length_filterMap_le _ _) ?_
      rw [List.length_map]; omega
    rw [map_fst]
    have hle3 : Le τ₂ (τ₂ ++ [O.list ((pl 8 b).map tupP)]) := Le.append
    have hnew3 : (τ₂ ++ [O.list ((pl 8 b).map tupP)])[τ₂.length]? = some (.list ((pl 8 b).map tupP)) := get_new
    generalize τ₂ ++ [O.list ((pl 8 b).map tupP)] = τ₃ at hle3 hnew3 ⊢
    have hf4 := hle3 _ _ hf3
    have hd4 := hle3 _ _ hd2
    rw [Wp_bind, Wp_neSame hf4 hnew3 hcl (by decide), Wp_bind, Wp_truthB, if_neg (by decide)]
    unfold L_law_t2
    rw [Wp_bind, Wp_srcRef hf4, Wp_bind]
    refine Wp_compAll (J := fun τ => τ[m3]? = some (.list ((pl 8 b).map tupP))) (walks_lst fun τ h => h) tgtOk_lst L_law_c2_ok (L_law_c2_in ..) (fun i acc loc τ => τ[m3]? = some (.list ((pl 8 b).map tupP)) ∧ τ[md]? = some (.list ((pl 8 b).map duoP)) ∧ (∃ o, loc = [none, o, none, some b]) ∧ acc = ((pl 8 b).take i).map (·.2))
      (fun _ _ _ _ h => h.1) ⟨hf4, hd4, ⟨_, rfl⟩, rfl⟩ (fun i u acc loc τ hu hp => ?_) fun out loc τ hp => ?_
    · obtain ⟨h1, h2, ⟨o, rfl⟩, rfl⟩ := hp
      rw [List.getElem?_map] at hu
      cases hq : (pl 8 b)[i]? with
      | none => rw [hq] at hu; cases hu
      | some q =>
        rw [hq] at hu
        cases hu
        rw [L_law_c2_bind, Wp_pure, L_law_c2_tst, Wp_pure, if_pos rfl, L_law_c2_elt]
        refine Wp.step (at_ok (d := 37) hb (List.mem_of_getElem? hq)) fun r τ' h => ?_
        obtain ⟨hle, rfl⟩ := h
        rw [Wp_pure]
        refine ⟨hle _ _ h1, hle _ _ h2, ⟨_, rfl⟩, ?_⟩
        rw [List.take_add_one, hq, Option.toList_some, List.map_append]; rfl
    · obtain ⟨h1, h2, _, rfl⟩ := hp
      rw [show (List.map tupP (pl 8 b)).length = (pl 8 b).length from List.length_map _, List.take_length]
      refine ⟨by rw [List.length_map]; omega, ?_⟩
      have hle5 : Le τ (τ ++ [O.list ((pl 8 b).map (·.2))]) := Le.append
      have hnew5 : (τ ++ [O.list ((pl 8 b).map (·.2))])[τ.length]? = some (.list ((pl 8 b).map (·.2))) := get_new
      generalize τ ++ [O.list ((pl 8 b).map (·.2))] = τ₅ at hle5 hnew5 ⊢
      have hd5 := hle5 _ _ h2
      rw [Wp_bind, Wp_srcRef hd5, Wp_bind]
      refine Wp_compPure (walks_lst fun τ' h => by rw [h]; exact hd5) tgtOk_lst L_law_c3_ok (L_law_c3_in ..) (fun loc => ∃ o, loc = [none, o]) ⟨_, rfl⟩ (fun v => some (sndV v)) (fun u loc hu hs => ?_) ?_ ?_
      · obtain ⟨o, rfl⟩ := hs
        obtain ⟨q, hq, rfl⟩ := List.mem_map.mp hu
        rw [L_law_c3_bind, Wp_pure]
        refine ⟨rfl, ⟨_, rfl⟩, ?_⟩
        rw [L_law_c3_tst, Wp_pure]
        refine ⟨rfl, ?_⟩
        rw [if_pos rfl, L_law_c3_elt, Wp_bind, show duoP q = .tup [.tup q.1, q.2] from rfl, Wp_item1, Wp_pure]
        exact ⟨rfl, rfl⟩
      · refine Nat.le_trans (List.length_filterMap_le _ _) ?_
        rw [List.length_map]; omega
      · rw [map_snd]
        have hlast : Le τ₅ (τ₅ ++ [O.list ((pl 8 b).map (·.2))]) := Le.append
        rw [Wp_bind, Wp_eqSame (hlast _ _ hnew5) get_new (n := 24) (fun x hx => by
          obtain ⟨q, hq, rfl⟩ := List.mem_map.mp hx
          obtain ⟨m, hm, hbq⟩ := pl_bod hb hq
          exact hbq.cl.mono (by omega)) (by decide), Wp_pure]

theorem law01 : LawOk tab01 40 := fun zs _ => by
  obtain ⟨r, σ', h, rfl⟩ := law01_wp zs
  exact ⟨σ', h⟩
end Mine

open PySem PySem.W PyProof.Rows
set_option maxHeartbeats 8000000 in
theorem PySem.Challenge.cw_uf010004_01_holds : PySem.Challenge.rw_uf010004_01.Holds := by
  w_on; o_law; o_head Hook.none; (case hw => w_witness2)
  intro w s₀ s₁ mg mb G Y fa o pm cd doc dV kV ho hd hcd hD hmg hg args vals as hpre hlay hrd hwl hlo
  refine Ground.open G ?_
  intro T B D TE TW
  have hmg' : mg "law" = some (.ref fa) := hmg
  clear hmg
  clear hd hcd hD Y
  wrow_args hpre hlay hrd hwl hlo
  rename_i zs _ _ _ _ _ _ _ la vs _ hL _ hw _ hI _ hlen _
  have hB := Mine.base_of (tab := Mine.tab01) T (by kernel_rfl) (by decide +kernel) (by decide +kernel)
  refine wpAny_mono (Mine.law_run hB (by decide +kernel) hmg' (by decide +kernel) (Mine.list_at hL hw) hI (by omega) Mine.law01 (Mine.room_caller (by decide))) (fun v s' hp => ?_) fun _ _ f => f.elim
  obtain ⟨rfl, h1, h2, h3⟩ := hp
  exact GoodW.toG ⟨.inl ⟨_, .bool true, [], rfl, fun _ => by kernel_rfl, .bool true, by kernel_rfl, fun _ => ⟨List.nodup_nil, fun _ hm => absurd hm List.not_mem_nil⟩⟩, h1, h2, h3.trans hg⟩
