import PyProof.Rows.All
import KE.KDictLaws
import KE.KDictOf
import PyProof.ExcAttrAll.ValueError
import PyProof.DictWalks
import PyProof.Rows.DictUnroll
import PyProof.Rows.CallKwBuiltin
import Wide.All
import Open.Line
import Wide.FinOn
import PySem.Challenge.RW_uf010004_03
set_option Elab.async false
set_option maxRecDepth 100000
set_option genSizeOfSpec false
set_option genInjectivity false
set_option linter.unusedVariables false
set_option linter.unusedSimpArgs false
set_option tactic.hygienic false
local macro_rules | `(tactic| lia) => `(tactic| first
  | assumption
  | exact Nat.le_of_succ_le_succ ‹_›
  | exact Nat.le_of_succ_le ‹_›
  | exact Nat.le_of_lt ‹_›
  | exact Nat.lt_succ_of_le ‹_›
  | exact Nat.le_succ_of_le ‹_›
  | exact Nat.le_add_left_of_le (Nat.le_of_ble_eq_true rfl)
  | exact Nat.le_trans ‹_ ≤ _› (Nat.le_of_ble_eq_true rfl)
  | exact Nat.lt_of_lt_of_le ‹_ < _› ‹_›
  | exact Nat.lt_of_le_of_lt ‹_ ≤ _› ‹_›
  | exact Nat.le_trans ‹_ ≤ _› ‹_›
  | exact Nat.ne_of_lt ‹_›
  | exact Nat.ne_of_gt ‹_›
  | exact Int.le_trans ‹_ ≤ _› ‹_›
  | exact Int.le_of_lt ‹_›
  | fail)


set_option backward.match.sparseCases false
namespace Mine.Internal
open PySem
inductive V where
 | none
 | bool (b : Bool)
 | int (i : Int)
 | str (s : Str)
 | tup (l : List V)
 | ref (n : Nat)
 deriving Inhabited
noncomputable abbrev Key := Int ⊕ Str
inductive O where
 | list (l : List V)
 | dict (v : Nat) (l : List (Key × V))
 | inst (c : Str) (fs : List (Str × V))
 | exc (c : Str) (fs : List (Str × V))
 deriving Inhabited
noncomputable abbrev Store := List O
inductive Res (α : Type) where
 | ok (a : α) (σ : Store)
 | exc (e : V) (σ : Store)
 | bad
noncomputable def Res.bind {α β : Type} (r : Res α) (k : α → Store → Res β) : Res β := match r with
 | .ok a σ => k a σ
 | .exc e σ => .exc e σ
 | .bad => .bad
structure M (α : Type) where
 go : {β : Type} → (α → Store → Res β) → Store → Res β
 nat : ∀ {β : Type} (k : α → Store → Res β) (σ : Store), go k σ = (go Res.ok σ).bind k
noncomputable def M.run {α : Type} (m : M α) (σ : Store) : Res α := m.go Res.ok σ
noncomputable instance {α : Type} : CoeFun (M α) fun ya => Store → Res α := ⟨M.run⟩
namespace M
noncomputable def pure {α : Type} (a : α) : M α := ⟨fun k σ => k a σ, fun ya yb => rfl⟩
noncomputable def bind {α β : Type} (m : M α) (f : α → M β) : M β := ⟨fun k σ => m.go (fun a σ => (f a).go k σ) σ, fun k σ => by
 rw [m.nat, m.nat fun a σ => (f a).go Res.ok σ]
 cases m.go Res.ok σ with
 | ok a σ' => exact (f a).nat k σ'
 | exc e σ' => rfl
 | bad => rfl⟩
noncomputable def bad {α : Type} : M α := ⟨fun ya yb => .bad, fun ya yb => rfl⟩
noncomputable def throw {α : Type} (e : V) : M α := ⟨fun ya σ => .exc e σ, fun ya yb => rfl⟩
noncomputable def tryd {α β : Type} (m : M α) (f : α → M β) (h : V → M β) : M β := ⟨fun k σ => match m.run σ with
 | .ok a σ' => (f a).go k σ'
 | .exc e σ' => (h e).go k σ'
 | .bad => .bad, fun k σ => by
 cases m.run σ with
 | ok a σ' => exact (f a).nat k σ'
 | exc e σ' => exact (h e).nat k σ'
 | bad => rfl⟩
noncomputable def safe {α : Type} (m : M α) : M α := ⟨fun k σ => match m.run σ with
 | .ok a σ' => k a σ'
 | .exc _ _ => .bad
 | .bad => .bad, fun k σ => by cases m.run σ <;> rfl⟩
noncomputable def cond {α : Type} (b : Bool) (m n : M α) : M α := ⟨fun k σ => _root_.cond b (m.go k σ) (n.go k σ), fun k σ => by
 cases b with
 | true => exact m.nat k σ
 | false => exact n.nat k σ⟩
end M
noncomputable instance : Monad M where
 pure := M.pure
 bind := M.bind
noncomputable def getO (n : Nat) : M O := ⟨fun k σ => match σ[n]? with
 | some o => k o σ
 | none => .bad, fun k σ => by cases σ[n]? <;> rfl⟩
noncomputable def setO (n : Nat) (o : O) : M Unit := ⟨fun k σ => if 0 < n ∧ n < σ.length then k () (σ.set n o) else .bad, fun k σ => by
 by_cases h : 0 < n ∧ n < σ.length
 ·rw [if_pos h, if_pos h]; rfl
 ·rw [if_neg h, if_neg h]; rfl⟩
noncomputable def newO (o : O) : M V := ⟨fun k σ => k (.ref σ.length) (σ ++ [o]), fun ya yb => rfl⟩
noncomputable def putD (n : Nat) (l : List (Key × V)) : M Unit := ⟨fun k σ => match σ[n]? with
 | some (.dict v _) => if 0 < n then k () (σ.set n (.dict (v + 1) l)) else .bad
 | _ => .bad, fun k σ => by
 cases σ[n]? with
 | none => rfl
 | some o => cases o with
  | dict v m =>
   dsimp only
   by_cases h : 0 < n
   ·rw [if_pos h, if_pos h]; rfl
   ·rw [if_neg h, if_neg h]; rfl
  | _ => rfl⟩
noncomputable def askS {α : Type} (f : Store → Option α) : M α := ⟨fun k σ => match f σ with
 | some a => k a σ
 | none => .bad, fun k σ => by cases f σ <;> rfl⟩
noncomputable def SOk (x : Str) : Prop := x.length ≤ sizeLine ∧ PyData.strOk x = true
noncomputable instance (x : Str) : Decidable (SOk x) := inferInstanceAs (Decidable (_ ∧ _))
theorem no_some {α : Type} {q : α} {P : Prop} (h : (none : Option α) = some q) : P := nomatch h
theorem bad_ok {α : Type} {a : α} {σ : Store} {P : Prop} (h : (Res.bad : Res α) = .ok a σ) : P := nomatch h
theorem bad_exc {α : Type} {e : V} {σ : Store} {P : Prop} (h : (Res.bad : Res α) = .exc e σ) : P := nomatch h
theorem ok_exc {α : Type} {a : α} {e : V} {σ σ' : Store} {P : Prop} (h : Res.ok a σ = .exc e σ') : P := nomatch h
section
variable {σ : Store}
theorem run_bind {α β : Type} {m : M α} {f : α → M β} : (m >>= f) σ = (m σ).bind fun a σ => f a σ := m.nat _ σ
theorem bind_ok {α β : Type} {m : M α} {f : α → M β} {a : α} {σ' : Store} (h : m σ = .ok a σ') : (m >>= f) σ = f a σ' := by rw [run_bind, h]; rfl
theorem bind_bad {α β : Type} {m : M α} {f : α → M β} (h : m σ = .bad) : (m >>= f) σ = .bad := by rw [run_bind, h]; rfl
theorem bind_exc {α β : Type} {m : M α} {f : α → M β} {e : V} {σ' : Store} (h : m σ = .exc e σ') : (m >>= f) σ = .exc e σ' := by rw [run_bind, h]; rfl
theorem bind_cases {α β : Type} {m : M α} {f : α → M β} (h : (m >>= f) σ ≠ .bad) : (∃ a σ₁, m σ = .ok a σ₁ ∧ (m >>= f) σ = f a σ₁) ∨ ∃ e σ₁, m σ = .exc e σ₁ ∧ (m >>= f) σ = .exc e σ₁ := by
 cases e : m σ with
 | bad => rw [bind_bad e] at h; exact absurd rfl h
 | exc v σ₁ => exact .inr ⟨v, σ₁, rfl, bind_exc e⟩
 | ok a σ₁ => exact .inl ⟨a, σ₁, rfl, bind_ok e⟩
theorem getO_eq (n : Nat) : getO n σ = (match σ[n]? with | some o => .ok o σ | none => .bad) := rfl
theorem setO_eq (n : Nat) (o : O) : setO n o σ = (if 0 < n ∧ n < σ.length then .ok () (σ.set n o) else .bad) := rfl
theorem askS_eq {α : Type} (f : Store → Option α) : askS f σ = (match f σ with | some a => .ok a σ | none => .bad) := rfl
theorem safe_eq {α : Type} (m : M α) : M.safe m σ = (match m σ with | .ok a σ' => .ok a σ' | .exc _ _ => .bad | .bad => .bad) := rfl
theorem tryd_eq {α β : Type} (m : M α) (f : α → M β) (h : V → M β) : M.tryd m f h σ = (match m σ with | .ok a σ' => f a σ' | .exc e σ' => h e σ' | .bad => .bad) := rfl
theorem M.assoc {α β γ : Type} (m : M α) (f : α → M β) (g : β → M γ) : (m >>= f) >>= g = m >>= fun a => f a >>= g := rfl
end
noncomputable def isCompE : Expr → Bool
 | .ListComp _ _ _ _ => true
 | _ => false
noncomputable def isSliceE : Expr → Bool
 | .Slice _ _ _ _ => true
 | _ => false
noncomputable def isAttrE : Expr → Bool
 | .Attribute _ _ _ => true
 | _ => false
theorem keep {G : Prop} (h : ∀ P : Prop, (G → P) → P) : G := h G id
end Mine.Internal

set_option backward.match.sparseCases false
namespace Mine.Internal
open PySem
noncomputable abbrev Loc := List (Option V)
noncomputable abbrev Names := List (Str × NameKind)
noncomputable def slotGo : Names → Str → Nat → Option (Nat × NameKind)
 | [], _, _ => none
 | (y, k) :: r, x, i => match x == y with
  | true => some (i, k)
  | false => slotGo r x (i + 1)
noncomputable def slot (ns : Names) (x : Str) : Option (Nat × NameKind) := slotGo ns x 0
noncomputable def ofOpt {α : Type} : Option α → M α
 | some a => pure a
 | none => M.bad
noncomputable def ldLoc (loc : Loc) (i : Nat) : M V := ofOpt (loc[i]?.join)
noncomputable def stLoc (ns : Names) (x : Str) (v : V) (loc : Loc) : M Loc := match slot ns x with
 | some (i, .local) => pure (loc.set i (some v))
 | some (i, .cell) => pure (loc.set i (some v))
 | _ => M.bad
noncomputable def stLocL (ns : Names) (x : Str) (v : V) (loc : Loc) : M Loc := match slot ns x with
 | some (i, .local) => pure (loc.set i (some v))
 | _ => M.bad
structure Cfg where
 isFn : Str → Bool
 call : Str → List V → M V
 glob : Str → Option V
 calm : Bool
 quiet : Str → List V → M V
 ups : Str → Option (List Str)
noncomputable def Cfg.hush (C : Cfg) : Cfg := ⟨C.isFn, C.quiet, C.glob, false, C.quiet, C.ups⟩
noncomputable def constV : Const → M V
 | .none => pure .none
 | .bool b => pure (.bool b)
 | .int i => pure (.int i)
 | .str s => if SOk s then pure (.str s) else M.bad
 | _ => M.bad
noncomputable def truth : V → M Bool
 | .none => pure false
 | .bool b => pure b
 | .int i => pure (i != 0)
 | .str s => pure (s.length != 0)
 | .tup l => pure (l.length != 0)
 | .ref n => do
  match ← getO n with
  | .list l => pure (l.length != 0)
  | _ => M.bad
noncomputable def Small (a : Int) : Prop := -18446744073709551616 < a ∧ a < 18446744073709551616
noncomputable instance (a : Int) : Decidable (Small a) := inferInstanceAs (Decidable (_ ∧ _))
noncomputable def getList (n : Nat) : M (List V) := do
 match ← getO n with
 | .list l => pure l
 | _ => M.bad
noncomputable def keyOf : V → Option Key
 | .int i => some (.inl i)
 | .str s => some (.inr s)
 | _ => none
noncomputable def keyV : Key → V
 | .inl i => .int i
 | .inr s => .str s
noncomputable abbrev Tab := List (Key × V)
noncomputable def dGet (l : Tab) (k : Key) : Option V := (l.find? fun p => p.1 = k).map (·.2)
noncomputable def dSet (l : Tab) (k : Key) (v : V) : Tab := if l.any (fun p => p.1 = k) then l.map (fun p => if p.1 = k then (p.1, v) else p) else l ++ [(k, v)]
noncomputable def getDict (n : Nat) : M Tab := do
 match ← getO n with
 | .dict _ l => pure l
 | _ => M.bad
noncomputable def intOp (op : Operator) (a b : Int) : M V := match op with
 | .Add => pure (.int (a + b))
 | .Sub => pure (.int (a - b))
 | .Mult => if Small a ∨ Small b then pure (.int (a * b)) else M.bad
 | .FloorDiv => if b ≠ 0 ∧ Small b then pure (.int (a.fdiv b)) else M.bad
 | .Mod => if b ≠ 0 ∧ Small b then pure (.int (a.fmod b)) else M.bad
 | .Pow => if 0 ≤ b ∧ b ≤ 1000 ∧ a.natAbs < 1000 then pure (.int (a ^ b.toNat)) else M.bad
 | _ => M.bad
noncomputable def isAdd : Operator → Bool
 | .Add => true
 | _ => false
noncomputable def addV (a b : V) : M V := match a with
 | .str x => (match b with
  | .str y => if x.length + y.length ≤ sizeLine then pure (.str (x ++ y)) else M.bad
  | _ => M.bad)
 | .ref x => (match b with
  | .ref y => do
   let l ← getList x
   let m ← getList y
   if l.length + m.length ≤ sizeLine then newO (.list (l ++ m)) else M.bad
  | _ => M.bad)
 | _ => M.bad
noncomputable def binop (op : Operator) (a b : V) : M V := match a with
 | .int x => (match b with
  | .int y => intOp op x y
  | _ => M.bad)
 | _ => cond (isAdd op) (addV a b) M.bad
mutual
noncomputable def toPyT (f : Nat → Option PyData) : V → Option PyData
 | .none => some .none
 | .bool b => some (.bool b)
 | .int i => some (.int i)
 | .str s => some (.str s)
 | .tup l => (toPyTs f l).map .tuple
 | .ref n => f n
noncomputable def toPyTs (f : Nat → Option PyData) : List V → Option (List PyData)
 | [] => some []
 | x :: r => match toPyT f x, toPyTs f r with
  | some d, some ds => some (d :: ds)
  | _, _ => none
end
noncomputable def toPyF (σ : Store) : Nat → Nat → Option PyData
 | 0, _ => none
 | k + 1, n => match σ[n]? with
  | some (.list l) => (toPyTs (toPyF σ k) l).map .list
  | _ => none
noncomputable def toPy (σ : Store) (v : V) : Option PyData := toPyT (toPyF σ 4) v
noncomputable def veq (σ : Store) (a b : V) : Option Bool := match toPy σ a, toPy σ b with
 | some x, some y => if min x.depth y.depth ≤ 200 then some (PyData.eqv x y) else none
 | _, _ => none
noncomputable def vin (σ : Store) (x : V) : List V → Option Bool
 | [] => some false
 | y :: r => match veq σ y x, vin σ x r with
  | some e, some t => some (e || t)
  | _, _ => none
noncomputable def strLt (a b : Str) : Bool := decide (a.cps.toList < b.cps.toList)
noncomputable def among (a : V) (n : Nat) : M Bool := do
 match ← getO n with
 | .list l => askS fun σ => vin σ a l
 | .dict _ l => ofOpt ((keyOf a).map fun k => (dGet l k).isSome)
 | _ => M.bad
noncomputable def inV (a b : V) : M Bool := match b with
 | .tup l => askS fun σ => vin σ a l
 | .ref n => among a n
 | .str y => (match a with
  | .str x => pure (Txt.contains y x)
  | _ => M.bad)
 | _ => M.bad
noncomputable def ordV (f : Int → Int → Bool) (g : Str → Str → Bool) (a b : V) : M V := match a with
 | .int x => (match b with
  | .int y => pure (.bool (f x y))
  | _ => M.bad)
 | .str x => (match b with
  | .str y => pure (.bool (g x y))
  | _ => M.bad)
 | _ => M.bad
noncomputable def isV (a b : V) : M Bool := match b with
 | .none => pure (match a with | .none => true | _ => false)
 | _ => M.bad
noncomputable def cmp (op : CmpOp) (a b : V) : M V := match op with
 | .Eq => askS fun σ => (veq σ a b).map V.bool
 | .NotEq => askS fun σ => (veq σ a b).map fun e => V.bool (!e)
 | .Lt => ordV (fun x y => decide (x < y)) (fun x y => strLt x y) a b
 | .LtE => ordV (fun x y => decide (x ≤ y)) (fun x y => !strLt y x) a b
 | .Gt => ordV (fun x y => decide (y < x)) (fun x y => strLt y x) a b
 | .GtE => ordV (fun x y => decide (y ≤ x)) (fun x y => !strLt x y) a b
 | .Is => isV a b >>= fun c => pure (V.bool c)
 | .IsNot => isV a b >>= fun c => pure (V.bool (!c))
 | .In => inV a b >>= fun c => pure (V.bool c)
 | .NotIn => inV a b >>= fun c => pure (V.bool (!c))
noncomputable def place (i : Int) (n : Nat) : Option Nat :=
 if 0 ≤ i then (if i < n then some i.toNat else none) else if 0 ≤ i + n then some (i + n).toNat else none
noncomputable def chr1 (c : Nat) : Str := ⟨#[c]⟩
noncomputable def itemL (l : List V) : V → M V
 | .int i => ofOpt ((place i l.length).bind fun k => l[k]?)
 | _ => M.bad
noncomputable def item : V → V → M V
 | .tup l, .int i => ofOpt ((place i l.length).bind fun k => l[k]?)
 | .str s, .int i => ofOpt ((place i s.length).bind fun k => (s.cps[k]?).map fun c => V.str (chr1 c))
 | .ref n, b => do
  match ← getO n with
  | .list l => itemL l b
  | .dict _ l => ofOpt ((keyOf b).bind (dGet l))
  | _ => M.bad
 | _, _ => M.bad
noncomputable def setL (n : Nat) (l : List V) (b v : V) : M Unit := match b with
 | .int i => if 0 ≤ i ∧ i < l.length then setO n (.list (l.set i.toNat v)) else M.bad
 | _ => M.bad
noncomputable def setD (n : Nat) (l : Tab) (b v : V) : M Unit := match keyOf b with
 | some k => if l.length + 1 ≤ sizeLine then putD n (dSet l k v) else M.bad
 | none => M.bad
noncomputable def setItem : V → V → V → M Unit
 | .ref n, b, v => do
  match ← getO n with
  | .list l => setL n l b v
  | .dict _ l => setD n l b v
  | _ => M.bad
 | _, _, _ => M.bad
noncomputable def cut {α : Type} (l : List α) (lo hi : Option Int) : List α :=
 (l.drop (lo.elim 0 (clipAt l.length))).take (hi.elim l.length (clipAt l.length) - lo.elim 0 (clipAt l.length))
noncomputable def cutStr (s : Str) (lo hi : Option Int) : Str := ⟨(cut s.cps.toList lo hi).toArray⟩
noncomputable def sliceV (lo hi : Option Int) : V → M V
 | .str s => pure (.str (cutStr s lo hi))
 | .ref n => do
  let l ← getList n
  newO (.list (cut l lo hi))
 | _ => M.bad
noncomputable def bound : V → M (Option Int)
 | .none => pure none
 | .int i => pure (some i)
 | _ => M.bad
inductive Src where
 | vals (l : List V)
 | lst (n : Nat)
 | keys (n v : Nat) (l : List V)
noncomputable def listAt (σ : Store) (n : Nat) : Option (List V) := match σ[n]? with
 | some (.list l) => some l
 | _ => none
noncomputable def verAt (σ : Store) (n : Nat) : Option Nat := match σ[n]? with
 | some (.dict v _) => some v
 | _ => none
noncomputable def Src.at (σ : Store) : Src → Nat → Option (Option V)
 | .vals l, i => some l[i]?
 | .lst n, i => (listAt σ n).map fun l => l[i]?
 | .keys n v l, i => if verAt σ n = some v then some l[i]? else none
noncomputable def Src.get (s : Src) (i : Nat) : M (Option V) := askS fun σ => s.at σ i
noncomputable def Src.size (σ : Store) : Src → Option Nat
 | .vals l => some l.length
 | .lst n => (listAt σ n).map (·.length)
 | .keys _ _ l => some l.length
noncomputable def Src.count (s : Src) : M Nat := askS s.size
noncomputable def chars (s : Str) : List V := s.cps.toList.map fun c => V.str (chr1 c)
noncomputable def srcV : V → M Src
 | .tup l => pure (.vals l)
 | .str s => pure (.vals (chars s))
 | .ref n => do
  match ← getO n with
  | .list _ => pure (.lst n)
  | .dict v l => pure (.keys n v (l.map fun p => keyV p.1))
  | _ => M.bad
 | _ => M.bad
noncomputable def rangeV (a b : Int) : List V := (List.range (b - a).toNat).map fun (k : Nat) => V.int (a + k)
noncomputable def allStrs : List V → Option (List Str)
 | [] => some []
 | .str s :: r => (allStrs r).map (s :: ·)
 | _ :: _ => none
noncomputable def itemsOf : V → M (List V)
 | .tup l => pure l
 | .ref n => getList n
 | _ => M.bad
noncomputable def bLen : V → M V
 | .tup l => pure (.int l.length)
 | .str s => pure (.int s.length)
 | .ref n => do
  match ← getO n with
  | .list l => pure (.int l.length)
  | .dict _ l => pure (.int l.length)
  | _ => M.bad
 | _ => M.bad
noncomputable def keysOf (a : V) : M (List V) := match a with
 | .ref n => do
  match ← getO n with
  | .list l => pure l
  | .dict _ l => pure (l.map fun p => keyV p.1)
  | _ => M.bad
 | .tup l => pure l
 | _ => M.bad
noncomputable def bList (a : V) : M V := do
 let l ← keysOf a
 newO (.list l)
noncomputable def putS (x : Str) : List Str → List Str
 | [] => [x]
 | y :: r => if strLt y x then y :: putS x r else x :: y :: r
noncomputable def sortS : List Str → List Str
 | [] => []
 | x :: r => putS x (sortS r)
noncomputable def pairV (p : Str × V) : V := .tup [.str p.1, p.2]
noncomputable def vTup : V → Option (List V)
 | .tup l => some l
 | _ => none
noncomputable def vStr : V → Option Str
 | .str s => some s
 | _ => none
noncomputable def labOf (x : V) : Option (Str × V) := (vTup x).bind fun l => match l with
 | [a, q] => (vStr a).map fun k => (k, q)
 | _ => none
noncomputable def allLabs : List V → Option (List (Str × V))
 | [] => some []
 | x :: r => (labOf x).bind fun p => (allLabs r).map (p :: ·)
noncomputable def putP (x : Str × V) : List (Str × V) → List (Str × V)
 | [] => [x]
 | y :: r => if strLt y.1 x.1 then y :: putP x r else x :: y :: r
noncomputable def sortP : List (Str × V) → List (Str × V)
 | [] => []
 | x :: r => putP x (sortP r)
noncomputable def sortL (l : List V) : Option (List V) := match allStrs l with
 | some ss => some ((sortS ss).map V.str)
 | none => (match allLabs l with
  | some ps => if (ps.map (·.1)).Nodup then some ((sortP ps).map pairV) else none
  | none => none)
noncomputable def bSorted : V → M V
 | .ref n => do
  let l ← getList n
  if l.length < 64 then do
   let r ← ofOpt (sortL l)
   newO (.list r)
  else M.bad
 | _ => M.bad
noncomputable def allInts : List V → Option (List Int)
 | [] => some []
 | .int i :: r => (allInts r).map (i :: ·)
 | _ :: _ => none
noncomputable def bSum : V → M V
 | .ref n => do
  let l ← getList n
  let is ← ofOpt (allInts l)
  pure (.int is.sum)
 | _ => M.bad
noncomputable def allBools : List V → Option (List Bool)
 | [] => some []
 | .bool b :: r => (allBools r).map (b :: ·)
 | _ :: _ => none
noncomputable def bAll : V → M V
 | .ref n => do
  let l ← getList n
  let bs ← ofOpt (allBools l)
  pure (.bool (bs.all id))
 | _ => M.bad
noncomputable def pairsOf : List V → Option Tab
 | [] => some []
 | .tup [k, v] :: r => match keyOf k, pairsOf r with
  | some k, some t => some ((k, v) :: t)
  | _, _ => none
 | _ :: _ => none
noncomputable def dMerge (l : Tab) : Tab → Tab
 | [] => l
 | (k, v) :: r => dMerge (dSet l k v) r
noncomputable def dictOf (a : V) (σ : Store) : Option Tab := match a with
 | .ref n => (match σ[n]? with
  | some (.dict _ l) => some l
  | some (.list l) => (pairsOf l).map (dMerge [])
  | _ => none)
 | _ => none
noncomputable def bDict (a : V) : M V := do
 let t ← askS (dictOf a)
 newO (.dict 0 t)
noncomputable def bInt : V → M V
 | .bool b => pure (.int (cond b 1 0))
 | _ => M.bad
noncomputable def maxOf (z : Int) : List Int → Int
 | [] => z
 | x :: r => r.foldl max x
noncomputable def bMax (z : Int) : V → M V
 | .ref n => do
  let l ← getList n
  let is ← ofOpt (allInts l)
  pure (.int (maxOf z is))
 | _ => M.bad
noncomputable def bTuple (a : V) : M V := do
 let l ← itemsOf a
 pure (.tup l)
noncomputable def blt (f : Str) : List V → M V
 | [a] =>
  if f = ("len" : Str) then bLen a
  else if f = ("list" : Str) then bList a
  else if f = ("tuple" : Str) then bTuple a
  else if f = ("sorted" : Str) then bSorted a
  else if f = ("dict" : Str) then bDict a
  else if f = ("sum" : Str) then bSum a
  else if f = ("all" : Str) then bAll a
  else if f = ("int" : Str) then bInt a
  else M.bad
 | _ => M.bad
noncomputable def bltQ (f : Str) : List V → M V
 | [a] => if f = ("int" : Str) then bInt a else M.bad
 | _ => M.bad
inductive Kd where
 | bool | int | str | tuple | list
noncomputable def kdOf (t : Str) : Option Kd :=
 if t = ("bool" : Str) then some .bool
 else if t = ("int" : Str) then some .int
 else if t = ("str" : Str) then some .str
 else if t = ("tuple" : Str) then some .tuple
 else if t = ("list" : Str) then some .list
 else none
noncomputable def isKd : Kd → V → M V
 | _, .none => pure (.bool false)
 | k, .bool _ => pure (.bool (match k with | .bool | .int => true | _ => false))
 | k, .int _ => pure (.bool (match k with | .int => true | _ => false))
 | k, .str _ => pure (.bool (match k with | .str => true | _ => false))
 | k, .tup _ => pure (.bool (match k with | .tuple => true | _ => false))
 | k, .ref n => do
  let _ ← getList n
  pure (.bool (match k with | .list => true | _ => false))
noncomputable def isUp (C : Cfg) (t : Str) : V → M V
 | .ref n => do
  match ← getO n with
  | .exc c _ => ofOpt ((C.ups c).map fun us => V.bool (us.contains t))
  | _ => M.bad
 | _ => M.bad
noncomputable def isiV (C : Cfg) (t : Str) (v : V) : M V := match kdOf t with
 | some k => isKd k v
 | none => if (C.ups t).isSome || t == ("ValueError" : Str) then isUp C t v else M.bad
noncomputable def mAppend : V → V → M V
 | .ref n, a => do
  let l ← getList n
  if l.length + 1 ≤ sizeLine then do
   setO n (.list (l ++ [a]))
   pure .none
  else M.bad
 | _, _ => M.bad
noncomputable def mJoin : V → V → M V
 | .str sep, a => do
  let l ← itemsOf a
  let ss ← ofOpt (allStrs l)
  if (ss.map (·.length)).sum + ss.length * sep.length ≤ 16777216 then pure (.str (Txt.join sep ss)) else M.bad
 | _, _ => M.bad
noncomputable def vidx (σ : Store) (x : V) : List V → Nat → Option Nat
 | [], _ => none
 | y :: r, i => match veq σ y x with
  | some true => some i
  | some false => vidx σ x r (i + 1)
  | none => none
noncomputable def mIndex : V → V → M V
 | .ref n, a => do
  let l ← getList n
  askS fun σ => match vin σ a l with
   | some true => (vidx σ a l 0).map fun (k : Nat) => V.int (k : Int)
   | _ => none
 | _, _ => M.bad
noncomputable def mSetdefault : V → V → V → M V
 | .ref n, b, v => do
  let l ← getDict n
  let k ← ofOpt (keyOf b)
  match dGet l k with
  | some x => pure x
  | none => if l.length + 1 ≤ sizeLine then (putD n (l ++ [(k, v)]) >>= fun ya => pure v) else M.bad
 | _, _, _ => M.bad
noncomputable def mGet : V → V → V → M V
 | .ref n, b, v => do
  let l ← getDict n
  let k ← ofOpt (keyOf b)
  pure ((dGet l k).getD v)
 | _, _, _ => M.bad
noncomputable def mPop : V → V → V → M V
 | .ref n, b, v => do
  let l ← getDict n
  let k ← ofOpt (keyOf b)
  match dGet l k with
  | some x => (putD n (l.filter fun p => p.1 ≠ k) >>= fun ya => pure x)
  | none => pure v
 | _, _, _ => M.bad
noncomputable def mClear : V → M V
 | .ref n => do
  let _ ← getDict n
  putD n []
  pure .none
 | _ => M.bad
inductive MTag where
 | append | join | index | setdefault | get | pop | clear
noncomputable def mtag (v : V) (m : Str) (σ : Store) : Option MTag := match v with
 | .str _ => if m = ("join" : Str) then some .join else none
 | .ref n => (match σ[n]? with
  | some (.list _) => if m = ("append" : Str) then some .append else if m = ("index" : Str) then some .index else none
  | some (.dict _ _) => if m = ("setdefault" : Str) then some .setdefault else if m = ("get" : Str) then some .get else if m = ("pop" : Str) then some .pop else if m = ("clear" : Str) then some .clear else none
  | _ => none)
 | _ => none
noncomputable def runM : MTag → V → List V → M V
 | .append, o, [a] => mAppend o a
 | .join, o, [a] => mJoin o a
 | .index, o, [a] => mIndex o a
 | .setdefault, o, [a, b] => mSetdefault o a b
 | .get, o, [a, b] => mGet o a b
 | .pop, o, [a, b] => mPop o a b
 | .clear, o, [] => mClear o
 | _, _, _ => M.bad
inductive Fl where
 | next | brk | cont
 | ret (v : V)
noncomputable def relab (ns : Names) (names : Names) : Names := names.map fun (x, k) => if k == .free && ns.lookup x == some .cell then (x, .cell) else (x, k)
noncomputable def innerLoc (ns : Names) (loc : Loc) : Names → M Loc
 | [] => pure []
 | (x, .free) :: r => (match slot ns x with
  | some (i, .cell) => do
   let t ← innerLoc ns loc r
   pure (((loc[i]?).getD none) :: t)
  | _ => M.bad)
 | (_, .cell) :: _ => M.bad
 | (_, _) :: r => do
  let t ← innerLoc ns loc r
  pure (none :: t)
noncomputable def isGlob (ns : Names) (x : Str) : Bool := match slot ns x with
 | some (_, .globalImplicit) => !(x == ("__debug__" : Str))
 | _ => false
noncomputable def compLoop (s : Src) (bindT : V → Loc → M Loc) (tests : Loc → M Bool) (elt : Loc → M V) : Nat → Nat → Loc → M (List V)
 | 0, _, _ => M.bad
 | k + 1, i, loc => do
  match ← s.get i with
  | none => pure []
  | some v => do
   let loc' ← bindT v loc
   if ← tests loc' then do
    let x ← elt loc'
    let r ← compLoop s bindT tests elt k (i + 1) loc'
    pure (x :: r)
   else compLoop s bindT tests elt k (i + 1) loc'
noncomputable def nm1 : Expr → Option (Str × Pos)
 | .Name x p => some (x, p)
 | _ => none
noncomputable def nms : List Expr → Option (List (Str × Pos))
 | [] => some []
 | t :: ts => (nm1 t).bind fun q => (nms ts).map fun qs => q :: qs
noncomputable def bindX (st : Str → V → Loc → M Loc) : List (Str × Pos) → List V → Loc → M Loc
 | [], [], loc => pure loc
 | q :: qs, v :: vs, loc => do
  let loc' ← st q.1 v loc
  bindX st qs vs loc'
 | _, _, _ => M.bad
noncomputable def bindNames (st : Str → V → Loc → M Loc) (ts : List Expr) (l : List V) (loc : Loc) : M Loc := match nms ts with
 | some qs => bindX st qs l loc
 | none => M.bad
noncomputable def tgt1 : Expr → Option (List Expr × Nat × Pos)
 | .Tuple ts k p => some (ts, k, p)
 | _ => none
noncomputable def bindTo (st : Str → V → Loc → M Loc) (t : Expr) (v : V) (loc : Loc) : M Loc := match nm1 t with
 | some q => st q.1 v loc
 | none => match tgt1 t with
  | some q => (match v with
   | .tup l => bindNames st q.1 l loc
   | _ => M.bad)
  | none => M.bad
noncomputable def ldName (C : Cfg) (ns : Names) (x : Str) (loc : Loc) : M V := match slot ns x with
 | some (i, .local) => ldLoc loc i
 | some (i, .cell) => ldLoc loc i
 | some (_, .globalImplicit) => ofOpt (C.glob x)
 | _ => M.bad
noncomputable def isSuper : Expr → Bool
 | .Call (.Name _ _) [] [] _ => true
 | _ => false
noncomputable def isStarE : Expr → Bool
 | .Starred _ _ => true
 | _ => false
noncomputable def noStars (es : List Expr) : Bool := es.all fun e => !isStarE e
noncomputable def bltTab : List Str := ["isinstance", "len", "list", "tuple", "sorted", "dict", "sum", "all", "int"]
noncomputable def callOk (C : Cfg) (ns : Names) (f : Str) (es : List Expr) : Bool := isGlob ns f && (noStars es && (C.isFn f || bltTab.contains f))
noncomputable def dfltOf (k : Keyword) : Option {z : Int // ∃ c p q, k = ⟨some "default", .Constant (.int z) c p, q⟩} := match k with
 | ⟨some t, .Constant (.int z) c p, q⟩ => if h : t = "default" then some ⟨z, c, p, q, by rw [h]⟩ else none
 | _ => none
noncomputable def maxOk (C : Cfg) (ns : Names) (f : Str) (a : Expr) : Bool := C.calm && (isGlob ns f && (!C.isFn f && (f == ("max" : Str) && noStars [a])))
noncomputable def nameIn (e : Expr) : Option {t : Str // ∃ p, e = .Name t p} := match e with
 | .Name t p => some ⟨t, p, rfl⟩
 | _ => none
noncomputable def intIn (e : Expr) : Option {i : Int // ∃ k p, e = .Constant (.int i) k p} := match e with
 | .Constant c k p => (match c with
  | .int i => some ⟨i, k, p, rfl⟩
  | _ => none)
 | _ => none
noncomputable def subIn (e : Expr) : Option {q : Expr × Expr × Pos // e = .Subscript q.1 q.2.1 q.2.2} := match e with
 | .Subscript o i p => some ⟨(o, i, p), rfl⟩
 | _ => none
noncomputable def callIn (e : Expr) : Option {q : Expr × List Expr × Pos // e = .Call q.1 q.2.1 [] q.2.2} := match e with
 | .Call f as ks p => (match ks with
  | [] => some ⟨(f, as, p), rfl⟩
  | _ :: _ => none)
 | _ => none
noncomputable def oneIn (l : List Expr) : Option {t : Expr // l = [t]} := match l with
 | [t] => some ⟨t, rfl⟩
 | _ => none
noncomputable def nameOf (e : Expr) : Option Str := (nameIn e).map (·.1)
noncomputable def callGlob (C : Cfg) (f : Str) (vs : List V) : M V := if C.isFn f then C.call f vs else if C.calm then blt f vs else bltQ f vs
noncomputable def rangeOf : V → M Src
 | .int n => if -1000000 ≤ n ∧ n ≤ 1000000 then pure (.vals (rangeV 0 n)) else M.bad
 | _ => M.bad
noncomputable def tgtOk (_ : Src) (_ : Expr) : Bool := true
noncomputable def compOk (k : ScopeKind) (names : Names) : Bool := (match k with | .function => true | _ => false) &&
 names.all fun p => match p.2 with
  | .local => (match names.lookup p.1 with | some .local => true | _ => false)
  | _ => true
noncomputable def srcTag (C : Cfg) (ns : Names) (f : Str) : Nat := if isGlob ns f && !C.isFn f then (if f = ("range" : Str) then 1 else 0) else 0
noncomputable def boolK {α : Type} (x : V) (yes no : M α) : M α := ⟨fun k σ => match x with
 | .bool b => cond b (yes.go k σ) (no.go k σ)
 | _ => .bad, fun k σ => by
 cases x with
 | bool b => cases b with
  | true => exact yes.nat k σ
  | false => exact no.nat k σ
 | _ => rfl⟩
mutual
noncomputable def ev (C : Cfg) : Expr → Names → Loc → M V
 | .Constant c _ _, _, _ => constV c
 | .Name x _, ns, loc => if x = ("__debug__" : Str) then M.bad else ldName C ns x loc
 | .BinOp l op r _, ns, loc => do
  let a ← ev C l ns loc
  let b ← ev C r ns loc
  binop op a b
 | .UnaryOp op x _, ns, loc => (match op with
  | .Not => do
   let a ← ev C x ns loc
   let t ← truth a
   pure (.bool (!t))
  | .USub => (match intIn x with
   | some i => pure (.int (-i.1))
   | none => M.bad)
  | _ => M.bad)
 | .BoolOp op vs _, ns, loc => evBool C vs op ns loc
 | .Compare l [op] [r] _, ns, loc => do
  let a ← ev C l ns loc
  let b ← ev C r ns loc
  cmp op a b
 | .Compare l [op, op2] [m, r] _, ns, loc => do
  let a ← ev C l ns loc
  let b ← ev C m ns loc
  let x ← cmp op a b
  boolK x (do
   let c ← ev C r ns loc
   cmp op2 b c) (pure (.bool false))
 | .Dict [] [] _, _, _ => newO (.dict 0 [])
 | .IfExp t a b _, ns, loc => do
  let c ← tst C t ns loc (ev C t ns loc)
  M.cond c (ev C a ns loc) (ev C b ns loc)
 | .Subscript o (.Slice lo hi none _) _, ns, loc => do
  let a ← ev C o ns loc
  let l ← evOpt C lo ns loc
  let h ← evOpt C hi ns loc
  let l' ← bound l
  let h' ← bound h
  sliceV l' h' a
 | .Subscript o i _, ns, loc => do
  let a ← ev C o ns loc
  let b ← ev C i ns loc
  item a b
 | .List es _, ns, loc => do
  let vs ← evs C es ns loc
  if vs.length ≤ sizeLine then newO (.list vs) else M.bad
 | .Tuple es _ _, ns, loc => do
  let vs ← evs C es ns loc
  if vs.length ≤ sizeLine then pure (.tup vs) else M.bad
 | .Call (.Name f _) as [] _, ns, loc =>
  if callOk C ns f as then
   (if f = ("isinstance" : Str) then evIsi C as ns loc
   else do
    let vs ← evs C as ns loc
    callGlob C f vs)
  else M.bad
 | .Call (.Name f _) [a] [k] _, ns, loc => (match dfltOf k with
  | some z => if maxOk C ns f a then (do
    let v ← ev C a ns loc
    bMax z.1 v) else M.bad
  | none => M.bad)
 | .Call (.Attribute o m ap) as [] p, ns, loc =>
  if ap.endLine = p.line ∧ as.length < 30 ∧ isSuper o = false ∧ noStars as = true then do
   let v ← ev C o ns loc
   let tg ← askS (mtag v m)
   let vs ← evs C as ns loc
   runM tg v vs
  else M.bad
 | .ListComp elt [⟨target, iter, ifs, 0⟩] scope _, ns, loc => do
  let s ← src C iter ns loc (ev C iter ns loc)
  if C.calm && (tgtOk s target && compOk scope.kind scope.names) then do
   let n ← s.count
   if n ≤ sizeLine then do
    let loc' ← innerLoc ns loc scope.names
    let l ← compLoop s (bindTo (stLocL (relab ns scope.names)) target) (tests C ifs (relab ns scope.names)) (ev C elt (relab ns scope.names)) (n + 1) 0 loc'
    newO (.list l)
   else M.bad
  else M.bad
 | _, _, _ => M.bad
noncomputable def evOpt (C : Cfg) : Option Expr → Names → Loc → M V
 | none, _, _ => pure .none
 | some e, ns, loc => ev C e ns loc
noncomputable def evs (C : Cfg) : List Expr → Names → Loc → M (List V)
 | [], _, _ => pure []
 | e :: r, ns, loc => do
  let v ← ev C e ns loc
  let vs ← evs C r ns loc
  pure (v :: vs)
noncomputable def evIsi (C : Cfg) : List Expr → Names → Loc → M V
 | [a, b], ns, loc => match nameOf b with
  | some t => if isGlob ns t then do
    let v ← ev C a ns loc
    isiV C t v
   else M.bad
  | none => M.bad
 | _, _, _ => M.bad
noncomputable def evBool (C : Cfg) : List Expr → BoolOp → Names → Loc → M V
 | [], _, _, _ => M.bad
 | e :: r, op, ns, loc => do
  let v ← ev C e ns loc
  match r with
  | [] => pure v
  | _ :: _ => do
   let t ← truth v
   match op with
   | .And => M.cond t (evBool C r op ns loc) (pure v)
   | .Or => M.cond t (pure v) (evBool C r op ns loc)
noncomputable def tst (C : Cfg) : Expr → Names → Loc → M V → M Bool
 | .UnaryOp .Not x _, ns, loc, _ => do
  let b ← tst C x ns loc (ev C x ns loc)
  pure (!b)
 | .BoolOp op vs _, ns, loc, _ => tstAll C vs op ns loc
 | .IfExp t a b _, ns, loc, _ => do
  let c ← tst C t ns loc (ev C t ns loc)
  M.cond c (tst C a ns loc (ev C a ns loc)) (tst C b ns loc (ev C b ns loc))
 | _, _, _, whole => do
  let v ← whole
  truth v
noncomputable def tstAll (C : Cfg) : List Expr → BoolOp → Names → Loc → M Bool
 | [], op, _, _ => pure (op == .And)
 | e :: r, op, ns, loc => do
  let b ← tst C e ns loc (ev C e ns loc)
  match op with
  | .And => M.cond b (tstAll C r op ns loc) (pure false)
  | .Or => M.cond b (pure true) (tstAll C r op ns loc)
noncomputable def tests (C : Cfg) : List Expr → Names → Loc → M Bool
 | [], _, _ => pure true
 | e :: r, ns, loc => match r with
  | [] => tst C e ns loc (ev C e ns loc)
  | _ :: _ => M.bad
noncomputable def src (C : Cfg) : Expr → Names → Loc → M V → M Src
 | .Call (.Name f _) as [] _, ns, loc, whole =>
  (match as with
  | [a] => if srcTag C ns f = 1 then (do
    let v ← ev C a ns loc
    rangeOf v)
   else (do
    let v ← whole
    srcV v)
  | _ => do
   let v ← whole
   srcV v)
 | _, _, _, whole => do
  let v ← whole
  srcV v
end
noncomputable def raiseV (C : Cfg) (c : Str) : M (Fl × Loc) := match C.ups c with
 | some _ => do
  let e ← newO (.exc c [])
  M.throw e
 | none => M.bad
noncomputable def excIs (C : Cfg) (t : Str) : V → M Bool
 | .ref n => do
  match ← getO n with
  | .exc c _ => ofOpt ((C.ups c).map fun us => us.contains t)
  | _ => M.bad
 | _ => M.bad
noncomputable def dropLoc (loc : Loc) : Loc := loc.map fun ya => none
noncomputable def clause (C : Cfg) (ns : Names) (loc : Loc) (t : Str) (nm : Option Str) (body : Loc → M (Fl × Loc)) (e : V) : M (Fl × Loc) := do
 if ← excIs C t e then (match nm with
  | none => M.safe (body loc)
  | some x => do
   let loc' ← stLocL ns x e loc
   let r ← M.safe (body loc')
   pure (r.1, dropLoc r.2))
 else M.bad
noncomputable def textOf (e : Expr) : Option {x : Str // ∃ k p, e = .Constant (.str x) k p} := match e with
 | .Constant (.str x) k p => some ⟨x, k, p, rfl⟩
 | _ => none
noncomputable def madeOf (e : Expr) : Option {q : Str × Expr // ∃ p r, e = .Call (.Name q.1 p) [q.2] [] r} := match e with
 | .Call (.Name c p) [a] [] r => some ⟨(c, a), p, r, rfl⟩
 | _ => none
noncomputable def raiseOf (C : Cfg) (ns : Names) (c : Str) (a : Expr) : M (Fl × Loc) := match textOf a with
 | some x => if C.calm && (isGlob ns c && decide (SOk x.1)) then raiseV C c else M.bad
 | none => M.bad
noncomputable def exRaise (C : Cfg) (ns : Names) : Option Expr → Option Expr → M (Fl × Loc)
 | some e, none => (match madeOf e with
  | some q => raiseOf C ns q.1.1 q.1.2
  | none => M.bad)
 | _, _ => M.bad
inductive TryF where
 | ret (e : Expr)
 | run (e : Expr)
noncomputable def TryF.expr : TryF → Expr
 | .ret e => e
 | .run e => e
inductive TryIs : Stmt → TryF → Prop
 | ret (e : Expr) (p : Pos) : TryIs (.Return (some e) p) (.ret e)
 | run (f : Expr) (as : List Expr) (p q : Pos) : TryIs (.Expr (.Call f as [] p) q) (.run (.Call f as [] p))
noncomputable def tryOne (st : Stmt) : Option {f : TryF // TryIs st f} := match st with
 | .Return (some e) p => some ⟨.ret e, .ret e p⟩
 | .Expr (.Call f as [] p) q => some ⟨.run (.Call f as [] p), .run f as p q⟩
 | _ => none
noncomputable def tryOf : List Stmt → Option TryF
 | [st] => (tryOne st).map (·.1)
 | _ => none
noncomputable def tryEnd (loc : Loc) : TryF → V → M (Fl × Loc)
 | .ret _, v => pure (.ret v, loc)
 | .run _, _ => pure (.next, loc)
noncomputable def flK {α : Type} (K : Fl × Loc → M α) (next : Loc → M α) (r : Fl × Loc) : M α := ⟨fun k σ => match r.1 with
 | .next => (next r.2).go k σ
 | f => (K (f, r.2)).go k σ, fun k σ => by
 obtain ⟨f, loc⟩ := r
 cases f with
 | next => exact (next loc).nat k σ
 | brk => exact (K (.brk, loc)).nat k σ
 | cont => exact (K (.cont, loc)).nat k σ
 | ret v => exact (K (.ret v, loc)).nat k σ⟩
noncomputable def andThen (r : Fl × Loc) (k : Loc → M (Fl × Loc)) : M (Fl × Loc) := flK (fun x => pure x) k r
noncomputable def forLoop (s : Src) (bindT : V → Loc → M Loc) (body : Loc → M (Fl × Loc)) : Nat → Nat → Loc → M (Fl × Loc)
 | 0, _, _ => M.bad
 | k + 1, i, loc => do
  match ← s.get i with
  | none => pure (.next, loc)
  | some v => do
   let loc' ← bindT v loc
   let r ← body loc'
   match r.1 with
   | .next => forLoop s bindT body k (i + 1) r.2
   | .cont => forLoop s bindT body k (i + 1) r.2
   | .brk => pure (.next, r.2)
   | .ret v => pure (.ret v, r.2)
noncomputable def exAsg (C : Cfg) (t value : Expr) (ns : Names) (loc : Loc) : M (Fl × Loc) := match nameIn t with
 | some x => do
  let v ← ev C value ns loc
  let loc' ← stLoc ns x.1 v loc
  pure (.next, loc')
 | none => match subIn t with
  | some q => do
   let v ← ev C value ns loc
   let a ← ev C q.1.1 ns loc
   let b ← ev C q.1.2.1 ns loc
   setItem a b v
   pure (.next, loc)
  | none => M.bad
mutual
noncomputable def ex (C : Cfg) : Stmt → Names → Loc → M (Fl × Loc)
 | .Expr e _, ns, loc => (match callIn e with
  | some _ => do
   let _ ← ev C e ns loc
   pure (.next, loc)
  | none => M.bad)
 | .Pass _, _, loc => pure (.next, loc)
 | .Return none _, _, loc => pure (.ret .none, loc)
 | .Return (some e) _, ns, loc => do
  let v ← ev C e ns loc
  pure (.ret v, loc)
 | .Assign ts value _, ns, loc => (match oneIn ts with
  | some t => exAsg C t.1 value ns loc
  | none => M.bad)
 | .If t a b _, ns, loc => do
  let c ← tst C t ns loc (ev C t ns loc)
  M.cond c (exs C a ns loc) (exs C b ns loc)
 | .For target iter body [] _, ns, loc => do
  let s ← src C iter ns loc (ev C iter ns loc)
  if C.calm && tgtOk s target then do
   let n ← s.count
   forLoop s (bindTo (stLoc ns) target) (exs C body ns) (n + 1) 0 loc
  else M.bad
 | .Raise e c _, ns, _ => exRaise C ns e c
 | .Try body hs els fin _, ns, loc => if C.calm && (els.isEmpty && (fin.isEmpty && !hs.isEmpty)) then (match tryOf body with
  | some f => M.tryd (ev C f.expr ns loc) (tryEnd loc f) (exH C hs ns loc)
  | none => M.bad) else M.bad
 | _, _, _ => M.bad
noncomputable def exs (C : Cfg) : List Stmt → Names → Loc → M (Fl × Loc)
 | [], _, loc => pure (.next, loc)
 | s :: r, ns, loc => do
  let x ← ex C s ns loc
  andThen x (exs C r ns)
noncomputable def exH (C : Cfg) : List ExceptHandler → Names → Loc → V → M (Fl × Loc)
 | [.ExceptHandler (some ty) nm (b :: bs) _], ns, loc, e => (match nameIn ty with
  | some t => if isGlob ns t.1 && (C.ups t.1).isSome then clause C ns loc t.1 nm (exs C.hush (b :: bs) ns) e else M.bad
  | none => M.bad)
 | _, _, _, _ => M.bad
end
structure Fn where
 params : List Str
 names : Names
 body : List Stmt
noncomputable def initLoc (params : List Str) (args : List V) : Names → Loc
 | [] => []
 | (x, _) :: r => ((params.zip args).lookup x) :: initLoc params args r
noncomputable def callFn (C : Cfg) (f : Fn) (args : List V) : M V :=
 if args.length = f.params.length then do
  let r ← exs C f.body f.names (initLoc f.params args f.names)
  pure (match r.1 with | .ret v => v | _ => .none)
 else M.bad
noncomputable def callN (fns : Str → Option Fn) (glob : Str → Option V) (ups : Str → Option (List Str)) : Nat → Bool → Str → List V → M V
 | 0, _, _, _ => M.bad
 | n + 1, q, f, args => match fns f with
  | some fn => callFn ⟨fun x => (fns x).isSome, callN fns glob ups n q, glob, q, callN fns glob ups n false, ups⟩ fn args
  | none => M.bad
noncomputable def fnsOf : List Stmt → Str → Option Fn
 | [], _ => none
 | .FunctionDef name args body _ _ _ scope _ _ _ :: r, x => match x == name with
  | true => some ⟨args.args.map (·.arg), scope.names, body⟩
  | false => fnsOf r x
 | _ :: r, x => fnsOf r x
end Mine.Internal

set_option backward.match.sparseCases false
namespace Mine.Internal
open PySem
section
variable {σ : Store} {loc : Loc}
theorem rangeV_get (a b : Int) (i : Nat) : (rangeV a b)[i]? = if i < (b - a).toNat then some (.int (a + i)) else none := by
 unfold rangeV
 rw [List.getElem?_map]
 by_cases h : i < (b - a).toNat
 ·rw [if_pos h, List.getElem?_range h]; rfl
 ·rw [if_neg h, List.getElem?_eq_none (by simpa using h)]; rfl
theorem bind_inv {α β : Type} {m : M α} {f : α → M β} {b : β} {σ₂ : Store} (h : (m >>= f) σ = .ok b σ₂) : ∃ a σ₁, m σ = .ok a σ₁ ∧ f a σ₁ = .ok b σ₂ := by
 cases e : m σ with
 | bad => rw [bind_bad e] at h; cases h
 | exc _ _ => rw [bind_exc e] at h; cases h
 | ok a σ₁ => rw [bind_ok e] at h; exact ⟨a, σ₁, rfl, h⟩
theorem compLoop_step {sr : Src} {bt : V → Loc → M Loc} {tt : Loc → M Bool} {et : Loc → M V} {k i : Nat} {o : Option V} (h : sr.at σ i = some o) : compLoop sr bt tt et (k + 1) i loc σ =
  (match o with | none => (pure [] : M (List V)) | some v => (bt v loc >>= fun loc' => tt loc' >>= fun c => if c = true then (et loc' >>= fun x => compLoop sr bt tt et k (i + 1) loc' >>= fun r => pure (x :: r)) else compLoop sr bt tt et k (i + 1) loc')) σ := by
 show (sr.get i >>= _) σ = _
 refine (bind_ok (a := o) (σ' := σ) (by unfold Src.get; rw [askS_eq, h])).trans ?_
 cases o <;> rfl
theorem compLoop_bad {sr : Src} {bt : V → Loc → M Loc} {tt : Loc → M Bool} {et : Loc → M V} {k i : Nat} (h : sr.at σ i = none) : compLoop sr bt tt et (k + 1) i loc σ = .bad := by
 show (sr.get i >>= _) σ = _
 rw [bind_bad (by unfold Src.get; rw [askS_eq, h])]
theorem forLoop_step {sr : Src} {bt : V → Loc → M Loc} {body : Loc → M (Fl × Loc)} {k i : Nat} {o : Option V} (h : sr.at σ i = some o) : forLoop sr bt body (k + 1) i loc σ =
  (match o with | none => (pure (.next, loc) : M (Fl × Loc)) | some v => (bt v loc >>= fun loc' => body loc' >>= fun r => match r.1 with
   | .next => forLoop sr bt body k (i + 1) r.2
   | .cont => forLoop sr bt body k (i + 1) r.2
   | .brk => pure (.next, r.2)
   | .ret v => pure (.ret v, r.2))) σ := by
 show (sr.get i >>= _) σ = _
 refine (bind_ok (a := o) (σ' := σ) (by unfold Src.get; rw [askS_eq, h])).trans ?_
 cases o <;> rfl
theorem getList_eq (n : Nat) : getList n σ = (match σ[n]? with | some (.list l) => .ok l σ | _ => .bad) := by
 unfold getList
 cases e : σ[n]? with
 | none => rw [bind_bad (by rw [getO_eq, e])]
 | some o =>
  rw [bind_ok (a := o) (σ' := σ) (by rw [getO_eq, e])]
  cases o <;> rfl
theorem length_append (x y : Str) : (x ++ y).length = x.length + y.length := by
 show (x.cps ++ y.cps).size = _
 exact Array.size_append ..
theorem cut_length_le {α : Type} (l : List α) (lo hi : Option Int) : (Mine.Internal.cut l lo hi).length ≤ l.length := by
 unfold Mine.Internal.cut
 rw [List.length_take, List.length_drop]; exact Nat.le_trans (Nat.min_le_right _ _) (Nat.sub_le _ _)
theorem setO_ok {n : Nat} {o : O} (hpos : 0 < n) (hn : n < σ.length) : setO n o σ = .ok () (σ.set n o) := by rw [setO_eq, if_pos ⟨hpos, hn⟩]
theorem sub_step {i j : Nat} (h : i + 1 ≤ j) : j - i = (j - (i + 1)) + 1 := by (first | lia | omega)
theorem up1 {n d : Nat} (h : n < d) : ∃ e, d = e + 1 := by
 cases d with
 | zero => exact absurd h (Nat.not_lt_zero _)
 | succ e => exact ⟨e, rfl⟩
theorem lt_of_get {α : Type} {l : List α} {n : Nat} {a : α} (h : l[n]? = some a) : n < l.length := by
 rcases Nat.lt_or_ge n l.length with hl | hl
 ·exact hl
 ·rw [List.getElem?_eq_none hl] at h; cases h
theorem putD_ok {n v : Nat} {l m : Tab} (hpos : 0 < n) (h : σ[n]? = some (.dict v l)) : putD n m σ = .ok () (σ.set n (.dict (v + 1) m)) := by
 show (match σ[n]? with | some (.dict v _) => if 0 < n then Res.ok () (σ.set n (.dict (v + 1) m)) else .bad | _ => .bad) = _
 rw [h]; exact if_pos hpos
theorem putD_bad {n : Nat} {m : Tab} (hpos : ¬0 < n) : putD n m σ = .bad := by
 show (match σ[n]? with | some (.dict v _) => if 0 < n then Res.ok () (σ.set n (.dict (v + 1) m)) else .bad | _ => .bad) = _
 cases σ[n]? with
 | none => rfl
 | some o => cases o with
  | dict v l => exact if_neg hpos
  | _ => rfl
theorem setO_bad {n : Nat} {o : O} (hpos : ¬ 0 < n) : setO n o σ = .bad := by rw [setO_eq, if_neg fun h => hpos h.1]
end
end Mine.Internal

set_option backward.match.sparseCases false
namespace Mine.Internal
open PySem PyProof.Rows
noncomputable abbrev Map := List (Addr × Nat)
noncomputable def tupO (vs : List Value) (n : Nat) : Obj := { cls := .type "tuple", data := .seq vs.toArray n }
noncomputable def listO (vs : List Value) (n : Nat) : Obj := { cls := .type "list", data := .seq vs.toArray n }
mutual
inductive Rel (ρ : Map) (h : Heap) : Value → V → Prop
 | none : Rel ρ h .none .none
 | bool (b : Bool) : Rel ρ h (.bool b) (.bool b)
 | int (i : Int) (t : Tok) : Rel ρ h (.int i t) (.int i)
 | str (x : Str) (t : Tok) : SOk x → Rel ρ h (.str x t) (.str x)
 | tup {a : Addr} {vs : List Value} {n : Nat} {l : List V} : h.get? a = some (tupO vs n) → vs.length ≤ sizeLine → RelAll ρ h vs l → Rel ρ h (.ref a) (.tup l)
 | ref {a : Addr} {d n : Nat} : ρ[n]? = some (a, d) → Rel ρ h (.ref a) (.ref n)
inductive RelAll (ρ : Map) (h : Heap) : List Value → List V → Prop
 | nil : RelAll ρ h [] []
 | cons {v : Value} {vs : List Value} {x : V} {l : List V} : Rel ρ h v x → RelAll ρ h vs l → RelAll ρ h (v :: vs) (x :: l)
end
noncomputable def keyIs : Key → Value → Bool
 | .inl i, v => Value.isInt i v
 | .inr x, v => Value.isStrOf x v
noncomputable def keyHash (w : World) : Key → Int
 | .inl i => hashInt i
 | .inr x => hashStr w x
theorem keyIs_shape : ∀ {k : Key} {v : Value}, keyIs k v = true → (∃ i t, k = .inl i ∧ v = .int i t) ∨ ∃ x t, k = .inr x ∧ v = .str x t
 | .inl i, v, h => let ⟨t, e⟩ := Value.isInt_shape (k := i) h; .inl ⟨i, t, rfl, e⟩
 | .inr x, v, h => let ⟨t, e⟩ := Value.isStrOf_shape (x := x) h; .inr ⟨x, t, rfl, e⟩
theorem isInt_same (i : Int) (t : Tok) : Value.isInt i (.int i t) = true := by simp [Value.isInt]
theorem isStrOf_same (x : Str) (t : Tok) : Value.isStrOf x (.str x t) = true := by simp [Value.isStrOf]
theorem eqBool_int_str {prog : Program} {w : World} {A : Around} {E : Value → Shared → Prop} {s : Shared} {a : Int} {t : Tok} {b : Str} {u : Tok} {Q : Bool → Shared → Prop} (h : Q false s) : wpAny (model prog w) A (eqBool (.int a t) (.str b u)) Q E s := by
 unfold eqBool
 refine wpAny_holding ?_
 have e : (Value.int a t == Value.str b u) = false := rfl
 rw [if_neg (by rw [e]; decide)]
 show wpAny _ _ (compareOp .Eq (Value.int a t) (Value.str b u) >>= _) Q E s
 exact wpAny_bind (EqMixed.eq_int_str (wpAny_truthy_bool h))
theorem eqBool_str_int {prog : Program} {w : World} {A : Around} {E : Value → Shared → Prop} {s : Shared} {a : Int} {t : Tok} {b : Str} {u : Tok} {Q : Bool → Shared → Prop} (h : Q false s) : wpAny (model prog w) A (eqBool (.str b u) (.int a t)) Q E s := by
 unfold eqBool
 refine wpAny_holding ?_
 have e : (Value.str b u == Value.int a t) = false := rfl
 rw [if_neg (by rw [e]; decide)]
 show wpAny _ _ (compareOp .Eq (Value.str b u) (Value.int a t) >>= _) Q E s
 exact wpAny_bind (EqMixed.eq_str_int (wpAny_truthy_bool h))
noncomputable def keyKind (prog : Program) (w : World) : KeyKind prog w Key where
 is := keyIs
 hash := keyHash w
 inj := fun v a b ha hb => by
  rcases keyIs_shape ha with ⟨i, t, rfl, rfl⟩ | ⟨x, t, rfl, rfl⟩
  ·rcases keyIs_shape hb with ⟨j, u, rfl, e⟩ | ⟨y, u, rfl, e⟩
   ·cases e; rfl
   ·cases e
  ·rcases keyIs_shape hb with ⟨j, u, rfl, e⟩ | ⟨y, u, rfl, e⟩
   ·cases e
   ·cases e; rfl
 byValue := fun k v h => by rcases keyIs_shape h with ⟨i, t, _, rfl⟩ | ⟨x, t, _, rfl⟩ <;> rfl
 pyHash := fun hv h => by
  rcases keyIs_shape hv with ⟨i, t, rfl, rfl⟩ | ⟨x, t, rfl, rfl⟩
  ·exact wpAny_pyHash_int h
  ·exact wpAny_pyHash_str h
 eqBool := fun {A E s a b u v Q} hu hv h => by
  rcases keyIs_shape hu with ⟨i, t, rfl, rfl⟩ | ⟨x, t, rfl, rfl⟩
  ·rcases keyIs_shape hv with ⟨j, t', rfl, rfl⟩ | ⟨y, t', rfl, rfl⟩
   ·refine wpAny_eqBool_int ?_
    have e : (i == j) = decide ((Sum.inl i : Key) = .inl j) := by
     by_cases hij : i = j
     ·subst hij; simp
     ·rw [decide_eq_false (fun e => hij (Sum.inl.inj e))]; exact beq_false_of_ne hij
    rw [e]; exact h
   ·exact eqBool_int_str h
  ·rcases keyIs_shape hv with ⟨j, t', rfl, rfl⟩ | ⟨y, t', rfl, rfl⟩
   ·exact eqBool_str_int h
   ·refine wpAny_eqBool_str ?_
    have e : decide (x = y) = decide ((Sum.inr x : Key) = .inr y) := by
     by_cases hxy : x = y
     ·subst hxy; simp
     ·rw [decide_eq_false hxy, decide_eq_false (fun e => hxy (Sum.inr.inj e))]
    rw [e]; exact h
 «strs» := fun k x t v h => by
  rcases keyIs_shape h with ⟨i, t', rfl, e⟩ | ⟨y, t', rfl, e⟩
  ·cases e
  ·cases e; exact (strKind prog w).«strs» x x t v (isStrOf_same x t)
inductive Ents (ρ : Map) (h : Heap) : List (Key × Value) → List (Key × V) → Prop
 | nil : Ents ρ h [] []
 | cons {k : Key} {v : Value} {x : V} {kvs : List (Key × Value)} {l : List (Key × V)} : (∀ s, k = .inr s → SOk s) → Rel ρ h v x → Ents ρ h kvs l → Ents ρ h ((k, v) :: kvs) ((k, x) :: l)
structure Bse where
 prog : Program
 w : World
 heap : Heap
 frs : List Env
noncomputable abbrev Bse.get? (K : Bse) (b : Addr) : Option Obj := K.heap.get? b
noncomputable def ClsIs (K : Bse) (c : Str) (C : Addr) : Prop := ∃ mg, K.heap.Ns mainGlobals mg ∧ mg c = some (.ref C)
theorem ClsIs.at {K : Bse} {c : Str} {C : Addr} {mg : Str → Option Value} (k : ClsIs K c C) (g : K.heap.Ns mainGlobals mg) : mg c = some (.ref C) := by
 obtain ⟨m, ⟨o, es, ep, h1, h2, _, h3⟩, e⟩ := k
 obtain ⟨o', es', ep', h1', h2', _, h3'⟩ := g
 rw [h1] at h1'; cases h1'
 rw [h2] at h2'; cases h2'
 rw [← h3', h3]; exact e
noncomputable def IsD (o : Obj) : Prop := ∃ es ep, o.data = .dict es ep
noncomputable def TbO (o : Obj) : Prop := o.cls = .type "traceback" ∧ ∃ tvs, o.data = .fields tvs ∧ 3 < tvs.size
noncomputable def TbOk (K : Bse) (h : Heap) (vs : Array Value) : Prop := 1 < vs.size ∧ (vs[1]? = some .none ∨ ∃ tb o, vs[1]? = some (.ref tb) ∧ h.get? tb = some o ∧ TbO o ∧ K.get? tb = none)
noncomputable def ORel (K : Bse) (ρ : Map) (h : Heap) (p : Addr × Nat) : O → Prop
 | .list l => ∃ vs n, h.get? p.1 = some (listO vs n) ∧ vs.length ≤ sizeLine ∧ RelAll ρ h vs l
 | .dict v l => p.2 = v ∧ (p.1 == sysModules) = false ∧ ∃ kvs, h.DictOf (keyKind K.prog K.w) p.1 kvs ∧ kvs.length ≤ sizeLine ∧ Ents ρ h kvs l
 | .inst _ _ => False
 | .exc c fs => fs = [] ∧ ∃ C o vs, ClsIs K c C ∧ h.get? p.1 = some o ∧ o.cls = .ref C ∧ o.dict = none ∧ o.data = .fields vs ∧ TbOk K h vs ∧ K.get? p.1 = none
noncomputable def offMap (ρ : Map) (b : Addr) : Prop := ∀ p ∈ ρ, b ≠ p.1
noncomputable def FrAt (K : Bse) (ρ : Map) (h : Heap) (e : Env) : Prop := e.scope.kind ≠ .module ∧ ∃ L o, e.frame = some L ∧ h.get? L = some o ∧ IsD o ∧ offMap ρ L ∧ K.get? L = none
structure Inv (h₀ : Bse) (σ : Store) (ρ : Map) (h : Heap) : Prop where
 base : ∀ b o, h₀.get? b = some o → h.get? b = some o
 len : ρ.length = σ.length
 objs : ∀ (n : Nat) (o : O) (p : Addr × Nat), σ[n]? = some o → ρ[n]? = some p → ORel h₀ ρ h p o
 fresh : ∀ (n : Nat) (p : Addr × Nat), ρ[n]? = some p → 0 < n → h₀.get? p.1 = none
 apart : ∀ (i j : Nat) (p q : Addr × Nat), ρ[i]? = some p → ρ[j]? = some q → i ≠ j → p.1 ≠ q.1
 up : ∀ e ∈ h₀.frs, FrAt h₀ ρ h e
noncomputable def Soft (o o' : Obj) : Prop := o' = o ∨ (IsD o ∧ ∃ sl, o' = { o with slots := sl }) ∨ (TbO o ∧ TbO o')
theorem Soft.refl {o : Obj} : Soft o o := .inl rfl
theorem tb_not_d {o : Obj} (h : TbO o) (d : IsD o) : False := by
 obtain ⟨_, tvs, e, _⟩ := h
 obtain ⟨es, ep, e'⟩ := d
 rw [e] at e'; cases e'
theorem Soft.trans {o o' o'' : Obj} (x : Soft o o') (y : Soft o' o'') : Soft o o'' := by
 rcases x with rfl | ⟨d, sl, rfl⟩ | ⟨t, t'⟩
 ·exact y
 ·rcases y with rfl | ⟨_, sl', rfl⟩ | ⟨t, _⟩
  ·exact .inr (.inl ⟨d, sl, rfl⟩)
  ·exact .inr (.inl ⟨d, sl', rfl⟩)
  ·exact (tb_not_d t d).elim
 ·rcases y with rfl | ⟨d, _⟩ | ⟨_, t''⟩
  ·exact .inr (.inr ⟨t, t'⟩)
  ·exact (tb_not_d t' d).elim
  ·exact .inr (.inr ⟨t, t''⟩)
noncomputable def Firm (o : Obj) : Prop := ¬IsD o ∧ ¬TbO o
theorem Soft.firm {o o' : Obj} (x : Soft o o') (f : Firm o) : o' = o := by
 rcases x with e | ⟨d, _⟩ | ⟨t, _⟩
 ·exact e
 ·exact (f.1 d).elim
 ·exact (f.2 t).elim
structure Kin (o o' : Obj) : Prop where
 tup : ∀ vs n, o = tupO vs n → o' = o
 dict : IsD o → IsD o'
 tb : TbO o → TbO o'
theorem Kin.refl {o : Obj} : Kin o o := ⟨fun ya yb yc => rfl, id, id⟩
theorem Kin.trans {o o' o'' : Obj} (x : Kin o o') (y : Kin o' o'') : Kin o o'' where
 tup := fun vs n e => (y.tup vs n ((x.tup vs n e).trans e)).trans (x.tup vs n e)
 dict := fun d => y.dict (x.dict d)
 tb := fun d => y.tb (x.tb d)
structure Ext (W : List Addr) (ρ : Map) (h : Heap) (ρ' : Map) (h' : Heap) : Prop where
 pre : ∀ (n : Nat) (a : Addr) (v : Nat), ρ[n]? = some (a, v) → ∃ v', ρ'[n]? = some (a, v') ∧ v ≤ v' ∧ (v' = v → ∀ o, h.get? a = some o → IsD o → h'.get? a = some o)
 keep : ∀ b o, h.get? b = some o → b ∉ W → offMap ρ b → ∃ o', h'.get? b = some o' ∧ Soft o o'
 kin : ∀ b o, h.get? b = some o → ∃ o', h'.get? b = some o' ∧ Kin o o'
 new : ∀ (i : Nat) (p : Addr × Nat), ρ'[i]? = some p → ρ.length ≤ i → h.get? p.1 = none
section
variable {W : List Addr} {ρ ρ' ρ'' : Map} {h h' h'' : Heap}
theorem Ext.alive (x : Ext W ρ h ρ' h') : ∀ b o, h.get? b = some o → ∃ o', h'.get? b = some o' := fun b o e => let ⟨o', e', _⟩ := x.kin b o e; ⟨o', e'⟩
theorem Ext.tups (x : Ext W ρ h ρ' h') : ∀ b vs n, h.get? b = some (tupO vs n) → h'.get? b = some (tupO vs n) := fun b vs n e => by
 obtain ⟨o', e', k⟩ := x.kin b _ e
 rw [e', k.tup vs n rfl]
theorem Ext.tbs (x : Ext W ρ h ρ' h') : ∀ b o, h.get? b = some o → TbO o → ∃ o', h'.get? b = some o' ∧ TbO o' := fun b o e t => let ⟨o', e', k⟩ := x.kin b o e; ⟨o', e', k.tb t⟩
theorem Ext.firm (x : Ext W ρ h ρ' h') {b : Addr} {o : Obj} (e : h.get? b = some o) (f : Firm o) (hW : b ∉ W) (off : offMap ρ b) : h'.get? b = some o := by
 obtain ⟨o', e', s⟩ := x.keep b o e hW off
 rw [e', s.firm f]
theorem Ext.refl : Ext W ρ h ρ h where
 pre := fun ya yb v e => ⟨v, e, Nat.le_refl _, fun ya yb g yc => g⟩
 keep := fun ya o e yb yc => ⟨o, e, .refl⟩
 kin := fun ya o e => ⟨o, e, .refl⟩
 new := fun i p e hi => by rw [List.getElem?_eq_none hi] at e; cases e
theorem offMap.ext (x : Ext W ρ h ρ' h') {b : Addr} {o : Obj} (hb : h.get? b = some o) (off : offMap ρ b) : offMap ρ' b := fun p hp => by
 obtain ⟨i, hi⟩ := List.getElem?_of_mem hp
 rcases Nat.lt_or_ge i ρ.length with hl | hl
 ·obtain ⟨_, h1, _⟩ := x.pre i _ _ (List.getElem?_eq_getElem hl)
  rw [hi] at h1; cases h1
  exact off ρ[i] (List.getElem_mem hl)
 ·have n1 := x.new i p hi hl
  exact fun eq => (by rw [← eq, hb] at n1; cases n1)
theorem Ext.trans (x : Ext W ρ h ρ' h') (y : Ext W ρ' h' ρ'' h'') : Ext W ρ h ρ'' h'' where
 pre := fun n a v e => by
  obtain ⟨v', e', l, k⟩ := x.pre n a v e
  obtain ⟨v'', e'', l', k'⟩ := y.pre n a v' e'
  refine ⟨v'', e'', Nat.le_trans l l', fun q o g d => ?_⟩
  have q1 : v' = v := Nat.le_antisymm (q ▸ l') l
  exact k' (q.trans q1.symm) o (k q1 o g d) d
 keep := fun b o e hW hρ => by
  obtain ⟨o', e', s⟩ := x.keep b o e hW hρ
  obtain ⟨o'', e'', s'⟩ := y.keep b o' e' hW (offMap.ext x e hρ)
  exact ⟨o'', e'', s.trans s'⟩
 kin := fun b o e => by
  obtain ⟨o', e', s⟩ := x.kin b o e
  obtain ⟨o'', e'', s'⟩ := y.kin b o' e'
  exact ⟨o'', e'', s.trans s'⟩
 new := fun i p e hi => by
  rcases Nat.lt_or_ge i ρ'.length with hl | hl
  ·obtain ⟨_, h1, _⟩ := y.pre i _ _ (List.getElem?_eq_getElem hl)
   rw [e] at h1; cases h1
   exact x.new i ρ'[i] (List.getElem?_eq_getElem hl) hi
  ·have n1 := y.new i p e hl
   cases e1 : h.get? p.1 with
   | none => rfl
   | some o => obtain ⟨o', e'⟩ := x.alive _ _ e1; rw [n1] at e'; cases e'
theorem Ext.weak {W' : List Addr} (x : Ext W ρ h ρ' h') (hw : ∀ b ∈ W, b ∈ W' ∨ h.get? b = none) : Ext W' ρ h ρ' h' where
 pre := x.pre
 keep := fun b o e hW hρ => x.keep b o e (fun hm => (hw b hm).elim hW fun e' => by rw [e] at e'; cases e') hρ
 kin := x.kin
 new := x.new
theorem Ext.of_keep (hoff : ∀ b ∈ W, offMap ρ b) (hk : ∀ b o, h.get? b = some o → b ∉ W → h'.get? b = some o) (ht : ∀ b o, h.get? b = some o → b ∈ W → ∃ o', h'.get? b = some o' ∧ Kin o o') : Ext W ρ h ρ h' where
 pre := fun n a v e => ⟨v, e, Nat.le_refl _, fun ya o g yb => hk a o g fun hm => hoff a hm _ (List.mem_of_getElem? e) rfl⟩
 keep := fun b o e hW ya => ⟨o, hk b o e hW, .refl⟩
 kin := fun b o e => by
  by_cases hm : b ∈ W
  ·exact ht b o e hm
  ·exact ⟨o, hk b o e hm, .refl⟩
 new := fun i p e hi => by rw [List.getElem?_eq_none hi] at e; cases e
theorem Ext.of_keeps (hk : ∀ b o, h.get? b = some o → h'.get? b = some o) : Ext W ρ h ρ h' where
 pre := fun n a v e => ⟨v, e, Nat.le_refl _, fun ya o g yb => hk a o g⟩
 keep := fun b o e ya yb => ⟨o, hk b o e, .refl⟩
 kin := fun b o e => ⟨o, hk b o e, .refl⟩
 new := fun i p e hi => by rw [List.getElem?_eq_none hi] at e; cases e
noncomputable def Sub (ρ : Map) (h : Heap) (ρ' : Map) (h' : Heap) : Prop :=
 (∀ (n : Nat) (a : Addr) (v : Nat), ρ[n]? = some (a, v) → ∃ v', ρ'[n]? = some (a, v')) ∧ (∀ b vs n, h.get? b = some (tupO vs n) → h'.get? b = some (tupO vs n)) ∧ ∀ b o, h.get? b = some o → TbO o → ∃ o', h'.get? b = some o' ∧ TbO o'
theorem Ext.sub (x : Ext W ρ h ρ' h') : Sub ρ h ρ' h' := ⟨fun n a v e => let ⟨v', e', _⟩ := x.pre n a v e; ⟨v', e'⟩, x.tups, x.tbs⟩
theorem Sub.snoc {p : Addr × Nat} : Sub ρ h (ρ ++ [p]) h := ⟨fun n a v e => ⟨v, by
 rw [List.getElem?_append_left (by rcases Nat.lt_or_ge n ρ.length with hl | hl; exact hl; rw [List.getElem?_eq_none hl] at e; cases e)]; exact e⟩, fun ya yb yc e => e, fun ya o e t => ⟨o, e, t⟩⟩
theorem Sub.trans (x : Sub ρ h ρ' h') (y : Sub ρ' h' ρ'' h'') : Sub ρ h ρ'' h'' := ⟨fun n a v e => let ⟨v', e'⟩ := x.1 n a v e; y.1 n a v' e', fun b vs n e => y.2.1 b vs n (x.2.1 b vs n e), fun b o e t => let ⟨o', e', t'⟩ := x.2.2 b o e t; y.2.2 b o' e' t'⟩
theorem Sub.keeps (hk : ∀ b o, h.get? b = some o → h'.get? b = some o) : Sub ρ h ρ h' := ⟨fun ya yb v e => ⟨v, e⟩, fun b ya yb e => hk b _ e, fun b o e t => ⟨o, hk b o e, t⟩⟩
theorem TbOk.sub {K : Bse} {vs : Array Value} (t : TbOk K h vs) (x : Sub ρ h ρ' h') : TbOk K h' vs := ⟨t.1, t.2.imp id fun ⟨tb, o, e, g, b, z⟩ => let ⟨o', g', b'⟩ := x.2.2 tb o g b; ⟨tb, o', e, g', b', z⟩⟩
theorem RelAll.ind {P : ∀ (vs : List Value) (l : List V), RelAll ρ h vs l → Prop} (h0 : P [] [] .nil) (h1 : ∀ {v : Value} {vs : List Value} {x : V} {l : List V} (a : Rel ρ h v x) (r : RelAll ρ h vs l), P vs l r → P (v :: vs) (x :: l) (.cons a r)) {vs : List Value} {l : List V} (r : RelAll ρ h vs l) : P vs l r :=
 RelAll.rec (motive_1 := fun ya yb yc => True) (motive_2 := fun vs l r => P vs l r) trivial (fun ya => trivial) (fun ya yb => trivial) (fun ya yb yc => trivial) (fun ya yb yc yd => trivial) (fun ya => trivial) h0 (fun a r ya ih => h1 a r ih) r
theorem Rel.sub (x : Sub ρ h ρ' h') {v : Value} {a : V} (r : Rel ρ h v a) : Rel ρ' h' v a :=
 Rel.rec (motive_1 := fun v a ya => Rel ρ' h' v a) (motive_2 := fun vs l ya => RelAll ρ' h' vs l) .none (fun b => .bool b) (fun i t => .int i t) (fun s t hs => .str s t hs) (fun e hl ya ih => .tup (x.2.1 _ _ _ e) hl ih) (fun e => (x.1 _ _ _ e).elim fun ya e' => .ref e') .nil (fun ya yb a b => .cons a b) r
theorem RelAll.sub (x : Sub ρ h ρ' h') {vs : List Value} {l : List V} (r : RelAll ρ h vs l) : RelAll ρ' h' vs l := RelAll.ind (P := fun vs l ya => RelAll ρ' h' vs l) .nil (fun a ya ih => .cons (a.sub x) ih) r
theorem Rel.ext (x : Ext W ρ h ρ' h') {v : Value} {a : V} (r : Rel ρ h v a) : Rel ρ' h' v a := r.sub x.sub
theorem RelAll.ext (x : Ext W ρ h ρ' h') {vs : List Value} {l : List V} (r : RelAll ρ h vs l) : RelAll ρ' h' vs l := r.sub x.sub
theorem Ents.sub (x : Sub ρ h ρ' h') {kvs : List (Key × Value)} {l : List (Key × V)} (r : Ents ρ h kvs l) : Ents ρ' h' kvs l := by
 induction r with
 | nil => exact .nil
 | cons hs r _ ih => exact .cons hs (r.sub x) ih
theorem Ents.length {kvs : List (Key × Value)} {l : List (Key × V)} (r : Ents ρ h kvs l) : kvs.length = l.length := by
 induction r with
 | nil => rfl
 | cons _ _ _ ih => rw [List.length_cons, List.length_cons, ih]
theorem Ents.keys {kvs : List (Key × Value)} {l : List (Key × V)} (r : Ents ρ h kvs l) : kvs.map (·.1) = l.map (·.1) := by
 induction r with
 | nil => rfl
 | cons _ _ _ ih => rw [List.map_cons, List.map_cons, ih]
theorem RelAll.length {vs : List Value} {l : List V} (r : RelAll ρ h vs l) : vs.length = l.length := RelAll.ind (P := fun vs l ya => vs.length = l.length) rfl (fun ya yb ih => by rw [List.length_cons, List.length_cons, ih]) r
theorem RelAll.append {vs ws : List Value} {l m : List V} (r : RelAll ρ h vs l) (s : RelAll ρ h ws m) : RelAll ρ h (vs ++ ws) (l ++ m) := RelAll.ind (P := fun vs l ya => RelAll ρ h (vs ++ ws) (l ++ m)) s (fun a ya ih => .cons a ih) r
theorem RelAll.get {vs : List Value} {l : List V} {k : Nat} {x : V} (r : RelAll ρ h vs l) : l[k]? = some x → ∃ v, vs[k]? = some v ∧ Rel ρ h v x := by
 induction r using RelAll.ind generalizing k with
 | h0 => intro e; cases e
 | h1 a r ih =>
  intro e
  cases k with
  | zero => cases e; exact ⟨_, rfl, a⟩
  | succ k => exact ih e
theorem RelAll.get_none {vs : List Value} {l : List V} {k : Nat} (r : RelAll ρ h vs l) (e : l[k]? = none) : vs[k]? = none := by
 rw [List.getElem?_eq_none_iff] at e ⊢
 rw [r.length]; exact e
end
noncomputable abbrev At (s : Shared) (H : Heap) (tk : Nat) : Shared := { s with heap := H, toks := tk }
section
variable (h₀ : Bse)
inductive Post (W : List Addr) (ρ : Map) (s : Shared) (σ' : Store) (R : Map → Heap → Prop) (s' : Shared) : Prop
 | mk (ρ' : Map) (h' : Heap) (tk : Nat) (e : s' = (At s h' tk)) (i : Inv h₀ σ' ρ' h') (x : Ext W ρ s.heap ρ' h') (r : R ρ' h') : Post W ρ s σ' R s'
noncomputable def RE (σ : Store) (e : V) (ev : Value) (ρ : Map) (_ : Heap) : Prop := ∃ n c fs a d, e = .ref n ∧ σ[n]? = some (.exc c fs) ∧ ev = .ref a ∧ ρ[n]? = some (a, d)
noncomputable def Sim (A : Around) (W : List Addr) {α β : Type} (t : Sem β) (r : Res α) (R : α → Map → Heap → β → Prop) (ρ : Map) (s : Shared) : Prop :=
 match r with
 | .bad => True
 | .exc e σ' => wpAny (model h₀.prog h₀.w) A t (fun ya yb => False) (fun ev s' => Post h₀ W ρ s σ' (RE σ' e ev) s') s
 | .ok a σ' => wpAny (model h₀.prog h₀.w) A t (fun b s' => Post h₀ W ρ s σ' (fun ρ' h' => R a ρ' h' b) s') (fun ya yb => False) s
end
section
variable {h₀ : Bse} {A : Around} {W : List Addr} {ρ : Map} {s : Shared} {α β γ δ : Type} {σ : Store}
theorem Post.mono {σ' : Store} {R R' : Map → Heap → Prop} {s' : Shared} (h : ∀ ρ' h', R ρ' h' → R' ρ' h') : Post h₀ W ρ s σ' R s' → Post h₀ W ρ s σ' R' s' :=
 fun ⟨ρ', h', tk, e, i, x, r⟩ => ⟨ρ', h', tk, e, i, x, h _ _ r⟩
theorem Post.after {ρ₁ : Map} {H : Heap} {tk : Nat} {σ' : Store} {R : Map → Heap → Prop} {s' : Shared} (x : Ext W ρ s.heap ρ₁ H) : Post h₀ W ρ₁ (At s H tk) σ' R s' → Post h₀ W ρ s σ' R s' :=
 fun ⟨ρ', h', tk, e, i, x', r⟩ => ⟨ρ', h', tk, e, i, x.trans x', r⟩
theorem Sim.bind {t : Sem β} {f : β → Sem γ} {m : M α} {k : α → M δ} {R : α → Map → Heap → β → Prop} {R' : δ → Map → Heap → γ → Prop}
  (h1 : Sim h₀ A W t (m σ) R ρ s)
  (h2 : ∀ a σ₁ ρ₁ H tk b, Inv h₀ σ₁ ρ₁ H → Ext W ρ s.heap ρ₁ H → R a ρ₁ H b → Sim h₀ A W (f b) (k a σ₁) R' ρ₁ (At s H tk)) :
  Sim h₀ A W (t >>= f) ((m >>= k) σ) R' ρ s := by
 rw [run_bind]
 cases e : m σ with
 | bad => exact trivial
 | exc _ _ => rw [e] at h1; exact wpAny_bind (wpAny_mono h1 (fun ya yb f => f.elim) fun ya yb x => x)
 | ok a σ₁ =>
  rw [e] at h1
  change Sim h₀ A W (t >>= f) (k a σ₁) R' ρ s
  have go : ∀ (Q : γ → Shared → Prop) (E : Value → Shared → Prop), (∀ b ρ₁ H tk, Ext W ρ s.heap ρ₁ H → Sim h₀ A W (f b) (k a σ₁) R' ρ₁ (At s H tk) → wpAny (model h₀.prog h₀.w) A (f b) Q E (At s H tk)) → wpAny (model h₀.prog h₀.w) A (t >>= f) Q E s := fun Q E hq =>
   wpAny_bind (wpAny_mono h1 (fun b s' hp => by
    obtain ⟨ρ₁, H, tk, rfl, i, x, r⟩ := hp
    exact hq b ρ₁ H tk x (h2 a σ₁ ρ₁ H tk b i x r)) fun ya yb h' => h'.elim)
  cases e2 : k a σ₁ with
  | bad => exact trivial
  | exc _ _ =>
   refine go _ _ fun b ρ₁ H tk x hs => ?_
   rw [e2] at hs
   exact wpAny_mono hs (fun ya yb f => f) fun ya yb hp => hp.after x
  | ok d σ₂ =>
   refine go _ _ fun b ρ₁ H tk x hs => ?_
   rw [e2] at hs
   exact wpAny_mono hs (fun ya yb hp => hp.after x) fun ya yb f => f
theorem Sim.ret {b : β} {a : α} {R : α → Map → Heap → β → Prop} (i : Inv h₀ σ ρ s.heap) (r : R a ρ s.heap b) :
  Sim h₀ A W (Pure.pure b : Sem β) ((Pure.pure a : M α) σ) R ρ s :=
 wpAny_pure ⟨ρ, s.heap, s.toks, rfl, i, Ext.refl, r⟩
theorem Sim.weak {W' : List Addr} {t : Sem β} {r : Res α} {R : α → Map → Heap → β → Prop} (h : Sim h₀ A W t r R ρ s) (hw : ∀ b ∈ W, b ∈ W' ∨ s.heap.get? b = none) :
  Sim h₀ A W' t r R ρ s := by
 cases r with
 | bad => exact trivial
 | exc _ _ => exact wpAny_mono h (fun ya yb f => f) fun b s' ⟨ρ', h', tk, e, i, x, r⟩ => ⟨ρ', h', tk, e, i, x.weak hw, r⟩
 | ok a σ' => exact wpAny_mono h (fun b s' ⟨ρ', h', tk, e, i, x, r⟩ => ⟨ρ', h', tk, e, i, x.weak hw, r⟩) fun ya yb x => x
theorem Sim.ahead {t : Sem PUnit} {f : PUnit → Sem β} {r : Res α} {R : α → Map → Heap → β → Prop} (ht : ∀ (Q : PUnit → Shared → Prop) (E : Value → Shared → Prop), Q ⟨⟩ s → wpAny (model h₀.prog h₀.w) A t Q E s)
  (h : Sim h₀ A W (f ⟨⟩) r R ρ s) : Sim h₀ A W (t >>= f) r R ρ s := by
 cases r with
 | bad => exact trivial
 | exc _ _ => exact wpAny_bind (ht _ _ h)
 | ok a σ' => exact wpAny_bind (ht _ _ h)
theorem Sim.first {γ : Type} {t : Sem γ} {f : γ → Sem β} {c : γ} {r : Res α} {R : α → Map → Heap → β → Prop} (ht : ∀ (Q : γ → Shared → Prop) (E : Value → Shared → Prop), Q c s → wpAny (model h₀.prog h₀.w) A t Q E s)
  (h : Sim h₀ A W (f c) r R ρ s) : Sim h₀ A W (t >>= f) r R ρ s := by
 cases r with
 | bad => exact trivial
 | exc _ _ => exact wpAny_bind (ht _ _ h)
 | ok a σ' => exact wpAny_bind (ht _ _ h)
theorem Sim.standAt {p : Pos} {f : PUnit → Sem β} {r : Res α} {R : α → Map → Heap → β → Prop} (h : Sim h₀ A W (f ⟨⟩) r R ρ s) :
  Sim h₀ A W (PySem.standAt p >>= f) r R ρ s := Sim.ahead (fun ya yb hq => wpAny_standAt hq) h
theorem Sim.holding {vs : List Value} {t : Sem β} {r : Res α} {R : α → Map → Heap → β → Prop} (h : Sim h₀ A W t r R ρ s) :
  Sim h₀ A W (PySem.holding vs t) r R ρ s := by
 cases r with
 | bad => exact trivial
 | exc _ _ => exact wpAny_holding h
 | ok a σ' => exact wpAny_holding h
theorem Sim.of_wp {t : Sem β} {a : α} {σ' : Store} {R : α → Map → Heap → β → Prop}
  (h : wpAny (model h₀.prog h₀.w) A t (fun b s' => Post h₀ W ρ s σ' (fun ρ' h' => R a ρ' h' b) s') (fun ya yb => False) s) : Sim h₀ A W t (.ok a σ') R ρ s := h
end
end Mine.Internal

set_option backward.match.sparseCases false
namespace Mine.Internal
open PySem
noncomputable def compAll (C : Cfg) (elt target : Expr) (ifs : List Expr) (scope : Scope) (s : Src) (ns : Names) (loc : Loc) : M V :=
 if C.calm && (tgtOk s target && compOk scope.kind scope.names) then
  s.count >>= fun n => (if n ≤ sizeLine then (innerLoc ns loc scope.names >>= fun loc' =>
  compLoop s (bindTo (stLocL (relab ns scope.names)) target) (tests C ifs (relab ns scope.names)) (ev C elt (relab ns scope.names)) (n + 1) 0 loc' >>= fun l =>
  newO (.list l)) else M.bad)
 else M.bad
noncomputable def forAll (C : Cfg) (target : Expr) (body : List Stmt) (s : Src) (ns : Names) (loc : Loc) : M (Fl × Loc) :=
 if C.calm && tgtOk s target then s.count >>= fun n => forLoop s (bindTo (stLoc ns) target) (exs C body ns) (n + 1) 0 loc else M.bad
noncomputable def exsK {α : Type} (C : Cfg) (sts : List Stmt) (ns : Names) (loc : Loc) (K : Fl × Loc → M α) : M α := exs C sts ns loc >>= K
noncomputable def retK (r : Fl × Loc) : M V := pure (match r.1 with | .ret v => v | _ => .none)
noncomputable def nthS (l : List Stmt) (i : Nat) : Stmt := (l[i]?).getD (.Pass ⟨0, 0, 0, 0⟩)
noncomputable def noE : Expr := .Constant .none 0 ⟨0, 0, 0, 0⟩
noncomputable def nthE (l : List Expr) (i : Nat) : Expr := (l[i]?).getD noE
noncomputable def sVal : Stmt → Expr
 | .Assign _ v _ => v
 | .Return (some v) _ => v
 | .Expr v _ => v
 | .For _ i _ _ _ => i
 | .If t _ _ _ => t
 | _ => noE
noncomputable def sTgt : Stmt → Expr
 | .For t _ _ _ _ => t
 | .Assign ts _ _ => nthE ts 0
 | _ => noE
noncomputable def sBody : Stmt → List Stmt
 | .For _ _ b _ _ => b
 | .If _ b _ _ => b
 | _ => []
noncomputable def sElse : Stmt → List Stmt
 | .If _ _ b _ => b
 | _ => []
noncomputable def ePart (e : Expr) (i : Nat) : Expr := match e with
 | .BoolOp _ vs _ => nthE vs i
 | .BinOp l _ r _ => nthE [l, r] i
 | .UnaryOp _ x _ => x
 | .IfExp t a b _ => nthE [t, a, b] i
 | .Compare l _ rs _ => nthE (l :: rs) i
 | .Call f as _ _ => nthE (f :: as) i
 | .Attribute o _ _ => o
 | .Subscript o j _ => nthE [o, j] i
 | .Slice lo hi st _ => nthE [lo.getD noE, hi.getD noE, st.getD noE] i
 | .List es _ => nthE es i
 | .Dict ks vs _ => nthE (ks.map (·.getD noE) ++ vs) i
 | .Tuple es _ _ => nthE es i
 | .ListComp elt gs _ _ => nthE (elt :: gs.flatMap fun g => g.iter :: g.target :: g.ifs) i
 | _ => noE
noncomputable def cElt (e : Expr) : Expr := ePart e 0
noncomputable def cIter (e : Expr) : Expr := ePart e 1
noncomputable def cTgt (e : Expr) : Expr := ePart e 2
noncomputable def cIfs : Expr → List Expr
 | .ListComp _ [g] _ _ => g.ifs
 | _ => []
noncomputable def cScope : Expr → Scope
 | .ListComp _ _ s _ => s
 | _ => default
end Mine.Internal

set_option backward.match.sparseCases false
namespace Mine.Internal
open PySem PyProof.Rows
noncomputable def defOf (d : DefRec) : Str × Fn := (d.name, ⟨d.params.args.map (·.arg), d.scope.names, d.body⟩)
noncomputable def defsV (q : Program) : List (Str × Fn) := (recsOf q).map defOf
noncomputable def fnsT (tab : List (Str × Fn)) : Str → Option Fn := fun x => tab.lookup x
noncomputable def cfgN (fns : Str → Option Fn) (glob : Str → Option V) (ups : Str → Option (List Str)) (d : Nat) (q : Bool) : Cfg := ⟨fun x => (fns x).isSome, callN fns glob ups d q, glob, q, callN fns glob ups d false, ups⟩
noncomputable def litV : PyData → Option V
 | .none => some .none
 | .bool b => some (.bool b)
 | .int i => some (.int i)
 | .str s => if SOk s then some (.str s) else none
 | _ => none
noncomputable def globV (q : Program) : Str → Option V := fun x => (valOf q x).bind litV
noncomputable def globT (gs : List (Str × V)) : Str → Option V := fun x => gs.lookup x
noncomputable def intOf : V → Option Int
 | .int a => some a
 | _ => none
noncomputable def strOf : V → Option Str
 | .str a => some a
 | _ => none
noncomputable def sameV (o : Option V) (v : V) : Bool := ((intOf v).isSome && (o.bind intOf == intOf v)) || ((strOf v).isSome && (o.bind strOf == strOf v))
noncomputable def globOk (q : Program) (gs : List (Str × V)) : Bool := gs.all fun p => sameV (globV q p.1) p.2
noncomputable def upsT (us : List (Str × List Str)) : Str → Option (List Str) := fun x => us.lookup x
noncomputable def LawOk (tab : List (Str × Fn)) (glob : Str → Option V) (ups : Str → Option (List Str)) (d : Nat) : Prop := ∀ zs : List Int, zs.length ≤ 63 → ∃ σ, callN (fnsT tab) glob ups d true "law" [.ref 0] [.list (zs.map .int)] = .ok (.bool true) σ
end Mine.Internal

set_option backward.match.sparseCases false
namespace Mine.Internal
open PySem PyProof.Rows
theorem slotGo_lookup {x : Str} : ∀ {ns : Names} {i j : Nat} {k : NameKind}, slotGo ns x i = some (j, k) → ns.lookup x = some k
 | [], _, _, _, h => by cases h
 | (y, k') :: r, i, j, k, h => by
  unfold slotGo at h
  rw [List.lookup_cons]
  split at h
  ·rename_i he; rw [he]; cases h; rfl
  ·rename_i he; rw [he]; exact slotGo_lookup h
theorem slot_lookup {x : Str} {ns : Names} {j : Nat} {k : NameKind} (h : slot ns x = some (j, k)) : ns.lookup x = some k := slotGo_lookup h
theorem slotGo_ge {x : Str} : ∀ {ns : Names} {i j : Nat} {k : NameKind}, slotGo ns x i = some (j, k) → i ≤ j
 | [], _, _, _, h => by cases h
 | (y, k') :: r, i, j, k, h => by
  unfold slotGo at h
  split at h
  ·cases h; exact Nat.le_refl _
  ·exact Nat.le_of_succ_le (slotGo_ge h)
set_option tactic.hygienic true in
theorem slotGo_inj {x y : Str} : ∀ {ns : Names} {i j : Nat} {k k' : NameKind}, slotGo ns x i = some (j, k) → slotGo ns y i = some (j, k') → x = y
 | [], _, _, _, _, h, _ => by cases h
 | (z, k₀) :: r, i, j, k, k', h, h' => by
  unfold slotGo at h h'
  split at h <;> split at h'
  ·rename_i e1 _ e2; exact (beq_iff_eq.mp e1).trans (beq_iff_eq.mp e2).symm
  ·cases h; exact absurd (slotGo_ge h') (Nat.not_succ_le_self _)
  ·cases h'; exact absurd (slotGo_ge h) (Nat.not_succ_le_self _)
  ·exact slotGo_inj h h'
theorem slot_inj {x y : Str} {ns : Names} {j : Nat} {k k' : NameKind} (h : slot ns x = some (j, k)) (h' : slot ns y = some (j, k')) : x = y := slotGo_inj h h'
structure Frm (h₀ : Bse) (env : Env) (ns : Names) (loc : Loc) (ρ : Map) (h : Heap) : Prop where
 names : env.scope.names = ns
 kind : env.scope.kind = .function
 globals : env.globals = mainGlobals
 blts : env.builtins = builtinsNs
 vars : ∃ m, h.Ns env.locals m ∧ ∀ x i v, slot ns x = some (i, .local) → loc[i]? = some (some v) → ∃ val, m x = some val ∧ Rel ρ h val v
 cell : ∀ x i, slot ns x = some (i, .cell) → ∃ c o, env.cells.lookup x = some c ∧ h.IsCell c o ∧ ∀ v, loc[i]? = some (some v) → ∃ val, o = some val ∧ Rel ρ h val v
 live : ∀ x c, env.cells.lookup x = some c → ∃ o, h.IsCell c o
 offL : offMap ρ env.locals
 offC : ∀ x c, env.cells.lookup x = some c → c ≠ env.locals ∧ offMap ρ c
 apart : ∀ x y c, env.cells.lookup x = some c → env.cells.lookup y = some c → x = y
 top : ∃ e ∈ h₀.frs, e.frame = env.frame
noncomputable def frameW (env : Env) : List Addr := env.locals :: env.scope.names.filterMap fun p => env.cells.lookup p.1
noncomputable def offFrame (env : Env) (b : Addr) : Prop := b ≠ env.locals ∧ ∀ y c, env.cells.lookup y = some c → b ≠ c
section
variable {h₀ : Bse} {W : List Addr} {ρ ρ' : Map} {h h' : Heap} {env : Env} {ns : Names} {loc : Loc}
theorem mem_of_lookup {α : Type} : ∀ {l : List (Str × α)} {n : Str} {c : α}, l.lookup n = some c → (n, c) ∈ l
 | [], _, _, h => by cases h
 | (k, v) :: r, n, c, h => by
  rw [List.lookup_cons] at h
  split at h
  ·rename_i e
   cases h; rw [beq_iff_eq.mp e]; exact List.mem_cons_self ..
  ·exact List.mem_cons_of_mem _ (mem_of_lookup h)
theorem frameW_cell {x : Str} {k : NameKind} {c : Addr} (hm : (x, k) ∈ env.scope.names) (hc : env.cells.lookup x = some c) : c ∈ frameW env := List.mem_cons_of_mem _ (List.mem_filterMap.mpr ⟨(x, k), hm, hc⟩)
theorem offFrame.notin {b : Addr} (h : offFrame env b) : b ∉ frameW env := fun hm => by
 rcases List.mem_cons.mp hm with rfl | hm
 ·exact h.1 rfl
 ·obtain ⟨⟨x, k⟩, _, hc⟩ := List.mem_filterMap.mp hm
  exact h.2 x b hc rfl
theorem Frm.offDead (F : Frm h₀ env ns loc ρ h) {b : Addr} (hd : h.get? b = none) : offFrame env b := by
 refine ⟨fun e => ?_, fun y c hc e => ?_⟩
 ·obtain ⟨m, ⟨o, es, ep, ho, r⟩, hv⟩ := F.vars
  rw [← e, hd] at ho; cases ho
 ·obtain ⟨_, o, ho, _⟩ := F.live y c hc
  rw [← e, hd] at ho; cases ho
theorem Ext.nsAt (x : Ext W ρ h ρ' h') {a : Addr} {m : Str → Option Value} (hn : h.Ns a m) (hW : a ∉ W) (off : offMap ρ a) : h'.Ns a m := by
 obtain ⟨o, es, ep, ho, hd, r⟩ := hn
 obtain ⟨o', ho', hs⟩ := x.keep _ _ ho hW off
 refine ⟨o', es, ep, ho', ?_, r⟩
 rcases hs with rfl | ⟨_, sl, rfl⟩ | ⟨t, _⟩
 ·exact hd
 ·exact hd
 ·exact (tb_not_d t ⟨es, ep, hd⟩).elim
theorem Ext.cell (x : Ext W ρ h ρ' h') {a : Addr} {v : Option Value} (hn : h.IsCell a v) (hW : a ∉ W) (off : offMap ρ a) : h'.IsCell a v := by
 obtain ⟨o, ho, hd⟩ := hn
 exact ⟨o, x.firm ho ⟨fun ⟨es, ep, e⟩ => (by rw [hd] at e; cases e), fun ⟨_, tvs, e, _⟩ => (by rw [hd] at e; cases e)⟩ hW off, hd⟩
theorem Frm.ext (F : Frm h₀ env ns loc ρ h) (x : Ext W ρ h ρ' h') (hW : ∀ b ∈ W, offFrame env b) : Frm h₀ env ns loc ρ' h' where
 names := F.names
 kind := F.kind
 globals := F.globals
 blts := F.blts
 vars := by
  obtain ⟨m, hn, hv⟩ := F.vars
  refine ⟨m, x.nsAt hn (fun hm => (hW _ hm).1 rfl) F.offL, fun y i v h1 h2 => ?_⟩
  obtain ⟨val, e, hr⟩ := hv y i v h1 h2
  exact ⟨val, e, hr.ext x⟩
 cell := fun y i h1 => by
  obtain ⟨c, o, e, hc, hv⟩ := F.cell y i h1
  refine ⟨c, o, e, x.cell hc (fun hm => (hW _ hm).2 y c e rfl) (F.offC y c e).2, fun v hl => ?_⟩
  obtain ⟨val, e', hr⟩ := hv v hl
  exact ⟨val, e', hr.ext x⟩
 live := fun y c e => by
  obtain ⟨o, hc⟩ := F.live y c e
  exact ⟨o, x.cell hc (fun hm => (hW _ hm).2 y c e rfl) (F.offC y c e).2⟩
 offL := by
  obtain ⟨m, ⟨o, es, ep, ho, r⟩, hv⟩ := F.vars
  exact offMap.ext x ho F.offL
 offC := fun y c e => by
  obtain ⟨_, o, ho, _⟩ := F.live y c e
  exact ⟨(F.offC y c e).1, offMap.ext x ho (F.offC y c e).2⟩
 apart := F.apart
 top := F.top
end
structure Rm (h₀ : Bse) (A : Around) (n : Nat) (q : Bool) : Prop where
 handled : q = true → A.handled = none
 depth : A.depth + n < recursionLimit
 units : A.units + 8 * n + 300 < cLine
 frames : A.frames = some h₀.frs
end Mine.Internal

set_option backward.match.sparseCases false
namespace Mine.Internal
open PySem PyProof.Rows
section
variable {h₀ : Bse} {W : List Addr} {ρ ρ' : Map} {h h' : Heap} {σ : Store}
theorem ORel.sub {p : Addr × Nat} {o : O} (r : ORel h₀ ρ h p o) (x : Sub ρ h ρ' h') (h1 : ∀ ob, h.get? p.1 = some ob → h'.get? p.1 = some ob) : ORel h₀ ρ' h' p o := by
 cases o with
 | list l =>
  obtain ⟨vs, n, g, hl, ra⟩ := r
  exact ⟨vs, n, h1 _ g, hl, ra.sub x⟩
 | dict v l =>
  obtain ⟨e, hs, kvs, ⟨ob, es, ep, g, rest⟩, hl, ra⟩ := r
  exact ⟨e, hs, kvs, ⟨ob, es, ep, h1 _ g, rest⟩, hl, ra.sub x⟩
 | inst _ _ => exact r.elim
 | exc c fs =>
  obtain ⟨hf, C, ob, vs, hc, g, h3, h4, h5, t, z⟩ := r
  exact ⟨hf, C, ob, vs, hc, h1 _ g, h3, h4, h5, t.sub x, z⟩
theorem ORel.ext {p : Addr × Nat} {o : O} (r : ORel h₀ ρ h p o) (x : Ext W ρ h ρ' h') (h1 : ∀ ob, h.get? p.1 = some ob → h'.get? p.1 = some ob) : ORel h₀ ρ' h' p o := r.sub x.sub h1
theorem ORel.live {p : Addr × Nat} {o : O} (r : ORel h₀ ρ h p o) : ∃ ob, h.get? p.1 = some ob := by
 cases o with
 | list l =>
  obtain ⟨vs, n, g, hl, ra⟩ := r
  exact ⟨_, g⟩
 | dict v l =>
  obtain ⟨e, hs, kvs, ⟨ob, es, ep, g, rest⟩, hl, ra⟩ := r
  exact ⟨_, g⟩
 | inst _ _ => exact r.elim
 | exc c fs =>
  obtain ⟨hf, C, ob, vs, hc, g, h3, h4, h5, t⟩ := r
  exact ⟨_, g⟩
theorem FrAt.ext {e : Env} (f : FrAt h₀ ρ h e) (x : Ext W ρ h ρ' h') : FrAt h₀ ρ' h' e := by
 obtain ⟨hk, L, o, hL, ho, hd, off, h0⟩ := f
 obtain ⟨o', ho', k⟩ := x.kin _ _ ho
 exact ⟨hk, L, o', hL, ho', k.dict hd, offMap.ext x ho off, h0⟩
theorem Inv.lt (i : Inv h₀ σ ρ h) {n : Nat} {p : Addr × Nat} (e : ρ[n]? = some p) : ∃ o, σ[n]? = some o := by
 have hl : n < ρ.length := by
  rcases Nat.lt_or_ge n ρ.length with hl | hl
  ·exact hl
  ·rw [List.getElem?_eq_none hl] at e; cases e
 exact ⟨_, List.getElem?_eq_getElem (i.len ▸ hl)⟩
theorem Inv.alive (i : Inv h₀ σ ρ h) {p : Addr × Nat} (hp : p ∈ ρ) : ∃ ob, h.get? p.1 = some ob := by
 obtain ⟨n, hn⟩ := List.getElem?_of_mem hp
 obtain ⟨o, ho⟩ := i.lt hn
 exact (i.objs n o p ho hn).live
theorem Inv.keep (i : Inv h₀ σ ρ h) (x : Ext W ρ h ρ h') (hW : ∀ b ∈ W, offMap ρ b ∧ h₀.get? b = none) (hk : ∀ b o, h.get? b = some o → b ∉ W → h'.get? b = some o) : Inv h₀ σ ρ h' where
 base := fun b o e => hk b o (i.base b o e) fun hm => by rw [(hW b hm).2] at e; cases e
 len := i.len
 objs := fun n o p e1 e2 => (i.objs n o p e1 e2).ext x (fun ob g => hk _ _ g fun hm => (hW _ hm).1 p (List.mem_of_getElem? e2) rfl)
 fresh := i.fresh
 apart := i.apart
 up := fun e he => (i.up e he).ext x
theorem Inv.keeps (i : Inv h₀ σ ρ h) (hk : ∀ b o, h.get? b = some o → h'.get? b = some o) : Inv h₀ σ ρ h' :=
 i.keep (W := []) (Ext.of_keeps hk) (fun ya hm => nomatch hm) fun b o e ya => hk b o e
theorem fresh_none : h.get? h.objs.size = none := by
 cases e : h.get? h.objs.size with
 | none => rfl
 | some o => exact absurd (Heap.lt_size e) (Nat.lt_irrefl _)
theorem Inv.off_size (i : Inv h₀ σ ρ h) : offMap ρ h.objs.size := fun p hp => by
 obtain ⟨o1, e1⟩ := i.alive hp
 exact fun e => absurd (Heap.lt_size e1) (e ▸ Nat.lt_irrefl _)
theorem snoc_case {p q : Addr × Nat} {n : Nat} (e : (ρ ++ [q])[n]? = some p) : ρ[n]? = some p ∨ (n = ρ.length ∧ p = q) := by
 rcases Nat.lt_or_ge n ρ.length with hl | hl
 ·rw [List.getElem?_append_left hl] at e; exact .inl e
 ·rw [List.getElem?_append_right hl] at e
  rcases Nat.eq_zero_or_pos (n - ρ.length) with hz | hz
  ·rw [hz] at e; cases e; exact .inr ⟨Nat.le_antisymm (Nat.le_of_sub_eq_zero hz) hl, rfl⟩
  ·rw [List.getElem?_eq_none (by simp; exact hz)] at e; cases e
theorem snoc_old {p q : Addr × Nat} {n : Nat} (e : ρ[n]? = some p) : (ρ ++ [q])[n]? = some p := by
 rw [List.getElem?_append_left (by rcases Nat.lt_or_ge n ρ.length with hl | hl; exact hl; rw [List.getElem?_eq_none hl] at e; cases e)]; exact e
theorem Inv.new (i : Inv h₀ σ ρ h) {a : Addr} {o : O} (hk : ∀ b o, h.get? b = some o → h'.get? b = some o) (ha : h.get? a = none) (ho : ORel h₀ (ρ ++ [(a, 0)]) h' (a, 0) o) :
  Inv h₀ (σ ++ [o]) (ρ ++ [(a, 0)]) h' ∧ Ext W ρ h (ρ ++ [(a, 0)]) h' := by
 have hx : Ext W ρ h (ρ ++ [(a, 0)]) h' :=
  {pre := fun n b v e => ⟨v, snoc_old e, Nat.le_refl _, fun ya o g yb => hk _ o g⟩
   keep := fun b o e ya yb => ⟨o, hk b o e, .refl⟩
   kin := fun b o e => ⟨o, hk b o e, .refl⟩
   new := fun j p e hj => by
    rcases snoc_case e with e | ⟨_, rfl⟩
    ·rw [List.getElem?_eq_none hj] at e; cases e
    ·exact ha }
 have hoff : ∀ p ∈ ρ, a ≠ p.1 := fun p hp => by
  obtain ⟨o1, e1⟩ := i.alive hp
  exact fun e => (by rw [← e, ha] at e1; cases e1)
 refine ⟨⟨fun b o e => hk b o (i.base b o e), by simp [i.len], fun n o' p e1 e2 => ?_, fun n p hp hn => ?_, fun j k p q e1 e2 hjk => ?_, fun e he => (i.up e he).ext hx⟩, hx⟩
 ·rcases snoc_case e2 with e2 | ⟨rfl, rfl⟩
  ·have hl : n < σ.length := by
    rcases Nat.lt_or_ge n ρ.length with hl | hl
    ·rw [← i.len]; exact hl
    ·rw [List.getElem?_eq_none hl] at e2; cases e2
   rw [List.getElem?_append_left hl] at e1
   exact (i.objs n o' p e1 e2).ext hx (fun ob g => hk _ _ g)
  ·rw [i.len, List.getElem?_append_right (Nat.le_refl _), Nat.sub_self] at e1
   cases e1; exact ho
 ·rcases snoc_case hp with hp | ⟨_, rfl⟩
  ·exact i.fresh n p hp hn
  ·show h₀.get? a = none
   cases e : h₀.get? a with
   | none => rfl
   | some o => rw [i.base _ _ e] at ha; cases ha
 ·rcases snoc_case e1 with e1 | ⟨rfl, rfl⟩ <;> rcases snoc_case e2 with e2 | ⟨rfl, rfl⟩
  ·exact i.apart j k p q e1 e2 hjk
  ·exact (hoff p (List.mem_of_getElem? e1)).symm
  ·exact hoff q (List.mem_of_getElem? e2)
  ·exact absurd rfl hjk
theorem set_case {p q : Addr × Nat} {n m : Nat} (e : (ρ.set n q)[m]? = some p) : (m = n ∧ p = q) ∨ (m ≠ n ∧ ρ[m]? = some p) := by
 by_cases hm : m = n
 ·subst hm
  rcases Nat.lt_or_ge m ρ.length with hl | hl
  ·rw [List.getElem?_set_self hl] at e; cases e; exact .inl ⟨rfl, rfl⟩
  ·rw [List.getElem?_eq_none (by simpa using hl)] at e; cases e
 ·rw [List.getElem?_set_ne (Ne.symm hm)] at e; exact .inr ⟨hm, e⟩
theorem Inv.put (i : Inv h₀ σ ρ h) {n v v' : Nat} {a : Addr} {o : O} (hpos : 0 < n) (hn : ρ[n]? = some (a, v)) (hv : v ≤ v') (hnd : v' = v → ∀ ob, h.get? a = some ob → ¬IsD ob) (hk : ∀ b ob, b ≠ a → h.get? b = some ob → h'.get? b = some ob) (hlive : ∀ ob, h.get? a = some ob → ∃ ob', h'.get? a = some ob' ∧ Kin ob ob')
  (ho : Ext W ρ h (ρ.set n (a, v')) h' → ORel h₀ (ρ.set n (a, v')) h' (a, v') o) : Inv h₀ (σ.set n o) (ρ.set n (a, v')) h' ∧ Ext W ρ h (ρ.set n (a, v')) h' := by
 have hlt : n < ρ.length := by
  rcases Nat.lt_or_ge n ρ.length with hl | hl
  ·exact hl
  ·rw [List.getElem?_eq_none hl] at hn; cases hn
 have hx : Ext W ρ h (ρ.set n (a, v')) h' :=
  {pre := fun m b u e => by
    by_cases hm : m = n
    ·subst hm
     rw [hn] at e; cases e
     exact ⟨v', List.getElem?_set_self hlt, hv, fun q o g d => absurd d (hnd q o g)⟩
    ·exact ⟨u, by rw [List.getElem?_set_ne (Ne.symm hm)]; exact e, Nat.le_refl _, fun ya o g yb => hk b o (i.apart m n _ _ e hn hm) g⟩
   keep := fun b ob e ya hb => ⟨ob, hk b ob (fun eq => hb _ (List.mem_of_getElem? hn) eq) e, .refl⟩
   kin := fun b ob e => by
    by_cases hb : b = a
    ·rw [hb] at e ⊢; exact hlive ob e
    ·exact ⟨ob, hk b ob hb e, .refl⟩
   new := fun j p e hj => by rw [List.getElem?_eq_none (by simpa using hj)] at e; cases e }
 refine ⟨⟨fun b ob e => hk b ob (fun eq => ?_) (i.base b ob e), by simp [i.len], fun m o' p e1 e2 => ?_, fun m p hp hm => ?_, fun j k p q e1 e2 hjk => ?_, fun e he => (i.up e he).ext hx⟩, hx⟩
 ·have := i.fresh _ _ hn hpos
  rw [eq] at e
  rw [e] at this; cases this
 ·rcases set_case e2 with ⟨rfl, rfl⟩ | ⟨hm, e2⟩
  ·rw [List.getElem?_set_self (i.len ▸ hlt)] at e1
   cases e1; exact ho hx
  ·rw [List.getElem?_set_ne (Ne.symm hm)] at e1
   exact (i.objs m o' p e1 e2).ext hx (fun ob g => hk _ _ (i.apart m n p (a, v) e2 hn hm) g)
 ·rcases set_case hp with ⟨rfl, rfl⟩ | ⟨_, hp⟩
  ·exact i.fresh m (a, v) hn hm
  ·exact i.fresh m p hp hm
 ·rcases set_case e1 with ⟨rfl, rfl⟩ | ⟨h1, d1⟩
  ·rcases set_case e2 with ⟨rfl, rfl⟩ | ⟨h2, d2⟩
   ·exact absurd rfl hjk
   ·exact i.apart j k (a, v) q hn d2 hjk
  ·rcases set_case e2 with ⟨rfl, rfl⟩ | ⟨h2, d2⟩
   ·exact i.apart j k p (a, v) d1 hn hjk
   ·exact i.apart j k p q d1 d2 hjk
theorem Inv.set (i : Inv h₀ σ ρ h) {n v : Nat} {a : Addr} {o : O} (hpos : 0 < n) (hn : ρ[n]? = some (a, v)) (hnd : ∀ ob, h.get? a = some ob → ¬IsD ob) (hk : ∀ b ob, b ≠ a → h.get? b = some ob → h'.get? b = some ob) (hlive : ∀ ob, h.get? a = some ob → ∃ ob', h'.get? a = some ob' ∧ Kin ob ob')
  (ho : Ext W ρ h ρ h' → ORel h₀ ρ h' (a, v) o) : Inv h₀ (σ.set n o) ρ h' ∧ Ext W ρ h ρ h' := by
 have e : ρ.set n (a, v) = ρ := by
  apply List.ext_getElem?
  intro m
  by_cases hm : m = n
  ·subst hm
   rw [hn, List.getElem?_set_self (by rcases Nat.lt_or_ge m ρ.length with hl | hl; exact hl; rw [List.getElem?_eq_none hl] at hn; cases hn)]
  ·rw [List.getElem?_set_ne (Ne.symm hm)]
 have := i.put (W := W) (v' := v) (o := o) hpos hn (Nat.le_refl _) (fun ya => hnd) hk hlive (by rw [e]; exact ho)
 rw [e] at this
 exact this
end
theorem kin_list {vs : List Value} {n : Nat} {o' : Obj} : Kin (listO vs n) o' where
 tup := fun ws m e => by simp [listO, tupO] at e
 dict := fun ⟨_, _, e⟩ => by cases e
 tb := fun ⟨e, _⟩ => absurd (Value.type.inj e) (by decide)
theorem kin_dict {o o' : Obj} (h : IsD o) (h' : IsD o') : Kin o o' where
 tup := fun vs n e => by
  obtain ⟨_, _, h⟩ := h
  rw [e] at h; cases h
 dict := fun ya => h'
 tb := fun t => (tb_not_d t h).elim
theorem kin_dictOf {prog : Program} {w : World} {h h' : Heap} {a : Addr} {kvs kvs' : List (Key × Value)} (g : h.DictOf (keyKind prog w) a kvs) (g' : h'.DictOf (keyKind prog w) a kvs') : ∀ ob, h.get? a = some ob → ∃ ob', h'.get? a = some ob' ∧ Kin ob ob' := fun ob e => by
 obtain ⟨o, es, ep, ho, _, hd, _⟩ := g
 obtain ⟨o', es', ep', ho', _, hd', _⟩ := g'
 rw [e] at ho; cases ho
 exact ⟨o', ho', kin_dict ⟨_, _, hd⟩ ⟨_, _, hd'⟩⟩
noncomputable def RV : V → Map → Heap → Value → Prop := fun v ρ h b => Rel ρ h b v
noncomputable def RB : Bool → Map → Heap → Bool → Prop := fun v ya yb b => b = v
noncomputable def RL : List V → Map → Heap → List Value → Prop := fun l ρ h vs => RelAll ρ h vs l
section
variable {h₀ : Bse} {A : Around} {W : List Addr} {ρ : Map} {s : Shared} {α β : Type} {σ : Store}
theorem Sim.same {t : Sem β} {a : α} {R : α → Map → Heap → β → Prop} (i : Inv h₀ σ ρ s.heap)
  (h : ∀ (Q : β → Shared → Prop) (E : Value → Shared → Prop), (∀ b tk, R a ρ s.heap b → Q b { s with toks := tk }) → wpAny (model h₀.prog h₀.w) A t Q E s) : Sim h₀ A W t (.ok a σ) R ρ s :=
 h _ _ fun b tk r => ⟨ρ, s.heap, tk, rfl, i, Ext.refl, r⟩
theorem Sim.grown {t : Sem β} {a : α} {R : α → Map → Heap → β → Prop} (i : Inv h₀ σ ρ s.heap)
  (h : ∀ (Q : β → Shared → Prop) (E : Value → Shared → Prop), (∀ b h' tk, (∀ c o, s.heap.get? c = some o → h'.get? c = some o) → R a ρ h' b → Q b (At s h' tk)) → wpAny (model h₀.prog h₀.w) A t Q E s) :
  Sim h₀ A W t (.ok a σ) R ρ s :=
 h _ _ fun b h' tk hk r => ⟨ρ, h', tk, rfl, i.keeps hk, Ext.of_keeps hk, r⟩
theorem Sim.newTuple {vs : List Value} {l : List V} (i : Inv h₀ σ ρ s.heap) (r : RelAll ρ s.heap vs l) (hl : l.length ≤ sizeLine) : Sim h₀ A W (PySem.newTuple vs) (.ok (.tup l) σ) RV ρ s := by
 have hlen := r.length
 have hk : ∀ b o, s.heap.get? b = some o → (s.heap.push (tupO vs 0)).get? b = some o := fun b o e => Heap.get?_push_of_some _ e
 refine Sim.grown i fun Q E hQ => ?_
 refine wpAny_newObj_type (T := "tuple") (hQ _ (s.heap.push (tupO vs 0)) s.toks hk ?_) (by show vs.toArray.size ≤ sizeLine; rw [List.size_toArray]; (first | lia | omega))
 exact Rel.tup (n := 0) (Heap.get?_push_size _ rfl) (by (first | lia | omega)) (r.ext (W := []) (Ext.of_keeps hk))
theorem Sim.newList {vs : List Value} {l : List V} (i : Inv h₀ σ ρ s.heap) (r : RelAll ρ s.heap vs l) (hl : l.length ≤ sizeLine) : Sim h₀ A W (PySem.newList vs) (newO (.list l) σ) RV ρ s := by
 have hlen := r.length
 have hk : ∀ b o, s.heap.get? b = some o → (s.heap.push (listO vs 0)).get? b = some o := fun b o e => Heap.get?_push_of_some _ e
 have hN := i.new (W := W) (o := .list l) hk fresh_none ⟨vs, 0, Heap.get?_push_size _ rfl, by (first | lia | omega), ?_⟩
 ·refine wpAny_newObj_type (T := "list") ⟨ρ ++ [(s.heap.objs.size, 0)], s.heap.push (listO vs 0), s.toks, rfl, hN.1, hN.2, ?_⟩ (by show vs.toArray.size ≤ sizeLine; rw [List.size_toArray]; (first | lia | omega))
  refine Rel.ref (d := 0) ?_
  rw [← i.len, List.getElem?_append_right (Nat.le_refl _), Nat.sub_self]; rfl
 ·exact r.sub ((Sub.keeps hk).trans Sub.snoc)
theorem Sim.newListAt {t : Sem Value} {l : List V} (i : Inv h₀ σ ρ s.heap)
  (h : ∀ (Q : Value → Shared → Prop) (E : Value → Shared → Prop), (∀ a vs n h' tk, (∀ c o, s.heap.get? c = some o → h'.get? c = some o) → s.heap.get? a = none → h'.get? a = some (listO vs n) → vs.length ≤ sizeLine →
   RelAll ρ h' vs l → Q (.ref a) (At s h' tk)) → wpAny (model h₀.prog h₀.w) A t Q E s) : Sim h₀ A W t (newO (.list l) σ) RV ρ s := by
 refine h _ _ fun a vs n h' tk hk ha hg hl r => ?_
 have hN := i.new (W := W) (o := .list l) (h' := h') hk ha ⟨vs, n, hg, hl, ?_⟩
 ·exact ⟨ρ ++ [(a, 0)], h', tk, rfl, hN.1, hN.2, Rel.ref (d := 0) (by rw [← i.len, List.getElem?_append_right (Nat.le_refl _), Nat.sub_self]; rfl)⟩
 ·exact r.sub Sub.snoc
theorem Sim.newDictAt {t : Sem Value} {l : Tab} (i : Inv h₀ σ ρ s.heap)
  (h : ∀ (Q : Value → Shared → Prop) (E : Value → Shared → Prop), (∀ a kvs h' tk, (∀ c o, s.heap.get? c = some o → h'.get? c = some o) → s.heap.get? a = none → (a == sysModules) = false → h'.DictOf (keyKind h₀.prog h₀.w) a kvs → kvs.length ≤ sizeLine →
   Ents ρ h' kvs l → Q (.ref a) (At s h' tk)) → wpAny (model h₀.prog h₀.w) A t Q E s) : Sim h₀ A W t (newO (.dict 0 l) σ) RV ρ s := by
 refine h _ _ fun a kvs h' tk hk ha hs hg hl r => ?_
 have hN := i.new (W := W) (o := .dict 0 l) (h' := h') hk ha ⟨rfl, hs, kvs, hg, hl, r.sub Sub.snoc⟩
 exact ⟨ρ ++ [(a, 0)], h', tk, rfl, hN.1, hN.2, Rel.ref (d := 0) (by rw [← i.len, List.getElem?_append_right (Nat.le_refl _), Nat.sub_self]; rfl)⟩
end
end Mine.Internal

set_option backward.match.sparseCases false
namespace Mine.Internal
open PySem PyProof.Rows
noncomputable def bmV : List Value := [.type "ValueError", .type "Exception", .type "BaseException", .type "object"]
noncomputable def xNames : List Str := ["__init__", "__getattribute__", "__getattr__", "args", "__class__"]
theorem lk_VE_class : typeLookup (.type "ValueError") "__class__" = pure (some (.builtin "object.__class__")) := by rw [typeLookup_type, builtinLookup_eq_fast]; kernel_rfl
inductive XTail (h : Heap) : List Value → Prop
 | base : XTail h bmV
 | own {A : Addr} {c0 : Value} {dd : Option Addr} {cd : ClassData} {sl : Array (Option Value)} {mA : Str → Option Value} {tl : List Value} :
   h.get? A = some { cls := c0, dict := dd, data := .cls cd, slots := sl } → h.Ns cd.ns mA → (∀ n ∈ xNames, mA n = none) → XTail h tl → XTail h (.ref A :: tl)
theorem XTail.keeps {h h' : Heap} {tl : List Value} (T : XTail h tl) (hk : ∀ b o, h.get? b = some o → h'.get? b = some o) : XTail h' tl := by
 induction T with
 | base => exact .base
 | own hA hN hq _ ih => exact .own (hk _ _ hA) (hN.keeps hk) hq ih
theorem XTail.tail {h : Heap} {tl : List Value} (T : XTail h tl) : OwnTail h bmV tl := by
 induction T with
 | base => exact .base
 | own hA hN hq _ ih => exact .own hA hN (hq _ (.head _)) ih
structure XF where
 nm : Str
 q : Str
 N : Addr
 bs : List Value
 hdct : Bool
 sn : List Str
 sub : List Value
 ab : Bool
 col : Option Bool
 dd : Option Addr
 k0 : Option Value
 k1 : Option Value
 k2 : Option Value
 k3 : Option Value
 k5 : Option Value
noncomputable abbrev XF.obj (f : XF) (C : Addr) (bm : List Value) : Obj := excClassObj f.nm f.q C f.N f.bs bm f.hdct f.sn f.sub f.ab f.col f.dd f.k0 f.k1 f.k2 f.k3 f.k5 "ValueError.__new__"
structure XCls (h : Heap) (C : Addr) (bm : List Value) : Prop where
 tail : XTail h bm
 obj : ∃ f : XF, h.get? C = some (f.obj C bm) ∧ ∃ mN, h.Ns f.N mN ∧ ∀ n ∈ xNames, mN n = none
theorem XCls.keeps {h h' : Heap} {C : Addr} {bm : List Value} (x : XCls h C bm) (hk : ∀ b o, h.get? b = some o → h'.get? b = some o) : XCls h' C bm where
 tail := x.tail.keeps hk
 obj := by
  obtain ⟨f, hC, mN, hN, hm⟩ := x.obj
  exact ⟨f, hk _ _ hC, mN, hN.keeps hk, hm⟩
section
variable {prog : Program} {w : World} {M : Model} {A : Around} {E : Value → Shared → Prop} {h : Heap} {g : Array GenState} {d : Drawn} {t : Nat} {os : OsState} {a C : Addr} {o : Obj} {bm : List Value}
theorem lookupAlong_x {tl : List Value} {n : Str} {y : Option Value} {Q : Option Value → Shared → Prop} (hn : n ∈ xNames) (T : XTail h tl) (hrest : lookupAlong bmV n = pure y) (hq : Q y ⟨h, g, d, t, os⟩) :
  wpAny M A (lookupAlong tl n) Q E ⟨h, g, d, t, os⟩ := by
 induction T with
 | base => rw [hrest]; exact wpAny_pure hq
 | own hA hN hni _ ih =>
  rw [lookupAlong_cons]
  refine wpAny_bind (wpAny_classOwn_cls hA hN ?_)
  rw [hni n hn]
  exact ih
theorem XCls.lookup {n : Str} {y : Option Value} {Q : Option Value → Shared → Prop} (x : XCls h C bm) (hn : n ∈ xNames) (hB : typeLookup (.type "ValueError") n = pure y) (hq : Q y ⟨h, g, d, t, os⟩) : wpAny M A (typeLookup (.ref C) n) Q E ⟨h, g, d, t, os⟩ := by
 obtain ⟨f, hC, mN, hN, hm⟩ := x.obj
 have hrest : lookupAlong bmV n = pure y := by rw [typeLookup_eq, F.excBase_ValueError.mroIs] at hB; exact hB
 rw [typeLookup_eq]
 refine wpAny_bind (wpAny_mroOf_exc hC ?_)
 rw [lookupAlong_cons]
 refine wpAny_bind (wpAny_classOwn_exc hC hN ?_)
 rw [hm n hn]
 exact lookupAlong_x hn x.tail hrest hq
theorem XCls.sub {base : Value} {Q : Bool → Shared → Prop} (x : XCls h C bm) (hq : Q ((Value.ref C :: bm).contains base) ⟨h, g, d, t, os⟩) : wpAny M A (isSubtype (.ref C) base) Q E ⟨h, g, d, t, os⟩ := by
 obtain ⟨f, hC, mN, hN, hm⟩ := x.obj
 exact wpAny_isSubtype_exc hC hq
theorem XCls.has {X : String} {b : Bool} (x : XCls h C bm) (hb : bmV.contains (.type X) = b) : (Value.ref C :: bm).contains (.type X) = b := by
 rw [List.contains_cons, x.tail.tail.hasType hb]; rfl
theorem XCls.type (x : XCls h C bm) : (⟨h, g, d, t, os⟩ : Shared).TypeIs (.ref C) "type" := by
 obtain ⟨f, hC, mN, hN, hm⟩ := x.obj
 exact ⟨_, hC, rfl⟩
theorem XCls.isType {Q : Bool → Shared → Prop} (x : XCls h C bm) (hq : Q true ⟨h, g, d, t, os⟩) : wpAny M A (PySem.isType (.ref C)) Q E ⟨h, g, d, t, os⟩ := by
 obtain ⟨f, hC, mN, hN, hm⟩ := x.obj
 unfold PySem.isType
 repeat (first | with_reducible refine wpAny_loadPart_at hC ?_ | wp_step)
 exact hq
theorem xclass_get {R : Result → Shared → Prop} (x : XCls h C bm) (hx : h.get? a = some o) (hc : o.cls = .ref C) (hq : R (.ok (.ret (.ref C))) ⟨h, g, d, t, os⟩) :
  codeAny (model prog w) A (.call (.builtin "getset_descriptor.__get__") ⟨[.builtin "object.__class__", .ref a, .ref C], []⟩) R ⟨h, g, d, t, os⟩ := by
 have hT5 : (⟨h, g, d, t, os⟩ : Shared).TypeIs (.builtin "object.__class__") "getset_descriptor" := F.typeOf_object_class
 have hcB : (Value.ref C :: bm).contains (.type (".".intercalate ("object.__class__".cutAt '.').dropLast)) = true := by rw [F.owner_object_class]; exact x.has (by decide +kernel)
 refine codeAny_call_builtin F.slot_gs_get.plain F.entry_gs_get (F.slot_gs_get.check _ _ _ _ _ _ _ _ hT5 (F.args_gs_get _ _ _) ?_)
 repeat (any_goals (first | assumption | (with_reducible refine wpAny_loadPart_at hx ?_; rw [hc]) | (with_reducible refine XCls.sub x ?_; rw [hcB]) | wp_step))
 refine ⟨Code.quiet_builtin _ (by decide +kernel), codeAny_builtin F.entry_object_class ?_⟩
 repeat (any_goals (first | assumption | (with_reducible refine wpAny_loadPart_at hx ?_; rw [hc]) | wp_step))
theorem xclass_entry {tk : Tok} {Q : Fin → Shared → Prop} (x : XCls h C bm) (hx : h.get? a = some o) (hc : o.cls = .ref C) (hq : Q (.done (.ret (.ref C))) ⟨h, g, d, t, os⟩) :
  wpAny (model prog w) A (Builtin.«object.__getattribute__» ⟨[.ref a, .str "__class__" tk], []⟩) Q E ⟨h, g, d, t, os⟩ := by
 have hT5 : (⟨h, g, d, t, os⟩ : Shared).TypeIs (.builtin "object.__class__") "getset_descriptor" := F.typeOf_object_class
 have f5 := F.typeOf_object_class
 have f6 := F.slot_gs_get.lookup
 have f7 := F.slot_gs_set.lookup
 have hmA : ("__class__" : Str) ∈ xNames := by decide +kernel
 repeat (any_goals (first | assumption | (with_reducible refine wpAny_loadPart_at hx ?_; rw [hc]) | with_reducible refine XCls.lookup x hmA lk_VE_class ?_ | wp_step))
 refine xclass_get x hx hc ?_
 repeat (any_goals (first | assumption | wp_step))
theorem xcheck_ga {nameV : Value} {Q : Unit → Shared → Prop} (x : XCls h C bm) (hx : h.get? a = some o) (hc : o.cls = .ref C) (hq : Q () ⟨h, g, d, t, os⟩) : wpAny M A (checkBuiltinCall "BaseException.__getattribute__" ⟨[.ref a, nameV], []⟩) Q E ⟨h, g, d, t, os⟩ := by
 have hk : builtinKind "BaseException.__getattribute__" = some .slot := by decide +kernel
 have hsplit : splitId "BaseException.__getattribute__" = some ("BaseException", "__getattribute__") := by decide +kernel
 have hcB : (Value.ref C :: bm).contains (.type "BaseException") = true := x.has (by decide +kernel)
 have ha := F.args_bexc_ga (.ref a) nameV
 simp only [checkBuiltinCall, hk, hsplit]
 refine wpAny_bind ?_
 unfold isInstance
 repeat (first | (with_reducible refine wpAny_loadPart_at hx ?_; rw [hc]) | (with_reducible refine XCls.sub x ?_; rw [hcB]) | wp_step)
 exact hq
theorem xclass_attr {Q : Option Value → Shared → Prop} (x : XCls h C bm) (hx : h.get? a = some o) (hc : o.cls = .ref C) (hq : Q (some (.ref C)) ⟨h, g, d, t + 1, os⟩) : wpAny (model prog w) A (getAttr? (.ref a) "__class__") Q E ⟨h, g, d, t, os⟩ := by
 have by_ : ∀ {tk : Tok} {t : Nat} {E : Value → Shared → Prop} {Q : Value → Shared → Prop}, Q (.ref C) ⟨h, g, d, t, os⟩ → wpAny (model prog w) A (getAttrBy (.ref a) (.str "__class__" tk) false) Q E ⟨h, g, d, t, os⟩ := by
  intro tk t E Q hq
  have f3 := F.attr_ValueError.ga.bind (.ref a)
  have hx2 : (Value.builtin "BaseException.__getattribute__" == Value.builtin "object.__getattribute__") = false := by decide +kernel
  have hx1 : (onTheHeap (Value.ref C) && Value.builtin "BaseException.__getattribute__" == Value.builtin "object.__getattribute__") = false := by rw [hx2]; rfl
  have hm1 : ("__getattribute__" : Str) ∈ xNames := by decide +kernel
  have hm2 : ("__getattr__" : Str) ∈ xNames := by decide +kernel
  repeat (any_goals (first | assumption | (with_reducible refine wpAny_loadPart_at hx ?_; rw [hc]) | with_reducible refine XCls.lookup x hm1 F.attr_ValueError.ga.lookup ?_ | with_reducible refine XCls.lookup x hm2 F.attrBase_ValueError.noGetattr ?_ | wp_step))
  refine codeAny_call_builtin F.attr_ValueError.ga.plain F.entry_bexc_ga (xcheck_ga x hx hc (xclass_entry x hx hc ?_))
  repeat (any_goals (first | assumption | wp_step))
 unfold getAttr? getAttrBy?
 repeat (any_goals (first | assumption | with_reducible apply by_ | wp_step))
noncomputable def AskCls (h : Heap) (c : Value) : Prop := (∃ D bm', c = .ref D ∧ XCls h D bm') ∨ c = .type "ValueError"
theorem AskCls.typeOf {c : Value} {Q : Value → Shared → Prop} (k : AskCls h c) (hq : Q (.type "type") ⟨h, g, d, t, os⟩) : wpAny M A (PySem.typeOf c) Q E ⟨h, g, d, t, os⟩ := by
 rcases k with ⟨D, bm', rfl, x⟩ | rfl
 ·exact wpAny_typeOf x.type hq
 ·exact wpAny_of_eq (by kernel_rfl) hq
theorem AskCls.isType {c : Value} {Q : Bool → Shared → Prop} (k : AskCls h c) (hq : Q true ⟨h, g, d, t, os⟩) : wpAny M A (PySem.isType c) Q E ⟨h, g, d, t, os⟩ := by
 rcases k with ⟨D, bm', rfl, x⟩ | rfl
 ·exact x.isType hq
 ·exact wpAny_pure hq
theorem isi_exc {c : Value} {Q : Value → Shared → Prop} (x : XCls h C bm) (hx : h.get? a = some o) (hc : o.cls = .ref C) (k : AskCls h c) (hq : ∀ tk, Q (.bool ((Value.ref C :: bm).contains c)) ⟨h, g, d, tk, os⟩) :
  wpAny (model prog w) A (call (.builtin "isinstance") [.ref a, c]) Q E ⟨h, g, d, t, os⟩ := by
 have hsub : ∀ {t : Nat} {A : Around} {E : Value → Shared → Prop} {Q : Bool → Shared → Prop}, Q ((Value.ref C :: bm).contains c) ⟨h, g, d, t, os⟩ → wpAny (model prog w) A (isInstance (.ref a) c) Q E ⟨h, g, d, t, os⟩ := by
  intro t A E Q hq
  unfold isInstance
  repeat (first | (with_reducible refine wpAny_loadPart_at hx ?_; rw [hc]) | wp_step)
  exact x.sub hq
 refine call_isinstance_of ?_ (by intro e; cases e)
 unfold Builtin.«isinstance.nested»
 have ht : ∀ {t : Nat} {A : Around} {E : Value → Shared → Prop} {Q : Value → Shared → Prop}, Q (.ref C) ⟨h, g, d, t, os⟩ → wpAny (model prog w) A (typeOf (.ref a)) Q E ⟨h, g, d, t, os⟩ := by
  intro t A E Q hq
  repeat (first | (with_reducible refine wpAny_loadPart_at hx ?_; rw [hc]) | wp_step)
  exact hq
 refine wpAny_bind (m := typeOf (.ref a)) (ht ?_)
 show wpAny _ _ (if (Value.ref C == c) = true then _ else _) _ _ _
 by_cases he : (Value.ref C == c) = true
 ·rw [if_pos he]
  have hb : (Value.ref C :: bm).contains c = true := by rw [List.contains_cons, show (c == Value.ref C) = true by rw [beq_iff_eq] at he ⊢; exact he.symm]; rfl
  rw [hb] at hq
  repeat (first | refine wpAny_pure ?_ | refine wpAny_rule ?_ | refine wpAny_bind ?_)
  exact hq _
 ·rw [if_neg he]
  refine wpAny_bind (m := typeOf c) (k.typeOf ?_)
  show wpAny _ _ (if (Value.type "type" == Value.type "type") = true then _ else _) _ _ _
  rw [if_pos (by decide)]
  refine wpAny_bind (wpAny_bind (m := isType c) (k.isType ?_))
  refine wpAny_bind (m := isInstance (.ref a) c) (hsub ?_)
  cases hb : (Value.ref C :: bm).contains c with
  | true =>
   rw [hb] at hq
   exact wpAny_pure (a := true) (wpAny_pure (hq _))
  | false =>
   rw [hb] at hq
   refine wpAny_bind (m := getAttr? (.ref a) "__class__") (xclass_attr x hx hc ?_)
   refine wpAny_bind (m := isType (.ref C)) (x.isType ?_)
   refine wpAny_bind (wpAny_rule (x.sub ?_))
   rw [hb]
   exact wpAny_pure (hq _)
end
end Mine.Internal

set_option backward.match.sparseCases false
namespace Mine.Internal
open PySem PyProof.Rows
section
variable {h₀ : Bse} {A : Around} {W : List Addr} {ρ : Map} {h h' : Heap} {s : Shared} {σ : Store} {E : Value → Shared → Prop}
theorem ORel.notTb {p : Addr × Nat} {o : O} (r : ORel h₀ ρ h p o) : ∀ ob, h.get? p.1 = some ob → ¬TbO ob := by
 cases o with
 | list l =>
  obtain ⟨vs, n, g, _, _⟩ := r
  exact fun ob hb t => by rw [g] at hb; cases hb; exact absurd (Value.type.inj t.1) (by decide)
 | dict v l =>
  obtain ⟨e, hs, kvs, ⟨ob, es, ep, g, _, hd, _⟩, _, _⟩ := r
  exact fun ob hb t => by rw [g] at hb; cases hb; exact tb_not_d t ⟨_, _, hd⟩
 | inst _ _ => exact r.elim
 | exc c fs =>
  obtain ⟨hf, C, ob, vs, hc, g, h3, _⟩ := r
  exact fun ob hb t => by rw [g] at hb; cases hb; exact (nomatch h3.symm.trans t.1)
theorem Inv.chg (i : Inv h₀ σ ρ h) {n : Nat} {c : Str} {fs : List (Str × V)} {e : Addr} {d : Nat} (hσ : σ[n]? = some (.exc c fs)) (hρ : ρ[n]? = some (e, d))
  (hk : ∀ b o, h.get? b = some o → b ≠ e → (∀ f ∈ h₀.frs, f.frame ≠ some b) → (∀ oe vs, h.get? e = some oe → oe.data = .fields vs → vs[1]? ≠ some (.ref b)) → h'.get? b = some o)
  (hf : ∀ b o, h.get? b = some o → IsD o → ∃ sl, h'.get? b = some { o with slots := sl })
  (ht : ∀ b o, h.get? b = some o → TbO o → ∃ o', h'.get? b = some o' ∧ TbO o')
  (he : ∀ o vs, h.get? e = some o → o.data = .fields vs → TbOk h₀ h vs → ∃ o' vs', h'.get? e = some o' ∧ o'.cls = o.cls ∧ o'.dict = o.dict ∧ o'.data = .fields vs' ∧ TbOk h₀ h' vs') : Inv h₀ σ ρ h' ∧ Ext W ρ h ρ h' := by
 obtain ⟨hfs, C, oe, vs, hc, g, h3, h4, h5, tk, z⟩ := i.objs n _ _ hσ hρ
 have g : h.get? e = some oe := g
 have z : h₀.get? e = none := z
 obtain ⟨oe', vs', g', c1, c2, c3, c4⟩ := he oe vs g h5 tk
 have tbOf : ∀ b, vs[1]? = some (.ref b) → ∃ o, h.get? b = some o ∧ TbO o ∧ h₀.get? b = none := fun b eb => by
  rcases tk.2 with e0 | ⟨tb, o, e1, e3, e4, e5⟩
  ·rw [e0] at eb; cases eb
  ·rw [e1] at eb; cases eb; exact ⟨o, e3, e4, e5⟩
 have notTb : ∀ b o, h.get? b = some o → ¬TbO o → ∀ oe' vs', h.get? e = some oe' → oe'.data = .fields vs' → vs'[1]? ≠ some (.ref b) := fun b o hb nt oe' vs' q1 q2 q3 => by
  rw [g] at q1; cases q1; rw [h5] at q2; cases q2
  obtain ⟨o', e1, e3, _⟩ := tbOf b q3
  rw [hb] at e1; cases e1; exact nt e3
 have isFr : ∀ b o, h.get? b = some o → (∃ f ∈ h₀.frs, f.frame = some b) → IsD o ∧ offMap ρ b ∧ h₀.get? b = none := fun b o hb ⟨f, hf, ef⟩ => by
  obtain ⟨_, L, o', q1, q2, q3, q4, q5⟩ := i.up f hf
  rw [ef] at q1; cases q1
  rw [hb] at q2; cases q2
  exact ⟨q3, q4, q5⟩
 have hx : Ext W ρ h ρ h' :=
  {pre := fun m b v q => ⟨v, q, Nat.le_refl _, fun ya o hb hD => hk b o hb (fun q' => by
    rw [q', g] at hb; cases hb
    obtain ⟨_, _, hD⟩ := hD
    rw [h5] at hD; cases hD) (fun f hf q' => (isFr b o hb ⟨f, hf, q'⟩).2.1 _ (List.mem_of_getElem? q) rfl) (notTb b o hb fun t => tb_not_d t hD)⟩
   keep := fun b o hb ya off => by
    have hbe : b ≠ e := fun q => off _ (List.mem_of_getElem? hρ) q
    by_cases hfr : ∃ f ∈ h₀.frs, f.frame = some b
    ·obtain ⟨q1, _, _⟩ := isFr b o hb hfr
     obtain ⟨sl, q⟩ := hf b o hb q1
     exact ⟨_, q, .inr (.inl ⟨q1, sl, rfl⟩)⟩
    ·by_cases htb : TbO o
     ·obtain ⟨o', q1, q2⟩ := ht b o hb htb
      exact ⟨o', q1, .inr (.inr ⟨htb, q2⟩)⟩
     ·exact ⟨o, hk b o hb hbe (fun f hf q => hfr ⟨f, hf, q⟩) (notTb b o hb htb), .refl⟩
   kin := fun b o hb => by
    by_cases hbe : b = e
    ·subst hbe
     rw [g] at hb; cases hb
     refine ⟨oe', g', ⟨fun ws m q => ?_, fun ⟨es, ep, q⟩ => ?_, fun q => ?_⟩⟩
     ·rw [q] at h5; cases h5
     ·rw [h5] at q; cases q
     ·have q := q.1; rw [h3] at q; cases q
    ·by_cases hD : IsD o
     ·obtain ⟨sl, q⟩ := hf b o hb hD
      exact ⟨_, q, kin_dict hD hD⟩
     ·by_cases htb : TbO o
      ·obtain ⟨o', q1, q2⟩ := ht b o hb htb
       refine ⟨o', q1, ⟨fun ws m q => ?_, fun q => (hD q).elim, fun ya => q2⟩⟩
       rw [q] at htb; exact absurd (Value.type.inj htb.1) (by decide)
      ·exact ⟨o, hk b o hb hbe (fun f hf q => hD (isFr b o hb ⟨f, hf, q⟩).1) (notTb b o hb htb), .refl⟩
   new := fun j p q hj => by rw [List.getElem?_eq_none hj] at q; cases q }
 refine ⟨⟨fun b o hb => ?_, i.len, fun m o p e1 e3 => ?_, i.fresh, i.apart, fun f hf => (i.up f hf).ext hx⟩, hx⟩
 ·have hb' := i.base b o hb
  refine hk b o hb' (fun q => by rw [q, z] at hb; cases hb) (fun f hf q => ?_) fun oe' vs' q1 q2 q3 => ?_
  ·have := (isFr b o hb' ⟨f, hf, q⟩).2.2
   rw [hb] at this; cases this
  ·rw [g] at q1; cases q1; rw [h5] at q2; cases q2
   obtain ⟨_, _, _, q⟩ := tbOf b q3
   rw [hb] at q; cases q
 ·by_cases hm : m = n
  ·subst hm
   rw [hρ] at e3; cases e3
   rw [hσ] at e1; cases e1
   exact ⟨hfs, C, oe', vs', hc, g', c1.trans h3, c2.trans h4, c3, c4, z⟩
  ·have r := i.objs m o p e1 e3
   have nt := r.notTb
   exact r.ext hx fun ob hb => hk _ _ hb (i.apart m n p (e, d) e3 hρ hm) (fun f hf q => (isFr _ _ hb ⟨f, hf, q⟩).2.1 p (List.mem_of_getElem? e3) rfl) (notTb _ _ hb (nt ob hb))
noncomputable def Slots (l : List Env) (h h' : Heap) : Prop := ∀ b o, h.get? b = some o → (h'.get? b = some o ∨ ((∃ f ∈ l, f.frame = some b) ∧ ∃ sl, h'.get? b = some { o with slots := sl }))
theorem readyFrames_ok {Q : Unit → Shared → Prop} : ∀ (l : List Env) (s : Shared), (∀ f ∈ l, f.scope.kind ≠ .module ∧ ∃ L o, f.frame = some L ∧ s.heap.get? L = some o) → (∀ h', Slots l s.heap h' → Q () { s with heap := h' }) → wpAny (model h₀.prog h₀.w) A (readyFrames l) Q E s := by
 intro l
 induction l with
 | nil =>
  intro s _ hq
  exact wpAny_pure (hq _ fun b o e => .inl e)
 | cons f r ih =>
  intro s hl hq
  obtain ⟨hk, L, o, hf, ho⟩ := hl f (List.mem_cons_self ..)
  simp only [readyFrames, hf]
  refine wpAny_bind (wpAny_load ho ?_)
  by_cases hr : ((o.slots.getD 3 none).isSome) = true
  ·rw [if_pos hr]; exact wpAny_pure (hq _ fun b o e => .inl e)
  ·rw [if_neg hr]
   refine wpAny_bind (wpAny_of_eq (a := false) (by simp [behindIsImport, hk]) ?_)
   have go : ∀ back : Value, wpAny (model h₀.prog h₀.w) A (do
     update L fun o => { o with slots := #[some f.code, some (.ref f.globals), o.slots.getD 2 none, some back, o.slots.getD 4 none, f.func.map Value.ref, some (.ref f.builtins)] ++ (f.cells.map fun c => some (.ref c.2)).toArray }
     readyFrames r) Q E s := fun back => by
    refine wpAny_bind (wpAny_update ho ?_)
    have hself := Heap.get?_update_self (fun o : Obj => { o with slots := #[some f.code, some (.ref f.globals), o.slots.getD 2 none, some back, o.slots.getD 4 none, f.func.map Value.ref, some (.ref f.builtins)] ++ (f.cells.map fun c => some (.ref c.2)).toArray }) ho (by
     have hfr := (Heap.get?_some_iff.mp ho).2
     obtain ⟨oc, od, odt, osl⟩ := o
     cases odt <;> first | rfl | exact hfr)
    refine ih _ (fun f' hf' => ?_) fun h' hs => hq h' fun b ob e => ?_
    ·obtain ⟨hk', L', o', e1, e2⟩ := hl f' (List.mem_cons_of_mem _ hf')
     refine ⟨hk', L', ?_⟩
     by_cases hL : L' = L
     ·subst hL; exact ⟨_, e1, hself⟩
     ·exact ⟨o', e1, (Heap.get?_update_ne _ _ _ _ hL).trans e2⟩
    ·by_cases hb : b = L
     ·subst hb
      rw [ho] at e; cases e
      rcases hs b _ hself with q | ⟨_, sl, q⟩
      ·exact .inr ⟨⟨f, List.mem_cons_self .., hf⟩, _, q⟩
      ·exact .inr ⟨⟨f, List.mem_cons_self .., hf⟩, _, q⟩
     ·rcases hs b ob ((Heap.get?_update_ne _ _ _ _ hb).trans e) with q | ⟨⟨f', hf', ef⟩, q⟩
      ·exact .inl q
      ·exact .inr ⟨⟨f', List.mem_cons_of_mem _ hf', ef⟩, q⟩
   cases r with
   | nil => exact wpAny_bind (wpAny_keptBack_nil fun v => go v)
   | cons c r => exact wpAny_bind (m := keptBack f false (c :: r)) (wpAny_pure (go _))
noncomputable def Noted (ev : Value) (h : Heap) : Prop := ∃ a o vs tb, ev = .ref a ∧ h.get? a = some o ∧ o.data = .fields vs ∧ vs[1]? = some (.ref tb)
theorem mapFields_dict (o : Obj) (f : Array Value → Array Value) : (o.mapFields f).dict = o.dict := by
 obtain ⟨oc, od, odt, osl⟩ := o
 cases odt <;> rfl
theorem size_get {a : Addr} {o : Obj} (e : h.get? a = some o) : a ≠ h.objs.size := Nat.ne_of_lt (Heap.lt_size e)
theorem RE.at {e : V} {ev : Value} (r : RE σ e ev ρ s.heap) (i : Inv h₀ σ ρ s.heap) : ∃ n c fs a oe vs C, σ[n]? = some (.exc c fs) ∧ (∃ d, ρ[n]? = some (a, d)) ∧ e = .ref n ∧ ev = .ref a ∧ s.heap.get? a = some oe ∧ oe.cls = .ref C ∧ ClsIs h₀ c C ∧ oe.data = .fields vs ∧ TbOk h₀ s.heap vs ∧ h₀.get? a = none := by
 obtain ⟨n, c, fs, a, d, h1, h2, h3, h4⟩ := r
 obtain ⟨hfs, C, oe, vs, hc, g, h5, h6, h7, tk, z⟩ := i.objs n _ _ h2 h4
 exact ⟨n, c, fs, a, oe, vs, C, h2, ⟨d, h4⟩, h1, h3, g, h5, hc, h7, tk, z⟩
theorem tbSet {e : V} {ev v : Value} {a tb : Addr} {oe : Obj} {vs : Array Value} {Q : Unit → Shared → Prop} (i : Inv h₀ σ ρ s.heap) (r : RE σ e ev ρ s.heap) (hev : ev = .ref a) (ha : s.heap.get? a = some oe) (hd : oe.data = .fields vs) (h1 : vs[1]? = some (.ref tb))
  (hq : ∀ h', Inv h₀ σ ρ h' → Ext [] ρ s.heap ρ h' → h'.get? a = some oe → Q () { s with heap := h' }) : wpAny (model h₀.prog h₀.w) A (setField (.ref tb) 3 v) Q E s := by
 obtain ⟨n, c, fs, a', oe', vs', C, q1, ⟨dv, q2⟩, _, q4, q5, q6, _, q8, tk, z⟩ := r.at i
 rw [hev] at q4; cases q4
 rw [ha] at q5; cases q5
 rw [hd] at q8; cases q8
 have htb : ∃ o tvs, s.heap.get? tb = some o ∧ o.cls = .type "traceback" ∧ o.data = .fields tvs ∧ 3 < tvs.size ∧ h₀.get? tb = none := by
  rcases tk.2 with e0 | ⟨tb', o, e1, e3, ⟨e4, tvs, e6, e7⟩, e5⟩
  ·rw [e0] at h1; cases h1
  ·rw [e1] at h1; cases h1; exact ⟨o, tvs, e3, e4, e6, e7, e5⟩
 obtain ⟨o, tvs, e3, e4, e6, e7, e5⟩ := htb
 refine wpAny_setField e3 e6 e7 ?_
 have hne : a ≠ tb := fun q => by
  rw [q, e3] at ha; cases ha
  rw [q6] at e4; cases e4
 have hd3 := Obj.data_mapFields e6 (·.setIfInBounds 3 v)
 have hself := Heap.get?_update_self (Obj.mapFields (·.setIfInBounds 3 v)) e3 (Obj.isFreed_of_fields hd3)
 have hTb : TbO (Obj.mapFields (·.setIfInBounds 3 v) o) := ⟨(Obj.cls_mapFields _ _).trans e4, _, hd3, by simpa using e7⟩
 have hoth : ∀ b ob, b ≠ tb → s.heap.get? b = some ob → (s.heap.update tb (Obj.mapFields (·.setIfInBounds 3 v))).get? b = some ob := fun b ob hb e => (Heap.get?_update_ne _ _ _ _ hb).trans e
 obtain ⟨i', x'⟩ := i.chg (W := []) (h' := s.heap.update tb (Obj.mapFields (·.setIfInBounds 3 v))) q1 q2 (fun b ob e ya yb hnt => hoth b ob (fun q => hnt oe vs ha hd (q ▸ h1)) e)
  (fun b ob e hD => ⟨ob.slots, hoth b ob (fun q => by rw [q, e3] at e; cases e; exact tb_not_d ⟨e4, tvs, e6, e7⟩ hD) e⟩)
  (fun b ob e hT => by
   by_cases hb : b = tb
   ·subst hb; exact ⟨_, hself, hTb⟩
   ·exact ⟨ob, hoth b ob hb e, hT⟩)
  fun o' ws p1 p2 p3 => by
   rw [ha] at p1; cases p1
   rw [hd] at p2; cases p2
   exact ⟨oe, vs, hoth a oe hne ha, rfl, rfl, hd, p3.1, .inr ⟨tb, _, h1, hself, hTb, e5⟩⟩
 exact hq _ i' x' (hoth a oe hne ha)
theorem setFlight_ok {e : V} {ev : Value} {fr : Option Addr} {Q : Unit → Shared → Prop} (i : Inv h₀ σ ρ s.heap) (r : RE σ e ev ρ s.heap)
  (hq : ∀ h', Inv h₀ σ ρ h' → Ext [] ρ s.heap ρ h' → (Noted ev s.heap → Noted ev h') → Q () { s with heap := h' }) : wpAny (model h₀.prog h₀.w) A (setFlight ev fr) Q E s := by
 obtain ⟨n, c, fs, a, oe, vs, C, q1, ⟨dv, q2⟩, _, rfl, q5, q6, _, q8, tk, z⟩ := r.at i
 unfold setFlight
 rcases tk.2 with e0 | ⟨tb, o, e1, _⟩
 ·refine wpAny_bind (wpAny_field q5 q8 e0 ?_)
  rw [if_neg (by decide)]
  exact wpAny_pure (hq _ i .refl id)
 ·refine wpAny_bind (wpAny_field q5 q8 e1 ?_)
  rw [if_pos (show (Value.ref tb != Value.none) = true from by simp)]
  exact tbSet i r rfl q5 q8 e1 fun h' i' x' g' => hq h' i' x' fun ya => ⟨a, oe, vs, tb, rfl, g', q8, e1⟩
theorem drop_found {α : Type} [BEq α] [LawfulBEq α] {x : α} {f : Env → α} : ∀ {l : List Env}, (∃ e ∈ l, f e = x) → ∃ e r, (l.dropWhile fun y => f y != x) = e :: r ∧ f e = x ∧ e ∈ l ∧ ∀ y ∈ r, y ∈ l
 | [], ⟨_, h, _⟩ => nomatch h
 | y :: l, ⟨e, he, hx⟩ => by
  by_cases hy : f y = x
  ·refine ⟨y, l, ?_, hy, List.mem_cons_self .., fun z hz => List.mem_cons_of_mem _ hz⟩
   rw [List.dropWhile_cons, show (f y != x) = false by simp [hy]]; rfl
  ·have hm : e ∈ l := by
    rcases List.mem_cons.mp he with rfl | h
    ·exact absurd hx hy
    ·exact h
   obtain ⟨e', r, h1, h2, h3, h4⟩ := drop_found (l := l) ⟨e, hm, hx⟩
   refine ⟨e', r, ?_, h2, List.mem_cons_of_mem _ h3, fun z hz => List.mem_cons_of_mem _ (h4 z hz)⟩
   rw [List.dropWhile_cons, show (f y != x) = true by simp [hy]]; exact h1
theorem tbNew {env : Env} {L : Addr} {e : V} {ev head : Value} {b : Bool} {n : Nat} {q : Bool} {Q : Unit → Shared → Prop} (hA : Rm h₀ A n q) (htop : ∃ f ∈ h₀.frs, f.frame = env.frame) (i : Inv h₀ σ ρ s.heap) (r : RE σ e ev ρ s.heap)
  (hq : ∀ h', Inv h₀ σ ρ h' → Ext [] ρ s.heap ρ h' → Noted ev h' → Q () { s with heap := h' }) :
  wpAny (model h₀.prog h₀.w) A (do setField ev 1 (← EntryCells.newEntry head (← PySem.frameOf env) .none (rawInt L) .none (← entryPlaceOf L b))) Q E s := by
 obtain ⟨k, c, fs, a, oe, vs, C, q1, ⟨dv, q2⟩, _, rfl, q5, q6, _, q8, tk, z⟩ := r.at i
 unfold PySem.frameOf
 refine wpAny_bind (wpAny_bind (wpAny_frameEnvs hA.frames ?_))
 obtain ⟨f, fr, h1, h2, h3, h4⟩ := drop_found (f := fun y : Env => y.frame) htop
 rw [h1]
 unfold frameObject
 have hsub : ∀ y ∈ f :: fr, y ∈ h₀.frs := fun y hy => (List.mem_cons.mp hy).elim (fun q => q ▸ h3) (h4 y)
 refine wpAny_bind (wpAny_bind (readyFrames_ok (f :: fr) s (fun y hy => ?_) fun H hs => wpAny_pure ?_))
 ·obtain ⟨p1, L', o', p2, p3, _⟩ := i.up y (hsub y hy)
  exact ⟨p1, L', o', p2, p3⟩
 obtain ⟨_, L', o', p2, p3, _⟩ := i.up f h3
 rw [p2]
 refine wpAny_pure (wpAny_bind (wpAny_entryPlaceOf fun pl hpl => ?_))
 unfold EntryCells.newEntry newFields
 refine wpAny_bind (wpAny_newObj_type ?_ (hpl.sizeOk5 _ _ _ _ _))
 have hTb : TbO { cls := .type "traceback", dict := none, data := .fields ([head, Value.ref L', .none, rawInt L, .none] ++ (if pl.isEmpty then List.replicate 6 Value.none else pl)).toArray } := ⟨rfl, _, rfl, by simp only [List.size_toArray, List.length_append, List.length_cons, List.length_nil]; (first | lia | omega)⟩
 generalize hTo : ({ cls := .type "traceback", dict := none, data := .fields ([head, Value.ref L', .none, rawInt L, .none] ++ (if pl.isEmpty then List.replicate 6 Value.none else pl)).toArray } : Obj) = T at hTb ⊢
 have old : ∀ y ob, s.heap.get? y = some ob → ∃ ob', H.get? y = some ob' := fun y ob hy => (hs y ob hy).elim (fun q => ⟨ob, q⟩) fun ⟨_, sl, q⟩ => ⟨_, q⟩
 obtain ⟨oe1, g1, c1, d1, t1⟩ : ∃ o1, H.get? a = some o1 ∧ o1.cls = oe.cls ∧ o1.dict = oe.dict ∧ o1.data = .fields vs := by
  rcases hs a oe q5 with q | ⟨_, sl, q⟩
  ·exact ⟨oe, q, rfl, rfl, q8⟩
  ·exact ⟨_, q, rfl, rfl, q8⟩
 have g2 := Heap.get?_push_of_some (h := H) T g1
 have hd3 := Obj.data_mapFields t1 (·.setIfInBounds 1 (Value.ref H.objs.size))
 refine wpAny_setField g2 t1 tk.1 ?_
 have hself := Heap.get?_update_self (Obj.mapFields (·.setIfInBounds 1 (Value.ref H.objs.size))) g2 (Obj.isFreed_of_fields hd3)
 have hTe : H.objs.size ≠ a := (size_get g1).symm
 have hT3 : ((H.push T).update a (Obj.mapFields (·.setIfInBounds 1 (Value.ref H.objs.size)))).get? H.objs.size = some T := (Heap.get?_update_ne _ _ _ _ hTe).trans (Heap.get?_push_size H (by rw [← hTo]; rfl))
 have hoth : ∀ y ob, y ≠ a → H.get? y = some ob → ((H.push T).update a (Obj.mapFields (·.setIfInBounds 1 (Value.ref H.objs.size)))).get? y = some ob := fun y ob hy e => (Heap.get?_update_ne _ _ _ _ hy).trans (Heap.get?_push_of_some T e)
 have h1' : (vs.setIfInBounds 1 (Value.ref H.objs.size))[1]? = some (.ref H.objs.size) := by simp [tk.1]
 obtain ⟨i', x'⟩ := i.chg (W := []) (h' := (H.push T).update a (Obj.mapFields (·.setIfInBounds 1 (Value.ref H.objs.size)))) q1 q2
  (fun y ob e hya hnf ya => hoth y ob hya ((hs y ob e).elim id fun ⟨⟨f', hf', ef⟩, _⟩ => absurd ef (hnf f' (hsub f' hf'))))
  (fun y ob e hD => by
   have hya : y ≠ a := fun q => by rw [q, q5] at e; cases e; obtain ⟨_, _, q⟩ := hD; rw [q8] at q; cases q
   rcases hs y ob e with q | ⟨_, sl, q⟩
   ·exact ⟨ob.slots, hoth y ob hya q⟩
   ·exact ⟨sl, hoth y _ hya q⟩)
  (fun y ob e hT => by
   have hya : y ≠ a := fun q => by rw [q, q5] at e; cases e; exact nomatch q6.symm.trans hT.1
   rcases hs y ob e with q | ⟨_, sl, q⟩
   ·exact ⟨ob, hoth y ob hya q, hT⟩
   ·exact ⟨_, hoth y _ hya q, hT⟩)
  fun o' ws p1 p4 p5 => by
   rw [q5] at p1; cases p1
   rw [q8] at p4; cases p4
   refine ⟨_, _, hself, (Obj.cls_mapFields _ _).trans c1, (mapFields_dict _ _).trans d1, hd3, by simpa using tk.1, .inr ⟨H.objs.size, T, h1', hT3, hTb, ?_⟩⟩
   cases e0 : h₀.get? H.objs.size with
   | none => rfl
   | some o =>
    obtain ⟨o1, e1⟩ := old _ _ (i.base _ _ e0)
    exact absurd rfl (size_get e1)
 exact hq _ i' x' ⟨a, _, _, H.objs.size, rfl, hself, hd3, h1'⟩
theorem note_ok {env : Env} {e : V} {ev : Value} {n : Nat} {q : Bool} {Q : Unit → Shared → Prop} (hA : Rm h₀ A n q) (htop : ∃ f ∈ h₀.frs, f.frame = env.frame) (i : Inv h₀ σ ρ s.heap) (r : RE σ e ev ρ s.heap)
  (hq : ∀ h', Inv h₀ σ ρ h' → Ext [] ρ s.heap ρ h' → Noted ev h' → Q () { s with heap := h' }) : wpAny (model h₀.prog h₀.w) A (noteFrame ev env) Q E s := by
 obtain ⟨k, c, fs, a, oe, vs, C, q1, ⟨dv, q2⟩, _, q4, q5, q6, _, q8, tk, z⟩ := r.at i
 obtain ⟨f, hf, ef⟩ := htop
 obtain ⟨_, L, o', p2, p3, _⟩ := i.up f hf
 rw [p2] at ef
 unfold noteFrame
 rw [← ef]
 subst q4
 rcases tk.2 with e0 | ⟨tb, ot, e1, e3, ⟨_, tvs, e5, e6⟩, _⟩
 ·refine wpAny_bind (wpAny_field q5 q8 e0 ?_)
  rw [if_neg (by decide)]
  exact tbNew hA ⟨f, hf, p2.trans ef⟩ i r hq
 ·refine wpAny_bind (wpAny_field q5 q8 e1 ?_)
  rw [if_pos (show (Value.ref tb != Value.none) = true from by simp)]
  refine wpAny_bind (wpAny_field e3 e5 (Array.getElem?_eq_getElem e6) ?_)
  by_cases hfl : (tvs[3] == rawInt L) = true
  ·rw [if_pos hfl]
   exact wpAny_pure (hq _ i .refl ⟨a, oe, vs, tb, rfl, q5, q8, e1⟩)
  ·rw [if_neg hfl]
   refine wpAny_bind (tbSet i r rfl q5 q8 e1 fun h' i' x' g' => ?_)
   exact tbNew (s := { s with heap := h' }) hA ⟨f, hf, p2.trans ef⟩ i' r fun h'' i'' x'' nt => hq h'' i'' (x'.trans x'') nt
end
end Mine.Internal

set_option backward.match.sparseCases false
namespace Mine.Internal
open PySem PyProof.Rows
section
variable {h₀ : Bse} {A : Around} {W : List Addr} {ρ : Map} {s : Shared} {σ : Store}
theorem Inv.list (i : Inv h₀ σ ρ s.heap) {n : Nat} {l : List V} {a : Addr} {d : Nat} (hσ : σ[n]? = some (.list l)) (hρ : ρ[n]? = some (a, d)) :
  ∃ vs k, s.heap.get? a = some (listO vs k) ∧ vs.length ≤ sizeLine ∧ RelAll ρ s.heap vs l := i.objs n _ _ hσ hρ
theorem isList_of {h : Heap} {a : Addr} {vs : List Value} {k : Nat} (e : h.get? a = some (listO vs k)) : h.IsList a vs.toArray := ⟨_, e, rfl, k, rfl⟩
theorem isTuple_of {h : Heap} {a : Addr} {vs : List Value} {k : Nat} (e : h.get? a = some (tupO vs k)) : h.IsTuple a vs.toArray := ⟨_, e, rfl, k, rfl⟩
theorem sizeLine_lt : sizeLine < 2 ^ 63 := by decide
theorem Sim.getList {β γ : Type} {t : Sem β} {n : Nat} {k : List V → M γ} {R : γ → Map → Heap → β → Prop} (h : ∀ l, σ[n]? = some (.list l) → Sim h₀ A W t (k l σ) R ρ s) :
  Sim h₀ A W t ((getList n >>= k) σ) R ρ s := by
 cases e : σ[n]? with
 | none => rw [bind_bad (by rw [getList_eq, e])]; exact trivial
 | some o =>
  cases o with
  | list l => rw [bind_ok (by rw [getList_eq, e])]; exact h l e
  | dict _ _ => rw [bind_bad (by rw [getList_eq, e])]; exact trivial
  | inst _ _ => rw [bind_bad (by rw [getList_eq, e])]; exact trivial
  | exc _ _ => rw [bind_bad (by rw [getList_eq, e])]; exact trivial
theorem strOk_append {x y : Str} (hx : PyData.strOk x = true) (hy : PyData.strOk y = true) : PyData.strOk (x ++ y) = true := by
 unfold PyData.strOk at *
 show (x.cps ++ y.cps).all _ = true
 rw [Array.all_append, hx, hy]; rfl
theorem mulOk_fits {a b : Int} (h : Small a ∨ Small b) : IntMulOk a b :=
 h.elim (fun h => IntMulOk.of_left (intBits_le_64 h.1 h.2)) fun h => IntMulOk.of_right (intBits_le_64 h.1 h.2)
theorem Small.noPylong {a b : Int} (h : Small b) : Builtin.divisionGoesByPylong a b = false := PyProof.noPylong_of_log2 (by
 have h1 : b.natAbs < 2 ^ 64 := by have := h.1; have := h.2; (first | lia | omega)
 by_cases hz : b.natAbs = 0
 ·rw [hz]; decide
 ·exact (Nat.log2_lt hz).mpr (Nat.lt_of_lt_of_le h1 (Nat.pow_le_pow_right (by decide) (by decide))))
theorem Sim.ite {α β : Type} {t : Sem β} {c : Prop} [Decidable c] {m : M α} {R : α → Map → Heap → β → Prop} (h : c → Sim h₀ A W t (m σ) R ρ s) : Sim h₀ A W t ((if c then m else M.bad) σ) R ρ s := by
 by_cases hc : c
 ·rw [if_pos hc]; exact h hc
 ·rw [if_neg hc]; exact trivial
theorem Sim.intOp {op : Operator} {a b : Int} {t u : Tok} (i : Inv h₀ σ ρ s.heap) : Sim h₀ A W (binaryOp op (.int a t) (.int b u)) (Mine.Internal.intOp op a b σ) RV ρ s := by
 cases op with
 | Add => exact Sim.same i fun Q E hQ => add_int (hQ _ _ (.int _ _))
 | Sub => exact Sim.same i fun Q E hQ => sub_int (hQ _ _ (.int _ _))
 | Mult => exact Sim.ite fun hc => Sim.same i fun Q E hQ => PyProof.Rows.mul_int (hQ _ _ (.int _ _)) (mulOk_fits hc)
 | FloorDiv => exact Sim.ite fun hc => Sim.same i fun Q E hQ => floordiv_int hc.1 (hQ _ _ (.int _ _)) (.inl hc.2.noPylong)
 | Mod => exact Sim.ite fun hc => Sim.same i fun Q E hQ => mod_int hc.1 (hQ _ _ (.int _ _))
 | Pow =>
  refine Sim.ite fun hc => Sim.same i fun Q E hQ => pow_int_small hc.1 (by (first | lia | omega)) ?_ (hQ _ _ (.int _ _))
  exact Nat.lt_of_lt_of_le hc.2.2 (by decide)
 | _ => exact trivial
theorem Sim.addV {a b : Value} {x y : V} (i : Inv h₀ σ ρ s.heap) (ra : Rel ρ s.heap a x) (rb : Rel ρ s.heap b y) :
  Sim h₀ A W (binaryOp .Add a b) (Mine.Internal.addV x y σ) RV ρ s := by
 cases ra with
 | str _ _ hx =>
  cases rb with
  | str _ _ hy => exact Sim.ite fun hc => Sim.same i fun Q E hQ => add_str (fun t' tk => hQ _ _ (.str _ _ ⟨by rw [length_append]; exact hc, strOk_append hx.2 hy.2⟩)) hc
  | _ => exact trivial
 | ref ea =>
  cases rb with
  | ref eb =>
   refine Sim.getList fun l hl => Sim.getList fun m hm => Sim.ite fun hc => ?_
   obtain ⟨vs, k, ga, la, r1⟩ := i.list hl ea
   obtain ⟨ws, k', gb, lb, r2⟩ := i.list hm eb
   have h1 := r1.length
   have h2 := r2.length
   refine Sim.newListAt i fun Q E hQ => P.add_list (n := k) (n2 := k') ga gb ?_ (by simp; (first | lia | omega))
   have hk : ∀ b o, s.heap.get? b = some o → (s.heap.push (listO (vs ++ ws) 0)).get? b = some o := fun b o e => Heap.get?_push_of_some _ e
   have := hQ s.heap.objs.size (vs ++ ws) 0 (s.heap.push (listO (vs ++ ws) 0)) s.toks hk fresh_none (Heap.get?_push_size _ rfl) (by simp; (first | lia | omega)) ((r1.append r2).sub (Sub.keeps hk))
   simpa [listO] using this
  | _ => exact trivial
 | _ => exact trivial
theorem Sim.binop {op : Operator} {a b : Value} {x y : V} (i : Inv h₀ σ ρ s.heap) (ra : Rel ρ s.heap a x) (rb : Rel ρ s.heap b y) :
  Sim h₀ A W (binaryOp op a b) (binop op x y σ) RV ρ s := by
 have other : Sim h₀ A W (binaryOp op a b) ((cond (isAdd op) (Mine.Internal.addV x y) M.bad) σ) RV ρ s := by
  cases op with
  | Add => exact Sim.addV i ra rb
  | _ => exact trivial
 cases ra with
 | int p t =>
  cases rb with
  | int q u => exact Sim.intOp i
  | _ => exact trivial
 | none => exact other
 | bool _ => exact other
 | str _ _ _ => exact other
 | tup _ _ _ => exact other
 | ref _ => exact other
end
end Mine.Internal

set_option backward.match.sparseCases false
namespace Mine.Internal
open PySem PyProof.Rows
section
variable {h₀ : Bse} {ρ : Map} {h : Heap} {σ : Store}
noncomputable def RdQ (h : Heap) (v : Value) (d : PyData) : Prop := ∃ as, Reads h v d as ∧ d.canLay0 = true
noncomputable def RdsQ (h : Heap) (vs : List Value) (ds : List PyData) : Prop := ∃ as, ReadsAll h vs ds as ∧ PyData.canLayAll0 ds = true
theorem reads_cons {f : Nat → Option PyData} {v : Value} {vs : List Value} {x : V} {l : List V} {ds : List PyData} (h1 : ∀ d, toPyT f x = some d → RdQ h v d) (h2 : ∀ ds, toPyTs f l = some ds → RdsQ h vs ds) (e : toPyTs f (x :: l) = some ds) : RdsQ h (v :: vs) ds := by
 have e : (match toPyT f x, toPyTs f l with | some d, some ds => some (d :: ds) | _, _ => none) = some ds := e
 cases e1 : toPyT f x with
 | none => rw [e1] at e; cases e
 | some d =>
  cases e2 : toPyTs f l with
  | none => rw [e1, e2] at e; cases e
  | some ds' =>
   rw [e1, e2] at e; cases e
   obtain ⟨as, hr, hc⟩ := h1 d e1
   obtain ⟨bs, hrs, hcs⟩ := h2 ds' e2
   exact ⟨as ++ bs, .cons hr hrs, by show (d.canLay0 && PyData.canLayAll0 ds') = true; rw [hc, hcs]; rfl⟩
theorem toPyT_reads {f : Nat → Option PyData} (hf : ∀ n d a b, f n = some d → ρ[n]? = some (a, b) → RdQ h (.ref a) d) {v : Value} {x : V} {d : PyData} (r : Rel ρ h v x) (e : toPyT f x = some d) : RdQ h v d := by
 refine Rel.rec (motive_1 := fun v x ya => ∀ d, toPyT f x = some d → RdQ h v d) (motive_2 := fun vs l ya => ∀ ds, toPyTs f l = some ds → RdsQ h vs ds) ?_ ?_ ?_ ?_ ?_ ?_ ?_ ?_ r d e
 ·intro d e; cases e; exact ⟨_, .none, rfl⟩
 ·intro b d e; cases e; exact ⟨_, .bool b, rfl⟩
 ·intro i t d e; cases e; exact ⟨_, .int i t, rfl⟩
 ·intro x t hx d e; cases e; exact ⟨_, .str x t, hx.2⟩
 ·intro a vs n l g _ r ih d e
  obtain ⟨ds, e1, rfl⟩ := Option.map_eq_some_iff.mp (show (toPyTs f l).map PyData.tuple = some d from e)
  obtain ⟨as, hr, hc⟩ := ih ds e1
  exact ⟨as, .tuple (vs := vs.toArray) (n := n) g rfl rfl (by simpa using hr), hc⟩
 ·intro a b n hn d e; exact hf _ _ _ _ e hn
 ·intro ds e; cases e; exact ⟨_, .nil, rfl⟩
 ·intro v vs x l _ _ h1 h2 ds e; exact reads_cons h1 h2 e
theorem toPyTs_reads {f : Nat → Option PyData} (hf : ∀ n d a b, f n = some d → ρ[n]? = some (a, b) → RdQ h (.ref a) d) {vs : List Value} {l : List V} {ds : List PyData} (r : RelAll ρ h vs l) (e : toPyTs f l = some ds) : RdsQ h vs ds :=
 RelAll.ind (P := fun vs l ya => ∀ ds, toPyTs f l = some ds → RdsQ h vs ds) (fun ds e => by cases e; exact ⟨_, .nil, rfl⟩) (fun r ya ih ds e => reads_cons (fun d => toPyT_reads hf r) ih e) r ds e
theorem toPyF_reads (i : Inv h₀ σ ρ h) : ∀ (k n : Nat) (d : PyData) (a b : Addr), toPyF σ k n = some d → ρ[n]? = some (a, b) → RdQ h (.ref a) d
 | 0, _, _, _, _, e, _ => by cases e
 | k + 1, n, d, a, b, e, hn => by
  have e : (match σ[n]? with | some (.list l) => (toPyTs (toPyF σ k) l).map PyData.list | _ => none) = some d := e
  cases e1 : σ[n]? with
  | none => rw [e1] at e; cases e
  | some o =>
   rw [e1] at e
   cases o with
   | dict _ _ => cases e
   | inst _ _ => cases e
   | exc _ _ => cases e
   | list l =>
    obtain ⟨ds, e2, rfl⟩ := Option.map_eq_some_iff.mp e
    obtain ⟨vs, m, g, hl, r⟩ := i.objs n _ _ e1 hn
    obtain ⟨as, hr, hc⟩ := toPyTs_reads (fun n d a b => toPyF_reads i k n d a b) r e2
    exact ⟨a :: as, .list (vs := vs.toArray) (n := m) g rfl rfl (by simpa using hr), hc⟩
theorem toPy_reads (i : Inv h₀ σ ρ h) {v : Value} {x : V} {d : PyData} (r : Rel ρ h v x) (e : toPy σ x = some d) : RdQ h v d :=
 toPyT_reads (fun n d a b => toPyF_reads i 4 n d a b) r e
end
section
variable {h₀ : Bse} {A : Around} {W : List Addr} {ρ : Map} {s : Shared} {σ : Store}
theorem veq_some {x y : V} {b : Bool} (h : veq σ x y = some b) : ∃ dx dy, toPy σ x = some dx ∧ toPy σ y = some dy ∧ min dx.depth dy.depth ≤ 200 ∧ b = PyData.eqv dx dy := by
 unfold veq at h
 cases e1 : toPy σ x with
 | none => rw [e1] at h; cases h
 | some dx =>
  cases e2 : toPy σ y with
  | none => rw [e1, e2] at h; cases h
  | some dy =>
   rw [e1, e2] at h
   dsimp only at h
   split at h
   ·rename_i hd; cases h; exact ⟨dx, dy, rfl, rfl, hd, rfl⟩
   ·cases h
theorem Sim.ask {α β : Type} {t : Sem β} {f : Store → Option α} {R : α → Map → Heap → β → Prop} (h : ∀ a, f σ = some a → Sim h₀ A W t (.ok a σ) R ρ s) : Sim h₀ A W t (askS f σ) R ρ s := by
 rw [askS_eq]
 cases e : f σ with
 | none => exact trivial
 | some a => exact h a e
theorem eqAt_of (i : Inv h₀ σ ρ s.heap) {a b : Value} {x y : V} {dx dy : PyData} (ra : Rel ρ s.heap a x) (rb : Rel ρ s.heap b y) (ex : toPy σ x = some dx) (ey : toPy σ y = some dy)
  (hd : min dx.depth dy.depth ≤ 200) (hu : A.units + 200 < cLine) : SeqAt.EqAt A s a b (PyData.eqv dx dy) := by
 obtain ⟨as, r1, c1⟩ := toPy_reads i ra ex
 obtain ⟨bs, r2, c2⟩ := toPy_reads i rb ey
 exact SeqAt.eqAt_reads dx dy A s a b as bs r1 r2 c1 c2 (by (first | lia | omega))
noncomputable def Ans (σ : Store) (ρ : Map) (h : Heap) (y : V) (v : Value) : Prop := ∃ dx dy, (∃ x, Rel ρ h v x ∧ toPy σ x = some dx) ∧ toPy σ y = some dy ∧ PyData.eqv dx dy = true
open Classical in
noncomputable def ansB (σ : Store) (ρ : Map) (h : Heap) (y : V) (v : Value) : Bool := decide (Ans σ ρ h y v)
open Classical in
theorem ansB_is (i : Inv h₀ σ ρ s.heap) {v : Value} {x y : V} {e : Bool} (r : Rel ρ s.heap v x) (h : veq σ x y = some e) : ansB σ ρ s.heap y v = e := by
 obtain ⟨dx, dy, ex, ey, _, rfl⟩ := veq_some h
 unfold ansB
 cases hq : PyData.eqv dx dy with
 | true => exact decide_eq_true ⟨dx, dy, ⟨x, r, ex⟩, ey, hq⟩
 | false =>
  refine decide_eq_false ?_
  rintro ⟨dx', dy', ⟨x', r', ex'⟩, ey', hq'⟩
  rw [ey] at ey'; cases ey'
  obtain ⟨as, r1, c1⟩ := toPy_reads i r ex
  obtain ⟨as', r2, c2⟩ := toPy_reads i r' ex'
  rw [SeqAt.Reads.unique _ _ _ _ _ c1 r1 r2, hq'] at hq; cases hq
theorem vin_any (i : Inv h₀ σ ρ s.heap) {b : Value} {y : V} (rb : Rel ρ s.heap b y) (hu : A.units + 200 < cLine) : ∀ {vs : List Value} {l : List V} {k : Bool}, RelAll ρ s.heap vs l → vin σ y l = some k →
  k = vs.any (ansB σ ρ s.heap y) ∧ ∀ v ∈ vs, SeqAt.EqAt A s v b (ansB σ ρ s.heap y v) := by
 intro vs l k r h
 induction l generalizing vs k with
 | nil => cases r; cases h; exact ⟨rfl, fun ya hv => nomatch hv⟩
 | cons x l ih =>
  cases r with
  | cons r rs =>
  have h : (match veq σ x y, vin σ y l with | some e, some t => some (e || t) | _, _ => none) = some k := h
  cases e1 : veq σ x y with
  | none => rw [e1] at h; cases h
  | some e =>
   cases e2 : vin σ y l with
   | none => rw [e1, e2] at h; cases h
   | some t =>
    rw [e1, e2] at h; cases h
    obtain ⟨h1, h2⟩ := ih rs e2
    have hb := ansB_is i r e1
    refine ⟨by rw [List.any_cons, hb, ← h1], fun u hm => ?_⟩
    rcases List.mem_cons.mp hm with rfl | hm
    ·obtain ⟨dx, dy, ex, ey, hd, rfl⟩ := veq_some e1
     rw [hb]; exact eqAt_of i r rb ex ey hd hu
    ·exact h2 u hm
theorem Inv.dict (i : Inv h₀ σ ρ s.heap) {n v : Nat} {l : Tab} {p : Addr × Nat} (hσ : σ[n]? = some (.dict v l)) (er : ρ[n]? = some p) :
  p.2 = v ∧ (p.1 == sysModules) = false ∧ ∃ kvs, s.heap.DictOf (keyKind h₀.prog h₀.w) p.1 kvs ∧ kvs.length ≤ sizeLine ∧ Ents ρ s.heap kvs l := i.objs n _ p hσ er
theorem keyOf_is {a : Value} {x : V} {k : Key} {h : Heap} (ra : Rel ρ h a x) (e : keyOf x = some k) : keyIs k a = true ∧ ∀ s, k = .inr s → SOk s := by
 cases ra with
 | int i t => cases e; exact ⟨isInt_same i t, fun s e => by cases e⟩
 | str x t hx => cases e; exact ⟨isStrOf_same x t, fun s e => by cases e; exact hx⟩
 | _ => cases e
theorem Ents.at {h : Heap} {k : Key} {kvs : List (Key × Value)} {l : Tab} (r : Ents ρ h kvs l) : (dGet l k = none → valueAt kvs k = none) ∧ ∀ x, dGet l k = some x → ∃ v, valueAt kvs k = some v ∧ Rel ρ h v x := by
 induction r with
 | nil => exact ⟨fun ya => rfl, fun ya e => by cases e⟩
 | @cons k' v x kvs l hs r rs ih =>
  unfold dGet valueAt at ih ⊢
  rw [List.find?_cons, List.find?_cons]
  by_cases hk : k' = k
  ·simp only [hk, decide_true]
   exact ⟨fun e => (by cases e), fun y e => (by cases e; exact ⟨v, rfl, r⟩)⟩
  ·simp only [hk, decide_false]
   exact ih
theorem Ents.isSome {h : Heap} {k : Key} {kvs : List (Key × Value)} {l : Tab} (r : Ents ρ h kvs l) : (valueAt kvs k).isSome = (dGet l k).isSome := by
 have := r.at (k := k)
 cases e : dGet l k with
 | none => rw [this.1 e]; rfl
 | some x => obtain ⟨v, hv, _⟩ := this.2 x e; rw [hv]; rfl
theorem Sim.getO {β γ : Type} {t : Sem β} {n : Nat} {k : O → M γ} {R : γ → Map → Heap → β → Prop} (h : ∀ o, σ[n]? = some o → Sim h₀ A W t (k o σ) R ρ s) :
  Sim h₀ A W t ((getO n >>= k) σ) R ρ s := by
 cases e : σ[n]? with
 | none => rw [bind_bad (by rw [getO_eq, e])]; exact trivial
 | some o => rw [bind_ok (a := o) (σ' := σ) (by rw [getO_eq, e])]; exact h o e
theorem Sim.optThen {α β γ : Type} {t : Sem β} {o : Option α} {k : α → M γ} {R : γ → Map → Heap → β → Prop} (h : ∀ a, o = some a → Sim h₀ A W t (k a σ) R ρ s) : Sim h₀ A W t ((ofOpt o >>= k) σ) R ρ s := by
 cases o with
 | none => exact trivial
 | some a => exact h a rfl
theorem Sim.askThen {α β γ : Type} {t : Sem β} {f : Store → Option α} {k : α → M γ} {R : γ → Map → Heap → β → Prop} (h : ∀ a, f σ = some a → Sim h₀ A W t (k a σ) R ρ s) : Sim h₀ A W t ((askS f >>= k) σ) R ρ s := by
 cases e : f σ with
 | none => rw [bind_bad (by rw [askS_eq, e])]; exact trivial
 | some a => rw [bind_ok (a := a) (σ' := σ) (by rw [askS_eq, e])]; exact h a e
theorem Sim.inV {a b : Value} {x y : V} {f : Bool → Bool} {op : CmpOp} (i : Inv h₀ σ ρ s.heap) (hu : A.units + 201 < cLine) (ra : Rel ρ s.heap a x) (rb : Rel ρ s.heap b y) (hop : (op = .In ∧ f = id) ∨ (op = .NotIn ∧ f = not)) :
  Sim h₀ A W (compareOp op a b) ((Mine.Internal.inV x y >>= fun c => (Pure.pure (V.bool (f c)) : M V)) σ) RV ρ s := by
 have hu1 : A.in1.units + 200 < cLine := by show A.units + 1 + 200 < cLine; (first | lia | omega)
 cases rb with
 | tup g hl r =>
  refine Sim.askThen fun k hk => ?_
  obtain ⟨rfl, he⟩ := vin_any (A := A.in1) i ra hu1 r hk
  rcases hop with ⟨rfl, rfl⟩ | ⟨rfl, rfl⟩
  ·refine Sim.same i fun Q E hQ => SeqAt.in_tupleAt _ (isTuple_of g) (fun y hy => he y (by simpa using hy)) ?_
   have := hQ _ s.toks (.bool _)
   simpa using this
  ·refine Sim.same i fun Q E hQ => SeqAt.notIn_tupleAt _ (isTuple_of g) (fun y hy => he y (by simpa using hy)) ?_
   have := hQ _ s.toks (.bool _)
   simpa using this
 | str y t hy =>
  cases ra with
  | str x u hx =>
   rcases hop with ⟨rfl, rfl⟩ | ⟨rfl, rfl⟩
   ·exact Sim.same i fun Q E hQ => SB.contains (hQ _ s.toks (.bool _))
   ·exact Sim.same i fun Q E hQ => SB.notContains (hQ _ s.toks (.bool _))
  | _ => exact trivial
 | @ref ad d n er =>
  show Sim h₀ A W _ ((Mine.Internal.among x n >>= fun b => (Pure.pure (V.bool (f b)) : M V)) σ) _ _ _
  unfold Mine.Internal.among
  rw [M.assoc]
  refine Sim.getO fun o ho => ?_
  cases o with
  | list l =>
   refine Sim.askThen fun k hk => ?_
   obtain ⟨vs, m, g, hl, r⟩ := i.list ho er
   obtain ⟨rfl, he⟩ := vin_any (A := A.in1) i ra hu1 r hk
   rcases hop with ⟨rfl, rfl⟩ | ⟨rfl, rfl⟩
   ·refine Sim.same i fun Q E hQ => SeqAt.in_listAt _ (isList_of g) (fun y hy => he y (by simpa using hy)) ?_
    have := hQ _ s.toks (.bool _)
    simpa using this
   ·refine Sim.same i fun Q E hQ => SeqAt.notIn_listAt _ (isList_of g) (fun y hy => he y (by simpa using hy)) ?_
    have := hQ _ s.toks (.bool _)
    simpa using this
  | dict dv l =>
   refine Sim.optThen fun k hk => ?_
   obtain ⟨kk, ek, rfl⟩ := Option.map_eq_some_iff.mp hk
   obtain ⟨_, hs, kvs, hd, hl, r⟩ := i.dict ho er
   rcases hop with ⟨rfl, rfl⟩ | ⟨rfl, rfl⟩
   ·exact Sim.same i fun Q E hQ => wpAny_in_of (keyOf_is ra ek).1 hs hd.mapOf (hQ _ _ (by rw [r.isSome]; exact .bool _))
   ·exact Sim.same i fun Q E hQ => wpAny_notIn_of (keyOf_is ra ek).1 hs hd.mapOf (hQ _ _ (by rw [r.isSome]; exact .bool _))
  | inst _ _ => exact trivial
  | exc _ _ => exact trivial
 | none => exact trivial
 | bool _ => exact trivial
 | int _ _ => exact trivial
set_option tactic.hygienic true in
theorem Sim.isV {a b : Value} {x y : V} {f : Bool → Bool} {op : CmpOp} (i : Inv h₀ σ ρ s.heap) (ra : Rel ρ s.heap a x) (rb : Rel ρ s.heap b y) (hop : (op = .Is ∧ f = id) ∨ (op = .IsNot ∧ f = not)) :
  Sim h₀ A W (compareOp op a b) ((Mine.Internal.isV x y >>= fun c => (Pure.pure (V.bool (f c)) : M V)) σ) RV ρ s := by
 cases rb with
 | none =>
  rcases hop with ⟨rfl, rfl⟩ | ⟨rfl, rfl⟩
  ·refine Sim.same i fun Q E hQ => is_none (hQ _ s.toks ?_)
   cases ra <;> exact .bool _
  ·refine Sim.same i fun Q E hQ => isNot_none (hQ _ s.toks ?_)
   cases ra <;> exact .bool _
 | _ => exact trivial
theorem Sim.ordV {a b : Value} {x y : V} {f : Int → Int → Bool} {g : Str → Str → Bool} {t : Sem Value} (i : Inv h₀ σ ρ s.heap) (ra : Rel ρ s.heap a x) (rb : Rel ρ s.heap b y)
  (h1 : ∀ (m n : Int) (p q : Tok) (Q E : Value → Shared → Prop), a = .int m p → b = .int n q → Q (.bool (f m n)) s → wpAny (model h₀.prog h₀.w) A t Q E s)
  (h2 : ∀ (m n : Str) (p q : Tok) (Q E : Value → Shared → Prop), a = .str m p → b = .str n q → Q (.bool (g m n)) s → wpAny (model h₀.prog h₀.w) A t Q E s) : Sim h₀ A W t (Mine.Internal.ordV f g x y σ) RV ρ s := by
 cases ra with
 | int m p => cases rb with
  | int n q => exact Sim.same i fun Q E hQ => h1 m n p q Q E rfl rfl (hQ _ s.toks (.bool _))
  | _ => exact trivial
 | str m p hm => cases rb with
  | str n q hn => exact Sim.same i fun Q E hQ => h2 m n p q Q E rfl rfl (hQ _ s.toks (.bool _))
  | _ => exact trivial
 | _ => exact trivial
theorem Sim.cmp {op : CmpOp} {a b : Value} {x y : V} (i : Inv h₀ σ ρ s.heap) (hu : A.units + 201 < cLine) (ra : Rel ρ s.heap a x) (rb : Rel ρ s.heap b y) :
  Sim h₀ A W (compareOp op a b) (cmp op x y σ) RV ρ s := by
 have hu1 : A.in1.units + 200 < cLine := by show A.units + 1 + 200 < cLine; (first | lia | omega)
 cases op with
 | Eq =>
  show Sim h₀ A W _ (askS (fun σ => (veq σ x y).map V.bool) σ) RV ρ s
  refine Sim.ask fun c hc => ?_
  obtain ⟨k, hk, rfl⟩ := Option.map_eq_some_iff.mp hc
  obtain ⟨dx, dy, ex, ey, hd, rfl⟩ := veq_some hk
  obtain ⟨as, r1, c1⟩ := toPy_reads i ra ex
  obtain ⟨bs, r2, c2⟩ := toPy_reads i rb ey
  exact Sim.same i fun Q E hQ => SeqAt.compareEq_reads r1 r2 c1 c2 (by (first | lia | omega)) (hQ _ s.toks (.bool _))
 | NotEq =>
  show Sim h₀ A W _ (askS (fun σ => (veq σ x y).map fun e => V.bool (!e)) σ) RV ρ s
  refine Sim.ask fun c hc => ?_
  obtain ⟨k, hk, rfl⟩ := Option.map_eq_some_iff.mp hc
  obtain ⟨dx, dy, ex, ey, hd, rfl⟩ := veq_some hk
  obtain ⟨as, r1, c1⟩ := toPy_reads i ra ex
  obtain ⟨bs, r2, c2⟩ := toPy_reads i rb ey
  exact Sim.same i fun Q E hQ => SeqAt.compareNe_reads r1 r2 c1 c2 (by (first | lia | omega)) (hQ _ s.toks (.bool _))
 | Lt => exact Sim.ordV i ra rb (fun m n p q Q E ea eb h => by subst ea eb; exact lt_int h) fun m n p q Q E ea eb h => by subst ea eb; exact P.lt_str h
 | LtE => exact Sim.ordV i ra rb (fun m n p q Q E ea eb h => by subst ea eb; exact le_int h) fun m n p q Q E ea eb h => by subst ea eb; exact P.le_str h
 | Gt => exact Sim.ordV i ra rb (fun m n p q Q E ea eb h => by subst ea eb; exact gt_int h) fun m n p q Q E ea eb h => by subst ea eb; exact P.gt_str h
 | GtE => exact Sim.ordV i ra rb (fun m n p q Q E ea eb h => by subst ea eb; exact ge_int h) fun m n p q Q E ea eb h => by subst ea eb; exact P.ge_str h
 | Is => exact Sim.isV (f := id) i ra rb (.inl ⟨rfl, rfl⟩)
 | IsNot => exact Sim.isV (f := not) i ra rb (.inr ⟨rfl, rfl⟩)
 | In => exact Sim.inV (f := id) i hu ra rb (.inl ⟨rfl, rfl⟩)
 | NotIn => exact Sim.inV (f := not) i hu ra rb (.inr ⟨rfl, rfl⟩)
set_option tactic.hygienic true in
theorem Sim.truth {a : Value} {x : V} (i : Inv h₀ σ ρ s.heap) (ra : Rel ρ s.heap a x) : Sim h₀ A W (truthy a) (truth x σ) RB ρ s := by
 have hs := sizeLine_lt
 cases ra with
 | none => exact Sim.same i fun Q E hQ => truthy_none (hQ _ s.toks rfl)
 | bool _ => exact Sim.same i fun Q E hQ => wpAny_truthy_bool (hQ _ s.toks rfl)
 | int _ _ => exact Sim.same i fun Q E hQ => truthy_int (hQ _ s.toks rfl)
 | str x t hx =>
  refine Sim.same i fun Q E hQ => P.truthy_str (by have := hx.1; (first | lia | omega)) (hQ _ _ ?_)
  show _ = _
  rw [Bool.eq_iff_iff]; simp
 | tup g hl r =>
  refine Sim.same i fun Q E hQ => truthy_tuple (isTuple_of g) (by simp; (first | lia | omega)) (hQ _ _ ?_)
  have := r.length
  show _ = _
  rw [Bool.eq_iff_iff]
  simp [← this]
 | @ref a d n er =>
  refine Sim.getO fun o e => ?_
  cases o with
  | list l =>
   obtain ⟨vs, m, g, hl, r⟩ := i.list e er
   refine Sim.same i fun Q E hQ => wpAny_truthy_list (isList_of g) (by simp; (first | lia | omega)) (hQ _ _ ?_)
   have := r.length
   show _ = _
   rw [Bool.eq_iff_iff]
   simp [← this]
  | dict _ _ => exact trivial
  | inst _ _ => exact trivial
  | exc _ _ => exact trivial
end
end Mine.Internal

set_option backward.match.sparseCases false
namespace Mine.Internal
open PySem PyProof.Rows
section
variable {h₀ : Bse} {A : Around} {W : List Addr} {ρ : Map} {s : Shared} {σ : Store}
theorem place_seqIndex {i : Int} {n k : Nat} (h : place i n = some k) (hn : n ≤ sizeLine) : seqIndex? i n = some k ∧ -(2 ^ 63) ≤ i ∧ i < 2 ^ 63 := by
 have hs := sizeLine_lt
 unfold place at h
 split at h
 ·split at h
  ·cases h
   exact ⟨seqIndex_of (by (first | lia | omega)) (by (first | lia | omega)), by (first | lia | omega), by (first | lia | omega)⟩
  ·cases h
 ·split at h
  ·cases h
   exact ⟨seqIndex_neg (by (first | lia | omega)) (by (first | lia | omega)), by (first | lia | omega), by (first | lia | omega)⟩
  ·cases h
theorem place_lt {i : Int} {n k : Nat} (h : place i n = some k) : k < n := by
 unfold place at h
 split at h
 ·split at h
  ·cases h; (first | lia | omega)
  ·cases h
 ·split at h
  ·cases h; (first | lia | omega)
  ·cases h
theorem getItem_listAny {l : Addr} {vs : List Value} {n k : Nat} {i : Int} {t : Tok} {x : Value} {Q : Value → Shared → Prop} {E : Value → Shared → Prop} (g : s.heap.get? l = some (listO vs n)) (hl : vs.length ≤ sizeLine)
  (hk : place i vs.length = some k) (hx : vs[k]? = some x) (h : Q x s) : wpAny (model h₀.prog h₀.w) A (getItem (.ref l) (.int i t)) Q E s := by
 have hs := sizeLine_lt
 unfold place at hk
 split at hk
 ·rename_i h0
  split at hk
  ·cases hk
   exact wpAny_getItem_list (isList_of g) h0 (by (first | lia | omega)) (by simpa using hx) h
  ·cases hk
 ·rename_i h0
  split at hk
  ·cases hk
   exact wpAny_getItem_list_neg (isList_of g) (by (first | lia | omega)) (by simp; (first | lia | omega)) (by (first | lia | omega)) (by simpa using hx) h
  ·cases hk
theorem Sim.ofOpt {α β : Type} {t : Sem β} {o : Option α} {R : α → Map → Heap → β → Prop} (h : ∀ a, o = some a → Sim h₀ A W t (.ok a σ) R ρ s) : Sim h₀ A W t (ofOpt o σ) R ρ s := by
 cases o with
 | none => exact trivial
 | some a => exact h a rfl
theorem Sim.ofOptBind {α β γ : Type} {t : Sem β} {o : Option α} {k : α → M γ} {R : γ → Map → Heap → β → Prop} (h : ∀ a, o = some a → Sim h₀ A W t (k a σ) R ρ s) : Sim h₀ A W t ((Mine.Internal.ofOpt o >>= k) σ) R ρ s := by
 cases o with
 | none => exact trivial
 | some a => exact h a rfl
theorem Sim.item {a b : Value} {x y : V} (i : Inv h₀ σ ρ s.heap) (ra : Rel ρ s.heap a x) (rb : Rel ρ s.heap b y) :
  Sim h₀ A W (getItem a b) (item x y σ) RV ρ s := by
 have hs := sizeLine_lt
 cases ra with
 | tup g hl r =>
  cases rb with
  | int k t =>
   have hlen := r.length
   refine Sim.ofOpt fun v hv => ?_
   obtain ⟨j, hj, hv⟩ := Option.bind_eq_some_iff.mp hv
   obtain ⟨val, e, hr⟩ := r.get hv
   obtain ⟨h1, h2, h3⟩ := place_seqIndex hj (by (first | lia | omega))
   exact Sim.same i fun Q E hQ => P.getItem_tuple g h2 h3 (by simpa [hlen] using h1) (by simpa using e) (hQ _ s.toks hr)
  | _ => exact trivial
 | str x t hx =>
  cases rb with
  | int k u =>
   refine Sim.ofOpt fun v hv => ?_
   obtain ⟨j, hj, hv⟩ := Option.bind_eq_some_iff.mp hv
   obtain ⟨c, hc, rfl⟩ := Option.map_eq_some_iff.mp hv
   obtain ⟨h1, h2, h3⟩ := place_seqIndex hj hx.1
   refine Sim.same i fun Q E hQ => P.getItem_str (c := c) ?_ (by rw [h1]; simpa using hc) (hQ _ _ (.str _ _ ⟨by show 1 ≤ sizeLine; decide, ?_⟩))
   ·simp only [Bool.or_eq_false_iff, decide_eq_false_iff_not]; (first | lia | omega)
   ·have h4 := hx.2
    unfold PyData.strOk at h4 ⊢
    rw [Array.all_eq_true] at h4
    have hlt : j < (_ : Str).cps.size := place_lt hj
    have := h4 j hlt
    rw [Array.getElem?_eq_getElem hlt] at hc
    cases hc
    simpa [chr1] using this
  | _ => exact trivial
 | ref er =>
  refine Sim.getO fun o ho => ?_
  cases o with
  | list l =>
   cases rb with
   | int k t =>
    refine Sim.ofOpt fun v hv => ?_
    obtain ⟨vs, m, g, hl, r⟩ := i.list ho er
    have hlen := r.length
    obtain ⟨j, hj, hv⟩ := Option.bind_eq_some_iff.mp hv
    obtain ⟨val, e, hr⟩ := r.get hv
    exact Sim.same i fun Q E hQ => getItem_listAny g hl (by rw [hlen]; exact hj) e (hQ _ s.toks hr)
   | _ => exact trivial
  | dict dv l =>
   refine Sim.ofOpt fun v hv => ?_
   obtain ⟨kk, ek, hv⟩ := Option.bind_eq_some_iff.mp hv
   obtain ⟨_, hs, kvs, hd, hl, r⟩ := i.dict ho er
   obtain ⟨val, e, hr⟩ := r.at.2 v hv
   exact Sim.same i fun Q E hQ => wpAny_getItem_of (keyOf_is rb ek).1 hd.mapOf e (hQ _ _ hr)
  | inst _ _ => exact trivial
  | exc _ _ => exact trivial
 | _ => exact trivial
theorem RelAll.cut {h : Heap} {vs : List Value} {l : List V} (r : RelAll ρ h vs l) (lo hi : Option Int) : RelAll ρ h (Mine.Internal.cut vs lo hi) (Mine.Internal.cut l lo hi) := by
 have hd : ∀ (n : Nat) {vs : List Value} {l : List V}, RelAll ρ h vs l → RelAll ρ h (vs.drop n) (l.drop n) := by
  intro n
  induction n with
  | zero => intro vs l r; exact r
  | succ n ih => intro vs l r; cases r with
   | nil => exact .nil
   | cons _ r => exact ih r
 have ht : ∀ (n : Nat) {vs : List Value} {l : List V}, RelAll ρ h vs l → RelAll ρ h (vs.take n) (l.take n) := by
  intro n
  induction n with
  | zero => intro vs l r; exact .nil
  | succ n ih => intro vs l r; cases r with
   | nil => exact .nil
   | cons a r => exact .cons a (ih r)
 unfold Mine.Internal.cut
 rw [r.length]
 exact ht _ (hd _ r)
theorem slicePick_cut (vs : List Value) (lo hi : Option Int) : slicePick vs.toArray lo hi none = (Mine.Internal.cut vs lo hi).toArray := by
 rw [slicePick_plain]; simp [Mine.Internal.cut]
theorem Sim.bound {β γ : Type} {t : Sem β} {v : Value} {x : V} {k : Option Int → M γ} {R : γ → Map → Heap → β → Prop} (r : Rel ρ s.heap v x) (h : ∀ o, IsPart v o → Sim h₀ A W t (k o σ) R ρ s) :
  Sim h₀ A W t ((Mine.Internal.bound x >>= k) σ) R ρ s := by
 cases r with
 | none => exact h _ .none
 | int _ _ => exact h _ (.int _ _)
 | _ => exact trivial
theorem sub_full {a b n : Nat} (h : b - a = n) (hle : b ≤ n) : a = 0 ∨ n = 0 := by
 rcases Nat.eq_zero_or_pos n with e | e
 ·exact .inr e
 ·subst h
  exact .inl (Nat.eq_zero_of_not_pos fun ha => absurd (Nat.sub_lt (Nat.lt_of_lt_of_le e (Nat.sub_le _ _)) ha) (Nat.not_lt.mpr hle))
theorem elim_le (hi : Option Int) (n : Nat) : hi.elim n (clipAt n) ≤ n := by
 cases hi with
 | none => exact Nat.le_refl _
 | some i =>
  have := clipAt_cast n i
  simp only [Option.elim]
  (first | lia | omega)
theorem strSlice_cut (x : Str) (lo hi : Option Int) : (Builtin.Str.strSliceIndices lo hi 1 x.length).filterMap (x.cps[·]?) = Mine.Internal.cut x.cps.toList lo hi ∧
  ((Builtin.Str.strSliceIndices lo hi 1 x.length).length = x.length → Mine.Internal.cut x.cps.toList lo hi = x.cps.toList) := by
 have e : Builtin.Str.strSliceIndices lo hi 1 x.length = sliceRange ((lo.elim 0 (clipAt x.length) : Nat) : Int) ((hi.elim x.length (clipAt x.length) : Nat) : Int) 1 := by
  unfold Builtin.Str.strSliceIndices
  have h1 : (1 : Int) > 0 := by (first | lia | omega)
  simp only [h1, if_true]
  congr 1
  ·cases lo with
   | none => rfl
   | some i => simp only [Option.elim]; rw [clipAt_cast]
  ·cases hi with
   | none => rfl
   | some i => simp only [Option.elim]; rw [clipAt_cast]
 have hl : x.cps.toList.length = x.length := by simp [Str.length]
 have hcut : Mine.Internal.cut x.cps.toList lo hi = (x.cps.toList.drop (lo.elim 0 (clipAt x.length))).take (hi.elim x.length (clipAt x.length) - lo.elim 0 (clipAt x.length)) := by
  unfold Mine.Internal.cut; rw [hl]
 rw [e, sliceRange_one]
 constructor
 ·rw [pick_run, hcut]
 ·intro h
  rw [List.length_map, List.length_range] at h
  have h0 := sub_full h (elim_le hi x.length)
  rw [hcut]
  rcases h0 with h0 | h0
  ·rw [h0] at h ⊢
   rw [List.drop_zero, h, ← hl, List.take_length]
  ·have : x.cps.toList = [] := List.eq_nil_of_length_eq_zero (hl.trans h0)
   rw [this]; simp
theorem strOk_sub {x y : Str} (hx : SOk x) (h : ∀ c ∈ y.cps.toList, c ∈ x.cps.toList) (hl : y.length ≤ x.length) : SOk y := by
 refine ⟨Nat.le_trans hl hx.1, ?_⟩
 have h4 := hx.2
 unfold PyData.strOk at h4 ⊢
 rw [Array.all_eq_true_iff_forall_mem] at h4 ⊢
 intro c hc
 exact h4 c (Array.mem_toList_iff.mp (h c (Array.mem_toList_iff.mpr hc)))
theorem SOk.cut {x : Str} (hx : SOk x) (lo hi : Option Int) : SOk (cutStr x lo hi) := by
 refine strOk_sub hx ?_ ?_
 ·intro c hc
  simp only [cutStr, Mine.Internal.cut] at hc
  exact List.mem_of_mem_drop (List.mem_of_mem_take hc)
 ·have := cut_length_le x.cps.toList lo hi
  simpa [cutStr, Str.length] using this
set_option tactic.hygienic true in
theorem Sim.slice {a vl vu : Value} {sl : Addr} {x : V} {lo hi : Option Int} (i : Inv h₀ σ ρ s.heap) (ra : Rel ρ s.heap a x) (hs : s.heap.IsSliceOf sl vl vu .none) (pl : IsPart vl lo) (pu : IsPart vu hi) :
  Sim h₀ A W (getItem a (.ref sl)) (sliceV lo hi x σ) RV ρ s := by
 cases ra with
 | str y t hy =>
  obtain ⟨p, hp⟩ : ∃ p : Option (Int × Tok), vl = partValue p ∧ p.map (·.1) = lo := by
   cases pl with
   | none => exact ⟨none, rfl, rfl⟩
   | int k u => exact ⟨some (k, u), rfl, rfl⟩
  obtain ⟨q, hq⟩ : ∃ p : Option (Int × Tok), vu = partValue p ∧ p.map (·.1) = hi := by
   cases pu with
   | none => exact ⟨none, rfl, rfl⟩
   | int k u => exact ⟨some (k, u), rfl, rfl⟩
  obtain ⟨os, hos, hcs, hds⟩ := hs
  refine Sim.same i fun Q E hQ => wpAny_getItem_str_slice (l := p) (u := q) (st := none) ⟨os, hos, hcs, by rw [hds, hp.1, hq.1]; rfl⟩ rfl ?_
  have e1 : slicePicked y p q none = Builtin.Str.strSliceIndices lo hi 1 y.length := by unfold slicePicked; rw [hp.2, hq.2]; rfl
  unfold sliceMade
  rw [e1]
  split
  ·rename_i hc
   simp only [Bool.and_eq_true, beq_iff_eq] at hc
   have := (strSlice_cut _ lo hi).2 hc.2
   refine hQ _ s.toks ?_
   have e2 : ∀ x : Str, Mine.Internal.cut x.cps.toList lo hi = x.cps.toList → cutStr x lo hi = x := fun x e => by unfold cutStr; rw [e]
   show Rel _ _ _ (V.str _)
   rw [e2 _ this]
   exact .str _ _ hy
  ·rw [(strSlice_cut _ lo hi).1]
   exact ⟨(hy.cut lo hi).1, hQ _ _ (.str _ _ (hy.cut lo hi))⟩
 | ref er =>
  refine Sim.getList fun l hσ => ?_
  obtain ⟨vs, m, g, hl, r⟩ := i.list hσ er
  refine Sim.newListAt i fun Q E hQ => wpAny_getItem_list_slice (isList_of g) hs pl pu .none (by simp) ?_ (by simpa using hl)
  rw [slicePick_cut]
  have hk : ∀ b o, s.heap.get? b = some o → (s.heap.push (listO (Mine.Internal.cut vs lo hi) 0)).get? b = some o := fun b o e => Heap.get?_push_of_some _ e
  exact hQ _ (Mine.Internal.cut vs lo hi) 0 _ s.toks hk fresh_none (Heap.get?_push_size _ rfl) (Nat.le_trans (cut_length_le vs lo hi) hl) ((r.cut lo hi).sub (Sub.keeps hk))
 | _ => exact trivial
end
end Mine.Internal

set_option backward.match.sparseCases false
namespace Mine.Internal
open PySem PyProof.Rows
section
variable {h₀ : Bse} {A : Around} {W : List Addr} {ρ : Map} {s : Shared} {σ : Store}
theorem setItem_listAt {l : Addr} {vs : List Value} {n : Nat} {k : Int} {t : Tok} {v : Value} {Q : Unit → Shared → Prop} {E : Value → Shared → Prop} (g : s.heap.get? l = some (listO vs n)) (h0 : 0 ≤ k) (hk : k < vs.length) (hfit : k < 2 ^ 63)
  (h : Q () { s with heap := s.heap.update l (Obj.mapSeq (·.setIfInBounds k.toNat v)) }) : wpAny (model h₀.prog h₀.w) A (PySem.setItem (.ref l) (.int k t) v) Q E s := by
 have hT : s.heap.IsList l vs.toArray := isList_of g
 unfold PySem.setItem
 refine wpAny_holding ?_
 refine wpAny_bind (wpAny_sequenceKey hT.typeIs (by decide) ?_)
 refine wpAny_bind (wpAny_callSpecial?_slot (name := Str.ofString "__setitem__") hT.typeIs slot_list_setitem
  (wpAny_call_entry slot_list_setitem hT.typeIs entry_list_setitem ?_ (args_list_setitem _ _ _)))
 show wpAny _ _ (Builtin.List.listSubscript? (.int k t) >>= _) _ _ s
 refine wpAny_bind (wpAny_listSubscript_int (fitsIndex_of h0 hfit) ?_)
 clear hfit
 obtain ⟨j, rfl⟩ := Int.eq_ofNat_of_zero_le h0
 have hj : j < vs.length := by (first | lia | omega)
 have hx : vs.toArray[j]? = some vs[j] := by simp [hj]
 show wpAny _ _ ((seqItemAt l j >>= fun r => pure (r.map (j, ·))) >>= _) _ _ s
 refine wpAny_bind (wpAny_bind (wpAny_seqItemAt g rfl (wpAny_pure ?_)))
 rw [hx]
 show wpAny _ _ (setSeqItemAt l j v >>= _) _ _ s
 refine wpAny_bind (wpAny_setSeqItemAt g rfl ?_)
 exact wpAny_pure ⟨.none, rfl, wpAny_pure h⟩
theorem update_list {l : Addr} {vs ws : List Value} {n : Nat} {f : Array Value → Array Value} (g : s.heap.get? l = some (listO vs n)) (hf : f vs.toArray = ws.toArray) :
  ∃ m, (s.heap.update l (Obj.mapSeq f)).get? l = some (listO ws m) := by
 have e : Obj.mapSeq f (listO vs n) = listO ws (if ws.length = vs.length then n else n + 1) := by
  unfold Obj.mapSeq listO
  simp only [hf]
  congr 2
  simp
 have := Heap.get?_update_self (Obj.mapSeq f) g (by rw [e]; rfl)
 rw [e] at this
 exact ⟨_, this⟩
theorem RelAll.set {h : Heap} {vs : List Value} {l : List V} {k : Nat} {v : Value} {x : V} (r : RelAll ρ h vs l) (q : Rel ρ h v x) : RelAll ρ h (vs.set k v) (l.set k x) := by
 induction r using RelAll.ind generalizing k with
 | h0 => exact .nil
 | h1 a r ih =>
  cases k with
  | zero => exact .cons q r
  | succ k => exact .cons a ih
theorem list_not_d {vs : List Value} {k : Nat} : ¬IsD (listO vs k) := fun ⟨_, _, e⟩ => by cases e
theorem Sim.turnList {t : Sem Unit} {n : Nat} {l m : List V} {a : Addr} {d : Nat} {vs : List Value} {k : Nat} (i : Inv h₀ σ ρ s.heap) (hσ : σ[n]? = some (.list l)) (hρ : ρ[n]? = some (a, d)) (g : s.heap.get? a = some (listO vs k))
  (hm : ∃ ws, RelAll ρ s.heap ws m ∧ ws.length ≤ sizeLine ∧ ∀ (Q : Unit → Shared → Prop) (E : Value → Shared → Prop), (∀ h', (∃ j, h'.get? a = some (listO ws j)) → (∀ b o, b ≠ a → s.heap.get? b = some o → h'.get? b = some o) → Q () { s with heap := h' }) → wpAny (model h₀.prog h₀.w) A t Q E s) :
  Sim h₀ A W t (setO n (.list m) σ) (fun ya yb yc yd => True) ρ s := by
 obtain ⟨ws, r, hl, hwp⟩ := hm
 by_cases hpos : 0 < n
 case neg => rw [setO_bad hpos]; exact trivial
 rw [setO_ok hpos (lt_of_get hσ)]
 refine hwp _ _ fun h' hg hk => ?_
 obtain ⟨j, hg⟩ := hg
 have hN := i.set (W := W) (n := n) (a := a) (o := .list m) (h' := h') hpos hρ (fun ob e => by rw [g] at e; cases e; exact list_not_d) hk (fun ob e => ⟨_, hg, by rw [g] at e; cases e; exact kin_list⟩) fun x => ⟨ws, j, hg, hl, r.ext x⟩
 exact ⟨ρ, h', s.toks, rfl, hN.1, hN.2, trivial⟩
theorem Ents.stored {h : Heap} {k : Key} {v : Value} {x : V} (hs : ∀ s, k = .inr s → SOk s) (rv : Rel ρ h v x) {kvs : List (Key × Value)} {l : Tab} (r : Ents ρ h kvs l) : Ents ρ h (PySem.stored kvs k v) (dSet l k x) := by
 have hany : ∀ {kvs : List (Key × Value)} {l : Tab}, Ents ρ h kvs l → (kvs.any fun kv => decide (kv.1 = k)) = (l.any fun p => decide (p.1 = k)) := by
  intro kvs l r
  induction r with
  | nil => rfl
  | cons _ _ _ ih => rw [List.any_cons, List.any_cons, ih]
 have hmap : ∀ {kvs : List (Key × Value)} {l : Tab}, Ents ρ h kvs l → Ents ρ h (kvs.map fun kv => if kv.1 = k then (kv.1, v) else kv) (l.map fun p => if p.1 = k then (p.1, x) else p) := by
  intro kvs l r
  induction r with
  | nil => exact .nil
  | @cons k' v' x' kvs l hs' r' _ ih =>
   rw [List.map_cons, List.map_cons]
   by_cases hk : k' = k
   ·rw [if_pos hk, if_pos hk]; exact .cons hs' rv ih
   ·rw [if_neg hk, if_neg hk]; exact .cons hs' r' ih
 have happ : ∀ {kvs : List (Key × Value)} {l : Tab}, Ents ρ h kvs l → Ents ρ h (kvs ++ [(k, v)]) (l ++ [(k, x)]) := by
  intro kvs l r
  induction r with
  | nil => exact .cons hs rv .nil
  | cons hs' r' _ ih => exact .cons hs' r' ih
 unfold PySem.stored dSet
 rw [hany r]
 by_cases hc : (l.any fun p => decide (p.1 = k)) = true
 ·rw [if_pos hc, if_pos hc]; exact hmap r
 ·rw [if_neg hc, if_neg hc]; exact happ r
theorem dSet_length (l : Tab) (k : Key) (x : V) : (dSet l k x).length ≤ l.length + 1 := by
 unfold dSet
 split
 ·rw [List.length_map]; exact Nat.le_succ _
 ·rw [List.length_append]; exact Nat.le_refl _
theorem Inv.putD {n v : Nat} {l m : Tab} {a : Addr} {d : Nat} {h' : Heap} {kvs' : List (Key × Value)} (i : Inv h₀ σ ρ s.heap) (hpos : 0 < n) (hσ : σ[n]? = some (.dict v l)) (hρ : ρ[n]? = some (a, d)) (hg : h'.DictOf (keyKind h₀.prog h₀.w) a kvs') (hk : ∀ b o, b ≠ a → s.heap.get? b = some o → h'.get? b = some o) (r : Ents ρ s.heap kvs' m) (hl : kvs'.length ≤ sizeLine) :
  Inv h₀ (σ.set n (.dict (v + 1) m)) (ρ.set n (a, v + 1)) h' ∧ Ext W ρ s.heap (ρ.set n (a, v + 1)) h' ∧ True := by
 obtain ⟨e1, hs, kvs, hdk, _, _⟩ := i.dict hσ hρ
 have e1 : d = v := e1
 subst e1
 have := i.put (W := W) (v' := d + 1) (o := .dict (d + 1) m) hpos hρ (Nat.le_succ _) (fun e => absurd e (Nat.succ_ne_self _)) hk (kin_dictOf hdk hg) fun x => ⟨rfl, hs, kvs', hg, hl, r.sub x.sub⟩
 exact ⟨this.1, this.2, trivial⟩
theorem Sim.turnDict {t : Sem Unit} {n v : Nat} {l m : Tab} {a : Addr} {d : Nat} (i : Inv h₀ σ ρ s.heap) (hσ : σ[n]? = some (.dict v l)) (hρ : ρ[n]? = some (a, d))
  (hm : ∃ kvs', Ents ρ s.heap kvs' m ∧ kvs'.length ≤ sizeLine ∧ ∀ (Q : Unit → Shared → Prop) (E : Value → Shared → Prop), (∀ h' tk, h'.DictOf (keyKind h₀.prog h₀.w) a kvs' → (∀ b o, b ≠ a → s.heap.get? b = some o → h'.get? b = some o) → Q () (At s h' tk)) → wpAny (model h₀.prog h₀.w) A t Q E s) :
  Sim h₀ A W t (putD n m σ) (fun ya yb yc yd => True) ρ s := by
 obtain ⟨kvs', r, hl, hwp⟩ := hm
 by_cases hpos : 0 < n
 case neg => rw [putD_bad hpos]; exact trivial
 rw [putD_ok hpos hσ]
 refine hwp _ _ fun h' tk hg hk => ?_
 obtain ⟨i', x', _⟩ := i.putD (W := W) hpos hσ hρ hg hk r hl
 exact ⟨_, h', tk, rfl, i', x', trivial⟩
theorem Sim.setItem {a b c : Value} {x y z : V} (i : Inv h₀ σ ρ s.heap) (ra : Rel ρ s.heap a x) (rb : Rel ρ s.heap b y) (rc : Rel ρ s.heap c z) :
  Sim h₀ A W (PySem.setItem a b c) (setItem x y z σ) (fun ya yb yc yd => True) ρ s := by
 cases ra with
 | ref er =>
  refine Sim.getO fun o hσ => ?_
  cases o with
  | list l =>
   cases rb with
   | int k t =>
    refine Sim.ite fun hc => ?_
    obtain ⟨vs, m, g, hl, r⟩ := i.list hσ er
    have hlen := r.length
    obtain ⟨h0, h1⟩ := hc
    have hs := sizeLine_lt
    refine Sim.turnList i hσ er g ⟨vs.set (Int.toNat _) c, r.set rc, by simpa using hl, fun Q E hQ => setItem_listAt g h0 (by (first | lia | omega)) (by (first | lia | omega)) (hQ _ (update_list g (by simp)) fun b o hb e => ?_)⟩
    rw [Heap.get?_update_other _ _ (Ne.symm hb)]; exact e
   | _ => exact trivial
  | dict dv l =>
   show Sim h₀ A W _ (setD _ l y z σ) _ ρ s
   unfold setD
   cases ek : keyOf y with
   | none => exact trivial
   | some kk =>
    refine Sim.ite fun hc => ?_
    obtain ⟨_, hs, kvs, hd, hl, r⟩ := i.dict hσ er
    obtain ⟨h1, h2⟩ := keyOf_is rb ek
    have hlen := r.length
    exact Sim.turnDict i hσ er ⟨_, r.stored h2 rc, by rw [(r.stored h2 rc).length]; exact Nat.le_trans (dSet_length ..) hc, fun Q E hQ => wpAny_setItem_pairs h1 hd (fun h' hd' hk => hQ h' _ hd' fun b o hb e => (hk.2 b hb).trans e) hl⟩
  | inst _ _ => exact trivial
  | exc _ _ => exact trivial
 | _ => exact trivial
theorem Sim.itemsOf {β γ : Type} {t : Sem β} {x : V} {k : List V → M γ} {R : γ → Map → Heap → β → Prop} (h1 : ∀ l, x = .tup l → Sim h₀ A W t (k l σ) R ρ s) (h2 : ∀ n l, x = .ref n → σ[n]? = some (.list l) → Sim h₀ A W t (k l σ) R ρ s) :
  Sim h₀ A W t ((Mine.Internal.itemsOf x >>= k) σ) R ρ s := by
 cases x with
 | tup l => exact h1 l rfl
 | ref n => exact Sim.getList fun l hl => h2 n l rfl hl
 | none => exact trivial
 | bool _ => exact trivial
 | int _ => exact trivial
 | str _ => exact trivial
theorem Sim.bLen {a : Value} {x : V} (i : Inv h₀ σ ρ s.heap) (ra : Rel ρ s.heap a x) : Sim h₀ A W (call (.builtin "len") [a]) (bLen x σ) RV ρ s := by
 have hs := sizeLine_lt
 cases ra with
 | tup g hl r =>
  have hlen := r.length
  refine Sim.same i fun Q E hQ => P.len_tuple g (by simp; (first | lia | omega)) ?_
  have := hQ _ (s.toks + 1 + 1) (.int _ (s.toks + 1))
  simpa [hlen] using this
 | str _ t hx =>
  exact Sim.same i fun Q E hQ => P.len_str (by have := hx.1; (first | lia | omega)) (hQ _ _ (.int _ _))
 | ref er =>
  refine Sim.getO fun o hσ => ?_
  cases o with
  | list l =>
   obtain ⟨vs, m, g, hl, r⟩ := i.list hσ er
   have hlen := r.length
   refine Sim.same i fun Q E hQ => Calls.call_len_list (isList_of g) (by simp; (first | lia | omega)) ?_
   have := hQ _ (s.toks + 1 + 1) (.int _ (s.toks + 1))
   simpa [hlen] using this
  | dict dv l =>
   obtain ⟨_, hds, kvs, hd, hl, r⟩ := i.dict hσ er
   have hlen := r.length
   refine Sim.same i fun Q E hQ => call_len_dict hds hd (by (first | lia | omega)) ?_
   have := hQ _ (s.toks + 1 + 1) (.int _ (s.toks + 1))
   simpa [hlen] using this
  | inst _ _ => exact trivial
  | exc _ _ => exact trivial
 | _ => exact trivial
theorem keys_rel {h : Heap} {kvs : List (Key × Value)} {l : Tab} (r : Ents ρ h kvs l) : ∀ {vs : List Value}, vs.length = kvs.length → (∀ (j : Nat) (v : Value), vs[j]? = some v → ∃ k x, kvs[j]? = some (k, x) ∧ keyIs k v = true) → RelAll ρ h vs (l.map fun p => keyV p.1) := by
 induction r with
 | nil =>
  intro vs hl _
  rw [List.length_eq_zero_iff.mp hl]; exact .nil
 | cons hs r rs ih =>
  intro vs hl H
  cases vs with
  | nil => cases hl
  | cons v vs =>
   obtain ⟨k', x', e, hk⟩ := H 0 v rfl
   cases e
   refine .cons ?_ (ih (Nat.succ.inj hl) fun j v hv => H (j + 1) v hv)
   rcases keyIs_shape hk with ⟨i, t, rfl, rfl⟩ | ⟨y, t, rfl, rfl⟩
   ·exact .int i t
   ·exact .str y t (hs y rfl)
theorem hint_dict {r : Addr} {Q : Bool → Shared → Prop} {E : Value → Shared → Prop} (hT : s.TypeIs (.ref r) "dict") (h : Q false s) : wpAny (model h₀.prog h₀.w) A (Builtin.List.listLengthHint (.ref r)) Q E s := by
 unfold Builtin.List.listLengthHint
 refine wpAny_bind (wpAny_specialOf hT PySem.F.slot_dict_len.lookup ?_)
 generalize hid : ("dict.__len__" : String) = id0
 wp_delta
 rw [show splitId id0 = some ("dict", "__len__") from by subst hid; decide +kernel]
 subst hid
 refine wpAny_bind (wpAny_isInstance (T := "dict") (b := true) hT PySem.F.kt_sub_dict ?_)
 refine wpAny_ite_split (fun hab => absurd hab (by decide)) fun ya => ?_
 refine wpAny_ite_split (fun ya => ?_) fun hab => absurd (by decide +kernel) hab
 exact wpAny_bind (wpAny_typeOf hT (wpAny_pure h))
theorem call_list_dict {d : Addr} {kvs : List (Key × Value)} {ep : Nat} {Q : Value → Shared → Prop} {E : Value → Shared → Prop} (hh : A.handled = none) (hds : (d == sysModules) = false) (hd : s.heap.DictAt (keyKind h₀.prog h₀.w) d kvs ep) (hn : kvs.length ≤ sizeLine)
  (hQ : ∀ h' tk acc c, (∀ b o, s.heap.get? b = some o → h'.get? b = some o) → h'.get? s.heap.objs.size = some (listO acc c) → acc.length = kvs.length → (∀ (j : Nat) (v : Value), acc[j]? = some v → ∃ k x, kvs[j]? = some (k, x) ∧ keyIs k v = true) → Q (.ref s.heap.objs.size) (At s h' tk)) :
  wpAny (model h₀.prog h₀.w) A (call (.type "list") [.ref d]) Q E s := by
 refine callType_codes (Q₁ := fun obj s₁ => obj = .ref s.heap.objs.size ∧ s₁ = { s with heap := s.heap.push { cls := .type "list", data := .seq #[] } }) PySem.F.called_list (PySem.F.typeCall_list_1 _) PySem.F.entry_list_init (code_list_new _ ⟨rfl, rfl⟩) ?_
 rintro obj s₁ ⟨rfl, rfl⟩
 have hlt : d < s.heap.objs.size := hd.lt_size
 have hSd : s.heap.objs.size ≠ d := Nat.ne_of_gt hlt
 have hS : (s.heap.push { cls := .type "list", data := .seq #[] }).get? s.heap.objs.size = some { cls := .type "list", data := .seq #[] } := Heap.get?_push_size _ rfl
 refine ⟨⟨_, hS, rfl⟩, PySem.F.args_list_init_2 _ _, ?_⟩
 have oth : ∀ (f : Obj → Obj) (h : Heap) b o, b ≠ s.heap.objs.size → h.get? b = some o → (h.update s.heap.objs.size f).get? b = some o := fun f h b o hb e => (Heap.get?_update_other _ _ (Ne.symm hb)).trans e
 show wpAny _ _ (do let old ← Builtin.List.listItems (.ref s.heap.objs.size); Builtin.List.listUpdate (.ref s.heap.objs.size) (fun ya => #[]); letGo old.toList.reverse; Builtin.List.listExtendWith (.ref s.heap.objs.size) (.ref d) .none) _ _ _
 refine wpAny_bind ?_
 unfold Builtin.List.listItems
 refine wpAny_bind (wpAny_seqItems hS rfl (wpAny_pure ?_))
 show wpAny _ _ (updateSeq s.heap.objs.size (fun ya => #[]) >>= fun ya => letGo (#[] : Array Value).toList.reverse >>= fun ya => Builtin.List.listExtendWith (.ref s.heap.objs.size) (.ref d) .none) _ _ _
 refine wpAny_bind (wpAny_updateSeq hS rfl (wpAny_bind (wpAny_letGo ?_)))
 have hS₁ := Heap.get?_update_self (Obj.mapSeq (fun ya => (#[] : Array Value))) hS rfl
 have hd₁ : ((s.heap.push { cls := .type "list", data := .seq #[] }).update s.heap.objs.size (Obj.mapSeq (fun ya => (#[] : Array Value)))).DictAt (keyKind h₀.prog h₀.w) d kvs ep := (hd.push _).at' fun o e => oth _ _ _ _ hSd.symm e
 have kept : ∀ b o, s.heap.get? b = some o → ((s.heap.push { cls := .type "list", data := .seq #[] }).update s.heap.objs.size (Obj.mapSeq (fun ya => (#[] : Array Value)))).get? b = some o := fun b o e => oth _ _ _ _ (Nat.ne_of_lt (Heap.lt_size e)) (Heap.get?_push_of_some _ e)
 generalize (s.heap.push { cls := .type "list", data := .seq #[] }).update s.heap.objs.size (Obj.mapSeq (fun ya => (#[] : Array Value))) = h₁ at hS₁ hd₁ kept ⊢
 unfold Builtin.List.listExtendWith
 refine wpAny_bind (wpAny_typeOf (T := "dict") hd₁.dictOf.typeIs ?_)
 have hsame : Builtin.List.listSameRef (.ref s.heap.objs.size) (.ref d) = false := by simp [Builtin.List.listSameRef, hSd]
 have n1 : (Value.type "dict" == Value.type "list") = false := by decide
 have n2 : (Value.type "dict" == Value.type "tuple") = false := by decide
 simp only [hsame, n1, n2, Bool.or_false, Bool.false_eq_true, if_false]
 refine wpAny_bind (wpAny_pyIter_dict hds hd₁ ?_)
 have hI : d ≠ h₁.objs.size := Nat.ne_of_lt hd₁.lt_size
 have hSI : s.heap.objs.size ≠ h₁.objs.size := Nat.ne_of_lt (Heap.lt_size hS₁)
 refine wpAny_bind (wpAny_holding (hint_dict (hd₁.push _).dictOf.typeIs ?_))
 rw [if_pos (by decide +kernel)]
 refine wpAny_bind (wpAny_rule (wpAny_bind ?_))
 have hS₂ := Heap.get?_push_of_some ({ cls := .type "dict_keyiterator", data := .fields #[.ref d, .int 0 0, .int kvs.length 0, .int ep 0] } : Obj) hS₁
 show wpAny _ _ (updateSeq s.heap.objs.size (·.push .none) >>= fun ya => updateSeq s.heap.objs.size (·.pop)) _ _ _
 refine wpAny_bind (wpAny_updateSeq hS₂ rfl ?_)
 have hS₃ := Heap.get?_update_self (Obj.mapSeq (·.push Value.none)) hS₂ rfl
 refine wpAny_updateSeq (hz := by seq_fits) hS₃ rfl ?_
 have hS₄ := Heap.get?_update_self (Obj.mapSeq (·.pop)) hS₃ rfl
 have far : ∀ b o, b ≠ s.heap.objs.size → (h₁.push ({ cls := .type "dict_keyiterator", data := .fields #[.ref d, .int 0 0, .int kvs.length 0, .int ep 0] } : Obj)).get? b = some o → (((h₁.push ({ cls := .type "dict_keyiterator", data := .fields #[.ref d, .int 0 0, .int kvs.length 0, .int ep 0] } : Obj)).update s.heap.objs.size (Obj.mapSeq (·.push Value.none))).update s.heap.objs.size (Obj.mapSeq (·.pop))).get? b = some o := fun b o hb e => oth _ _ _ _ hb (oth _ _ _ _ hb e)
 have hI2 := far _ _ hSI.symm (Heap.get?_push_size _ rfl)
 have hd2 : (((h₁.push ({ cls := .type "dict_keyiterator", data := .fields #[.ref d, .int 0 0, .int kvs.length 0, .int ep 0] } : Obj)).update s.heap.objs.size (Obj.mapSeq (·.push Value.none))).update s.heap.objs.size (Obj.mapSeq (·.pop))).DictAt (keyKind h₀.prog h₀.w) d kvs ep := (hd₁.push _).at' fun o e => far _ _ hSd.symm e
 have kept2 : ∀ b o, s.heap.get? b = some o → (((h₁.push ({ cls := .type "dict_keyiterator", data := .fields #[.ref d, .int 0 0, .int kvs.length 0, .int ep 0] } : Obj)).update s.heap.objs.size (Obj.mapSeq (·.push Value.none))).update s.heap.objs.size (Obj.mapSeq (·.pop))).get? b = some o := fun b o e => far _ _ (Nat.ne_of_lt (Heap.lt_size e)) (Heap.get?_push_of_some _ (kept b o e))
 refine wpAny_pure ⟨plainId_quiet PySem.F.plain_extend_loop _, ?_⟩
 refine codeAny_extend_loopS (Walks.dictKeys (A := A.in1.in1) (knd := keyKind h₀.prog h₀.w) hh h₁.objs.size d hI kvs ep).toS hn s.heap.objs.size (by simp [hSI, hSd]) .none kvs.length 0 _ #[] _ rfl (Nat.zero_le _) ⟨⟨_, hI2, rfl, rfl⟩, hd2⟩ hS₄ (ItemsOf.nil _) fun s' acc c hm hS' hacc => ?_
 rw [Moved.eq_with hm]
 refine ⟨rfl, hQ s'.heap s'.toks acc.toList c (fun b o e => hm.heap b o (fun hmem => ?_) (kept2 b o e)) (by simpa [listO] using hS') (by rw [Array.length_toList, hacc.1]) fun j v hv => hacc.2 j v (by simpa using hv)⟩
 rcases List.mem_cons.mp hmem with e' | hmem
 ·exact absurd (Heap.lt_size e) (by rw [e']; exact Nat.lt_irrefl _)
 ·have := Heap.lt_size (kept b o e)
  rw [List.mem_singleton.mp hmem] at this
  exact absurd this (Nat.lt_irrefl _)
theorem Sim.bList {a : Value} {x : V} (hh : A.handled = none) (i : Inv h₀ σ ρ s.heap) (ra : Rel ρ s.heap a x) : Sim h₀ A W (call (.type "list") [a]) (bList x σ) RV ρ s := by
 have key : ∀ (ad : Addr) (T : String) (o : Obj) (vs : List Value) (n : Nat) (l : List V), a = .ref ad → (T = "list" ∨ T = "tuple") → s.heap.get? ad = some o → o.cls = .type T → o.data = .seq vs.toArray n → vs.length ≤ sizeLine →
   RelAll ρ s.heap vs l → Sim h₀ A W (call (.type "list") [a]) (newO (.list l) σ) RV ρ s := by
  intro ad T o vs n l e hT ho hc hd hl r
  subst e
  refine Sim.newListAt i fun Q E hQ => call_list_seq ad hT ho hc hd (fun h' c' hk hg => ?_) (by simpa using hl)
  exact hQ _ vs c' h' s.toks hk fresh_none hg hl (r.sub (Sub.keeps hk))
 show Sim h₀ A W _ ((keysOf x >>= fun l => newO (.list l)) σ) RV ρ s
 cases ra with
 | tup g hl r => exact key _ "tuple" _ _ _ _ rfl (.inr rfl) g rfl rfl hl r
 | ref er =>
  show Sim h₀ A W _ (((Mine.Internal.getO _ >>= fun o => match o with | .list l => (Pure.pure l : M (List V)) | .dict _ l => Pure.pure (l.map fun p => keyV p.1) | _ => M.bad) >>= fun l => newO (.list l)) σ) RV ρ s
  rw [M.assoc]
  refine Sim.getO fun o hσ => ?_
  cases o with
  | list l =>
   obtain ⟨vs, m, g, hl, r⟩ := i.list hσ er
   exact key _ "list" _ _ _ l rfl (.inl rfl) g rfl rfl hl r
  | dict dv l =>
   obtain ⟨_, hds, kvs, hd, hl, r⟩ := i.dict hσ er
   obtain ⟨ep, hd⟩ := hd.dictAt
   refine Sim.newListAt i fun Q E hQ => call_list_dict hh hds hd hl fun h' tk acc c hk hg h1 h2 => ?_
   exact hQ _ acc c h' tk hk fresh_none hg (by rw [h1]; exact hl) (keys_rel (r.sub (Sub.keeps hk)) h1 h2)
  | inst _ _ => exact trivial
  | exc _ _ => exact trivial
 | none => exact trivial
 | bool _ => exact trivial
 | int _ _ => exact trivial
 | str _ _ _ => exact trivial
theorem Sim.bTuple {a : Value} {x : V} (i : Inv h₀ σ ρ s.heap) (ra : Rel ρ s.heap a x) : Sim h₀ A W (call (.type "tuple") [a]) (bTuple x σ) RV ρ s := by
 refine Sim.itemsOf (fun l e => ?_) fun n l e hσ => ?_
 ·subst e
  cases ra with
  | tup g hl r => exact Sim.same i fun Q E hQ => call_tuple_same (isTuple_of g) (hQ _ s.toks (.tup g hl r))
 ·subst e
  cases ra with
  | ref er =>
   obtain ⟨vs, m, g, hl, r⟩ := i.list hσ er
   refine Sim.grown i fun Q E hQ => call_tuple_list (isList_of g) (fun h' hk => ?_) (by simpa using hl)
   have hk' : ∀ b o, s.heap.get? b = some o → (h'.push (tupO vs 0)).get? b = some o := fun b o e => Heap.get?_push_of_some _ (hk b o e)
   exact hQ _ (h'.push (tupO vs 0)) s.toks hk' (.tup (n := 0) (Heap.get?_push_size _ rfl) hl (r.sub (Sub.keeps hk')))
noncomputable def kdName : Kd → String
 | .bool => "bool"
 | .int => "int"
 | .str => "str"
 | .tuple => "tuple"
 | .list => "list"
theorem Sim.isKd {a : Value} {x : V} {k : Kd} (i : Inv h₀ σ ρ s.heap) (ra : Rel ρ s.heap a x) : Sim h₀ A W (call (.builtin "isinstance") [a, .type (kdName k)]) (isKd k x σ) RV ρ s := by
 cases ra with
 | none =>
  refine Sim.same i fun Q E hQ => ?_
  cases k
  ·exact IsiPair.NoneType_bool (hQ _ _ (.bool _))
  ·exact IsiPair.NoneType_int (hQ _ _ (.bool _))
  ·exact IsiPair.NoneType_str (hQ _ _ (.bool _))
  ·exact IsiPair.NoneType_tuple (hQ _ _ (.bool _))
  ·exact IsiPair.NoneType_list (hQ _ _ (.bool _))
 | bool _ =>
  refine Sim.same i fun Q E hQ => ?_
  cases k
  ·exact IsiPair.bool_bool (hQ _ _ (.bool _))
  ·exact IsiPair.bool_int (hQ _ _ (.bool _))
  ·exact IsiPair.bool_str (hQ _ _ (.bool _))
  ·exact IsiPair.bool_tuple (hQ _ _ (.bool _))
  ·exact IsiPair.bool_list (hQ _ _ (.bool _))
 | int _ _ =>
  refine Sim.same i fun Q E hQ => ?_
  cases k
  ·exact IsiPair.int_bool (hQ _ _ (.bool _))
  ·exact IsiPair.int_int (hQ _ _ (.bool _))
  ·exact IsiPair.int_str (hQ _ _ (.bool _))
  ·exact IsiPair.int_tuple (hQ _ _ (.bool _))
  ·exact IsiPair.int_list (hQ _ _ (.bool _))
 | str _ _ _ =>
  refine Sim.same i fun Q E hQ => ?_
  cases k
  ·exact IsiPair.str_bool (hQ _ _ (.bool _))
  ·exact IsiPair.str_int (hQ _ _ (.bool _))
  ·exact IsiPair.str_str (hQ _ _ (.bool _))
  ·exact IsiPair.str_tuple (hQ _ _ (.bool _))
  ·exact IsiPair.str_list (hQ _ _ (.bool _))
 | tup g hl r =>
  refine Sim.same i fun Q E hQ => ?_
  cases k
  ·exact IsiPair.tuple_bool g rfl (hQ _ _ (.bool _))
  ·exact IsiPair.tuple_int g rfl (hQ _ _ (.bool _))
  ·exact IsiPair.tuple_str g rfl (hQ _ _ (.bool _))
  ·exact IsiPair.tuple_tuple g rfl (hQ _ _ (.bool _))
  ·exact IsiPair.tuple_list g rfl (hQ _ _ (.bool _))
 | ref er =>
  refine Sim.getList fun l hσ => ?_
  obtain ⟨vs, m, g, hl, r⟩ := i.list hσ er
  refine Sim.same i fun Q E hQ => ?_
  cases k
  ·exact IsiPair.list_bool g rfl (hQ _ _ (.bool _))
  ·exact IsiPair.list_int g rfl (hQ _ _ (.bool _))
  ·exact IsiPair.list_str g rfl (hQ _ _ (.bool _))
  ·exact IsiPair.list_tuple g rfl (hQ _ _ (.bool _))
  ·exact IsiPair.list_list g rfl (hQ _ _ (.bool _))
set_option tactic.hygienic true in
theorem Sim.mAppend {a b : Value} {x y : V} (i : Inv h₀ σ ρ s.heap) (ra : Rel ρ s.heap a x) (rb : Rel ρ s.heap b y) : Sim h₀ A W (call (.builtin "list.append") [a, b]) (mAppend x y σ) RV ρ s := by
 cases ra with
 | @ref a d n er =>
  refine Sim.getList fun l hσ => Sim.ite fun hc => ?_
  obtain ⟨vs, m, g, hl, r⟩ := i.list hσ er
  have hlen := r.length
  by_cases hpos : 0 < n
  case neg => rw [bind_bad (setO_bad hpos)]; exact trivial
  rw [bind_ok (setO_ok hpos (lt_of_get hσ))]
  refine wpAny_list_append_plain ⟨m, g⟩ (fun h' hg hk => ?_) (by simpa using hl)
  obtain ⟨m', hg⟩ := hg
  have hg : h'.get? a = some (listO (vs ++ [b]) m') := by simpa [listO] using hg
  have hN := i.set (W := W) (n := n) (a := a) (o := .list (l ++ [y])) (h' := h') hpos er (fun ob e => by rw [g] at e; cases e; exact list_not_d) (fun c o hb e => hk.extBut c o hb e) (fun ob e => ⟨_, hg, by rw [g] at e; cases e; exact kin_list⟩)
   fun z => ⟨vs ++ [b], m', hg, by simp; (first | lia | omega), (r.append (.cons rb .nil)).ext z⟩
  exact ⟨ρ, h', s.toks, rfl, hN.1, hN.2, .none⟩
 | _ => exact trivial
theorem strsAre_of {h : Heap} {vs : List Value} {l : List V} {ss : List Str} (r : RelAll ρ h vs l) : allStrs l = some ss → StrsAre vs ss ∧ ∀ x ∈ ss, SOk x := by
 induction r using RelAll.ind generalizing ss with
 | h0 => intro e; cases e; exact ⟨.nil, fun ya h => nomatch h⟩
 | @h1 v vs x l r rs ih =>
  intro e
  cases r with
  | str y t hy =>
   obtain ⟨ts, e1, rfl⟩ := Option.map_eq_some_iff.mp (show (allStrs l).map (y :: ·) = some ss from e)
   obtain ⟨h1, h2⟩ := ih e1
   exact ⟨.cons y t h1, fun z hz => (List.mem_cons.mp hz).elim (fun e => e ▸ hy) (h2 z)⟩
  | _ => cases e
theorem strOk_join {sep : Str} (hs : PyData.strOk sep = true) : ∀ {ss : List Str}, (∀ x ∈ ss, SOk x) → PyData.strOk (Str.join sep ss) = true
 | [], _ => by show PyData.strOk Str.empty = true; simp [PyData.strOk, Str.empty]
 | [x], h => (h x (by simp)).2
 | x :: y :: r, h => by
  show PyData.strOk (x ++ sep ++ Str.join sep (y :: r)) = true
  exact strOk_append (strOk_append (h x (by simp)).2 hs) (strOk_join hs fun z hz => h z (List.mem_cons_of_mem _ hz))
set_option tactic.hygienic true in
theorem Sim.mJoin {a b : Value} {x y : V} (i : Inv h₀ σ ρ s.heap) (ra : Rel ρ s.heap a x) (rb : Rel ρ s.heap b y) : Sim h₀ A W (call (.builtin "str.join") [a, b]) (mJoin x y σ) RV ρ s := by
 cases ra with
 | str sep t hx =>
  have key : ∀ ss, (ss.map (·.length)).sum + ss.length * sep.length ≤ 16777216 → (∀ x ∈ ss, SOk x) → SOk (Txt.join sep ss) := fun ss h1 h2 => by
   refine ⟨?_, ?_⟩
   ·show (Builtin.Str.glued sep ss).length ≤ sizeLine
    rw [size_glued]
    have h3 : (ss.length - 1) * sep.length ≤ ss.length * sep.length := Nat.mul_le_mul_right _ (Nat.sub_le _ _)
    show _ ≤ 16777216
    (first | lia | omega)
   ·show PyData.strOk (Builtin.Str.glued sep ss) = true
    rw [StrLaws.glued_eq_join]
    exact strOk_join hx.2 h2
  refine Sim.itemsOf (fun l e => ?_) fun n l e hσ => ?_
  ·subst e
   cases rb with
   | tup g hl r =>
    refine Sim.ofOptBind fun ss hss => Sim.ite fun hc => ?_
    obtain ⟨h1, h2⟩ := strsAre_of r hss
    exact Sim.same i fun Q E hQ => join_tuple (isTuple_of g) (by simpa using h1) hc fun t' k => hQ _ _ (.str _ _ (key ss hc h2))
  ·subst e
   cases rb with
   | ref er =>
    obtain ⟨vs, m, g, hl, r⟩ := i.list hσ er
    refine Sim.ofOptBind fun ss hss => Sim.ite fun hc => ?_
    obtain ⟨h1, h2⟩ := strsAre_of r hss
    exact Sim.same i fun Q E hQ => join_list (isList_of g) (by simpa using h1) hc fun t' k => hQ _ _ (.str _ _ (key ss hc h2))
 | _ => exact trivial
end
end Mine.Internal

set_option backward.match.sparseCases false
namespace Mine.Internal
open PySem PyProof.Rows PySem.Calls
section
variable {prog : Program} {w : World} {A : Around} {E : Value → Shared → Prop} {s : Shared}
theorem keys_miss_list {a : Addr} {o : Obj} {xs : Array Value} {k : Nat} {Q : Option Value → Shared → Prop}
  (hx : s.heap.get? a = some o) (hc : o.cls = .type "list") (hdat : o.data = .seq xs k) (hd : o.dict = none) (hA : A.handled = none)
  (h : ∀ h' tk, (∀ b o, s.heap.get? b = some o → h'.get? b = some o) → Q none (At s h' tk)) :
  wpAny (model prog w) A (getAttr? (.ref a) "keys") Q E s := by
 have hmiss : typeLookup (.type "list") "keys" = pure none := by rw [typeLookup_type, builtinLookup_eq_fast]; kernel_rfl
 obtain ⟨c, dct, dat, sl⟩ := o
 simp only at hc hdat hd
 subst hc hdat hd
 obtain ⟨hp, g, d, tk, os⟩ := s
 have hT : ∀ tk', (⟨hp, g, d, tk', os⟩ : Shared).TypeIs (.ref a) "list" := fun ya => ⟨_, hx, rfl⟩
 have f1 := sub_AttributeError
 have f3 := F.slot_list_getattribute.lookup
 have f4 := F.slot_list_getattribute.bind (.ref a)
 have f5 := am_list_getattr_none
 unfold getAttr? getAttrBy? getAttrBy
 repeat (any_goals (first | assumption | exact hT _ | ((with_reducible show wpAny _ _ (call (Value.builtin "list.__getattribute__") _ _) _ _ _); refine call_meets F.slot_list_getattribute (hT _) am_entry_list_getattribute (F.args_list_getattribute_2 _ _) (meets_getattribute_miss_list a xs k sl "keys" _ hmiss (by decide +kernel) (by decide +kernel)) ⟨hx, hA, fun h' tk' e hx' => ?_⟩) | wp_step))
 obtain ⟨t', u', he⟩ := hx'.there
 show wpAny _ _ (getattributeRaised _ _ _ _ _ _ _) _ _ _
 unfold getattributeRaised
 repeat (any_goals (first | assumption | wp_step))
 exact h h' tk' hx'.of.keeps
theorem entry_dict_loop : entryFor table "dict.update.loop" = some Builtin.«dict.update.loop» := entryFor_of_tree (by kernel_rfl)
theorem plain_dict_loop : plainId "dict.update.loop" = true := by decide +kernel
theorem codeAny_dict_loop {R : Result → Shared → Prop} {I S : Addr} {fp wr : List Addr} {n : Nat} {P : Nat → Value → Prop} {St : Nat → Heap → Prop} (W : Walks prog w A.in1 I fp wr n P St) (hSf : S ∉ fp) {pairs : List (Key × Value)} (hz : n ≤ sizeLine) (hlen : pairs.length = n) (H₀ : Heap) (res : Value)
  (hP : ∀ i v, P i v → ∃ a kv vv k m, v = .ref a ∧ pairs[i]? = some (k, vv) ∧ keyIs k kv = true ∧ H₀.get? a = some (tupO [kv, vv] m) ∧ a ≠ S ∧ a ∉ wr) :
  ∀ (j i : Nat) (s : Shared) (kvs : List (Key × Value)), n - i = j → i ≤ n → St i s.heap → s.heap.DictOf (keyKind prog w) S kvs → kvs.length ≤ i → (∀ b o, b ≠ S → b ∉ wr → H₀.get? b = some o → s.heap.get? b = some o) →
  (∀ h' tk, h'.DictOf (keyKind prog w) S (merged kvs (pairs.drop i)) → (∀ b o, b ≠ S → b ∉ wr → H₀.get? b = some o → h'.get? b = some o) → R (.ok (.ret res)) (At s h' tk)) →
  codeAny (model prog w) A (.builtin "dict.update.loop" ⟨[.ref S, .ref I, rawInt i, res], []⟩) R s := by
 have hSw : S ∉ wr := fun h => hSf (W.sub _ h)
 intro j
 induction j with
 | zero =>
  intro i s kvs hk hi hst hd hkl hold hR
  have hin : i = n := by (first | lia | omega)
  subst hin
  refine codeAny_builtin entry_dict_loop ?_
  rw [Around.under_plainId plain_dict_loop _]
  show wpAny _ A.in1 (pyNext (.ref I) >>= _) _ _ s
  refine wpAny_bind (W.done s _ _ hst fun h' tk hk' => ?_)
  show wpAny _ _ (Builtin.Dict.addKeywords S [] >>= _) _ _ _
  refine wpAny_bind (wpAny_pure (wpAny_pure (hR h' tk ?_ fun b o h1 h2 e => hk' b o h2 (hold b o h1 h2 e))))
  rw [List.drop_eq_nil_of_le (by (first | lia | omega))]
  exact (let ⟨o, es, ep, ho, r⟩ := hd; ⟨o, es, ep, hk' S o hSw ho, r⟩)
 | succ j ih =>
  intro i s kvs hk hi hst hd hkl hold hR
  have hlt : i < n := by (first | lia | omega)
  refine codeAny_builtin entry_dict_loop ?_
  rw [Around.under_plainId plain_dict_loop _]
  show wpAny _ A.in1 (pyNext (.ref I) >>= _) _ _ s
  refine wpAny_bind (W.item i s _ _ hlt hst fun v h' tk hPv hst' hk' => ?_)
  obtain ⟨a, kv, vv, k, m, rfl, hp, hkey, hg, hne, hnw⟩ := hP i v hPv
  have hd' : h'.DictOf (keyKind prog w) S kvs := let ⟨o, es, ep, ho, r⟩ := hd; ⟨o, es, ep, hk' S o hSw ho, r⟩
  have hg' : h'.get? a = some (tupO [kv, vv] m) := hk' a _ hnw (hold a _ hne hnw hg)
  refine wpAny_bind (wpAny_holding (wpAny_bind (wpAny_tryCatch ?_)))
  unfold Builtin.Dict.pairItems
  refine wpAny_bind (wpAny_typeOf (T := "tuple") ⟨_, hg', rfl⟩ ?_)
  rw [if_pos (by decide)]
  refine wpAny_bind (wpAny_seqItems hg' rfl (wpAny_pure ?_))
  show wpAny _ _ (holding [kv, vv] (dictSet S kv vv)) _ _ _
  refine wpAny_holding (wpAny_dictSet_pairs hkey hd' (fun h'' hd'' hs'' => ?_) (by (first | lia | omega)))
  refine wpAny_pure ⟨plainId_quiet plain_dict_loop _, ?_⟩
  have hc : ((i : Int) + 1) = ((i + 1 : Nat) : Int) := by push_cast; rfl
  rw [hc]
  refine ih (i + 1) _ _ (by (first | lia | omega)) hlt (W.frame _ h' _ hst' fun b hb o e => (hs''.2 b (fun e => hSf (e ▸ hb))).trans e) hd'' (Nat.le_trans (stored_length_le ..) (by (first | lia | omega))) (fun b o h1 h2 e => (hs''.2 b h1).trans (hk' b o h2 (hold b o h1 h2 e))) fun h₃ tk₃ hd₃ hold₃ => hR h₃ tk₃ ?_ hold₃
  rw [show pairs.drop i = (k, vv) :: pairs.drop (i + 1) from by
   rw [List.drop_eq_getElem_cons (by (first | lia | omega))]; congr 1
   rw [List.getElem?_eq_getElem (by (first | lia | omega))] at hp; exact Option.some.inj hp]
  exact hd₃
theorem call_dict_list {ad : Addr} {vs : List Value} {n : Nat} {pairs : List (Key × Value)} {Q : Value → Shared → Prop} (hh : A.handled = none) (g : s.heap.get? ad = some (listO vs n)) (hz : vs.length ≤ sizeLine) (hlen : pairs.length = vs.length)
  (hP : ∀ (i : Nat) (v : Value), vs[i]? = some v → ∃ a kv vv k m, v = .ref a ∧ pairs[i]? = some (k, vv) ∧ keyIs k kv = true ∧ s.heap.get? a = some (tupO [kv, vv] m))
  (h : ∀ h' tk, h'.DictOf (keyKind prog w) s.heap.objs.size (merged [] pairs) → (∀ b o, s.heap.get? b = some o → h'.get? b = some o) → Q (.ref s.heap.objs.size) (At s h' tk)) :
  wpAny (model prog w) A (call (.type "dict") [.ref ad]) Q E s := by
 refine callType_codes (Q₁ := fun obj s₁ => obj = .ref s.heap.objs.size ∧ s₁ = { s with heap := s.heap.push { cls := .type "dict", data := .dict #[] } }) F.kt_called_dict (F.kt_typeCall_dict_1 _) F.entry_dict_init (kt_code_dict_new _ ⟨rfl, rfl⟩) ?_
 rintro obj s₁ ⟨rfl, rfl⟩
 have hnew : (s.heap.push { cls := .type "dict", data := .dict #[] }).DictOf (keyKind prog w) s.heap.objs.size [] := Heap.DictOf.new s.heap
 have g' : (s.heap.push { cls := .type "dict", data := .dict #[] }).get? ad = some (listO vs n) := Heap.get?_push_of_some _ g
 refine ⟨hnew.typeIs, F.args_dict_init_2 _ _, ?_⟩
 unfold Builtin.«dict.__init__»
 refine wpAny_bind ?_
 unfold Builtin.Dict.selfAndRest
 refine wpAny_bind (wpAny_notOrdered_dict hnew.typeIs ?_)
 show wpAny _ _ (pure (s.heap.objs.size, [Value.ref ad])) _ _ _
 refine wpAny_pure ?_
 show wpAny _ _ (Builtin.Dict.updateFrom "dict.__init__" s.heap.objs.size (.ref ad) [] .none) _ _ _
 unfold Builtin.Dict.updateFrom
 refine wpAny_bind (wpAny_typeOf (T := "list") ⟨_, g', rfl⟩ ?_)
 rw [if_pos (by decide)]
 refine wpAny_bind (keys_miss_list g' rfl rfl rfl hh fun h₁ tk₁ hk₁ => ?_)
 rw [if_pos (show (none : Option Value).isNone = true from rfl)]
 refine wpAny_bind (wpAny_rule ?_)
 have g₁ : h₁.get? ad = some (listO vs n) := hk₁ _ _ g'
 refine wpAny_bind (wpAny_pyIter_list (isList_of g₁) ?_)
 have hI : ad ≠ h₁.objs.size := Nat.ne_of_lt (Heap.lt_size g₁)
 have hS : s.heap.objs.size ≠ h₁.objs.size := let ⟨_, _, _, ho, _⟩ := hnew; Nat.ne_of_lt (Heap.lt_size (hk₁ _ _ ho))
 have hSa : s.heap.objs.size ≠ ad := Nat.ne_of_gt (Heap.lt_size g)
 refine wpAny_pure ⟨plainId_quiet plain_dict_loop _, codeAny_dict_loop (n := vs.toArray.size) (pairs := pairs) (Walks.list (A := A.in1.in1) hh h₁.objs.size ad hI vs.toArray) (by simp [hS, hSa]) (by simpa using hz) (by simpa using hlen) s.heap .none (fun i v hv => ?_) _ 0 _ [] rfl (Nat.zero_le _) ⟨⟨_, Heap.get?_push_size _ rfl, rfl, rfl⟩, isList_of (Heap.get?_push_of_some _ g₁)⟩ ?_ (Nat.le_refl _) (fun b o h1 h2 e => Heap.get?_push_of_some _ (hk₁ _ _ (Heap.get?_push_of_some _ e))) fun h' tk hd hold => ?_⟩
 ·obtain ⟨a, kv, vv, k, m, rfl, h1, h2, h3⟩ := hP i v (by simpa using hv)
  refine ⟨a, kv, vv, k, m, rfl, h1, h2, h3, Nat.ne_of_lt (Heap.lt_size h3), ?_⟩
  rw [List.mem_singleton]
  exact Nat.ne_of_lt (Heap.lt_size (hk₁ _ _ (Heap.get?_push_of_some _ h3)))
 ·exact let ⟨o, es, ep, ho, r⟩ := hnew; ⟨o, es, ep, Heap.get?_push_of_some _ (hk₁ _ _ ho), r⟩
 ·refine ⟨rfl, h h' tk hd fun b o e => hold b o (Nat.ne_of_lt (Heap.lt_size e)) ?_ e⟩
  rw [List.mem_singleton]
  exact Nat.ne_of_lt (Heap.lt_size (hk₁ _ _ (Heap.get?_push_of_some _ e)))
end
section
variable {h₀ : Bse} {A : Around} {W : List Addr} {ρ : Map} {s : Shared} {σ : Store}
theorem pairs_rel {h : Heap} : ∀ {l : List V} {vs : List Value} {t : Tab}, RelAll ρ h vs l → pairsOf l = some t → ∃ pairs : List (Key × Value), pairs.length = vs.length ∧ Ents ρ h pairs t ∧
  ∀ (i : Nat) (v : Value), vs[i]? = some v → ∃ a kv vv k m, v = .ref a ∧ pairs[i]? = some (k, vv) ∧ keyIs k kv = true ∧ h.get? a = some (tupO [kv, vv] m) := by
 intro l
 induction l with
 | nil =>
  intro vs t r e
  cases r; cases e
  exact ⟨[], rfl, .nil, fun i v e => by cases e⟩
 | cons x l ih =>
  intro vs t r e
  cases r with
  | cons r rs =>
   cases r with
   | tup g hl ra =>
    cases ra with
    | nil => cases e
    | @cons kv _ p _ rk ra =>
     cases ra with
     | nil => cases e
     | @cons vv _ q _ rv ra =>
      cases ra with
      | cons _ _ => cases e
      | nil =>
       have e : (match keyOf p, pairsOf l with | some k, some t => some ((k, q) :: t) | _, _ => none) = some t := e
       cases ek : keyOf p with
       | none => rw [ek] at e; cases e
       | some k =>
        cases er : pairsOf l with
        | none => rw [ek, er] at e; cases e
        | some t' =>
         rw [ek, er] at e; cases e
         obtain ⟨ps, h1, h2, h3⟩ := ih rs er
         obtain ⟨k1, k2⟩ := keyOf_is rk ek
         refine ⟨(k, _) :: ps, by rw [List.length_cons, List.length_cons, h1], .cons k2 rv h2, fun i v hv => ?_⟩
         cases i with
         | zero => cases hv; exact ⟨_, _, _, k, _, rfl, rfl, k1, g⟩
         | succ i => exact h3 i v hv
   | none => cases e
   | bool _ => cases e
   | int _ _ => cases e
   | str _ _ _ => cases e
   | ref _ => cases e
theorem Ents.merged {h : Heap} {ps : List (Key × Value)} {t : Tab} (q : Ents ρ h ps t) : ∀ {kvs : List (Key × Value)} {l : Tab}, Ents ρ h kvs l → Ents ρ h (PySem.merged kvs ps) (dMerge l t) := by
 induction q with
 | nil => exact fun r => r
 | cons hs rv _ ih => exact fun r => ih (r.stored hs rv)
theorem big (hN : h₀.heap.NoLimit) (i : Inv h₀ σ ρ s.heap) : (s.heap.objs.size == sysModules) = false := by
 have := modules_low (hN.keeps i.base)
 exact beq_false_of_ne (Nat.ne_of_gt this)
theorem Sim.bDict {a : Value} {x : V} (hN : h₀.heap.NoLimit) (hh : A.handled = none) (i : Inv h₀ σ ρ s.heap) (ra : Rel ρ s.heap a x) : Sim h₀ A W (call (.type "dict") [a]) (bDict x σ) RV ρ s := by
 cases ra with
 | @ref ad d n er =>
  refine Sim.askThen fun t ht => ?_
  have ht : (match σ[n]? with | some (.dict _ l) => some l | some (.list l) => (pairsOf l).map (dMerge []) | _ => none) = some t := ht
  cases hσ : σ[n]? with
  | none => rw [hσ] at ht; cases ht
  | some o =>
   rw [hσ] at ht
   cases o with
   | inst _ _ => cases ht
   | exc _ _ => cases ht
   | dict v l =>
    cases ht
    obtain ⟨e1, hs, kvs, hd, hl, r⟩ := i.dict hσ er
    refine Sim.newDictAt i fun Q E hQ => kt_call_dict hs hd hl fun h' hd' hsb => ?_
    have hk : ∀ b o, s.heap.get? b = some o → h'.get? b = some o := fun b o e => (hsb.2 b (Nat.ne_of_lt (Heap.lt_size e))).trans (Heap.get?_push_of_some _ e)
    exact hQ _ _ h' s.toks hk fresh_none (big hN i) hd' hl (r.sub (Sub.keeps hk))
   | list l =>
    obtain ⟨u, hu, rfl⟩ := Option.map_eq_some_iff.mp ht
    obtain ⟨vs, m, g, hl, r⟩ := i.list hσ er
    obtain ⟨ps, h1, h2, h3⟩ := pairs_rel r hu
    have hm := h2.merged (.nil (ρ := ρ) (h := s.heap))
    refine Sim.newDictAt i fun Q E hQ => call_dict_list hh g hl h1 h3 fun h' tk hd hk => hQ _ _ h' tk hk fresh_none (big hN i) hd ?_ (hm.sub (Sub.keeps hk))
    exact Nat.le_trans (merged_length_le ..) (by rw [h1]; simpa using hl)
 | _ => exact trivial
theorem strLt_trans {a b c : Str} (h1 : strLt b a = false) (h2 : strLt c b = false) : strLt c a = false := by
 unfold strLt at *
 rw [decide_eq_false_iff_not] at *
 exact List.le_trans h1 h2
theorem strLt_total {a b : Str} (h : strLt a b = true) : strLt b a = false := by
 unfold strLt at *
 rw [decide_eq_false_iff_not]
 exact List.lt_asymm (of_decide_eq_true h)
theorem strLt_anti {a b : Str} (h1 : strLt b a = false) (h2 : strLt a b = false) : a = b := by
 unfold strLt at *
 rw [decide_eq_false_iff_not] at *
 have : a.cps.toList = b.cps.toList := List.le_antisymm h1 h2
 cases a; cases b
 simpa using Array.toList_inj.mp this
noncomputable abbrev Rising (l : List Str) : Prop := l.Pairwise fun a b => strLt b a = false
theorem putS_mem {x y : Str} : ∀ {l : List Str}, y ∈ putS x l ↔ y = x ∨ y ∈ l
 | [] => by simp [putS]
 | z :: r => by
  unfold putS
  split
  ·rw [List.mem_cons, putS_mem, List.mem_cons]; exact ⟨fun h => by rcases h with h | h | h <;> simp [h], fun h => by rcases h with h | h | h <;> simp [h]⟩
  ·rw [List.mem_cons]
theorem putS_perm {x : Str} : ∀ {l : List Str}, (putS x l).Perm (x :: l)
 | [] => .refl _
 | z :: r => by
  unfold putS
  split
  ·exact (List.Perm.cons z putS_perm).trans (.swap x z r)
  ·exact .refl _
theorem putS_rising {x : Str} : ∀ {l : List Str}, Rising l → Rising (putS x l)
 | [], _ => List.pairwise_singleton _ _
 | z :: r, h => by
  have h := List.pairwise_cons.mp h
  unfold putS
  split
  ·rename_i hz
   refine List.pairwise_cons.mpr ⟨fun y hy => ?_, putS_rising h.2⟩
   rcases putS_mem.mp hy with rfl | hy
   ·exact strLt_total hz
   ·exact h.1 y hy
  ·rename_i hz
   have hz : strLt z x = false := by simpa using hz
   refine List.pairwise_cons.mpr ⟨fun y hy => ?_, List.pairwise_cons.mpr h⟩
   rcases List.mem_cons.mp hy with rfl | hy
   ·exact hz
   ·exact strLt_trans hz (h.1 y hy)
theorem sortS_perm : ∀ {l : List Str}, (sortS l).Perm l
 | [] => .refl _
 | x :: r => (putS_perm).trans (.cons x sortS_perm)
theorem sortS_rising : ∀ {l : List Str}, Rising (sortS l)
 | [] => .nil
 | _ :: _ => putS_rising sortS_rising
theorem rising_of : ∀ (p : Str) (l : List Str), risingS p l = true → Rising (p :: l)
 | p, [], _ => List.pairwise_singleton _ _
 | p, x :: r, h => by
  have h : (!PySem.Spec.ltCps x.cps.toList p.cps.toList && risingS x r) = true := h
  rw [Bool.and_eq_true, PyProof.Rows.ltCps_eq] at h
  have h1 : strLt x p = false := by unfold strLt; simpa using h.1
  have ih := rising_of x r h.2
  refine List.pairwise_cons.mpr ⟨fun y hy => ?_, ih⟩
  rcases List.mem_cons.mp hy with rfl | hy
  ·exact h1
  ·exact strLt_trans h1 ((List.pairwise_cons.mp ih).1 y hy)
theorem sorted_is {l m : List Str} (hp : l.Perm m) (hs : sortedS l = true) : l = sortS m := by
 refine List.Perm.eq_of_pairwise (le := fun a b => strLt b a = false) (fun a b ya yb h1 h2 => strLt_anti h1 h2) ?_ sortS_rising (hp.trans sortS_perm.symm)
 cases l with
 | nil => exact .nil
 | cons x r => exact rising_of x r hs
theorem strs_rel {h : Heap} {vs : List Value} {ss : List Str} (q : StrsAre vs ss) : (∀ x ∈ ss, SOk x) → RelAll ρ h vs (ss.map V.str) := by
 induction q with
 | nil => exact fun ya => .nil
 | cons y t _ ih => exact fun hs => .cons (.str y t (hs y (List.mem_cons_self ..))) (ih fun x hx => hs x (List.mem_cons_of_mem _ hx))
theorem Sim.bSortedS {a : Addr} {vs : List Value} {m : Nat} {l : List V} {ss : List Str} (i : Inv h₀ σ ρ s.heap) (g : s.heap.get? a = some (listO vs m)) (r : RelAll ρ s.heap vs l) (hc : l.length < 64) (hss : allStrs l = some ss) : Sim h₀ A W (call (.builtin "sorted") [.ref a]) (newO (.list ((sortS ss).map V.str)) σ) RV ρ s := by
 obtain ⟨h1, h2⟩ := strsAre_of r hss
 have hlen := h1.length
 have hlen2 := r.length
 refine Sim.newListAt i fun Q E hQ => sorted_strs (isList_of g) h1 (by (first | lia | omega)) fun out ss' a1 a2 a3 => ?_
 obtain ⟨e, he⟩ := sortedAll_at s.heap vs out
 have hl' : out.toList.length = ss.length := by rw [a1.length, a2.length_eq]
 have hs' := sorted_is a2 a3
 subst hs'
 have h24 : (16777216 : Nat) = sizeLine := rfl
 refine hQ _ out.toList e _ s.toks (fun ya yb => sortedAll_old) ?_ (by simpa [listO, seqObj] using he) (by (first | lia | omega)) (strs_rel a1 fun x hx => h2 x (a2.mem_iff.mp hx))
 cases e1 : s.heap.get? (s.heap.objs.size + 1) with
 | none => rfl
 | some o => exact absurd (Heap.lt_size e1) (Nat.not_lt.mpr (Nat.le_succ _))
theorem vidx_is {y : V} : ∀ {l : List V} {k j : Nat}, vidx σ y l k = some j → ∃ m, j = k + m ∧ (∃ x, l[m]? = some x ∧ veq σ x y = some true) ∧ ∀ p, p < m → ∃ x, l[p]? = some x ∧ veq σ x y = some false := by
 intro l
 induction l with
 | nil =>
  intro k j h
  cases h
 | cons x r ih =>
  intro k j h
  have h : (match veq σ x y with | some true => some k | some false => vidx σ y r (k + 1) | none => none) = some j := h
  cases e : veq σ x y with
  | none => rw [e] at h; cases h
  | some b =>
   rw [e] at h
   cases b with
   | true => cases h; exact ⟨0, rfl, ⟨x, rfl, e⟩, fun p hp => absurd hp (Nat.not_lt_zero _)⟩
   | false =>
    obtain ⟨m, h1, h2, h3⟩ := ih h
    refine ⟨m + 1, by (first | lia | omega), h2, fun p hp => ?_⟩
    cases p with
    | zero => exact ⟨x, rfl, e⟩
    | succ p => exact h3 p (by (first | lia | omega))
theorem Sim.mIndex {a b : Value} {x y : V} (hu : A.units + 201 < cLine) (i : Inv h₀ σ ρ s.heap) (ra : Rel ρ s.heap a x) (rb : Rel ρ s.heap b y) : Sim h₀ A W (call (.builtin "list.index") [a, b]) (mIndex x y σ) RV ρ s := by
 have hu1 : A.in1.units + 200 < cLine := by show A.units + 1 + 200 < cLine; (first | lia | omega)
 have hsl := sizeLine_lt
 cases ra with
 | ref er =>
  refine Sim.getList fun l hσ => Sim.ask fun c hc => ?_
  obtain ⟨vs, m, g, hl, r⟩ := i.list hσ er
  cases hv : vin σ y l with
  | none => rw [hv] at hc; cases hc
  | some t =>
   cases t with
   | false => rw [hv] at hc; cases hc
   | true =>
    rw [hv] at hc
    obtain ⟨j, hj, rfl⟩ := Option.map_eq_some_iff.mp hc
    obtain ⟨m', rfl, ⟨z, hz, ez⟩, hno⟩ := vidx_is hj
    rw [Nat.zero_add]
    obtain ⟨_, he⟩ := vin_any (A := A.in1) i rb hu1 r hv
    have hlen := r.length
    have hm' := lt_of_get hz
    have hat : ∀ (p : Nat) (q : V) (e : Bool) (hp : p < vs.length), l[p]? = some q → veq σ q y = some e → ansB σ ρ s.heap y vs[p] = e := fun p q e hp h1 h2 => by
     obtain ⟨v, hv, rv⟩ := r.get h1
     rw [List.getElem?_eq_getElem hp] at hv; cases hv
     exact ansB_is i rv h2
    refine Sim.same i fun Q E hQ => call_meets PySem.F.slot_list_index ⟨_, g, rfl⟩ PySem.F.entry_list_index (PySem.F.args_list_index_2 _ _)
     (SeqAt.list_indexAt _ vs.toArray m none #[] b (ansB σ ρ s.heap y) m' (by simp; (first | lia | omega)) (by (first | lia | omega)) ?_ ?_) ⟨g, fun v hv => he v (by simpa using hv), hQ _ _ (.int _ _)⟩
    ·simpa using hat m' z true (by (first | lia | omega)) hz ez
    ·intro p hp hlt
     obtain ⟨q, h1, h2⟩ := hno p hlt
     simpa using hat p q false (by simpa using hp) h1 h2
 | _ => exact trivial
theorem Sim.mSetdefault {a b c : Value} {x y z : V} (i : Inv h₀ σ ρ s.heap) (ra : Rel ρ s.heap a x) (rb : Rel ρ s.heap b y) (rc : Rel ρ s.heap c z) : Sim h₀ A W (call (.builtin "dict.setdefault") [a, b, c]) (mSetdefault x y z σ) RV ρ s := by
 cases ra with
 | @ref ad d n er =>
  show Sim h₀ A W _ ((Mine.Internal.getDict n >>= fun l => Mine.Internal.ofOpt (keyOf y) >>= fun k => match dGet l k with | some x => Pure.pure x | none => if l.length + 1 ≤ sizeLine then (putD n (l ++ [(k, z)]) >>= fun ya => Pure.pure z) else M.bad) σ) RV ρ s
  unfold Mine.Internal.getDict
  rw [M.assoc]
  refine Sim.getO fun o hσ => ?_
  cases o with
  | list _ => exact trivial
  | inst _ _ => exact trivial
  | exc _ _ => exact trivial
  | dict dv l =>
   refine Sim.optThen fun k hk => ?_
   obtain ⟨e1, hs, kvs, hd, hl, r⟩ := i.dict hσ er
   obtain ⟨k1, k2⟩ := keyOf_is rb hk
   cases eg : dGet l k with
   | some u =>
    obtain ⟨v, hv, rv⟩ := r.at.2 u eg
    exact Sim.same i fun Q E hQ => call_meetsIn PySem.F.slot_dict_setdefault hd.typeIs PySem.F.entry_dict_setdefault (PySem.F.args_dict_setdefault_3 _ _ _) (kt_meets_setdefault (keyKind h₀.prog h₀.w) ad k1 hs c)
     ⟨kvs, hd, hl, (fun v' hv' => by rw [hv] at hv'; cases hv'; exact hQ _ _ rv), (fun hn => by rw [hv] at hn; cases hn)⟩
   | none =>
    have hv := r.at.1 eg
    refine Sim.ite fun hc => ?_
    by_cases hpos : 0 < n
    case neg => rw [bind_bad (putD_bad hpos)]; exact trivial
    rw [bind_ok (putD_ok hpos hσ)]
    refine call_meetsIn PySem.F.slot_dict_setdefault hd.typeIs PySem.F.entry_dict_setdefault (PySem.F.args_dict_setdefault_3 _ _ _) (kt_meets_setdefault (keyKind h₀.prog h₀.w) ad k1 hs c)
     ⟨kvs, hd, hl, (fun v' hv' => by rw [hv] at hv'; cases hv'), fun ya h' hd' hsb => ?_⟩
    have hds : dSet l k z = l ++ [(k, z)] := by
     unfold dSet
     rw [if_neg]
     intro ha
     obtain ⟨p, hp, hpk⟩ := List.any_eq_true.mp ha
     unfold dGet at eg
     rw [Option.map_eq_none_iff, List.find?_eq_none] at eg
     exact eg p hp hpk
    have rs := r.stored k2 rc
    rw [hds] at rs
    obtain ⟨i', x', _⟩ := i.putD (W := W) hpos hσ er hd' (fun b o hb e => (hsb.2 b hb).trans e) rs (by rw [rs.length, List.length_append]; exact hc)
    exact ⟨_, h', _, rfl, i', x', rc.ext x'⟩
 | _ => exact trivial
theorem Sim.mGet {a b c : Value} {x y z : V} (i : Inv h₀ σ ρ s.heap) (ra : Rel ρ s.heap a x) (rb : Rel ρ s.heap b y) (rc : Rel ρ s.heap c z) : Sim h₀ A W (call (.builtin "dict.get") [a, b, c]) (mGet x y z σ) RV ρ s := by
 cases ra with
 | @ref ad d n er =>
  show Sim h₀ A W _ ((Mine.Internal.getO n >>= fun o => (match o with | .dict _ l => Pure.pure l | _ => M.bad) >>= fun l => Mine.Internal.ofOpt (keyOf y) >>= fun k => Pure.pure ((dGet l k).getD z)) σ) RV ρ s
  refine Sim.getO fun o hσ => ?_
  cases o with
  | list _ => exact trivial
  | inst _ _ => exact trivial
  | exc _ _ => exact trivial
  | dict dv l =>
   refine Sim.optThen fun k hk => ?_
   obtain ⟨e1, hs, kvs, hd, hl, r⟩ := i.dict hσ er
   obtain ⟨k1, k2⟩ := keyOf_is rb hk
   refine Sim.same i fun Q E hQ => call_meetsIn PySem.F.slot_dict_get hd.typeIs PySem.F.entry_dict_get (PySem.F.args_dict_get_3 _ _ _) (meets_dict_get_default (keyKind h₀.prog h₀.w) ad k1 hs c) ⟨_, hd.mapOf, hQ _ _ ?_⟩
   show Rel ρ s.heap ((valueAt kvs k).getD c) ((dGet l k).getD z)
   cases eg : dGet l k with
   | some u =>
    obtain ⟨v, hv, rv⟩ := r.at.2 u eg
    rw [hv]; exact rv
   | none => rw [r.at.1 eg]; exact rc
 | _ => exact trivial
theorem Ents.drop {h : Heap} {k : Key} : ∀ {kvs : List (Key × Value)} {l : Tab}, Ents ρ h kvs l → Ents ρ h (kvs.filter fun p => p.1 ≠ k) (l.filter fun p => p.1 ≠ k) := by
 intro kvs l r
 induction r with
 | nil => exact .nil
 | @cons k' v x kvs l hs rv _ ih =>
  by_cases hk : k' = k
  ·rw [List.filter_cons_of_neg (by simp [hk]), List.filter_cons_of_neg (by simp [hk])]; exact ih
  ·rw [List.filter_cons_of_pos (by simp [hk]), List.filter_cons_of_pos (by simp [hk])]; exact .cons hs rv ih
theorem keyPart_ok {k : Key} {v : Value} (h : keyIs k v = true) : (keyPart v).isSome = true := by
 rcases keyIs_shape h with ⟨i, t, _, rfl⟩ | ⟨x, t, _, rfl⟩ <;> rfl
theorem Sim.mPop {a b c : Value} {x y z : V} (i : Inv h₀ σ ρ s.heap) (ra : Rel ρ s.heap a x) (rb : Rel ρ s.heap b y) (rc : Rel ρ s.heap c z) : Sim h₀ A W (call (.builtin "dict.pop") [a, b, c]) (mPop x y z σ) RV ρ s := by
 cases ra with
 | @ref ad d n er =>
  show Sim h₀ A W _ ((Mine.Internal.getO n >>= fun o => (match o with | .dict _ l => Pure.pure l | _ => M.bad) >>= fun l => Mine.Internal.ofOpt (keyOf y) >>= fun k => match dGet l k with | some x => (putD n (l.filter fun p => p.1 ≠ k) >>= fun ya => Pure.pure x) | none => Pure.pure z) σ) RV ρ s
  refine Sim.getO fun o hσ => ?_
  cases o with
  | list _ => exact trivial
  | inst _ _ => exact trivial
  | exc _ _ => exact trivial
  | dict dv l =>
   refine Sim.optThen fun k hk => ?_
   obtain ⟨e1, hs, kvs, hd, hl, r⟩ := i.dict hσ er
   obtain ⟨k1, k2⟩ := keyOf_is rb hk
   cases eg : dGet l k with
   | none => exact Sim.same i fun Q E hQ => call_meetsIn PySem.F.slot_dict_pop hd.typeIs PySem.F.entry_dict_pop (PySem.F.args_dict_pop_3 _ _ _) (meets_dict_pop_default (keyKind h₀.prog h₀.w) ad k1 hs (keyPart_ok k1) c) ⟨kvs, hd, r.at.1 eg, hQ _ _ rc⟩
   | some u =>
    obtain ⟨v, hv, rv⟩ := r.at.2 u eg
    by_cases hpos : 0 < n
    case neg => dsimp only; rw [bind_bad (putD_bad hpos)]; exact trivial
    dsimp only
    rw [bind_ok (putD_ok hpos hσ)]
    refine call_meetsIn PySem.F.slot_dict_pop hd.typeIs PySem.F.entry_dict_pop (PySem.F.args_dict_pop_3 _ _ _) (meets_dict_pop_there (keyKind h₀.prog h₀.w) ad k1 [c] (.inr ⟨_, rfl⟩) (keyPart_ok k1)) ⟨kvs, v, hd, hl, hv, fun h' hd' hsb => ?_⟩
    have rs := r.drop (k := k)
    obtain ⟨i', x', _⟩ := i.putD (W := W) hpos hσ er hd' (fun b o hb e => (hsb.2 b hb).trans e) rs (Nat.le_trans (List.length_filter_le ..) hl)
    exact ⟨_, h', _, rfl, i', x', rv.ext x'⟩
 | _ => exact trivial
theorem Sim.mClear {a : Value} {x : V} (i : Inv h₀ σ ρ s.heap) (ra : Rel ρ s.heap a x) : Sim h₀ A W (call (.builtin "dict.clear") [a]) (mClear x σ) RV ρ s := by
 cases ra with
 | @ref ad d n er =>
  show Sim h₀ A W _ ((Mine.Internal.getO n >>= fun o => (match o with | .dict _ l => Pure.pure l | _ => M.bad) >>= fun ya => putD n [] >>= fun ya => Pure.pure V.none) σ) RV ρ s
  refine Sim.getO fun o hσ => ?_
  cases o with
  | list _ => exact trivial
  | inst _ _ => exact trivial
  | exc _ _ => exact trivial
  | dict dv l =>
   obtain ⟨e1, hs, kvs, hd, hl, r⟩ := i.dict hσ er
   show Sim h₀ A W _ ((putD n [] >>= fun ya => Pure.pure V.none) σ) RV ρ s
   by_cases hpos : 0 < n
   case neg => rw [bind_bad (putD_bad hpos)]; exact trivial
   rw [bind_ok (putD_ok hpos hσ)]
   refine call_meetsIn PySem.F.slot_dict_clear hd.typeIs PySem.F.entry_dict_clear (PySem.F.args_dict_clear_1 _) (meets_dict_clear (keyKind h₀.prog h₀.w) ad) ⟨kvs, hd, hl, fun h' hd' hsb => ?_⟩
   obtain ⟨i', x', _⟩ := i.putD (W := W) hpos hσ er hd' (fun b o hb e => (hsb.2 b hb).trans e) .nil (Nat.zero_le _)
   exact ⟨_, h', _, rfl, i', x', .none⟩
 | _ => exact trivial
theorem intsAre_of {h : Heap} {vs : List Value} {l : List V} {is : List Int} (r : RelAll ρ h vs l) : allInts l = some is → IntsAre vs is := by
 induction r using RelAll.ind generalizing is with
 | h0 => intro e; cases e; exact .nil
 | @h1 v vs x l r rs ih =>
  intro e
  cases r with
  | int k t =>
   obtain ⟨ts, e1, rfl⟩ := Option.map_eq_some_iff.mp (show (allInts l).map (k :: ·) = some is from e)
   exact .cons k t (ih e1)
  | _ => cases e
theorem Sim.bSum {a : Value} {x : V} (hh : A.handled = none) (i : Inv h₀ σ ρ s.heap) (ra : Rel ρ s.heap a x) : Sim h₀ A W (call (.builtin "sum") [a]) (bSum x σ) RV ρ s := by
 cases ra with
 | ref er =>
  refine Sim.getList fun l hσ => Sim.optThen fun is his => ?_
  obtain ⟨vs, m, g, hl, r⟩ := i.list hσ er
  have hi := intsAre_of r his
  obtain ⟨xs, hxs⟩ := hi.allInts.items
  refine Sim.grown i fun Q E hQ => sum_intListG hh (hxs ▸ isList_of g) fun h' tk t' hk => ?_
  have h1 : numsOf vs = is := hi.numsOf
  have h2 : numsOf vs = numsOf (intItems xs).toList := by rw [← hxs]
  rw [nums_intItems, h1] at h2
  have := hQ (.int is.sum t') h' tk hk (.int _ _)
  rw [preSum_eq, List.take_of_length_le (by simp), ← h2]; exact this
 | _ => exact trivial
theorem boolsAre_of {h : Heap} {vs : List Value} {l : List V} {bs : List Bool} (r : RelAll ρ h vs l) : allBools l = some bs → vs = bs.map Value.bool := by
 induction r using RelAll.ind generalizing bs with
 | h0 => intro e; cases e; rfl
 | @h1 v vs x l r rs ih =>
  intro e
  cases r with
  | bool b =>
   obtain ⟨ts, e1, rfl⟩ := Option.map_eq_some_iff.mp (show (allBools l).map (b :: ·) = some bs from e)
   rw [ih e1]; rfl
  | _ => cases e
theorem range_all (bs : List Bool) : (List.range bs.length).all (fun i => bs[i]?.getD true) = bs.all id := by
 rw [Bool.eq_iff_iff, List.all_eq_true, List.all_eq_true]
 constructor
 ·intro h b hb
  obtain ⟨i, hi⟩ := List.getElem?_of_mem hb
  have := h i (List.mem_range.mpr (lt_of_get hi))
  rw [hi] at this; exact this
 ·intro h i hi
  have hi := List.mem_range.mp hi
  rw [List.getElem?_eq_getElem hi]
  exact h _ (List.getElem_mem hi)
theorem Sim.bAll {a : Value} {x : V} (hh : A.handled = none) (i : Inv h₀ σ ρ s.heap) (ra : Rel ρ s.heap a x) : Sim h₀ A W (call (.builtin "all") [a]) (bAll x σ) RV ρ s := by
 cases ra with
 | @ref ad d n er =>
  refine Sim.getList fun l hσ => Sim.optThen fun bs hbs => ?_
  obtain ⟨vs, m, g, hl, r⟩ := i.list hσ er
  have hb := boolsAre_of r hbs
  have hI : ad ≠ s.heap.objs.size := Nat.ne_of_lt (Heap.lt_size g)
  refine Sim.grown i fun Q E hQ => call_all_walk (wpAny_pyIter_list (isList_of g) ⟨_, _, _, _, _, _, fun i => bs[i]?.getD true, rfl, Walks.list (A := A.in1) hh s.heap.objs.size ad hI vs.toArray, ⟨⟨_, Heap.get?_push_size _ rfl, rfl, rfl⟩, isList_of (Heap.get?_push_of_some _ g)⟩, fun i v s' Q' E' hv hq => ?_, fun h' tk hk => ?_⟩)
  ·have hv : vs[i]? = some v := by simpa using hv
   rw [hb, List.getElem?_map] at hv
   obtain ⟨b, hb', rfl⟩ := Option.map_eq_some_iff.mp hv
   have hq : Q' (bs[i]?.getD true) s' := hq
   rw [hb'] at hq
   exact wpAny_truthy_bool hq
  ·have hsz : vs.toArray.size = bs.length := by rw [hb]; simp
   rw [hsz, range_all]
   exact hQ _ h' tk (fun b o e => hk b o (fun hm => by rw [List.mem_singleton.mp hm] at e; exact absurd (Heap.lt_size e) (Nat.lt_irrefl _)) (Heap.get?_push_of_some _ e)) (.bool _)
 | _ => exact trivial
end
end Mine.Internal

set_option backward.match.sparseCases false
namespace Mine.Internal
open PySem PyProof.Rows
noncomputable def Tup (h : Heap) (v : Value) (x : Str) : Prop := ∃ b o xs m t, v = .ref b ∧ h.get? b = some o ∧ o.cls = .type "tuple" ∧ o.data = .seq xs m ∧ xs[0]? = some (.str x t)
theorem Tup.uniq {h : Heap} {v : Value} {x y : Str} (a : Tup h v x) (b : Tup h v y) : x = y := by
 obtain ⟨b1, o, xs, m, t, rfl, g, _, hd, hx⟩ := a
 obtain ⟨b2, o', xs', m', t', e, g', _, hd', hx'⟩ := b
 cases e
 cases g.symm.trans g'
 cases hd.symm.trans hd'
 cases hx.symm.trans hx'
 rfl
open Classical in
noncomputable def headS (h : Heap) (v : Value) : Option (List Nat) := if k : ∃ x, Tup h v x then some k.choose.cps.toList else none
theorem Tup.head {h : Heap} {v : Value} {x : Str} (k : Tup h v x) : headS h v = some x.cps.toList := by
 have q : ∃ x, Tup h v x := ⟨x, k⟩
 unfold headS
 rw [dif_pos q, q.choose_spec.uniq k]
theorem headS_is {h : Heap} {v : Value} {c : List Nat} (e : headS h v = some c) : ∃ x, Tup h v x ∧ c = x.cps.toList := by
 unfold headS at e
 by_cases k : ∃ x, Tup h v x
 ·rw [dif_pos k] at e; exact ⟨_, k.choose_spec, (Option.some.inj e).symm⟩
 ·rw [dif_neg k] at e; exact no_some e
@[reducible] noncomputable def tupKind (h : Heap) : PyProof.Rows.KeyKind := { PyProof.Rows.strKind with keyOf := headS h }
theorem keyLt_eq (b : Bool) (x y : Value) : keyLt' (tuples' b) x y = (do
  let xs ← Builtin.List.listItems x; let ys ← Builtin.List.listItems y
  for ((p, q), i) in (xs.toList.zip ys.toList).zipIdx do
   if !(← eqBool p q) then return ← oneLt' (b && i == 0) p q
  return xs.size < ys.size) := rfl
section
variable {prog : Program} {w : World} {A : Around} {E : Value → Shared → Prop} {s : Shared}
theorem head_list {xs : Array Value} {v : Value} (h : xs[0]? = some v) : ∃ r, xs.toList = v :: r := by
 rw [← Array.getElem?_toList] at h
 cases e : xs.toList with
 | nil => rw [e] at h; cases h
 | cons a r => rw [e] at h; cases h; exact ⟨r, rfl⟩
theorem keyLt_head {a b : Addr} {oa ob : Obj} {xs ys : Array Value} {m n : Nat} {x y : Str} {t u : Tok} {Q : Bool → Shared → Prop} (ga : s.heap.get? a = some oa) (da : oa.data = .seq xs m) (gb : s.heap.get? b = some ob) (db : ob.data = .seq ys n)
  (hx : xs[0]? = some (.str x t)) (hy : ys[0]? = some (.str y u)) (hne : x ≠ y) (h : Q (decide (x.cps.toList < y.cps.toList)) s) : wpAny (model prog w) A (keyLt' (tuples' true) (.ref a) (.ref b)) Q E s := by
 rw [keyLt_eq]
 refine wpAny_bind (listItems_at ga da (wpAny_bind (listItems_at gb db ?_)))
 obtain ⟨xr, hxr⟩ := head_list hx
 obtain ⟨yr, hyr⟩ := head_list hy
 rw [hxr, hyr, List.zip_cons_cons, List.zipIdx_cons, List.forIn_cons]
 refine wpAny_bind (wpAny_bind ?_)
 dsimp only
 refine wpAny_bind (eqBool_str ?_)
 rw [beq_false_of_ne hne]
 simp only [Bool.not_false, if_true]
 refine wpAny_bind (oneLt_str (wpAny_pure (wpAny_pure ?_)))
 show wpAny _ _ (pure _) _ _ _
 exact wpAny_pure h
structure SB (a₀ : Array Keyed) (st : SortSt) : Prop where
 perm : (arrOf st).Perm a₀
 kind : kindOf st = tuples' true
 failed : failedOf st = none
 pend : pendingOf st = #[]
structure Srt (prog : Program) (w : World) (A : Around) (s : Shared) (κ : PyProof.Rows.KeyKind) (a₀ : Array Keyed) : Prop where
 keys : KeysOf κ a₀
 nodup : (a₀.toList.map fun p => (κ.keyOf p.1).getD κ.dflt).Nodup
 lt : ∀ (x y : Value) (a b : κ.α) (Q : Bool → Shared → Prop) (E : Value → Shared → Prop), κ.keyOf x = some a → κ.keyOf y = some b → a ≠ b → Q (κ.blt a b) s → wpAny (model prog w) A (keyLt' (tuples' true) x y) Q E s
variable {a₀ : Array Keyed} {κ : PyProof.Rows.KeyKind} {st : SortSt}
theorem SB.size (h : SB a₀ st) : (arrOf st).size = a₀.size := h.perm.size_eq
theorem SB.arr (h : SB a₀ st) {xs : Array Keyed} (hp : xs.Perm (arrOf st)) : SB a₀ (setArr st xs) := ⟨hp.trans h.perm, h.kind, h.failed, h.pend⟩
theorem Srt.at (S : Srt prog w A s κ a₀) (hB : SB a₀ st) {i : Nat} (hi : i < a₀.size) : ∃ x p, (arrOf st)[i]? = some (x, p) ∧ κ.keyOf x = some (KK κ (arrOf st) i) := by
 have hi' : i < (arrOf st).size := by rw [hB.size]; exact hi
 have e : (arrOf st)[i]? = some (arrOf st)[i] := getElem?_pos _ i hi'
 obtain ⟨a, ha⟩ := S.keys _ ((Array.perm_iff_toList_perm.mp hB.perm).mem_iff.mp (Array.getElem_mem_toList hi'))
 refine ⟨_, _, e, ?_⟩
 unfold KK; rw [e]; simp [ha]
theorem Srt.ne (S : Srt prog w A s κ a₀) (hB : SB a₀ st) {i j : Nat} (hi : i < a₀.size) (hij : i ≠ j) (hj : j < a₀.size) : KK κ (arrOf st) i ≠ KK κ (arrOf st) j := fun e => by
 have hn := (((Array.perm_iff_toList_perm.mp hB.perm).map fun p => (κ.keyOf p.1).getD κ.dflt)).nodup_iff.mpr S.nodup
 have h : ∀ {k : Nat}, k < a₀.size → ((arrOf st).toList.map fun p => (κ.keyOf p.1).getD κ.dflt)[k]? = some (KK κ (arrOf st) k) := fun {k} hk => by
  obtain ⟨x, p, e1, e2⟩ := S.at hB hk
  rw [List.getElem?_map, Array.getElem?_toList, e1]
  show some ((κ.keyOf x).getD κ.dflt) = _
  rw [e2]; rfl
 exact hij ((List.getElem?_inj (by rw [List.length_map, Array.length_toList, hB.size]; exact hi) hn).mp ((h hi).trans ((congrArg some e).trans (h hj).symm)))
theorem lt_at (S : Srt prog w A s κ a₀) (hB : SB a₀ st) {i j : Nat} {Q : Option Bool → SortSt → Prop} (hi : i < a₀.size) (hij : i ≠ j) (hj : j < a₀.size) (h : Q (some (κ.blt (KK κ (arrOf st) i) (KK κ (arrOf st) j))) st) : wpS (model prog w) A E s (ltAt' i j) Q st := by
 obtain ⟨x, p, e1, k1⟩ := S.at hB hi
 obtain ⟨y, q, e2, k2⟩ := S.at hB hj
 rw [ltAt'_eq]
 refine wpS_bind (wpS_get ?_)
 show wpS _ _ _ _ (do let x ← elem' (arrOf st) i; let y ← elem' (arrOf st) j; lt' x y) Q st
 rw [elem'_eq, elem'_eq, e1, e2]
 refine wpS_bind (wpS_pure (wpS_bind (wpS_pure ?_)))
 rw [lt'_eq]
 refine wpS_bind (wpS_get ?_)
 rw [hB.kind]
 exact wpS_bind (wpS_lift (wpAny_attempt (S.lt x y _ _ _ _ k1 k2 (S.ne hB hi hij hj) ⟨rfl, wpS_pure h⟩)))
theorem blt_of {a b : κ.α} (h : κ.blt a b = false) (hne : a ≠ b) : κ.blt b a = true := by
 cases e : κ.blt b a with
 | true => rfl
 | false => exact absurd (κ.total a b h e) hne
noncomputable def Up (f : Nat → κ.α) (k : Nat) : Prop := ∀ i j, i < j → j < k → κ.blt (f i) (f j) = true
noncomputable def Down (f : Nat → κ.α) (k : Nat) : Prop := ∀ i j, i < j → j < k → κ.blt (f j) (f i) = true
theorem Up.more {f : Nat → κ.α} {x : Nat} (h : Up f x) (hl : κ.blt (f (x - 1)) (f x) = true) : Up f (x + 1) := fun i j hij hj => by
 rcases Nat.lt_or_ge j x with hj' | hj'
 ·exact h i j hij hj'
 ·have : j = x := by (first | lia | omega)
  subst this
  rcases Nat.lt_or_ge i (j - 1) with hi | hi
  ·exact κ.trans _ _ _ (h i (j - 1) hi (by (first | lia | omega))) hl
  ·have : i = j - 1 := by (first | lia | omega)
   subst this; exact hl
theorem Down.more {f : Nat → κ.α} {x : Nat} (h : Down f x) (hl : κ.blt (f x) (f (x - 1)) = true) : Down f (x + 1) := fun i j hij hj => by
 rcases Nat.lt_or_ge j x with hj' | hj'
 ·exact h i j hij hj'
 ·have : j = x := by (first | lia | omega)
  subst this
  rcases Nat.lt_or_ge i (j - 1) with hi | hi
  ·exact κ.trans _ _ _ hl (h i (j - 1) hi (by (first | lia | omega)))
  ·have : i = j - 1 := by (first | lia | omega)
   subst this; exact hl
theorem asc_ok (S : Srt prog w A s κ a₀) {a nrem : Nat} {Q : AscSt → SortSt → Prop} (hn : nrem ≤ a₀.size) (ha : 1 ≤ a) (han : a ≤ nrem) (hB : SB a₀ st) (hs : Up (KK κ (arrOf st)) a)
  (h : ∀ n, a ≤ n → n ≤ nrem → Up (KK κ (arrOf st)) n → (n < nrem → κ.blt (KK κ (arrOf st) n) (KK κ (arrOf st) (n - 1)) = true) → Q (none, n) st) : wpS (model prog w) A E s (ascLoop a nrem) Q st := by
 unfold ascLoop
 refine wpS_forRange (I := fun x c st' => st' = st ∧ c = (none, x) ∧ Up (KK κ (arrOf st)) x) (fun x c st' h1 h2 hI => ?_) (fun c st' hI => ?_) ⟨rfl, rfl, hs⟩
 ·obtain ⟨rfl, rfl, hu⟩ := hI
  dsimp only
  refine wpS_bind (lt_at S hB (by (first | lia | omega)) (by (first | lia | omega)) (by (first | lia | omega)) ?_)
  cases e : κ.blt (KK κ (arrOf st') x) (KK κ (arrOf st') (x - 1)) with
  | true => exact wpS_pure (h x h1 (Nat.le_of_lt h2) hu fun ya => e)
  | false => exact wpS_pure ⟨rfl, rfl, hu.more (blt_of e (S.ne hB (by (first | lia | omega)) (by (first | lia | omega)) (by (first | lia | omega))))⟩
 ·obtain ⟨rfl, rfl, hu⟩ := hI
  rw [show max a nrem = nrem by (first | lia | omega)] at hu ⊢
  exact h nrem han (Nat.le_refl _) hu fun hlt => absurd hlt (Nat.lt_irrefl _)
theorem desc_ok (S : Srt prog w A s κ a₀) {n nrem : Nat} {Q : DescSt → SortSt → Prop} (hn : nrem ≤ a₀.size) (h1 : 1 ≤ n) (hnn : n ≤ nrem) (hB : SB a₀ st) (hs : Down (KK κ (arrOf st)) n)
  (h : ∀ m, n ≤ m → m ≤ nrem → Down (KK κ (arrOf st)) m → Q (none, m, 0) st) : wpS (model prog w) A E s (descLoop n nrem) Q st := by
 unfold descLoop
 refine wpS_forRange (I := fun x c st' => st' = st ∧ c = (none, x, 0) ∧ Down (KK κ (arrOf st)) x) (fun x c st' h2 h3 hI => ?_) (fun c st' hI => ?_) ⟨rfl, rfl, hs⟩
 ·obtain ⟨rfl, rfl, hu⟩ := hI
  dsimp only
  refine wpS_bind (lt_at S hB (by (first | lia | omega)) (by (first | lia | omega)) (by (first | lia | omega)) ?_)
  cases e : κ.blt (KK κ (arrOf st') x) (KK κ (arrOf st') (x - 1)) with
  | true =>
   simp only [if_true]
   rw [if_neg (Nat.lt_irrefl 0)]
   exact wpS_pure ⟨rfl, rfl, hu.more e⟩
  | false =>
   simp only [Bool.false_eq_true, if_false]
   refine wpS_bind (lt_at S hB (by (first | lia | omega)) (by (first | lia | omega)) (by (first | lia | omega)) ?_)
   rw [blt_of e (S.ne hB (by (first | lia | omega)) (by (first | lia | omega)) (by (first | lia | omega)))]
   simp only [if_true]
   exact wpS_pure (h x h2 (Nat.le_of_lt h3) hu)
 ·obtain ⟨rfl, rfl, hu⟩ := hI
  rw [show max n nrem = nrem by (first | lia | omega)] at hu ⊢
  exact h nrem hnn (Nat.le_refl _) hu
noncomputable def RunEnd (κ : PyProof.Rows.KeyKind) (a₀ : Array Keyed) (nrem : Nat) (Q : Option Nat → SortSt → Prop) : Prop := ∀ m st', SB a₀ st' → 1 ≤ m → m ≤ nrem → Up (KK κ (arrOf st')) m → Q (some m) st'
theorem descPart_ok (S : Srt prog w A s κ a₀) {nrem : Nat} {Q : Option Nat → SortSt → Prop} (hn : nrem ≤ a₀.size) (h2 : 2 ≤ nrem) (hB : SB a₀ st) (hs : κ.blt (KK κ (arrOf st) 1) (KK κ (arrOf st) 0) = true)
  (h : RunEnd κ a₀ nrem Q) : wpS (model prog w) A E s (descPart 1 nrem) Q st := by
 unfold descPart
 refine wpS_bind (wpS_lift (wpAny_rule ⟨rfl, ?_⟩))
 refine wpS_bind (desc_ok S hn (by (first | lia | omega)) h2 hB (fun i j hij hj => ?_) fun m hm1 hm2 hd => ?_)
 ·have : i = 0 := by (first | lia | omega)
  have : j = 1 := by (first | lia | omega)
  subst i; subst j; exact hs
 ·dsimp only
  rw [if_neg (Nat.lt_irrefl 0)]
  unfold tail3
  have hsz : m ≤ (arrOf st).size := by rw [hB.size]; (first | lia | omega)
  refine wpS_bind (wpS_reverse ?_)
  have hB' : SB a₀ (setArr st (mirror (arrOf st) 0 m ((m - 0) / 2))) := hB.arr (mirror_perm _ _ _ _)
  refine wpS_bind (asc_ok S hn (by (first | lia | omega)) hm2 hB' (fun i j hij hj => ?_) fun k hk1 hk2 hu ya => wpS_pure (h k _ hB' (by (first | lia | omega)) hk2 hu))
  show κ.blt (KK κ (mirror (arrOf st) 0 m ((m - 0) / 2)) i) (KK κ (mirror (arrOf st) 0 m ((m - 0) / 2)) j) = true
  rw [KK_mirror hsz, KK_mirror hsz, if_pos (by (first | lia | omega)), if_pos (by (first | lia | omega))]
  exact hd _ _ (by (first | lia | omega)) (by (first | lia | omega))
theorem count_ok (S : Srt prog w A s κ a₀) {nrem : Nat} {Q : Option Nat → SortSt → Prop} (hn : nrem ≤ a₀.size) (h1 : 1 ≤ nrem) (hB : SB a₀ st) (h : RunEnd κ a₀ nrem Q) : wpS (model prog w) A E s (countRun' 0 nrem) Q st := by
 rw [countRun0_eq]
 refine wpS_bind (asc_ok S hn (Nat.le_refl 1) h1 hB (fun i j hij hj => by (first | lia | omega)) fun n hn1 hn2 hu hd => ?_)
 dsimp only
 by_cases hnn : n = nrem
 ·rw [if_pos (by simpa using hnn)]
  exact wpS_pure (h n st hB hn1 hn2 hu)
 ·rw [if_neg (by simpa using hnn)]
  by_cases hgt : n > 1
  ·rw [if_pos hgt]
   refine wpS_bind (lt_at S hB (by (first | lia | omega)) (by (first | lia | omega)) (by (first | lia | omega)) ?_)
   rw [hu 0 (n - 1) (by (first | lia | omega)) (by (first | lia | omega))]
   simp only [if_true]
   exact wpS_pure (h n st hB hn1 hn2 hu)
  ·rw [if_neg hgt]
   have : n = 1 := by (first | lia | omega)
   subst this
   exact descPart_ok S hn (by (first | lia | omega)) hB (hd (by (first | lia | omega))) h
noncomputable def Gap (f : Nat → κ.α) (k l r : Nat) : Prop := l ≤ r ∧ r ≤ k ∧ (∀ i, i < l → κ.blt (f i) (f k) = true) ∧ ∀ i, r ≤ i → i < k → κ.blt (f k) (f i) = true
theorem mid_lt {l r : Nat} (h : ¬l ≥ r) : (l + r) / 2 < r := Nat.div_lt_of_lt_mul (by rw [Nat.two_mul]; exact Nat.add_lt_add_right (Nat.not_le.mp h) r)
theorem mid_ge {l r : Nat} (h : ¬l ≥ r) : l ≤ (l + r) / 2 := (Nat.le_div_iff_mul_le Nat.two_pos).mpr (by rw [Nat.mul_two]; exact Nat.add_le_add_left (Nat.le_of_lt (Nat.not_le.mp h)) l)
theorem mid_low {l r k x : Nat} (h : ¬l ≥ r) (hm : r - l ≤ k - x) : (l + r) / 2 - l ≤ k - (x + 1) := Nat.le_sub_one_of_lt (Nat.lt_of_lt_of_le (Nat.sub_lt_sub_right (mid_ge h) (mid_lt h)) hm)
theorem mid_high {l r k x : Nat} (h : ¬l ≥ r) (hm : r - l ≤ k - x) : r - ((l + r) / 2 + 1) ≤ k - (x + 1) := Nat.sub_le_sub_right (Nat.le_trans (Nat.sub_le_sub_left (mid_ge h) r) hm) 1
theorem Gap.low {f : Nat → κ.α} {k l r m : Nat} (g : Gap f k l r) (hu : Up f k) (hl : l ≤ m) (hr : m < r) (e : κ.blt (f k) (f m) = true) : Gap f k l m :=
 ⟨hl, Nat.le_of_lt (Nat.lt_of_lt_of_le hr g.2.1), g.2.2.1, fun i h2 h3 => by
  rcases Nat.lt_or_eq_of_le h2 with hi | rfl
  ·exact κ.trans _ _ _ e (hu _ _ hi h3)
  ·exact e⟩
theorem Gap.high {f : Nat → κ.α} {k l r m : Nat} (g : Gap f k l r) (hu : Up f k) (hr : m < r) (e : κ.blt (f m) (f k) = true) : Gap f k (m + 1) r :=
 ⟨hr, g.2.1, fun i h2 => by
  rcases Nat.lt_or_eq_of_le (Nat.le_of_lt_succ h2) with hi | rfl
  ·exact κ.trans _ _ _ (hu _ _ hi (Nat.lt_of_lt_of_le hr g.2.1)) e
  ·exact e, g.2.2.2⟩
theorem Up.put {f g : Nat → κ.α} {k l : Nat} (hu : Up f k) (G : Gap f k l l) (hg : ∀ i, g i = if i = l then f k else if l < i ∧ i ≤ k then f (i - 1) else f i) : Up g (k + 1) := fun i j hij hj => by
 have hj' : j ≤ k := Nat.le_of_lt_succ hj
 have hlo : ∀ i, i < l → g i = f i := fun i h => by rw [hg, if_neg (Nat.ne_of_lt h), if_neg fun q => Nat.lt_asymm h q.1]
 have hat : g l = f k := by rw [hg, if_pos rfl]
 have hhi : ∀ i, l < i → i ≤ k → g i = f (i - 1) := fun i h h' => by rw [hg, if_neg (Nat.ne_of_gt h), if_pos ⟨h, h'⟩]
 rcases Nat.lt_trichotomy j l with h | rfl | h
 ·rw [hlo j h, hlo i (Nat.lt_trans hij h)]; exact hu i j hij (Nat.lt_of_lt_of_le h G.2.1)
 ·rw [hat, hlo i hij]; exact G.2.2.1 i hij
 ·have hj1 : j - 1 < k := Nat.lt_of_lt_of_le (Nat.sub_lt (Nat.zero_lt_of_lt h) Nat.one_pos) hj'
  rw [hhi j h hj']
  rcases Nat.lt_trichotomy i l with h' | rfl | h'
  ·rw [hlo i h']; exact hu i (j - 1) (Nat.lt_of_lt_of_le h' (Nat.le_sub_one_of_lt h)) hj1
  ·rw [hat]; exact G.2.2.2 (j - 1) (Nat.le_sub_one_of_lt h) hj1
  ·rw [hhi i h' (Nat.le_trans (Nat.le_of_lt hij) hj')]
   exact hu _ _ (Nat.sub_lt_sub_right (Nat.lt_of_le_of_lt (Nat.zero_le _) h') hij) hj1
noncomputable def BI (κ : PyProof.Rows.KeyKind) (a₀ : Array Keyed) (k : Nat) (c : Option Bool × Unit) (st' : SortSt) : Prop := c = (none, ()) ∧ SB a₀ st' ∧ Up (KK κ (arrOf st')) k
noncomputable def BJ (κ : PyProof.Rows.KeyKind) (k : Nat) (st' : SortSt) (x : Nat) (c : Option Bool × Nat × Nat) (st'' : SortSt) : Prop := st'' = st' ∧ ∃ l r, c = (none, l, r) ∧ Gap (KK κ (arrOf st')) k l r ∧ r - l ≤ k - x
noncomputable def BK (κ : PyProof.Rows.KeyKind) (k : Nat) (st' : SortSt) (c : Option Bool × Nat × Nat) (st'' : SortSt) : Prop := st'' = st' ∧ ∃ l, c = (none, l, l) ∧ Gap (KK κ (arrOf st')) k l l
theorem BJ.zero {k : Nat} {st' : SortSt} : BJ κ k st' 0 (none, 0, k) st' := ⟨rfl, 0, k, rfl, ⟨Nat.zero_le _, Nat.le_refl _, fun i hi => absurd hi (Nat.not_lt_zero _), fun i h2 h3 => absurd h3 (Nat.not_lt.mpr h2)⟩, Nat.le_refl _⟩
theorem BJ.end {k : Nat} {st' st'' : SortSt} {c : Option Bool × Nat × Nat} (h : BJ κ k st' (max 0 k) c st'') : BK κ k st' c st'' := by
 obtain ⟨e, l, r, ec, g, hm⟩ := h
 have : l = r := Nat.le_antisymm g.1 (Nat.le_of_sub_eq_zero (Nat.le_zero.mp (Nat.le_trans hm (Nat.le_of_eq (by rw [Nat.zero_max, Nat.sub_self])))))
 subst this
 exact ⟨e, l, ec, g⟩
theorem lt_at0 (S : Srt prog w A s κ a₀) (hB : SB a₀ st) {i j : Nat} {Q : Option Bool → SortSt → Prop} (hi : i < a₀.size) (hij : i ≠ j) (hj : j < a₀.size) (h : Q (some (κ.blt (KK κ (arrOf st) i) (KK κ (arrOf st) j))) st) : wpS (model prog w) A E s (ltAt' (0 + i) (0 + j)) Q st := by
 rw [Nat.zero_add, Nat.zero_add]; exact lt_at S hB hi hij hj h
theorem move_at (hB : SB a₀ st) {k l : Nat} {Q : Unit → SortSt → Prop} (hk : k < a₀.size) (hu : Up (KK κ (arrOf st)) k) (g : Gap (KK κ (arrOf st)) k l l) (h : ∀ st', BI κ a₀ (k + 1) (none, ()) st' → Q () st') : wpS (model prog w) A E s (moveDown' (0 + k) (0 + l)) Q st := by
 rw [Nat.zero_add, Nat.zero_add, moveDown'_eq]
 refine wpS_modify (h _ ⟨rfl, hB.arr (bubble_perm _ _ _), hu.put g fun i => ?_⟩)
 have e := KK_bubble (κ := κ) (xs := arrOf st) (src := k) (d := k - l) (by rw [hB.size]; exact hk) (Nat.sub_le _ _) i
 rw [Nat.sub_sub_self g.2.1] at e
 exact e
theorem bin_ok (S : Srt prog w A s κ a₀) {n ok : Nat} {Q : Bool → SortSt → Prop} (hn : n ≤ a₀.size) (h1 : 1 ≤ ok) (hok : ok ≤ n) (hB : SB a₀ st) (hs : Up (KK κ (arrOf st)) ok)
  (h : ∀ st', SB a₀ st' → Up (KK κ (arrOf st')) n → Q true st') : wpS (model prog w) A E s (binarySort' 0 n ok) Q st := by
 rw [binarySort'_eq]
 refine wpS_bind (wpS_mono (wpS_forRange (I := BI κ a₀) (Q := BI κ a₀ n) (fun k c st' hk1 hk2 hI => ?_) (fun c st' hI => ?_) ⟨rfl, hB, (Nat.max_eq_left h1).symm ▸ hs⟩) fun c st' hI => ?_)
 ·obtain ⟨rfl, hB', hu⟩ := hI
  have hka : k < a₀.size := Nat.lt_of_lt_of_le hk2 hn
  refine wpS_bind (wpS_mono (wpS_forRange (I := BJ κ k st') (Q := BK κ k st') (fun x c st'' ya hx hI => ?_) (fun c st'' hI => hI.end) .zero) fun c st'' hI => ?_)
  ·obtain ⟨rfl, l, r, rfl, g, hm⟩ := hI
   dsimp only
   by_cases hge : l ≥ r
   ·rw [if_pos hge]
    have := Nat.le_antisymm g.1 hge
    subst this
    exact wpS_pure ⟨rfl, l, rfl, g⟩
   ·rw [if_neg hge]
    have hmk := Nat.lt_of_lt_of_le (mid_lt hge) g.2.1
    refine wpS_bind (lt_at0 S hB' hka (Nat.ne_of_gt hmk) (Nat.lt_trans hmk hka) ?_)
    cases e : κ.blt (KK κ (arrOf st'') k) (KK κ (arrOf st'') ((l + r) / 2)) with
    | true => exact wpS_pure ⟨rfl, l, (l + r) / 2, rfl, g.low hu (mid_ge hge) (mid_lt hge) e, mid_low hge hm⟩
    | false => exact wpS_pure ⟨rfl, (l + r) / 2 + 1, r, rfl, g.high hu (mid_lt hge) (blt_of e (S.ne hB' hka (Nat.ne_of_gt hmk) (Nat.lt_trans hmk hka))), mid_high hge hm⟩
  ·obtain ⟨rfl, l, rfl, g⟩ := hI
   exact wpS_bind (move_at hB' hka hu g fun ya k => wpS_pure k)
 ·rw [Nat.max_eq_right (Nat.max_le.mpr ⟨hok, Nat.le_trans h1 hok⟩)] at hI
  exact hI
 ·obtain ⟨rfl, hB', hu⟩ := hI
  exact wpS_pure (h st' hB' hu)
noncomputable def SEnd (κ : PyProof.Rows.KeyKind) (a₀ : Array Keyed) (st : SortSt) : Prop := (arrOf st).Perm a₀ ∧ failedOf st = none ∧ pendingOf st = #[(0, a₀.size, 0)] ∧ Up (KK κ (arrOf st)) a₀.size
theorem SB.done {m : Nat} (hB : SB a₀ st) (hm : m = a₀.size) (hs : Up (KK κ (arrOf st)) m) : SEnd κ a₀ (setPending st ((pendingOf st).push (0, m, 0))) := by
 subst hm
 exact ⟨hB.perm, hB.failed, by show (pendingOf st).push _ = _; rw [hB.pend]; rfl, hs⟩
theorem SB.back (hB : SB a₀ st) : (pendingOf st).back? = none := by rw [hB.pend]; rfl
noncomputable def RI (κ : PyProof.Rows.KeyKind) (a₀ : Array Keyed) (x : Nat) (c : Option Unit × Nat) (st' : SortSt) : Prop := (x = 0 ∧ c = (none, 0) ∧ SB a₀ st') ∨ (1 ≤ x ∧ c = (none, a₀.size) ∧ SEnd κ a₀ st')
noncomputable def RQ (κ : PyProof.Rows.KeyKind) (a₀ : Array Keyed) (c : Option Unit × Nat) (st' : SortSt) : Prop := c = (none, a₀.size) ∧ SEnd κ a₀ st'
theorem RI.end {c : Option Unit × Nat} {st' : SortSt} {n : Nat} (h2 : 2 ≤ n) (h : RI κ a₀ (max 0 n) c st') : RQ κ a₀ c st' := by
 rcases h with ⟨hx, _, _⟩ | ⟨_, hc⟩
 ·rw [Nat.zero_max] at hx; rw [hx] at h2; exact absurd h2 (by decide)
 ·exact hc
theorem RI.one {m lo : Nat} (hB : SB a₀ st) (hm : m = a₀.size) (hlo : lo = a₀.size) (hs : Up (KK κ (arrOf st)) m) : RI κ a₀ (0 + 1) (none, lo) (setPending st ((pendingOf st).push (0, m, 0))) := .inr ⟨Nat.le_refl _, by rw [hlo], hB.done hm hs⟩
theorem runs_ok (S : Srt prog w A s κ a₀) {Q : Unit → SortSt → Prop} (hB : SB a₀ st) (h2 : 2 ≤ a₀.size) (h64 : a₀.size < 64) (h : ∀ st', SEnd κ a₀ st' → Q () st') : wpS (model prog w) A E s sortRuns' Q st := by
 have hmr : minRun' a₀.size a₀.size 0 = a₀.size := by
  obtain ⟨f, hf⟩ : ∃ f, a₀.size = f + 1 := ⟨a₀.size - 1, (Nat.sub_add_cancel (Nat.le_of_lt h2)).symm⟩
  have : minRun' (f + 1) a₀.size 0 = a₀.size := by rw [minRun'_succ, if_pos h64]; rfl
  rwa [← hf] at this
 rw [sortRuns'_eq]
 refine wpS_bind (wpS_get ?_)
 dsimp only
 have hz := hB.size
 generalize (arrOf st).size = N at hz ⊢
 subst hz
 generalize minRun' a₀.size a₀.size 0 = mr at hmr ⊢
 refine wpS_bind (wpS_mono (wpS_forRange (I := RI κ a₀) (Q := RQ κ a₀) (fun x c st' ya hx hI => ?_) (fun c st' hI => hI.end h2) (.inl ⟨rfl, rfl, hB⟩)) fun c st' hI => ?_)
 ·rcases hI with ⟨rfl, rfl, hB'⟩ | ⟨hx1, rfl, hD⟩
  ·dsimp only
   rw [if_neg (Nat.not_le.mpr hx)]
   refine wpS_bind (count_ok S (nrem := a₀.size - 0) (Nat.le_refl _) (Nat.le_of_lt h2) hB' fun m st2 hB2 hm1 hm2 hs2 => ?_)
   dsimp only
   by_cases hlt : m < mr
   ·rw [if_pos hlt]
    have hf : min (a₀.size - 0) mr = a₀.size := by rw [hmr]; exact Nat.min_self _
    refine wpS_bind (wpS_lift (wpAny_rule ⟨rfl, ?_⟩))
    refine wpS_bind (bin_ok S (Nat.le_of_eq hf) hm1 (Nat.le_trans hm2 (Nat.le_of_eq hf.symm)) hB2 hs2 fun st3 hB3 hs3 => ?_)
    rw [if_neg (show ¬(!true) = true from Bool.false_ne_true)]
    refine wpS_bind (wpS_get ?_)
    rw [hB3.back]
    exact wpS_bind (wpS_modify (wpS_pure (.one hB3 hf ((Nat.zero_add _).trans hf) hs3)))
   ·rw [if_neg hlt]
    have hm : m = a₀.size := Nat.le_antisymm hm2 (hmr ▸ Nat.not_lt.mp hlt)
    refine wpS_bind (wpS_get ?_)
    rw [hB2.back]
    exact wpS_bind (wpS_modify (wpS_pure (.one hB2 hm ((Nat.zero_add _).trans hm) hs2)))
  ·dsimp only
   rw [if_pos (Nat.le_refl _)]
   exact wpS_pure ⟨rfl, hD⟩
 ·obtain ⟨rfl, hD⟩ := hI
  refine wpS_bind (wpS_mono (wpS_forRange (I := fun ya c st'' => st'' = st' ∧ c = (none, ())) (Q := fun c st'' => st'' = st' ∧ c = (none, ())) (fun x c st'' ya yb hI => ?_) (fun ya yb hh => hh) ⟨rfl, rfl⟩) fun c st'' hI => ?_)
  ·obtain ⟨rfl, rfl⟩ := hI
   refine wpS_bind (wpS_get ?_)
   rw [if_pos (by rw [hD.2.2.1]; exact Nat.le_refl 1)]
   exact wpS_pure ⟨rfl, rfl⟩
  ·obtain ⟨rfl, rfl⟩ := hI
   exact wpS_pure (h _ hD)
theorem first_eq (v : Value) : firstOfTuple' v = (do
  if (← typeOf v) != .type "tuple" then return none
  return (← Builtin.List.listItems v)[0]?) := rfl
variable {h₀ : Heap}
theorem mapM_first (keep : ∀ b o, h₀.get? b = some o → s.heap.get? b = some o) : ∀ (T : List (Value × Str)) {Q : List (Option Value) → Shared → Prop}, (∀ p ∈ T, Tup h₀ p.1 p.2) → (∀ fs, StrsAre fs (T.map (·.2)) → Q (fs.map some) s) →
  wpAny (model prog w) A ((T.map (·.1)).mapM firstOfTuple') Q E s
 | [], Q, _, h => by rw [List.map_nil, List.mapM_nil]; exact wpAny_pure (h [] .nil)
 | p :: T, Q, ht, h => by
  obtain ⟨b, o, xs, m, t, e, g, hc, hd, hx⟩ := ht p (List.mem_cons_self ..)
  rw [List.map_cons, List.mapM_cons, e]
  refine wpAny_bind ?_
  rw [first_eq]
  refine wpAny_bind (wpAny_typeOf (T := "tuple") ⟨o, keep _ _ g, hc⟩ ?_)
  rw [if_neg (by decide)]
  refine wpAny_bind (listItems_at (keep _ _ g) hd (wpAny_pure ?_))
  rw [hx]
  exact wpAny_bind (mapM_first keep T (fun q hq => ht q (List.mem_cons_of_mem _ hq)) fun fs hfs => wpAny_pure (h (.str p.2 t :: fs) (.cons p.2 t hfs)))
theorem kind_pairs (keep : ∀ b o, h₀.get? b = some o → s.heap.get? b = some o) {T : List (Value × Str)} {Q : SortKind → Shared → Prop} (ht : ∀ p ∈ T, Tup h₀ p.1 p.2) (hne : 0 < T.length) (h : Q (tuples' true) s) : wpAny (model prog w) A (keyKind' (T.map (·.1)).toArray) Q E s := by
 rw [keyKind'_eq, List.mapM_toArray, map_eq_pure_bind]
 refine wpAny_bind (wpAny_bind (mapM_first keep T ht fun fs hfs => wpAny_pure ?_))
 rw [if_pos (by simp)]
 refine wpAny_bind (wpAny_rule ?_)
 rw [show (fs.map some).toArray.filterMap id = fs.toArray by simp, oneTypeOnly'_eq, List.mapM_toArray, mapM_typeOf_strs hfs]
 simp only [map_pure, pure_bind]
 have hl : 0 < fs.length := by rw [hfs.length, List.length_map]; exact hne
 obtain ⟨f, r, rfl⟩ : ∃ f r, fs = f :: r := by
  cases fs with
  | nil => cases hl
  | cons f r => exact ⟨f, r, rfl⟩
 have hall : ((List.map (fun ya => Value.type "str") (f :: r)).toArray.all fun x => x == Value.type "str") = true := by
  simp only [List.all_toArray, List.all_map, List.all_eq_true]
  intro _ _
  rfl
 rw [show (List.map (fun ya => Value.type "str") (f :: r)).toArray[0]? = some (Value.type "str") by simp]
 simp only [hall, if_true, pure_bind]
 exact wpAny_pure h
theorem perm_lift {α β : Type} {f : α → β} {out m : List β} (h : out.Perm m) : ∀ {L : List α}, m = L.map f → ∃ L' : List α, L'.Perm L ∧ L'.map f = out := by
 induction h with
 | nil => exact fun {L} e => ⟨L, .refl _, e.symm⟩
 | cons x _ ih =>
  intro L e
  cases L with
  | nil => cases e
  | cons a L =>
   obtain ⟨h1, h2⟩ := List.cons.inj e
   obtain ⟨L', p, e'⟩ := ih h2
   exact ⟨a :: L', p.cons a, by rw [List.map_cons, e', h1]⟩
 | swap x y l =>
  intro L e
  cases L with
  | nil => cases e
  | cons a L =>
   cases L with
   | nil => cases (List.cons.inj e).2
   | cons b L =>
    obtain ⟨h1, h2⟩ := List.cons.inj e
    obtain ⟨h3, h4⟩ := List.cons.inj h2
    exact ⟨b :: a :: L, .swap .., by rw [List.map_cons, List.map_cons, ← h4, h1, h3]⟩
 | trans _ _ ih1 ih2 =>
  intro L e
  obtain ⟨L2, p2, e2⟩ := ih2 e
  obtain ⟨L1, p1, e1⟩ := ih1 e2.symm
  exact ⟨L1, p1.trans p2, e1⟩
noncomputable def UpT (T : List (Value × Str)) : Prop := T.Pairwise fun p q => strLt p.2 q.2 = true
theorem upT_of {T : List (Value × Str)} {xs : Array Keyed} (ht : ∀ p ∈ T, Tup h₀ p.1 p.2) (e : xs.toList = T.map fun p => (p.1, p.1)) (hu : Up (KK (tupKind h₀) xs) T.length) : UpT T := by
 have hk : ∀ (i : Nat) (hi : i < T.length), KK (tupKind h₀) xs i = T[i].2.cps.toList := fun i hi => by
  have e1 : xs[i]? = some (T[i].1, T[i].1) := by rw [← Array.getElem?_toList, e, List.getElem?_map, List.getElem?_eq_getElem hi]; rfl
  unfold KK
  rw [e1]
  show (headS h₀ T[i].1).getD [] = _
  rw [(ht _ (List.getElem_mem hi)).head]; rfl
 unfold UpT
 rw [List.pairwise_iff_getElem]
 intro i j hi hj hij
 have := hu i j hij hj
 rw [hk i hi, hk j hj] at this
 exact this
theorem sort_pairs {a : Addr} {T : List (Value × Str)} {n : Nat} {P : PySem.Fin → Shared → Prop} (ho : s.heap.get? a = some (seqObj "list" (T.map (·.1)).toArray n)) (keep : ∀ b o, h₀.get? b = some o → s.heap.get? b = some o ∧ b ≠ a) (ht : ∀ p ∈ T, Tup h₀ p.1 p.2) (hn : (T.map (·.2)).Nodup) (h64 : T.length < 64)
  (h : ∀ T', T'.Perm T → UpT T' → P (.done (.ret .none)) { s with heap := sortedHeap s.heap a (T.map (·.1)) (T'.map (·.1)).toArray }) : wpAny (model prog w) A (Builtin.«list.sort» ⟨[.ref a], []⟩) P E s := by
 rw [list_sort_plain]
 have ha : a < s.heap.objs.size := Heap.lt_size ho
 have hlen : (T.map (·.1)).length = T.length := List.length_map ..
 have hvs : (T.map (·.1)).toArray.size = T.length := by simp
 have h24 : (16777216 : Nat) = sizeLine := rfl
 refine wpAny_bind (listItems_at ho rfl ?_)
 refine wpAny_bind (listUpdate_at ho rfl ?_ (by rw [hvs]; (first | lia | omega)) (Nat.zero_le _))
 obtain ⟨e1, ho1⟩ : ∃ e1, (s.heap.update a (Obj.mapSeq fun ya => #[])).get? a = some (seqObj "list" #[] e1) := ⟨_, get?_update_seq ho (fun ya => #[])⟩
 refine wpAny_bind (seqEpoch_at ho1 rfl ?_)
 refine wpAny_bind (wpAny_newTuple ?_)
 refine wpAny_bind (wpAny_newList ?_)
 refine wpAny_holding ?_
 have ho6 : (((s.heap.update a (Obj.mapSeq fun ya => #[])).push (seqObj "tuple" (T.map (·.1)).toArray 0)).push (seqObj "list" #[] 0)).get? a = some (seqObj "list" #[] e1) := Heap.get?_push_of_some _ (Heap.get?_push_of_some _ ho1)
 have keep6 : ∀ b o, h₀.get? b = some o → (((s.heap.update a (Obj.mapSeq fun ya => #[])).push (seqObj "tuple" (T.map (·.1)).toArray 0)).push (seqObj "list" #[] 0)).get? b = some o := fun b o e => by
  obtain ⟨k1, k2⟩ := keep b o e
  exact Heap.get?_push_of_some _ (Heap.get?_push_of_some _ ((Heap.get?_update_other _ _ (Ne.symm k2)).trans k1))
 show wpAny (model prog w) A _ P E { s with heap := ((s.heap.update a (Obj.mapSeq fun ya => #[])).push (seqObj "tuple" (T.map (·.1)).toArray 0)).push (seqObj "list" #[] 0) }
 have fin : ∀ st' : SortSt, (∃ T', T'.Perm T ∧ UpT T' ∧ (arrOf st').toList = T'.map fun p => (p.1, p.1)) → (arrOf st').size = T.length ∧ P (.done (.ret .none)) { s with heap := sortedHeap s.heap a (T.map (·.1)) ((arrOf st').map (·.2)) } := fun st' ⟨T', p, u, e⟩ => by
  have e2 : (arrOf st').map (·.2) = (T'.map (·.1)).toArray := by
   apply Array.toList_inj.mp
   rw [Array.toList_map, e, List.map_map]; rfl
  rw [e2]
  refine ⟨?_, h T' p u⟩
  rw [← Array.length_toList, e, List.length_map, p.length_eq]
 dsimp only
 by_cases h2 : (T.map (·.1)).toArray.size < 2
 ·rw [if_pos h2, if_pos h2]
  refine wpAny_bind (wpAny_pure ?_)
  rw [StateT.run_pure]
  refine wpAny_bind (wpAny_pure ?_)
  dsimp only
  obtain ⟨hz, hf⟩ := fin (SortSt.mk' general' ((T.map (·.1)).toArray.zip (T.map (·.1)).toArray) #[] 7 none) ⟨T, .refl _, by
   rw [hvs] at h2
   cases T with
   | nil => exact .nil
   | cons p T =>
    cases T with
    | nil => exact List.pairwise_singleton _ _
    | cons q T => exact absurd h2 (by simp), by
   show ((T.map (·.1)).toArray.zip (T.map (·.1)).toArray).toList = _
   rw [Array.toList_zip]; exact List.zip_map' ..⟩
  refine wpAny_bind (seqEpoch_at ho6 rfl ?_)
  refine wpAny_bind (listUpdate_at ho6 rfl ?_ (Nat.zero_le _) (by rw [Array.size_map]; exact Nat.le_trans (Nat.le_of_eq hz) (by (first | lia | omega))))
  simp only [bne_self_eq_false, Bool.false_eq_true, if_false]
  exact wpAny_pure hf
 ·rw [if_neg h2, if_neg h2]
  rw [hvs] at h2
  refine wpAny_bind (kind_pairs keep6 ht (by (first | lia | omega)) ?_)
  have hz : (PyProof.Rows.pairsOf (T.map (·.1))).toList = T.map fun p => (p.1, p.1) := by rw [pairsOf_toList]; exact List.zip_map' ..
  have hsz : (PyProof.Rows.pairsOf (T.map (·.1))).size = T.length := by rw [pairsOf_size, hlen]
  have S : Srt prog w A { s with heap := ((s.heap.update a (Obj.mapSeq fun ya => #[])).push (seqObj "tuple" (T.map (·.1)).toArray 0)).push (seqObj "list" #[] 0) } (tupKind h₀) (PyProof.Rows.pairsOf (T.map (·.1))) := {
   keys := fun p hp => by
    rw [hz] at hp
    obtain ⟨q, hq, rfl⟩ := List.mem_map.mp hp
    exact ⟨_, (ht q hq).head⟩
   nodup := by
    rw [hz, List.map_map]
    have e : (T.map ((fun p : Keyed => ((tupKind h₀).keyOf p.1).getD (tupKind h₀).dflt) ∘ fun p => (p.1, p.1))) = (T.map (·.2)).map fun x : Str => x.cps.toList := by
     rw [List.map_map]
     refine List.map_congr_left fun p hp => ?_
     show (headS h₀ p.1).getD [] = _
     rw [(ht p hp).head]; rfl
    rw [e]
    exact List.Pairwise.map _ (fun x y hxy e => hxy (by cases x; cases y; simpa using Array.toList_inj.mp e)) hn
   lt := fun x y c d Q E e1 e2 hne hq => by
    obtain ⟨x', ⟨b, o, xs, m, t, rfl, g1, _, d1, f1⟩, rfl⟩ := headS_is e1
    obtain ⟨y', ⟨b', o', ys, m', t', rfl, g2, _, d2, f2⟩, rfl⟩ := headS_is e2
    exact keyLt_head (keep6 _ _ g1) d1 (keep6 _ _ g2) d2 f1 f2 (fun e => hne (by rw [e])) hq }
  refine wpAny_bind (wpAny_mono (runs_ok S (st := SortSt.mk' (tuples' true) ((T.map fun p : Value × Str => p.1).toArray.zip (T.map fun p : Value × Str => p.1).toArray) #[] 7 none) (Q := fun ya st' => SEnd (tupKind h₀) (PyProof.Rows.pairsOf (T.map fun p : Value × Str => p.1)) st') ⟨Array.Perm.refl _, rfl, rfl, rfl⟩ (by rw [hsz]; (first | lia | omega)) (by rw [hsz]; exact h64) fun ya k => k) ?_ fun ya yb e => e)
  rintro ⟨⟨⟩, st'⟩ s' ⟨rfl, hp, hf, _, hu⟩
  dsimp only
  obtain ⟨T', p, e⟩ := perm_lift (Array.perm_iff_toList_perm.mp hp) hz
  rw [hsz, ← p.length_eq] at hu
  obtain ⟨hz', hF⟩ := fin st' ⟨T', p, upT_of (fun q hq => ht q (p.mem_iff.mp hq)) e.symm hu, e.symm⟩
  refine wpAny_bind (seqEpoch_at ho6 rfl ?_)
  refine wpAny_bind (listUpdate_at ho6 rfl ?_ (Nat.zero_le _) (by rw [Array.size_map]; exact Nat.le_trans (Nat.le_of_eq hz') (by (first | lia | omega))))
  rw [hf]
  simp only [bne_self_eq_false, Bool.false_eq_true, if_false]
  exact wpAny_pure hF
theorem sorted_pairs {l : Addr} {T : List (Value × Str)} {Q : Value → Shared → Prop} (hl : s.heap.IsList l (T.map (·.1)).toArray) (ht : ∀ p ∈ T, Tup s.heap p.1 p.2) (hn : (T.map (·.2)).Nodup) (h64 : T.length < 64)
  (h : ∀ T', T'.Perm T → UpT T' → Q (.ref (s.heap.objs.size + 1)) { s with heap := sortedAll s.heap (T.map (·.1)) (T'.map (·.1)).toArray }) : wpAny (model prog w) A (call (.builtin "sorted") [.ref l]) Q E s := by
 refine Calls.call_function_entry kind_sorted plain_sorted entry_sorted (args_sorted1 _) ?_
 unfold Builtin.«sorted»
 refine wpAny_bind (m := checkCount "sorted" 1 1 _) (wpAny_pure ?_)
 have hlen : (T.map (·.1)).length = T.length := List.length_map ..
 have h24 : (16777216 : Nat) = sizeLine := rfl
 refine wpAny_bind (collect_list hl ?_ (by (first | lia | omega)))
 refine wpAny_bind (wpAny_newList ?_)
 have hsz : ((s.heap.push (seqObj "list" #[] 0)).update s.heap.objs.size (Obj.mapSeq (· ++ (T.map (·.1)).toArray))).objs.size = s.heap.objs.size + 1 := by
  rw [Heap.size_update, size_push']
 have hoL : (((s.heap.push (seqObj "list" #[] 0)).update s.heap.objs.size (Obj.mapSeq (· ++ (T.map (·.1)).toArray))).push (seqObj "list" (T.map (·.1)).toArray 0)).get? (s.heap.objs.size + 1) = some (seqObj "list" (T.map (·.1)).toArray 0) := by
  rw [← hsz]; exact Heap.get?_push_size _ rfl
 show wpAny _ _ _ _ _ { s with heap := ((s.heap.push (seqObj "list" #[] 0)).update s.heap.objs.size (Obj.mapSeq (· ++ (T.map (·.1)).toArray))).push (seqObj "list" (T.map (·.1)).toArray 0) }
 rw [hsz]
 refine wpAny_bind (wpAny_holding (wpAny_call_entry slot_list_sort ⟨_, hoL, rfl⟩ entry_list_sort (sort_pairs (h₀ := s.heap) hoL (fun b o e => ?_) ht hn h64 fun T' p u => ⟨_, rfl, wpAny_pure ⟨_, rfl, h T' p u⟩⟩) (args_list_sort _)))
 have hb := Heap.lt_size e
 exact ⟨Heap.get?_push_of_some _ ((Heap.get?_update_other _ _ (Nat.ne_of_gt hb)).trans (Heap.get?_push_of_some _ e)), Nat.ne_of_lt (Nat.lt_succ_of_lt hb)⟩
end
section
variable {h₀ : Bse} {A : Around} {W : List Addr} {ρ : Map} {s : Shared} {σ : Store}
theorem labOf_eq {x : V} {p : Str × V} (h : labOf x = some p) : x = pairV p := by
 obtain ⟨l, h1, h2⟩ := Option.bind_eq_some_iff.mp h
 have e : x = .tup l := by
  cases x with
  | tup l' => exact congrArg V.tup (Option.some.inj h1)
  | _ => exact no_some h1
 subst e
 match l, h2 with
 | [a, q], h2 =>
  obtain ⟨k, h3, rfl⟩ := Option.map_eq_some_iff.mp h2
  cases a with
  | str a => rw [Option.some.inj h3]; rfl
  | _ => exact no_some h3
theorem Rel.pair {h : Heap} {v : Value} {p : Str × V} (r : Rel ρ h v (pairV p)) : Tup h v p.1 := by
 cases r with
 | tup g hl ra => cases ra with
  | cons rk ra => cases rk with
   | str k t hs => exact ⟨_, _, _, _, t, rfl, g, rfl, rfl, rfl⟩
theorem labs_rel {h : Heap} {l : List V} {vs : List Value} (r : RelAll ρ h vs l) : ∀ {ps : List (Str × V)}, allLabs l = some ps → ∃ L : List (Value × (Str × V)), L.map (·.1) = vs ∧ L.map (·.2) = ps ∧ ∀ q ∈ L, Tup h q.1 q.2.1 ∧ Rel ρ h q.1 (pairV q.2) := by
 induction l generalizing vs with
 | nil => intro ps e; cases r; cases e; exact ⟨[], rfl, rfl, fun q hq => absurd hq List.not_mem_nil⟩
 | cons x l ih =>
  intro ps e
  obtain ⟨p, h1, h2⟩ := Option.bind_eq_some_iff.mp e
  obtain ⟨ps', e', rfl⟩ := Option.map_eq_some_iff.mp h2
  have := labOf_eq h1
  subst this
  cases r with
  | @cons v vs _ _ r rs =>
   obtain ⟨L, h1, h2, h3⟩ := ih rs e'
   exact ⟨(v, p) :: L, by rw [List.map_cons, h1], by rw [List.map_cons, h2], List.forall_mem_cons.mpr ⟨⟨r.pair, r⟩, h3⟩⟩
noncomputable def LtP (a b : Str × V) : Prop := strLt a.1 b.1 = true
theorem strLt_chain {a b c : Str} (h1 : strLt a b = true) (h2 : strLt b c = true) : strLt a c = true := by
 unfold strLt at *
 exact decide_eq_true (List.lt_trans (of_decide_eq_true h1) (of_decide_eq_true h2))
theorem putP_perm {x : Str × V} : ∀ {l : List (Str × V)}, (putP x l).Perm (x :: l)
 | [] => .refl _
 | y :: r => by
  unfold putP
  by_cases h : strLt y.1 x.1 = true
  ·rw [if_pos h]; exact (putP_perm.cons y).trans (.swap ..)
  ·rw [if_neg h]
theorem sortP_perm : ∀ {l : List (Str × V)}, (sortP l).Perm l
 | [] => .refl _
 | x :: r => putP_perm.trans (sortP_perm.cons x)
theorem putP_up {x : Str × V} : ∀ {l : List (Str × V)}, l.Pairwise LtP → (∀ y ∈ l, y.1 ≠ x.1) → (putP x l).Pairwise LtP
 | [], _, _ => List.pairwise_singleton _ _
 | y :: r, h, hn => by
  unfold putP
  obtain ⟨h1, h2⟩ := List.pairwise_cons.mp h
  by_cases hl : strLt y.1 x.1 = true
  ·rw [if_pos hl]
   refine List.pairwise_cons.mpr ⟨fun z hz => ?_, putP_up h2 fun z hz => hn z (List.mem_cons_of_mem _ hz)⟩
   rcases List.mem_cons.mp (putP_perm.mem_iff.mp hz) with rfl | hz
   ·exact hl
   ·exact h1 z hz
  ·rw [if_neg hl]
   have hx : strLt x.1 y.1 = true := by
    cases e : strLt x.1 y.1 with
    | true => rfl
    | false => exact absurd (strLt_anti e (by simpa using hl)) (hn y (List.mem_cons_self ..))
   refine List.pairwise_cons.mpr ⟨fun z hz => ?_, h⟩
   rcases List.mem_cons.mp hz with rfl | hz
   ·exact hx
   ·exact strLt_chain hx (h1 z hz)
theorem sortP_up : ∀ {l : List (Str × V)}, (l.map (·.1)).Nodup → (sortP l).Pairwise LtP
 | [], _ => .nil
 | x :: r, h => by
  obtain ⟨h1, h2⟩ := List.nodup_cons.mp h
  exact putP_up (sortP_up h2) fun y hy e => h1 (List.mem_map.mpr ⟨y, sortP_perm.mem_iff.mp hy, e⟩)
theorem relAll_of {h : Heap} : ∀ {L : List (Value × (Str × V))}, (∀ q ∈ L, Rel ρ h q.1 (pairV q.2)) → RelAll ρ h (L.map (·.1)) (L.map fun q => pairV q.2)
 | [], _ => .nil
 | q :: L, hq => .cons (hq q (List.mem_cons_self ..)) (relAll_of fun z hz => hq z (List.mem_cons_of_mem _ hz))
theorem Sim.bSortedP {a : Addr} {vs : List Value} {m : Nat} {l : List V} {ps : List (Str × V)} (i : Inv h₀ σ ρ s.heap) (g : s.heap.get? a = some (listO vs m)) (r : RelAll ρ s.heap vs l) (h64 : l.length < 64) (hp : allLabs l = some ps) (hn : (ps.map (·.1)).Nodup) :
  Sim h₀ A W (call (.builtin "sorted") [.ref a]) (newO (.list ((sortP ps).map pairV)) σ) RV ρ s := by
 obtain ⟨L, rfl, rfl, hL⟩ := labs_rel r hp
 have hmm : ∀ K : List (Value × (Str × V)), (K.map fun q => (q.1, q.2.1)).map (·.1) = K.map (·.1) := fun K => by rw [List.map_map]; rfl
 have hlen := r.length
 rw [List.length_map] at hlen
 refine Sim.newListAt i fun Q E hQ => sorted_pairs (T := L.map fun q => (q.1, q.2.1)) (by rw [hmm]; exact isList_of g) (fun p hp => ?_) (by rw [List.map_map] at hn ⊢; exact hn) (by rw [List.length_map]; (first | lia | omega)) fun T' p u => ?_
 ·obtain ⟨q, hq, rfl⟩ := List.mem_map.mp hp
  exact (hL q hq).1
 ·obtain ⟨L', p', e'⟩ := perm_lift p rfl
  subst e'
  rw [hmm, hmm]
  have hL' : ∀ q ∈ L', Rel ρ s.heap q.1 (pairV q.2) := fun q hq => (hL q (p'.mem_iff.mp hq)).2
  obtain ⟨e, he⟩ := sortedAll_at s.heap (L.map (·.1)) (L'.map (·.1)).toArray
  have hs : L'.map (·.2) = sortP (L.map (·.2)) := by
   refine List.Perm.eq_of_pairwise (le := LtP) (fun a b ya yb h1 h2 => ?_) (List.pairwise_map.mpr ((List.pairwise_map (f := fun q : Value × (Str × V) => (q.1, q.2.1)) (R := fun p q : Value × Str => strLt p.2 q.2 = true)).mp u)) (sortP_up hn) ((p'.map _).trans sortP_perm.symm)
   exact absurd (strLt_total h1) (by rw [show strLt b.1 a.1 = true from h2]; decide)
  have rr : RelAll ρ s.heap (L'.map (·.1)) ((sortP (L.map (·.2))).map pairV) := by
   rw [← hs, List.map_map]; exact relAll_of hL'
  refine hQ _ (L'.map (·.1)) e _ s.toks (fun ya yb => sortedAll_old) ?_ (by simpa [listO, seqObj] using he) (by rw [List.length_map, p'.length_eq]; have : (16777216 : Nat) = sizeLine := rfl; (first | lia | omega)) (rr.sub (Sub.keeps fun ya yb => sortedAll_old))
  cases e1 : s.heap.get? (s.heap.objs.size + 1) with
  | none => rfl
  | some o => exact absurd (Heap.lt_size e1) (Nat.not_lt.mpr (Nat.le_succ _))
theorem Sim.bSorted {a : Value} {x : V} (i : Inv h₀ σ ρ s.heap) (ra : Rel ρ s.heap a x) : Sim h₀ A W (call (.builtin "sorted") [a]) (bSorted x σ) RV ρ s := by
 cases ra with
 | ref er =>
  refine Sim.getList fun l hσ => Sim.ite fun hc => Sim.optThen fun o ho => ?_
  obtain ⟨vs, m, g, hl, r⟩ := i.list hσ er
  unfold sortL at ho
  cases e1 : allStrs l with
  | some ss =>
   rw [e1] at ho
   cases ho
   exact Sim.bSortedS i g r hc e1
  | none =>
   rw [e1] at ho
   dsimp only at ho
   cases e2 : allLabs l with
   | none => rw [e2] at ho; cases ho
   | some ps =>
    rw [e2] at ho
    dsimp only at ho
    by_cases hn : (ps.map (·.1)).Nodup
    ·rw [if_pos hn] at ho
     cases ho
     exact Sim.bSortedP i g r hc e2 hn
    ·rw [if_neg hn] at ho; cases ho
 | _ => exact trivial
end
end Mine.Internal

set_option backward.match.sparseCases false
namespace Mine.Internal
open PySem PyProof.Rows PySem.Calls
section
variable {prog : Program} {w : World} {A : Around} {E : Value → Shared → Prop} {s : Shared}
set_option backward.match.sparseCases true in
theorem call_tree_kw {id : String} {b : Builtin} {args : List Value} {kw : List (Str × Value)} {Q : Value → Shared → Prop} (hk : builtinKind id = none) (hp : plainId id = true) (hb : entryFor table id = some b) (ha : argsOk id ⟨args, kw⟩)
  (hc : wpAny (model prog w) A.in1 (b ⟨args, kw⟩) (fun fin s' => match fin with
   | .done f => (match (Except.ok f : Result) with | .ok (.ret v) => Q v s' | .ok _ => False | .error e => E e s')
   | .again c' => c'.quiet = true ∧ codeAny (model prog w) A c' (fun r s' => match r with | .ok (.ret v) => Q v s' | .ok _ => False | .error e => E e s') s') E s) :
  wpAny (model prog w) A (call (.builtin id) args kw) Q E s := by
 refine wpAny_call (codeAny_call_builtin hp hb ?_)
 simp only [checkBuiltinCall, hk]
 cases hsig : Manifest.signature? id with
 | none => exact wpAny_pure hc
 | some sig =>
  have h2 : Bind.checkArgs id sig ⟨args, kw⟩ = pure () := by simpa only [argsOk, hsig] using ha
  simp only [h2]
  exact wpAny_pure hc
theorem args_maxD (a : Value) (z : Int) (t : Tok) : argsOk "max" ⟨[a], [(Str.ofString "default", .int z t)]⟩ := by unfold argsOk; kernel_rfl
variable {R : Result → Shared → Prop} {I : Addr} {fp wr : List Addr} {n : Nat} {P : Nat → Value → Prop} {St : Nat → Heap → Prop}
noncomputable abbrev two (b : Int) (t : Tok) (c : Nat) : Obj := { cls := .type "list", dict := none, data := .seq #[.int b t, .int b t] c, slots := #[] }
theorem max_loop (W : Walks prog w A.in1 I fp wr n P St) {S : Addr} (hSf : S ∉ fp) {val : Nat → Int} (hval : ∀ i v, P i v → ∃ t, v = .int (val i) t) (d : Value) :
  ∀ (k i : Nat) (s : Shared) (b : Int) (t : Tok) (c : Nat), n = i + k → St i s.heap → s.heap.get? S = some (two b t c) →
  (∀ h' tk t', (∀ x o, x ∉ wr → x ≠ S → s.heap.get? x = some o → h'.get? x = some o) → R (.ok (.ret (.int (((List.range' i k).map val).foldl max b) t'))) (At s h' tk)) →
  codeAny (model prog w) A (.builtin "max.loop" ⟨[.ref I, .none, .ref S], [(Str.ofString "default", d)]⟩) R s := by
 have hSw : S ∉ wr := fun h => hSf (W.sub _ h)
 have hname : (toString "max" ++ toString ".loop" : String) = "max.loop" := by decide
 intro k
 induction k with
 | zero =>
  intro i s b t c hn hst hS hR
  refine codeAny_builtin F.entry_max_loop ?_
  rw [Around.under_plainId F.plain_max_loop _]
  show wpAny _ A.in1 (seqItems? (.ref S) >>= _) _ _ s
  refine wpAny_bind (wpAny_seqItems hS rfl ?_)
  show wpAny _ A.in1 (tryCatch (pyNext (.ref I)) _ >>= _) _ _ s
  refine wpAny_bind (wpAny_tryCatch (W.done s _ _ (hn ▸ hst) fun h' tk hk' => ?_))
  show wpAny _ A.in1 (updateSeq S (fun ya => #[]) >>= _) _ _ _
  refine wpAny_bind (wpAny_updateSeq (hk' S _ hSw hS) rfl (wpAny_bind (wpAny_letGo (wpAny_pure ?_))))
  exact hR _ tk t fun x o h1 h2 e => (Heap.get?_update_other _ _ (Ne.symm h2)).trans (hk' x o h1 e)
 | succ k ih =>
  intro i s b t c hn hst hS hR
  refine codeAny_builtin F.entry_max_loop ?_
  rw [Around.under_plainId F.plain_max_loop _]
  show wpAny _ A.in1 (seqItems? (.ref S) >>= _) _ _ s
  refine wpAny_bind (wpAny_seqItems hS rfl ?_)
  show wpAny _ A.in1 (tryCatch (pyNext (.ref I)) _ >>= _) _ _ s
  refine wpAny_bind (wpAny_tryCatch (W.item i s _ _ (by (first | lia | omega)) hst fun v h' tk hP hst' hk' => ?_))
  have hS' := hk' S _ hSw hS
  obtain ⟨u, rfl⟩ := hval i v hP
  have hR' : ∀ h'' tk t', (∀ x o, x ∉ wr → x ≠ S → s.heap.get? x = some o → h''.get? x = some o) → R (.ok (.ret (.int (((List.range' (i + 1) k).map val).foldl max (max b (val i))) t'))) (At s h'' tk) := hR
  show wpAny _ A.in1 (tryCatch (holding [.int (val i) u, .int (val i) u] (richCompare .Gt (.int (val i) u) (.int b t) >>= _)) _ >>= _) _ _ _
  refine wpAny_bind (wpAny_tryCatch (wpAny_holding (wpAny_bind (richCompare_gives (op := .Gt) (typeIs_int _ _ _) (typeIs_int _ _ _) PySem.F.slot_int_gt PySem.F.entry_int_gt (PySem.F.args_int_gt_2 _ _) (gives_int_gt _ _ _ _) (fun x => nomatch x) ?_))))
  refine wpAny_bind (wpAny_holding (wpAny_truthy_bool ?_))
  refine wpAny_bind (wpAny_letGo (wpAny_pure ?_))
  cases hb : decide (val i > b) with
  | true =>
   simp only [if_true]
   refine wpAny_bind ?_
   refine wpAny_updateSeq hS' rfl (wpAny_bind (wpAny_letGo ?_))
   rw [hname]
   rw [show max b (val i) = val i from Int.max_eq_right (Int.le_of_lt (of_decide_eq_true hb))] at hR'
   refine wpAny_pure ⟨plainId_quiet F.plain_max_loop _, ih (i + 1) _ (val i) u _ (by (first | lia | omega)) (W.frame _ _ _ hst' fun b hbf o e => (Heap.get?_update_other _ _ (fun h : S = b => hSf (by rw [h]; exact hbf))).trans e) (Heap.get?_update_self _ hS' rfl) fun h'' tk'' t' hk'' => ?_⟩
   exact hR' h'' tk'' t' fun x o h1 h2 e => hk'' x o h1 h2 ((Heap.get?_update_other _ _ (Ne.symm h2)).trans (hk' x o h1 e))
  | false =>
   simp only [Bool.false_eq_true, if_false]
   refine wpAny_bind (wpAny_letGo ?_)
   rw [hname]
   rw [show max b (val i) = b from Int.max_eq_left (Int.not_lt.mp (of_decide_eq_false hb))] at hR'
   exact wpAny_pure ⟨plainId_quiet F.plain_max_loop _, ih (i + 1) _ b t c (by (first | lia | omega)) hst' hS' fun h'' tk'' t' hk'' => hR' h'' tk'' t' fun x o h1 h2 e => hk'' x o h1 h2 (hk' x o h1 e)⟩
theorem max_first (W : Walks prog w A.in1 I fp wr n P St) {S : Addr} (hSf : S ∉ fp) {val : Nat → Int} (hval : ∀ i v, P i v → ∃ t, v = .int (val i) t) {z : Int} {u : Tok} {c : Nat} (hst : St 0 s.heap)
  (hS : s.heap.get? S = some { cls := .type "list", dict := none, data := .seq #[] c, slots := #[] })
  (hR : ∀ h' tk t', (∀ x o, x ∉ wr → x ≠ S → s.heap.get? x = some o → h'.get? x = some o) → R (.ok (.ret (.int (maxOf z ((List.range' 0 n).map val)) t'))) (At s h' tk)) :
  codeAny (model prog w) A (.builtin "max.loop" ⟨[.ref I, .none, .ref S], [(Str.ofString "default", .int z u)]⟩) R s := by
 have hSw : S ∉ wr := fun h => hSf (W.sub _ h)
 have hname : (toString "max" ++ toString ".loop" : String) = "max.loop" := by decide
 refine codeAny_builtin F.entry_max_loop ?_
 rw [Around.under_plainId F.plain_max_loop _]
 show wpAny _ A.in1 (seqItems? (.ref S) >>= _) _ _ s
 refine wpAny_bind (wpAny_seqItems hS rfl ?_)
 show wpAny _ A.in1 (tryCatch (pyNext (.ref I)) _ >>= _) _ _ s
 cases n with
 | zero =>
  refine wpAny_bind (wpAny_tryCatch (W.done s _ _ hst fun h' tk hk' => ?_))
  refine wpAny_bind (wpAny_rule (wpAny_pure ?_))
  exact hR _ tk u fun x o h1 ya e => hk' x o h1 e
 | succ n =>
  refine wpAny_bind (wpAny_tryCatch (W.item 0 s _ _ (Nat.succ_pos _) hst fun v h' tk hP hst' hk' => ?_))
  have hS' := hk' S _ hSw hS
  obtain ⟨t, rfl⟩ := hval 0 v hP
  show wpAny _ A.in1 (updateSeq S (fun ya => #[.int (val 0) t, .int (val 0) t]) >>= _) _ _ _
  refine wpAny_bind ?_
  refine wpAny_updateSeq hS' rfl ?_
  rw [hname]
  exact wpAny_pure ⟨plainId_quiet F.plain_max_loop _, max_loop W hSf hval _ n 1 _ (val 0) t _ (Nat.add_comm _ _) (W.frame _ _ _ hst' fun b hbf o e => (Heap.get?_update_other _ _ (fun h : S = b => hSf (by rw [h]; exact hbf))).trans e) (Heap.get?_update_self _ hS' rfl) fun h'' tk'' t' hk'' =>
   hR h'' tk'' t' fun x o h1 h2 e => hk'' x o h1 h2 ((Heap.get?_update_other _ _ (Ne.symm h2)).trans (hk' x o h1 e))⟩
theorem call_maxD {x : Value} {z : Int} {u : Tok} {Q : Value → Shared → Prop}
  (h : wpAny (model prog w) A.in1 (pyIter x) (fun it s₂ => ∃ I fp wr n P St val, it = .ref I ∧ Walks prog w A.in1 I fp wr n P St ∧ St 0 s₂.heap ∧ (∀ b ∈ fp, b < s₂.heap.objs.size) ∧ (∀ i v, P i v → ∃ t, v = .int (val i) t) ∧
   ∀ h' tk t', (∀ b o, b ∉ wr → s₂.heap.get? b = some o → h'.get? b = some o) → Q (.int (maxOf z ((List.range' 0 n).map val)) t') (At s₂ h' tk)) E s) :
  wpAny (model prog w) A (call (.builtin "max") [x] [(Str.ofString "default", .int z u)]) Q E s := by
 have hname : (toString "max" ++ toString ".loop" : String) = "max.loop" := by decide
 refine call_tree_kw F.kind_max F.plain_max F.entry_max (args_maxD _ _ _) ?_
 show wpAny _ A.in1 (Builtin.Builtins.bindParams "max" ["key", "default"] 0 ⟨[], [(Str.ofString "default", .int z u)]⟩ >>= _) _ _ s
 refine wpAny_bind (wpAny_of_eq (show Builtin.Builtins.bindParams "max" ["key", "default"] 0 ⟨[], [(Str.ofString "default", .int z u)]⟩ = pure [none, some (.int z u)] from rfl) ?_)
 refine wpAny_bind (wpAny_pure ?_)
 refine wpAny_bind (wpAny_mono h (fun it s₂ h₂ => ?_) fun ya yb e => e)
 obtain ⟨I, fp, wr, n, P, St, val, rfl, W, hst, hfp, hval, hQ⟩ := h₂
 refine wpAny_bind (wpAny_newObj_type ?_)
 have hSf : s₂.heap.objs.size ∉ fp := fun hm => Nat.lt_irrefl _ (hfp _ hm)
 rw [hname]
 exact wpAny_pure ⟨plainId_quiet F.plain_max_loop _, max_first W hSf hval (W.frame _ _ _ hst fun b ya o e => Heap.get?_push_of_some _ e) (Heap.get?_push_size _ rfl) fun h' tk t' hk =>
  hQ h' tk t' fun b o hbw e => hk b o hbw (Nat.ne_of_lt (Heap.lt_size e)) (Heap.get?_push_of_some _ e)⟩
end
section
variable {h₀ : Bse} {A : Around} {W : List Addr} {ρ : Map} {s : Shared} {σ : Store}
theorem getD_range' {is : List Int} : (List.range' 0 is.length).map (fun i => is.getD i 0) = is := by
 apply List.ext_getElem
 ·simp
 ·intro i h1 h2
  simp [h2]
theorem intsAre_at {vs : List Value} {is : List Int} (q : IntsAre vs is) : ∀ {i : Nat} {v : Value}, vs[i]? = some v → ∃ t, v = .int (is.getD i 0) t := by
 induction q with
 | nil => intro i v h; cases h
 | cons n t r ih =>
  intro i v h
  cases i with
  | zero => cases h; exact ⟨t, rfl⟩
  | succ i => exact ih h
theorem Sim.bMax {a : Value} {x : V} {z : Int} {u : Tok} (hh : A.handled = none) (i : Inv h₀ σ ρ s.heap) (ra : Rel ρ s.heap a x) : Sim h₀ A W (call (.builtin "max") [a] [(Str.ofString "default", .int z u)]) (bMax z x σ) RV ρ s := by
 cases ra with
 | @ref ad d n er =>
  refine Sim.getList fun l hσ => Sim.optThen fun is his => ?_
  obtain ⟨vs, m, g, hl, r⟩ := i.list hσ er
  have hi := intsAre_of r his
  have hI : ad ≠ s.heap.objs.size := Nat.ne_of_lt (Heap.lt_size g)
  refine Sim.grown i fun Q E hQ => call_maxD (wpAny_pyIter_list (isList_of g) ⟨_, _, _, _, _, _, fun i => is.getD i 0, rfl, Walks.list (A := A.in1) hh s.heap.objs.size ad hI vs.toArray, ⟨⟨_, Heap.get?_push_size _ rfl, rfl, rfl⟩, isList_of (Heap.get?_push_of_some _ g)⟩, fun b hb => ?_, fun i v hv => ?_, fun h' tk t' hk => ?_⟩)
  ·show b < (s.heap.push _).objs.size
   rw [Heap.size_push]
   rcases List.mem_cons.mp hb with rfl | hb
   ·exact Nat.lt_succ_self _
   ·rw [List.mem_singleton.mp hb]; exact Nat.lt_succ_of_lt (Heap.lt_size g)
  ·exact intsAre_at hi (by simpa using hv)
  ·have hsz : vs.toArray.size = is.length := by rw [← hi.length]; simp
   rw [hsz, getD_range']
   exact hQ _ h' tk (fun b o e => hk b o (fun hm => by rw [List.mem_singleton.mp hm] at e; exact absurd (Heap.lt_size e) (Nat.lt_irrefl _)) (Heap.get?_push_of_some _ e)) (.int _ _)
 | _ => exact trivial
end
end Mine.Internal

set_option backward.match.sparseCases false
namespace Mine.Internal
open PySem PyProof.Rows
structure FdOk (fd : FuncData) (f : Fn) : Prop where
 body : fd.body = .stmts f.body
 names : fd.scope.names = f.names
 kind : fd.scope.kind = .function
 co : fd.scope.isCoroutine = false
 gen : fd.scope.isGenerator = false
 clo : fd.closure = []
 globals : fd.globals = mainGlobals
 blts : fd.builtins = builtinsNs
 binds : ∀ vals : List Value, vals.length = f.params.length → bindArgs fd ⟨vals, []⟩ = pure (f.params.zip vals)
 pkind : ∀ x ∈ f.params, f.names.lookup x = some .local ∨ f.names.lookup x = some .cell
 nodup : f.params.Nodup
noncomputable def bltNames : List Str := ["len", "list", "tuple", "isinstance", "bool", "int", "str", "range", "enumerate", "sorted", "sum", "all", "max", "min", "dict", "zip", "reversed", "set", "ValueError"]
structure Base (fns : Str → Option Fn) (glob : Str → Option V) (ups : Str → Option (List Str)) (mg mb : Str → Option Value) (h₀ : Heap) : Prop where
 g : h₀.Ns mainGlobals mg
 b : h₀.Ns builtinsNs mb
 nolimit : h₀.NoLimit
 fn : ∀ f fn, fns f = some fn → ∃ a o fd, mg f = some (.ref a) ∧ h₀.get? a = some o ∧ o.data = .func fd ∧ FdOk fd fn ∧ h₀.CodeRec fd.code fd.qualname
 blt : ∀ f ∈ bltNames, fns f = none → mg f = none ∧ mb f = bootBuiltins f
 const : ∀ x v, glob x = some v → ∃ val, mg x = some val ∧ ∀ ρ h, Rel ρ h val v
 cls : ∀ c us, ups c = some us → ∃ C bm, mg c = some (.ref C) ∧ XCls h₀ C bm ∧ (Value.ref C :: bm).contains (.type "ValueError") = us.contains "ValueError" ∧ ∀ t ut D, ups t = some ut → mg t = some (.ref D) → (Value.ref C :: bm).contains (.ref D) = us.contains t
section
variable {h₀ : Bse} {A : Around} {W : List Addr} {ρ : Map} {s : Shared} {σ : Store} {fns : Str → Option Fn} {glob : Str → Option V} {ups : Str → Option (List Str)} {mg mb : Str → Option Value}
variable {env : Env} {ns : Names} {loc : Loc} {C : Cfg} {n : Nat}
theorem Frm.kindOf (F : Frm h₀ env ns loc ρ s.heap) {x : Str} {i : Nat} {k : NameKind} (h : slot ns x = some (i, k)) : env.kindOf x = some k := by
 show env.scope.names.lookup x = some k
 rw [F.names]; exact slot_lookup h
theorem Frm.ext0 {ρ' : Map} {h h' : Heap} (F : Frm h₀ env ns loc ρ h) (x : Ext [] ρ h ρ' h') : Frm h₀ env ns loc ρ' h' := F.ext x fun ya hm => nomatch hm
theorem isGlob_slot {x : Str} (h : isGlob ns x = true) : (∃ i, slot ns x = some (i, .globalImplicit)) ∧ (x == ("__debug__" : Str)) = false := by
 unfold isGlob at h
 split at h
 ·exact ⟨⟨_, by assumption⟩, by simpa using h⟩
 ·cases h
theorem Sim.ldLoc {i : Nat} {t : Sem Value} (h : ∀ v, loc[i]? = some (some v) → Sim h₀ A W t (.ok v σ) RV ρ s) : Sim h₀ A W t (ldLoc loc i σ) RV ρ s := by
 refine Sim.ofOpt fun v hv => h v ?_
 cases e : loc[i]? with
 | none => rw [e] at hv; cases hv
 | some o => rw [e] at hv; cases o with
  | none => cases hv
  | some u => cases hv; rfl
theorem Sim.name {x : Str} {pos : Pos} (B : Base fns glob ups mg mb h₀.heap) (hg : C.glob = glob) (F : Frm h₀ env ns loc ρ s.heap) (i : Inv h₀ σ ρ s.heap) :
  Sim h₀ A W (eval (.Name x pos) env) (ev C (.Name x pos) ns loc σ) RV ρ s := by
 show Sim h₀ A W _ ((if x = ("__debug__" : Str) then M.bad else ldName C ns x loc) σ) RV ρ s
 by_cases hx : x = ("__debug__" : Str)
 ·rw [if_pos hx]; exact trivial
 ·rw [if_neg hx]
  have hd : (x == ("__debug__" : Str)) = false := by simpa using hx
  cases hs : slot ns x with
  | none => unfold ldName; rw [hs]; exact trivial
  | some p =>
   obtain ⟨j, k⟩ := p
   cases k with
   | «local» =>
    have e : ldName C ns x loc = Mine.Internal.ldLoc loc j := by unfold ldName; rw [hs]
    rw [e]
    refine Sim.ldLoc fun v hv => ?_
    obtain ⟨m, hn, hl⟩ := F.vars
    obtain ⟨val, hm, r⟩ := hl x j v hs hv
    exact Sim.same i fun Q E hQ => wpAny_Name (wpAny_loadName_local F.kind (F.kindOf hs) hn hm (hQ _ s.toks r)) hd
   | cell =>
    have e : ldName C ns x loc = Mine.Internal.ldLoc loc j := by unfold ldName; rw [hs]
    rw [e]
    refine Sim.ldLoc fun v hv => ?_
    obtain ⟨c, o, hc, hcell, hl⟩ := F.cell x j hs
    obtain ⟨val, rfl, r⟩ := hl v hv
    exact Sim.same i fun Q E hQ => wpAny_Name (wpAny_loadName_cell F.kind (F.kindOf hs) hc hcell (hQ _ s.toks r)) hd
   | free => unfold ldName; rw [hs]; exact trivial
   | globalImplicit =>
    have e : ldName C ns x loc = Mine.Internal.ofOpt (C.glob x) := by unfold ldName; rw [hs]
    rw [e, hg]
    refine Sim.ofOpt fun v hv => ?_
    obtain ⟨val, hm, r⟩ := B.const x v hv
    exact Sim.same i fun Q E hQ => Calls.Name_function_global F.kind (F.kindOf hs) (Calls.loadGlobal_global (by rw [F.globals]; exact B.g.keeps i.base) hm (hQ _ s.toks (r _ _))) hd
   | globalExplicit => unfold ldName; rw [hs]; exact trivial
theorem wp_global {x : Str} {pos : Pos} {v : Value} {Q : Value → Shared → Prop} {E : Value → Shared → Prop} (B : Base fns glob ups mg mb h₀.heap) (F : Frm h₀ env ns loc ρ s.heap) (i : Inv h₀ σ ρ s.heap) (hx : isGlob ns x = true) (hv : mg x = some v) (h : Q v s) :
  wpAny (model h₀.prog h₀.w) A (eval (.Name x pos) env) Q E s := by
 obtain ⟨⟨j, hs⟩, hd⟩ := isGlob_slot hx
 exact Calls.Name_function_global F.kind (F.kindOf hs) (Calls.loadGlobal_global (by rw [F.globals]; exact B.g.keeps i.base) hv h) hd
theorem wp_builtin {x : Str} {pos : Pos} {v : Value} {Q : Value → Shared → Prop} {E : Value → Shared → Prop} (B : Base fns glob ups mg mb h₀.heap) (F : Frm h₀ env ns loc ρ s.heap) (i : Inv h₀ σ ρ s.heap) (hx : isGlob ns x = true) (hn : x ∈ bltNames) (hf : fns x = none)
  (hv : bootBuiltins x = some v) (h : Q v s) : wpAny (model h₀.prog h₀.w) A (eval (.Name x pos) env) Q E s := by
 obtain ⟨⟨j, hs⟩, hd⟩ := isGlob_slot hx
 obtain ⟨h1, h2⟩ := B.blt x hn hf
 exact Calls.Name_function_global F.kind (F.kindOf hs) (Calls.loadGlobal_builtin (by rw [F.globals]; exact B.g.keeps i.base) h1 (by rw [F.blts]; exact B.b.keeps i.base) (h2.trans hv) h) hd
theorem Sim.wrap {α β : Type} {t t' : Sem β} {r : Res α} {R : α → Map → Heap → β → Prop} (hw : ∀ (Q : β → Shared → Prop) (E : Value → Shared → Prop), wpAny (model h₀.prog h₀.w) A t Q E s → wpAny (model h₀.prog h₀.w) A t' Q E s)
  (h : Sim h₀ A W t r R ρ s) : Sim h₀ A W t' r R ρ s := by
 cases r with
 | bad => exact trivial
 | exc _ _ => exact hw _ _ h
 | ok a σ' => exact hw _ _ h
theorem Sim.operate {vs : List Value} {t : Sem Value} {r : Res V} {R : V → Map → Heap → Value → Prop} (h : Sim h₀ A W t r R ρ s) : Sim h₀ A W (PySem.operate vs t) r R ρ s :=
 Sim.wrap (fun ya yb => wpAny_operating) h
variable (h₀ C n) in
noncomputable def EvS (e : Expr) : Prop := ∀ (env : Env) (ns : Names) (loc : Loc) (σ : Store) (ρ : Map) (s : Shared) (A : Around), Rm h₀ A n C.calm → Frm h₀ env ns loc ρ s.heap → Inv h₀ σ ρ s.heap →
 Sim h₀ A [] (eval e env) (ev C e ns loc σ) RV ρ s
variable (h₀ C n) in
noncomputable def TstS (e : Expr) : Prop := ∀ (env : Env) (ns : Names) (loc : Loc) (σ : Store) (ρ : Map) (s : Shared) (A : Around), Rm h₀ A n C.calm → Frm h₀ env ns loc ρ s.heap → Inv h₀ σ ρ s.heap →
 Sim h₀ A [] (isTrue e env (eval e env)) (tst C e ns loc (ev C e ns loc) σ) RB ρ s
variable (h₀ C n) in
noncomputable def EvsS (es : List Expr) : Prop := ∀ (env : Env) (ns : Names) (loc : Loc) (σ : Store) (ρ : Map) (s : Shared) (A : Around) (pos : Pos), Rm h₀ A n C.calm → Frm h₀ env ns loc ρ s.heap → Inv h₀ σ ρ s.heap →
 Sim h₀ A [] (spliced (backTo pos (starEach es env))) (evs C es ns loc σ) RL ρ s
theorem Rm.u {A : Around} {q : Bool} (h : Rm h₀ A n q) : A.units + 201 < cLine := by have := h.units; (first | lia | omega)
theorem ev_const {c : Const} {k : Nat} {pos : Pos} : EvS h₀ C n (.Constant c k pos) := fun env ns loc σ ρ s A hA F i => by
 show Sim h₀ A [] (constValue env c) (constV c σ) RV ρ s
 cases c with
 | none => exact Sim.ret i .none
 | bool b => exact Sim.ret i (.bool b)
 | int z => exact Sim.same i fun Q E hQ => wpAny_mkInt (hQ _ _ (.int _ _))
 | str x => exact Sim.ite fun hc => Sim.same i fun Q E hQ => wpAny_mkText (hQ _ _ (.str _ _ hc))
 | float _ => exact trivial
 | complex _ _ => exact trivial
 | bytes _ => exact trivial
 | ellipsis => exact trivial
theorem ev_binop {l r : Expr} {op : Operator} {pos : Pos} (hl : EvS h₀ C n l) (hr : EvS h₀ C n r) : EvS h₀ C n (.BinOp l op r pos) := fun env ns loc σ ρ s A hA F i => by
 rw [arm_eval_BinOp]
 show Sim h₀ A [] _ ((ev C l ns loc >>= fun a => ev C r ns loc >>= fun b => binop op a b) σ) RV ρ s
 refine Sim.bind (hl env ns loc σ ρ s A hA F i) fun a σ₁ ρ₁ H₁ tk₁ va i₁ x₁ r₁ => ?_
 refine Sim.bind (Sim.holding (hr env ns loc σ₁ ρ₁ _ A hA (F.ext0 x₁) i₁)) fun b σ₂ ρ₂ H₂ tk₂ vb i₂ x₂ r₂ => ?_
 exact Sim.standAt (Sim.operate (Sim.binop i₂ (r₁.ext x₂) r₂))
theorem ev_not {x : Expr} {pos : Pos} (hx : EvS h₀ C n x) : EvS h₀ C n (.UnaryOp .Not x pos) := fun env ns loc σ ρ s A hA F i => by
 rw [arm_eval_UnaryOp]
 show Sim h₀ A [] _ ((ev C x ns loc >>= fun a => truth a >>= fun t => pure (V.bool (!t))) σ) RV ρ s
 refine Sim.bind (hx env ns loc σ ρ s A hA F i) fun a σ₁ ρ₁ H₁ tk₁ va i₁ x₁ r₁ => ?_
 refine Sim.standAt (Sim.holding ?_)
 have := Sim.truth (h₀ := h₀) (A := A) (W := []) (s := (At s H₁ tk₁)) i₁ r₁
 cases e : truth a σ₁ with
 | bad => rw [bind_bad e]; exact trivial
 | exc v σ' => rw [bind_exc e]; rw [e] at this; exact not_value (wpAny_mono this (fun ya yb f => f.elim) fun ya yb x => x)
 | ok b σ' =>
  rw [bind_ok e]
  rw [e] at this
  refine not_value (wpAny_mono this (fun b' s' hp => ?_) fun ya yb x => x)
  exact hp.mono fun ρ' h' e => by cases e; exact .bool _
theorem ev_usub {z : Int} {k : Nat} {p pos : Pos} : EvS h₀ C n (.UnaryOp .USub (.Constant (.int z) k p) pos) := fun env ns loc σ ρ s A hA F i => by
 show Sim h₀ A [] _ ((pure (V.int (-z)) : M V) σ) RV ρ s
 exact Sim.same i fun Q E hQ => wpAny_UnaryOp (wpAny_Constant_int (neg_int (hQ _ _ (.int _ _))))
theorem markedBehindIn_sim {op : CmpOp} {r : Expr} {t : Sem Value} {res : Res V} (hr : ∀ es k p, r ≠ .Set es k p) (h : Sim h₀ A W t res RV ρ s) : Sim h₀ A W (markedBehindIn op r t) res RV ρ s := by
 have e : behindInMarks op r = false := by cases r <;> first | rfl | exact absurd rfl (hr _ _ _)
 rw [markedBehindIn_of_false e]; exact h
theorem ev_set {es : List Expr} {k : Nat} {p : Pos} : ev C (.Set es k p) ns loc = M.bad := rfl
theorem ev_compare {l r : Expr} {op : CmpOp} {pos : Pos} (hl : EvS h₀ C n l) (hr : EvS h₀ C n r) : EvS h₀ C n (.Compare l [op] [r] pos) := fun env ns loc σ ρ s A hA F i => by
 rw [eval_Compare1]
 show Sim h₀ A [] _ ((ev C l ns loc >>= fun a => ev C r ns loc >>= fun b => cmp op a b) σ) RV ρ s
 refine Sim.bind (hl env ns loc σ ρ s A hA F i) fun a σ₁ ρ₁ H₁ tk₁ va i₁ x₁ r₁ => ?_
 by_cases hset : ∃ es k p, r = .Set es k p
 ·obtain ⟨es, k, p, rfl⟩ := hset
  rw [ev_set, bind_bad rfl]; exact trivial
 ·refine Sim.bind (Sim.holding (markedBehindIn_sim (fun es k p e => hset ⟨es, k, p, e⟩) (hr env ns loc σ₁ ρ₁ _ A hA (F.ext0 x₁) i₁))) fun b σ₂ ρ₂ H₂ tk₂ vb i₂ x₂ r₂ => ?_
  exact Sim.standAt (Sim.operate (Sim.cmp i₂ hA.u (r₁.ext x₂) r₂))
theorem tst_value {e : Expr} (he : EvS h₀ C n e) (h1 : ∀ (ns : Names) (loc : Loc) (whole : M V), tst C e ns loc whole = (whole >>= fun v => truth v)) (h2 : ∀ (env : Env) (whole : Sem Value), isTrue e env whole = (do let v ← whole; standAt e.pos; holding [v] (truthy v))) :
  TstS h₀ C n e := fun env ns loc σ ρ s A hA F i => by
 rw [h1, h2]
 refine Sim.bind (he env ns loc σ ρ s A hA F i) fun a σ₁ ρ₁ H₁ tk₁ va i₁ x₁ r₁ => ?_
 exact Sim.standAt (Sim.holding (Sim.truth i₁ r₁))
theorem tst_compare {l r : Expr} {op : CmpOp} {pos : Pos} (hl : EvS h₀ C n l) (hr : EvS h₀ C n r) : TstS h₀ C n (.Compare l [op] [r] pos) := fun env ns loc σ ρ s A hA F i => by
 rw [isTrue_Compare1]
 show Sim h₀ A [] _ (((ev C l ns loc >>= fun a => ev C r ns loc >>= fun b => cmp op a b) >>= fun v => truth v) σ) RB ρ s
 rw [M.assoc]
 refine Sim.bind (hl env ns loc σ ρ s A hA F i) fun a σ₁ ρ₁ H₁ tk₁ va i₁ x₁ r₁ => ?_
 rw [M.assoc]
 by_cases hset : ∃ es k p, r = .Set es k p
 ·obtain ⟨es, k, p, rfl⟩ := hset
  rw [ev_set, bind_bad rfl]; exact trivial
 ·refine Sim.bind (Sim.holding (markedBehindIn_sim (fun es k p e => hset ⟨es, k, p, e⟩) (hr env ns loc σ₁ ρ₁ _ A hA (F.ext0 x₁) i₁))) fun b σ₂ ρ₂ H₂ tk₂ vb i₂ x₂ r₂ => ?_
  refine Sim.standAt (Sim.bind (Sim.operate (Sim.cmp i₂ hA.u (r₁.ext x₂) r₂)) fun c σ₃ ρ₃ H₃ tk₃ vc i₃ x₃ r₃ => ?_)
  exact Sim.holding (Sim.truth i₃ r₃)
theorem ev_chain {l m r : Expr} {op op2 : CmpOp} {pos : Pos} (hl : EvS h₀ C n l) (hm : EvS h₀ C n m) (hr : EvS h₀ C n r) : EvS h₀ C n (.Compare l [op, op2] [m, r] pos) := fun env ns loc σ ρ s A hA F i => by
 have e : eval (.Compare l [op, op2] [m, r] pos) env = (eval l env >>= fun va => holding [va] (eval m env) >>= fun vb => PySem.standAt pos >>= fun ya => holding [va, vb] (compareOp op va vb) >>= fun c => release [va, vb] [c] >>= fun ya => holding [c, vb] (truthy c) >>= fun t =>
  if t = true then (holding [vb] (markedBehindIn op2 r (eval r env)) >>= fun vc => PySem.standAt pos >>= fun ya => operate [vb, vc] (compareOp op2 vb vc)) else Pure.pure c) := rfl
 rw [e]
 show Sim h₀ A [] _ ((ev C l ns loc >>= fun a => ev C m ns loc >>= fun b => cmp op a b >>= fun x => boolK x (ev C r ns loc >>= fun c => cmp op2 b c) (pure (.bool false))) σ) RV ρ s
 refine Sim.bind (hl env ns loc σ ρ s A hA F i) fun a σ₁ ρ₁ H₁ tk₁ va i₁ x₁ r₁ => ?_
 refine Sim.bind (Sim.holding (hm env ns loc σ₁ ρ₁ _ A hA (F.ext0 x₁) i₁)) fun b σ₂ ρ₂ H₂ tk₂ vb i₂ x₂ r₂ => Sim.standAt ?_
 refine Sim.bind (Sim.holding (Sim.cmp i₂ hA.u (r₁.ext x₂) r₂)) fun c σ₃ ρ₃ H₃ tk₃ vc i₃ x₃ r₃ => ?_
 refine Sim.ahead (fun Q E hq => wpAny_release hq) ?_
 cases r₃ with
 | bool t =>
  refine Sim.first (fun Q E hq => wpAny_holding (wpAny_truthy_bool hq)) ?_
  cases t with
  | false => exact Sim.ret i₃ (.bool _)
  | true =>
   show Sim h₀ A [] _ ((ev C r ns loc >>= fun c => cmp op2 b c) σ₃) RV ρ₃ _
   by_cases hset : ∃ es k p, r = .Set es k p
   ·obtain ⟨es, k, p, rfl⟩ := hset
    rw [ev_set, bind_bad rfl]; exact trivial
   ·refine Sim.bind (Sim.holding (markedBehindIn_sim (fun es k p e => hset ⟨es, k, p, e⟩) (hr env ns loc σ₃ ρ₃ _ A hA (((F.ext0 x₁).ext0 x₂).ext0 x₃) i₃))) fun d σ₅ ρ₅ H₅ tk₅ vd i₅ x₅ r₅ => ?_
    exact Sim.standAt (Sim.operate (Sim.cmp i₅ hA.u ((r₂.ext x₃).ext x₅) r₅))
 | _ => exact trivial
theorem tst_chain {l m r : Expr} {op op2 : CmpOp} {pos : Pos} (hl : EvS h₀ C n l) (hm : EvS h₀ C n m) (hr : EvS h₀ C n r) : TstS h₀ C n (.Compare l [op, op2] [m, r] pos) := fun env ns loc σ ρ s A hA F i => by
 have e : ∀ whole, isTrue (.Compare l [op, op2] [m, r] pos) env whole = (eval l env >>= fun va => holding [va] (eval m env) >>= fun vb => PySem.standAt pos >>= fun ya => holding [va, vb] (compareOp op va vb) >>= fun c => release [va, vb] [c] >>= fun ya => holding [c, vb] (truthy c) >>= fun t =>
  if t = true then (holding [vb] (markedBehindIn op2 r (eval r env)) >>= fun vc => PySem.standAt pos >>= fun ya => operate [vb, vc] (compareOp op2 vb vc) >>= fun c => holding [c] (truthy c)) else Pure.pure false) := fun ya => rfl
 rw [e]
 show Sim h₀ A [] _ (((ev C l ns loc >>= fun a => ev C m ns loc >>= fun b => cmp op a b >>= fun x => boolK x (ev C r ns loc >>= fun c => cmp op2 b c) (pure (.bool false))) >>= fun v => truth v) σ) RB ρ s
 rw [M.assoc]
 refine Sim.bind (hl env ns loc σ ρ s A hA F i) fun a σ₁ ρ₁ H₁ tk₁ va i₁ x₁ r₁ => ?_
 rw [M.assoc]
 refine Sim.bind (Sim.holding (hm env ns loc σ₁ ρ₁ _ A hA (F.ext0 x₁) i₁)) fun b σ₂ ρ₂ H₂ tk₂ vb i₂ x₂ r₂ => Sim.standAt ?_
 rw [M.assoc]
 refine Sim.bind (Sim.holding (Sim.cmp i₂ hA.u (r₁.ext x₂) r₂)) fun c σ₃ ρ₃ H₃ tk₃ vc i₃ x₃ r₃ => ?_
 refine Sim.ahead (fun Q E hq => wpAny_release hq) ?_
 cases r₃ with
 | bool t =>
  refine Sim.first (fun Q E hq => wpAny_holding (wpAny_truthy_bool hq)) ?_
  cases t with
  | false => exact Sim.ret i₃ rfl
  | true =>
   show Sim h₀ A [] _ (((ev C r ns loc >>= fun c => cmp op2 b c) >>= fun v => truth v) σ₃) RB ρ₃ _
   rw [M.assoc]
   by_cases hset : ∃ es k p, r = .Set es k p
   ·obtain ⟨es, k, p, rfl⟩ := hset
    rw [ev_set, bind_bad rfl]; exact trivial
   ·refine Sim.bind (Sim.holding (markedBehindIn_sim (fun es k p e => hset ⟨es, k, p, e⟩) (hr env ns loc σ₃ ρ₃ _ A hA (((F.ext0 x₁).ext0 x₂).ext0 x₃) i₃))) fun d σ₅ ρ₅ H₅ tk₅ vd i₅ x₅ r₅ => Sim.standAt ?_
    refine Sim.bind (Sim.operate (Sim.cmp i₅ hA.u ((r₂.ext x₃).ext x₅) r₅)) fun c σ₆ ρ₆ H₆ tk₆ vc i₆ x₆ r₆ => ?_
    exact Sim.holding (Sim.truth i₆ r₆)
 | _ => exact trivial
theorem ev_dict0 {pos : Pos} (hN : h₀.heap.NoLimit) : EvS h₀ C n (.Dict [] [] pos) := fun env ns loc σ ρ s A hA F i => by
 rw [eval_Dict_empty]
 refine Sim.standAt (Sim.newDictAt i fun Q E hQ => wpAny_newObj_type (T := "dict") (hQ _ [] _ _ (fun ya yb e => Heap.get?_push_of_some _ e) fresh_none (big hN i) (Heap.DictOf.new s.heap) (Nat.zero_le _) .nil) ?_)
 exact Nat.zero_le _
end
end Mine.Internal

set_option backward.match.sparseCases false
namespace Mine.Internal
open PySem PyProof.Rows
section
variable {h₀ : Bse} {A : Around} {W : List Addr} {ρ : Map} {s : Shared} {σ : Store} {fns : Str → Option Fn} {glob : Str → Option V} {ups : Str → Option (List Str)} {mg mb : Str → Option Value}
variable {env : Env} {ns : Names} {loc : Loc} {C : Cfg} {n : Nat}
theorem Sim.cond {α β : Type} {t : Sem Bool} {f g : Sem β} {m : M Bool} {k l : M α} {R : α → Map → Heap → β → Prop} (h : Sim h₀ A W t (m σ) RB ρ s)
  (h1 : ∀ σ₁ ρ₁ H tk, Inv h₀ σ₁ ρ₁ H → Ext W ρ s.heap ρ₁ H → Sim h₀ A W f (k σ₁) R ρ₁ (At s H tk))
  (h2 : ∀ σ₁ ρ₁ H tk, Inv h₀ σ₁ ρ₁ H → Ext W ρ s.heap ρ₁ H → Sim h₀ A W g (l σ₁) R ρ₁ (At s H tk)) :
  Sim h₀ A W (t >>= fun b => if b = true then f else g) ((m >>= fun b => M.cond b k l) σ) R ρ s := by
 refine Sim.bind h fun b σ₁ ρ₁ H tk b' i x r => ?_
 cases r
 cases b with
 | true => exact h1 σ₁ ρ₁ H tk i x
 | false => exact h2 σ₁ ρ₁ H tk i x
theorem ev_ifexp {t a b : Expr} {pos : Pos} (ht : TstS h₀ C n t) (ha : EvS h₀ C n a) (hb : EvS h₀ C n b) : EvS h₀ C n (.IfExp t a b pos) := fun env ns loc σ ρ s A hA F i => by
 rw [arm_eval_IfExp]
 exact Sim.cond (ht env ns loc σ ρ s A hA F i) (fun σ₁ ρ₁ H tk i₁ x₁ => ha env ns loc σ₁ ρ₁ _ A hA (F.ext0 x₁) i₁) (fun σ₁ ρ₁ H tk i₁ x₁ => hb env ns loc σ₁ ρ₁ _ A hA (F.ext0 x₁) i₁)
theorem tst_ifexp {t a b : Expr} {pos : Pos} (ht : TstS h₀ C n t) (ha : TstS h₀ C n a) (hb : TstS h₀ C n b) : TstS h₀ C n (.IfExp t a b pos) := fun env ns loc σ ρ s A hA F i => by
 rw [arm_isTrue_IfExp]
 exact Sim.cond (ht env ns loc σ ρ s A hA F i) (fun σ₁ ρ₁ H tk i₁ x₁ => ha env ns loc σ₁ ρ₁ _ A hA (F.ext0 x₁) i₁) (fun σ₁ ρ₁ H tk i₁ x₁ => hb env ns loc σ₁ ρ₁ _ A hA (F.ext0 x₁) i₁)
theorem tst_not {x : Expr} {pos : Pos} (hx : TstS h₀ C n x) : TstS h₀ C n (.UnaryOp .Not x pos) := fun env ns loc σ ρ s A hA F i => by
 rw [arm_isTrue_UnaryOp]
 refine Sim.bind (hx env ns loc σ ρ s A hA F i) fun b σ₁ ρ₁ H tk b' i₁ x₁ r => ?_
 cases r
 exact Sim.ret i₁ rfl
variable (h₀ C n) in
noncomputable def TstAllS (es : List Expr) : Prop := ∀ (op : BoolOp) (env : Env) (ns : Names) (loc : Loc) (σ : Store) (ρ : Map) (s : Shared) (A : Around), Rm h₀ A n C.calm → Frm h₀ env ns loc ρ s.heap → Inv h₀ σ ρ s.heap →
 Sim h₀ A [] (allTrue op es env) (tstAll C es op ns loc σ) RB ρ s
variable (h₀ C n) in
noncomputable def EvBoolS (es : List Expr) : Prop := ∀ (op : BoolOp) (pos : Pos) (env : Env) (ns : Names) (loc : Loc) (σ : Store) (ρ : Map) (s : Shared) (A : Around), Rm h₀ A n C.calm → Frm h₀ env ns loc ρ s.heap → Inv h₀ σ ρ s.heap →
 Sim h₀ A [] (boolOp pos op (evalEach es env)) (evBool C es op ns loc σ) RV ρ s
theorem tstAll_nil : TstAllS h₀ C n [] := fun op env ns loc σ ρ s A hA F i => Sim.ret i rfl
theorem tstAll_cons {e : Expr} {r : List Expr} (he : TstS h₀ C n e) (hr : TstAllS h₀ C n r) : TstAllS h₀ C n (e :: r) := fun op env ns loc σ ρ s A hA F i => by
 rw [arm_allTrue_cons]
 refine Sim.bind (he env ns loc σ ρ s A hA F i) fun b σ₁ ρ₁ H tk b' i₁ x₁ e => ?_
 cases e
 cases op <;> cases b
 ·exact Sim.ret i₁ rfl
 ·exact hr _ env ns loc σ₁ ρ₁ _ A hA (F.ext0 x₁) i₁
 ·exact hr _ env ns loc σ₁ ρ₁ _ A hA (F.ext0 x₁) i₁
 ·exact Sim.ret i₁ rfl
theorem tst_boolop {op : BoolOp} {es : List Expr} {pos : Pos} (h : TstAllS h₀ C n es) : TstS h₀ C n (.BoolOp op es pos) := fun env ns loc σ ρ s A hA F i => by
 rw [arm_isTrue_BoolOp]; exact h op env ns loc σ ρ s A hA F i
theorem evBool_nil : EvBoolS h₀ C n [] := fun op pos env ns loc σ ρ s A hA F i => trivial
theorem evBool_cons {e : Expr} {r : List Expr} (he : EvS h₀ C n e) (hr : EvBoolS h₀ C n r) : EvBoolS h₀ C n (e :: r) := fun op pos env ns loc σ ρ s A hA F i => by
 cases r with
 | nil =>
  exact he env ns loc σ ρ s A hA F i
 | cons e2 r =>
  rw [arm_evalEach_cons, arm_evalEach_cons]
  refine Sim.bind (he env ns loc σ ρ s A hA F i) fun a σ₁ ρ₁ H₁ tk₁ va i₁ x₁ r₁ => ?_
  refine Sim.standAt (Sim.bind (Sim.holding (Sim.truth i₁ r₁)) fun b σ₂ ρ₂ H₂ tk₂ b' i₂ x₂ e => ?_)
  cases e
  have hh := hr op pos env ns loc σ₂ ρ₂ (At s H₂ tk₂) A hA ((F.ext0 x₁).ext0 x₂) i₂
  rw [arm_evalEach_cons] at hh
  cases op <;> cases b
  ·exact Sim.ret i₂ (r₁.ext x₂)
  ·exact hh
  ·exact hh
  ·exact Sim.ret i₂ (r₁.ext x₂)
theorem ev_boolop {op : BoolOp} {es : List Expr} {pos : Pos} (h : EvBoolS h₀ C n es) : EvS h₀ C n (.BoolOp op es pos) := fun env ns loc σ ρ s A hA F i => by
 rw [arm_eval_BoolOp]; exact h op pos env ns loc σ ρ s A hA F i
theorem starEach_cons {e : Expr} {r : List Expr} (h : ∀ v p, e ≠ .Starred v p) : starEach (e :: r) env = (false, eval e env) :: starEach r env := by
 cases e <;> first | rfl | exact absurd rfl (h _ _)
theorem evs_nil : EvsS h₀ C n [] := fun env ns loc σ ρ s A pos hA F i => Sim.ret i .nil
theorem evs_cons {e : Expr} {r : List Expr} (he : EvS h₀ C n e) (hr : EvsS h₀ C n r) : EvsS h₀ C n (e :: r) := fun env ns loc σ ρ s A pos hA F i => by
 show Sim h₀ A [] _ ((ev C e ns loc >>= fun v => evs C r ns loc >>= fun vs => pure (v :: vs)) σ) RL ρ s
 by_cases hst : ∃ v p, e = .Starred v p
 ·obtain ⟨v, p, rfl⟩ := hst
  have : ev C (.Starred v p) ns loc σ = .bad := rfl
  rw [bind_bad this]; exact trivial
 ·rw [starEach_cons (fun v p e' => hst ⟨v, p, e'⟩)]
  show Sim h₀ A [] (spliced ((false, eval e env) :: backTo pos (starEach r env))) _ RL ρ s
  have e : spliced ((false, eval e env) :: backTo pos (starEach r env)) = (eval e env >>= fun v => holding [v] (spliced (backTo pos (starEach r env))) >>= fun vs => Pure.pure (v :: vs)) := rfl
  rw [e]
  refine Sim.bind (he env ns loc σ ρ s A hA F i) fun a σ₁ ρ₁ H₁ tk₁ va i₁ x₁ r₁ => ?_
  refine Sim.bind (Sim.holding (hr env ns loc σ₁ ρ₁ _ A pos hA (F.ext0 x₁) i₁)) fun b σ₂ ρ₂ H₂ tk₂ vb i₂ x₂ r₂ => ?_
  exact Sim.ret i₂ (.cons (r₁.ext x₂) r₂)
theorem ev_list {es : List Expr} {pos : Pos} (h : EvsS h₀ C n es) : EvS h₀ C n (.List es pos) := fun env ns loc σ ρ s A hA F i => by
 rw [arm_eval_List]
 refine Sim.standAt (Sim.bind (h env ns loc σ ρ s A pos hA F i) fun l σ₁ ρ₁ H₁ tk₁ vs i₁ x₁ r₁ => ?_)
 exact Sim.ite fun hc => Sim.newList i₁ r₁ hc
theorem ev_tuple {es : List Expr} {k : Nat} {pos : Pos} (h : EvsS h₀ C n es) : EvS h₀ C n (.Tuple es k pos) := fun env ns loc σ ρ s A hA F i => by
 rw [arm_eval_Tuple]
 refine Sim.standAt (Sim.bind (h env ns loc σ ρ s A pos hA F i) fun l σ₁ ρ₁ H₁ tk₁ vs i₁ x₁ r₁ => ?_)
 exact Sim.ite fun hc => Sim.newTuple i₁ r₁ hc
noncomputable def CanGet (σ : Store) (x : V) : Prop := (∃ l, x = .tup l) ∨ (∃ t, x = .str t) ∨ ∃ m, x = .ref m ∧ ((∃ l, σ[m]? = some (.list l)) ∨ ∃ v l, σ[m]? = some (.dict v l))
theorem getitem_plain {v : Value} {x : V} {Q : Bool → Shared → Prop} {E : Value → Shared → Prop} (i : Inv h₀ σ ρ s.heap) (r : Rel ρ s.heap v x) (hx : CanGet σ x) (h : Q false s) :
  wpAny (model h₀.prog h₀.w) A (getitemInPython v) Q E s := by
 have key : ∀ (T id : String), s.TypeIs v T → typeLookup (.type T) "__getitem__" = pure (some (.builtin id)) → wpAny (model h₀.prog h₀.w) A (getitemInPython v) Q E s := by
  intro T id hT hl
  rw [getitemInPython_of_ne hT.not_modules]
  exact wpAny_bind (wpAny_specialOf hT hl (wpAny_pure h))
 rcases hx with ⟨l, rfl⟩ | ⟨t, rfl⟩ | ⟨m, rfl, ⟨l, hσ⟩ | ⟨_, l, hσ⟩⟩
 ·cases r with
  | tup g _ _ => exact key "tuple" _ (isTuple_of g).typeIs slot_tuple_getitem.lookup
 ·cases r with
  | str _ t _ => exact key "str" _ (typeIs_str s _ t) F.slot_str_getitem.lookup
 ·cases r with
  | ref er =>
   obtain ⟨vs, k, g, _, _⟩ := i.list hσ er
   exact key "list" _ (isList_of g).typeIs slot_list_getitem.lookup
 ·cases r with
  | ref er =>
   obtain ⟨_, _, kvs, hd, _, _⟩ := i.dict hσ er
   exact key "dict" _ hd.typeIs slot_dict_getitem.lookup
theorem item_kind {x y : V} (h : item x y σ ≠ .bad) : CanGet σ x := by
 cases x with
 | tup l => exact .inl ⟨_, rfl⟩
 | str t => exact .inr (.inl ⟨_, rfl⟩)
 | ref m =>
  refine .inr (.inr ⟨m, rfl, ?_⟩)
  have h : (getO m >>= fun o => match o with | .list l => itemL l y | .dict _ l => ofOpt ((keyOf y).bind (dGet l)) | _ => M.bad) σ ≠ .bad := h
  cases e : σ[m]? with
  | none => exact absurd (bind_bad (by rw [getO_eq, e])) h
  | some o =>
   rw [bind_ok (a := o) (σ' := σ) (by rw [getO_eq, e])] at h
   cases o with
   | list l => exact .inl ⟨l, rfl⟩
   | dict v l => exact .inr ⟨v, l, rfl⟩
   | inst _ _ => exact absurd rfl h
   | exc _ _ => exact absurd rfl h
 | none => exact absurd rfl h
 | bool _ => exact absurd rfl h
 | int _ => exact absurd rfl h
theorem slice_kind {lo hi : Option Int} {x : V} (h : sliceV lo hi x σ ≠ .bad) : CanGet σ x := by
 cases x with
 | tup l => exact .inl ⟨_, rfl⟩
 | str t => exact .inr (.inl ⟨_, rfl⟩)
 | ref m =>
  refine .inr (.inr ⟨m, rfl, .inl ?_⟩)
  have h : (getList m >>= fun l => newO (.list (cut l lo hi))) σ ≠ .bad := h
  cases e : σ[m]? with
  | none => exact absurd (bind_bad (by rw [getList_eq, e])) h
  | some o => cases o with
   | list l => exact ⟨l, rfl⟩
   | dict _ _ => exact absurd (bind_bad (by rw [getList_eq, e])) h
   | inst _ _ => exact absurd (bind_bad (by rw [getList_eq, e])) h
   | exc _ _ => exact absurd (bind_bad (by rw [getList_eq, e])) h
 | none => exact absurd rfl h
 | bool _ => exact absurd rfl h
 | int _ => exact absurd rfl h
theorem Sim.subTail {value slice : Expr} {o i : Value} {x : V} {r : Res V} {ops : List Value} (iv : Inv h₀ σ ρ s.heap) (ro : Rel ρ s.heap o x) (hk : r ≠ .bad → CanGet σ x)
  (hs : subscripted slice false o i = PySem.operate ops (getItem o i)) (h : Sim h₀ A W (getItem o i) r RV ρ s) :
  Sim h₀ A W (getitemInPython o >>= fun b => subscripted slice b o i >>= fun r => letTemporaryGo value o r >>= fun ya => Pure.pure r) r RV ρ s := by
 have go : ∀ (Q : Value → Shared → Prop) (E : Value → Shared → Prop), r ≠ .bad → wpAny (model h₀.prog h₀.w) A (getItem o i) Q E s → wpAny (model h₀.prog h₀.w) A (getitemInPython o >>= fun b => subscripted slice b o i >>= fun r => letTemporaryGo value o r >>= fun ya => Pure.pure r) Q E s := fun Q E hr h => by
  refine wpAny_bind (getitem_plain iv ro (hk hr) ?_)
  rw [hs]
  exact wpAny_bind (wpAny_operating (wpAny_mono h (fun b s' hp => wpAny_bind (wpAny_letTemporaryGo (wpAny_pure hp))) fun ya yb x => x))
 cases r with
 | bad => exact trivial
 | exc _ _ => exact go _ _ nofun h
 | ok v σ' => exact go _ _ nofun h
theorem ev_slice_bad {lo hi st : Option Expr} {p : Pos} : ev C (.Slice lo hi st p) ns loc = M.bad := rfl
theorem ev_sub {o i : Expr} {pos : Pos} (ho : EvS h₀ C n o) (hi : EvS h₀ C n i) (he : ∀ (ns : Names) (loc : Loc), ev C (.Subscript o i pos) ns loc = (ev C o ns loc >>= fun a => ev C i ns loc >>= fun b => item a b)) : EvS h₀ C n (.Subscript o i pos) := fun env ns loc σ ρ s A hA F iv => by
 rw [arm_eval_Subscript, he]
 refine Sim.bind (ho env ns loc σ ρ s A hA F iv) fun a σ₁ ρ₁ H₁ tk₁ va i₁ x₁ r₁ => ?_
 by_cases hsl : ∃ lo hi st p, i = .Slice lo hi st p
 ·obtain ⟨lo, hi', st, p, rfl⟩ := hsl
  rw [ev_slice_bad, bind_bad rfl]; exact trivial
 ·refine Sim.bind (Sim.holding (hi env ns loc σ₁ ρ₁ _ A hA (F.ext0 x₁) i₁)) fun b σ₂ ρ₂ H₂ tk₂ vb i₂ x₂ r₂ => ?_
  refine Sim.standAt (Sim.subTail (ops := [va, vb]) i₂ (r₁.ext x₂) item_kind ?_ (Sim.item i₂ (r₁.ext x₂) r₂))
  cases i <;> first | rfl | exact absurd ⟨_, _, _, _, rfl⟩ hsl
variable (h₀ C n) in
noncomputable def EvOptS (o : Option Expr) : Prop := ∀ (env : Env) (ns : Names) (loc : Loc) (σ : Store) (ρ : Map) (s : Shared) (A : Around), Rm h₀ A n C.calm → Frm h₀ env ns loc ρ s.heap → Inv h₀ σ ρ s.heap →
 Sim h₀ A [] (valueOrNone (evalOpt o env)) (evOpt C o ns loc σ) RV ρ s
theorem evOpt_none : EvOptS h₀ C n none := fun env ns loc σ ρ s A hA F i => Sim.ret i .none
theorem evOpt_some {e : Expr} (h : EvS h₀ C n e) : EvOptS h₀ C n (some e) := fun env ns loc σ ρ s A hA F i => h env ns loc σ ρ s A hA F i
noncomputable def RS : V × V → Map → Heap → Value → Prop := fun q ρ h iv => ∃ sl vl vu, iv = .ref sl ∧ h.IsSliceOf sl vl vu .none ∧ Rel ρ h vl q.1 ∧ Rel ρ h vu q.2
theorem slice_obj {lo hi : Option Expr} {p : Pos} (hlo : EvOptS h₀ C n lo) (hhi : EvOptS h₀ C n hi) (hA : Rm h₀ A n C.calm) (F : Frm h₀ env ns loc ρ s.heap) (iv : Inv h₀ σ ρ s.heap) :
  Sim h₀ A [] (eval (.Slice lo hi none p) env) ((evOpt C lo ns loc >>= fun l => evOpt C hi ns loc >>= fun h => (Pure.pure (l, h) : M (V × V))) σ) RS ρ s := by
 rw [arm_eval_Slice]
 refine Sim.bind (hlo env ns loc σ ρ s A hA F iv) fun a σ₁ ρ₁ H₁ tk₁ va i₁ x₁ r₁ => ?_
 refine Sim.bind (Sim.holding (hhi env ns loc σ₁ ρ₁ _ A hA (F.ext0 x₁) i₁)) fun b σ₂ ρ₂ H₂ tk₂ vb i₂ x₂ r₂ => ?_
 refine Sim.grown (s := (At s H₂ tk₂)) i₂ fun Q E hQ => ?_
 refine wpAny_bind (wpAny_holding (wpAny_pure (wpAny_newObj_type (T := "slice") ?_ (by show (3 : Nat) ≤ sizeLine + 2; decide))))
 have hk : ∀ b o, H₂.get? b = some o → (H₂.push { cls := .type "slice", data := .fields #[va, vb, .none] }).get? b = some o := fun b o e => Heap.get?_push_of_some _ e
 exact hQ _ _ tk₂ hk ⟨_, va, vb, rfl, Heap.IsSliceOf.new .., (r₁.ext x₂).sub (Sub.keeps hk), r₂.sub (Sub.keeps hk)⟩
theorem ev_slice {o : Expr} {lo hi : Option Expr} {p pos : Pos} (ho : EvS h₀ C n o) (hlo : EvOptS h₀ C n lo) (hhi : EvOptS h₀ C n hi) : EvS h₀ C n (.Subscript o (.Slice lo hi none p) pos) := fun env ns loc σ ρ s A hA F iv => by
 rw [arm_eval_Subscript]
 show Sim h₀ A [] _ ((ev C o ns loc >>= fun a => (evOpt C lo ns loc >>= fun l => evOpt C hi ns loc >>= fun h => (Pure.pure (l, h) : M (V × V))) >>= fun q => bound q.1 >>= fun l' => bound q.2 >>= fun h' => sliceV l' h' a) σ) RV ρ s
 refine Sim.bind (ho env ns loc σ ρ s A hA F iv) fun a σ₁ ρ₁ H₁ tk₁ va i₁ x₁ r₁ => ?_
 refine Sim.bind (Sim.holding (slice_obj hlo hhi hA (F.ext0 x₁) i₁)) fun q σ₂ ρ₂ H₂ tk₂ vb i₂ x₂ r₂ => ?_
 obtain ⟨sl, vl, vu, rfl, hs, rl, ru⟩ := r₂
 refine Sim.standAt (Sim.bound (s := (At s H₂ tk₂)) rl fun l' pl => Sim.bound (s := (At s H₂ tk₂)) ru fun h' pu => ?_)
 exact Sim.subTail (ops := [.ref sl, va]) i₂ (r₁.ext x₂) slice_kind rfl (Sim.slice (s := (At s H₂ tk₂)) i₂ (r₁.ext x₂) hs pl pu)
variable (h₀ mg C n) in
noncomputable def CallS : Prop := ∀ (f : Str) (a : Addr) (args : List V) (vals : List Value) (σ : Store) (ρ : Map) (s : Shared) (A : Around), Rm h₀ A n C.calm → C.isFn f = true → mg f = some (.ref a) → RelAll ρ s.heap vals args → Inv h₀ σ ρ s.heap →
 Sim h₀ A [] (call (.ref a) vals) (C.call f args σ) RV ρ s
theorem noStar {es : List Expr} {pos : Pos} : (∀ e ∈ es, ∀ v p, e ≠ .Starred v p) → (backTo pos (starEach es env)).any (·.1) = false ∧ (backTo pos (starEach es env)).all (fun x => !x.1) = true := by
 induction es with
 | nil => intro _; exact ⟨rfl, rfl⟩
 | cons e r ih =>
  intro h
  rw [starEach_cons (h e (by simp))]
  obtain ⟨h1, h2⟩ := ih fun e' he' => h e' (by simp [he'])
  refine ⟨?_, ?_⟩
  ·show (false || (backTo pos (starEach r env)).any (·.1)) = false
   rw [h1]; rfl
  ·show (true && (backTo pos (starEach r env)).all _) = true
   rw [h2]; rfl
theorem noStars_of {es : List Expr} (h : noStars es = true) : ∀ e ∈ es, ∀ v p, e ≠ .Starred v p := fun e he v p eq => by
 have := List.all_eq_true.mp h e he
 rw [eq] at this; cases this
theorem Sim.args {α : Type} {f : Value} {first : List Value} {es : List Expr} {pos : Pos} {k : List V → M α} {R : α → Map → Heap → Value → Prop} (hst : noStars es = true) (hes : EvsS h₀ C n es) (hA : Rm h₀ A n C.calm) (F : Frm h₀ env ns loc ρ s.heap) (i : Inv h₀ σ ρ s.heap)
  (hcw : ∀ (Q : Value → Shared → Prop) (E : Value → Shared → Prop), (∀ e ∈ es, ∀ v p, e ≠ .Starred v p) →
   wpAny (model h₀.prog h₀.w) A (spliced (backTo pos (starEach es env))) (fun vs s₁ => (∀ b o, h₀.get? b = some o → s₁.heap.get? b = some o) ∧ wpAny (model h₀.prog h₀.w) A (call f (first ++ vs)) Q E s₁) E s → wpAny (model h₀.prog h₀.w) A (callWith pos f first (backTo pos (starEach es env)) []) Q E s)
  (hk : ∀ l σ₁ ρ₁ H tk vs, Inv h₀ σ₁ ρ₁ H → Ext [] ρ s.heap ρ₁ H → RelAll ρ₁ H vs l → Sim h₀ A [] (call f (first ++ vs)) (k l σ₁) R ρ₁ (At s H tk)) :
  Sim h₀ A [] (callWith pos f first (backTo pos (starEach es env)) []) ((evs C es ns loc >>= k) σ) R ρ s := by
 have this := hes env ns loc σ ρ s A pos hA F i
 cases h1 : evs C es ns loc σ with
 | bad => rw [bind_bad h1]; exact trivial
 | exc _ _ =>
  rw [bind_exc h1]
  rw [h1] at this
  exact hcw _ _ (noStars_of hst) (wpAny_mono this (fun ya yb f => f.elim) fun ya yb x => x)
 | ok l σ₁ =>
  rw [bind_ok h1]
  rw [h1] at this
  have go : ∀ (Q : Value → Shared → Prop) (E : Value → Shared → Prop), (∀ vs ρ₁ H tk, Ext [] ρ s.heap ρ₁ H → Sim h₀ A [] (call f (first ++ vs)) (k l σ₁) R ρ₁ (At s H tk) → wpAny (model h₀.prog h₀.w) A (call f (first ++ vs)) Q E (At s H tk)) →
    wpAny (model h₀.prog h₀.w) A (callWith pos f first (backTo pos (starEach es env)) []) Q E s := fun Q E hq => by
   refine hcw _ _ (noStars_of hst) (wpAny_mono this (fun vs s₁ hp => ?_) fun ya yb x => x.elim)
   obtain ⟨ρ₁, H, tk, rfl, i₁, x₁, r₁⟩ := hp
   exact ⟨i₁.base, hq vs ρ₁ H tk x₁ (hk l σ₁ ρ₁ H tk vs i₁ x₁ r₁)⟩
  cases h2 : k l σ₁ with
  | bad => exact trivial
  | exc _ _ => exact go _ _ fun vs ρ₁ H tk x hs => by rw [h2] at hs; exact wpAny_mono hs (fun ya yb f => f) fun ya yb hp => hp.after x
  | ok v σ₂ => exact go _ _ fun vs ρ₁ H tk x hs => by rw [h2] at hs; exact wpAny_mono hs (fun ya yb hp => hp.after x) fun ya yb f => f
end
end Mine.Internal

set_option backward.match.sparseCases false
namespace Mine.Internal
open PySem PyProof.Rows
theorem bb_len : bootBuiltins ("len" : Str) = some (.builtin "len") := by decide +kernel
theorem bb_list : bootBuiltins ("list" : Str) = some (.type "list") := by decide +kernel
theorem bb_tuple : bootBuiltins ("tuple" : Str) = some (.type "tuple") := by decide +kernel
theorem bb_sorted : bootBuiltins ("sorted" : Str) = some (.builtin "sorted") := by decide +kernel
theorem bb_dict : bootBuiltins ("dict" : Str) = some (.type "dict") := by decide +kernel
theorem bb_sum : bootBuiltins ("sum" : Str) = some (.builtin "sum") := by decide +kernel
theorem bb_all : bootBuiltins ("all" : Str) = some (.builtin "all") := by decide +kernel
theorem bb_isinstance : bootBuiltins ("isinstance" : Str) = some (.builtin "isinstance") := by decide +kernel
theorem bb_bool : bootBuiltins ("bool" : Str) = some (.type "bool") := by decide +kernel
theorem bb_int : bootBuiltins ("int" : Str) = some (.type "int") := by decide +kernel
theorem bb_str : bootBuiltins ("str" : Str) = some (.type "str") := by decide +kernel
theorem bb_range : bootBuiltins ("range" : Str) = some (.type "range") := by decide +kernel
section
variable {h₀ : Bse} {A : Around} {W : List Addr} {ρ : Map} {s : Shared} {σ : Store} {fns : Str → Option Fn} {glob : Str → Option V} {ups : Str → Option (List Str)} {mg mb : Str → Option Value}
variable {env : Env} {ns : Names} {loc : Loc} {C : Cfg} {n : Nat}
theorem evalArgs_any {f : Value} {es : List Expr} {pos : Pos} {Q : Args → Shared → Prop} {E : Value → Shared → Prop} (hst : ∀ e ∈ es, ∀ v p, e ≠ .Starred v p)
  (h : wpAny (model h₀.prog h₀.w) A (spliced (backTo pos (starEach es env))) (fun vs s' => Q ⟨vs, []⟩ s') E s) : wpAny (model h₀.prog h₀.w) A (evalArgs f true (backTo pos (starEach es env)) []) Q E s := by
 cases es with
 | nil =>
  unfold evalArgs
  show wpAny _ A (spliced [] >>= _) Q E s
  refine wpAny_bind (wpAny_mono h (fun vs s' h' => ?_) fun ya yb x => x)
  exact wpAny_bind (wpAny_pure (wpAny_holding (wpAny_bind (wpAny_pure (wpAny_bind (wpAny_pure (wpAny_pure h')))))))
 | cons e r =>
  rw [starEach_cons (hst e (by simp))] at h ⊢
  exact Calls.evalArgs_plain h
theorem cw_function {pos : Pos} {a : Addr} {o : Obj} {fd : FuncData} {first : List Value} {es : List Expr} {Q : Value → Shared → Prop} {E : Value → Shared → Prop} (ho : h₀.get? a = some o) (hd : o.data = .func fd) (hst : ∀ e ∈ es, ∀ v p, e ≠ .Starred v p)
  (h : wpAny (model h₀.prog h₀.w) A (spliced (backTo pos (starEach es env))) (fun vs s₁ => (∀ b o, h₀.get? b = some o → s₁.heap.get? b = some o) ∧ wpAny (model h₀.prog h₀.w) A (call (.ref a) (first ++ vs)) Q E s₁) E s) :
  wpAny (model h₀.prog h₀.w) A (callWith pos (.ref a) first (backTo pos (starEach es env)) []) Q E s :=
 Calls.callWith_function (o := o) (fd := fd) (evalArgs_any hst (wpAny_mono h (fun vs s₁ h₁ => ⟨⟨h₁.1 _ _ ho, hd⟩, h₁.2⟩) fun ya yb x => x))
theorem cw_builtin {pos : Pos} {id : String} {first : List Value} {es : List Expr} {Q : Value → Shared → Prop} {E : Value → Shared → Prop} (hst : ∀ e ∈ es, ∀ v p, e ≠ .Starred v p)
  (h : wpAny (model h₀.prog h₀.w) A (spliced (backTo pos (starEach es env))) (fun vs s₁ => (∀ b o, h₀.get? b = some o → s₁.heap.get? b = some o) ∧ wpAny (model h₀.prog h₀.w) A (call (.builtin id) (first ++ vs)) Q E s₁) E s) :
  wpAny (model h₀.prog h₀.w) A (callWith pos (.builtin id) first (backTo pos (starEach es env)) []) Q E s :=
 Calls.callWith_builtin (noStar hst).1 (evalArgs_any hst (wpAny_mono h (fun vs s₁ h₁ => h₁.2) fun ya yb x => x))
theorem cw_type {pos : Pos} {T : String} {first : List Value} {es : List Expr} {Q : Value → Shared → Prop} {E : Value → Shared → Prop} (hst : ∀ e ∈ es, ∀ v p, e ≠ .Starred v p)
  (h : wpAny (model h₀.prog h₀.w) A (spliced (backTo pos (starEach es env))) (fun vs s₁ => (∀ b o, h₀.get? b = some o → s₁.heap.get? b = some o) ∧ wpAny (model h₀.prog h₀.w) A (call (.type T) (first ++ vs)) Q E s₁) E s) :
  wpAny (model h₀.prog h₀.w) A (callWith pos (.type T) first (backTo pos (starEach es env)) []) Q E s :=
 PyProof.Rows.callWith_type (noStar hst).1 (evalArgs_any hst (wpAny_mono h (fun vs s₁ h₁ => h₁.2) fun ya yb x => x))
theorem Sim.bInt {a : Value} {x : V} (i : Inv h₀ σ ρ s.heap) (ra : Rel ρ s.heap a x) : Sim h₀ A W (call (.type "int") [a]) (bInt x σ) RV ρ s := by
 cases ra with
 | bool b => exact Sim.same i fun Q E hQ => call_int_bool (by cases b <;> exact hQ _ _ (.int _ _))
 | _ => exact trivial
theorem Sim.blt {f : Str} {fv : Value} {vals : List Value} {vs : List V} (hN : h₀.heap.NoLimit) (hh : A.handled = none) (hb : bootBuiltins f = some fv) (i : Inv h₀ σ ρ s.heap) (r : RelAll ρ s.heap vals vs) :
  Sim h₀ A W (call fv vals) (blt f vs σ) RV ρ s := by
 unfold Mine.Internal.blt
 split
 ·cases r with
  | cons ra rn =>
  cases rn
  by_cases h0 : f = ("len" : Str)
  ·rw [if_pos h0]; subst h0; rw [bb_len] at hb; cases hb; exact Sim.bLen i ra
  ·rw [if_neg h0]
   by_cases h1 : f = ("list" : Str)
   ·rw [if_pos h1]; subst h1; rw [bb_list] at hb; cases hb; exact Sim.bList hh i ra
   ·rw [if_neg h1]
    by_cases h2 : f = ("tuple" : Str)
    ·rw [if_pos h2]; subst h2; rw [bb_tuple] at hb; cases hb; exact Sim.bTuple i ra
    ·rw [if_neg h2]
     by_cases h3 : f = ("sorted" : Str)
     ·rw [if_pos h3]; subst h3; rw [bb_sorted] at hb; cases hb; exact Sim.bSorted i ra
     ·rw [if_neg h3]
      by_cases h4 : f = ("dict" : Str)
      ·rw [if_pos h4]; subst h4; rw [bb_dict] at hb; cases hb; exact Sim.bDict hN hh i ra
      ·rw [if_neg h4]
       by_cases h5 : f = ("sum" : Str)
       ·rw [if_pos h5]; subst h5; rw [bb_sum] at hb; cases hb; exact Sim.bSum hh i ra
       ·rw [if_neg h5]
        by_cases h6 : f = ("all" : Str)
        ·rw [if_pos h6]; subst h6; rw [bb_all] at hb; cases hb; exact Sim.bAll hh i ra
        ·rw [if_neg h6]
         by_cases h7 : f = ("int" : Str)
         ·rw [if_pos h7]; subst h7; rw [bb_int] at hb; cases hb; exact Sim.bInt i ra
         ·rw [if_neg h7]
          exact trivial
 ·exact trivial
theorem bltTab_is {f : Str} (h : bltTab.contains f = true) : f ∈ bltNames ∧ ((∃ id, bootBuiltins f = some (.builtin id)) ∨ ∃ T, bootBuiltins f = some (.type T)) := by
 have key : ∀ g ∈ bltTab, g ∈ bltNames ∧ ((∃ id, bootBuiltins g = some (.builtin id)) ∨ ∃ T, bootBuiltins g = some (.type T)) := by
  intro g hg
  simp only [bltTab, List.mem_cons, List.not_mem_nil, or_false] at hg
  rcases hg with rfl | rfl | rfl | rfl | rfl | rfl | rfl | rfl | rfl
  ·exact ⟨by decide +kernel, .inl ⟨_, bb_isinstance⟩⟩
  ·exact ⟨by decide +kernel, .inl ⟨_, bb_len⟩⟩
  ·exact ⟨by decide +kernel, .inr ⟨_, bb_list⟩⟩
  ·exact ⟨by decide +kernel, .inr ⟨_, bb_tuple⟩⟩
  ·exact ⟨by decide +kernel, .inl ⟨_, bb_sorted⟩⟩
  ·exact ⟨by decide +kernel, .inr ⟨_, bb_dict⟩⟩
  ·exact ⟨by decide +kernel, .inl ⟨_, bb_sum⟩⟩
  ·exact ⟨by decide +kernel, .inl ⟨_, bb_all⟩⟩
  ·exact ⟨by decide +kernel, .inr ⟨_, bb_int⟩⟩
 exact key f (List.contains_iff_mem.mp h)
theorem Sim.ite2 {α β : Type} {t : Sem β} {c : Prop} [Decidable c] {m k : M α} {R : α → Map → Heap → β → Prop} (h : c → Sim h₀ A W t (m σ) R ρ s) (h' : ¬ c → Sim h₀ A W t (k σ) R ρ s) : Sim h₀ A W t ((if c then m else k) σ) R ρ s := by
 by_cases hc : c
 ·rw [if_pos hc]; exact h hc
 ·rw [if_neg hc]; exact h' hc
theorem Call_name (f : Str) (p pos : Pos) (es : List Expr) : eval (.Call (.Name f p) es [] pos) env = (eval (.Name f p) env >>= fun fv => callWith pos fv [] (backTo pos (starEach es env)) []) := rfl
theorem Sim.head {α β : Type} {t : Sem Value} {v : Value} {f : Value → Sem β} {r : Res α} {R : α → Map → Heap → β → Prop} (ht : ∀ (Q : Value → Shared → Prop) (E : Value → Shared → Prop), Q v s → wpAny (model h₀.prog h₀.w) A t Q E s)
  (h : Sim h₀ A W (f v) r R ρ s) : Sim h₀ A W (t >>= f) r R ρ s := by
 cases r with
 | bad => exact trivial
 | exc _ _ => exact wpAny_bind (ht _ _ h)
 | ok a σ' => exact wpAny_bind (ht _ _ h)
theorem kd_names {t : Str} {k : Kd} (h : kdOf t = some k) : t ∈ bltNames ∧ bootBuiltins t = some (.type (kdName k)) := by
 unfold kdOf at h
 by_cases h1 : t = ("bool" : Str)
 ·rw [if_pos h1] at h; cases h; subst h1; exact ⟨by decide +kernel, bb_bool⟩
 ·rw [if_neg h1] at h
  by_cases h1 : t = ("int" : Str)
  ·rw [if_pos h1] at h; cases h; subst h1; exact ⟨by decide +kernel, bb_int⟩
  ·rw [if_neg h1] at h
   by_cases h1 : t = ("str" : Str)
   ·rw [if_pos h1] at h; cases h; subst h1; exact ⟨by decide +kernel, bb_str⟩
   ·rw [if_neg h1] at h
    by_cases h1 : t = ("tuple" : Str)
    ·rw [if_pos h1] at h; cases h; subst h1; exact ⟨by decide +kernel, bb_tuple⟩
    ·rw [if_neg h1] at h
     by_cases h1 : t = ("list" : Str)
     ·rw [if_pos h1] at h; cases h; subst h1; exact ⟨by decide +kernel, bb_list⟩
     ·rw [if_neg h1] at h; cases h
noncomputable def NoShadow (fns : Str → Option Fn) : Prop := ∀ f ∈ bltNames, fns f = none
theorem ask_name {t : Str} {q : Pos} {Q : Value → Shared → Prop} {E : Value → Shared → Prop} (B : Base fns glob ups mg mb h₀.heap) (hns : NoShadow fns) (F : Frm h₀ env ns loc ρ s.heap) (i : Inv h₀ σ ρ s.heap) (ht : isGlob ns t = true) (hu : ((ups t).isSome || t == ("ValueError" : Str)) = true)
  (hq : ∀ c, ((∃ us D, ups t = some us ∧ mg t = some (.ref D) ∧ c = .ref D) ∨ (t = ("ValueError" : Str) ∧ c = .type "ValueError")) → Q c s) : wpAny (model h₀.prog h₀.w) A (eval (.Name t q) env) Q E s := by
 cases hut : ups t with
 | some us =>
  obtain ⟨D, bm, h1, _⟩ := B.cls t us hut
  exact wp_global B F i ht h1 (hq _ (.inl ⟨us, D, hut, h1, rfl⟩))
 | none =>
  rw [hut] at hu
  have hu : t = ("ValueError" : Str) := by simpa using hu
  subst hu
  exact wp_builtin B F i ht (by decide +kernel) (hns _ (by decide +kernel)) (by decide +kernel) (hq _ (.inr ⟨rfl, rfl⟩))
theorem Sim.isUp {t : Str} {v c : Value} {x : V} (B : Base fns glob ups mg mb h₀.heap) (hups : C.ups = ups) (i : Inv h₀ σ ρ s.heap) (r : Rel ρ s.heap v x) (hc : (∃ us D, ups t = some us ∧ mg t = some (.ref D) ∧ c = .ref D) ∨ (t = ("ValueError" : Str) ∧ c = .type "ValueError")) :
  Sim h₀ A W (call (.builtin "isinstance") [v, c]) (Mine.Internal.isUp C t x σ) RV ρ s := by
 cases r with
 | @ref a d n er =>
  show Sim h₀ A W _ ((Mine.Internal.getO n >>= fun o => match o with | .exc c _ => Mine.Internal.ofOpt ((C.ups c).map fun us => V.bool (us.contains t)) | _ => M.bad) σ) RV ρ s
  refine Sim.getO fun o hσ => ?_
  cases o with
  | exc k fs =>
   refine Sim.ofOpt fun y hy => ?_
   obtain ⟨us, hus, rfl⟩ := Option.map_eq_some_iff.mp hy
   rw [hups] at hus
   obtain ⟨hf, D, ob, vs, hk, g, h3, _⟩ := i.objs n _ _ hσ er
   obtain ⟨D', bm, h1, X, h2, h4⟩ := B.cls k us hus
   rw [hk.at B.g] at h1; cases h1
   have X' := X.keeps i.base
   obtain ⟨hh, gg, dd, tt, os⟩ := s
   refine Sim.same i fun Q E hQ => isi_exc X' g h3 ?_ fun tk => ?_
   ·rcases hc with ⟨ut, D2, q1, q2, rfl⟩ | ⟨_, rfl⟩
    ·obtain ⟨D3, bm', p1, p2, _⟩ := B.cls t ut q1
     rw [q2] at p1; cases p1
     exact .inl ⟨D2, bm', rfl, p2.keeps i.base⟩
    ·exact .inr rfl
   ·have e : (Value.ref D :: bm).contains c = us.contains t := by
     rcases hc with ⟨ut, D2, q1, q2, rfl⟩ | ⟨rfl, rfl⟩
     ·exact h4 t ut D2 q1 q2
     ·exact h2
    rw [e]
    exact hQ _ tk (.bool _)
  | _ => exact trivial
 | _ => exact trivial
theorem ev_isinstance {f t : Str} {a : Expr} {p q pos : Pos} (B : Base fns glob ups mg mb h₀.heap) (hups : C.ups = ups) (hns : NoShadow fns) (ha : EvS h₀ C n a) (hA : Rm h₀ A n C.calm) (F : Frm h₀ env ns loc ρ s.heap) (i : Inv h₀ σ ρ s.heap) (hf : isGlob ns f = true) (hfi : f = ("isinstance" : Str)) (hst : isStarE a = false) (ht : isGlob ns t = true) :
  Sim h₀ A [] (eval (.Call (.Name f p) [a, .Name t q] [] pos) env) ((ev C a ns loc >>= fun v => isiV C t v) σ) RV ρ s := by
 rw [Call_name]
 subst hfi
 refine Sim.head (v := .builtin "isinstance") (fun Q E h => wp_builtin B F i hf (by decide +kernel) (hns _ (by decide +kernel)) bb_isinstance h) ?_
 rw [starEach_cons (fun v p e' => by rw [e'] at hst; cases hst)]
 have go : ∀ (Q : Value → Shared → Prop) (E : Value → Shared → Prop), wpAny (model h₀.prog h₀.w) A (eval a env) (fun v s₁ => wpAny (model h₀.prog h₀.w) A (eval (.Name t q) env) (fun c s₂ => wpAny (model h₀.prog h₀.w) A (call (.builtin "isinstance") [v, c]) Q E s₂) E s₁) E s →
   wpAny (model h₀.prog h₀.w) A (callWith pos (.builtin "isinstance") [] (backTo pos ((false, eval a env) :: starEach [.Name t q] env)) []) Q E s := fun Q E h =>
  Calls.callWith_builtin (by rfl) (Calls.evalArgs_plain (Calls.spliced_cons (wpAny_mono h (fun v s₁ h₁ => Calls.spliced_cons (wpAny_mono h₁ (fun c s₂ h₂ => Calls.spliced_nil h₂) fun ya yb x => x)) fun ya yb x => x)))
 have this := ha env ns loc σ ρ s A hA F i
 cases h1 : ev C a ns loc σ with
 | bad => rw [bind_bad h1]; exact trivial
 | exc _ _ => rw [bind_exc h1]; rw [h1] at this; exact go _ _ (wpAny_mono this (fun ya yb f => f.elim) fun ya yb x => x)
 | ok v σ₁ =>
  rw [bind_ok h1]
  rw [h1] at this
  have go2 : ∀ (Q : Value → Shared → Prop) (E : Value → Shared → Prop), isiV C t v σ₁ ≠ .bad → (∀ val c ρ₁ H tk, Ext [] ρ s.heap ρ₁ H → Sim h₀ A [] (call (.builtin "isinstance") [val, c]) (isiV C t v σ₁) RV ρ₁ (At s H tk) → wpAny (model h₀.prog h₀.w) A (call (.builtin "isinstance") [val, c]) Q E (At s H tk)) →
    wpAny (model h₀.prog h₀.w) A (callWith pos (.builtin "isinstance") [] (backTo pos ((false, eval a env) :: starEach [.Name t q] env)) []) Q E s := fun Q E hb hq => by
   refine go _ _ (wpAny_mono this (fun val s₁ hp => ?_) fun ya yb x => x.elim)
   obtain ⟨ρ₁, H, tk, rfl, i₁, x₁, r₁⟩ := hp
   have e0 : isiV C t v σ₁ = isiV C t v σ₁ := rfl
   unfold isiV at hb e0
   cases hk : kdOf t with
   | some k =>
    obtain ⟨hn, hbb⟩ := kd_names hk
    refine wp_builtin B (F.ext0 x₁) i₁ ht hn (hns _ hn) hbb (hq _ _ ρ₁ H tk x₁ ?_)
    rw [show isiV C t v = isKd k v by unfold isiV; rw [hk]]
    exact Sim.isKd i₁ r₁
   | none =>
    rw [hk] at hb
    by_cases hu : ((C.ups t).isSome || t == ("ValueError" : Str)) = true
    ·refine ask_name (s := (At s H tk)) B hns (F.ext0 x₁) i₁ ht (by rw [← hups]; exact hu) fun c hc => hq _ _ ρ₁ H tk x₁ ?_
     rw [show isiV C t v = Mine.Internal.isUp C t v by unfold isiV; rw [hk]; dsimp only; rw [if_pos hu]]
     exact Sim.isUp B hups i₁ r₁ hc
    ·dsimp only at hb; rw [if_neg hu] at hb; exact absurd rfl hb
  cases h2 : isiV C t v σ₁ with
  | bad => exact trivial
  | exc _ _ => exact go2 _ _ (by rw [h2]; exact nofun) fun val c ρ₁ H tk x hs => by rw [h2] at hs; exact wpAny_mono hs (fun ya yb f => f) fun ya yb hp => hp.after x
  | ok u σ₂ => exact go2 _ _ (by rw [h2]; exact nofun) fun val c ρ₁ H tk x hs => by rw [h2] at hs; exact wpAny_mono hs (fun ya yb hp => hp.after x) fun ya yb f => f
variable (h₀ C n) in
noncomputable def IsiS (es : List Expr) : Prop := ∀ (f : Str) (p pos : Pos) (env : Env) (ns : Names) (loc : Loc) (σ : Store) (ρ : Map) (s : Shared) (A : Around), Rm h₀ A n C.calm → Frm h₀ env ns loc ρ s.heap → Inv h₀ σ ρ s.heap → isGlob ns f = true → f = ("isinstance" : Str) → noStars es = true →
 Sim h₀ A [] (eval (.Call (.Name f p) es [] pos) env) (evIsi C es ns loc σ) RV ρ s
theorem Sim.bltQ {f : Str} {fv : Value} {vals : List Value} {vs : List V} (hb : bootBuiltins f = some fv) (i : Inv h₀ σ ρ s.heap) (r : RelAll ρ s.heap vals vs) :
  Sim h₀ A W (call fv vals) (Mine.Internal.bltQ f vs σ) RV ρ s := by
 cases r with
 | nil => exact trivial
 | cons ra rn => cases rn with
  | cons _ _ => exact trivial
  | nil =>
   refine Sim.ite fun hf => ?_
   subst hf; rw [bb_int] at hb; cases hb
   exact Sim.bInt i ra
theorem ev_callName {f : Str} {es : List Expr} {p pos : Pos} (B : Base fns glob ups mg mb h₀.heap) (hfn : ∀ f, C.isFn f = (fns f).isSome) (hC : CallS h₀ mg C n) (hes : EvsS h₀ C n es)
  (hisi : IsiS h₀ C n es) : EvS h₀ C n (.Call (.Name f p) es [] pos) := fun env ns loc σ ρ s A hA F i => by
 show Sim h₀ A [] _ ((if callOk C ns f es = true then
   (if f = ("isinstance" : Str) then evIsi C es ns loc
   else (evs C es ns loc >>= fun vs => callGlob C f vs)) else M.bad) σ) RV ρ s
 refine Sim.ite fun hc => ?_
 unfold callOk at hc
 rw [Bool.and_eq_true, Bool.and_eq_true] at hc
 obtain ⟨hf, hst, hfb⟩ := hc
 refine Sim.ite2 (fun hi => hisi f p pos env ns loc σ ρ s A hA F i hf hi hst) fun hi => ?_
 rw [Call_name]
 cases hfun : fns f with
 | some fn =>
  obtain ⟨a, o, fd, hm, ho, hd, hok, hcd⟩ := B.fn f fn hfun
  have hisf : C.isFn f = true := by rw [hfn, hfun]; rfl
  refine Sim.head (v := .ref a) (fun Q E h => wp_global B F i hf hm h) ?_
  refine Sim.args hst hes hA F i (fun Q E hst h => cw_function ho hd hst h) fun l σ₁ ρ₁ H tk vs i₁ x₁ r₁ => ?_
  show Sim h₀ A [] _ ((if C.isFn f = true then C.call f l else _) σ₁) RV ρ₁ _
  rw [if_pos hisf]
  exact hC f a l vs σ₁ ρ₁ _ A hA hisf hm r₁ i₁
 | none =>
  have hisf : C.isFn f = false := by rw [hfn, hfun]; rfl
  have e : callGlob C f = fun vs => if C.calm = true then blt f vs else Mine.Internal.bltQ f vs := by funext l; unfold callGlob; rw [hisf]; rfl
  rw [e]
  have hn := bltTab_is (by rw [hisf] at hfb; exact hfb)
  ·obtain ⟨hn, hb⟩ := hn
   have k : ∀ {fv : Value}, bootBuiltins f = some fv → ∀ l σ₁ ρ₁ H tk vs, Inv h₀ σ₁ ρ₁ H → Ext [] ρ s.heap ρ₁ H → RelAll ρ₁ H vs l → Sim h₀ A [] (call fv vs) ((if C.calm = true then blt f l else Mine.Internal.bltQ f l) σ₁) RV ρ₁ (At s H tk) := fun hb l σ₁ ρ₁ H tk vs i₁ x₁ r₁ =>
    Sim.ite2 (fun hq => Sim.blt B.nolimit (hA.handled hq) hb i₁ r₁) fun ya => Sim.bltQ hb i₁ r₁
   rcases hb with ⟨id, hb⟩ | ⟨T, hb⟩
   ·refine Sim.head (v := .builtin id) (fun Q E h => wp_builtin B F i hf hn hfun hb h) ?_
    exact Sim.args hst hes hA F i (fun Q E hst h => cw_builtin hst h) (k hb)
   ·refine Sim.head (v := .type T) (fun Q E h => wp_builtin B F i hf hn hfun hb h) ?_
    exact Sim.args hst hes hA F i (fun Q E hst h => cw_type hst h) (k hb)
theorem bb_max : bootBuiltins ("max" : Str) = some (.builtin "max") := by decide +kernel
theorem ev_max {f : Str} {a : Expr} {k : Keyword} {p pos : Pos} (B : Base fns glob ups mg mb h₀.heap) (hfn : ∀ f, C.isFn f = (fns f).isSome) (ha : EvS h₀ C n a) : EvS h₀ C n (.Call (.Name f p) [a] [k] pos) := fun env ns loc σ ρ s A hA F i => by
 show Sim h₀ A [] _ ((match dfltOf k with | some z => if maxOk C ns f a = true then (ev C a ns loc >>= fun v => bMax z.1 v) else M.bad | none => M.bad) σ) RV ρ s
 cases hk : dfltOf k with
 | none => exact trivial
 | some z =>
  obtain ⟨z, c, q, r, rfl⟩ := z
  refine Sim.ite fun hc => ?_
  unfold maxOk at hc
  rw [Bool.and_eq_true, Bool.and_eq_true, Bool.and_eq_true, Bool.and_eq_true] at hc
  obtain ⟨hq', hg, hnf, hm, hst⟩ := hc
  have hfm := eq_of_beq hm
  subst hfm
  have hfun : fns "max" = none := by
   rw [hfn] at hnf
   cases e : fns "max" with
   | none => rfl
   | some _ => rw [e] at hnf; cases hnf
  show Sim h₀ A [] (eval (.Name "max" p) env >>= fun fv => callWith pos fv [] (backTo pos (starEach [a] env)) (backToKw pos (keywordEach [⟨some "default", .Constant (.int z) c q, r⟩] env))) _ RV ρ s
  refine Sim.head (v := .builtin "max") (fun Q E h => wp_builtin B F i hg (by decide +kernel) hfun bb_max h) ?_
  rw [starEach_cons (noStars_of hst a (List.mem_cons_self ..))]
  have go : ∀ (Q : Value → Shared → Prop) (E : Value → Shared → Prop), wpAny (model h₀.prog h₀.w) A (eval a env) (fun v s₁ => wpAny (model h₀.prog h₀.w) A (call (.builtin "max") [v] [(Str.ofString "default", .int z s₁.toks)]) Q E { s₁ with toks := s₁.toks + 1 }) E s →
    wpAny (model h₀.prog h₀.w) A (callWith pos (.builtin "max") [] (backTo pos ((false, eval a env) :: starEach [] env)) (backToKw pos (keywordEach [⟨some "default", .Constant (.int z) c q, r⟩] env))) Q E s := fun Q E h =>
   callWith_builtin_kwB (by rfl) (by rfl) (evalArgs_kwB (by rfl) (Calls.spliced_cons (wpAny_mono h (fun v s₁ h₁ => Calls.spliced_nil (kws_cons (wpAny_Constant_int (kws_nil h₁)))) fun ya yb x => x)))
  have this := ha env ns loc σ ρ s A hA F i
  cases h1 : ev C a ns loc σ with
  | bad => rw [bind_bad h1]; exact trivial
  | exc _ _ => rw [bind_exc h1]; rw [h1] at this; exact go _ _ (wpAny_mono this (fun ya yb f => f.elim) fun ya yb x => x)
  | ok v σ₁ =>
   rw [bind_ok h1]
   rw [h1] at this
   have go2 : ∀ (Q : Value → Shared → Prop) (E : Value → Shared → Prop), (∀ val ρ₁ H tk, Ext [] ρ s.heap ρ₁ H → Sim h₀ A [] (call (.builtin "max") [val] [(Str.ofString "default", .int z tk)]) (bMax z v σ₁) RV ρ₁ (At s H (tk + 1)) → wpAny (model h₀.prog h₀.w) A (call (.builtin "max") [val] [(Str.ofString "default", .int z tk)]) Q E (At s H (tk + 1))) →
     wpAny (model h₀.prog h₀.w) A (callWith pos (.builtin "max") [] (backTo pos ((false, eval a env) :: starEach [] env)) (backToKw pos (keywordEach [⟨some "default", .Constant (.int z) c q, r⟩] env))) Q E s := fun Q E hq => by
    refine go _ _ (wpAny_mono this (fun val s₁ hp => ?_) fun ya yb x => x.elim)
    obtain ⟨ρ₁, H, tk, rfl, i₁, x₁, r₁⟩ := hp
    exact hq _ ρ₁ H tk x₁ (Sim.bMax (s := (At s H (tk + 1))) (hA.handled hq') i₁ r₁)
   show Sim h₀ A [] _ (bMax z v σ₁) RV ρ s
   cases h2 : bMax z v σ₁ with
   | bad => exact trivial
   | exc _ _ => exact go2 _ _ fun val ρ₁ H tk x hs => by rw [h2] at hs; exact wpAny_mono hs (fun ya yb f => f) fun ya yb hp => hp.after x
   | ok u σ₂ => exact go2 _ _ fun val ρ₁ H tk x hs => by rw [h2] at hs; exact wpAny_mono hs (fun ya yb hp => hp.after x) fun ya yb f => f
end
end Mine.Internal

set_option backward.match.sparseCases false
namespace Mine.Internal
open PySem PyProof.Rows
section
variable {h₀ : Bse} {A : Around} {W : List Addr} {ρ : Map} {s : Shared} {σ : Store} {fns : Str → Option Fn} {glob : Str → Option V} {ups : Str → Option (List Str)} {mg mb : Str → Option Value}
variable {env : Env} {ns : Names} {loc : Loc} {C : Cfg} {n : Nat}
theorem attributeBase_plain {o : Expr} {m : Str} {whole : Sem Value} (h : isSuper o = false) : attributeBase o m env whole = whole := by
 cases o with
 | Call f as ks p =>
  cases f <;> first | rfl | (cases as <;> first | rfl | (cases ks <;> first | rfl | cases h))
 | _ => rfl
noncomputable def MTag.T : MTag → String
 | .append => "list"
 | .join => "str"
 | .index => "list"
 | .setdefault => "dict"
 | .get => "dict"
 | .pop => "dict"
 | .clear => "dict"
noncomputable def MTag.name : MTag → Str
 | .append => "append"
 | .join => "join"
 | .index => "index"
 | .setdefault => "setdefault"
 | .get => "get"
 | .pop => "pop"
 | .clear => "clear"
noncomputable def MTag.id : MTag → String
 | .append => "list.append"
 | .join => "str.join"
 | .index => "list.index"
 | .setdefault => "dict.setdefault"
 | .get => "dict.get"
 | .pop => "dict.pop"
 | .clear => "dict.clear"
theorem MTag.attrs (t : MTag) : PlainAttrs t.T := by
 cases t with
 | append => exact F.plainAttrs_list
 | join => exact F.plainAttrs_str
 | index => exact F.plainAttrs_list
 | setdefault => exact F.plainAttrs_dict
 | get => exact F.plainAttrs_dict
 | pop => exact F.plainAttrs_dict
 | clear => exact F.plainAttrs_dict
theorem MTag.slot (t : MTag) : Slot t.T t.name t.id := by
 cases t with
 | append => exact F.slot_list_append
 | join => exact F.slot_str_join
 | index => exact F.slot_list_index
 | setdefault => exact F.slot_dict_setdefault
 | get => exact F.slot_dict_get
 | pop => exact F.slot_dict_pop
 | clear => exact F.slot_dict_clear
theorem MTag.type (t : MTag) : typeOf (.builtin t.id) = pure (.type "method_descriptor") := by
 cases t with
 | append => exact F.type_list_append
 | join => exact F.type_str_join
 | index => exact F.type_list_index
 | setdefault => exact F.type_dict_setdefault
 | get => exact F.type_dict_get
 | pop => exact F.type_dict_pop
 | clear => exact F.type_dict_clear
noncomputable def pickM (m : Str) : List MTag → Option MTag
 | [] => none
 | t :: r => if m = t.name then some t else pickM m r
theorem pickM_is {m : Str} {ts : List MTag} {t : MTag} (h : pickM m ts = some t) : t ∈ ts ∧ m = t.name := by
 induction ts with
 | nil => cases h
 | cons u r ih =>
  have h : (if m = u.name then some u else pickM m r) = some t := h
  by_cases e : m = u.name
  ·rw [if_pos e] at h; cases h; exact ⟨List.mem_cons_self .., e⟩
  ·rw [if_neg e] at h
   exact ⟨List.mem_cons_of_mem _ (ih h).1, (ih h).2⟩
theorem mtag_is {v : Value} {x : V} {m : Str} {t : MTag} (i : Inv h₀ σ ρ s.heap) (r : Rel ρ s.heap v x) (h : mtag x m σ = some t) : m = t.name ∧ s.TypeIs v t.T ∧ ∀ a, v = .ref a → ∃ o, s.heap.get? a = some o ∧ o.dict = none := by
 cases r with
 | str _ tk _ =>
  obtain ⟨hm, e⟩ := pickM_is (ts := [.join]) h
  cases List.mem_singleton.mp hm
  exact ⟨e, typeIs_str s _ tk, fun ya e => nomatch e⟩
 | @ref a d k er =>
  have h : (match σ[k]? with
   | some (.list _) => pickM m [.append, .index]
   | some (.dict _ _) => pickM m [.setdefault, .get, .pop, .clear]
   | _ => none) = some t := h
  cases e : σ[k]? with
  | none => rw [e] at h; cases h
  | some o =>
   rw [e] at h
   cases o with
   | list l =>
    obtain ⟨vs, j, g, hl, ra⟩ := i.list e er
    obtain ⟨hm, en⟩ := pickM_is h
    have hT : t.T = "list" := (List.forall_mem_cons.mpr ⟨rfl, List.forall_mem_cons.mpr ⟨rfl, fun ya h => nomatch h⟩⟩ : ∀ t ∈ [MTag.append, .index], t.T = "list") t hm
    exact ⟨en, by rw [hT]; exact (isList_of g).typeIs, fun b e => by cases e; exact ⟨_, g, rfl⟩⟩
   | dict dv l =>
    obtain ⟨_, _, kvs, hd, hl, ra⟩ := i.dict e er
    obtain ⟨hm, en⟩ := pickM_is h
    have hT : t.T = "dict" := (List.forall_mem_cons.mpr ⟨rfl, List.forall_mem_cons.mpr ⟨rfl, List.forall_mem_cons.mpr ⟨rfl, List.forall_mem_cons.mpr ⟨rfl, fun ya h => nomatch h⟩⟩⟩⟩ : ∀ t ∈ [MTag.setdefault, .get, .pop, .clear], t.T = "dict") t hm
    exact ⟨en, by rw [hT]; exact hd.typeIs, fun b e => by cases e; exact (let ⟨o, _, _, g, hx, _⟩ := hd; ⟨o, g, hx.2.1⟩)⟩
   | inst _ _ => cases h
   | exc _ _ => cases h
 | _ => cases h
theorem Sim.runM {t : MTag} {v : Value} {x : V} {vals : List Value} {vs : List V} (hu : A.units + 201 < cLine) (i : Inv h₀ σ ρ s.heap) (r : Rel ρ s.heap v x) (rs : RelAll ρ s.heap vals vs) : Sim h₀ A W (call (.builtin t.id) (v :: vals)) (runM t x vs σ) RV ρ s := by
 cases rs with
 | nil => cases t with
  | clear => exact Sim.mClear i r
  | _ => exact trivial
 | cons ra rn => cases rn with
  | nil => cases t with
   | append => exact Sim.mAppend i r ra
   | join => exact Sim.mJoin i r ra
   | index => exact Sim.mIndex hu i r ra
   | _ => exact trivial
  | cons rb rn => cases rn with
   | nil => cases t with
    | setdefault => exact Sim.mSetdefault i r ra rb
    | get => exact Sim.mGet i r ra rb
    | pop => exact Sim.mPop i r ra rb
    | _ => exact trivial
   | cons _ _ => cases t <;> exact trivial
theorem ev_callMeth {o : Expr} {m : Str} {ap pos : Pos} {es : List Expr} (ho : EvS h₀ C n o) (hes : EvsS h₀ C n es) : EvS h₀ C n (.Call (.Attribute o m ap) es [] pos) := fun env ns loc σ ρ s A hA F i => by
 show Sim h₀ A [] _ ((if ap.endLine = pos.line ∧ es.length < 30 ∧ isSuper o = false ∧ noStars es = true then (ev C o ns loc >>= fun v => askS (mtag v m) >>= fun tg => evs C es ns loc >>= fun vs => runM tg v vs) else M.bad) σ) RV ρ s
 refine Sim.ite fun hc => ?_
 obtain ⟨h1, h2, h3, hst⟩ := hc
 rw [arm_eval_Call, attributeBase_plain h3]
 refine Sim.bind (ho env ns loc σ ρ s A hA F i) fun a σ₁ ρ₁ H₁ tk₁ va i₁ x₁ r₁ => Sim.standAt ?_
 cases ht : mtag a m σ₁ with
 | none => rw [bind_bad (by rw [askS_eq, ht])]; exact trivial
 | some t =>
  rw [bind_ok (a := t) (σ' := σ₁) (by rw [askS_eq, ht])]
  obtain ⟨hm, hT, hd⟩ := mtag_is (s := (At s H₁ tk₁)) i₁ r₁ ht
  subst hm
  have hform : methodCallForm (es.length + ([] : List Keyword).length) (backTo pos (starEach es env)) (backToKw pos (keywordEach [] env)) = true := by
   show ((backTo pos (starEach es env)).all (fun x => !x.1) && true && decide (es.length + 0 + 0 < 30)) = true
   rw [(noStar (noStars_of hst)).2]; simpa using h2
  have hpos : methodCallPos true o env ap pos = pure pos := by
   unfold methodCallPos
   rw [if_pos (by simp [h1])]
  refine Sim.wrap (t := callWith pos (.builtin t.id) [va] (backTo pos (starEach es env)) []) (fun Q E h => ?_) ?_
  ·unfold methodCall
   rw [hform]
   refine wpAny_bind (wpAny_holding (getMethod_builtin hT t.attrs t.slot t.type hd ?_))
   exact wpAny_bind (wpAny_of_eq hpos h)
  ·exact Sim.args hst hes hA (F.ext0 x₁) i₁ (fun Q E hst h => cw_builtin hst h) fun l σ₁ ρ₁ H tk vs i₁ x₁ r => Sim.runM hA.u i₁ (r₁.ext x₁) r
end
end Mine.Internal

set_option backward.match.sparseCases false
namespace Mine.Internal
open PySem PyProof.Rows
noncomputable def KeepBut (wr : List Addr) (h h' : Heap) : Prop := ∀ b o, b ∉ wr → h.get? b = some o → h'.get? b = some o
section
variable {h₀ : Bse} {hb : Heap} {A : Around} {W wr : List Addr} {ρ ρ' ρb : Map} {h h' : Heap} {s : Shared} {σ : Store}
theorem KeepBut.of_but {a : Addr} (x : Heap.ExtBut a h h') (ha : a ∈ wr) : KeepBut wr h h' := fun b o hb e => x b o (fun eq => hb (eq ▸ ha)) e
theorem Ext.but (x : Ext W ρb hb ρ h) (hk : KeepBut wr h h') (hd : ∀ b ∈ wr, hb.get? b = none) : Ext W ρb hb ρ h' := by
 have out : ∀ b o, hb.get? b = some o → b ∉ wr := fun b o e hm => by rw [hd b hm] at e; cases e
 exact {
  pre := fun n a v e => let ⟨v', e', l, k⟩ := x.pre n a v e; ⟨v', e', l, fun q o g d => hk a o (out a o g) (k q o g d)⟩
  keep := fun b o e hW hρ => let ⟨o', e', s'⟩ := x.keep b o e hW hρ; ⟨o', hk b o' (out b o e) e', s'⟩
  kin := fun b o e => let ⟨o', e', k⟩ := x.kin b o e; ⟨o', hk b o' (out b o e) e', k⟩
  new := x.new }
noncomputable def Own (wr : List Addr) (ρ : Map) (h : Heap) : Prop := ∀ b ∈ wr, offMap ρ b ∧ ∃ o, h.get? b = some o ∧ (∀ vs n, o ≠ tupO vs n) ∧ ¬TbO o
noncomputable def NoFr (h₀ : Bse) (wr : List Addr) : Prop := ∀ b ∈ wr, ∀ e ∈ h₀.frs, e.frame ≠ some b
theorem Inv.noFr (i : Inv h₀ σ ρ h) (hd : ∀ b ∈ wr, h.get? b = none) : NoFr h₀ wr := fun b hb e he q => by
 obtain ⟨_, L, o, hL, ho, _⟩ := i.up e he
 rw [hL] at q; cases q
 rw [hd b hb] at ho; cases ho
theorem KeepBut.sub (hk : KeepBut wr h h') (ho : Own wr ρ h) : Sub ρ h ρ h' := ⟨fun ya yb v e => ⟨v, e⟩, fun b vs n e => hk b _ (fun hm => by
 obtain ⟨_, o, e', hn, _⟩ := ho b hm
 rw [e] at e'; cases e'; exact hn vs n rfl) e, fun b o e t => ⟨o, hk b o (fun hm => by
 obtain ⟨_, o', e', _, hn⟩ := ho b hm
 rw [e] at e'; cases e'; exact hn t) e, t⟩⟩
theorem Inv.but (i : Inv h₀ σ ρ h) (hk : KeepBut wr h h') (ho : Own wr ρ h) (h0 : ∀ b ∈ wr, h₀.get? b = none) (hfr : NoFr h₀ wr) : Inv h₀ σ ρ h' where
 base := fun b o e => hk b o (fun hm => by rw [h0 b hm] at e; cases e) (i.base b o e)
 len := i.len
 objs := fun n o p e1 e2 => (i.objs n o p e1 e2).sub (hk.sub ho) (fun ob g => hk _ _ (fun hm => (ho _ hm).1 p (List.mem_of_getElem? e2) rfl) g)
 fresh := i.fresh
 apart := i.apart
 up := fun e he => by
  obtain ⟨hkd, L, o, hL, g, r⟩ := i.up e he
  exact ⟨hkd, L, o, hL, hk _ _ (fun hm => hfr L hm e he hL) g, r⟩
theorem Frm.but {env : Env} {ns : Names} {loc : Loc} (F : Frm h₀ env ns loc ρ h) (hk : KeepBut wr h h') (ho : Own wr ρ h) (hf : ∀ b ∈ wr, offFrame env b) : Frm h₀ env ns loc ρ h' := by
 have hloc : env.locals ∉ wr := fun hm => (hf _ hm).1 rfl
 have hcell : ∀ x c, env.cells.lookup x = some c → c ∉ wr := fun x c e hm => (hf _ hm).2 x c e rfl
 have hs := hk.sub ho
 exact {
  names := F.names
  kind := F.kind
  globals := F.globals
  blts := F.blts
  vars := by
   obtain ⟨m, hn, hv⟩ := F.vars
   obtain ⟨o, es, ep, ho, r⟩ := hn
   refine ⟨m, ⟨o, es, ep, hk _ _ hloc ho, r⟩, fun y i v h1 h2 => ?_⟩
   obtain ⟨val, e, hr⟩ := hv y i v h1 h2
   exact ⟨val, e, hr.sub hs⟩
  cell := fun y i h1 => by
   obtain ⟨c, o, e, ⟨ob, hob, hd⟩, hv⟩ := F.cell y i h1
   refine ⟨c, o, e, ⟨ob, hk _ _ (hcell _ _ e) hob, hd⟩, fun v hl => ?_⟩
   obtain ⟨val, e', hr⟩ := hv v hl
   exact ⟨val, e', hr.sub hs⟩
  live := fun y c e => by
   obtain ⟨o, ob, hob, hd⟩ := F.live y c e
   exact ⟨o, ob, hk _ _ (hcell _ _ e) hob, hd⟩
  offL := F.offL
  offC := F.offC
  apart := F.apart
  top := F.top }
inductive ItAt (h₀ : Bse) : Src → Value → List Addr → Nat → Map → Heap → Prop
 | tup {l : List V} {I t : Addr} {vs : List Value} {n i : Nat} {ρ : Map} {h : Heap} : h.IsTupleIter I t i → h.get? t = some (tupO vs n) → RelAll ρ h vs l → offMap ρ I → ItAt h₀ (.vals l) (.ref I) [I] i ρ h
 | range {a b : Int} {I : Addr} {i : Nat} {ρ : Map} {h : Heap} : IsRangeIter h I (a + i) (((b - a).toNat : Int) - i) 1 → offMap ρ I → ItAt h₀ (.vals (rangeV a b)) (.ref I) [I] i ρ h
 | sign {T : String} {x : Str} {t : Tok} {I : Addr} {i : Nat} {ρ : Map} {h : Heap} : T = "str_ascii_iterator" ∨ T = "str_iterator" → h.IsStrIter I T x t i → SOk x → offMap ρ I → ItAt h₀ (.vals (chars x)) (.ref I) [I] i ρ h
 | lst {n d : Nat} {I l : Addr} {i : Nat} {ρ : Map} {h : Heap} : h.IsListIter I l i → ρ[n]? = some (l, d) → offMap ρ I → ItAt h₀ (.lst n) (.ref I) [I] i ρ h
 | keys {n v d ep : Nat} {I a : Addr} {i : Nat} {kvs : List (Key × Value)} {l : List V} {ρ : Map} {h : Heap} : h.IsKeyIter I a i kvs.length ep → ρ[n]? = some (a, d) → v ≤ d → (d = v → h.DictAt (keyKind h₀.prog h₀.w) a kvs ep) → l = kvs.map (fun p => keyV p.1) → (∀ p ∈ kvs, ∀ s, p.1 = .inr s → SOk s) → a ≠ I → offMap ρ I → ItAt h₀ (.keys n v l) (.ref I) [I] i ρ h
theorem IsTupleIter.keep {I t : Addr} {i : Nat} (x : h.IsTupleIter I t i) (e : ∀ o, h.get? I = some o → h'.get? I = some o) : h'.IsTupleIter I t i := let ⟨o, ho, r⟩ := x; ⟨o, e _ ho, r⟩
theorem firm_fields {o : Obj} {T : String} {vs : Array Value} (hc : o.cls = .type T) (hT : T ≠ "traceback") (ht : T ≠ "tuple") (hd : o.data = .fields vs) : (∀ ws n, o ≠ tupO ws n) ∧ Firm o :=
 ⟨fun ws n e => (by rw [e] at hc; exact ht (Value.type.inj hc).symm), fun ⟨_, _, e⟩ => (by rw [hd] at e; cases e), fun ⟨e, _⟩ => (by rw [hc] at e; exact hT (Value.type.inj e))⟩
theorem ItAt.firm {sr : Src} {it : Value} {i : Nat} (x : ItAt h₀ sr it wr i ρ h) : ∀ b ∈ wr, offMap ρ b ∧ ∃ o, h.get? b = some o ∧ (∀ vs n, o ≠ tupO vs n) ∧ Firm o := by
 cases x with
 | tup hit _ _ off =>
  obtain ⟨o, ho, hc, hd⟩ := hit
  intro b hb
  rw [List.mem_singleton.mp hb]
  exact ⟨off, o, ho, firm_fields hc (by decide) (by decide) hd⟩
 | range hit off =>
  intro b hb
  rw [List.mem_singleton.mp hb]
  exact ⟨off, _, hit, firm_fields rfl (by decide) (by decide) rfl⟩
 | sign hT hit _ off =>
  obtain ⟨o, ho, hc, hd⟩ := hit
  intro b hb
  rw [List.mem_singleton.mp hb]
  exact ⟨off, o, ho, firm_fields hc (by rcases hT with rfl | rfl <;> decide) (by rcases hT with rfl | rfl <;> decide) hd⟩
 | lst hit _ off =>
  obtain ⟨o, ho, hc, hd⟩ := hit
  intro b hb
  rw [List.mem_singleton.mp hb]
  exact ⟨off, o, ho, firm_fields hc (by decide) (by decide) hd⟩
 | keys hit _ _ _ _ _ _ off =>
  obtain ⟨o, ho, hc, hd⟩ := hit
  intro b hb
  rw [List.mem_singleton.mp hb]
  exact ⟨off, o, ho, firm_fields hc (by decide) (by decide) hd⟩
theorem ItAt.own {sr : Src} {it : Value} {i : Nat} (x : ItAt h₀ sr it wr i ρ h) : Own wr ρ h := fun b hb => let ⟨h1, o, h2, h3, h4⟩ := x.firm b hb; ⟨h1, o, h2, h3, h4.2⟩
theorem ItAt.ext {sr : Src} {it : Value} {i : Nat} (x : Ext W ρ h ρ' h') (hW : ∀ b ∈ wr, b ∉ W) (r : ItAt h₀ sr it wr i ρ h) : ItAt h₀ sr it wr i ρ' h' := by
 have ho := r.firm
 have hk : ∀ b ∈ wr, ∀ o, h.get? b = some o → h'.get? b = some o := fun b hb o e => by
  obtain ⟨off, o', e', _, f⟩ := ho b hb
  rw [e] at e'; cases e'
  exact x.firm e f (hW b hb) off
 have hoff : ∀ b ∈ wr, offMap ρ' b := fun b hb => by
  obtain ⟨off, o, e, _⟩ := ho b hb
  exact offMap.ext x e off
 cases r with
 | tup hit g ra off => exact .tup (IsTupleIter.keep hit (hk _ (List.mem_singleton.mpr rfl))) (x.tups _ _ _ g) (ra.ext x) (hoff _ (List.mem_singleton.mpr rfl))
 | range hit off => exact .range (hk _ (List.mem_singleton.mpr rfl) _ hit) (hoff _ (List.mem_singleton.mpr rfl))
 | sign hT hit hx off => exact .sign hT (let ⟨o, ho, r⟩ := hit; ⟨o, hk _ (List.mem_singleton.mpr rfl) _ ho, r⟩) hx (hoff _ (List.mem_singleton.mpr rfl))
 | lst hit e off => obtain ⟨_, e', _⟩ := x.pre _ _ _ e; exact .lst (hit.at (hk _ (List.mem_singleton.mpr rfl))) e' (hoff _ (List.mem_singleton.mpr rfl))
 | keys hit e hv hd hl hs hne off =>
  obtain ⟨d', e', hle, hsame⟩ := x.pre _ _ _ e
  refine .keys (hit.at (hk _ (List.mem_singleton.mpr rfl))) e' (Nat.le_trans hv hle) (fun q => ?_) hl hs hne (hoff _ (List.mem_singleton.mpr rfl))
  have q1 : _ = _ := Nat.le_antisymm (q ▸ hle) hv
  obtain ⟨o, es, ho, hc, hdat, r⟩ := hd q1
  exact ⟨o, es, hsame (q.trans q1.symm) o ho ⟨_, _, hdat⟩, hc, hdat, r⟩
set_option backward.match.sparseCases true in
theorem letGo_plain {target : Expr} {I : Addr} {v : Value} {o : Obj} {T : String} {Q : Unit → Shared → Prop} {E : Value → Shared → Prop} (ho : s.heap.get? I = some o) (hc : o.cls = .type T)
  (hT : ["enumerate", "zip", "dict_itemiterator", "dict_reverseitemiterator", "odict_iterator", "itertools.zip_longest", "itertools.pairwise"].contains T = false) (h : Q () s) : wpAny (model h₀.prog h₀.w) A (letOwnedTupleGo target (.ref I) v) Q E s := by
 have key : ∀ f : Expr, (letOwnedTupleGo f (.ref I) v = Pure.pure () ∨ letOwnedTupleGo f (.ref I) v = (match v with
   | .ref a => (load I >>= fun o => match o.cls, o.data with
    | .type n, .fields vs => if (["enumerate", "zip", "dict_itemiterator", "dict_reverseitemiterator", "odict_iterator", "itertools.zip_longest", "itertools.pairwise"].contains n && vs[0]? == some (rawInt a)) = true then
      (rule "for.unpacks-the-owned-tuple" >>= fun ya => updateField I 0 .none) else Pure.pure ()
    | _, _ => Pure.pure ())
   | _ => Pure.pure ())) := by
  intro f
  cases f <;> first | exact .inl rfl | (right; cases v <;> rfl)
 rcases key target with e | e
 ·rw [e]; exact wpAny_pure h
 ·rw [e]
  cases v with
  | ref a =>
   refine wpAny_bind (wpAny_load ho ?_)
   rw [hc]
   cases o.data with
   | fields vs =>
    show wpAny _ _ (if (["enumerate", "zip", "dict_itemiterator", "dict_reverseitemiterator", "odict_iterator", "itertools.zip_longest", "itertools.pairwise"].contains T && _) = true then _ else _) _ _ _
    rw [hT]
    exact wpAny_pure h
   | _ => exact wpAny_pure h
  | _ => exact wpAny_pure h
theorem listAt_some {n : Nat} {o : Option (Option V)} {f : List V → Option V} {r : Option V} (h : (listAt σ n).map f = some r) : ∃ l, σ[n]? = some (.list l) ∧ f l = r := by
 unfold listAt at h
 cases e : σ[n]? with
 | none => rw [e] at h; cases h
 | some ob =>
  rw [e] at h
  cases ob with
  | list l => exact ⟨l, rfl, Option.some.inj h⟩
  | dict _ _ => cases h
  | inst _ _ => cases h
  | exc _ _ => cases h
theorem key_rel {k : Key} {v : Value} {h : Heap} (hk : keyIs k v = true) (hs : ∀ s, k = .inr s → SOk s) : Rel ρ h v (keyV k) := by
 rcases keyIs_shape hk with ⟨i, t, rfl, rfl⟩ | ⟨x, t, rfl, rfl⟩
 ·exact .int i t
 ·exact .str x t (hs x rfl)
noncomputable def NextNo (s : Shared) (wr : List Addr) (Q : Option Value → Shared → Prop) (o : Option V) : Prop := ∀ h', o = none → KeepBut wr s.heap h' → Q none { s with heap := h' }
noncomputable def LetGoes (h₀ : Bse) (A : Around) (s : Shared) (ρ : Map) (target : Expr) (wr : List Addr) (sr : Src) (it : Value) (i : Nat) (val : Value) (v : V) (h' : Heap) (tk : Nat) : Prop :=
 ∀ (Q' : Unit → Shared → Prop) (E' : Value → Shared → Prop), (∀ h'', KeepBut wr s.heap h'' → Rel ρ h'' val v → ItAt h₀ sr it wr (i + 1) ρ h'' → Q' () (At s h'' tk)) → wpAny (model h₀.prog h₀.w) A (letOwnedTupleGo target it val) Q' E' (At s h' tk)
noncomputable def NextYes (h₀ : Bse) (A : Around) (s : Shared) (ρ : Map) (target : Expr) (Q : Option Value → Shared → Prop) (wr : List Addr) (sr : Src) (it : Value) (i : Nat) (o : Option V) : Prop :=
 ∀ v val h' tk, o = some v → KeepBut wr s.heap h' → LetGoes h₀ A s ρ target wr sr it i val v h' tk → Q (some val) (At s h' tk)
theorem ItAt.next {sr : Src} {it : Value} {i : Nat} {o : Option V} {target : Expr} {Q : Option Value → Shared → Prop} {E : Value → Shared → Prop} (hA : A.handled = none) (x : ItAt h₀ sr it wr i ρ s.heap) (iv : Inv h₀ σ ρ s.heap) (e : sr.at σ i = some o)
  (htg : tgtOk sr target = true) (h1 : NextNo s wr Q o) (h2 : NextYes h₀ A s ρ target Q wr sr it i o) :
  wpAny (model h₀.prog h₀.w) A (pyNext it) Q E s := by
 have own := x.own
 cases x with
 | @tup l I t vs n _ _ _ hit g ra off =>
  cases e
  have hne : t ≠ I := fun eq => by
   obtain ⟨o, ho, hc, _⟩ := hit
   rw [← eq, g] at ho; cases ho; exact absurd (Value.type.inj hc) (by decide)
  cases hl : l[i]? with
  | none =>
   exact wpAny_pyNext_tuple_end hA hit (isTuple_of g) (by simpa using ra.get_none hl) fun h' hx => h1 h' hl (KeepBut.of_but hx (List.mem_singleton.mpr rfl))
  | some v =>
   obtain ⟨val, hv, r⟩ := ra.get hl
   refine wpAny_pyNext_tuple_item hit (isTuple_of g) (x := val) (by simpa using hv) fun h' hit' hx => ?_
   have hk := KeepBut.of_but (wr := [I]) hx.extBut (List.mem_singleton.mpr rfl)
   have hs := hk.sub own
   refine h2 v val h' s.toks hl hk fun Q' E' hq => ?_
   obtain ⟨ob, hob, hc, _⟩ := id hit'
   exact letGo_plain (s := { s with heap := h' }) hob hc (by decide) (hq h' hk (r.sub hs) (.tup hit' (hs.2.1 _ _ _ g) (ra.sub hs) off))
 | @range a b I _ _ _ hit off =>
  cases e
  rw [rangeV_get] at h1 h2
  by_cases hlt : i < (b - a).toNat
  ·rw [if_pos hlt] at h2
   refine wpAny_pyNext_range_item hit (by (first | lia | omega)) fun h' hit' hx => ?_
   have hk := KeepBut.of_but (wr := [I]) hx.extBut (List.mem_singleton.mpr rfl)
   refine h2 _ _ h' (s.toks + 1) rfl hk fun Q' E' hq => ?_
   refine letGo_plain (s := (At s h' (s.toks + 1))) hit' rfl (by decide) (hq h' hk (.int _ _) (.range ?_ off))
   have e1 : a + (i : Int) + 1 = a + ((i + 1 : Nat) : Int) := by (first | lia | omega)
   have e2 : ((b - a).toNat : Int) - (i : Int) - 1 = ((b - a).toNat : Int) - ((i + 1 : Nat) : Int) := by (first | lia | omega)
   rw [e1, e2] at hit'; exact hit'
  ·rw [if_neg hlt] at h1
   exact wpAny_pyNext_range_end hA hit (by (first | lia | omega)) fun h' hx => h1 h' rfl (KeepBut.of_but hx (List.mem_singleton.mpr rfl))
 | @sign T y t I _ _ _ hT hit hy off =>
  cases e
  have hch : (chars y)[i]? = (y.cps[i]?).map fun c => V.str (chr1 c) := by
   unfold chars
   rw [List.getElem?_map, Array.getElem?_toList]
  rw [hch] at h1 h2
  cases hc : y.cps[i]? with
  | none =>
   rw [hc] at h1
   rcases hT with rfl | rfl
   ·exact wpAny_pyNext_ascii_end hA hit hc fun h' hx => h1 h' rfl (KeepBut.of_but hx (List.mem_singleton.mpr rfl))
   ·exact wpAny_pyNext_wide_end hA hit hc fun h' hx => h1 h' rfl (KeepBut.of_but hx (List.mem_singleton.mpr rfl))
  | some c =>
   rw [hc] at h2
   have hck : SOk (chr1 c) := by
    refine ⟨show 1 ≤ sizeLine by decide, ?_⟩
    have h4 := hy.2
    unfold PyData.strOk at h4 ⊢
    rw [Array.all_eq_true] at h4
    have hlt : i < y.cps.size := by
     rcases Nat.lt_or_ge i y.cps.size with h | h
     ·exact h
     ·rw [Array.getElem?_eq_none h] at hc; cases hc
    have := h4 i hlt
    rw [Array.getElem?_eq_getElem hlt] at hc
    cases hc
    simpa [chr1] using this
   have go : ∀ h', h'.IsStrIter I T y t (i + 1) → Heap.SameBut I s.heap h' → Q (some (.str ⟨#[c]⟩ s.toks)) (At s h' (s.toks + 1)) := fun h' hit' hx => by
    have hk := KeepBut.of_but (wr := [I]) hx.extBut (List.mem_singleton.mpr rfl)
    refine h2 _ _ h' (s.toks + 1) rfl hk fun Q' E' hq => ?_
    obtain ⟨ob, hob, hcl, _⟩ := id hit'
    exact letGo_plain (s := (At s h' (s.toks + 1))) hob hcl (by rcases hT with rfl | rfl <;> decide) (hq h' hk (.str _ _ hck) (.sign hT hit' hy off))
   rcases hT with rfl | rfl
   ·exact wpAny_pyNext_ascii_item hit hc go
   ·exact wpAny_pyNext_wide_item hit hc go
 | @lst n d I l _ _ _ hit er off =>
  obtain ⟨m, hσ, rfl⟩ := listAt_some (o := some o) e
  obtain ⟨vs, k, g, hl, ra⟩ := iv.list hσ er
  cases hm : m[i]? with
  | none =>
   exact wpAny_pyNext_list_end hA hit (isList_of g) (by simpa using ra.get_none hm) fun h' hx => h1 h' hm (KeepBut.of_but hx (List.mem_singleton.mpr rfl))
  | some v =>
   obtain ⟨val, hv, r⟩ := ra.get hm
   refine wpAny_pyNext_list_item hit (isList_of g) (x := val) (by simpa using hv) fun h' hit' hx => ?_
   have hk := KeepBut.of_but (wr := [I]) hx.extBut (List.mem_singleton.mpr rfl)
   have hs := hk.sub own
   refine h2 v val h' s.toks hm hk fun Q' E' hq => ?_
   obtain ⟨ob, hob, hc, _⟩ := id hit'
   exact letGo_plain (s := { s with heap := h' }) hob hc (by decide) (hq h' hk (r.sub hs) (.lst hit' er off))
 | @keys n v d ep I a _ kvs l _ _ hit er hv hd hl hs hne off =>
  have hver : verAt σ n = some v ∧ o = l[i]? := by
   have e : (if verAt σ n = some v then some l[i]? else none) = some o := e
   by_cases q : verAt σ n = some v
   ·rw [if_pos q] at e; cases e; exact ⟨q, rfl⟩
   ·rw [if_neg q] at e; cases e
  obtain ⟨hver, rfl⟩ := hver
  have hσ : ∃ t, σ[n]? = some (.dict v t) := by
   unfold verAt at hver
   cases q : σ[n]? with
   | none => rw [q] at hver; cases hver
   | some ob =>
    rw [q] at hver
    cases ob with
    | dict v' t => cases hver; exact ⟨t, rfl⟩
    | _ => cases hver
  obtain ⟨t, hσ⟩ := hσ
  have hdv : d = v := (iv.dict hσ er).1
  have hat := hd hdv
  cases hx : kvs[i]? with
  | none =>
   refine wpAny_pyNext_dict_end hA hit hat hx fun h' hx' => h1 h' ?_ (KeepBut.of_but hx' (List.mem_singleton.mpr rfl))
   rw [hl, List.getElem?_map, hx]; rfl
  | some p =>
   obtain ⟨k, u⟩ := p
   refine wpAny_pyNext_dict_item hit hat hx fun key h' hkey hit' hsb => ?_
   have hk := KeepBut.of_but (wr := [I]) hsb.extBut (List.mem_singleton.mpr rfl)
   refine h2 (keyV k) key h' s.toks (by rw [hl, List.getElem?_map, hx]; rfl) hk fun Q' E' hq => ?_
   exact letGo_keyiter (s' := { s with heap := h' }) hit' (hq h' hk (key_rel hkey (hs _ (List.mem_of_getElem? hx))) (.keys hit' er hv (fun ya => hat.extBut hsb.extBut hne) hl hs hne off))
noncomputable def RSrc (h₀ : Bse) (hb : Heap) : Src → Map → Heap → Value → Prop
 | .vals l, ρ, h, v => (∃ t vs n, v = .ref t ∧ h.get? t = some (tupO vs n) ∧ RelAll ρ h vs l) ∨
   (∃ x t, v = .str x t ∧ SOk x ∧ l = chars x) ∨
   ∃ r a b t u w, v = .ref r ∧ IsRange h r a b 1 t u w ∧ Builtin.Range.small a b 1 = true ∧ l = rangeV a b
 | .lst n, ρ, h, v => ∃ a d vs k, v = .ref a ∧ ρ[n]? = some (a, d) ∧ h.get? a = some (listO vs k)
 | .keys n u l, ρ, h, v => ∃ a kvs, v = .ref a ∧ ρ[n]? = some (a, u) ∧ (a == sysModules) = false ∧ h.DictOf (keyKind h₀.prog h₀.w) a kvs ∧ l = kvs.map (fun p => keyV p.1) ∧ ∀ p ∈ kvs, ∀ s, p.1 = .inr s → SOk s
theorem size_dead {h h' : Heap} (hk : ∀ b o, h.get? b = some o → ∃ o', h'.get? b = some o') : h.get? h'.objs.size = none := by
 cases e : h.get? h'.objs.size with
 | none => rfl
 | some o => obtain ⟨o', e'⟩ := hk _ _ e; exact absurd (Heap.lt_size e') (Nat.lt_irrefl _)
theorem RSrc.iter {sr : Src} {v : Value} {Q : Value → Shared → Prop} {E : Value → Shared → Prop} (iv : Inv h₀ σ ρ s.heap) (x : Ext W ρb hb ρ s.heap) (r : RSrc h₀ hb sr ρ s.heap v)
  (h : ∀ it wr h', (∀ b o, s.heap.get? b = some o → h'.get? b = some o) → ItAt h₀ sr it wr 0 ρ h' → (∀ b ∈ wr, hb.get? b = none) → Q it { s with heap := h' }) : wpAny (model h₀.prog h₀.w) A (pyIter v) Q E s := by
 have hd' := size_dead x.alive
 have off := iv.off_size
 have hnew : ∀ ob b o, s.heap.get? b = some o → (s.heap.push ob).get? b = some o := fun ob b o e => Heap.get?_push_of_some _ e
 cases sr with
 | vals l =>
  rcases r with ⟨t, vs, n, rfl, g, ra⟩ | ⟨y, t, rfl, hy, rfl⟩ | ⟨r, a, b, t, u, w, rfl, hr, hsm, rfl⟩
  ·refine wpAny_pyIter_tuple (isTuple_of g) (h _ [s.heap.objs.size] _ (hnew _) (.tup ⟨_, Heap.get?_push_size _ rfl, rfl, rfl⟩ (hnew _ _ _ g) (ra.sub (Sub.keeps (hnew _))) off) fun b hb => by rw [List.mem_singleton.mp hb]; exact hd')
  ·cases ha : y.cps.all (· < 128) with
   | true => exact wpAny_pyIter_ascii ha (h _ [s.heap.objs.size] _ (hnew _) (.sign (.inl rfl) ⟨_, Heap.get?_push_size _ rfl, rfl, rfl⟩ hy off) fun b hb => by rw [List.mem_singleton.mp hb]; exact hd')
   | false => exact wpAny_pyIter_wide ha (h _ [s.heap.objs.size] _ (hnew _) (.sign (.inr rfl) ⟨_, Heap.get?_push_size _ rfl, rfl, rfl⟩ hy off) fun b hb => by rw [List.mem_singleton.mp hb]; exact hd')
  ·refine wpAny_pyIter_range hr hsm (h _ [s.heap.objs.size] _ (hnew _) (.range ?_ off) fun b hb => by rw [List.mem_singleton.mp hb]; exact hd')
   have e : Builtin.Range.rangeSize a b 1 = ((b - a).toNat : Int) - ((0 : Nat) : Int) := by rw [rangeSize_one]; split <;> (first | lia | omega)
   have e2 : a + ((0 : Nat) : Int) = a := by (first | lia | omega)
   rw [← e, e2]
   exact Heap.get?_push_size _ rfl
 | lst n =>
  obtain ⟨a, d, vs, k, rfl, er, g⟩ := r
  exact wpAny_pyIter_list (isList_of g) (h _ [s.heap.objs.size] _ (hnew _) (.lst ⟨_, Heap.get?_push_size _ rfl, rfl, rfl⟩ er off) fun b hb => by rw [List.mem_singleton.mp hb]; exact hd')
 | keys n u l =>
  obtain ⟨a, kvs, rfl, er, hsys, hd, hl, hs⟩ := r
  obtain ⟨ep, hat⟩ := hd.dictAt
  refine wpAny_pyIter_dict hsys hat (h _ [s.heap.objs.size] _ (hnew _) (.keys ⟨_, Heap.get?_push_size _ rfl, rfl, rfl⟩ er (Nat.le_refl _) (fun ya => hat.push _) hl hs (Nat.ne_of_lt hat.lt_size) off) fun b hb => by rw [List.mem_singleton.mp hb]; exact hd')
theorem ItAt.self {sr : Src} {it : Value} {i : Nat} {Q : Value → Shared → Prop} {E : Value → Shared → Prop} (x : ItAt h₀ sr it wr i ρ s.heap) (h : Q it s) : wpAny (model h₀.prog h₀.w) A (pyIter it) Q E s := by
 cases x with
 | tup hit _ _ _ => exact wpAny_pyIter_tupleiter hit h
 | range hit _ => exact wpAny_pyIter_rangeiter hit h
 | sign hT hit _ _ =>
  rcases hT with rfl | rfl
  ·exact wpAny_pyIter_striter_ascii hit h
  ·exact wpAny_pyIter_striter_wide hit h
 | lst hit _ _ => exact wpAny_pyIter_listiter hit h
 | keys hit _ _ _ _ _ _ _ => exact wpAny_pyIter_keyiter hit h
end
end Mine.Internal

set_option backward.match.sparseCases false
namespace Mine.Internal
open PySem PyProof.Rows
section
variable {h₀ : Bse} {hb : Heap} {A : Around} {W wr : List Addr} {ρ ρ' ρb : Map} {s : Shared} {σ : Store} {fns : Str → Option Fn} {glob : Str → Option V} {ups : Str → Option (List Str)} {mg mb : Str → Option Value}
variable {env : Env} {ns : Names} {loc : Loc} {C : Cfg} {n : Nat}
noncomputable def RFrm (h₀ : Bse) (env : Env) (ns : Names) : Loc → Map → Heap → Unit → Prop := fun loc ρ h ya => Frm h₀ env ns loc ρ h
theorem get_set_some {α : Type} {l : List α} {i j : Nat} {a b : α} (h : (l.set i a)[j]? = some b) : (i = j ∧ b = a) ∨ (i ≠ j ∧ l[j]? = some b) := by
 by_cases hij : i = j
 ·subst hij
  left
  rcases Nat.lt_or_ge i l.length with hl | hl
  ·rw [List.getElem?_set_self hl] at h; cases h; exact ⟨rfl, rfl⟩
  ·rw [List.getElem?_eq_none (by simpa using hl)] at h; cases h
 ·rw [List.getElem?_set_ne hij] at h; exact .inr ⟨hij, h⟩
theorem ns_dict {h : Heap} {a : Addr} {m : Str → Option Value} (hn : h.Ns a m) : ∃ o, h.get? a = some o ∧ IsD o := by
 obtain ⟨o', es, ep, ho, hd, r⟩ := hn
 exact ⟨o', ho, es, ep, hd⟩
theorem kin_cell {o o' : Obj} {v : Option Value} (hd : o.data = .cell v) : Kin o o' where
 tup := fun vs n e => by rw [e] at hd; cases hd
 dict := fun ⟨_, _, e⟩ => by rw [hd] at e; cases e
 tb := fun ⟨_, _, e, _⟩ => by rw [hd] at e; cases e
theorem function_not_class (F : Frm h₀ env ns loc ρ s.heap) : (env.scope.kind == .class || (env.scope.kind == .module && env.locals != env.globals)) = false := by rw [F.kind]; rfl
theorem Sim.storeLocal {x : Str} {i : Nat} {v : Value} {a : V} (F : Frm h₀ env ns loc ρ s.heap) (iv : Inv h₀ σ ρ s.heap) (hf : h₀.get? env.locals = none) (hs : slot ns x = some (i, .local)) (r : Rel ρ s.heap v a) :
  Sim h₀ A [env.locals] (storeName env x v) (.ok (loc.set i (some a)) σ) (RFrm h₀ env ns) ρ s := by
 obtain ⟨m, hn, hv⟩ := F.vars
 refine wpAny_storeName_local (F.kindOf hs) hn (fun h' hn' hsb => ?_) (function_not_class F)
 have hk : ∀ b o, s.heap.get? b = some o → b ∉ [env.locals] → h'.get? b = some o := fun b o e hb => hsb.extBut b o (fun eq => hb (List.mem_singleton.mpr eq)) e
 have hx : Ext [env.locals] ρ s.heap ρ h' := Ext.of_keep (fun b hm => by rw [List.mem_singleton.mp hm]; exact F.offL) hk fun b o e hm => by
  rw [List.mem_singleton.mp hm] at e ⊢
  obtain ⟨o', e', d'⟩ := ns_dict hn'
  obtain ⟨o₁, e₁, d₁⟩ := ns_dict hn
  rw [e] at e₁; cases e₁
  exact ⟨o', e', kin_dict d₁ d'⟩
 refine ⟨ρ, h', s.toks + 1, rfl, iv.keep hx (fun b hm => by rw [List.mem_singleton.mp hm]; exact ⟨F.offL, hf⟩) hk, hx, ?_⟩
 exact {
  names := F.names
  kind := F.kind
  globals := F.globals
  blts := F.blts
  vars := by
   refine ⟨_, hn', fun y j u h1 h2 => ?_⟩
   rcases get_set_some h2 with ⟨rfl, e⟩ | ⟨hne, h2⟩
   ·cases e
    rw [slot_inj h1 hs]
    exact ⟨v, if_pos rfl, r.ext hx⟩
   ·obtain ⟨val, e, hr⟩ := hv y j u h1 h2
    refine ⟨val, ?_, hr.ext hx⟩
    rw [if_neg (fun eq => by rw [eq, hs] at h1; cases h1; exact hne rfl)]; exact e
  cell := fun y j h1 => by
   obtain ⟨c, o, e, ⟨ob, hob, hd⟩, hv⟩ := F.cell y j h1
   refine ⟨c, o, e, ⟨ob, hk _ _ hob (fun hm => (F.offC y c e).1 (List.mem_singleton.mp hm)), hd⟩, fun u h2 => ?_⟩
   rcases get_set_some h2 with ⟨rfl, _⟩ | ⟨hne, h2⟩
   ·rw [slot_inj h1 hs, hs] at h1; cases h1
   ·obtain ⟨val, e', hr⟩ := hv u h2
    exact ⟨val, e', hr.ext hx⟩
  live := fun y c e => by
   obtain ⟨o, ob, hob, hd⟩ := F.live y c e
   exact ⟨o, ob, hk _ _ hob (fun hm => (F.offC y c e).1 (List.mem_singleton.mp hm)), hd⟩
  offL := F.offL
  offC := F.offC
  apart := F.apart
  top := F.top }
theorem Sim.storeCell {x : Str} {i : Nat} {v : Value} {a : V} (F : Frm h₀ env ns loc ρ s.heap) (iv : Inv h₀ σ ρ s.heap) (hf : ∀ b ∈ frameW env, h₀.get? b = none) (hs : slot ns x = some (i, .cell)) (r : Rel ρ s.heap v a) :
  Sim h₀ A (frameW env) (storeName env x v) (.ok (loc.set i (some a)) σ) (RFrm h₀ env ns) ρ s := by
 obtain ⟨c, o₀, hc, hcell, hv₀⟩ := F.cell x i hs
 have hcW : c ∈ frameW env := frameW_cell (k := .cell) (by rw [F.names]; exact mem_of_lookup (slot_lookup hs)) hc
 refine wpAny_storeName_cell F.kind (F.kindOf hs) hc hcell fun h' hn' hsb => ?_
 have hk : ∀ b o, s.heap.get? b = some o → b ∉ [c] → h'.get? b = some o := fun b o e hb => hsb.extBut b o (fun eq => hb (List.mem_singleton.mpr eq)) e
 have hx : Ext [c] ρ s.heap ρ h' := Ext.of_keep (fun b hm => by rw [List.mem_singleton.mp hm]; exact (F.offC x c hc).2) hk fun b o e hm => by
  rw [List.mem_singleton.mp hm] at e ⊢
  obtain ⟨o', e', _⟩ := hn'
  obtain ⟨o₁, e₁, d₁⟩ := hcell
  rw [e] at e₁; cases e₁
  exact ⟨o', e', kin_cell d₁⟩
 refine ⟨ρ, h', s.toks, rfl, iv.keep hx (fun b hm => by rw [List.mem_singleton.mp hm]; exact ⟨(F.offC x c hc).2, hf c hcW⟩) hk, hx.weak fun b hm => .inl (by rw [List.mem_singleton.mp hm]; exact hcW), ?_⟩
 exact {
  names := F.names
  kind := F.kind
  globals := F.globals
  blts := F.blts
  vars := by
   obtain ⟨m, ⟨o, es, ep, ho, rr⟩, hv⟩ := F.vars
   refine ⟨m, ⟨o, es, ep, hk _ _ ho (fun hm => (F.offC x c hc).1 (List.mem_singleton.mp hm).symm), rr⟩, fun y j u h1 h2 => ?_⟩
   rcases get_set_some h2 with ⟨rfl, _⟩ | ⟨hne, h2⟩
   ·rw [slot_inj h1 hs, hs] at h1; cases h1
   ·obtain ⟨val, e, hr⟩ := hv y j u h1 h2
    exact ⟨val, e, hr.ext hx⟩
  cell := fun y j h1 => by
   obtain ⟨d, o, e, ⟨ob, hob, hd⟩, hv⟩ := F.cell y j h1
   by_cases hdc : d = c
   ·subst hdc
    have hyx := F.apart y x d e hc
    subst hyx
    rw [hs] at h1; cases h1
    refine ⟨d, some v, e, hn', fun u h2 => ?_⟩
    rcases get_set_some h2 with ⟨_, e⟩ | ⟨hne, h2⟩
    ·cases e; exact ⟨v, rfl, r.ext hx⟩
    ·exact absurd rfl hne
   ·refine ⟨d, o, e, ⟨ob, hk _ _ hob (fun hm => hdc (List.mem_singleton.mp hm)), hd⟩, fun u h2 => ?_⟩
    rcases get_set_some h2 with ⟨rfl, _⟩ | ⟨hne, h2⟩
    ·rw [slot_inj h1 hs, hc] at e; cases e; exact absurd rfl hdc
    ·obtain ⟨val, e', hr⟩ := hv u h2
     exact ⟨val, e', hr.ext hx⟩
  live := fun y d e => by
   obtain ⟨o, ob, hob, hd⟩ := F.live y d e
   by_cases hdc : d = c
   ·subst hdc; exact ⟨_, hn'⟩
   ·exact ⟨o, ob, hk _ _ hob (fun hm => hdc (List.mem_singleton.mp hm)), hd⟩
  offL := F.offL
  offC := F.offC
  apart := F.apart
  top := F.top }
structure StS (h₀ : Bse) (env : Env) (ns : Names) (W : List Addr) (st : Str → V → Loc → M Loc) : Prop where
 store : ∀ (x : Str) (v : Value) (a : V) (loc : Loc) (σ : Store) (ρ : Map) (s : Shared) (A : Around), Frm h₀ env ns loc ρ s.heap → Inv h₀ σ ρ s.heap → Rel ρ s.heap v a → Sim h₀ A W (storeName env x v) (st x a loc σ) (RFrm h₀ env ns) ρ s
 quiet : ∀ (x : Str) (a : V) (loc : Loc) (σ : Store) (e : V) (σ' : Store), st x a loc σ ≠ .exc e σ'
theorem stLocL_ok (hf : h₀.get? env.locals = none) : StS h₀ env ns [env.locals] (stLocL ns) where
 store := fun x v a loc σ ρ s A F iv r => by
  unfold stLocL
  cases hs : slot ns x with
  | none => exact trivial
  | some p =>
   obtain ⟨i, k⟩ := p
   cases k <;> first | exact trivial | exact Sim.storeLocal F iv hf hs r
 quiet := fun x a loc σ e σ' => by
  unfold stLocL
  cases slot ns x with
  | none => exact nofun
  | some p =>
   obtain ⟨i, k⟩ := p
   cases k <;> exact nofun
theorem stLoc_ok (hf : ∀ b ∈ frameW env, h₀.get? b = none) : StS h₀ env ns (frameW env) (stLoc ns) where
 store := fun x v a loc σ ρ s A F iv r => by
  unfold stLoc
  cases hs : slot ns x with
  | none => exact trivial
  | some p =>
   obtain ⟨i, k⟩ := p
   cases k <;> first
    | exact trivial
    | exact Sim.storeCell F iv hf hs r
    | exact (Sim.storeLocal F iv (hf _ (List.mem_cons_self ..)) hs r).weak fun b hm => .inl (by rw [List.mem_singleton.mp hm]; exact List.mem_cons_self ..)
 quiet := fun x a loc σ e σ' => by
  unfold stLoc
  cases slot ns x with
  | none => exact nofun
  | some p =>
   obtain ⟨i, k⟩ := p
   cases k <;> exact nofun
theorem Sim.bindName {x : Str} {v : Value} {r : Res Loc} {R : Loc → Map → Heap → Unit → Prop} (h : Sim h₀ A W (storeName env x v) r R ρ s) : Sim h₀ A W (PySem.bindName env x v) r R ρ s :=
 Sim.wrap (fun ya yb => wpAny_bindName) h
theorem nm1_eq {t : Expr} {q : Str × Pos} (h : nm1 t = some q) : t = .Name q.1 q.2 := by
 cases t <;> first
  | exact no_some h
  | (cases h; rfl)
theorem tgt1_eq {t : Expr} {q : List Expr × Nat × Pos} (h : tgt1 t = some q) : t = .Tuple q.1 q.2.1 q.2.2 := by
 cases t <;> first
  | exact no_some h
  | (cases h; rfl)
noncomputable def nameE (q : Str × Pos) : Expr := .Name q.1 q.2
theorem nms_eq : ∀ {ts : List Expr} {qs : List (Str × Pos)}, nms ts = some qs → ts = qs.map nameE := by
 intro ts
 induction ts with
 | nil => intro qs h; cases h; rfl
 | cons t ts ih =>
  intro qs h
  obtain ⟨q, h1, h⟩ := Option.bind_eq_some_iff.mp h
  obtain ⟨r, h2, rfl⟩ := Option.map_eq_some_iff.mp h
  rw [nm1_eq h1, ih h2]; rfl
theorem assignEach_name {q : Str × Pos} {r : List Expr} : assignEach (nameE q :: r) env = (false, assign (nameE q) env) :: assignEach r env := rfl
theorem assignEach_len {qs : List (Str × Pos)} : (assignEach (qs.map nameE) env).findIdx? (·.1) = none ∧ (assignEach (qs.map nameE) env).length = qs.length := by
 induction qs with
 | nil => exact ⟨rfl, rfl⟩
 | cons q qs ih => rw [List.map_cons, assignEach_name, List.findIdx?_cons, ih.1, List.length_cons, ih.2]; exact ⟨rfl, rfl⟩
theorem bindX_ok {st : Str → V → Loc → M Loc} (S : StS h₀ env ns W st) {qs : List (Str × Pos)} : ∀ (vs : List Value) (l : List V) (loc : Loc) (σ : Store) (ρ : Map) (s : Shared), Frm h₀ env ns loc ρ s.heap → Inv h₀ σ ρ s.heap → RelAll ρ s.heap vs l →
  Sim h₀ A W (assignInOrder ((assignEach (qs.map nameE) env).map (·.2)) vs) (bindX st qs l loc σ) (RFrm h₀ env ns) ρ s := by
 induction qs with
 | nil =>
  intro vs l loc σ ρ s F iv r
  cases l with
  | nil => cases r; exact Sim.ret iv F
  | cons a l => exact trivial
 | cons q qs ih =>
  intro vs l loc σ ρ s F iv r
  cases r with
  | nil => exact trivial
  | @cons v vs a l r rs =>
   rw [List.map_cons, assignEach_name]
   show Sim h₀ A W (PySem.holding vs (assign (.Name q.1 q.2) env v) >>= fun ya => assignInOrder ((assignEach (qs.map nameE) env).map (·.2)) vs) ((st q.1 a loc >>= fun loc' => bindX st qs l loc') σ) (RFrm h₀ env ns) ρ s
   refine Sim.bind (R := RFrm h₀ env ns) (Sim.holding ?_) fun loc₁ σ₁ ρ₁ H tk ya i₁ x₁ F₁ => ih vs l loc₁ σ₁ ρ₁ _ F₁ i₁ (rs.ext x₁)
   rw [arm_assign_Name]
   exact Sim.standAt (Sim.bindName (S.store q.1 v a loc σ ρ s A F iv r))
theorem bindX_len {st : Str → V → Loc → M Loc} {qs : List (Str × Pos)} : ∀ {l : List V} {loc loc' : Loc} {σ σ' : Store}, bindX st qs l loc σ = .ok loc' σ' → qs.length = l.length := by
 induction qs with
 | nil => intro l loc loc' σ σ' h; cases l with
  | nil => rfl
  | cons _ _ => exact bad_ok h
 | cons q qs ih => intro l loc loc' σ σ' h; cases l with
  | nil => exact bad_ok h
  | cons v vs =>
   rcases bind_cases (m := st q.1 v loc) (f := fun loc' => bindX st qs vs loc') (fun b => bad_ok (b.symm.trans h)) with ⟨l₁, σ₁, _, e1⟩ | ⟨_, _, _, e1⟩
   ·exact congrArg (· + 1) (ih (e1.symm.trans h))
   ·exact ok_exc (h.symm.trans e1)
theorem bindX_quiet {st : Str → V → Loc → M Loc} (S : StS h₀ env ns W st) {qs : List (Str × Pos)} : ∀ {l : List V} {loc : Loc} {σ : Store} {e : V} {σ' : Store}, bindX st qs l loc σ ≠ .exc e σ' := by
 induction qs with
 | nil => intro l loc σ e σ' h; cases l <;> first | exact ok_exc h | exact bad_exc h
 | cons q qs ih => intro l loc σ e σ' h; cases l with
  | nil => exact bad_exc h
  | cons v vs =>
   rcases bind_cases (m := st q.1 v loc) (f := fun loc' => bindX st qs vs loc') (fun b => bad_exc (b.symm.trans h)) with ⟨l₁, σ₁, _, e1⟩ | ⟨_, _, h1, _⟩
   ·exact ih (e1.symm.trans h)
   ·exact S.quiet _ _ _ _ _ _ h1
theorem bindTo_quiet {st : Str → V → Loc → M Loc} (S : StS h₀ env ns W st) {t : Expr} {a : V} {e : V} {σ' : Store} : bindTo st t a loc σ ≠ .exc e σ' := by
 unfold bindTo bindNames
 cases nm1 t with
 | some q => exact S.quiet _ _ _ _ _ _
 | none => cases tgt1 t with
  | none => exact fun h => bad_exc h
  | some q => cases a with
   | tup l => dsimp only; cases nms q.1 with
    | none => exact fun h => bad_exc h
    | some qs => exact bindX_quiet S
   | _ => exact fun h => bad_exc h
theorem Sim.bindTo {st : Str → V → Loc → M Loc} (S : StS h₀ env ns W st) {t : Expr} {v : Value} {a : V} (hA : A.handled = none) (F : Frm h₀ env ns loc ρ s.heap) (iv : Inv h₀ σ ρ s.heap) (r : Rel ρ s.heap v a) :
  Sim h₀ A W (assign t env v) (bindTo st t a loc σ) (RFrm h₀ env ns) ρ s := by
 cases hr : Mine.Internal.bindTo st t a loc σ with
 | bad => exact trivial
 | exc _ _ => exact absurd hr (bindTo_quiet S)
 | ok loc₁ σ₁ =>
  unfold Mine.Internal.bindTo Mine.Internal.bindNames at hr
  cases h1 : nm1 t with
  | some q =>
   rw [h1] at hr
   rw [nm1_eq h1, arm_assign_Name, ← hr]
   exact Sim.standAt (Sim.bindName (S.store q.1 v a loc σ ρ s A F iv r))
  | none =>
   rw [h1] at hr
   cases h2 : tgt1 t with
   | none => rw [h2] at hr; exact bad_ok hr
   | some q =>
    rw [h2] at hr
    cases r with
    | @tup ta vs nn l g hl ra =>
     dsimp only at hr
     cases h3 : nms q.1 with
     | none => rw [h3] at hr; exact bad_ok hr
     | some qs =>
      rw [h3] at hr
      rw [tgt1_eq h2, nms_eq h3, arm_assign_Tuple]
      refine Sim.standAt ?_
      have hlen : (assignEach (qs.map nameE) env).length = vs.toArray.size := by rw [assignEach_len.2, bindX_len hr, List.size_toArray, ra.length]
      unfold unpack
      refine wpAny_bind (wpAny_holding ?_)
      rw [assignEach_len.1, hlen]
      refine wpAny_unpackItems_tuple hA (isTuple_of g) fun h' hx => ?_
      have hk : ∀ b o, s.heap.get? b = some o → h'.get? b = some o := fun b o e => hx b o (Nat.ne_of_lt (Heap.lt_size e)) e
      have hs := bindX_ok (A := A) (qs := qs) S vs l loc σ ρ { s with heap := h' } (F.ext0 (Ext.of_keeps hk)) (iv.keeps hk) (ra.sub (Sub.keeps hk))
      rw [hr] at hs
      refine wpAny_mono hs (fun b s' hp => ?_) fun ya yb x => x
      obtain ⟨ρ₁, H, tk, rfl, i₁, x₁, F₁⟩ := hp
      exact ⟨ρ₁, H, tk, rfl, i₁, (Ext.of_keeps hk).trans x₁, F₁⟩
    | _ => exact bad_ok hr
end
end Mine.Internal

set_option backward.match.sparseCases false
namespace Mine.Internal
open PySem PyProof.Rows
section
variable {h₀ : Bse} {hb : Heap} {A : Around} {W wr : List Addr} {ρ ρ' ρb : Map} {s : Shared} {σ : Store} {fns : Str → Option Fn} {glob : Str → Option V} {ups : Str → Option (List Str)} {mg mb : Str → Option Value}
variable {env : Env} {ns : Names} {loc : Loc} {C : Cfg} {n : Nat}
variable (h₀ C n) in
noncomputable def SrcS (e : Expr) : Prop := ∀ (env : Env) (ns : Names) (loc : Loc) (σ : Store) (ρ : Map) (s : Shared) (A : Around), Rm h₀ A n C.calm → Frm h₀ env ns loc ρ s.heap → Inv h₀ σ ρ s.heap →
 Sim h₀ A [] (eval e env) (src C e ns loc (ev C e ns loc) σ) (RSrc h₀ s.heap) ρ s
theorem Sim.map {α β γ : Type} {t : Sem β} {m : M α} {k : α → M γ} {R : α → Map → Heap → β → Prop} {R' : γ → Map → Heap → β → Prop} (h : Sim h₀ A W t (m σ) R ρ s) (hq : ∀ a σ e σ', k a σ ≠ .exc e σ')
  (hk : ∀ a σ₁ ρ₁ H b c σ₂, Inv h₀ σ₁ ρ₁ H → R a ρ₁ H b → k a σ₁ = .ok c σ₂ → σ₂ = σ₁ ∧ R' c ρ₁ H b) : Sim h₀ A W t ((m >>= k) σ) R' ρ s := by
 cases e : m σ with
 | bad => rw [bind_bad e]; exact trivial
 | exc _ _ => rw [bind_exc e]; rw [e] at h; exact h
 | ok a σ₁ =>
  rw [bind_ok e]
  rw [e] at h
  cases e2 : k a σ₁ with
  | bad => exact trivial
  | exc _ _ => exact absurd e2 (hq _ _ _ _)
  | ok c σ₂ =>
   refine wpAny_mono h (fun b s' hp => ?_) fun ya yb x => x
   obtain ⟨ρ₁, H, tk, rfl, i, x, r⟩ := hp
   obtain ⟨rfl, r'⟩ := hk a σ₁ ρ₁ H b c σ₂ i r e2
   exact ⟨ρ₁, H, tk, rfl, i, x, r'⟩
theorem srcV_quiet (a : V) (σ : Store) (e : V) (σ' : Store) : srcV a σ ≠ .exc e σ' := by
 cases a with
 | ref n =>
  show (getO n >>= fun o => match o with | .list _ => (Pure.pure (Src.lst n) : M Src) | .dict v l => Pure.pure (.keys n v (l.map fun p => keyV p.1)) | _ => M.bad) σ ≠ _
  cases h : σ[n]? with
  | none => rw [bind_bad (by rw [getO_eq, h])]; exact nofun
  | some o =>
   rw [bind_ok (a := o) (σ' := σ) (by rw [getO_eq, h])]
   cases o <;> exact nofun
 | _ => exact nofun
theorem Ents.sok {h : Heap} {kvs : List (Key × Value)} {l : Tab} (r : Ents ρ h kvs l) : ∀ p ∈ kvs, ∀ s, p.1 = .inr s → SOk s := by
 induction r with
 | nil => exact fun ya hp => absurd hp List.not_mem_nil
 | cons hs _ _ ih =>
  intro p hp
  rcases List.mem_cons.mp hp with rfl | hp
  ·exact hs
  ·exact ih p hp
set_option tactic.hygienic true in
theorem src_value {e : Expr} (he : EvS h₀ C n e) (hA : Rm h₀ A n C.calm) (F : Frm h₀ env ns loc ρ s.heap) (i : Inv h₀ σ ρ s.heap) :
  Sim h₀ A [] (eval e env) ((ev C e ns loc >>= srcV) σ) (RSrc h₀ s.heap) ρ s := by
 refine Sim.map (he env ns loc σ ρ s A hA F i) srcV_quiet fun a σ₁ ρ₁ H b c σ₂ i₁ r hk => ?_
 cases r with
 | tup g hl ra => cases hk; exact ⟨rfl, .inl ⟨_, _, _, rfl, g, ra⟩⟩
 | ref er =>
  rename_i k n d
  have hk : (getO d >>= fun o => match o with | .list _ => (Pure.pure (Src.lst d) : M Src) | .dict v l => Pure.pure (.keys d v (l.map fun p => keyV p.1)) | _ => M.bad) σ₁ = .ok c σ₂ := hk
  cases hσ : σ₁[d]? with
  | none => rw [bind_bad (by rw [getO_eq, hσ])] at hk; cases hk
  | some o =>
   rw [bind_ok (a := o) (σ' := σ₁) (by rw [getO_eq, hσ])] at hk
   cases o with
   | list l =>
    cases hk
    obtain ⟨vs, k, g, _, _⟩ := Inv.list (s := { s with heap := H }) i₁ hσ er
    exact ⟨rfl, _, _, vs, k, rfl, er, g⟩
   | dict v l =>
    cases hk
    obtain ⟨e1, hs, kvs, hd, hl, ra⟩ := Inv.dict (s := { s with heap := H }) i₁ hσ er
    have e1 : _ = v := e1
    subst e1
    exact ⟨rfl, _, kvs, rfl, er, hs, hd, (by rw [show l.map (fun p => keyV p.1) = (l.map (·.1)).map keyV by rw [List.map_map]; rfl, ← ra.keys, List.map_map]; rfl), ra.sok⟩
   | inst _ _ => cases hk
   | exc _ _ => cases hk
 | str x t hx =>
  cases hk
  exact ⟨rfl, .inr (.inl ⟨x, t, rfl, hx, rfl⟩)⟩
 | none => cases hk
 | bool _ => cases hk
 | int _ _ => cases hk
theorem evs_one {a : Expr} {α : Type} {k : V → M α} : (ev C a ns loc >>= k) = (evs C [a] ns loc >>= fun l => match l with | [v] => k v | _ => M.bad) := rfl
theorem Sim.rangeCall {a : Value} {x : V} (i : Inv h₀ σ ρ s.heap) (ra : Rel ρ s.heap a x) : Sim h₀ A [] (call (.type "range") [a]) (rangeOf x σ) (RSrc h₀ hb) ρ s := by
 cases ra with
 | int z t =>
  refine Sim.ite fun hc => ?_
  refine Sim.grown i fun Q E hQ => call_range_1 (hQ _ _ _ (fun c o e => Heap.get?_push_of_some _ e) (.inr (.inr ⟨_, 0, z, _, _, _, rfl, IsRange.new .., ?_, rfl⟩)))
  exact small_one (by decide) (by decide) (by (first | lia | omega)) (by (first | lia | omega))
 | _ => exact trivial
theorem Sim.typeOne {α : Type} {f : Str} {T : String} {a : Expr} {p pos : Pos} {k : V → M α} {R : α → Map → Heap → Value → Prop} (B : Base fns glob ups mg mb h₀.heap) (ha : EvS h₀ C n a) (hA : Rm h₀ A n C.calm) (F : Frm h₀ env ns loc ρ s.heap) (i : Inv h₀ σ ρ s.heap) (hg : isGlob ns f = true) (hf : fns f = none)
  (hst : isStarE a = false) (hn : f ∈ bltNames) (hT : bootBuiltins f = some (.type T))
  (hk : ∀ x v σ₁ ρ₁ H tk, Inv h₀ σ₁ ρ₁ H → Ext [] ρ s.heap ρ₁ H → Rel ρ₁ H v x → Sim h₀ A [] (call (.type T) [v]) (k x σ₁) R ρ₁ (At s H tk)) :
  Sim h₀ A [] (eval (.Call (.Name f p) [a] [] pos) env) ((ev C a ns loc >>= k) σ) R ρ s := by
 rw [evs_one, Call_name]
 refine Sim.head (v := .type T) (fun Q E h => wp_builtin B F i hg hn hf hT h) ?_
 refine Sim.args (by simp [noStars, hst]) (evs_cons ha evs_nil) hA F i (fun Q E hst h => cw_type hst h) fun l σ₁ ρ₁ H tk vs i₁ x₁ r₁ => ?_
 cases r₁ with
 | nil => exact trivial
 | cons r rs => cases rs with
  | nil => exact hk _ _ σ₁ ρ₁ H tk i₁ x₁ r
  | cons _ _ => exact trivial
theorem src_call {f : Str} {as : List Expr} {p pos : Pos} (B : Base fns glob ups mg mb h₀.heap) (hfn : ∀ f, C.isFn f = (fns f).isSome) (he : EvS h₀ C n (.Call (.Name f p) as [] pos)) (has : ∀ a ∈ as, EvS h₀ C n a) : SrcS h₀ C n (.Call (.Name f p) as [] pos) :=
 fun env ns loc σ ρ s A hA F i => by
 have whole := src_value he hA F i
 have hc : srcTag C ns f = 1 → isGlob ns f = true ∧ fns f = none ∧ f = ("range" : Str) := by
  intro htag
  unfold srcTag at htag
  by_cases h1 : (isGlob ns f && !C.isFn f) = true
  ·rw [if_pos h1] at htag
   simp only [Bool.and_eq_true, Bool.not_eq_true'] at h1
   refine ⟨h1.1, ?_, ?_⟩
   ·have := h1.2; rw [hfn] at this
    cases e : fns f with
    | none => rfl
    | some _ => rw [e] at this; cases this
   ·by_cases h2 : f = ("range" : Str)
    ·exact h2
    ·rw [if_neg h2] at htag; cases htag
  ·rw [if_neg h1] at htag; cases htag
 rcases as with _ | ⟨a, _ | ⟨b, r⟩⟩
 ·exact whole
 ·show Sim h₀ A [] _ ((if srcTag C ns f = 1 then (ev C a ns loc >>= fun v => rangeOf v) else (ev C (.Call (.Name f p) [a] [] pos) ns loc >>= fun v => srcV v)) σ) (RSrc h₀ s.heap) ρ s
  by_cases t1 : srcTag C ns f = 1
  ·rw [if_pos t1]
   obtain ⟨hg, hf, rfl⟩ := hc t1
   by_cases hst : isStarE a = true
   ·have : ev C a ns loc = M.bad := by cases a <;> first | rfl | cases hst
    rw [this]; exact trivial
   ·exact Sim.typeOne B (has a (List.mem_singleton.mpr rfl)) hA F i hg hf (by simpa using hst) (by decide +kernel) bb_range fun x v σ₁ ρ₁ H tk i₁ x₁ r => Sim.rangeCall i₁ r
  ·rw [if_neg t1]; exact whole
 ·exact whole
theorem isCell_of {k : NameKind} (h : (k == NameKind.free) = true) : k = .free := by simpa using h
structure CloQ (env : Env) (names : Names) (cs cl : List (Str × Addr)) : Prop where
 sub : ∀ x c, cl.lookup x = some c → env.cells.lookup x = some c
 all : ∀ x ∈ names, x.2 = .free → ∃ c, cl.lookup x.1 = some c
 old : ∀ x, (∃ c, cs.lookup x = some c) → ∃ c, cl.lookup x = some c
theorem closure_go (env : Env) (names : Names) (cs : List (Str × Addr)) (h1 : ∀ x ∈ names, x.2 = .free → ∃ c, env.cells.lookup x.1 = some c) (h2 : ∀ x c, cs.lookup x = some c → env.cells.lookup x = some c) :
  ∃ cl, (forIn names cs fun x r => if (x.2 == NameKind.free) = true then (do let c ← cellOf env x.1; pure (ForInStep.yield ((x.1, c) :: r))) else pure (ForInStep.yield r)) = (Pure.pure cl : Sem (List (Str × Addr))) ∧ CloQ env names cs cl := by
 induction names generalizing cs with
 | nil => exact ⟨cs, rfl, h2, fun ya hm => (nomatch hm), fun ya h => h⟩
 | cons p r ih =>
  obtain ⟨x, k⟩ := p
  have h1' := fun y hy => h1 y (List.mem_cons_of_mem _ hy)
  rw [List.forIn_cons]
  by_cases hk : (k == NameKind.free) = true
  ·obtain ⟨c, hc⟩ := h1 (x, k) (List.mem_cons_self ..) (isCell_of hk)
   have e : cellOf env x = Pure.pure c := by unfold cellOf; rw [show env.cells.lookup x = some c from hc]
   rw [if_pos hk, e]
   obtain ⟨cl, e1, q⟩ := ih ((x, c) :: cs) h1' fun y d hd => by
    rw [List.lookup_cons] at hd
    split at hd
    ·rename_i hy
     cases hd; rw [beq_iff_eq.mp hy]; exact hc
    ·exact h2 y d hd
   refine ⟨cl, e1, q.sub, fun y hy hf => ?_, fun y hy => q.old y ?_⟩
   ·rcases List.mem_cons.mp hy with rfl | hy
    ·exact q.old x ⟨c, by rw [List.lookup_cons, beq_self_eq_true]⟩
    ·exact q.all y hy hf
   ·obtain ⟨d, hd⟩ := hy
    rw [List.lookup_cons]
    split
    ·exact ⟨_, rfl⟩
    ·exact ⟨d, hd⟩
  ·rw [if_neg hk]
   obtain ⟨cl, e1, q⟩ := ih cs h1' h2
   refine ⟨cl, e1, q.sub, fun y hy hf => ?_, q.old⟩
   rcases List.mem_cons.mp hy with rfl | hy
   ·exact absurd (by rw [show k = NameKind.free from hf]; rfl) hk
   ·exact q.all y hy hf
theorem closure_ok {scope : Scope} (h : ∀ x ∈ scope.names, x.2 = .free → ∃ c, env.cells.lookup x.1 = some c) : ∃ cl, closureFor scope env = Pure.pure cl ∧ (∀ x c, cl.lookup x = some c → env.cells.lookup x = some c) ∧ ∀ x ∈ scope.names, x.2 = .free → ∃ c, cl.lookup x.1 = some c := by
 obtain ⟨cl, e1, e2, e3, _⟩ := closure_go env scope.names [] h fun ya yb e => by cases e
 refine ⟨cl, ?_, e2, e3⟩
 show ((forIn scope.names [] fun (x : Str × NameKind) (r : List (Str × Addr)) => if (x.2 == NameKind.free) = true then (do let c ← cellOf env x.1; pure (ForInStep.yield ((x.1, c) :: r))) else pure (ForInStep.yield r)) >>= fun r => Pure.pure r) = Pure.pure cl
 rw [e1]; rfl
structure SlotIn (ns : Names) (loc loc' : Loc) (x : Str) (i i₀ : Nat) (k : NameKind) : Prop where
 le : i₀ ≤ i
 ex : ∃ o, loc'[i - i₀]? = some o ∧ (k ≠ .free → o = none) ∧ (k = .free → ∃ j, slot ns x = some (j, .cell) ∧ o = (loc[j]?).getD none)
structure InnerQ (ns : Names) (loc : Loc) (names : Names) (loc' : Loc) (σ σ' : Store) : Prop where
 same : σ' = σ
 nc : ∀ x ∈ names, x.2 ≠ .cell
 fr : ∀ x ∈ names, x.2 = .free → ∃ j, slot ns x.1 = some (j, .cell)
 slots : ∀ (x : Str) (i i₀ : Nat) (k : NameKind), slotGo names x i₀ = some (i, k) → SlotIn ns loc loc' x i i₀ k
theorem InnerQ.cons {loc t : Loc} {x : Str} {k : NameKind} {r : Names} {o : Option V} {σ σ' : Store} (q : InnerQ ns loc r t σ σ') (hc : k ≠ .cell) (hf : k = .free → ∃ j, slot ns x = some (j, .cell) ∧ o = (loc[j]?).getD none) (hn : k ≠ .free → o = none) : InnerQ ns loc ((x, k) :: r) (o :: t) σ σ' := by
 refine ⟨q.same, fun y hy => ?_, fun y hy hfy => ?_, fun y i i₀ k' hs => ?_⟩
 ·rcases List.mem_cons.mp hy with rfl | hy
  ·exact hc
  ·exact q.nc y hy
 ·rcases List.mem_cons.mp hy with rfl | hy
  ·obtain ⟨j, hj, _⟩ := hf hfy; exact ⟨j, hj⟩
  ·exact q.fr y hy hfy
 ·unfold slotGo at hs
  split at hs
  ·rename_i hyx
   cases hs
   rw [beq_iff_eq.mp hyx]
   exact ⟨Nat.le_refl _, o, by rw [Nat.sub_self]; rfl, hn, hf⟩
  ·obtain ⟨hle, o', ho', hh⟩ := q.slots y i (i₀ + 1) k' hs
   refine ⟨Nat.le_of_succ_le hle, o', ?_, hh⟩
   rw [sub_step hle, List.getElem?_cons_succ]; exact ho'
theorem innerLoc_ok {loc : Loc} {names : Names} {loc' : Loc} {σ σ' : Store} (h : innerLoc ns loc names σ = .ok loc' σ') : InnerQ ns loc names loc' σ σ' := by
 induction names generalizing loc' with
 | nil => cases h; exact ⟨rfl, fun ya hm => (nomatch hm), fun ya hm => (nomatch hm), fun ya yb yc yd e => by cases e⟩
 | cons p r ih =>
  obtain ⟨x, k⟩ := p
  have step : ∀ (o : Option V), ((innerLoc ns loc r >>= fun t => (pure (o :: t) : M Loc)) σ = .ok loc' σ') → ∃ t, loc' = o :: t ∧ InnerQ ns loc r t σ σ' := fun o h => by
   cases e : innerLoc ns loc r σ with
   | bad => rw [bind_bad e] at h; cases h
   | exc _ _ => rw [bind_exc e] at h; cases h
   | ok t σ₁ => rw [bind_ok e] at h; cases h; exact ⟨t, rfl, ih e⟩
  have plain : k ≠ .cell → k ≠ .free → ((innerLoc ns loc r >>= fun t => (pure (none :: t) : M Loc)) σ = .ok loc' σ') → InnerQ ns loc ((x, k) :: r) loc' σ σ' := fun h1 h2 h => by
   obtain ⟨t, rfl, q⟩ := step none h
   exact q.cons h1 (fun e => absurd e h2) fun ya => rfl
  cases k with
  | free =>
   cases hs : slot ns x with
   | none => unfold innerLoc at h; rw [hs] at h; cases h
   | some p =>
    obtain ⟨j, k'⟩ := p
    cases k' with
    | cell =>
     unfold innerLoc at h; rw [hs] at h
     obtain ⟨t, rfl, q⟩ := step ((loc[j]?).getD none) h
     exact q.cons (by decide) (fun ya => ⟨j, hs, rfl⟩) fun h => absurd rfl h
    | _ => unfold innerLoc at h; rw [hs] at h; cases h
  | cell => cases h
  | «local» => exact plain (by decide) (by decide) h
  | globalImplicit => exact plain (by decide) (by decide) h
  | globalExplicit => exact plain (by decide) (by decide) h
theorem relab_slot {names : Names} : ∀ {x : Str} {i i₀ : Nat} {k : NameKind}, slotGo (relab ns names) x i₀ = some (i, k) → ∃ k₀, slotGo names x i₀ = some (i, k₀) ∧ (k = k₀ ∨ (k₀ = .free ∧ k = .cell)) := by
 induction names with
 | nil => intro x i i₀ k h; cases h
 | cons p r ih =>
  intro x i i₀ k h
  obtain ⟨y, ky⟩ := p
  have e : relab ns ((y, ky) :: r) = (y, if (ky == .free && ns.lookup y == some .cell) = true then .cell else ky) :: relab ns r := by
   unfold relab
   rw [List.map_cons]
   by_cases hc : (ky == .free && ns.lookup y == some .cell) = true
   ·dsimp only; rw [if_pos hc, if_pos hc]
   ·dsimp only; rw [if_neg hc, if_neg hc]
  rw [e] at h
  unfold slotGo at h ⊢
  cases hxy : (x == y) with
  | true =>
   rw [hxy] at h
   cases h
   refine ⟨ky, rfl, ?_⟩
   by_cases hc : (ky == .free && ns.lookup y == some .cell) = true
   ·rw [if_pos hc]; simp only [Bool.and_eq_true] at hc; exact .inr ⟨isCell_of hc.1, rfl⟩
   ·rw [if_neg hc]; exact .inl rfl
  | false =>
   rw [hxy] at h
   exact ih h
theorem slot_mem {names : Names} {x : Str} {i : Nat} {k : NameKind} (h : slot names x = some (i, k)) : (x, k) ∈ names := mem_of_lookup (slot_lookup h)
theorem compFrm {scope : Scope} {cl : List (Str × Addr)} {c : Addr} {loc' : Loc} {σ' : Store} {cenv : Env} {h : Heap} (F : Frm h₀ env ns loc ρ h) (hin : innerLoc ns loc scope.names σ = .ok loc' σ') (hk : scope.kind = .function)
  (hcl : ∀ x c, cl.lookup x = some c → env.cells.lookup x = some c) (hcl2 : ∀ x ∈ scope.names, x.2 = .free → ∃ c, cl.lookup x.1 = some c)
  (hce : cenv = { newEnv scope c env.globals cl env.qual none .none (some env) env.builtins with scope := relabel scope env }) (hn : h.Ns c fun ya => none) (hoff : offMap ρ c) (hne : ∀ x d, env.cells.lookup x = some d → d ≠ c) :
  Frm h₀ cenv (relab ns scope.names) loc' ρ h := by
 subst hce
 obtain ⟨_, hnc, hfr, hsl⟩ := innerLoc_ok hin
 exact {
  names := by
   show (relabel scope env).names = _
   unfold relabel relab
   have : env.scope.names = ns := F.names
   simp only [F.kind, Env.kindOf, this]
   congr 1
   funext p
   obtain ⟨y, k⟩ := p
   cases k <;> simp
  kind := hk
  globals := F.globals
  blts := F.blts
  vars := ⟨_, hn, fun x i v h1 h2 => by
   obtain ⟨k₀, hs, hkk⟩ := relab_slot h1
   rcases hkk with rfl | ⟨_, hc⟩
   ·obtain ⟨_, o, ho, hno, _⟩ := hsl x i 0 _ hs
    rw [Nat.sub_zero] at ho
    rw [ho, hno (by decide)] at h2; cases h2
   ·cases hc⟩
  cell := fun x i h1 => by
   obtain ⟨k₀, hs, hkk⟩ := relab_slot h1
   have hmem := slot_mem hs
   have hfree : k₀ = .free := by
    rcases hkk with rfl | ⟨h, _⟩
    ·exact absurd rfl (hnc _ hmem)
    ·exact h
   subst hfree
   obtain ⟨_, o, ho, _, hof⟩ := hsl x i 0 _ hs
   obtain ⟨j, hj, rfl⟩ := hof rfl
   rw [Nat.sub_zero] at ho
   obtain ⟨d, od, e1, e2, e3⟩ := F.cell x j hj
   obtain ⟨d', hd'⟩ := hcl2 _ hmem rfl
   have : env.cells.lookup x = some d' := hcl _ _ hd'
   rw [e1] at this; cases this
   refine ⟨d, od, hd', e2, fun v hv => e3 v ?_⟩
   rw [ho] at hv
   cases e : loc[j]? with
   | none => rw [e] at hv; cases hv
   | some u => rw [e] at hv; exact hv
  live := fun x d e => F.live x d (hcl _ _ e)
  offL := hoff
  offC := fun x d e => ⟨hne x d (hcl _ _ e), (F.offC x d (hcl _ _ e)).2⟩
  apart := fun x y d e1 e2 => F.apart x y d (hcl _ _ e1) (hcl _ _ e2)
  top := F.top }
end
theorem comp_cases : ∀ gens : List Comprehension, (∃ t it ifs, gens = [⟨t, it, ifs, 0⟩]) ∨ ∀ (C : Cfg) (elt : Expr) (scope : Scope) (p : Pos) (ns : Names) (loc : Loc), ev C (.ListComp elt gens scope p) ns loc = M.bad
 | [] => .inr fun ya yb yc yd ye yf => rfl
 | [⟨t, it, ifs, .ofNat 0⟩] => .inl ⟨t, it, ifs, rfl⟩
 | [⟨t, it, ifs, .ofNat (k + 1)⟩] => .inr fun ya yb yc yd ye yf => rfl
 | [⟨t, it, ifs, .negSucc k⟩] => .inr fun ya yb yc yd ye yf => rfl
 | ⟨_, _, _, .ofNat 0⟩ :: _ :: _ => .inr fun ya yb yc yd ye yf => rfl
 | ⟨_, _, _, .ofNat (_ + 1)⟩ :: _ :: _ => .inr fun ya yb yc yd ye yf => rfl
 | ⟨_, _, _, .negSucc _⟩ :: _ :: _ => .inr fun ya yb yc yd ye yf => rfl
end Mine.Internal

set_option backward.match.sparseCases false
namespace Mine.Internal
open PySem PyProof.Rows
section
variable {h₀ : Bse} {hb : Heap} {A : Around} {W wr : List Addr} {ρ ρ' ρb : Map} {s sb : Shared} {σ : Store} {fns : Str → Option Fn} {glob : Str → Option V} {ups : Str → Option (List Str)} {mg mb : Str → Option Value}
variable {env cenv : Env} {ns ns' : Names} {loc : Loc} {C : Cfg} {n : Nat}
theorem compLoop_turn {elt target iter : Expr} {ifs : List Expr} {scope : Scope} {pos : Pos} {it acc : Value} {R : Result → Shared → Prop}
  (h : wpAny (model h₀.prog h₀.w) A (pyNext it) (fun r s₁ => match r with
   | none => R (.ok .next) s₁
   | some v => wpAny (model h₀.prog h₀.w) A (letOwnedTupleGo target it v) (fun ya s₁' => wpAny (model h₀.prog h₀.w) A (assign target env v) (fun ya s₂ =>
     wpAny (model h₀.prog h₀.w) A (forIn ifs true fun c r => if r = true then do let ok ← isTrue c env (eval c env); pure (ForInStep.yield ok) else pure (ForInStep.yield r)) (fun ok s₃ =>
      if ok = true then wpAny (model h₀.prog h₀.w) A (eval elt env) (fun x s₄ =>
       wpAny (model h₀.prog h₀.w) A (call (.builtin "list.append") [acc, x]) (fun ya s₅ => codeAny (model h₀.prog h₀.w) A (.compLoop (.ListComp elt [⟨target, iter, ifs, 0⟩] scope pos) 0 it acc env) R s₅) (notedBy (model h₀.prog h₀.w) A env fun x s' => R (.error x) s') s₄) (notedBy (model h₀.prog h₀.w) A env fun x s' => R (.error x) s') s₃
      else codeAny (model h₀.prog h₀.w) A (.compLoop (.ListComp elt [⟨target, iter, ifs, 0⟩] scope pos) 0 it acc env) R s₃) (notedBy (model h₀.prog h₀.w) A env fun x s' => R (.error x) s') s₂) (notedBy (model h₀.prog h₀.w) A env fun x s' => R (.error x) s') s₁') (notedBy (model h₀.prog h₀.w) A env fun x s' => R (.error x) s') s₁) (notedBy (model h₀.prog h₀.w) A env fun x s' => R (.error x) s') s) :
  codeAny (model h₀.prog h₀.w) A (.compLoop (.ListComp elt [⟨target, iter, ifs, 0⟩] scope pos) 0 it acc env) R s := by
 refine codeAny_of_tree ?_
 show wpAny _ A ((compTurn (.ListComp elt [⟨target, iter, ifs, 0⟩] scope pos) 0 it acc env).onRaise (fun x => do noteFrame x env; theTreesLotGoes x)) _ _ s
 refine wpAny_noted ?_
 rw [compTurn_list]
 refine wpAny_bind (wpAny_standAt (wpAny_bind (wpAny_mono h (fun r s₁ h₁ => ?_) fun ya yb h' => h')))
 cases r with
 | none => exact wpAny_pure h₁
 | some v =>
  refine wpAny_bind (wpAny_mono h₁ (fun ya s₁' h₁' => ?_) fun ya yb h' => h')
  refine wpAny_bind (wpAny_mono h₁' (fun ya s₂ h₂ => wpAny_bind (wpAny_mono h₂ (fun ok s₃ h₃ => ?_) fun ya yb h' => h')) fun ya yb h' => h')
  cases ok with
  | false => exact wpAny_pure ⟨rfl, h₃⟩
  | true =>
   exact wpAny_bind (wpAny_bind (wpAny_mono h₃ (fun x s₄ h₄ => wpAny_bind (wpAny_mono h₄ (fun ya s₅ h₅ => wpAny_pure (wpAny_pure ⟨rfl, h₅⟩)) fun ya yb h' => h')) fun ya yb h' => h'))
variable (h₀ C n) in
noncomputable def TestsS (ifs : List Expr) : Prop := ∀ (env : Env) (ns : Names) (loc : Loc) (σ : Store) (ρ : Map) (s : Shared) (A : Around), Rm h₀ A n C.calm → Frm h₀ env ns loc ρ s.heap → Inv h₀ σ ρ s.heap →
 Sim h₀ A [] (forIn ifs true fun c r => if r = true then do let ok ← isTrue c env (eval c env); pure (ForInStep.yield ok) else pure (ForInStep.yield r)) (tests C ifs ns loc σ) RB ρ s
theorem tests_nil : TestsS h₀ C n [] := fun env ns loc σ ρ s A hA F i => Sim.ret i rfl
theorem tests_one {e : Expr} (h : TstS h₀ C n e) : TestsS h₀ C n [e] := fun env ns loc σ ρ s A hA F i =>
 Sim.wrap (fun ya yb => wpAny_tests_one) (h env ns loc σ ρ s A hA F i)
theorem tests_more {e f : Expr} {r : List Expr} : TestsS h₀ C n (e :: f :: r) := fun env ns loc σ ρ s A hA F i => trivial
structure CE (h₀ : Bse) (ρb : Map) (hb : Heap) (cenv : Env) (ns' : Names) (D : Addr) (loc : Loc) (l : List V) (σ : Store) (ρ : Map) (h : Heap) : Prop where
 inv : Inv h₀ σ ρ h
 frm : Frm h₀ cenv ns' loc ρ h
 ext : Ext [] ρb hb ρ h
 acc : ∃ vs k, h.get? D = some (listO vs k) ∧ RelAll ρ h vs l
 off : offMap ρ D
structure CK (h₀ : Bse) (hb : Heap) (cenv : Env) (wr : List Addr) (D : Addr) : Prop where
 deadW : ∀ b ∈ wr, hb.get? b = none
 deadD : hb.get? D = none
 deadC : hb.get? cenv.locals = none
 offW : ∀ b ∈ wr, offFrame cenv b
 offD : offFrame cenv D
 base : ∀ b o, h₀.get? b = some o → ∃ o', hb.get? b = some o'
 DW : D ∉ wr
 fr : NoFr h₀ wr
theorem firm_list {vs : List Value} {j : Nat} : Firm (listO vs j) := ⟨fun ⟨_, _, e⟩ => (by cases e), fun ⟨e, _⟩ => absurd (Value.type.inj e) (by decide)⟩
theorem CK.base0 {D : Addr} (K : CK h₀ hb cenv wr D) {b : Addr} (h : hb.get? b = none) : h₀.get? b = none := by
 cases e : h₀.get? b with
 | none => rfl
 | some o => obtain ⟨o', e'⟩ := K.base _ _ e; rw [h] at e'; cases e'
theorem CE.but {D : Addr} {l : List V} {h h' : Heap} (K : CK h₀ hb cenv wr D) (x : CE h₀ ρb hb cenv ns' D loc l σ ρ h) (hk : KeepBut wr h h') (ho : Own wr ρ h) : CE h₀ ρb hb cenv ns' D loc l σ ρ h' where
 inv := x.inv.but hk ho (fun b hb => K.base0 (K.deadW b hb)) K.fr
 frm := x.frm.but hk ho K.offW
 ext := x.ext.but hk K.deadW
 acc := by
  obtain ⟨vs, k, g, r⟩ := x.acc
  exact ⟨vs, k, hk _ _ K.DW g, r.sub (hk.sub ho)⟩
 off := x.off
theorem CE.step {D : Addr} {l : List V} {h h' : Heap} {σ' : Store} {loc' : Loc} (K : CK h₀ hb cenv wr D) (x : CE h₀ ρb hb cenv ns' D loc l σ ρ h) (hW : ∀ b ∈ W, b = cenv.locals) (i : Inv h₀ σ' ρ' h') (e : Ext W ρ h ρ' h') (F : Frm h₀ cenv ns' loc' ρ' h') :
  CE h₀ ρb hb cenv ns' D loc' l σ' ρ' h' where
 inv := i
 frm := F
 ext := ((x.ext.weak (W' := W) fun ya hm => nomatch hm).trans e).weak fun b hm => .inr (by rw [hW b hm]; exact K.deadC)
 acc := by
  obtain ⟨vs, k, g, r⟩ := x.acc
  exact ⟨vs, k, e.firm g firm_list (fun hm => K.offD.1 (hW _ hm)) x.off, r.ext e⟩
 off := by
  obtain ⟨vs, k, g, r⟩ := x.acc
  exact offMap.ext e g x.off
theorem CE.push {D : Addr} {l : List V} {v : Value} {a : V} {Q : Value → Shared → Prop} {E : Value → Shared → Prop} {sr : Src} {it : Value} {i : Nat} (K : CK h₀ hb cenv wr D) (x : CE h₀ ρb hb cenv ns' D loc l σ ρ s.heap) (wk : ItAt h₀ sr it wr i ρ s.heap) (r : Rel ρ s.heap v a) (hl : l.length ≤ sizeLine)
  (h : ∀ h', CE h₀ ρb hb cenv ns' D loc (l ++ [a]) σ ρ h' → ItAt h₀ sr it wr i ρ h' → Q .none { s with heap := h' }) : wpAny (model h₀.prog h₀.w) A (call (.builtin "list.append") [.ref D, v]) Q E s := by
 obtain ⟨vs, k, g, rv⟩ := x.acc
 have hlen := rv.length
 refine wpAny_list_append_plain ⟨k, g⟩ (fun h' hg hk => ?_) (by rw [List.size_toArray, hlen]; exact hl)
 obtain ⟨m', hg⟩ := hg
 have hg : h'.get? D = some (listO (vs ++ [v]) m') := by simpa [listO] using hg
 have hkk : ∀ b o, s.heap.get? b = some o → b ∉ [D] → h'.get? b = some o := fun b o e hb => hk.extBut b o (fun eq => hb (List.mem_singleton.mpr eq)) e
 have hx : Ext [D] ρ s.heap ρ h' := Ext.of_keep (fun b hm => by rw [List.mem_singleton.mp hm]; exact x.off) hkk fun b o e hm => by
  rw [List.mem_singleton.mp hm] at e ⊢
  rw [g] at e; cases e
  exact ⟨_, hg, kin_list⟩
 refine h h' ⟨x.inv.keep hx (fun b hm => by rw [List.mem_singleton.mp hm]; exact ⟨x.off, K.base0 K.deadD⟩) hkk, x.frm.ext hx (fun b hm => by rw [List.mem_singleton.mp hm]; exact K.offD), ?_, ⟨vs ++ [v], m', hg, (rv.append (.cons r .nil)).ext hx⟩, x.off⟩
  (wk.ext hx fun b hb hm => K.DW (List.mem_singleton.mp hm ▸ hb))
 exact ((x.ext.weak (W' := [D]) fun ya hm => nomatch hm).trans hx).weak fun b hm => .inr (by rw [List.mem_singleton.mp hm]; exact K.deadD)
noncomputable def CompR (h₀ : Bse) (ρb : Map) (hb : Heap) (sb : Shared) (cenv : Env) (ns' : Names) (D : Addr) (l₀ : List V) : Res (List V) → Result → Shared → Prop
 | .bad, _, _ => True
 | .ok l σ', r, s' => r = .ok .next ∧ ∃ loc' ρ' H' tk', s' = (At sb H' tk') ∧ CE h₀ ρb hb cenv ns' D loc' (l₀ ++ l) σ' ρ' H'
 | .exc e σ', r, s' => ∃ ev ρ' H' tk' m, r = .error ev ∧ s' = (At sb H' tk') ∧ Inv h₀ σ' ρ' H' ∧ Ext [] ρb hb ρ' H' ∧ RE σ' e ev ρ' H' ∧ Noted ev H' ∧ H'.Ns cenv.locals m ∧ offMap ρ' cenv.locals
theorem CE.fly {D : Addr} {l l₀ : List V} {H H' : Heap} {tk : Nat} {σ' : Store} {e : V} {ev : Value} {q : Bool} (hA : Rm h₀ A n q) (x : CE h₀ ρb hb cenv ns' D loc l σ ρ H) (i : Inv h₀ σ' ρ' H') (y : Ext [] ρ H ρ' H') (r : RE σ' e ev ρ' H') :
  notedBy (model h₀.prog h₀.w) A cenv (fun x s' => CompR h₀ ρb hb sb cenv ns' D l₀ (.exc e σ') (.error x) s') ev (At sb H' tk) := by
 refine note_ok (s := (At sb H' tk)) hA x.frm.top i r fun h' i' x' nt => ?_
 obtain ⟨m, hn, _⟩ := (x.frm.ext0 (y.trans x')).vars
 exact ⟨ev, ρ', h', tk, m, rfl, rfl, i', (x.ext.trans y).trans x', r, nt, hn, (x.frm.ext0 (y.trans x')).offL⟩
theorem compLoop_ok {elt target iter : Expr} {ifs : List Expr} {scope : Scope} {pos : Pos} {D : Addr} {sr : Src} {it : Value} (hq : C.calm = true) (hA : Rm h₀ A n C.calm) (K : CK h₀ hb cenv wr D) (ht : TestsS h₀ C n ifs) (he : EvS h₀ C n elt) (htg : tgtOk sr target = true) :
  ∀ (k i : Nat) (loc : Loc) (l₀ : List V) (σ : Store) (ρ : Map) (H : Heap) (tk : Nat) (r : Res (List V)), CE h₀ ρb hb cenv ns' D loc l₀ σ ρ H → ItAt h₀ sr it wr i ρ H →
   compLoop sr (bindTo (stLocL ns') target) (tests C ifs ns') (ev C elt ns') k i loc σ = r → r ≠ .bad → l₀.length + k ≤ sizeLine + 1 →
   codeAny (model h₀.prog h₀.w) A (.compLoop (.ListComp elt [⟨target, iter, ifs, 0⟩] scope pos) 0 it (.ref D) cenv) (CompR h₀ ρb hb sb cenv ns' D l₀ r) (At sb H tk) := by
 intro k
 induction k with
 | zero =>
  intro _ _ _ _ _ _ _ _ _ _ h hn _
  exact absurd h.symm hn
 | succ k ih =>
  intro i loc l₀ σ ρ H tk r x wk h hn hl
  have S := stLocL_ok (h₀ := h₀) (env := cenv) (ns := ns') (K.base0 K.deadC)
  cases hat : sr.at σ i with
  | none => rw [compLoop_bad hat] at h; exact absurd h.symm hn
  | some o =>
   rw [compLoop_step hat] at h
   refine compLoop_turn (s := (At sb H tk)) (wk.next (s := (At sb H tk)) (hA.handled hq) x.inv hat htg (fun h' ho hk => ?_) fun v val h' tk' hv hk hgo => ?_)
   ·subst ho
    subst h
    exact ⟨rfl, loc, ρ, h', tk, rfl, by rw [List.append_nil]; exact x.but K hk wk.own⟩
   ·subst hv
    refine hgo _ _ fun h'' hk'' rv wk' => ?_
    have x1 := x.but K hk'' wk.own
    have h1 := Sim.bindTo (s := (At sb h'' tk')) (t := target) S (hA.handled hq) x1.frm x1.inv rv
    cases hb1 : bindTo (stLocL ns') target v loc σ with
    | bad => exact absurd ((bind_bad hb1).symm.trans h).symm hn
    | exc _ _ => exact absurd hb1 (bindTo_quiet S)
    | ok loc₁ σ₁ =>
    replace h := (bind_ok hb1).symm.trans h
    rw [hb1] at h1
    refine wpAny_mono h1 (fun ya s' hp => ?_) fun ya yb f => f.elim
    obtain ⟨ρ₁, H₁, tk₁, rfl, i₁, e₁, F₁⟩ := hp
    have x2 := x1.step K (fun b hm => List.mem_singleton.mp hm) i₁ e₁ F₁
    have wk2 := wk'.ext e₁ fun b hb hm => (K.offW b hb).1 (List.mem_singleton.mp hm)
    have h2 := ht cenv ns' loc₁ σ₁ ρ₁ (At sb H₁ tk₁) A hA x2.frm x2.inv
    cases hb2 : tests C ifs ns' loc₁ σ₁ with
    | bad => exact absurd ((bind_bad hb2).symm.trans h).symm hn
    | exc e σ₂ =>
     have := (bind_exc hb2).symm.trans h
     subst this
     rw [hb2] at h2
     refine wpAny_mono h2 (fun ya yb f => f.elim) fun ev s' hp => ?_
     obtain ⟨ρ₂, H₂, tk₂, rfl, i₂, e₂, re⟩ := hp
     exact x2.fly hA i₂ e₂ re
    | ok ok σ₂ =>
    replace h := (bind_ok hb2).symm.trans h
    rw [hb2] at h2
    refine wpAny_mono h2 (fun ok' s' hp => ?_) fun ya yb f => f.elim
    obtain ⟨ρ₂, H₂, tk₂, rfl, i₂, e₂, hok⟩ := hp
    have hok : ok' = ok := hok
    subst hok
    have x3 := x2.step K (W := []) (fun b hm => absurd hm (List.not_mem_nil)) i₂ e₂ (x2.frm.ext0 e₂)
    have wk3 := wk2.ext e₂ fun b hb hm => absurd hm List.not_mem_nil
    cases ok' with
    | false => exact ih (i + 1) loc₁ l₀ σ₂ ρ₂ H₂ tk₂ r x3 wk3 h hn (by lia)
    | true =>
     have h : (ev C elt ns' loc₁ >>= fun x => compLoop sr (bindTo (stLocL ns') target) (tests C ifs ns') (ev C elt ns') k (i + 1) loc₁ >>= fun r => pure (x :: r)) σ₂ = r := h
     have h3 := he cenv ns' loc₁ σ₂ ρ₂ (At sb H₂ tk₂) A hA x3.frm x3.inv
     cases hb3 : ev C elt ns' loc₁ σ₂ with
     | bad => exact absurd ((bind_bad hb3).symm.trans h).symm hn
     | exc e σ₃ =>
      have := (bind_exc hb3).symm.trans h
      subst this
      rw [hb3] at h3
      refine wpAny_mono h3 (fun ya yb f => f.elim) fun ev s' hp => ?_
      obtain ⟨ρ₃, H₃, tk₃, rfl, i₃, e₃, re⟩ := hp
      exact x3.fly hA i₃ e₃ re
     | ok a σ₃ =>
     replace h := (bind_ok hb3).symm.trans h
     rw [hb3] at h3
     refine wpAny_mono h3 (fun y s' hp => ?_) fun ya yb f => f.elim
     obtain ⟨ρ₃, H₃, tk₃, rfl, i₃, e₃, ry⟩ := hp
     have x4 := x3.step K (W := []) (fun b hm => absurd hm (List.not_mem_nil)) i₃ e₃ (x3.frm.ext0 e₃)
     have wk4 := wk3.ext e₃ fun b hb hm => absurd hm List.not_mem_nil
     refine CE.push (s := (At sb H₃ tk₃)) K x4 wk4 ry (by lia) fun h' x5 wk5 => ?_
     have again := fun r' h' hn' => ih (i + 1) loc₁ (l₀ ++ [a]) σ₃ ρ₃ _ tk₃ r' x5 wk5 h' hn' (by rw [List.length_append, List.length_singleton]; lia)
     cases hb4 : compLoop sr (bindTo (stLocL ns') target) (tests C ifs ns') (ev C elt ns') k (i + 1) loc₁ σ₃ with
     | bad => exact absurd ((bind_bad hb4).symm.trans h).symm hn
     | exc e σ₄ =>
      have := (bind_exc hb4).symm.trans h
      subst this
      exact again _ hb4 nofun
     | ok l σ₄ =>
      have := (bind_ok hb4).symm.trans h
      subst this
      refine codeAny_mono (again _ hb4 nofun) fun r' s' hr => ?_
      obtain ⟨h5, loc₅, ρ₅, H₅, tk₅, h6, X⟩ := hr
      rw [List.append_assoc] at X
      exact ⟨h5, loc₅, ρ₅, H₅, tk₅, h6, X⟩
theorem compLoop_len {sr : Src} {bt : V → Loc → M Loc} {tt : Loc → M Bool} {et : Loc → M V} : ∀ {k i : Nat} {loc : Loc} {σ : Store} {l : List V} {σ' : Store}, compLoop sr bt tt et k i loc σ = .ok l σ' → l.length < k := by
 intro k
 induction k with
 | zero =>
  intro _ _ _ _ _ h
  cases h
 | succ k ih =>
  intro i loc σ l σ' h
  cases hat : sr.at σ i with
  | none => rw [compLoop_bad hat] at h; cases h
  | some o =>
   rw [compLoop_step hat] at h
   cases o with
   | none => cases h; exact Nat.succ_pos _
   | some v =>
    obtain ⟨loc₁, σ₁, _, h⟩ := bind_inv h
    obtain ⟨b, σ₂, _, h⟩ := bind_inv h
    cases b with
    | false => exact Nat.lt_succ_of_lt (ih h)
    | true =>
     obtain ⟨y, σ₃, _, h⟩ := bind_inv (m := et loc₁) h
     obtain ⟨r, σ₄, h4, h⟩ := bind_inv h
     cases h
     exact Nat.succ_lt_succ (ih h4)
theorem Inv.adopt {a : Addr} {o : O} {h : Heap} (i : Inv h₀ σ ρ h) (off : offMap ρ a) (h0 : h₀.get? a = none) (hfr : NoFr h₀ [a]) (ho : ORel h₀ (ρ ++ [(a, 0)]) h (a, 0) o) : Inv h₀ (σ ++ [o]) (ρ ++ [(a, 0)]) h := by
 refine ⟨i.base, by simp [i.len], fun n o' p e1 e2 => ?_, fun n p hp hn => ?_, fun j k p q e1 e2 hjk => ?_, fun e he => ?_⟩
 ·rcases snoc_case e2 with e2 | ⟨rfl, rfl⟩
  ·have hl : n < σ.length := by
    rcases Nat.lt_or_ge n ρ.length with hl | hl
    ·rw [← i.len]; exact hl
    ·rw [List.getElem?_eq_none hl] at e2; cases e2
   rw [List.getElem?_append_left hl] at e1
   exact (i.objs n o' p e1 e2).sub Sub.snoc (fun ob g => g)
  ·rw [i.len, List.getElem?_append_right (Nat.le_refl _), Nat.sub_self] at e1
   cases e1; exact ho
 ·rcases snoc_case hp with hp | ⟨_, rfl⟩
  ·exact i.fresh n p hp hn
  ·exact h0
 ·rcases snoc_case e1 with d1 | ⟨rfl, rfl⟩
  ·rcases snoc_case e2 with d2 | ⟨rfl, rfl⟩
   ·exact i.apart j k p q d1 d2 hjk
   ·exact (off p (List.mem_of_getElem? d1)).symm
  ·rcases snoc_case e2 with d2 | ⟨rfl, rfl⟩
   ·exact off q (List.mem_of_getElem? d2)
   ·exact absurd rfl hjk
 ·obtain ⟨hkd, L, ob, hL, g, hD, offL, z⟩ := i.up e he
  refine ⟨hkd, L, ob, hL, g, hD, fun p hp => ?_, z⟩
  rcases List.mem_append.mp hp with hp | hp
  ·exact offL p hp
  ·rw [List.mem_singleton.mp hp]
   have := hfr a (List.mem_singleton.mpr rfl) e he
   rw [hL] at this
   exact fun q => this (q ▸ rfl)
theorem Ext.adopt {a : Addr} {h : Heap} (x : Ext W ρb hb ρ h) (hd : hb.get? a = none) : Ext W ρb hb (ρ ++ [(a, 0)]) h where
 pre := fun n b v e => let ⟨v', e', r⟩ := x.pre n b v e; ⟨v', snoc_old e', r⟩
 keep := x.keep
 kin := x.kin
 new := fun j p e hj => by
  rcases snoc_case e with e | ⟨_, rfl⟩
  ·exact x.new j p e hj
  ·exact hd
end
end Mine.Internal

set_option backward.match.sparseCases false
namespace Mine.Internal
open PySem PyProof.Rows
section
variable {h₀ : Bse} {hb : Heap} {A : Around} {W wr : List Addr} {ρ ρ' ρb : Map} {s sb : Shared} {σ σ' : Store} {fns : Str → Option Fn} {glob : Str → Option V} {ups : Str → Option (List Str)} {mg mb : Str → Option Value}
variable {env cenv : Env} {ns ns' : Names} {loc : Loc} {C : Cfg} {n : Nat}
noncomputable def compM (C : Cfg) (elt target iter : Expr) (ifs : List Expr) (scope : Scope) (ns : Names) (loc : Loc) : M V := do
 let s ← src C iter ns loc (ev C iter ns loc)
 if C.calm && (tgtOk s target && compOk scope.kind scope.names) then do
  let n ← s.count
  if n ≤ sizeLine then do
   let loc' ← innerLoc ns loc scope.names
   let l ← compLoop s (bindTo (stLocL (relab ns scope.names)) target) (tests C ifs (relab ns scope.names)) (ev C elt (relab ns scope.names)) (n + 1) 0 loc'
   newO (.list l)
  else M.bad
 else M.bad
theorem compOk_kind {k : ScopeKind} {names : Names} (h : compOk k names = true) : k = .function ∧ ∀ x ∈ names, x.2 = .local → names.lookup x.1 = some .local := by
 unfold compOk at h
 simp only [Bool.and_eq_true, List.all_eq_true] at h
 obtain ⟨h1, h2⟩ := h
 refine ⟨?_, fun x hx hl => ?_⟩
 ·cases k <;> first | rfl | cases h1
 ·have := h2 x hx
  rw [hl] at this
  dsimp only at this
  cases e : names.lookup x.1 with
  | none => rw [e] at this; cases this
  | some k' => rw [e] at this; cases k' <;> first | rfl | cases this
theorem ask_ok {α : Type} {f : Store → Option α} {a : α} {σ' : Store} (h : askS f σ = .ok a σ') : σ' = σ ∧ f σ = some a := by
 rw [askS_eq] at h
 cases e : f σ with
 | none => rw [e] at h; cases h
 | some b => rw [e] at h; cases h; exact ⟨rfl, rfl⟩
theorem ask_quiet {α : Type} {f : Store → Option α} {e : V} {σ' : Store} : askS f σ ≠ .exc e σ' := by
 rw [askS_eq]
 cases f σ with
 | none => exact nofun
 | some b => exact nofun
theorem innerLoc_quiet {names : Names} : ∀ {σ : Store} {e : V} {σ' : Store}, innerLoc ns loc names σ ≠ .exc e σ' := by
 have step : ∀ (m : M Loc) (o : Option V), (∀ σ e σ', m σ ≠ .exc e σ') → ∀ σ e σ', (m >>= fun t => (pure (o :: t) : M Loc)) σ ≠ .exc e σ' := fun m o hm σ e σ' => by
  cases h : m σ with
  | bad => rw [bind_bad h]; exact nofun
  | exc _ _ => exact absurd h (hm _ _ _)
  | ok t σ₁ => rw [bind_ok h]; exact nofun
 induction names with
 | nil => exact nofun
 | cons p r ih =>
  intro σ e σ'
  obtain ⟨x, k⟩ := p
  cases k with
  | free =>
   unfold innerLoc
   cases slot ns x with
   | none => exact nofun
   | some p =>
    obtain ⟨j, k'⟩ := p
    cases k' with
    | cell => exact step _ _ (fun σ e σ' => ih) _ _ _
    | _ => exact nofun
  | cell => exact nofun
  | _ => exact step _ _ (fun σ e σ' => ih) _ _ _
theorem ite_bad {α : Type} {c : Prop} [Decidable c] {m : M α} (h : (if c then m else M.bad) σ ≠ .bad) : c ∧ (if c then m else M.bad) σ = m σ := by
 by_cases hc : c
 ·rw [if_pos hc]; exact ⟨hc, rfl⟩
 ·rw [if_neg hc] at h; exact absurd rfl h
theorem passOn_ok {α : Type} {what : String} {e : V} {ev : Value} {Q : α → Shared → Prop} {E : Value → Shared → Prop} (i : Inv h₀ σ ρ s.heap) (r : RE σ e ev ρ s.heap) (nt : Noted ev s.heap)
  (hq : ∀ h', Inv h₀ σ ρ h' → Ext [] ρ s.heap ρ h' → E ev { s with heap := h' }) : wpAny (model h₀.prog h₀.w) A (PySem.passOn what ev env) Q E s := by
 obtain ⟨a, o, vs, tb, rfl, g, hd, h1⟩ := id nt
 unfold PySem.passOn
 refine wpAny_bind (wpAny_field g hd h1 ?_)
 rw [if_neg (show ¬(Value.ref tb == Value.none) = true from nofun)]
 exact wpAny_bind (setFlight_ok i r fun h' i' x' ya => wpAny_throw (hq h' i' x'))
theorem cameBack_ok {e : V} {ev : Value} {E : Value → Shared → Prop} (i : Inv h₀ σ ρ s.heap) (r : RE σ e ev ρ s.heap) (nt : Noted ev s.heap)
  (hq : ∀ h', Inv h₀ σ ρ h' → Ext [] ρ s.heap ρ h' → E ev { s with heap := h' }) : cameBackBy (model h₀.prog h₀.w) A env E ev s := by
 obtain ⟨a, o, vs, tb, rfl, g, hd, h1⟩ := id nt
 refine wpAny_bind (wpAny_field g hd h1 ?_)
 rw [if_neg (show ¬(Value.ref tb == Value.none) = true from nofun)]
 exact setFlight_ok i r fun h' i' x' ya => hq h' i' x'
theorem comp_end {c : Addr} {H h' : Heap} {m : Str → Option Value} (i₀ : Inv h₀ σ' ρ hb) (i : Inv h₀ σ ρ' H) (x : Ext W ρ hb ρ' H) (hn : H.Ns c m) (off : offMap ρ' c) (hd : hb.get? c = none) (hs : Heap.SameBut c H h') :
  Inv h₀ σ ρ' h' ∧ Ext W ρ hb ρ' h' ∧ KeepBut [c] H h' ∧ Own [c] ρ' H := by
 have hk : KeepBut [c] H h' := KeepBut.of_but hs.extBut (List.mem_singleton.mpr rfl)
 have own : Own [c] ρ' H := fun b hb => by
  rw [List.mem_singleton.mp hb]
  obtain ⟨o, ho, d⟩ := ns_dict hn
  refine ⟨off, o, ho, fun vs n e => ?_, fun t => tb_not_d t d⟩
  obtain ⟨_, _, d⟩ := d
  rw [e] at d; cases d
 have dead : ∀ b ∈ [c], hb.get? b = none := fun b hb' => by rw [List.mem_singleton.mp hb']; exact hd
 refine ⟨i.but hk own (fun b hb' => ?_) (i₀.noFr dead), x.but hk dead, hk, own⟩
 cases e : h₀.get? b with
 | none => rfl
 | some o => have := i₀.base _ _ e; rw [dead b hb'] at this; cases this
theorem wpAny_comprehension_first {e : Expr} {scope : Scope} {pos : Pos} {newAcc first : Sem Value} {use : Option (Value → Sem Unit)} {Q : Value → Shared → Prop} {E : Value → Shared → Prop} (h : wpAny (model h₀.prog h₀.w) A first (fun ya yb => False) E s) :
  wpAny (model h₀.prog h₀.w) A (comprehension e scope env pos newAcc false first use) Q E s := by
 unfold comprehension
 exact wpAny_bind (wpAny_mono h (fun ya yb f => f.elim) fun ya yb x => x)
theorem set_no_fold {iter : Expr} (h : ∀ es k p, iter ≠ .Set es k p) : ∀ x, foldedSetIterable iter env x = pure x := by
 intro x
 cases iter <;> first | rfl | exact absurd rfl (h _ _ _)
theorem src_set {es : List Expr} {k : Nat} {p : Pos} : src C (.Set es k p) ns loc (ev C (.Set es k p) ns loc) σ = .bad := rfl
noncomputable def CompEnd (h₀ : Bse) (A : Around) (C : Cfg) (ρ : Map) (s : Shared) (E : Value → Shared → Prop) (use : Option (Value → Sem Unit)) (Q : Value → Shared → Prop) (r : Res V) : Prop :=
 C.calm = true → ∀ v σ', r = .ok v σ' → ∀ D c f ρ' H tk m, Inv h₀ σ' ρ' H → Ext [] ρ s.heap ρ' H → Rel ρ' H (.ref D) v → H.Ns c m → offMap ρ' c → s.heap.get? c = none → compPost (model h₀.prog h₀.w) A E use Q (.ref D) c (.ok f) (At s H tk)
noncomputable def CompFly (h₀ : Bse) (ρ : Map) (s : Shared) (E : Value → Shared → Prop) (r : Res V) : Prop :=
 ∀ e σ', r = .exc e σ' → ∀ ev ρ' H tk, Inv h₀ σ' ρ' H → Ext [] ρ s.heap ρ' H → RE σ' e ev ρ' H → E ev (At s H tk)
theorem comp_core {elt target iter : Expr} {ifs : List Expr} {scope : Scope} {pos : Pos} {r : Res V} {use : Option (Value → Sem Unit)} {Q : Value → Shared → Prop} {E : Value → Shared → Prop} {pp : Pos} (hA : Rm h₀ A n C.calm) (F : Frm h₀ env ns loc ρ s.heap) (iv : Inv h₀ σ ρ s.heap)
  (hs : SrcS h₀ C n iter) (ht : TestsS h₀ C n ifs) (he : EvS h₀ C n elt) (h : compM C elt target iter ifs scope ns loc σ = r) (hr : r ≠ .bad)
  (hend : CompEnd h₀ A C ρ s E use Q r) (hfly : CompFly h₀ ρ s E r) :
  wpAny (model h₀.prog h₀.w) A (comprehension (.ListComp elt [⟨target, iter, ifs, 0⟩] scope pos) scope env pp (newList []) false (eval iter env) use) Q E s := by
 subst h
 have hsrc := hs env ns loc σ ρ s A hA F iv
 by_cases hset : ∃ es k p, iter = .Set es k p
 ·obtain ⟨es, k, p, rfl⟩ := hset
  exact absurd rfl hr
 have hset : ∀ es k p, iter ≠ .Set es k p := fun es k p e => hset ⟨es, k, p, e⟩
 rcases bind_cases hr with ⟨sr, σ₁, h1, e1⟩ | ⟨e, σ₁, h1, e1⟩
 case inr =>
  rw [h1] at hsrc
  refine wpAny_comprehension_first (wpAny_mono hsrc (fun ya yb f => f.elim) fun ev s' hp => ?_)
  obtain ⟨ρ₁, H₁, tk₁, rfl, i₁, x₁, r₁⟩ := hp
  exact hfly e σ₁ e1 ev ρ₁ H₁ tk₁ i₁ x₁ r₁
 refine keep fun P kk => ?_
 replace e1 : compM C elt target iter ifs scope ns loc σ = _ := e1
 obtain ⟨hc, e2⟩ := ite_bad fun e => hr (e1.trans e)
 replace e1 := e1.trans e2
 clear e2
 rcases bind_cases fun e => hr (e1.trans e) with ⟨N, σ₂, h2, e3⟩ | ⟨_, _, h2, _⟩
 case inr => exact absurd h2 ask_quiet
 replace e1 := e1.trans e3
 clear e3
 obtain ⟨rfl, h2'⟩ := ask_ok h2
 obtain ⟨hN, e4⟩ := ite_bad fun e => hr (e1.trans e)
 replace e1 := e1.trans e4
 clear e4
 rcases bind_cases fun e => hr (e1.trans e) with ⟨loc', σ₃, h3, e5⟩ | ⟨_, _, h3, _⟩
 case inr => exact absurd h3 innerLoc_quiet
 replace e1 := e1.trans e5
 clear e5
 replace hr := fun e => hr (e1.trans e)
 have hcomp : ∀ l σ₄, compLoop sr (bindTo (stLocL (relab ns scope.names)) target) (tests C ifs (relab ns scope.names)) (ev C elt (relab ns scope.names)) (N + 1) 0 loc' σ₃ = .ok l σ₄ → l.length ≤ sizeLine := fun l σ₄ h => by
  have := compLoop_len h
  lia
 simp only [Bool.and_eq_true] at hc
 obtain ⟨hq, htg, hco⟩ := hc
 obtain ⟨hkind, hnames⟩ := compOk_kind hco
 have hin := h3
 obtain ⟨rfl, hnc, hfr, hsl⟩ := innerLoc_ok h3
 obtain ⟨cl, hclos, hcl, hcl2⟩ := closure_ok (env := env) (scope := scope) fun x hx hf => by
  obtain ⟨j, hj⟩ := hfr x hx hf
  obtain ⟨c, o, e, _⟩ := F.cell x.1 j hj
  exact ⟨c, e⟩
 refine kk (wpAny_comprehension_free (g := ⟨target, iter, ifs, 0⟩) (gs := []) (cl := cl) rfl (set_no_fold hset) hclos hkind hnames ?_)
 rw [h1] at hsrc
 refine wpAny_mono hsrc (fun xv s₁ hp => ?_) fun ya yb f => f.elim
 obtain ⟨ρ₁, H₁, tk₁, rfl, i₁, x₁, r₁⟩ := hp
 refine RSrc.iter (s := (At s H₁ tk₁)) i₁ x₁ r₁ fun it wr h₂ hk₂ wk hdead => ?_
 have i₂ := i₁.keeps hk₂
 have x₂ : Ext [] ρ s.heap ρ₁ h₂ := x₁.trans (Ext.of_keeps hk₂)
 have F₂ : Frm h₀ env ns loc ρ₁ h₂ := F.ext0 x₂
 refine wpAny_newObj_type (T := "list") (wpAny_newFunctionEnv hnc (by intro y hy; simp at hy) (fun h₃ hns₃ hsb₃ => ?_) hkind)
 dsimp only at hns₃ hsb₃ ⊢
 have hD3 : ∀ b o, h₂.get? b = some o → h₃.get? b = some o := fun b o e => hsb₃.extBut b o (Nat.ne_of_lt (Heap.lt_size (Heap.get?_push_of_some _ e))) (Heap.get?_push_of_some _ (Heap.get?_push_of_some _ e))
 generalize hH2 : h₂.push { cls := .type "list", dict := none, data := .seq ([] : List Value).toArray } = H2 at hns₃ hsb₃ ⊢
 have hDg : h₃.get? h₂.objs.size = some (listO [] 0) := hsb₃.extBut _ _ (by rw [← hH2, Heap.size_push]; exact Nat.ne_of_lt (Nat.lt_succ_self _)) (Heap.get?_push_of_some _ (hH2 ▸ Heap.get?_push_size _ rfl))
 have hDC : h₂.objs.size ≠ H2.objs.size := by rw [← hH2, Heap.size_push]; exact Nat.ne_of_lt (Nat.lt_succ_self _)
 have deadD := size_dead x₂.alive
 have hs2 : H2.objs.size = h₂.objs.size + 1 := by rw [← hH2, Heap.size_push]
 have deadC2 : h₂.get? H2.objs.size = none := by
  cases e : h₂.get? H2.objs.size with
  | none => rfl
  | some o => exact absurd (Heap.lt_size e) (by rw [hs2]; exact Nat.not_lt.mpr (Nat.le_succ _))
 have deadC : s.heap.get? H2.objs.size = none := by
  cases e : s.heap.get? H2.objs.size with
  | none => rfl
  | some o => obtain ⟨o', e'⟩ := x₂.alive _ _ e; rw [deadC2] at e'; cases e'
 have i₃ := i₂.keeps hD3
 have offD : offMap ρ₁ h₂.objs.size := i₂.off_size
 have offC : offMap ρ₁ H2.objs.size := fun p hp => by
  obtain ⟨o1, e1⟩ := i₂.alive hp
  exact fun e => (by rw [← e, deadC2] at e1; cases e1)
 have F₃ : Frm h₀ env ns loc ρ₁ h₃ := F₂.ext0 (Ext.of_keeps hD3)
 generalize hce : ({ newEnv scope H2.objs.size env.globals cl env.qual none .none (some env) (builtinsNs) with scope := relabel scope env } : Env) = cenv
 have hcloc : cenv.locals = H2.objs.size := by rw [← hce]; rfl
 have hccell : cenv.cells = cl := by rw [← hce]; rfl
 have Fc : Frm h₀ cenv (relab ns scope.names) loc' ρ₁ h₃ := compFrm F₃ hin hkind hcl hcl2 (by rw [← hce]; rfl) hns₃ offC fun x d hd e => by
  obtain ⟨_, o, ho, _⟩ := F₂.live x d hd
  rw [e, deadC2] at ho; cases ho
 have hcl_live : ∀ y c, cenv.cells.lookup y = some c → ∃ o, s.heap.get? c = some o := fun y c hc => by
  rw [hccell] at hc
  obtain ⟨_, o, ho, _⟩ := F.live y c (hcl _ _ hc)
  exact ⟨o, ho⟩
 have K : CK h₀ s.heap cenv wr h₂.objs.size :=
  {deadW := hdead
   deadD := deadD
   deadC := by rw [hcloc]; exact deadC
   offW := fun b hb => by
    refine ⟨fun e => ?_, fun y c hc e => ?_⟩
    ·obtain ⟨_, o, ho, _⟩ := wk.own b hb
     rw [e, hcloc, deadC2] at ho; cases ho
    ·obtain ⟨o, ho⟩ := hcl_live y c hc
     rw [← e, hdead b hb] at ho; cases ho
   offD := ⟨by rw [hcloc]; exact hDC, fun y c hc e => by
     obtain ⟨o, ho⟩ := hcl_live y c hc
     rw [← e, deadD] at ho; cases ho⟩
   base := fun b o e => ⟨o, iv.base b o e⟩
   DW := fun hm => by
    obtain ⟨_, o, ho, _⟩ := wk.own _ hm
    exact absurd (Heap.lt_size ho) (Nat.lt_irrefl _)
   fr := iv.noFr hdead }
 have X : CE h₀ ρ s.heap cenv (relab ns scope.names) h₂.objs.size loc' [] σ₃ ρ₁ h₃ :=
  {inv := i₃
   frm := Fc
   ext := x₂.trans (Ext.of_keeps hD3)
   acc := ⟨[], 0, hDg, .nil⟩
   off := offD }
 have wk3 := wk.ext (Ext.of_keeps (W := []) hD3) fun b hb hm => absurd hm List.not_mem_nil
 have hloop : compLoop sr (bindTo (stLocL (relab ns scope.names)) target) (tests C ifs (relab ns scope.names)) (ev C elt (relab ns scope.names)) (N + 1) 0 loc' σ₃ ≠ .bad := fun e => hr (bind_bad e)
 have loop := fun tk => compLoop_ok (iter := iter) (scope := scope) (pos := pos) (sb := s) hq hA K ht he htg (N + 1) 0 loc' [] σ₃ ρ₁ h₃ tk _ X wk3 rfl hloop (by simpa using hN)
 have fin : ∀ tk, codeAny (model h₀.prog h₀.w) A (.compLoop (.ListComp elt [⟨target, iter, ifs, 0⟩] scope pos) 0 it (.ref h₂.objs.size) cenv) (compPost (model h₀.prog h₀.w) A E use Q (.ref h₂.objs.size) H2.objs.size) (At s h₃ tk) := fun tk => by
  refine codeAny_mono (loop tk) fun r s' hr' => ?_
  cases h4 : compLoop sr (bindTo (stLocL (relab ns scope.names)) target) (tests C ifs (relab ns scope.names)) (ev C elt (relab ns scope.names)) (N + 1) 0 loc' σ₃ with
  | bad => exact absurd h4 hloop
  | exc e σ₄ =>
   rw [h4] at hr'
   obtain ⟨ev, ρ₅, H₅, tk₅, m, rfl, rfl, i₅, x₅, re, nt, hn, off⟩ := hr'
   rw [hcloc] at hn off
   refine ⟨m, hn, fun h' hsb cenv' ya => ?_⟩
   obtain ⟨i₆, x₆, hk, _⟩ := comp_end iv i₅ x₅ hn off deadC hsb
   obtain ⟨a, o, vs, tb, ea, g, hd, h1⟩ := nt
   have hac : a ≠ H2.objs.size := fun q => by
    obtain ⟨_, _, _, a', d, _, _, q2, q3⟩ := re
    rw [ea] at q2; cases q2
    exact off _ (List.mem_of_getElem? q3) q.symm
   exact passOn_ok (s := (At s h' tk₅)) i₆ re ⟨a, o, vs, tb, ea, hk _ _ (fun hm => hac (List.mem_singleton.mp hm)) g, hd, h1⟩ fun h'' i'' x'' => hfly e σ₄ (e1.trans (bind_exc h4)) ev ρ₅ h'' tk₅ i'' (x₆.trans x'') re
  | ok l σ₄ =>
   rw [h4] at hr'
   have hl := hcomp l σ₄ h4
   obtain ⟨rfl, loc₅, ρ₅, H₅, tk₅, rfl, X₅⟩ := hr'
   obtain ⟨vs, k, g, rv⟩ := X₅.acc
   obtain ⟨m, hn, _⟩ := X₅.frm.vars
   rw [hcloc] at hn
   have offC5 := X₅.frm.offL
   rw [hcloc] at offC5
   refine hend hq _ _ (e1.trans (bind_ok h4)) _ _ _ (ρ₅ ++ [(h₂.objs.size, 0)]) H₅ tk₅ m (X₅.inv.adopt X₅.off (K.base0 deadD) (iv.noFr fun b hb => by rw [List.mem_singleton.mp hb]; exact deadD) ⟨vs, k, g, by rw [rv.length]; simpa using hl, rv.sub Sub.snoc⟩) (X₅.ext.adopt deadD) (.ref (d := 0) ?_) hn (fun p hp => ?_) deadC
   ·rw [← X₅.inv.len, List.getElem?_append_right (Nat.le_refl _), Nat.sub_self]; rfl
   ·rcases List.mem_append.mp hp with hp | hp
    ·exact offC5 p hp
    ·rw [List.mem_singleton.mp hp]; exact hDC.symm
 exact codeAny_compStart_list (fin _) (wk3.self (s := (At s h₃ _)) (fin _))
end
end Mine.Internal

set_option backward.match.sparseCases false
namespace Mine.Internal
open PySem PyProof.Rows
section
variable {h₀ : Bse} {hb : Heap} {A : Around} {W wr : List Addr} {ρ ρ' ρb : Map} {s sb : Shared} {σ : Store} {fns : Str → Option Fn} {glob : Str → Option V} {ups : Str → Option (List Str)} {mg mb : Str → Option Value}
variable {env cenv : Env} {ns ns' : Names} {loc : Loc} {C : Cfg} {n : Nat}
theorem ev_listcomp {elt target iter : Expr} {ifs : List Expr} {scope : Scope} {pos : Pos} (hs : SrcS h₀ C n iter) (ht : TestsS h₀ C n ifs) (he : EvS h₀ C n elt) : EvS h₀ C n (.ListComp elt [⟨target, iter, ifs, 0⟩] scope pos) :=
 fun env ns loc σ ρ s A hA F i => by
 show Sim h₀ A [] _ (compM C elt target iter ifs scope ns loc σ) RV ρ s
 cases h : compM C elt target iter ifs scope ns loc σ with
 | bad => exact trivial
 | exc e σ' =>
  refine comp_core (use := none) hA F i hs ht he h nofun (fun ya yb yc e => nomatch e) fun ya yb e ev ρ' H tk i' x' re => ?_
  cases e
  exact ⟨ρ', H, tk, rfl, i', x', re⟩
 | ok v σ' =>
  refine comp_core (use := none) hA F i hs ht he h nofun (fun ya yb yc e D c f ρ' H tk m i' x' r hn off hd => ⟨m, hn, fun h' hsb => ?_⟩) fun ya yb e => nomatch e
  cases e
  obtain ⟨i₂, x₂, hk, own⟩ := comp_end i i' x' hn off hd hsb
  exact ⟨ρ', h', tk, rfl, i₂, x₂, r.sub (hk.sub own)⟩
noncomputable def RFl (ρ : Map) (h : Heap) : Fl → Flow → Prop
 | .next, f => f = .next
 | .brk, f => f = .brk
 | .cont, f => f = .cont
 | .ret v, f => ∃ val, f = .ret val ∧ Rel ρ h val v
noncomputable def RX (h₀ : Bse) (env : Env) (ns : Names) : Fl × Loc → Map → Heap → Flow → Prop := fun r ρ h f => RFl ρ h r.1 f ∧ Frm h₀ env ns r.2 ρ h
variable (h₀ C n) in
noncomputable def ExS (st : Stmt) : Prop := ∀ (env : Env) (ns : Names) (loc : Loc) (σ : Store) (ρ : Map) (s : Shared) (A : Around), Rm h₀ A n C.calm → (∀ b ∈ frameW env, h₀.get? b = none) → Frm h₀ env ns loc ρ s.heap → Inv h₀ σ ρ s.heap →
 Sim h₀ A (frameW env) (exec st env) (ex C st ns loc σ) (RX h₀ env ns) ρ s
variable (h₀ C n) in
noncomputable def ExsS (sts : List Stmt) : Prop := ∀ (env : Env) (ns : Names) (loc : Loc) (σ : Store) (ρ : Map) (s : Shared) (A : Around), Rm h₀ A n C.calm → (∀ b ∈ frameW env, h₀.get? b = none) → Frm h₀ env ns loc ρ s.heap → Inv h₀ σ ρ s.heap →
 Sim h₀ A (frameW env) (execs sts env) (exs C sts ns loc σ) (RX h₀ env ns) ρ s
theorem Sim.frm {α β : Type} {t : Sem β} {r : Res α} {R : α → Map → Heap → β → Prop} (F : Frm h₀ env ns loc ρ s.heap) (h : Sim h₀ A [] t r R ρ s) : Sim h₀ A W t r (fun v ρ' h' b => R v ρ' h' b ∧ Frm h₀ env ns loc ρ' h') ρ s := by
 cases r with
 | bad => exact trivial
 | exc _ _ =>
  refine wpAny_mono h (fun ya yb f => f) fun b s' hp => ?_
  obtain ⟨ρ₁, H, tk, rfl, i₁, x₁, r₁⟩ := hp
  exact ⟨ρ₁, H, tk, rfl, i₁, x₁.weak fun ya hm => absurd hm List.not_mem_nil, r₁⟩
 | ok v σ' =>
  refine wpAny_mono h (fun b s' hp => ?_) fun ya yb x => x
  obtain ⟨ρ₁, H, tk, rfl, i₁, x₁, r₁⟩ := hp
  exact ⟨ρ₁, H, tk, rfl, i₁, x₁.weak fun ya hm => absurd hm List.not_mem_nil, r₁, F.ext0 x₁⟩
theorem EvS.st {e : Expr} (he : EvS h₀ C n e) (hA : Rm h₀ A n C.calm) (F : Frm h₀ env ns loc ρ s.heap) (i : Inv h₀ σ ρ s.heap) : Sim h₀ A W (eval e env) (ev C e ns loc σ) (fun v ρ' h' b => Rel ρ' h' b v ∧ Frm h₀ env ns loc ρ' h') ρ s := Sim.frm F (he env ns loc σ ρ s A hA F i)
theorem TstS.st {e : Expr} (he : TstS h₀ C n e) (hA : Rm h₀ A n C.calm) (F : Frm h₀ env ns loc ρ s.heap) (i : Inv h₀ σ ρ s.heap) : Sim h₀ A W (isTrue e env (eval e env)) (tst C e ns loc (ev C e ns loc) σ) (fun v ρ' h' b => b = v ∧ Frm h₀ env ns loc ρ' h') ρ s := Sim.frm F (he env ns loc σ ρ s A hA F i)
theorem exs_nil : ExsS h₀ C n [] := fun env ns loc σ ρ s A hA hf F i => Sim.ret i ⟨rfl, F⟩
theorem exs_cons {st : Stmt} {r : List Stmt} (h : ExS h₀ C n st) (hr : ExsS h₀ C n r) : ExsS h₀ C n (st :: r) := fun env ns loc σ ρ s A hA hf F i => by
 rw [execs_cons]
 show Sim h₀ A (frameW env) _ ((ex C st ns loc >>= fun x => andThen x (exs C r ns)) σ) (RX h₀ env ns) ρ s
 refine Sim.bind (h env ns loc σ ρ s A hA hf F i) fun a σ₁ ρ₁ H tk f i₁ x₁ r₁ => ?_
 obtain ⟨fl, loc₁⟩ := a
 obtain ⟨rf, F₁⟩ := r₁
 cases fl with
 | next => cases rf; exact hr env ns loc₁ σ₁ ρ₁ _ A hA hf F₁ i₁
 | brk => cases rf; exact Sim.ret i₁ ⟨rfl, F₁⟩
 | cont => cases rf; exact Sim.ret i₁ ⟨rfl, F₁⟩
 | ret v =>
  obtain ⟨val, rfl, rv⟩ := rf
  exact Sim.ret i₁ ⟨⟨val, rfl, rv⟩, F₁⟩
theorem ex_pass {pos : Pos} : ExS h₀ C n (.Pass pos) := fun env ns loc σ ρ s A hA hf F i => by
 rw [arm_exec_Pass]; exact Sim.standAt (Sim.ret i ⟨rfl, F⟩)
theorem ex_return0 {pos : Pos} : ExS h₀ C n (.Return none pos) := fun env ns loc σ ρ s A hA hf F i => by
 rw [arm_exec_Return]; exact Sim.standAt (Sim.ret i ⟨⟨.none, rfl, .none⟩, F⟩)
theorem ex_return {e : Expr} {pos : Pos} (he : EvS h₀ C n e) : ExS h₀ C n (.Return (some e) pos) := fun env ns loc σ ρ s A hA hf F i => by
 rw [arm_exec_Return]
 refine Sim.standAt (Sim.bind (he.st hA F i) fun a σ₁ ρ₁ H tk b i₁ x₁ r₁ => ?_)
 exact Sim.ret i₁ ⟨⟨b, rfl, r₁.1⟩, r₁.2⟩
theorem ex_if {t : Expr} {a b : List Stmt} {pos : Pos} (ht : TstS h₀ C n t) (ha : ExsS h₀ C n a) (hb : ExsS h₀ C n b) : ExS h₀ C n (.If t a b pos) := fun env ns loc σ ρ s A hA hf F i => by
 rw [arm_exec_If]
 refine Sim.standAt (Sim.bind (ht.st hA F i) fun c σ₁ ρ₁ H tk c' i₁ x₁ r₁ => ?_)
 obtain ⟨rfl, F₁⟩ := r₁
 cases c' with
 | true => exact ha env ns loc σ₁ ρ₁ _ A hA hf F₁ i₁
 | false => exact hb env ns loc σ₁ ρ₁ _ A hA hf F₁ i₁
theorem Sim.dropValue {f : Expr} {as : List Expr} {q p : Pos} {v : Value} (i : Inv h₀ σ ρ s.heap) (F : Frm h₀ env ns loc ρ s.heap) : Sim h₀ A W (PySem.dropValue (.Call f as [] q) p v) ((Pure.pure (Fl.next, loc) : M (Fl × Loc)) σ) (RX h₀ env ns) ρ s := by
 have fin : Post h₀ W ρ s σ (fun ρ' h' => RX h₀ env ns (.next, loc) ρ' h' .next) s := ⟨ρ, s.heap, s.toks, rfl, i, Ext.refl, rfl, F⟩
 cases v with
 | ref a => exact wpAny_bind (wpAny_standAt (wpAny_bind (wpAny_runValue (codeAny_builtin entry_let_go (show wpAny _ _ (PySem.ret .none) _ _ s from wpAny_pure (wpAny_pure fin))))))
 | _ => exact wpAny_pure fin
theorem ex_expr {f : Expr} {as : List Expr} {p pos : Pos} (he : EvS h₀ C n (.Call f as [] p)) : ExS h₀ C n (.Expr (.Call f as [] p) pos) := fun env ns loc σ ρ s A hA hf F i => by
 rw [arm_exec_Expr]
 have hi : interactive env = false := by unfold interactive; rw [F.kind]; rfl
 have hsw : swapsWith (.Call f as [] p) none pos.line env = Pure.pure false := rfl
 rw [hi, hsw]
 refine Sim.standAt ?_
 show Sim h₀ A (frameW env) (eval (.Call f as [] p) env >>= fun v => PySem.dropValue (.Call f as [] p) pos v) ((ev C (.Call f as [] p) ns loc >>= fun ya => (Pure.pure (Fl.next, loc) : M (Fl × Loc))) σ) (RX h₀ env ns) ρ s
 exact Sim.bind (he.st hA F i) fun a σ₁ ρ₁ H tk b i₁ x₁ r₁ => Sim.dropValue i₁ r₁.2
theorem Sim.pureNext {t : Sem Unit} {m : M Loc} (h : Sim h₀ A W t (m σ) (RFrm h₀ env ns) ρ s) : Sim h₀ A W (t >>= fun ya => Pure.pure Flow.next) ((m >>= fun l => (Pure.pure (Fl.next, l) : M (Fl × Loc))) σ) (RX h₀ env ns) ρ s :=
 Sim.bind h fun a σ₁ ρ₁ H tk b i₁ x₁ r₁ => Sim.ret i₁ ⟨rfl, r₁⟩
variable (h₀ C n) in
noncomputable def CompS (value : Expr) : Prop := ∀ elt t it ifs sc p, value = .ListComp elt [⟨t, it, ifs, 0⟩] sc p → SrcS h₀ C n it ∧ TestsS h₀ C n ifs ∧ EvS h₀ C n elt
theorem ex_assignName_plain {x : Str} {p pos : Pos} {value : Expr} (hv : EvS h₀ C n value) (hA : Rm h₀ A n C.calm) (hf : ∀ b ∈ frameW env, h₀.get? b = none) (F : Frm h₀ env ns loc ρ s.heap) (i : Inv h₀ σ ρ s.heap) (hsw : swapsWith value (some (.Name x p)) pos.line env = pure false) :
  Sim h₀ A (frameW env) (exec (.Assign [.Name x p] value pos) env) (ex C (.Assign [.Name x p] value pos) ns loc σ) (RX h₀ env ns) ρ s := by
 rw [PySem.exec_Assign_Name _ _ _ _ _ hsw]
 show Sim h₀ A (frameW env) _ ((ev C value ns loc >>= fun v => stLoc ns x v loc >>= fun l => (Pure.pure (Fl.next, l) : M (Fl × Loc))) σ) (RX h₀ env ns) ρ s
 refine Sim.standAt (Sim.bind (hv.st hA F i) fun a σ₁ ρ₁ H tk b i₁ x₁ r₁ => Sim.standAt ?_)
 exact Sim.pureNext (Sim.bindName ((stLoc_ok hf).store x b a loc σ₁ ρ₁ _ A r₁.2 i₁ r₁.1))
theorem ex_assignName_used {x : Str} {p pos cp : Pos} {elt target iter : Expr} {ifs : List Expr} {scope : Scope} (hs : SrcS h₀ C n iter) (ht : TestsS h₀ C n ifs) (he : EvS h₀ C n elt) (hA : Rm h₀ A n C.calm) (hf : ∀ b ∈ frameW env, h₀.get? b = none)
  (F : Frm h₀ env ns loc ρ s.heap) (i : Inv h₀ σ ρ s.heap) (hsw : swapsWith (.ListComp elt [⟨target, iter, ifs, 0⟩] scope cp) (some (.Name x p)) pos.line env = pure true) :
  Sim h₀ A (frameW env) (exec (.Assign [.Name x p] (.ListComp elt [⟨target, iter, ifs, 0⟩] scope cp) pos) env) (ex C (.Assign [.Name x p] (.ListComp elt [⟨target, iter, ifs, 0⟩] scope cp) pos) ns loc σ) (RX h₀ env ns) ρ s := by
 rw [exec_Assign_Name_used _ _ _ _ hsw]
 show Sim h₀ A (frameW env) _ ((compM C elt target iter ifs scope ns loc >>= fun v => stLoc ns x v loc >>= fun l => (Pure.pure (Fl.next, l) : M (Fl × Loc))) σ) (RX h₀ env ns) ρ s
 cases h : compM C elt target iter ifs scope ns loc σ with
 | bad => rw [bind_bad h]; exact trivial
 | exc e σ' =>
  rw [bind_exc h]
  refine wpAny_bind (wpAny_standAt (wpAny_bind ?_))
  rw [arm_evalThenUse_ListComp]
  refine wpAny_bind (comp_core (use := some (assign (.Name x p) env)) (Q := fun ya s' => _) hA F i hs ht he h nofun (fun ya yb yc e => nomatch e) fun ya yb e ev ρ' H tk i' x' re => ?_)
  cases e
  exact ⟨ρ', H, tk, rfl, i', x'.weak fun ya hm => absurd hm List.not_mem_nil, re⟩
 | ok v σ' =>
  rw [bind_ok h]
  cases h2 : stLoc ns x v loc σ' with
  | bad => rw [bind_bad h2]; exact trivial
  | exc _ _ => exact absurd h2 ((stLoc_ok (h₀ := h₀) (env := env) (ns := ns) hf).quiet _ _ _ _ _ _)
  | ok loc' σ'' =>
   rw [bind_ok h2]
   refine wpAny_bind (wpAny_standAt (wpAny_bind ?_))
   rw [arm_evalThenUse_ListComp]
   refine wpAny_bind (comp_core (use := some (assign (.Name x p) env)) (Q := fun ya s' => _) hA F i hs ht he h nofun (fun hq ya yb e D c f ρ' H tk m i' x' r hn off hd => ?_) fun ya yb e => nomatch e)
   cases e
   have st := Sim.bindTo (s := (At s H tk)) (t := .Name x p) (stLoc_ok (h₀ := h₀) (env := env) (ns := ns) hf) (hA.handled hq) (F.ext0 x') i' r
   rw [show bindTo (stLoc ns) (.Name x p) v loc σ' = .ok loc' σ'' from h2] at st
   refine wpAny_mono st (fun ya s' hp => ?_) fun ya yb f => f.elim
   obtain ⟨ρ₁, H₁, tk₁, rfl, i₁, x₁, F₁⟩ := hp
   have hcF : offFrame env c := F.offDead hd
   have hn1 : H₁.Ns c m := x₁.nsAt hn hcF.notin off
   refine ⟨m, hn1, fun h' hsb => wpAny_pure (wpAny_pure ?_)⟩
   have x2 : Ext (frameW env) ρ s.heap ρ₁ H₁ := (x'.weak fun ya hm => absurd hm List.not_mem_nil).trans x₁
   obtain ⟨o, ho, _⟩ := ns_dict hn
   obtain ⟨i₂, x₂, hk, own⟩ := comp_end i i₁ x2 hn1 (offMap.ext x₁ ho off) hd hsb
   exact ⟨ρ₁, h', tk₁, rfl, i₂, x₂, rfl, F₁.but hk own fun b hb => by rw [List.mem_singleton.mp hb]; exact hcF⟩
theorem ex_assignName {x : Str} {p pos : Pos} {value : Expr} (hv : EvS h₀ C n value) (hc : CompS h₀ C n value) : ExS h₀ C n (.Assign [.Name x p] value pos) := fun env ns loc σ ρ s A hA hf F i => by
 have plain := fun hsw => ex_assignName_plain (x := x) (p := p) (pos := pos) hv hA hf F i hsw
 have badv : ∀ (hb : ev C value ns loc σ = .bad), Sim h₀ A (frameW env) (exec (.Assign [.Name x p] value pos) env) (ex C (.Assign [.Name x p] value pos) ns loc σ) (RX h₀ env ns) ρ s := fun hb => by
  show Sim h₀ A (frameW env) _ ((ev C value ns loc >>= fun v => stLoc ns x v loc >>= fun l => (Pure.pure (Fl.next, l) : M (Fl × Loc))) σ) (RX h₀ env ns) ρ s
  rw [bind_bad hb]; exact trivial
 cases value with
 | ListComp elt gens scope cp =>
  have hb : ∃ b, swapsWith (.ListComp elt gens scope cp) (some (.Name x p)) pos.line env = Pure.pure b := ⟨_, rfl⟩
  obtain ⟨b, hb⟩ := hb
  cases b with
  | false => exact plain hb
  | true =>
   rcases comp_cases gens with ⟨t, it, ifs, rfl⟩ | hbad
   ·obtain ⟨h1, h2, h3⟩ := hc elt t it ifs scope cp rfl
    exact ex_assignName_used h1 h2 h3 hA hf F i hb
   ·exact badv (by rw [hbad]; rfl)
 | SetComp _ _ _ _ => exact badv rfl
 | DictComp _ _ _ _ _ => exact badv rfl
 | _ => exact plain rfl
theorem ex_assignSub {o i : Expr} {p pos : Pos} {value : Expr} (hv : EvS h₀ C n value) (ho : EvS h₀ C n o) (hi : EvS h₀ C n i) : ExS h₀ C n (.Assign [.Subscript o i p] value pos) := fun env ns loc σ ρ s A hA hf F iv => by
 rw [exec_Assign_Subscript _ _ _ _ _ (by cases value <;> rfl)]
 show Sim h₀ A (frameW env) _ ((ev C value ns loc >>= fun v => ev C o ns loc >>= fun a => ev C i ns loc >>= fun b => Mine.Internal.setItem a b v >>= fun ya => (Pure.pure (Fl.next, loc) : M (Fl × Loc))) σ) (RX h₀ env ns) ρ s
 refine Sim.standAt (Sim.bind (hv.st hA F iv) fun a σ₁ ρ₁ H₁ tk₁ va i₁ x₁ r₁ => ?_)
 show Sim h₀ A (frameW env) _ (((ev C o ns loc >>= fun b => ev C i ns loc >>= fun c => Mine.Internal.setItem b c a >>= fun ya => (Pure.pure loc : M Loc)) >>= fun l => (Pure.pure (Fl.next, l) : M (Fl × Loc))) σ₁) (RX h₀ env ns) ρ₁ _
 refine Sim.pureNext ?_
 rw [arm_assign_Subscript]
 refine Sim.bind (Sim.holding (ho.st hA r₁.2 i₁)) fun b σ₂ ρ₂ H₂ tk₂ vb i₂ x₂ r₂ => ?_
 refine Sim.bind (Sim.holding (hi.st hA r₂.2 i₂)) fun c σ₃ ρ₃ H₃ tk₃ vc i₃ x₃ r₃ => Sim.standAt ?_
 refine Sim.bind (Sim.holding (Sim.frm r₃.2 (Sim.setItem (h₀ := h₀) (A := A) (W := []) (s := (At s H₃ tk₃)) i₃ (r₂.1.ext x₃) r₃.1 ((r₁.1.ext x₂).ext x₃)))) fun ya σ₄ ρ₄ H₄ tk₄ yb i₄ x₄ F₄ => Sim.of_wp (wpAny_release ⟨ρ₄, H₄, tk₄, rfl, i₄, Ext.refl, F₄.2⟩)
theorem exAsg_none {t value : Expr} (h1 : nameIn t = none) (h2 : subIn t = none) : exAsg C t value ns loc = M.bad := by
 unfold exAsg
 rw [h1]
 show (match subIn t with | some q => _ | none => M.bad) = M.bad
 rw [h2]
theorem ex_exprs {e : Expr} {pos : Pos} (he : EvS h₀ C n e) : ExS h₀ C n (.Expr e pos) := by
 cases h : callIn e with
 | some q => obtain ⟨⟨f, as, q⟩, rfl⟩ := q; exact ex_expr he
 | none =>
  intro env ns loc σ ρ s A hA hf F i
  show Sim h₀ A (frameW env) _ ((match callIn e with | some _ => (ev C e ns loc >>= fun ya => (Pure.pure (Fl.next, loc) : M (Fl × Loc))) | none => M.bad) σ) (RX h₀ env ns) ρ s
  rw [h]; exact trivial
end
end Mine.Internal

set_option backward.match.sparseCases false
namespace Mine.Internal
open PySem PyProof.Rows
section
variable {h₀ : Bse} {hb : Heap} {A : Around} {W wr : List Addr} {ρ ρ' ρb : Map} {s sb : Shared} {σ : Store} {fns : Str → Option Fn} {glob : Str → Option V} {ups : Str → Option (List Str)} {mg mb : Str → Option Value}
variable {env cenv : Env} {ns ns' : Names} {loc : Loc} {C : Cfg} {n : Nat}
theorem forLoop_turn {R : Result → Shared → Prop} {target : Expr} {it : Value} {body : List Stmt}
  (h : wpAny (model h₀.prog h₀.w) A (pyNext it) (fun r s₁ => match r with
   | none => R (.ok .next) s₁
   | some v => wpAny (model h₀.prog h₀.w) A (letOwnedTupleGo target it v) (fun ya s₁' =>
     wpAny (model h₀.prog h₀.w) A (assign target env v) (fun ya s₂ => wpAny (model h₀.prog h₀.w) A (execs body env) (fun f s₃ => match f with
      | .next | .cont => codeAny (model h₀.prog h₀.w) A (.forLoop target it body [] env) R s₃
      | .brk => R (.ok .next) s₃
      | .ret v => R (.ok (.ret v)) s₃) (notedBy (model h₀.prog h₀.w) A env fun x s' => R (.error x) s') s₂) (notedBy (model h₀.prog h₀.w) A env fun x s' => R (.error x) s') s₁') (notedBy (model h₀.prog h₀.w) A env fun x s' => R (.error x) s') s₁) (fun ya yb => False) s) :
  codeAny (model h₀.prog h₀.w) A (.forLoop target it body [] env) R s := by
 refine codeAny_of_tree ?_
 show wpAny _ A ((forTurn target it body [] env).onRaise (fun x => do noteFrame x env; theTreesLotGoes x)) _ _ s
 refine wpAny_noted ?_
 simp only [forTurn]
 refine wpAny_bind (wpAny_standAt (wpAny_bind (wpAny_onRaise (wpAny_mono h (fun r s₁ h₁ => ?_) fun ya yb h' => h'.elim))))
 cases r with
 | none => exact wpAny_pure ⟨rfl, codeAny_block (wpAny_execs_nil h₁)⟩
 | some v =>
  refine wpAny_bind (wpAny_mono h₁ (fun ya s₁' h₁' => ?_) fun ya yb h' => h')
  refine wpAny_bind (wpAny_mono h₁' (fun ya s₂ h₂ => wpAny_bind (wpAny_mono h₂ (fun f s₃ h₃ => ?_) fun ya yb h' => h')) fun ya yb h' => h')
  cases f with
  | next => exact wpAny_pure ⟨rfl, h₃⟩
  | cont => exact wpAny_pure ⟨rfl, h₃⟩
  | brk => exact wpAny_pure h₃
  | ret v => exact wpAny_pure h₃
structure FE (h₀ : Bse) (ρb : Map) (hb : Heap) (env : Env) (ns : Names) (loc : Loc) (σ : Store) (ρ : Map) (h : Heap) : Prop where
 inv : Inv h₀ σ ρ h
 frm : Frm h₀ env ns loc ρ h
 ext : Ext (frameW env) ρb hb ρ h
structure FK (h₀ : Bse) (hb : Heap) (env : Env) (wr : List Addr) : Prop where
 deadW : ∀ b ∈ wr, hb.get? b = none
 dead0 : ∀ b ∈ wr, h₀.get? b = none
 offW : ∀ b ∈ wr, offFrame env b
 fr : NoFr h₀ wr
theorem FE.but {h h' : Heap} (K : FK h₀ hb env wr) (x : FE h₀ ρb hb env ns loc σ ρ h) (hk : KeepBut wr h h') (ho : Own wr ρ h) : FE h₀ ρb hb env ns loc σ ρ h' where
 inv := x.inv.but hk ho K.dead0 K.fr
 frm := x.frm.but hk ho K.offW
 ext := x.ext.but hk K.deadW
theorem forLoop_bad {sr : Src} {bt : V → Loc → M Loc} {body : Loc → M (Fl × Loc)} {k i : Nat} (h : sr.at σ i = none) : forLoop sr bt body (k + 1) i loc σ = .bad := by
 show (sr.get i >>= _) σ = _
 rw [bind_bad (by unfold Src.get; rw [askS_eq, h])]
noncomputable def ForR (h₀ : Bse) (ρb : Map) (hb : Heap) (sb : Shared) (env : Env) (ns : Names) : Res (Fl × Loc) → Result → Shared → Prop
 | .bad, _, _ => True
 | .ok r σ', res, s' => ∃ f ρ' H' tk', res = .ok f ∧ s' = (At sb H' tk') ∧ RFl ρ' H' r.1 f ∧ FE h₀ ρb hb env ns r.2 σ' ρ' H'
 | .exc e σ', res, s' => ∃ ev ρ' H' tk', res = .error ev ∧ s' = (At sb H' tk') ∧ Inv h₀ σ' ρ' H' ∧ Ext (frameW env) ρb hb ρ' H' ∧ RE σ' e ev ρ' H' ∧ Noted ev H'
theorem forLoop_ok {target : Expr} {body : List Stmt} {sr : Src} {it : Value} (hq : C.calm = true) (hA : Rm h₀ A n C.calm) (K : FK h₀ hb env wr) (hf : ∀ b ∈ frameW env, h₀.get? b = none) (hbd : ExsS h₀ C n body) (htg : tgtOk sr target = true) :
  ∀ (k i : Nat) (loc : Loc) (σ : Store) (ρ : Map) (H : Heap) (tk : Nat) (r : Res (Fl × Loc)), FE h₀ ρb hb env ns loc σ ρ H → ItAt h₀ sr it wr i ρ H →
   forLoop sr (bindTo (stLoc ns) target) (exs C body ns) k i loc σ = r → r ≠ .bad →
   codeAny (model h₀.prog h₀.w) A (.forLoop target it body [] env) (ForR h₀ ρb hb sb env ns r) (At sb H tk) := by
 intro k
 induction k with
 | zero =>
  intro _ _ _ _ _ _ _ _ _ h hn
  exact absurd h.symm hn
 | succ k ih =>
  intro i loc σ ρ H tk r x wk h hn
  have S := stLoc_ok (h₀ := h₀) (env := env) (ns := ns) hf
  have offW : ∀ b ∈ wr, b ∉ frameW env := fun b hb => (K.offW b hb).notin
  cases hat : sr.at σ i with
  | none => rw [forLoop_bad hat] at h; exact absurd h.symm hn
  | some o =>
   rw [forLoop_step hat] at h
   refine forLoop_turn (s := (At sb H tk)) (wk.next (s := (At sb H tk)) (hA.handled hq) x.inv hat htg (fun h' ho hk => ?_) fun v val h' tk' hv hk hgo => ?_)
   ·subst ho
    subst h
    exact ⟨.next, ρ, h', tk, rfl, rfl, rfl, x.but K hk wk.own⟩
   ·subst hv
    refine hgo _ _ fun h'' hk'' rv wk' => ?_
    have x1 := x.but K hk'' wk.own
    have h1 := Sim.bindTo (s := (At sb h'' tk')) (t := target) S (hA.handled hq) x1.frm x1.inv rv
    cases hb1 : bindTo (stLoc ns) target v loc σ with
    | bad => exact absurd ((bind_bad hb1).symm.trans h).symm hn
    | exc _ _ => exact absurd hb1 (bindTo_quiet S)
    | ok loc₁ σ₁ =>
    replace h := (bind_ok hb1).symm.trans h
    rw [hb1] at h1
    refine wpAny_mono h1 (fun ya s' hp => ?_) fun ya yb f => f.elim
    obtain ⟨ρ₁, H₁, tk₁, rfl, i₁, e₁, F₁⟩ := hp
    have x2 : FE h₀ ρb hb env ns loc₁ σ₁ ρ₁ H₁ := ⟨i₁, F₁, x1.ext.trans e₁⟩
    have wk2 := wk'.ext e₁ offW
    have h2 := hbd env ns loc₁ σ₁ ρ₁ (At sb H₁ tk₁) A hA hf x2.frm x2.inv
    cases hb2 : exs C body ns loc₁ σ₁ with
    | bad => exact absurd ((bind_bad hb2).symm.trans h).symm hn
    | exc e σ₂ =>
     have := (bind_exc hb2).symm.trans h
     subst this
     rw [hb2] at h2
     refine wpAny_mono h2 (fun ya yb f => f.elim) fun ev s' hp => ?_
     obtain ⟨ρ₂, H₂, tk₂, rfl, i₂, e₂, re⟩ := hp
     refine note_ok (s := (At sb H₂ tk₂)) hA x2.frm.top i₂ re fun h' i' x' nt => ?_
     exact ⟨ev, ρ₂, h', tk₂, rfl, rfl, i', (x2.ext.trans e₂).trans (x'.weak fun ya hm => absurd hm List.not_mem_nil), re, nt⟩
    | ok a σ₂ =>
    replace h := (bind_ok hb2).symm.trans h
    rw [hb2] at h2
    refine wpAny_mono h2 (fun f s' hp => ?_) fun ya yb f => f.elim
    obtain ⟨ρ₂, H₂, tk₂, rfl, i₂, e₂, rf, F₂⟩ := hp
    obtain ⟨fl, loc₂⟩ := a
    have x3 : FE h₀ ρb hb env ns loc₂ σ₂ ρ₂ H₂ := ⟨i₂, F₂, x2.ext.trans e₂⟩
    have wk3 := wk2.ext e₂ offW
    cases fl with
    | next => cases rf; exact ih (i + 1) loc₂ σ₂ ρ₂ H₂ tk₂ r x3 wk3 h hn
    | cont => cases rf; exact ih (i + 1) loc₂ σ₂ ρ₂ H₂ tk₂ r x3 wk3 h hn
    | brk => cases rf; subst h; exact ⟨.next, ρ₂, H₂, tk₂, rfl, rfl, rfl, x3⟩
    | ret u =>
     obtain ⟨val, rfl, ru⟩ := rf
     subst h
     exact ⟨.ret val, ρ₂, H₂, tk₂, rfl, rfl, ⟨val, rfl, ru⟩, x3⟩
theorem for_core {target iter : Expr} {body : List Stmt} {sr : Src} {σ₁ : Store} {r : Res (Fl × Loc)} {pos : Pos} {N : Nat} {Q : Flow → Shared → Prop} {E : Value → Shared → Prop} (hq : C.calm = true) (hA : Rm h₀ A n C.calm) (hf : ∀ b ∈ frameW env, h₀.get? b = none) (F : Frm h₀ env ns loc ρ s.heap) (iv : Inv h₀ σ ρ s.heap)
  (hs : SrcS h₀ C n iter) (hbd : ExsS h₀ C n body) (htg : tgtOk sr target = true) (h1 : src C iter ns loc (ev C iter ns loc) σ = .ok sr σ₁) (h3 : forLoop sr (bindTo (stLoc ns) target) (exs C body ns) N 0 loc σ₁ = r) (hr : r ≠ .bad)
  (hend : ∀ res s', ForR h₀ ρ s.heap s env ns r res s' → match res with | .ok f => Q f s' | .error e => cameBackBy (model h₀.prog h₀.w) A env E e s') : wpAny (model h₀.prog h₀.w) A (exec (.For target iter body [] pos) env) Q E s := by
 have hset : ∀ es k p, iter ≠ .Set es k p := fun es k p e => by subst e; rw [src_set] at h1; cases h1
 have hsrc := hs env ns loc σ ρ s A hA F iv
 rw [h1] at hsrc
 refine wpAny_For (wpAny_mono hsrc (fun xv s₁ hp => ?_) fun ya yb f => f.elim) (set_no_fold hset)
 obtain ⟨ρ₁, H₁, tk₁, rfl, i₁, x₁, r₁⟩ := hp
 refine RSrc.iter (s := (At s H₁ tk₁)) i₁ x₁ r₁ fun it wr h₂ hk₂ wk hdead => ?_
 have i₂ := i₁.keeps hk₂
 have x₂ : Ext [] ρ s.heap ρ₁ h₂ := x₁.trans (Ext.of_keeps hk₂)
 have K : FK h₀ s.heap env wr :=
  {deadW := hdead
   dead0 := fun b hb => by
    cases e : h₀.get? b with
    | none => rfl
    | some o => have := iv.base _ _ e; rw [hdead b hb] at this; cases this
   offW := fun b hb => F.offDead (hdead b hb)
   fr := iv.noFr hdead }
 have X : FE h₀ ρ s.heap env ns loc σ₁ ρ₁ h₂ := ⟨i₂, F.ext0 x₂, x₂.weak fun ya hm => absurd hm List.not_mem_nil⟩
 exact codeAny_mono (forLoop_ok (sb := s) hq hA K hf hbd htg N 0 loc σ₁ ρ₁ h₂ tk₁ r X wk h3 hr) hend
theorem ex_for {target iter : Expr} {body : List Stmt} {pos : Pos} (hs : SrcS h₀ C n iter) (hbd : ExsS h₀ C n body) : ExS h₀ C n (.For target iter body [] pos) := fun env ns loc σ ρ s A hA hf F iv => by
 show Sim h₀ A (frameW env) _ ((src C iter ns loc (ev C iter ns loc) >>= fun sr => if (C.calm && tgtOk sr target) = true then (sr.count >>= fun N => forLoop sr (bindTo (stLoc ns) target) (exs C body ns) (N + 1) 0 loc) else M.bad) σ) (RX h₀ env ns) ρ s
 cases h1 : src C iter ns loc (ev C iter ns loc) σ with
 | bad => rw [bind_bad h1]; exact trivial
 | exc e σ₁ =>
  rw [bind_exc h1]
  have hset : ∀ es k p, iter ≠ .Set es k p := fun es k p e => by subst e; rw [src_set] at h1; cases h1
  have hsrc := hs env ns loc σ ρ s A hA F iv
  rw [h1] at hsrc
  refine wpAny_For (wpAny_mono hsrc (fun ya yb f => f.elim) fun ev s' hp => ?_) (set_no_fold hset)
  obtain ⟨ρ₁, H₁, tk₁, rfl, i₁, x₁, r₁⟩ := hp
  exact ⟨ρ₁, H₁, tk₁, rfl, i₁, x₁.weak fun ya hm => absurd hm List.not_mem_nil, r₁⟩
 | ok sr σ₁ =>
  rw [bind_ok h1]
  refine Sim.ite fun hc => ?_
  rw [Bool.and_eq_true] at hc
  obtain ⟨hq, htg⟩ := hc
  cases h2 : sr.count σ₁ with
  | bad => rw [bind_bad h2]; exact trivial
  | exc _ _ => exact absurd h2 ask_quiet
  | ok N σ₂ =>
   rw [bind_ok h2]
   obtain ⟨rfl, h2'⟩ := ask_ok h2
   cases h3 : forLoop sr (bindTo (stLoc ns) target) (exs C body ns) (N + 1) 0 loc σ₂ with
   | bad => exact trivial
   | exc e σ' =>
    refine for_core hq hA hf F iv hs hbd htg h1 h3 nofun fun res s' hr => ?_
    obtain ⟨ev, ρ', H', tk', rfl, rfl, i', x', re, nt⟩ := hr
    exact cameBack_ok (s := (At s H' tk')) i' re nt fun h'' i'' x'' => ⟨ρ', h'', tk', rfl, i'', x'.trans (x''.weak fun ya hm => absurd hm List.not_mem_nil), re⟩
   | ok r σ' =>
    refine for_core hq hA hf F iv hs hbd htg h1 h3 nofun fun res s' hr => ?_
    obtain ⟨f, ρ', H', tk', rfl, rfl, rf, X'⟩ := hr
    exact ⟨ρ', H', tk', rfl, X'.inv, X'.ext, rf, X'.frm⟩
end
section
variable {h₀ : Bse} {fns : Str → Option Fn} {glob : Str → Option V} {ups : Str → Option (List Str)} {mg mb : Str → Option Value} {C : Cfg} {n : Nat}
theorem evS_bad {e : Expr} (h : ∀ ns loc, ev C e ns loc = M.bad) : EvS h₀ C n e := fun env ns loc σ ρ s A hA F i => by rw [h]; exact trivial
theorem srcS_value {e : Expr} (he : EvS h₀ C n e) (h : ∀ ns loc whole, src C e ns loc whole = (whole >>= srcV)) : SrcS h₀ C n e := fun env ns loc σ ρ s A hA F i => by
 rw [h]; exact src_value he hA F i
end
end Mine.Internal

set_option backward.match.sparseCases false
namespace Mine.Internal
open PySem PyProof.Rows
section
variable {prog : Program} {w : World} {M : Model} {A : Around} {E : Value → Shared → Prop} {h : Heap} {g : Array GenState} {d : Drawn} {t : Nat} {os : OsState} {a C : Addr} {o : Obj} {bm : List Value}
theorem excMatches_ok {D : Addr} {bm' : List Value} {Q : Bool → Shared → Prop} (x : XCls h C bm) (hx : h.get? a = some o) (hc : o.cls = .ref C) (y : XCls h D bm') (hin : (Value.ref C :: bm).contains (.ref D) = true) (hq : Q true ⟨h, g, d, t, os⟩) :
  wpAny M A (excMatches (.ref a) (.ref D)) Q E ⟨h, g, d, t, os⟩ := by
 have f := tc_notTuple
 have hB : (Value.ref D :: bm').contains (.type "BaseException") = true := y.has (by decide +kernel)
 obtain ⟨_, hD, _⟩ := y.obj
 unfold excMatches
 repeat (first | (with_reducible refine wpAny_loadPart_at hx ?_; rw [hc]) | with_reducible refine wpAny_loadPart_at hD ?_ | (with_reducible refine XCls.sub y ?_; rw [hB]) | (with_reducible refine XCls.sub x ?_; rw [hin]) | wp_step)
 exact hq
end
section
variable {h₀ : Bse} {A : Around} {W : List Addr} {ρ : Map} {s : Shared} {σ : Store} {fns : Str → Option Fn} {glob : Str → Option V} {ups : Str → Option (List Str)} {mg mb : Str → Option Value}
variable {env : Env} {ns : Names} {loc : Loc} {C : Cfg} {n : Nat}
theorem raise_one {c : Str} {a : Expr} {p q pos : Pos} (B : Base fns glob ups mg mb h₀.heap) (hups : C.ups = ups) (hA : Rm h₀ A n C.calm) (F : Frm h₀ env ns loc ρ s.heap) (i : Inv h₀ σ ρ s.heap) :
  Sim h₀ A (frameW env) (exec (.Raise (some (.Call (.Name c p) [a] [] q)) none pos) env) (raiseOf C ns c a σ) (RX h₀ env ns) ρ s := by
 unfold raiseOf
 cases textOf a with
 | none => exact trivial
 | some x =>
 obtain ⟨x, k, pp, rfl⟩ := x
 refine Sim.ite fun hc => ?_
 rw [Bool.and_eq_true, Bool.and_eq_true] at hc
 obtain ⟨hq, hg, hx⟩ := hc
 have hx : SOk x := of_decide_eq_true hx
 unfold raiseV
 cases hus : C.ups c with
 | none => exact trivial
 | some us =>
  rw [hups] at hus
  obtain ⟨K, bm, h1, X, _⟩ := B.cls c us hus
  obtain ⟨f, hC, mN, hN, hm⟩ := X.obj
  have T := X.tail
  refine wpAny_Raise_call_subT (C := K) (nm := f.nm) (q := f.q) (N := f.N) (bs := f.bs) (bm := bm) (hdct := f.hdct) (sn := f.sn) (sub := f.sub) (ab := f.ab) (col := f.col) (dd := f.dd) (k0 := f.k0) (k1 := f.k1) (k2 := f.k2) (k3 := f.k3) (k5 := f.k5) (mN := mN) PySem.F.excBase_ValueError (T.tail.hasType (by decide +kernel)) (hA.handled hq) (noStar (es := [.Constant (.str x) k pp]) (by intro e he v p; rw [List.mem_singleton.mp he]; exact nofun)).1 (hm _ (.head _)) (wp_global B F i hg h1 ⟨rfl, ?_⟩)
  have hev := ev_const (h₀ := h₀) (C := C) (n := n) (c := .str x) (k := k) (pos := pp) env ns loc σ ρ s A hA F i
  rw [show ev C (.Constant (.str x) k pp) ns loc σ = .ok (.str x) σ by show (if SOk x then (Pure.pure (V.str x) : M V) else M.bad) σ = _; rw [if_pos hx]; rfl] at hev
  refine Calls.evalArgs_plain (Calls.spliced_cons (wpAny_mono hev (fun v s₁ hp => Calls.spliced_nil ?_) fun ya yb f => f.elim))
  obtain ⟨ρ₁, H, tk, rfl, i₁, x₁, r₁⟩ := hp
  have kp := i₁.base
  refine ⟨rfl, by show (1 : Nat) ≤ sizeLine; decide, kp _ _ hC, hN.keeps kp, T.tail.keeps kp, fun h' e hme => ?_⟩
  obtain ⟨tt, h2, _⟩ := hme.there
  have hd0 : h₀.get? e = none := by
   cases q : h₀.get? e with
   | none => rfl
   | some ob => have := kp _ _ q; rw [hme.new] at this; cases this
  obtain ⟨i₂, x₂⟩ := i₁.new (W := frameW env) (o := .exc c []) (h' := h') hme.keeps hme.new ⟨rfl, K, _, _, ⟨mg, B.g, h1⟩, h2, rfl, rfl, rfl, ⟨by simp, .inl rfl⟩, hd0⟩
  refine ⟨_, h', tk, rfl, i₂, (x₁.weak fun ya hm => absurd hm List.not_mem_nil).trans x₂, σ.length, c, [], e, 0, rfl, ?_, rfl, ?_⟩
  ·rw [List.getElem?_append_right (Nat.le_refl _), Nat.sub_self]; rfl
  ·rw [← i₁.len, List.getElem?_append_right (Nat.le_refl _), Nat.sub_self]; rfl
theorem ex_raise {e c : Option Expr} {pos : Pos} (B : Base fns glob ups mg mb h₀.heap) (hups : C.ups = ups) : ExS h₀ C n (.Raise e c pos) := fun env ns loc σ ρ s A hA hf F i => by
 show Sim h₀ A _ _ (exRaise C ns e c σ) _ _ _
 cases e with
 | none => exact trivial
 | some e => cases c with
  | some _ => exact trivial
  | none =>
   show Sim h₀ A _ _ ((match madeOf e with | some q => raiseOf C ns q.1.1 q.1.2 | none => M.bad) σ) _ _ _
   cases madeOf e with
   | none => exact trivial
   | some q =>
    obtain ⟨⟨x, a⟩, p, r, rfl⟩ := q
    exact raise_one B hups hA F i
theorem Rm.mark {q : Bool} {v : Value} (h : Rm h₀ A n q) : Rm h₀ (A.mark (some v)) n false := ⟨nofun, h.depth, h.units, h.frames⟩
theorem dropLoc_get {i : Nat} {v : V} : (dropLoc loc)[i]? ≠ some (some v) := fun e => by
 unfold dropLoc at e
 rw [List.getElem?_map] at e
 cases h : loc[i]? with
 | none => rw [h] at e; cases e
 | some _ => rw [h] at e; cases e
theorem Frm.drop {H h' : Heap} {m : Str → Option Value} (F : Frm h₀ env ns loc ρ H) (i : Inv h₀ σ ρ H) (hf : ∀ b ∈ frameW env, h₀.get? b = none) (hn : h'.Ns env.locals m) (hs : Heap.SameBut env.locals H h') :
  Inv h₀ σ ρ h' ∧ Ext [env.locals] ρ H ρ h' ∧ Frm h₀ env ns (dropLoc loc) ρ h' := by
 have hk : ∀ b o, H.get? b = some o → b ∉ [env.locals] → h'.get? b = some o := fun b o e hb => hs.extBut b o (fun eq => hb (List.mem_singleton.mpr eq)) e
 have hx : Ext [env.locals] ρ H ρ h' := Ext.of_keep (fun b hm => by rw [List.mem_singleton.mp hm]; exact F.offL) hk fun b o e hm => by
  rw [List.mem_singleton.mp hm] at e ⊢
  obtain ⟨o', e', d'⟩ := ns_dict hn
  obtain ⟨_, hn₀, _⟩ := F.vars
  obtain ⟨o₁, e₁, d₁⟩ := ns_dict hn₀
  rw [e] at e₁; cases e₁
  exact ⟨o', e', kin_dict d₁ d'⟩
 refine ⟨i.keep hx (fun b hm => by rw [List.mem_singleton.mp hm]; exact ⟨F.offL, hf _ (List.mem_cons_self ..)⟩) hk, hx, ?_⟩
 exact {
  names := F.names
  kind := F.kind
  globals := F.globals
  blts := F.blts
  vars := ⟨m, hn, fun y j u ya h2 => absurd h2 dropLoc_get⟩
  cell := fun y j h1 => by
   obtain ⟨c, o, e, ⟨ob, hob, hd⟩, hv⟩ := F.cell y j h1
   exact ⟨c, o, e, ⟨ob, hk _ _ hob (fun hm => (F.offC y c e).1 (List.mem_singleton.mp hm)), hd⟩, fun u h2 => absurd h2 dropLoc_get⟩
  live := fun y c e => by
   obtain ⟨o, ob, hob, hd⟩ := F.live y c e
   exact ⟨o, ob, hk _ _ hob (fun hm => (F.offC y c e).1 (List.mem_singleton.mp hm)), hd⟩
  offL := F.offL
  offC := F.offC
  apart := F.apart
  top := F.top }
theorem RFl.sub {ρ' : Map} {h h' : Heap} {r : Fl} {f : Flow} (k : RFl ρ h r f) (x : Sub ρ h ρ' h') : RFl ρ' h' r f := by
 cases r with
 | ret v => obtain ⟨val, e, rv⟩ := k; exact ⟨val, e, rv.sub x⟩
 | _ => exact k
theorem try_clause {t : Str} {nm : Option Str} {b : Stmt} {bs : List Stmt} {q q' : Pos} {e : V} {ev : Value} (B : Base fns glob ups mg mb h₀.heap) (hups : C.ups = ups) (hns : NoShadow fns) {c : Bool} (hA : Rm h₀ A n c) (hf : ∀ b ∈ frameW env, h₀.get? b = none) (F : Frm h₀ env ns loc ρ s.heap) (i : Inv h₀ σ ρ s.heap) (re : RE σ e ev ρ s.heap)
  (hb : ExsS h₀ C.hush n (b :: bs)) (hg : isGlob ns t = true) (hut : (C.ups t).isSome = true) :
  Sim h₀ A (frameW env) (handleBy ev env [.ExceptHandler (some (.Name t q)) nm (b :: bs) q']) (clause C ns loc t nm (exs C.hush (b :: bs) ns) e σ) (RX h₀ env ns) ρ s := by
 obtain ⟨k, cl, fs, a, oe, vs, K, q1, ⟨dv, q2⟩, rfl, rfl, q5, q6, q7, _⟩ := re.at i
 rw [hups] at hut
 obtain ⟨ut, hut⟩ := Option.isSome_iff_exists.mp hut
 obtain ⟨D, bm', d1, Y, _⟩ := B.cls t ut hut
 have ex : excIs C t (.ref k) σ = Mine.Internal.ofOpt ((ups cl).map fun us => us.contains t) σ := by
  show (Mine.Internal.getO k >>= fun o => match o with | .exc c _ => Mine.Internal.ofOpt ((C.ups c).map fun us => us.contains t) | _ => M.bad) σ = _
  rw [hups]
  exact bind_ok (m := Mine.Internal.getO k) (a := .exc cl fs) (σ' := σ) (by rw [getO_eq, q1])
 cases hus : ups cl with
 | none =>
  rw [hus] at ex
  unfold clause
  rw [bind_bad ex]; exact trivial
 | some us =>
  rw [hus] at ex
  obtain ⟨K', bm, k1, X, _, k4⟩ := B.cls cl us hus
  rw [q7.at B.g] at k1; cases k1
  have hin := k4 t ut D hut d1
  cases hct : us.contains t with
  | false =>
   unfold clause
   rw [bind_ok (a := false) (σ' := σ) (by rw [ex, Option.map_some, hct]; rfl)]; exact trivial
  | true =>
   rw [hct] at hin
   have ec : clause C ns loc t nm (exs C.hush (b :: bs) ns) (.ref k) σ = (match nm with
     | none => M.safe (exs C.hush (b :: bs) ns loc)
     | some x => (stLocL ns x (.ref k) loc >>= fun loc' => M.safe (exs C.hush (b :: bs) ns loc') >>= fun r => pure (r.1, dropLoc r.2))) σ := by
    unfold clause
    rw [bind_ok (a := true) (σ' := σ) (by rw [ex, Option.map_some, hct]; rfl)]; rfl
   rw [ec]
   clear ec ex
   have X' := X.keeps i.base
   have Y' := Y.keeps i.base
   have go : ∀ {Q : Flow → Shared → Prop} {E : Value → Shared → Prop}, codeAny (model h₀.prog h₀.w) (A.mark (some (.ref a))) (.handlers (.ref a) [.ExceptHandler none nm (b :: bs) q'] env) (fun r s₂ => match r with
     | .ok f => (match nm with
      | none => Q f s₂
      | some n => wpAny (model h₀.prog h₀.w) A (do bindName env n .none; unbindBehindTheSuite env n q') (fun ya s₃ => Q f s₃) E s₂)
     | .error x => cameBackBy (model h₀.prog h₀.w) A env E x s₂) s → wpAny (model h₀.prog h₀.w) A (handleBy (.ref a) env [.ExceptHandler (some (.Name t q)) nm (b :: bs) q']) Q E s := fun hq => by
    refine wpAny_handleBy_cons (codeAny_handlers_test (wp_global B F i hg d1 ?_)) (by intro q; cases q)
    obtain ⟨hh, gg, dd, tt, os⟩ := s
    exact excMatches_ok X' q5 q6 Y' hin hq
   cases nm with
   | none =>
    have hbd := fun h' (x' : Ext [] ρ s.heap ρ h') i' => hb env ns loc σ ρ { s with heap := h' } (A.mark (some (.ref a))) (Rm.mark hA) hf (F.ext0 x') i'
    show Sim h₀ A (frameW env) _ (M.safe (exs C.hush (b :: bs) ns loc) σ) (RX h₀ env ns) ρ s
    rw [safe_eq]
    cases hr : exs C.hush (b :: bs) ns loc σ with
    | bad => exact trivial
    | exc _ _ => exact trivial
    | ok r σ₁ =>
     refine go (codeAny_handlers_suite (setFlight_ok i re fun h' i' x' ya => ?_))
     have h1 := hbd h' x' i'
     rw [hr] at h1
     refine wpAny_mono h1 (fun f s₂ hp => ?_) fun ya yb f => f.elim
     exact Post.after (tk := s.toks) (x'.weak fun ya hm => absurd hm List.not_mem_nil) hp
   | some x =>
    have S := stLocL_ok (h₀ := h₀) (env := env) (ns := ns) (hf _ (List.mem_cons_self ..))
    show Sim h₀ A (frameW env) _ ((stLocL ns x (.ref k) loc >>= fun loc' => M.safe (exs C.hush (b :: bs) ns loc') >>= fun r => pure (r.1, dropLoc r.2)) σ) (RX h₀ env ns) ρ s
    cases hst : stLocL ns x (.ref k) loc σ with
    | bad => rw [bind_bad hst]; exact trivial
    | exc _ _ => exact absurd hst (S.quiet _ _ _ _ _ _)
    | ok loc₁ σ₁ =>
     rw [bind_ok hst]
     have hsl : ∃ j, slot ns x = some (j, .local) := by
      unfold stLocL at hst
      cases h : slot ns x with
      | none => rw [h] at hst; cases hst
      | some p =>
       obtain ⟨j, kk⟩ := p
       rw [h] at hst
       cases kk with
       | «local» => exact ⟨j, rfl⟩
       | _ => cases hst
     obtain ⟨j, hsl⟩ := hsl
     cases hr : exs C.hush (b :: bs) ns loc₁ σ₁ with
     | bad => rw [bind_bad (by rw [safe_eq, hr])]; exact trivial
     | exc _ _ => rw [bind_bad (by rw [safe_eq, hr])]; exact trivial
     | ok r σ₂ =>
      rw [bind_ok (a := r) (σ' := σ₂) (by rw [safe_eq, hr])]
      refine go (codeAny_handlers_suite_as (setFlight_ok i re fun h' i' x' ya => ?_))
      have st := S.store x (.ref a) (.ref k) loc σ ρ { s with heap := h' } (A.mark (some (.ref a))) (F.ext0 x') i' (.ref q2)
      rw [hst] at st
      refine wpAny_mono st (fun ya s₁ hp => ?_) fun ya yb f => f.elim
      obtain ⟨ρ₁, H₁, tk₁, rfl, i₁, x₁, F₁⟩ := hp
      have h1 := hb env ns loc₁ σ₁ ρ₁ (At s H₁ tk₁) (A.mark (some (.ref a))) (Rm.mark hA) hf F₁ i₁
      rw [hr] at h1
      refine wpAny_mono h1 (fun f s₂ hp => ?_) fun ya yb f => f.elim
      obtain ⟨ρ₂, H₂, tk₂, rfl, i₂, x₂, rf, F₂⟩ := hp
      obtain ⟨m, hn, _⟩ := F₂.vars
      refine wpAny_nameGoes (F.kindOf hsl) hn (function_not_class F) fun h'' m' hn' hsb => ?_
      obtain ⟨i₃, x₃, F₃⟩ := F₂.drop i₂ hf hn' hsb
      have w1 : ∀ b ∈ [env.locals], b ∈ frameW env ∨ h''.get? b = none := fun b hm => .inl (by rw [List.mem_singleton.mp hm]; exact List.mem_cons_self ..)
      refine ⟨ρ₂, h'', tk₂ + 1, rfl, i₃, ?_, rf.sub x₃.sub, F₃⟩
      exact (((x'.weak fun ya hm => absurd hm List.not_mem_nil).trans (x₁.weak fun b hm => .inl (by rw [List.mem_singleton.mp hm]; exact List.mem_cons_self ..))).trans x₂).trans (x₃.weak fun b hm => .inl (by rw [List.mem_singleton.mp hm]; exact List.mem_cons_self ..))
structure TryOk (h₀ : Bse) (C : Cfg) (n : Nat) (body : List Stmt) (f : TryF) : Prop where
 run : ExsS h₀ C n body
 same : ∀ ns loc, exs C body ns loc = (ev C f.expr ns loc >>= tryEnd loc f)
 fly : ∀ (env : Env) (s : Shared) (A : Around) (E : Value → Shared → Prop), env.scope.kind = .function → wpAny (model h₀.prog h₀.w) A (eval f.expr env) (fun ya yb => False) E s → wpAny (model h₀.prog h₀.w) A (execs body env) (fun ya yb => False) E s
theorem tryOk_ret {e : Expr} {p : Pos} (he : EvS h₀ C n e) : TryOk h₀ C n [.Return (some e) p] (.ret e) where
 run := exs_cons (ex_return he) exs_nil
 same := fun ns loc => rfl
 fly := fun env s A E ya h => by
  rw [execs_cons, arm_exec_Return]
  exact wpAny_bind (wpAny_bind (wpAny_standAt (wpAny_bind (wpAny_mono h (fun ya yb f => f.elim) fun ya yb x => x))))
theorem tryOk_run {g : Expr} {as : List Expr} {q p : Pos} (he : EvS h₀ C n (.Call g as [] q)) : TryOk h₀ C n [.Expr (.Call g as [] q) p] (.run (.Call g as [] q)) where
 run := exs_cons (ex_expr he) exs_nil
 same := fun ns loc => rfl
 fly := fun env s A E hk h => by
  rw [execs_cons, arm_exec_Expr]
  have hi : interactive env = false := by unfold interactive; rw [hk]; rfl
  have hsw : swapsWith (.Call g as [] q) none p.line env = Pure.pure false := rfl
  rw [hi, hsw]
  refine wpAny_bind (wpAny_bind (wpAny_standAt ?_))
  show wpAny _ _ (eval (.Call g as [] q) env >>= fun v => PySem.dropValue (.Call g as [] q) p v) _ _ _
  exact wpAny_bind (wpAny_mono h (fun ya yb f => f.elim) fun ya yb x => x)
theorem tryOf_ok {body : List Stmt} {f : TryF} (h : tryOf body = some f) (he : EvS h₀ C n f.expr) : TryOk h₀ C n body f := by
 cases body with
 | nil => cases h
 | cons st r => cases r with
  | cons _ _ => cases h
  | nil =>
   obtain ⟨⟨g, k⟩, _, rfl⟩ := Option.map_eq_some_iff.mp (show (tryOne st).map (·.1) = some f from h)
   cases k with
   | ret e p => exact tryOk_ret he
   | run g as p q => exact tryOk_run he
structure OneH (C : Cfg) (hs : List ExceptHandler) (ns : Names) (loc : Loc) (e : V) (σ : Store) (t : Str) (q : Pos) (nm : Option Str) (b : Stmt) (bs : List Stmt) (q' : Pos) : Prop where
 eq : hs = [.ExceptHandler (some (.Name t q)) nm (b :: bs) q']
 glob : isGlob ns t = true
 ups : (C.ups t).isSome = true
 run : exH C hs ns loc e σ = clause C ns loc t nm (exs C.hush (b :: bs) ns) e σ
theorem exH_one {hs : List ExceptHandler} {e : V} (h : exH C hs ns loc e σ ≠ .bad) : ∃ t q nm b bs q', OneH C hs ns loc e σ t q nm b bs q' := by
 cases hs with
 | nil => exact absurd rfl h
 | cons x r =>
  obtain ⟨ty, nm, body, p⟩ := x
  cases r with
  | cons _ _ => cases ty <;> cases body <;> exact absurd rfl h
  | nil => cases ty with
   | none => exact absurd rfl h
   | some ty => cases body with
    | nil => exact absurd rfl h
    | cons b bs =>
     have e0 : exH C [.ExceptHandler (some ty) nm (b :: bs) p] ns loc e = (match nameIn ty with
      | some t => if (isGlob ns t.1 && (C.ups t.1).isSome) = true then clause C ns loc t.1 nm (exs C.hush (b :: bs) ns) e else M.bad
      | none => M.bad) := rfl
     cases hn : nameIn ty with
     | none => rw [e0, hn] at h; exact absurd rfl h
     | some t =>
      rw [hn] at e0
      rw [e0] at h
      obtain ⟨hc, e1⟩ := ite_bad h
      rw [Bool.and_eq_true] at hc
      obtain ⟨t, q, rfl⟩ := t
      exact ⟨t, q, nm, b, bs, p, rfl, hc.1, hc.2, by rw [e0]; exact e1⟩
theorem tryd_ok {α β : Type} {m : M α} {f : α → M β} {g : V → M β} {a : α} {σ' : Store} (h : m σ = .ok a σ') : M.tryd m f g σ = f a σ' := by rw [tryd_eq, h]
theorem tryd_exc {α β : Type} {m : M α} {f : α → M β} {g : V → M β} {e : V} {σ' : Store} (h : m σ = .exc e σ') : M.tryd m f g σ = g e σ' := by rw [tryd_eq, h]
theorem tryd_bad {α β : Type} {m : M α} {f : α → M β} {g : V → M β} (h : m σ = .bad) : M.tryd m f g σ = .bad := by rw [tryd_eq, h]
theorem ex_try {body els fin : List Stmt} {hs : List ExceptHandler} {pos : Pos} (B : Base fns glob ups mg mb h₀.heap) (hups : C.ups = ups) (hns : NoShadow fns) (hev : ∀ f, tryOf body = some f → EvS h₀ C n f.expr) (hh : ∀ x ∈ hs, ExsS h₀ C.hush n (match x with | .ExceptHandler _ _ b _ => b)) :
  ExS h₀ C n (.Try body hs els fin pos) := fun env ns loc σ ρ s A hA hf F i => by
 show Sim h₀ A (frameW env) _ ((if (C.calm && (els.isEmpty && (fin.isEmpty && !hs.isEmpty))) = true then (match tryOf body with
  | some f => M.tryd (ev C f.expr ns loc) (tryEnd loc f) (exH C hs ns loc)
  | none => M.bad) else M.bad) σ) (RX h₀ env ns) ρ s
 refine Sim.ite fun hc => ?_
 simp only [Bool.and_eq_true, List.isEmpty_iff, Bool.not_eq_true'] at hc
 obtain ⟨hq, rfl, rfl, hne⟩ := hc
 cases hb : tryOf body with
 | none => exact trivial
 | some f =>
  have T := tryOf_ok hb (hev f hb)
  have h1 := T.run env ns loc σ ρ s A hA hf F i
  rw [T.same] at h1
  cases hs with
  | nil => cases hne
  | cons y ys =>
   show Sim h₀ A (frameW env) _ (M.tryd (ev C f.expr ns loc) (tryEnd loc f) (exH C (y :: ys) ns loc) σ) (RX h₀ env ns) ρ s
   cases hr : ev C f.expr ns loc σ with
   | bad => rw [tryd_bad hr]; exact trivial
   | ok v σ₁ =>
    rw [bind_ok hr] at h1
    rw [tryd_ok hr]
    have : ∃ r, tryEnd loc f v σ₁ = .ok r σ₁ := by cases f <;> exact ⟨_, rfl⟩
    obtain ⟨r, hr⟩ := this
    rw [hr] at h1 ⊢
    refine wpAny_Try_except (wpAny_mono h1 (fun f s₁ hp => ?_) fun ya yb f => f.elim)
    cases f with
    | next => exact wpAny_execs_nil hp
    | brk => exact hp
    | cont => exact hp
    | ret v => exact hp
   | exc e σ₁ =>
    have h1 := hev f hb env ns loc σ ρ s A hA F i
    rw [hr] at h1
    rw [tryd_exc hr]
    by_cases hbad : exH C (y :: ys) ns loc e σ₁ = .bad
    ·rw [hbad]; exact trivial
    ·obtain ⟨t, q, nm, b, bs, q', O⟩ := exH_one hbad
     rw [O.run]
     have hg := O.glob
     have hut := O.ups
     have eq := O.eq
     clear O hbad
     have hbd := hh y (List.mem_cons_self ..)
     cases eq
     have fly : ∀ {Q : Flow → Shared → Prop} {E : Value → Shared → Prop}, (∀ ev ρ₁ H tk, Ext (frameW env) ρ s.heap ρ₁ H → Sim h₀ A (frameW env) (handleBy ev env [.ExceptHandler (some (.Name t q)) nm (b :: bs) q']) (clause C ns loc t nm (exs C.hush (b :: bs) ns) e σ₁) (RX h₀ env ns) ρ₁ (At s H tk) → wpAny (model h₀.prog h₀.w) A (handleBy ev env [.ExceptHandler (some (.Name t q)) nm (b :: bs) q']) Q E (At s H tk)) →
       wpAny (model h₀.prog h₀.w) A (exec (.Try body [.ExceptHandler (some (.Name t q)) nm (b :: bs) q'] [] [] pos) env) Q E s := fun hq => by
      refine wpAny_Try_except (wpAny_mono (T.fly env s A _ F.kind h1) (fun ya yb f => f.elim) fun ev s₁ hp => ?_)
      obtain ⟨ρ₁, H, tk, rfl, i₁, x₁, re⟩ := hp
      refine note_ok (s := (At s H tk)) hA F.top i₁ re fun h' i' x' ya => ?_
      refine setFlight_ok (s := (At s h' tk)) i' re fun h'' i'' x'' ya => ?_
      have x3 := x'.trans x''
      have x4 := x₁.trans x3
      exact hq ev ρ₁ h'' tk (x4.weak fun ya hm => absurd hm List.not_mem_nil) (try_clause (s := (At s h'' tk)) B hups hns hA hf (F.ext0 x4) i'' re hbd hg hut)
     cases h2 : clause C ns loc t nm (exs C.hush (b :: bs) ns) e σ₁ with
     | bad => exact trivial
     | exc _ _ => exact fly fun ev ρ₁ H tk x hs => by rw [h2] at hs; exact wpAny_mono hs (fun ya yb f => f) fun ya yb hp => hp.after x
     | ok d σ₂ => exact fly fun ev ρ₁ H tk x hs => by rw [h2] at hs; exact wpAny_mono hs (fun ya yb hp => hp.after x) fun ya yb f => f
end
end Mine.Internal

set_option backward.match.sparseCases false
namespace Mine.Internal
open PySem PyProof.Rows
section
variable {h₀ : Bse} {fns : Str → Option Fn} {glob : Str → Option V} {ups : Str → Option (List Str)} {mg mb : Str → Option Value} {C : Cfg} {n : Nat}
structure Al (h₀ : Bse) (C : Cfg) (n : Nat) (e : Expr) : Prop where
 ev : EvS h₀ C n e
 tst : TstS h₀ C n e
 src : SrcS h₀ C n e
 comp : CompS h₀ C n e
 slice : ∀ lo hi q, e = .Slice lo hi none q → EvOptS h₀ C n lo ∧ EvOptS h₀ C n hi
 attr : ∀ o m q, e = .Attribute o m q → EvS h₀ C n o
structure Hyp (h₀ : Bse) (fns : Str → Option Fn) (glob : Str → Option V) (ups : Str → Option (List Str)) (mg mb : Str → Option Value) (C : Cfg) (n : Nat) : Prop where
 B : Base fns glob ups mg mb h₀.heap
 fn : ∀ f, C.isFn f = (fns f).isSome
 glob : C.glob = glob
 ns : NoShadow fns
 call : CallS h₀ mg C n
 ups : C.ups = ups
 quiet : CallS h₀ mg C.hush n
theorem Hyp.hush (H : Hyp h₀ fns glob ups mg mb C n) : Hyp h₀ fns glob ups mg mb C.hush n := ⟨H.B, H.fn, H.glob, H.ns, H.quiet, H.ups, H.quiet⟩
theorem evsS_of : ∀ {es : List Expr}, (∀ e ∈ es, EvS h₀ C n e) → EvsS h₀ C n es
 | [], _ => evs_nil
 | e :: r, h => evs_cons (h e (List.mem_cons_self ..)) (evsS_of fun e he => h e (List.mem_cons_of_mem _ he))
theorem evBoolS_of : ∀ {es : List Expr}, (∀ e ∈ es, EvS h₀ C n e) → EvBoolS h₀ C n es
 | [], _ => evBool_nil
 | e :: r, h => evBool_cons (h e (List.mem_cons_self ..)) (evBoolS_of fun e he => h e (List.mem_cons_of_mem _ he))
theorem tstAllS_of : ∀ {es : List Expr}, (∀ e ∈ es, TstS h₀ C n e) → TstAllS h₀ C n es
 | [], _ => tstAll_nil
 | e :: r, h => tstAll_cons (h e (List.mem_cons_self ..)) (tstAllS_of fun e he => h e (List.mem_cons_of_mem _ he))
theorem testsS_of : ∀ {es : List Expr}, (∀ e ∈ es, TstS h₀ C n e) → TestsS h₀ C n es
 | [], _ => tests_nil
 | [e], h => tests_one (h e (List.mem_cons_self ..))
 | _ :: _ :: _, _ => tests_more
theorem nameOf_is {b : Expr} {t : Str} (h : nameOf b = some t) : ∃ q, b = .Name t q := by
 obtain ⟨⟨_, hq⟩, _, rfl⟩ := Option.map_eq_some_iff.mp h
 exact hq
theorem isiS_of (B : Base fns glob ups mg mb h₀.heap) (hups : C.ups = ups) (hns : NoShadow fns) : ∀ {es : List Expr}, (∀ e ∈ es, EvS h₀ C n e) → IsiS h₀ C n es
 | [], _ => fun ya yb yc yd ye yf yg yh yi yj yk yl ym yn yo yp => trivial
 | [_], _ => fun ya yb yc yd ye yf yg yh yi yj yk yl ym yn yo yp => trivial
 | [a, b], h => by
  intro f p pos env ns loc σ ρ s A hA F i hf hi hst
  show Sim h₀ A [] _ ((match nameOf b with | some t => if isGlob ns t = true then (ev C a ns loc >>= fun v => isiV C t v) else M.bad | none => M.bad) σ) RV ρ s
  cases hb : nameOf b with
  | none => exact trivial
  | some t =>
   obtain ⟨q, rfl⟩ := nameOf_is hb
   exact Sim.ite fun ht => ev_isinstance B hups hns (h a (List.mem_cons_self ..)) hA F i hf hi (by simpa using List.all_eq_true.mp hst a (List.mem_cons_self ..)) ht
 | _ :: _ :: _ :: _, _ => fun ya yb yc yd ye yf yg yh yi yj yk yl ym yn yo yp => trivial
theorem kw_cases (f : Expr) (as : List Expr) (k : Keyword) (ks : List Keyword) (p : Pos) : (∃ x q a, f = .Name x q ∧ as = [a] ∧ ks = []) ∨ ∀ (C : Cfg) (ns : Names) (loc : Loc), ev C (.Call f as (k :: ks) p) ns loc = M.bad := by
 cases f with
 | Name x q =>
  cases ks with
  | cons _ _ => exact .inr fun ya yb yc => by cases as with
   | nil => rfl
   | cons a r => cases r <;> rfl
  | nil =>
   cases as with
   | nil => exact .inr fun ya yb yc => rfl
   | cons a r =>
    cases r with
    | cons _ _ => exact .inr fun ya yb yc => rfl
    | nil => exact .inl ⟨x, q, a, rfl, rfl, rfl⟩
 | _ => exact .inr fun ya yb yc => rfl
theorem noComp {e : Expr} (h : isCompE e = false) : CompS h₀ C n e := fun elt t it ifs sc p e' => by rw [e'] at h; cases h
theorem noSlice {e : Expr} (h : isSliceE e = false) : ∀ lo hi q, e = .Slice lo hi none q → EvOptS h₀ C n lo ∧ EvOptS h₀ C n hi := fun lo hi q e' => by rw [e'] at h; cases h
theorem noAttr {e : Expr} (h : isAttrE e = false) : ∀ o m q, e = .Attribute o m q → EvS h₀ C n o := fun o m q e' => by rw [e'] at h; cases h
theorem Al.plain {e : Expr} (he : EvS h₀ C n e) (h1 : ∀ (ns : Names) (loc : Loc) (whole : M V), Mine.Internal.tst C e ns loc whole = (whole >>= fun v => truth v)) (h2 : ∀ (env : Env) (whole : Sem Value), isTrue e env whole = (do let v ← whole; standAt e.pos; holding [v] (truthy v)))
  (h3 : ∀ ns loc whole, Mine.Internal.src C e ns loc whole = (whole >>= srcV)) (h4 : isCompE e = false) (h5 : isSliceE e = false) (h6 : isAttrE e = false) : Al h₀ C n e where
 ev := he
 tst := tst_value he h1 h2
 src := srcS_value he h3
 comp := noComp h4
 slice := noSlice h5
 attr := noAttr h6
theorem tst_bad {e : Expr} (h : ∀ ns loc, Mine.Internal.ev C e ns loc = M.bad) (h1 : ∀ (ns : Names) (loc : Loc) (whole : M V), Mine.Internal.tst C e ns loc whole = (whole >>= fun v => truth v)) : TstS h₀ C n e := fun env ns loc σ ρ s A hA F i => by
 rw [h1, h]; exact trivial
theorem Al.nothing {e : Expr} (h : ∀ ns loc, Mine.Internal.ev C e ns loc = M.bad) (h1 : ∀ (ns : Names) (loc : Loc) (whole : M V), Mine.Internal.tst C e ns loc whole = (whole >>= fun v => truth v))
  (h3 : ∀ ns loc whole, Mine.Internal.src C e ns loc whole = (whole >>= srcV)) (h4 : isCompE e = false) (h5 : isSliceE e = false) (h6 : isAttrE e = false) : Al h₀ C n e where
 ev := evS_bad h
 tst := tst_bad h h1
 src := srcS_value (evS_bad h) h3
 comp := noComp h4
 slice := noSlice h5
 attr := noAttr h6
mutual
theorem al_ok (H : Hyp h₀ fns glob ups mg mb C n) : ∀ e : Expr, Al h₀ C n e
 | .Constant c k p => .plain ev_const (fun ya yb yc => rfl) (fun ya yb => rfl) (fun ya yb yc => rfl) rfl rfl rfl
 | .Name x p => .plain (fun env ns loc σ ρ s A hA F i => Sim.name H.B H.glob F i) (fun ya yb yc => rfl) (fun ya yb => rfl) (fun ya yb yc => rfl) rfl rfl rfl
 | .BinOp l op r p => .plain (ev_binop (al_ok H l).ev (al_ok H r).ev) (fun ya yb yc => rfl) (fun ya yb => rfl) (fun ya yb yc => rfl) rfl rfl rfl
 | .UnaryOp op x p => by
  have hx := al_ok H x
  cases op with
  | Not => exact ⟨ev_not hx.ev, tst_not hx.tst, srcS_value (ev_not hx.ev) (fun ya yb yc => rfl), noComp rfl, noSlice rfl, noAttr rfl⟩
  | USub =>
   cases h : intIn x with
   | some i => obtain ⟨i, c, q, rfl⟩ := i; exact .plain ev_usub (fun ya yb yc => rfl) (fun ya yb => rfl) (fun ya yb yc => rfl) rfl rfl rfl
   | none => exact .nothing (fun ya yb => by show (match intIn x with | some i => (Pure.pure (V.int (-i.1)) : M V) | none => M.bad) = M.bad; rw [h]) (fun ya yb yc => rfl) (fun ya yb yc => rfl) rfl rfl rfl
  | _ => exact .nothing (fun ya yb => rfl) (fun ya yb yc => rfl) (fun ya yb yc => rfl) rfl rfl rfl
 | .BoolOp op vs p => by
  have hv := als_ok H vs
  have he : EvS h₀ C n (.BoolOp op vs p) := ev_boolop (evBoolS_of fun e he => (hv e he).ev)
  exact ⟨he, tst_boolop (tstAllS_of fun e he => (hv e he).tst), srcS_value he (fun ya yb yc => rfl), noComp rfl, noSlice rfl, noAttr rfl⟩
 | .Compare l ops rs p => by
  have hl := al_ok H l
  have hr := als_ok H rs
  match ops, rs with
  | [op], [r] =>
   have he : EvS h₀ C n (.Compare l [op] [r] p) := ev_compare hl.ev (hr r (List.mem_cons_self ..)).ev
   exact ⟨he, tst_compare hl.ev (hr r (List.mem_cons_self ..)).ev, srcS_value he (fun ya yb yc => rfl), noComp rfl, noSlice rfl, noAttr rfl⟩
  | [], _ => exact .nothing (fun ya yb => rfl) (fun ya yb yc => rfl) (fun ya yb yc => rfl) rfl rfl rfl
  | [op, op2], [m, r] =>
   have h1 := (hr m (List.mem_cons_self ..)).ev
   have h2 := (hr r (List.mem_cons_of_mem _ (List.mem_cons_self ..))).ev
   have he : EvS h₀ C n (.Compare l [op, op2] [m, r] p) := ev_chain hl.ev h1 h2
   exact ⟨he, tst_chain hl.ev h1 h2, srcS_value he (fun ya yb yc => rfl), noComp rfl, noSlice rfl, noAttr rfl⟩
  | [_], [] | [_], _ :: _ :: _ | [_, _], [] | [_, _], [_] | [_, _], _ :: _ :: _ :: _ | _ :: _ :: _ :: _, _ => exact .nothing (fun ya yb => rfl) (fun ya yb yc => rfl) (fun ya yb yc => rfl) rfl rfl rfl
 | .IfExp t a b p => by
  have ht := al_ok H t
  have ha := al_ok H a
  have hb := al_ok H b
  have he : EvS h₀ C n (.IfExp t a b p) := ev_ifexp ht.tst ha.ev hb.ev
  exact ⟨he, tst_ifexp ht.tst ha.tst hb.tst, srcS_value he (fun ya yb yc => rfl), noComp rfl, noSlice rfl, noAttr rfl⟩
 | .Slice lo hi st p => ⟨evS_bad fun ya yb => rfl, tst_bad (fun ya yb => rfl) (fun ya yb yc => rfl), srcS_value (evS_bad fun ya yb => rfl) (fun ya yb yc => rfl), noComp rfl, by
   have hlo := opt_ok H lo
   have hhi := opt_ok H hi
   intro lo' hi' q e
   cases e
   exact ⟨hlo, hhi⟩, noAttr rfl⟩
 | .Subscript o i p => by
  have ho := al_ok H o
  have hi := al_ok H i
  have he : EvS h₀ C n (.Subscript o i p) := by
   cases i with
   | Slice lo hi' st q =>
    cases st with
    | none => obtain ⟨h1, h2⟩ := hi.slice lo hi' q rfl; exact ev_slice ho.ev h1 h2
    | some st => exact ev_sub ho.ev hi.ev (fun ya yb => rfl)
   | _ => exact ev_sub ho.ev hi.ev (fun ya yb => rfl)
  exact .plain he (fun ya yb yc => rfl) (fun ya yb => rfl) (fun ya yb yc => rfl) rfl rfl rfl
 | .List es p => .plain (ev_list (evsS_of fun e he => (als_ok H es e he).ev)) (fun ya yb yc => rfl) (fun ya yb => rfl) (fun ya yb yc => rfl) rfl rfl rfl
 | .Tuple es k p => .plain (ev_tuple (evsS_of fun e he => (als_ok H es e he).ev)) (fun ya yb yc => rfl) (fun ya yb => rfl) (fun ya yb yc => rfl) rfl rfl rfl
 | .Attribute o m p => ⟨evS_bad fun ya yb => rfl, tst_bad (fun ya yb => rfl) (fun ya yb yc => rfl), srcS_value (evS_bad fun ya yb => rfl) (fun ya yb yc => rfl), noComp rfl, noSlice rfl, by
   have ho := al_ok H o
   intro o' m' q e
   cases e
   exact ho.ev⟩
 | .Call f as ks p => by
  have hf := al_ok H f
  have has := als_ok H as
  cases ks with
  | cons k ks =>
   have hsr : ∀ ns loc whole, Mine.Internal.src C (.Call f as (k :: ks) p) ns loc whole = (whole >>= srcV) := fun ns loc whole => by cases f <;> rfl
   rcases kw_cases f as k ks p with ⟨x, q, a, rfl, rfl, rfl⟩ | hb
   ·exact .plain (ev_max H.B H.fn (has a (List.mem_cons_self ..)).ev) (fun ya yb yc => rfl) (fun ya yb => rfl) hsr rfl rfl rfl
   ·exact .nothing (hb C) (fun ya yb yc => rfl) hsr rfl rfl rfl
  | nil =>
   cases f with
   | Name x q =>
    have he : EvS h₀ C n (.Call (.Name x q) as [] p) := ev_callName H.B H.fn H.call (evsS_of fun e he => (has e he).ev) (isiS_of H.B H.ups H.ns fun e he => (has e he).ev)
    exact ⟨he, tst_value he (fun ya yb yc => rfl) (fun ya yb => rfl), src_call H.B H.fn he (fun e he => (has e he).ev), noComp rfl, noSlice rfl, noAttr rfl⟩
   | Attribute o m q =>
    have he : EvS h₀ C n (.Call (.Attribute o m q) as [] p) := ev_callMeth (hf.attr o m q rfl) (evsS_of fun e he => (has e he).ev)
    exact .plain he (fun ya yb yc => rfl) (fun ya yb => rfl) (fun ya yb yc => rfl) rfl rfl rfl
   | _ => exact .nothing (fun ya yb => rfl) (fun ya yb yc => rfl) (fun ya yb yc => rfl) rfl rfl rfl
 | .ListComp elt gens scope p => by
  have he := al_ok H elt
  have hg := gens_ok H gens
  have hc : CompS h₀ C n (.ListComp elt gens scope p) := fun elt' t' it' ifs' sc' p' e => by
   cases e
   obtain ⟨h1, h2⟩ := hg _ (List.mem_cons_self ..)
   exact ⟨h1, h2, he.ev⟩
  have hev : EvS h₀ C n (.ListComp elt gens scope p) := by
   rcases comp_cases gens with ⟨t, it, ifs, rfl⟩ | hbad
   ·obtain ⟨h1, h2⟩ := hg _ (List.mem_cons_self ..)
    exact ev_listcomp h1 h2 he.ev
   ·exact evS_bad fun ns loc => hbad C elt scope p ns loc
  exact ⟨hev, tst_value hev (fun ya yb yc => rfl) (fun ya yb => rfl), srcS_value hev (fun ya yb yc => rfl), hc, noSlice rfl, noAttr rfl⟩
 | .NamedExpr _ _ _ => .nothing (fun ya yb => rfl) (fun ya yb yc => rfl) (fun ya yb yc => rfl) rfl rfl rfl
 | .Lambda _ _ _ _ => .nothing (fun ya yb => rfl) (fun ya yb yc => rfl) (fun ya yb yc => rfl) rfl rfl rfl
 | .Dict ks vs p => by
  match ks, vs with
  | [], [] => exact .plain (ev_dict0 H.B.nolimit) (fun ya yb yc => rfl) (fun ya yb => rfl) (fun ya yb yc => rfl) rfl rfl rfl
  | [], _ :: _ | _ :: _, _ => exact .nothing (fun ya yb => rfl) (fun ya yb yc => rfl) (fun ya yb yc => rfl) rfl rfl rfl
 | .Set _ _ _ => .nothing (fun ya yb => rfl) (fun ya yb yc => rfl) (fun ya yb yc => rfl) rfl rfl rfl
 | .SetComp _ _ _ _ => .nothing (fun ya yb => rfl) (fun ya yb yc => rfl) (fun ya yb yc => rfl) rfl rfl rfl
 | .DictComp _ _ _ _ _ => .nothing (fun ya yb => rfl) (fun ya yb yc => rfl) (fun ya yb yc => rfl) rfl rfl rfl
 | .GeneratorExp _ _ _ _ => .nothing (fun ya yb => rfl) (fun ya yb yc => rfl) (fun ya yb yc => rfl) rfl rfl rfl
 | .Await _ _ => .nothing (fun ya yb => rfl) (fun ya yb yc => rfl) (fun ya yb yc => rfl) rfl rfl rfl
 | .Yield _ _ => .nothing (fun ya yb => rfl) (fun ya yb yc => rfl) (fun ya yb yc => rfl) rfl rfl rfl
 | .YieldFrom _ _ => .nothing (fun ya yb => rfl) (fun ya yb yc => rfl) (fun ya yb yc => rfl) rfl rfl rfl
 | .FormattedValue _ _ _ _ => .nothing (fun ya yb => rfl) (fun ya yb yc => rfl) (fun ya yb yc => rfl) rfl rfl rfl
 | .JoinedStr _ _ => .nothing (fun ya yb => rfl) (fun ya yb yc => rfl) (fun ya yb yc => rfl) rfl rfl rfl
 | .Starred _ _ => .nothing (fun ya yb => rfl) (fun ya yb yc => rfl) (fun ya yb yc => rfl) rfl rfl rfl
theorem als_ok (H : Hyp h₀ fns glob ups mg mb C n) : ∀ es : List Expr, ∀ e ∈ es, Al h₀ C n e
 | [] => fun ya hm => absurd hm List.not_mem_nil
 | e :: r => fun e' hm => by
  have h1 := al_ok H e
  have h2 := als_ok H r
  rcases List.mem_cons.mp hm with rfl | hm
  ·exact h1
  ·exact h2 e' hm
theorem opt_ok (H : Hyp h₀ fns glob ups mg mb C n) : ∀ o : Option Expr, EvOptS h₀ C n o
 | none => evOpt_none
 | some e => evOpt_some (al_ok H e).ev
theorem gens_ok (H : Hyp h₀ fns glob ups mg mb C n) : ∀ gs : List Comprehension, ∀ g ∈ gs, SrcS h₀ C n g.iter ∧ TestsS h₀ C n g.ifs
 | [] => fun ya hm => absurd hm List.not_mem_nil
 | ⟨t, it, ifs, k⟩ :: r => fun g hm => by
  have h1 := al_ok H it
  have h2 := als_ok H ifs
  have h3 := gens_ok H r
  rcases List.mem_cons.mp hm with rfl | hm
  ·exact ⟨h1.src, testsS_of fun e he => (h2 e he).tst⟩
  ·exact h3 g hm
end
theorem ex_assign {ts : List Expr} {v : Expr} {p : Pos} (hv : Al h₀ C n v) (hh : ∀ e, Al h₀ C n e) : ExS h₀ C n (.Assign ts v p) := by
 cases h : oneIn ts with
 | none =>
  intro env ns loc σ ρ s A hA hf F i
  show Sim h₀ A (frameW env) _ ((match oneIn ts with | some t => exAsg C t.1 v ns loc | none => M.bad) σ) (RX h₀ env ns) ρ s
  rw [h]; exact trivial
 | some t =>
  obtain ⟨t, rfl⟩ := t
  cases h1 : nameIn t with
  | some x => obtain ⟨x, q, rfl⟩ := x; exact ex_assignName hv.ev hv.comp
  | none =>
   cases h2 : subIn t with
   | some q => obtain ⟨⟨o, i, q⟩, rfl⟩ := q; exact ex_assignSub hv.ev (hh o).ev (hh i).ev
   | none =>
    intro env ns loc σ ρ s A hA hf F i
    show Sim h₀ A (frameW env) _ (exAsg C t v ns loc σ) (RX h₀ env ns) ρ s
    rw [exAsg_none h1 h2]; exact trivial
mutual
theorem ex_ok : ∀ (st : Stmt) {C : Cfg} (H : Hyp h₀ fns glob ups mg mb C n), ExS h₀ C n st
 | .Expr e p, _, H => ex_exprs (al_ok H e).ev
 | .Pass p, _, _ => ex_pass
 | .Return none p, _, _ => ex_return0
 | .Return (some e) p, _, H => ex_return (al_ok H e).ev
 | .Assign ts v p, _, H => ex_assign (al_ok H v) (al_ok H)
 | .If t a b p, _, H => ex_if (al_ok H t).tst (exs_ok a H) (exs_ok b H)
 | .For t it body els p, _, H => by
  have h1 := al_ok H it
  have h2 := exs_ok body H
  cases els with
  | nil => exact ex_for h1.src h2
  | cons _ _ => exact fun env ns loc σ ρ s A hA hf F i => trivial
 | .FunctionDef .., _, _ => fun env ns loc σ ρ s A hA hf F i => trivial
 | .AsyncFunctionDef .., _, _ => fun env ns loc σ ρ s A hA hf F i => trivial
 | .ClassDef .., _, _ => fun env ns loc σ ρ s A hA hf F i => trivial
 | .Delete .., _, _ => fun env ns loc σ ρ s A hA hf F i => trivial
 | .TypeAlias .., _, _ => fun env ns loc σ ρ s A hA hf F i => trivial
 | .AugAssign .., _, _ => fun env ns loc σ ρ s A hA hf F i => trivial
 | .AnnAssign .., _, _ => fun env ns loc σ ρ s A hA hf F i => trivial
 | .AsyncFor .., _, _ => fun env ns loc σ ρ s A hA hf F i => trivial
 | .While .., _, _ => fun env ns loc σ ρ s A hA hf F i => trivial
 | .With .., _, _ => fun env ns loc σ ρ s A hA hf F i => trivial
 | .AsyncWith .., _, _ => fun env ns loc σ ρ s A hA hf F i => trivial
 | .Match .., _, _ => fun env ns loc σ ρ s A hA hf F i => trivial
 | .Raise .., _, H => ex_raise H.B H.ups
 | .Try body hs els fin p, _, H => ex_try H.B H.ups H.ns (fun f ya => (al_ok H f.expr).ev) (hands_ok hs H.hush)
 | .TryStar .., _, _ => fun env ns loc σ ρ s A hA hf F i => trivial
 | .Assert .., _, _ => fun env ns loc σ ρ s A hA hf F i => trivial
 | .Import .., _, _ => fun env ns loc σ ρ s A hA hf F i => trivial
 | .ImportFrom .., _, _ => fun env ns loc σ ρ s A hA hf F i => trivial
 | .Global .., _, _ => fun env ns loc σ ρ s A hA hf F i => trivial
 | .Nonlocal .., _, _ => fun env ns loc σ ρ s A hA hf F i => trivial
 | .Break .., _, _ => fun env ns loc σ ρ s A hA hf F i => trivial
 | .Continue .., _, _ => fun env ns loc σ ρ s A hA hf F i => trivial
theorem exs_ok : ∀ (sts : List Stmt) {C : Cfg} (H : Hyp h₀ fns glob ups mg mb C n), ExsS h₀ C n sts
 | [], _, _ => exs_nil
 | st :: r, _, H => exs_cons (ex_ok st H) (exs_ok r H)
theorem hands_ok : ∀ (hs : List ExceptHandler) {C : Cfg} (H : Hyp h₀ fns glob ups mg mb C n), ∀ x ∈ hs, ExsS h₀ C n (match x with | .ExceptHandler _ _ b _ => b)
 | [], _, _ => fun ya hm => absurd hm List.not_mem_nil
 | .ExceptHandler t nm b p :: r, _, H => fun x hm => by
  have h1 := exs_ok b H
  have h2 := hands_ok r H
  rcases List.mem_cons.mp hm with rfl | hm
  ·exact h1
  ·exact h2 x hm
end
end
end Mine.Internal

set_option backward.match.sparseCases false
namespace Mine.Internal
open PySem PyProof.Rows
theorem cellsFrom_some {x : Str} : ∀ (names : Names) (n : Nat) (acc : List (Str × Addr)), names.lookup x = some .cell ∨ (acc.lookup x).isSome = true → ((cellsFrom n names acc).lookup x).isSome = true
 | [], _, _, h => by
  rcases h with h | h
  ·cases h
  ·exact h
 | (y, k) :: r, n, acc, h => by
  unfold cellsFrom
  by_cases hk : (k == NameKind.cell) = true
  ·rw [if_pos hk]
   refine cellsFrom_some r (n + 1) _ ?_
   cases hxy : x == y with
   | true => right; rw [List.lookup_cons, hxy]; rfl
   | false =>
    rcases h with h | h
    ·left; rw [List.lookup_cons, hxy] at h; exact h
    ·right; rw [List.lookup_cons, hxy]; exact h
  ·rw [if_neg hk]
   refine cellsFrom_some r n acc ?_
   rcases h with h | h
   ·cases hxy : x == y with
    | true => rw [List.lookup_cons, hxy] at h; cases h; exact absurd rfl hk
    | false => left; rw [List.lookup_cons, hxy] at h; exact h
   ·exact .inr h
theorem initLoc_get {params : List Str} {args : List V} {x : Str} : ∀ {names : Names} {i j : Nat} {k : NameKind}, slotGo names x i = some (j, k) → i ≤ j ∧ (initLoc params args names)[j - i]? = some ((params.zip args).lookup x)
 | [], _, _, _, h => by cases h
 | (y, k') :: r, i, j, k, h => by
  unfold slotGo at h
  split at h
  ·rename_i e
   cases h
   rw [beq_iff_eq.mp e]
   exact ⟨Nat.le_refl _, by rw [Nat.sub_self]; rfl⟩
  ·obtain ⟨h1, h2⟩ := initLoc_get (params := params) (args := args) h
   refine ⟨Nat.le_of_succ_le h1, ?_⟩
   rw [sub_step h1]
   exact h2
section
variable {ρ : Map} {h : Heap}
theorem zip_lookup {x : Str} {params : List Str} {vals : List Value} {args : List V} {a : V} (r : RelAll ρ h vals args) : (params.zip args).lookup x = some a → ∃ v, (params.zip vals).lookup x = some v ∧ Rel ρ h v a := by
 induction r using RelAll.ind generalizing params with
 | h0 => intro e; rw [List.zip_nil_right] at e; cases e
 | h1 r rs ih =>
  intro e
  cases params with
  | nil => cases e
  | cons p ps =>
   rw [List.zip_cons_cons, List.lookup_cons] at e ⊢
   cases hx : x == p with
   | true => rw [hx] at e; cases e; exact ⟨_, rfl, r⟩
   | false => rw [hx] at e; exact ih e
end
theorem bindL_out {kindOf : Str → Option NameKind} {x : Str} : ∀ {binds : List (Str × Value)} {m : Str → Option Value}, (∀ p ∈ binds, p.1 ≠ x) → bindL kindOf binds m x = m x
 | [], _, _ => rfl
 | (y, v) :: r, m, h => by
  unfold bindL
  rw [bindL_out fun p hp => h p (List.mem_cons_of_mem _ hp)]
  split
  ·exact if_neg fun e => h (y, v) (List.mem_cons_self ..) e.symm
  ·rfl
theorem bindL_in {kindOf : Str → Option NameKind} {x : Str} {v : Value} (hk : kindOf x = some .local) : ∀ {binds : List (Str × Value)} {m : Str → Option Value}, (binds.map (·.1)).Nodup → binds.lookup x = some v → bindL kindOf binds m x = some v
 | [], _, _, h => by cases h
 | (y, u) :: r, m, hn, h => by
  unfold bindL
  rw [List.lookup_cons] at h
  rw [List.map_cons, List.nodup_cons] at hn
  cases hx : x == y with
  | true =>
   rw [hx] at h; cases h
   have e := beq_iff_eq.mp hx
   subst e
   rw [bindL_out fun p hp e => hn.1 (List.mem_map.mpr ⟨p, hp, e⟩), if_pos hk]
   exact if_pos rfl
  | false => rw [hx] at h; exact bindL_in hk hn.2 h
theorem bindC_out {kindOf : Str → Option NameKind} {x : Str} : ∀ {binds : List (Str × Value)} {m : Str → Option Value}, (∀ p ∈ binds, p.1 ≠ x) → bindC kindOf binds m x = m x
 | [], _, _ => rfl
 | (y, v) :: r, m, h => by
  unfold bindC
  rw [bindC_out fun p hp => h p (List.mem_cons_of_mem _ hp)]
  split
  ·rfl
  ·exact if_neg fun e => h (y, v) (List.mem_cons_self ..) e.symm
theorem bindC_in {kindOf : Str → Option NameKind} {x : Str} {v : Value} (hk : kindOf x = some .cell) : ∀ {binds : List (Str × Value)} {m : Str → Option Value}, (binds.map (·.1)).Nodup → binds.lookup x = some v → bindC kindOf binds m x = some v
 | [], _, _, h => by cases h
 | (y, u) :: r, m, hn, h => by
  unfold bindC
  rw [List.lookup_cons] at h
  rw [List.map_cons, List.nodup_cons] at hn
  cases hx : x == y with
  | true =>
   rw [hx] at h; cases h
   have e := beq_iff_eq.mp hx
   subst e
   rw [bindC_out fun p hp e => hn.1 (List.mem_map.mpr ⟨p, hp, e⟩), if_neg (by rw [hk]; decide)]
   exact if_pos rfl
  | false => rw [hx] at h; exact bindC_in hk hn.2 h
theorem zip_fst_mem {x : Str} : ∀ {params : List Str} {vals : List Value}, x ∈ (params.zip vals).map (·.1) → x ∈ params
 | [], _, h => by cases h
 | _ :: _, [], h => by cases h
 | p :: ps, v :: vs, h => by
  rw [List.zip_cons_cons, List.map_cons] at h
  rcases List.mem_cons.mp h with h | h
  ·exact h ▸ List.mem_cons_self ..
  ·exact List.mem_cons_of_mem _ (zip_fst_mem h)
theorem zip_fst_nodup : ∀ {params : List Str} {vals : List Value}, params.Nodup → ((params.zip vals).map (·.1)).Nodup
 | [], _, _ => List.nodup_nil
 | _ :: _, [], _ => List.nodup_nil
 | p :: ps, v :: vs, hn => by
  rw [List.zip_cons_cons, List.map_cons, List.nodup_cons]
  rw [List.nodup_cons] at hn
  exact ⟨fun hm => hn.1 (zip_fst_mem hm), zip_fst_nodup hn.2⟩
section
variable {prog : Program} {w : World} {hh : Heap} {frs frs' : List Env} {A : Around} {ρ : Map} {s : Shared} {σ : Store} {fns : Str → Option Fn} {glob : Str → Option V} {ups : Str → Option (List Str)} {mg mb : Str → Option Value}
theorem ORel.base {h : Heap} {p : Addr × Nat} {o : O} (r : ORel ⟨prog, w, hh, frs⟩ ρ h p o) : ORel ⟨prog, w, hh, frs'⟩ ρ h p o := by
 cases o with
 | list l => exact r
 | dict v l => exact r
 | inst _ _ => exact r
 | exc c fs => exact r
theorem Inv.base' {h : Heap} (i : Inv ⟨prog, w, hh, frs⟩ σ ρ h) (hu : ∀ e ∈ frs', FrAt ⟨prog, w, hh, frs'⟩ ρ h e) : Inv ⟨prog, w, hh, frs'⟩ σ ρ h where
 base := i.base
 len := i.len
 objs := fun n o p e1 e2 => (i.objs n o p e1 e2).base
 fresh := i.fresh
 apart := i.apart
 up := hu
theorem Inv.pop {h : Heap} {e : Env} (i : Inv ⟨prog, w, hh, e :: frs⟩ σ ρ h) : Inv ⟨prog, w, hh, frs⟩ σ ρ h := i.base' fun f hf => i.up f (List.mem_cons_of_mem _ hf)
theorem Rm.deeper {n : Nat} {q : Bool} {env : Env} (h : Rm ⟨prog, w, hh, frs⟩ A (n + 1) q) : Rm ⟨prog, w, hh, env :: frs⟩ (A.deeper env) n q where
 handled := h.handled
 depth := by show A.depth + 1 + n < recursionLimit; have := h.depth; (first | lia | omega)
 units := by show A.units + 3 + 8 * n + 300 < cLine; have := h.units; (first | lia | omega)
 frames := by show A.frames.map _ = _; rw [h.frames]; rfl
theorem callFrm {fd : FuncData} {f : Fn} {a : Addr} {vals : List Value} {args : List V} {s₁ : Shared} (ok : FdOk fd f) (i : Inv ⟨prog, w, hh, frs⟩ σ ρ s.heap) (r : RelAll ρ s.heap vals args)
  (x : InCallC s (callEnvC fd s.heap.objs.size a).locals (bindL (callEnvC fd s.heap.objs.size a).kindOf (f.params.zip vals) fun ya => none) (callEnvC fd s.heap.objs.size a).cells (bindC (callEnvC fd s.heap.objs.size a).kindOf (f.params.zip vals) fun ya => none) s₁) :
  Frm ⟨prog, w, hh, callEnvC fd s.heap.objs.size a :: frs⟩ (callEnvC fd s.heap.objs.size a) f.names (initLoc f.params args f.names) ρ s₁.heap := by
 have hk : ∀ b o, s.heap.get? b = some o → s₁.heap.get? b = some o := x.toInCall.keep
 have hnm : (callEnvC fd s.heap.objs.size a).scope.names = f.names := ok.names
 have hkind : ∀ y i k, slot f.names y = some (i, k) → (callEnvC fd s.heap.objs.size a).kindOf y = some k := fun y i k h => by
  show (callEnvC fd s.heap.objs.size a).scope.names.lookup y = _
  rw [hnm]; exact slot_lookup h
 have hlc : ∀ y c, (callEnvC fd s.heap.objs.size a).cells.lookup y = some c → s.heap.objs.size < c := fun y c hc => x.above y c (mem_of_lookup hc)
 have off : ∀ b : Addr, s.heap.objs.size ≤ b → offMap ρ b := fun b hb p hp => by
  obtain ⟨o1, e1⟩ := i.alive hp
  exact fun e => absurd (Heap.lt_size e1) (Nat.not_lt.mpr (e ▸ hb))
 exact {
  names := hnm
  kind := ok.kind
  globals := ok.globals
  blts := ok.blts
  vars := ⟨_, x.toInCall.ns, fun y j v h1 h2 => by
   obtain ⟨_, h3⟩ := initLoc_get (params := f.params) (args := args) h1
   rw [Nat.sub_zero, h2] at h3
   obtain ⟨val, hv, rv⟩ := zip_lookup r (Option.some.inj h3).symm
   exact ⟨val, bindL_in (hkind y j _ h1) (zip_fst_nodup ok.nodup) hv, rv.sub (Sub.keeps hk)⟩⟩
  cell := fun y j h1 => by
   have hsome := cellsFrom_some f.names (s.heap.objs.size + 1) [] (.inl (slot_lookup h1))
   obtain ⟨c, hc⟩ := Option.isSome_iff_exists.mp hsome
   have hc' : (callEnvC fd s.heap.objs.size a).cells.lookup y = some c := by
    show (cellsFrom (s.heap.objs.size + 1) fd.scope.names []).lookup y = some c
    rw [ok.names]; exact hc
   refine ⟨c, _, hc', x.cell y c hc', fun v h2 => ?_⟩
   obtain ⟨_, h3⟩ := initLoc_get (params := f.params) (args := args) h1
   rw [Nat.sub_zero, h2] at h3
   obtain ⟨val, hv, rv⟩ := zip_lookup r (Option.some.inj h3).symm
   exact ⟨val, bindC_in (hkind y j _ h1) (zip_fst_nodup ok.nodup) hv, rv.sub (Sub.keeps hk)⟩
  live := fun y c hc => ⟨_, x.cell y c hc⟩
  offL := off _ (Nat.le_refl _)
  offC := fun y c hc => ⟨Nat.ne_of_gt (hlc y c hc), off _ (Nat.le_of_lt (hlc y c hc))⟩
  apart := fun y z c h1 h2 => name_of_addr x.apart (mem_of_lookup h1) (mem_of_lookup h2)
  top := ⟨_, List.mem_cons_self .., rfl⟩ }
set_option backward.match.sparseCases true in
theorem callFn_ok {n : Nat} {C : Cfg} {f : Str} {fn : Fn} {a : Addr} {args : List V} {vals : List Value} (H : ∀ frs, Hyp ⟨prog, w, hh, frs⟩ fns glob ups mg mb C n) (hf : fns f = some fn) (hm : mg f = some (.ref a)) (hA : Rm ⟨prog, w, hh, frs⟩ A (n + 1) C.calm) (r : RelAll ρ s.heap vals args) (i : Inv ⟨prog, w, hh, frs⟩ σ ρ s.heap) :
  Sim ⟨prog, w, hh, frs⟩ A [] (call (.ref a) vals) (callFn C fn args σ) RV ρ s := by
 obtain ⟨a', o, fd, hm', ho, hd, ok, hcd⟩ := (H frs).B.fn f fn hf
 rw [hm] at hm'; cases hm'
 unfold callFn
 refine Sim.ite fun hlen => ?_
 have hvl : vals.length = fn.params.length := by rw [r.length, hlen]
 have go : ∀ {Q : Value → Shared → Prop} {E : Value → Shared → Prop}, (∀ H₁ tk₁, (∀ b ∈ frameW (callEnvC fd s.heap.objs.size a), s.heap.get? b = none) → (∀ b o, s.heap.get? b = some o → H₁.get? b = some o) →
   Sim ⟨prog, w, hh, callEnvC fd s.heap.objs.size a :: frs⟩ (A.deeper (callEnvC fd s.heap.objs.size a)) (frameW (callEnvC fd s.heap.objs.size a)) (execs fn.body (callEnvC fd s.heap.objs.size a)) (exs C fn.body fn.names (initLoc fn.params args fn.names) σ) (RX ⟨prog, w, hh, callEnvC fd s.heap.objs.size a :: frs⟩ (callEnvC fd s.heap.objs.size a) fn.names) ρ (At s H₁ tk₁) →
   wpAny (model prog w) (A.deeper (callEnvC fd s.heap.objs.size a)) (execs fn.body (callEnvC fd s.heap.objs.size a)) (fun f s' => Q (match f with | .ret v => v | _ => .none) s')
    (fun e s' => wpAny (model prog w) (A.deeper (callEnvC fd s.heap.objs.size a)) (leaving (callEnvC fd s.heap.objs.size a) e) (fun ya s'' => E e s'') (fun e' s'' => E e' s'') s') (At s H₁ tk₁)) →
   wpAny (model prog w) A (call (.ref a) vals) Q E s := fun hq => by
  refine wpAny_call (codeAny_call_cells (binds := fn.params.zip vals) (by have := hA.depth; (first | lia | omega)) (i.base _ _ ho) hd ((H frs).B.nolimit.keeps i.base) (hcd.keeps i.base) ok.body (ok.binds vals hvl) ok.clo (fun y hy => ?_) (fun s₁ x => ?_) ok.co ok.gen ok.kind)
  ·have hp : y.1 ∈ fn.params := zip_fst_mem (List.mem_map.mpr ⟨y, hy, rfl⟩)
   rw [ok.names]
   rcases ok.pkind y.1 hp with h | h
   ·exact .inl h
   ·exact .inr ⟨h, cellsFrom_some _ _ _ (.inl h)⟩
  ·have F := callFrm ok i r x
   obtain ⟨H₁, tk₁, rfl⟩ := x.toInCall.same
   have hk : ∀ b o, s.heap.get? b = some o → H₁.get? b = some o := x.toInCall.keep
   have dead : ∀ b ∈ frameW (callEnvC fd s.heap.objs.size a), s.heap.get? b = none := fun b hb => by
    have hge : s.heap.objs.size ≤ b := by
     rcases List.mem_cons.mp hb with rfl | hb
     ·exact Nat.le_refl _
     ·obtain ⟨⟨y, k⟩, _, hc⟩ := List.mem_filterMap.mp hb
      exact Nat.le_of_lt (x.above y b (mem_of_lookup hc))
    cases e : s.heap.get? b with
    | none => rfl
    | some o => exact absurd (Heap.lt_size e) (Nat.not_lt.mpr hge)
   have dead0 : ∀ b ∈ frameW (callEnvC fd s.heap.objs.size a), hh.get? b = none := fun b hb => by
    cases e : hh.get? b with
    | none => rfl
    | some o => have := i.base _ _ e; rw [dead b hb] at this; cases this
   have i₁ : Inv ⟨prog, w, hh, callEnvC fd s.heap.objs.size a :: frs⟩ σ ρ H₁ := (i.keeps hk).base' fun e he => by
    rcases List.mem_cons.mp he with rfl | he
    ·obtain ⟨ob, e1, e2⟩ := ns_dict x.toInCall.ns
     exact ⟨by show fd.scope.kind ≠ _; rw [ok.kind]; decide, _, ob, rfl, e1, e2, F.offL, dead0 _ (List.mem_cons_self ..)⟩
    ·exact (i.keeps hk).up e he
   exact hq H₁ tk₁ dead hk (exs_ok fn.body (H _) (callEnvC fd s.heap.objs.size a) fn.names (initLoc fn.params args fn.names) σ ρ (At s H₁ tk₁) (A.deeper (callEnvC fd s.heap.objs.size a)) hA.deeper dead0 F i₁)
 cases h1 : exs C fn.body fn.names (initLoc fn.params args fn.names) σ with
 | bad => rw [bind_bad h1]; exact trivial
 | exc e σ' =>
  rw [bind_exc h1]
  refine go fun H₁ tk₁ dead hk hs => ?_
  rw [h1] at hs
  refine wpAny_mono hs (fun ya yb f => f.elim) fun ev s' hp => ?_
  obtain ⟨ρ', H', tk', rfl, i', x', re⟩ := hp
  have hx : Ext [] ρ s.heap ρ' H' := ((Ext.of_keeps hk).trans x').weak fun b hb => .inr (dead b hb)
  refine wpAny_bind (note_ok (s := (At s H' tk')) hA.deeper ⟨_, List.mem_cons_self .., rfl⟩ i' re fun h₂ i₂ x₂ ya => ?_)
  exact setFlight_ok (s := (At s h₂ tk')) i₂ re fun h₃ i₃ x₃ ya => ⟨ρ', h₃, tk', rfl, i₃.pop, (hx.trans x₂).trans x₃, re⟩
 | ok res σ' =>
  rw [bind_ok h1]
  refine go fun H₁ tk₁ dead hk hs => ?_
  rw [h1] at hs
  refine wpAny_mono hs (fun fl s' hp => ?_) fun ya yb f => f.elim
  obtain ⟨ρ', H', tk', rfl, i', x', rf, F'⟩ := hp
  have hx : Ext [] ρ s.heap ρ' H' := ((Ext.of_keeps hk).trans x').weak fun b hb => .inr (dead b hb)
  obtain ⟨fl', loc'⟩ := res
  cases fl' with
  | next => cases rf; exact ⟨ρ', H', tk', rfl, i'.pop, hx, .none⟩
  | brk => cases rf; exact ⟨ρ', H', tk', rfl, i'.pop, hx, .none⟩
  | cont => cases rf; exact ⟨ρ', H', tk', rfl, i'.pop, hx, .none⟩
  | ret v =>
   obtain ⟨val, rfl, rv⟩ := rf
   exact ⟨ρ', H', tk', rfl, i'.pop, hx, rv⟩
theorem callN_ok (B : Base fns glob ups mg mb hh) (hns : NoShadow fns) : ∀ (d : Nat) (q : Bool) (frs : List Env), CallS ⟨prog, w, hh, frs⟩ mg (cfgN fns glob ups d q) d
 | 0, _, _ => fun f a args vals σ ρ s A hA hf hm r i => trivial
 | d + 1, q, frs => fun f a args vals σ ρ s A hA hf hm r i => by
  show Sim ⟨prog, w, hh, frs⟩ A [] _ (callN fns glob ups (d + 1) q f args σ) RV ρ s
  unfold callN
  cases hfn : fns f with
  | none => exact trivial
  | some fn =>
   exact callFn_ok (C := cfgN fns glob ups d q) (fun frs => ⟨B, fun ya => rfl, rfl, hns, callN_ok B hns d q frs, rfl, callN_ok B hns d false frs⟩) hfn hm hA r i
end
end Mine.Internal

set_option backward.match.sparseCases false
namespace Mine.Internal
open PySem PySem.W PyProof.Rows
theorem zip_find : ∀ {ps : List Str} {vals : List Value}, ps.Nodup → vals.length = ps.length → (ps.filterMap fun n => ((ps.zip vals).lookup n).map (n, ·)) = ps.zip vals := by
 intro ps vals hn hl
 have key : ∀ (pre : List (Str × Value)) (ps : List Str) (vals : List Value), ps.Nodup → vals.length = ps.length → (∀ x ∈ ps, pre.lookup x = none) → (ps.filterMap fun n => ((pre ++ ps.zip vals).lookup n).map (n, ·)) = ps.zip vals := by
  intro pre ps
  induction ps generalizing pre with
  | nil => intro vals _ _ _; rfl
  | cons p ps ih =>
   intro vals hn hl hp
   cases vals with
   | nil => cases hl
   | cons v vs =>
    rw [List.nodup_cons] at hn
    have e1 : (pre ++ (p :: ps).zip (v :: vs)).lookup p = some v := by
     rw [List.lookup_append, hp p (List.mem_cons_self ..), List.zip_cons_cons, List.lookup_cons, beq_self_eq_true]; rfl
    rw [List.filterMap_cons, e1]
    dsimp only [Option.map]
    rw [List.zip_cons_cons]
    congr 1
    have := ih (pre ++ [(p, v)]) vs hn.2 (by simpa using hl) (fun x hx => by
     rw [List.lookup_append, hp x (List.mem_cons_of_mem _ hx), List.lookup_cons]
     have : (x == p) = false := by
      cases e : x == p with
      | false => rfl
      | true => rw [beq_iff_eq.mp e] at hx; exact absurd hx hn.1
     rw [this]; rfl)
    rw [List.append_assoc] at this
    exact this
 exact key [] ps vals hn hl (fun ya yb => rfl)
theorem bp1 {α β : Type} {x : α} {m : Sem α} {f : α → Sem β} {r : Sem β} (hm : m = pure x) (h : f x = r) : (m >>= f) = r := by rw [hm, pure_bind]; exact h
theorem bp2 {β : Type} {c : Prop} [Decidable c] {a b r : Sem β} (hc : ¬c) (h : b = r) : (if c then a else b) = r := by rw [if_neg hc]; exact h
theorem bind_plain {name : Str} {as : List Arg} {body : List Stmt} {scope : Scope} {pm code doc : Value} {vals : List Value} (hn : (as.map (·.arg)).Nodup) (hl : vals.length = (as.map (·.arg)).length) :
  bindArgs (Calls.docDef name ⟨[], as, none, [], [], none, []⟩ body scope pm code doc) ⟨vals, []⟩ = pure ((as.map (·.arg)).zip vals) := by
 have hm : ((as.map (·.arg)).filter fun n => (((as.map (·.arg)).zip vals).lookup n).isNone) = [] := by
  rw [List.filter_eq_nil_iff]
  intro n hn'
  have : ∀ (ps : List Str) (vals : List Value), n ∈ ps → vals.length = ps.length → ((ps.zip vals).lookup n).isNone = false := by
   intro ps
   induction ps with
   | nil => intro _ h; cases h
   | cons p ps ih =>
    intro vals h hl
    cases vals with
    | nil => cases hl
    | cons v vs =>
     rw [List.zip_cons_cons, List.lookup_cons]
     cases e : n == p with
     | true => rfl
     | false =>
      rcases List.mem_cons.mp h with h | h
      ·rw [h, beq_self_eq_true] at e; cases e
      ·exact ih vs h (by simpa using hl)
  rw [this _ _ hn' hl]; decide
 have hs : seqItems? .none = (Pure.pure none : Sem (Option (Array Value))) := by kernel_rfl
 have hd : ∀ k, (([] : List Value).drop k) = [] := fun k => List.drop_nil
 refine bp1 (x := ((as.map (·.arg)).zip vals, [])) rfl (bp1 hs (bp2 ?_ (bp2 ?_ (bp1 (x := (as.map (·.arg)).zip vals) ?_ (bp1 (x := ((as.map (·.arg)).zip vals, [])) rfl (bp2 ?_ ?_))))))
 ·show ¬((decide (vals.length > (as.map (·.arg)).length) && true) = true)
  rw [hl]; simp
 ·show ¬((!(((as.map fun x : Arg => x.arg).take ((as.map fun x : Arg => x.arg).length - (([] : List Value).drop (0 - (as.map fun x : Arg => x.arg).length)).length)).filter fun n => (((as.map fun x : Arg => x.arg).zip vals).lookup n).isNone).isEmpty) = true)
  rw [hd, List.length_nil, Nat.sub_zero, List.take_length, hm]; simp
 ·show (forIn (List.zip _ (([] : List Value).drop _)) _ _ : Sem (List (Str × Value))) = _
  rw [hd, List.zip_nil_right]; rfl
 ·exact nofun
 ·show pure (((as.map fun x : Arg => x.arg) ++ []).filterMap fun n => (((as.map fun x : Arg => x.arg).zip vals).lookup n).map (n, ·)) = _
  rw [List.append_nil, zip_find hn hl]
noncomputable def recOk (d : DefRec) : Bool :=
 (d.params.posonlyargs.isEmpty && d.params.vararg.isNone && d.params.kwonlyargs.isEmpty && d.params.kw_defaults.isEmpty && d.params.kwarg.isNone && d.params.defaults.isEmpty) && (match d.scope.kind with | .function => true | _ => false) && !d.scope.isCoroutine && !d.scope.isGenerator &&
 decide (d.params.args.map (·.arg)).Nodup && (d.params.args.map (·.arg)).all fun x => match d.scope.names.lookup x with | some .local => true | some .cell => true | _ => false
theorem recOk_fd {d : DefRec} {pm code doc : Value} (h : recOk d = true) : FdOk (Calls.docDef d.name d.params d.body d.scope pm code doc) (defOf d).2 := by
 obtain ⟨name, params, body, scope, pos⟩ := d
 unfold recOk at h
 simp only [Bool.and_eq_true] at h
 obtain ⟨⟨⟨⟨⟨h1, h2⟩, h3⟩, h4⟩, h5⟩, h6⟩ := h
 obtain ⟨po, as, va, ko, kd, kw, df⟩ := params
 simp only [Bool.and_eq_true, List.isEmpty_iff, Option.isNone_iff_eq_none] at h1
 obtain ⟨⟨⟨⟨⟨rfl, rfl⟩, rfl⟩, rfl⟩, rfl⟩, rfl⟩ := h1
 have hn : (as.map (·.arg)).Nodup := of_decide_eq_true h5
 exact {
  body := rfl
  names := rfl
  kind := by
   show scope.kind = .function
   split at h2
   ·assumption
   ·cases h2
  co := by show scope.isCoroutine = false; simpa using h3
  gen := by show scope.isGenerator = false; simpa using h4
  clo := rfl
  globals := rfl
  blts := rfl
  binds := fun vals hl => bind_plain hn hl
  pkind := fun x hx => by
   have := List.all_eq_true.mp h6 x hx
   show scope.names.lookup x = some .local ∨ scope.names.lookup x = some .cell
   split at this
   ·left; assumption
   ·right; assumption
   ·cases this
  nodup := hn }
noncomputable def bltFree (q : Program) (loose : List Str) : Bool := bltNames.all fun x => !startupNames.contains x && !loose.contains x && !((recsOf q).map (·.name)).contains x && !((litsOf q).map (·.1)).contains x && !((clssOf q loose).map (·.name)).contains x
theorem lookup_map {x : Str} {fn : Fn} : ∀ {ds : List DefRec}, (ds.map defOf).lookup x = some fn → ∃ d ∈ ds, d.name = x ∧ (defOf d).2 = fn
 | [], h => by cases h
 | d :: ds, h => by
  rw [List.map_cons] at h
  unfold defOf at h
  rw [List.lookup_cons] at h
  split at h
  ·rename_i e
   cases h
   exact ⟨d, List.mem_cons_self .., (beq_iff_eq.mp e).symm, rfl⟩
  ·obtain ⟨d', hd, r⟩ := lookup_map (ds := ds) h
   exact ⟨d', List.mem_cons_of_mem _ hd, r⟩
theorem intOf_is {v : V} {a : Int} (h : intOf v = some a) : v = .int a := by
 cases v with
 | int _ => cases h; rfl
 | _ => cases h
theorem strOf_is {v : V} {a : Str} (h : strOf v = some a) : v = .str a := by
 cases v with
 | str _ => cases h; rfl
 | _ => cases h
theorem sameV_is {o : Option V} {v : V} (h : sameV o v = true) : o = some v := by
 unfold sameV at h
 rw [Bool.or_eq_true, Bool.and_eq_true, Bool.and_eq_true, beq_iff_eq, beq_iff_eq] at h
 rcases h with ⟨h1, h2⟩ | ⟨h1, h2⟩
 ·obtain ⟨a, ha⟩ := Option.isSome_iff_exists.mp h1
  rw [ha] at h2
  obtain ⟨u, rfl, hu⟩ := Option.bind_eq_some_iff.mp h2
  rw [intOf_is ha, intOf_is hu]
 ·obtain ⟨a, ha⟩ := Option.isSome_iff_exists.mp h1
  rw [ha] at h2
  obtain ⟨u, rfl, hu⟩ := Option.bind_eq_some_iff.mp h2
  rw [strOf_is ha, strOf_is hu]
noncomputable def xOk (h : Heap) (name : Str) : Bool := match h.clsAt mainGlobals name with
 | some (_, _, cd) => xNames.all fun n => (h.nsMap cd.ns n).isNone
 | none => false
theorem xcls_of {h : Heap} {name : Str} {chain : List Str} (x : h.ownExcOk name chain bmV "ValueError.__new__" = true) (y : xOk h name = true) :
  ∃ C, h.nsMap mainGlobals name = some (.ref C) ∧ ∃ f : XF, h.get? C = some (f.obj C ((chain.map fun n => (h.nsMap mainGlobals n).getD .none) ++ bmV)) ∧ ∃ mN, h.Ns f.N mN ∧ ∀ n ∈ xNames, mN n = none := by
 obtain ⟨C, N, nm, q, bs, hdct, sn, sub, ab, col, dd, k0, k1, k2, k3, k5, hb, hC, hN, _⟩ := Heap.ownExc_of_ok x
 refine ⟨C, hb, ⟨nm, q, N, bs, hdct, sn, sub, ab, col, dd, k0, k1, k2, k3, k5⟩, hC, _, hN, ?_⟩
 intro n hn
 unfold xOk at y
 cases hf : h.clsAt mainGlobals name with
 | none => rw [hf] at y; cases y
 | some z =>
  obtain ⟨C', o', cd'⟩ := z
  rw [hf] at y
  obtain ⟨hn', ho', hd'⟩ := Heap.clsAt_spec hf
  rw [hb] at hn'
  obtain rfl : C = C' := by injection hn' with q1; injection q1
  rw [hC] at ho'
  obtain rfl := Option.some.inj ho'
  obtain rfl : _ = cd' := by injection hd'
  exact Option.isNone_iff_eq_none.mp (List.all_eq_true.mp y n hn)
noncomputable def chainOf (us : List Str) : List Str := us.tail.dropLast
noncomputable def clsOk (tab : List (Str × List Str)) (h : Heap) (c : Str) (us : List Str) : Bool := h.ownExcOk c (chainOf us) bmV "ValueError.__new__" && (xOk h c && ((chainOf us).all (fun n => tab.any (fun p => p.1 == n)) && (us.contains "ValueError" &&
 tab.all fun t => (((h.nsMap mainGlobals c).getD .none :: (((chainOf us).map fun n => (h.nsMap mainGlobals n).getD .none) ++ bmV)).contains ((h.nsMap mainGlobals t.1).getD .none)) == us.contains t.1)))
noncomputable def upsOk (tab : List (Str × List Str)) (h : Heap) : Bool := h.isNs mainGlobals && tab.all fun p => clsOk tab h p.1 p.2
noncomputable def UpsAt (tab : List (Str × List Str)) (mg : Str → Option Value) (h : Heap) : Prop := ∀ c us, upsT tab c = some us → ∃ C bm, mg c = some (.ref C) ∧ XCls h C bm ∧ (Value.ref C :: bm).contains (.type "ValueError") = us.contains "ValueError" ∧ ∀ t ut D, upsT tab t = some ut → mg t = some (.ref D) → (Value.ref C :: bm).contains (.ref D) = us.contains t
theorem upsAt_of {tab : List (Str × List Str)} {h : Heap} (x : upsOk tab h = true) : h.Ns mainGlobals (h.nsMap mainGlobals) ∧ UpsAt tab (h.nsMap mainGlobals) h := by
 unfold upsOk at x
 rw [Bool.and_eq_true] at x
 refine ⟨.of_isNs x.1, ?_⟩
 have all := List.all_eq_true.mp x.2
 have tail : ∀ l : List Str, (l.all fun n => tab.any (fun p => p.1 == n)) = true → XTail h ((l.map fun n => (h.nsMap mainGlobals n).getD .none) ++ bmV) := fun l => by
  induction l with
  | nil => exact fun ya => .base
  | cons n r ih =>
   intro hl
   rw [List.all_cons, Bool.and_eq_true] at hl
   obtain ⟨p, hp, e⟩ := List.any_eq_true.mp hl.1
   have hc := all p hp
   rw [beq_iff_eq.mp e] at hc
   unfold clsOk at hc
   rw [Bool.and_eq_true, Bool.and_eq_true] at hc
   obtain ⟨C, hb, f, hC, mN, hN, hm⟩ := xcls_of hc.1 hc.2.1
   rw [List.map_cons, hb]
   exact .own hC hN hm (ih hl.2)
 intro c us hus
 have hc := all (c, us) (mem_of_lookup hus)
 unfold clsOk at hc
 simp only [Bool.and_eq_true] at hc
 obtain ⟨h1, h2, h3, h4, h5⟩ := hc
 obtain ⟨C, hb, ho⟩ := xcls_of h1 h2
 have X : XCls h C (((chainOf us).map fun n => (h.nsMap mainGlobals n).getD .none) ++ bmV) := ⟨tail _ h3, ho⟩
 refine ⟨C, _, hb, X, ?_, fun t ut D ht hD => ?_⟩
 ·rw [X.has (b := true) (by decide +kernel), h4]
 ·have := beq_iff_eq.mp (List.all_eq_true.mp h5 (t, ut) (mem_of_lookup ht))
  rw [hb, hD] at this
  exact this
theorem ns_same {h : Heap} {a : Addr} {m m' : Str → Option Value} (x : h.Ns a m) (y : h.Ns a m') : m = m' := by
 obtain ⟨o, es, ep, h1, h2, _, h3⟩ := x
 obtain ⟨o', es', ep', h1', h2', _, h3'⟩ := y
 rw [h1] at h1'; cases h1'
 rw [h2] at h2'; cases h2'
 funext z
 rw [← h3, h3']
noncomputable def UpsSay (tab : List (Str × List Str)) (h : Heap) : Prop := ∃ mg, h.Ns mainGlobals mg ∧ UpsAt tab mg h
noncomputable def upsHook (tab : List (Str × List Str)) : Hook where
 α := Bool
 obs := fun s => upsOk tab s.heap
 val := fun ya => true
 says := fun ya h => UpsSay tab h
 of := fun ya s e => ⟨_, (upsAt_of e).1, (upsAt_of e).2⟩
 keeps := fun _ h h' ⟨mg, x, y⟩ hk => ⟨mg, x.keeps hk, fun c us hus => let ⟨C, bm, h1, h2, h3⟩ := y c us hus; ⟨C, bm, h1, h2.keeps hk, h3⟩⟩
theorem base_of {q : Program} {loose : List Str} {mean : ExcName → Option Value} {mg mb : Str → Option Value} {h : Heap} {tab : List (Str × Fn)} {gs : List (Str × V)} {us : List (Str × List Str)} (Y : UpsSay us h) (T : Top q loose mean mg mb h) (hgl : globOk q gs = true) (he : defsV q = tab) (hr : (recsOf q).all recOk = true) (hb : bltFree q loose = true) :
  Base (fnsT tab) (globT gs) (upsT us) mg mb h where
 cls := fun c u hu => by
  obtain ⟨m, hn, y⟩ := Y
  rw [ns_same T.g hn]
  exact y c u hu
 g := T.g
 b := T.b
 nolimit := T.nolimit
 fn := fun f fn hf => by
  subst he
  obtain ⟨d, hd, rfl, rfl⟩ := lookup_map hf
  obtain ⟨a, o, pm, code, doc, h1, h2, h3, h4⟩ := T.fn d hd
  exact ⟨a, o, _, h1, h2, h3, recOk_fd (List.all_eq_true.mp hr d hd), h4⟩
 blt := fun f hf hn => by
  have := List.all_eq_true.mp hb f hf
  simp only [Bool.and_eq_true, Bool.not_eq_true'] at this
  obtain ⟨⟨⟨⟨h1, h2⟩, h3⟩, h4⟩, h5⟩ := this
  have nc : ∀ {l : List Str}, l.contains f = false → f ∉ l := fun h hm => by
   rw [List.contains_iff_mem.mpr hm] at h; cases h
  exact ⟨T.free f (nc h1) (nc h2) (nc h3) (nc h4) (nc h5), T.builtins f (by
   intro e; subst e
   exact absurd h1 (by decide +kernel))⟩
 const := fun x v hx => by
  have hx : globV q x = some v := sameV_is (List.all_eq_true.mp hgl _ (mem_of_lookup (show gs.lookup x = some v from hx)))
  obtain ⟨d, h1, h2⟩ := Option.bind_eq_some_iff.mp hx
  obtain ⟨val, hm, hr⟩ := T.const x d h1
  refine ⟨val, hm, fun ρ h' => ?_⟩
  have hr := hr h'
  cases d with
  | none => cases h2; cases hr; exact .none
  | bool b => cases h2; cases hr; exact .bool b
  | int i => cases h2; cases hr; exact .int i _
  | str s =>
   have h2 : (if SOk s then some (V.str s) else none) = some v := h2
   split at h2
   ·rename_i hs; cases h2; cases hr; exact .str s _ hs
   ·cases h2
  | _ => cases h2
theorem ints_rel {ρ : Map} {h : Heap} {vs : List Value} {zs : List Int} (q : IntsAre vs zs) : RelAll ρ h vs (zs.map .int) := by
 induction q with
 | nil => exact .nil
 | cons i t _ ih => exact .cons (.int i t) ih
theorem law_run {prog : Program} {w : World} {mg mb : Str → Option Value} {s₁ : Shared} {tab : List (Str × Fn)} {fa la : Addr} {vs : List Value} {n d : Nat} {zs : List Int} {A : Around} {glob : Str → Option V} {ups : Str → Option (List Str)} (B : Base (fnsT tab) glob ups mg mb s₁.heap) (hns : bltNames.all (fun x => (fnsT tab x).isNone) = true) (hm : mg "law" = some (.ref fa))
  (hf : (fnsT tab "law").isSome = true) (hl : s₁.heap.get? la = some (listO vs n)) (hI : IntsAre vs zs) (hlen : zs.length ≤ 63) (ok : LawOk tab glob ups d) (hA : Rm ⟨prog, w, s₁.heap, []⟩ A d true) :
  wpAny (model prog w) A (call (.ref fa) [.ref la]) (fun v s' => v = .bool true ∧ (∀ b o, s₁.heap.get? b = some o → s'.heap.get? b = some o) ∧ s'.os = s₁.os ∧ s'.gens = s₁.gens) (fun ya yb => False) s₁ := by
 obtain ⟨σ', hok⟩ := ok zs hlen
 have hns' : NoShadow (fnsT tab) := fun f hf => by
  have := List.all_eq_true.mp hns f hf
  cases e : fnsT tab f with
  | none => rfl
  | some _ => rw [e] at this; cases this
 have hvl : vs.length ≤ sizeLine := by
  have h1 : ∀ {vs : List Value} {zs : List Int}, IntsAre vs zs → vs.length = zs.length := by
   intro vs zs h
   induction h with
   | nil => rfl
   | cons _ _ _ ih => simp [ih]
  rw [h1 hI]
  exact Nat.le_trans hlen (by decide)
 have hinv : Inv ⟨prog, w, s₁.heap, []⟩ [.list (zs.map .int)] [(la, 0)] s₁.heap :=
  {base := fun ya yb e => e
   len := rfl
   objs := fun k o p e1 e2 => by
    cases k with
    | zero => cases e1; cases e2; exact ⟨vs, n, hl, hvl, ints_rel hI⟩
    | succ k => cases e2
   fresh := fun k p e hk => by
    cases k with
    | zero => cases hk
    | succ k => cases e
   apart := fun i j p q e1 e2 hij => by
    cases i with
    | zero =>
     cases j with
     | zero => exact absurd rfl hij
     | succ j => cases e2
    | succ i => cases e1
   up := fun e he => absurd he List.not_mem_nil }
 have := callN_ok (prog := prog) (w := w) B hns' d true [] "law" fa [.ref 0] [.ref la] _ _ s₁ A hA hf hm (.cons (.ref (d := 0) rfl) .nil) hinv
 rw [show (cfgN (fnsT tab) glob ups d true).call "law" [.ref 0] [.list (zs.map .int)] = .ok (.bool true) σ' from hok] at this
 refine wpAny_mono this (fun v s' hp => ?_) fun ya yb f => f
 obtain ⟨ρ', h', tk, rfl, i, x, r⟩ := hp
 cases r
 exact ⟨rfl, i.base, rfl, rfl⟩
theorem list_at {P : Params} {h : Heap} {la : Addr} {vs : List Value} {xs : List WData} (hL : h.IsList la vs.toArray) (hw : Well P h (.ref la) (.list xs)) : h.get? la = some (listO vs 0) := by
 cases hw with
 | list hget _ =>
  obtain ⟨ob, hob, _, nn, hdat⟩ := hL
  rw [hget] at hob
  cases hob
  have e : _ = vs.toArray := (Data.seq.inj hdat).1
  rw [hget, e]; rfl
theorem room_caller {prog : Program} {w : World} {hh : Heap} {d : Nat} (h : d ≤ 400) : Rm ⟨prog, w, hh, []⟩ callerA d true where
 handled := fun ya => rfl
 frames := rfl
 depth := by
  show 1 + claimMargin + d < recursionLimit
  have : 1 + claimMargin + 400 < recursionLimit := by decide
  (first | lia | omega)
 units := by
  show 4 + 8 * d + 300 < cLine
  have : (4 : Nat) + 8 * 400 + 300 < cLine := by decide
  (first | lia | omega)
end Mine.Internal

set_option backward.match.sparseCases false
namespace Mine.Internal
open PySem
noncomputable def Wp {α : Type} (m : M α) (σ : Store) (Q : α → Store → Prop) : Prop := ∃ a σ', m σ = .ok a σ' ∧ Q a σ'
section
variable {α β : Type} {σ σ' : Store} {m n : M α} {f : α → M β} {a : α}
theorem Wp_ok {Q : α → Store → Prop} (h : m σ = .ok a σ') (q : Q a σ') : Wp m σ Q := ⟨a, σ', h, q⟩
theorem Wp_step {Q : β → Store → Prop} (h : m σ = .ok a σ') (k : Wp (f a) σ' Q) : Wp (m >>= f) σ Q :=
 let ⟨b, τ, e, q⟩ := k; ⟨b, τ, (bind_ok h).trans e, q⟩
theorem Wp.step {P : α → Store → Prop} {Q : β → Store → Prop} (h : Wp m σ P) (k : ∀ a σ', P a σ' → Wp (f a) σ' Q) : Wp (m >>= f) σ Q :=
 let ⟨a, σ₁, e, p⟩ := h; Wp_step e (k a σ₁ p)
theorem Wp.mono {Q Q' : α → Store → Prop} (h : Wp m σ Q) (hq : ∀ a σ', Q a σ' → Q' a σ') : Wp m σ Q' := let ⟨a, σ', e, q⟩ := h; ⟨a, σ', e, hq a σ' q⟩
theorem Wp_pure {Q : α → Store → Prop} (h : Q a σ) : Wp (Pure.pure a : M α) σ Q := ⟨a, σ, rfl, h⟩
theorem Wp_cond {Q : α → Store → Prop} {b : Bool} (h1 : b = true → Wp m σ Q) (h2 : b = false → Wp n σ Q) : Wp (M.cond b m n) σ Q := by
 cases b with
 | true => exact h1 rfl
 | false => exact h2 rfl
theorem Wp_yes {Q : α → Store → Prop} {b : Bool} (h : b = true) (k : Wp m σ Q) : Wp (M.cond b m n) σ Q := by subst h; exact k
theorem Wp_no {Q : α → Store → Prop} {b : Bool} (h : b = false) (k : Wp n σ Q) : Wp (M.cond b m n) σ Q := by subst h; exact k
noncomputable def Wx {α : Type} (m : M α) (σ : Store) (Q : α → Store → Prop) (E : V → Store → Prop) : Prop := Wp m σ Q ∨ ∃ e σ', m σ = .exc e σ' ∧ E e σ'
theorem Wx_step {Q : β → Store → Prop} {E : V → Store → Prop} (h : m σ = .ok a σ') (k : Wx (f a) σ' Q E) : Wx (m >>= f) σ Q E :=
 k.elim (fun k => .inl (Wp_step h k)) fun ⟨e, τ, h', q⟩ => .inr ⟨e, τ, (bind_ok h).trans h', q⟩
theorem Wx.step {P : α → Store → Prop} {Q : β → Store → Prop} {E : V → Store → Prop} (h : Wx m σ P E) (k : ∀ a σ', P a σ' → Wx (f a) σ' Q E) : Wx (m >>= f) σ Q E :=
 h.elim (fun ⟨a, σ₁, e, p⟩ => Wx_step e (k a σ₁ p)) fun ⟨e, τ, h', q⟩ => .inr ⟨e, τ, bind_exc h', q⟩
theorem Wp.stepX {P : α → Store → Prop} {Q : β → Store → Prop} {E : V → Store → Prop} (h : Wp m σ P) (k : ∀ a σ', P a σ' → Wx (f a) σ' Q E) : Wx (m >>= f) σ Q E := Wx.step (.inl h) k
theorem Wx.mono {Q Q' : α → Store → Prop} {E : V → Store → Prop} (h : Wx m σ Q E) (hq : ∀ a σ', Q a σ' → Q' a σ') : Wx m σ Q' E := h.elim (fun h => .inl (h.mono hq)) .inr
theorem Wx_throw {Q : α → Store → Prop} {E : V → Store → Prop} {o : O} (h : E (.ref σ.length) (σ ++ [o])) : Wx (newO o >>= fun e => (M.throw e : M α)) σ Q E := .inr ⟨_, _, rfl, h⟩
theorem r_mul {a b : Int} (h : Small a ∨ Small b) : binop .Mult (.int a) (.int b) σ = .ok (.int (a * b)) σ := by show (if Small a ∨ Small b then pure (V.int (a * b)) else M.bad : M V) σ = _; rw [if_pos h]; rfl
theorem r_mulR {a b : Int} (h : Small b) : binop .Mult (.int a) (.int b) σ = .ok (.int (a * b)) σ := r_mul (.inr h)
theorem r_mulL {a b : Int} (h : Small a) : binop .Mult (.int a) (.int b) σ = .ok (.int (a * b)) σ := r_mul (.inl h)
noncomputable def Lit (b : Int) : Prop := 0 < b ∧ b < 18446744073709551616
noncomputable instance (b : Int) : Decidable (Lit b) := inferInstanceAs (Decidable (_ ∧ _))
theorem r_div {a b : Int} (h : Lit b) : binop .FloorDiv (.int a) (.int b) σ = .ok (.int (a / b)) σ := by
 show (if b ≠ 0 ∧ Small b then pure (V.int (a.fdiv b)) else M.bad : M V) σ = _
 have h1 := h.1
 have h2 := h.2
 rw [if_pos ⟨by lia, by unfold Small; lia⟩, Int.fdiv_eq_ediv_of_nonneg a (by lia)]; rfl
theorem r_mod {a b : Int} (h : Lit b) : binop .Mod (.int a) (.int b) σ = .ok (.int (a % b)) σ := by
 show (if b ≠ 0 ∧ Small b then pure (V.int (a.fmod b)) else M.bad : M V) σ = _
 have h1 := h.1
 have h2 := h.2
 rw [if_pos ⟨by lia, by unfold Small; lia⟩, Int.fmod_eq_emod_of_nonneg a (by lia)]; rfl
variable {k : Nat} {l : List V} {v x : V} {i : Int}
theorem r_getO {o : O} (h : σ[k]? = some o) : getO k σ = .ok o σ := by rw [getO_eq, h]
theorem r_getList (h : σ[k]? = some (.list l)) : getList k σ = .ok l σ := by rw [getList_eq, h]
theorem place_pos {m : Nat} (h0 : 0 ≤ i) (h1 : i < m) : place i m = some i.toNat := by unfold place; rw [if_pos h0, if_pos h1]
theorem at_len (h0 : 0 ≤ i) (hx : l[i.toNat]? = some x) : i < l.length := by have := lt_of_get hx; lia
theorem r_itemT (h0 : 0 ≤ i) (hx : l[i.toNat]? = some x) : item (.tup l) (.int i) σ = .ok x σ := by
 show ofOpt ((place i l.length).bind fun j => l[j]?) σ = _
 rw [place_pos h0 (at_len h0 hx)]
 show ofOpt (l[i.toNat]?) σ = _
 rw [hx]; rfl
theorem r_item (h : σ[k]? = some (.list l)) (h0 : 0 ≤ i) (hx : l[i.toNat]? = some x) : item (.ref k) (.int i) σ = .ok x σ :=
 (bind_ok (r_getO h)).trans (r_itemT (σ := σ) h0 hx)
theorem r_item0 {r : List V} : item (.tup (x :: r)) (.int 0) σ = .ok x σ := r_itemT (by decide) rfl
theorem r_item1 {y : V} {r : List V} : item (.tup (y :: x :: r)) (.int 1) σ = .ok x σ := r_itemT (by decide) rfl
theorem r_item2 {y z : V} {r : List V} : item (.tup (z :: y :: x :: r)) (.int 2) σ = .ok x σ := r_itemT (by decide) rfl
theorem r_len (h : σ[k]? = some (.list l)) : bLen (.ref k) σ = .ok (.int l.length) σ := bind_ok (r_getO h)
theorem r_setItem (h : σ[k]? = some (.list l)) (hk : 0 < k) (h0 : 0 ≤ i) (h1 : i < l.length) : setItem (.ref k) (.int i) v σ = .ok () (σ.set k (.list (l.set i.toNat v))) := by
 refine (bind_ok (r_getO h)).trans ?_
 show (if 0 ≤ i ∧ i < l.length then setO k (.list (l.set i.toNat v)) else M.bad) σ = _
 rw [if_pos ⟨h0, h1⟩, setO_ok hk (lt_of_get h)]
theorem r_src (h : σ[k]? = some (.list l)) : srcV (.ref k) σ = .ok (.lst k) σ := bind_ok (r_getO h)
theorem r_range (h : -1000000 ≤ i ∧ i ≤ 1000000) : rangeOf (.int i) σ = .ok (.vals (rangeV 0 i)) σ := by
 show (if -1000000 ≤ i ∧ i ≤ 1000000 then pure (Src.vals (rangeV 0 i)) else M.bad : M Src) σ = _
 rw [if_pos h]; rfl
theorem r_tuple (h : σ[k]? = some (.list l)) : bTuple (.ref k) σ = .ok (.tup l) σ := bind_ok (r_getList h)
theorem r_tagL (h : σ[k]? = some (.list l)) {t : Str} {g : MTag} (e : mtag (.ref 0) t [.list []] = some g) : askS (mtag (.ref k) t) σ = .ok g σ := by
 rw [askS_eq]
 have : mtag (.ref k) t σ = mtag (.ref 0) t [.list []] := by unfold mtag; dsimp only; rw [h]; rfl
 rw [this, e]
theorem r_tagD {d : Nat} {t : Tab} (h : σ[k]? = some (.dict d t)) {nm : Str} {g : MTag} (e : mtag (.ref 0) nm [.dict 0 []] = some g) : askS (mtag (.ref k) nm) σ = .ok g σ := by
 rw [askS_eq]
 have : mtag (.ref k) nm σ = mtag (.ref 0) nm [.dict 0 []] := by unfold mtag; dsimp only; rw [h]; rfl
 rw [this, e]
theorem tag_append : mtag (.ref 0) "append" [.list []] = some .append := by kernel_rfl
theorem r_append (h : σ[k]? = some (.list l)) (hk : 0 < k) (hl : l.length < sizeLine) : runM .append (.ref k) [v] σ = .ok .none (σ.set k (.list (l ++ [v]))) := by
 refine (bind_ok (r_getList h)).trans ?_
 show (if l.length + 1 ≤ sizeLine then (setO k (.list (l ++ [v])) >>= fun ya => pure V.none) else M.bad) σ = _
 rw [if_pos (show l.length + 1 ≤ sizeLine from hl), bind_ok (setO_ok hk (lt_of_get h))]; rfl
theorem r_add {j : Nat} {m : List V} (h : σ[k]? = some (.list l)) (h' : σ[j]? = some (.list m)) (hl : l.length + m.length ≤ sizeLine) : binop .Add (.ref k) (.ref j) σ = .ok (.ref σ.length) (σ ++ [.list (l ++ m)]) := by
 refine (bind_ok (r_getList h)).trans ((bind_ok (r_getList h')).trans ?_)
 show (if l.length + m.length ≤ sizeLine then newO (.list (l ++ m)) else M.bad) σ = _
 rw [if_pos hl]; rfl
theorem r_slice {lo hi : Option Int} (h : σ[k]? = some (.list l)) : sliceV lo hi (.ref k) σ = .ok (.ref σ.length) (σ ++ [.list (cut l lo hi)]) := bind_ok (r_getList h)
theorem r_in {b : Bool} (h : σ[k]? = some (.list l)) (hv : vin σ x l = some b) : cmp .In x (.ref k) σ = .ok (.bool b) σ := by
 show (among x k >>= fun b => pure (V.bool b)) σ = _
 unfold among
 rw [M.assoc]
 refine (bind_ok (r_getO h)).trans (bind_ok (a := b) (σ' := σ) (by rw [askS_eq, hv]))
theorem r_notIn {b : Bool} (h : σ[k]? = some (.list l)) (hv : vin σ x l = some b) : cmp .NotIn x (.ref k) σ = .ok (.bool (!b)) σ := by
 show (among x k >>= fun b => pure (V.bool (!b))) σ = _
 unfold among
 rw [M.assoc]
 refine (bind_ok (r_getO h)).trans (bind_ok (a := b) (σ' := σ) (by rw [askS_eq, hv]))
theorem r_inT {b : Bool} (hv : vin σ x l = some b) : cmp .In x (.tup l) σ = .ok (.bool b) σ := bind_ok (a := b) (σ' := σ) (by show askS (fun σ => vin σ x l) σ = _; rw [askS_eq, hv])
theorem r_eq {y : V} {b : Bool} (h : veq σ x y = some b) : cmp .Eq x y σ = .ok (.bool b) σ := by show askS (fun σ => (veq σ x y).map V.bool) σ = _; rw [askS_eq, h]; rfl
theorem r_ne {y : V} {b : Bool} (h : veq σ x y = some b) : cmp .NotEq x y σ = .ok (.bool (!b)) σ := by show askS (fun σ => (veq σ x y).map fun e => V.bool (!e)) σ = _; rw [askS_eq, h]; rfl
theorem r_index {j : Nat} (h : σ[k]? = some (.list l)) (hv : vin σ x l = some true) (hj : vidx σ x l 0 = some j) : runM .index (.ref k) [x] σ = .ok (.int j) σ := by
 refine (bind_ok (r_getList h)).trans ?_
 rw [askS_eq, hv, hj]; rfl
theorem r_kdRef {t : Kd} (h : σ[k]? = some (.list l)) : isKd t (.ref k) σ = .ok (.bool (match t with | .list => true | _ => false)) σ := bind_ok (r_getList h)
theorem r_sorted {o : List V} (h : σ[k]? = some (.list l)) (h64 : l.length < 64) (hs : sortL l = some o) : bSorted (.ref k) σ = .ok (.ref σ.length) (σ ++ [.list o]) := by
 refine (bind_ok (r_getList h)).trans ?_
 rw [if_pos h64]
 exact bind_ok (a := o) (σ' := σ) (by rw [hs]; rfl)
theorem r_sum {is : List Int} (h : σ[k]? = some (.list l)) (hs : allInts l = some is) : bSum (.ref k) σ = .ok (.int is.sum) σ := (bind_ok (r_getList h)).trans (bind_ok (a := is) (σ' := σ) (by rw [hs]; rfl))
theorem r_max {z : Int} {is : List Int} (h : σ[k]? = some (.list l)) (hs : allInts l = some is) : bMax z (.ref k) σ = .ok (.int (maxOf z is)) σ := (bind_ok (r_getList h)).trans (bind_ok (a := is) (σ' := σ) (by rw [hs]; rfl))
theorem r_all {bs : List Bool} (h : σ[k]? = some (.list l)) (hs : allBools l = some bs) : bAll (.ref k) σ = .ok (.bool (bs.all id)) σ := (bind_ok (r_getList h)).trans (bind_ok (a := bs) (σ' := σ) (by rw [hs]; rfl))
variable {d : Nat} {t : Tab} {key : Key}
theorem r_getDict (h : σ[k]? = some (.dict d t)) : getDict k σ = .ok t σ := bind_ok (r_getO h)
theorem r_itemD (h : σ[k]? = some (.dict d t)) (hb : keyOf v = some key) (hx : dGet t key = some x) : item (.ref k) v σ = .ok x σ := by
 have e : item (.ref k) v = (getO k >>= fun o => match o with | .list l => itemL l v | .dict _ l => ofOpt ((keyOf v).bind (dGet l)) | _ => M.bad) := by cases v <;> rfl
 rw [e]
 refine (bind_ok (r_getO h)).trans ?_
 show ofOpt ((keyOf v).bind (dGet t)) σ = _
 rw [hb]
 show ofOpt (dGet t key) σ = _
 rw [hx]; rfl
theorem r_setD (h : σ[k]? = some (.dict d t)) (hk : 0 < k) (hb : keyOf v = some key) (hl : t.length < sizeLine) : setItem (.ref k) v x σ = .ok () (σ.set k (.dict (d + 1) (dSet t key x))) := by
 refine (bind_ok (r_getO h)).trans ?_
 show setD k t v x σ = _
 unfold setD
 rw [hb]
 show (if t.length + 1 ≤ sizeLine then putD k (dSet t key x) else M.bad) σ = _
 rw [if_pos (show t.length + 1 ≤ sizeLine from hl), putD_ok hk h]
theorem r_lenD (h : σ[k]? = some (.dict d t)) : bLen (.ref k) σ = .ok (.int t.length) σ := bind_ok (r_getO h)
theorem r_listD (h : σ[k]? = some (.dict d t)) : bList (.ref k) σ = .ok (.ref σ.length) (σ ++ [.list (t.map fun p => keyV p.1)]) := by
 show ((getO k >>= _) >>= fun l => newO (.list l)) σ = _
 rw [M.assoc]; exact bind_ok (r_getO h)
theorem r_srcD (h : σ[k]? = some (.dict d t)) : srcV (.ref k) σ = .ok (.keys k d (t.map fun p => keyV p.1)) σ := bind_ok (r_getO h)
theorem r_inD (h : σ[k]? = some (.dict d t)) (hb : keyOf v = some key) : cmp .In v (.ref k) σ = .ok (.bool (dGet t key).isSome) σ := by
 show (among v k >>= fun b => pure (V.bool b)) σ = _
 unfold among
 rw [M.assoc]
 refine (bind_ok (r_getO h)).trans ?_
 show (ofOpt ((keyOf v).map fun k => (dGet t k).isSome) >>= fun b => (pure (V.bool b) : M V)) σ = _
 rw [hb]; rfl
theorem r_dictD (h : σ[k]? = some (.dict d t)) : bDict (.ref k) σ = .ok (.ref σ.length) (σ ++ [.dict 0 t]) := bind_ok (a := t) (σ' := σ) (by
 rw [askS_eq]
 have : dictOf (.ref k) σ = some t := by unfold dictOf; dsimp only; rw [h]
 rw [this])
theorem r_dictL (h : σ[k]? = some (.list l)) (ht : pairsOf l = some t) : bDict (.ref k) σ = .ok (.ref σ.length) (σ ++ [.dict 0 (dMerge [] t)]) := bind_ok (a := dMerge [] t) (σ' := σ) (by
 rw [askS_eq]
 have : dictOf (.ref k) σ = some (dMerge [] t) := by unfold dictOf; dsimp only; rw [h]; dsimp only; rw [ht]; rfl
 rw [this])
theorem r_get (h : σ[k]? = some (.dict d t)) (hb : keyOf v = some key) : runM .get (.ref k) [v, x] σ = .ok ((dGet t key).getD x) σ := by
 refine (bind_ok (r_getDict h)).trans ?_
 show (ofOpt (keyOf v) >>= fun k => (pure ((dGet t k).getD x) : M V)) σ = _
 rw [hb]; rfl
end
section
variable {C : Cfg} {target elt : Expr} {body : List Stmt} {ifs : List Expr} {scope : Scope} {ns : Names} {σ : Store}
noncomputable def Walks (sr : Src) (l : List V) (J : Store → Prop) : Prop := ∀ σ, J σ → (∀ i, sr.at σ i = some l[i]?) ∧ sr.size σ = some l.length
theorem walks_vals {l : List V} {J : Store → Prop} : Walks (.vals l) l J := fun σ ya => ⟨fun ya => rfl, rfl⟩
theorem walks_lst {n : Nat} {l : List V} {J : Store → Prop} (h : ∀ σ, J σ → σ[n]? = some (.list l)) : Walks (.lst n) l J := fun σ hj => by
 have e : listAt σ n = some l := by unfold listAt; rw [h σ hj]
 exact ⟨fun i => by show (listAt σ n).map _ = _; rw [e]; rfl, by show (listAt σ n).map _ = _; rw [e]; rfl⟩
theorem walks_keys {n v : Nat} {t : Tab} {l : List V} {J : Store → Prop} (h : ∀ σ, J σ → σ[n]? = some (.dict v t)) : Walks (.keys n v l) l J := fun σ hj => by
 have e : verAt σ n = some v := by unfold verAt; rw [h σ hj]
 exact ⟨fun i => by show (if verAt σ n = some v then some l[i]? else none) = _; rw [if_pos e], rfl⟩
noncomputable def Turn (P : Nat → Loc → Store → Prop) (Q : Fl × Loc → Store → Prop) (i : Nat) (r : Fl × Loc) (σ : Store) : Prop := match r.1 with
 | .next => P (i + 1) r.2 σ
 | .ret _ => Q r σ
 | _ => False
theorem forLoop_wx {sr : Src} {l : List V} {bt : V → Loc → M Loc} {bd : Loc → M (Fl × Loc)} {J : Store → Prop} (hw : Walks sr l J) (P : Nat → Loc → Store → Prop) (hJ : ∀ i loc σ, P i loc σ → J σ) {Q : Fl × Loc → Store → Prop} {E : V → Store → Prop}
  (step : ∀ i v loc σ, l[i]? = some v → P i loc σ → Wx (bt v loc >>= bd) σ (Turn P Q i) E)
  (fin : ∀ loc σ, P l.length loc σ → Q (.next, loc) σ) : ∀ (k i : Nat) (loc : Loc) (σ : Store), l.length + 1 ≤ i + k → i ≤ l.length → P i loc σ → Wx (forLoop sr bt bd k i loc) σ Q E := by
 intro k
 induction k with
 | zero =>
  intro i loc σ h1 h2 _
  (first | lia | omega)
 | succ k ih =>
  intro i loc σ h1 h2 p
  obtain ⟨hat, _⟩ := hw σ (hJ i loc σ p)
  have e2 := forLoop_step (bt := bt) (body := bd) (k := k) (loc := loc) (hat i)
  rcases Nat.lt_or_ge i l.length with hl | hl
  ·have hv : l[i]? = some l[i] := List.getElem?_eq_getElem hl
   rw [hv] at e2
   rcases step i l[i] loc σ hv p with ⟨⟨fl, loc'⟩, σ', e, hr⟩ | ⟨x, σ', e, hr⟩
   ·replace e2 := e2.trans (bind_ok (m := bt l[i] loc >>= bd) e)
    cases fl with
    | next =>
     rcases ih (i + 1) loc' σ' (by (first | lia | omega)) (by (first | lia | omega)) hr with ⟨a, τ, e3, q⟩ | ⟨a, τ, e3, q⟩
     ·exact .inl ⟨a, τ, e2.trans e3, q⟩
     ·exact .inr ⟨a, τ, e2.trans e3, q⟩
    | ret u => exact .inl ⟨_, σ', e2, hr⟩
    | brk => exact hr.elim
    | cont => exact hr.elim
   ·exact .inr ⟨x, σ', e2.trans (bind_exc (m := bt l[i] loc >>= bd) e), hr⟩
  ·have : i = l.length := by (first | lia | omega)
   subst this
   rw [List.getElem?_eq_none (Nat.le_refl _)] at e2
   exact .inl ⟨_, σ, e2, fin loc σ p⟩
theorem flK_next {α : Type} {K : Fl × Loc → M α} {nx : Loc → M α} {loc : Loc} : flK K nx (.next, loc) = nx loc := rfl
theorem Wx_for {α : Type} {sr : Src} {l : List V} {J : Store → Prop} {K : Fl × Loc → M α} {nx : Loc → M α} (hC : C.calm = true) (hw : Walks sr l J) (P : Nat → Loc → Store → Prop) (hJ : ∀ i loc σ, P i loc σ → J σ) {Q : α → Store → Prop} {E : V → Store → Prop} {loc : Loc} (h0 : P 0 loc σ)
  (step : ∀ i v loc σ, l[i]? = some v → P i loc σ → Wx (bindTo (stLoc ns) target v loc >>= exs C body ns) σ (Turn P (fun r σ' => Wx (K r) σ' Q E) i) E)
  (fin : ∀ loc σ, P l.length loc σ → Wx (nx loc) σ Q E) : Wx (forAll C target body sr ns loc >>= flK K nx) σ Q E := by
 obtain ⟨_, hsz⟩ := hw σ (hJ 0 loc σ h0)
 refine Wx.step (P := fun r σ' => Wx (flK K nx r) σ' Q E) ?_ fun ya yb q => q
 unfold forAll
 rw [if_pos (by rw [hC]; rfl)]
 refine Wx_step (a := l.length) (σ' := σ) (by unfold Src.count; rw [askS_eq, hsz]) (forLoop_wx hw P hJ (fun i v loc σ hv hp => (step i v loc σ hv hp).mono fun r σ' ht => ?_) (fun loc σ hp => by rw [flK_next]; exact fin loc σ hp) (l.length + 1) 0 loc σ (by (first | lia | omega)) (by (first | lia | omega)) h0)
 obtain ⟨fl, loc'⟩ := r
 cases fl with
 | next => exact ht
 | ret u => exact ht
 | brk => exact ht
 | cont => exact ht
theorem Wp_for {α : Type} {sr : Src} {l : List V} {J : Store → Prop} {K : Fl × Loc → M α} {nx : Loc → M α} (hC : C.calm = true) (hw : Walks sr l J) (P : Nat → Loc → Store → Prop) (hJ : ∀ i loc σ, P i loc σ → J σ) {Q : α → Store → Prop} {loc : Loc} (h0 : P 0 loc σ)
  (step : ∀ i v loc σ, l[i]? = some v → P i loc σ → Wp (bindTo (stLoc ns) target v loc >>= exs C body ns) σ (Turn P (fun r σ' => Wp (K r) σ' Q) i))
  (fin : ∀ loc σ, P l.length loc σ → Wp (nx loc) σ Q) : Wp (forAll C target body sr ns loc >>= flK K nx) σ Q := by
 refine (Wx_for (E := fun ya yb => False) hC hw P hJ h0 (fun i v loc σ hv hp => .inl ((step i v loc σ hv hp).mono fun r σ' ht => ?_)) fun loc σ hp => .inl (fin loc σ hp)).elim (fun h => h) fun ⟨_, _, _, f⟩ => f.elim
 obtain ⟨fl, loc'⟩ := r
 cases fl with
 | next => exact ht
 | ret u => exact .inl ht
 | brk => exact ht
 | cont => exact ht
theorem compLoop_wp {sr : Src} {l : List V} {bt : V → Loc → M Loc} {tt : Loc → M Bool} {et : Loc → M V} {J : Store → Prop} (hw : Walks sr l J) (P : Nat → List V → Loc → Store → Prop) (hJ : ∀ i acc loc σ, P i acc loc σ → J σ)
  (step : ∀ i v acc loc σ, l[i]? = some v → P i acc loc σ → Wp (bt v loc) σ fun loc' σ₁ => Wp (tt loc') σ₁ fun b σ₂ => if b = true then Wp (et loc') σ₂ fun y σ₃ => P (i + 1) (acc ++ [y]) loc' σ₃ else P (i + 1) acc loc' σ₂) :
  ∀ (k i : Nat) (acc : List V) (loc : Loc) (σ : Store), l.length + 1 ≤ i + k → i ≤ l.length → P i acc loc σ → Wp (compLoop sr bt tt et k i loc) σ fun out σ' => ∃ loc', P l.length (acc ++ out) loc' σ' := by
 intro k
 induction k with
 | zero =>
  intro i acc loc σ h1 h2 _
  (first | lia | omega)
 | succ k ih =>
  intro i acc loc σ h1 h2 p
  obtain ⟨hat, _⟩ := hw σ (hJ i acc loc σ p)
  rcases Nat.lt_or_ge i l.length with hl | hl
  ·have hv : l[i]? = some l[i] := List.getElem?_eq_getElem hl
   have e1 : compLoop sr bt tt et (k + 1) i loc σ = (bt l[i] loc >>= fun loc' => tt loc' >>= fun c => if c = true then (et loc' >>= fun x => compLoop sr bt tt et k (i + 1) loc' >>= fun r => pure (x :: r)) else compLoop sr bt tt et k (i + 1) loc') σ := by
    rw [compLoop_step (hat i), hv]
   obtain ⟨loc', σ₁, e2, b, σ₂, e3, hb⟩ := step i l[i] acc loc σ hv p
   rw [bind_ok e2, bind_ok e3] at e1
   cases b with
   | false =>
    obtain ⟨a, τ, e4, q⟩ := ih (i + 1) acc loc' σ₂ (by (first | lia | omega)) (by (first | lia | omega)) hb
    exact ⟨a, τ, e1.trans e4, q⟩
   | true =>
    obtain ⟨y, σ₃, e4, p'⟩ := hb
    obtain ⟨a, τ, e5, loc'', q⟩ := ih (i + 1) (acc ++ [y]) loc' σ₃ (by (first | lia | omega)) (by (first | lia | omega)) p'
    refine ⟨y :: a, τ, ?_, loc'', by rw [List.append_assoc] at q; exact q⟩
    rw [e1]
    show (et loc' >>= fun x => compLoop sr bt tt et k (i + 1) loc' >>= fun r => pure (x :: r)) σ₂ = _
    rw [bind_ok e4, bind_ok e5]; rfl
  ·have : i = l.length := by (first | lia | omega)
   subst this
   have hv : l[l.length]? = none := List.getElem?_eq_none (Nat.le_refl _)
   exact ⟨[], σ, by rw [compLoop_step (hat l.length), hv]; rfl, loc, by rw [List.append_nil]; exact p⟩
theorem Wp_comp {sr : Src} {l : List V} {J : Store → Prop} (hC : C.calm = true) (hw : Walks sr l J) (hok : compOk scope.kind scope.names = true) {loc loc₀ : Loc} (hin : innerLoc ns loc scope.names = pure loc₀) (hl : l.length ≤ sizeLine) (P : Nat → List V → Loc → Store → Prop)
  (hJ : ∀ i acc loc σ, P i acc loc σ → J σ) (h0 : P 0 [] loc₀ σ)
  (step : ∀ i v acc loc σ, l[i]? = some v → P i acc loc σ → Wp (bindTo (stLocL (relab ns scope.names)) target v loc) σ fun loc' σ₁ => Wp (tests C ifs (relab ns scope.names) loc') σ₁ fun b σ₂ => if b = true then Wp (ev C elt (relab ns scope.names) loc') σ₂ fun y σ₃ => P (i + 1) (acc ++ [y]) loc' σ₃ else P (i + 1) acc loc' σ₂)
  {α : Type} {K : V → M α} {Q : α → Store → Prop} (fin : ∀ out loc σ', P l.length out loc σ' → Wp (K (.ref σ'.length)) (σ' ++ [.list out]) Q) : Wp (compAll C elt target ifs scope sr ns loc >>= K) σ Q := by
 obtain ⟨_, hsz⟩ := hw σ (hJ 0 [] _ σ h0)
 refine Wp.step (P := fun r σ' => Wp (K r) σ' Q) ?_ fun ya yb q => q
 unfold compAll
 rw [if_pos (by rw [hC, hok]; rfl)]
 refine Wp_step (σ' := σ) (a := l.length) (by unfold Src.count; rw [askS_eq, hsz]) ?_
 rw [if_pos hl, hin]
 refine Wp_step rfl ((compLoop_wp hw P hJ step (l.length + 1) 0 [] loc₀ σ (by (first | lia | omega)) (by (first | lia | omega)) h0).step fun out σ' ⟨loc', p⟩ => ?_)
 rw [List.nil_append] at p
 exact Wp_ok rfl (fin out loc' σ' p)
theorem Wp_compPure {sr : Src} {l : List V} (hC : C.calm = true) (hw : Walks sr l fun τ => τ = σ) (hok : compOk scope.kind scope.names = true) {loc loc₀ : Loc} (hin : innerLoc ns loc scope.names = pure loc₀) (hl : l.length ≤ sizeLine) (S : Loc → Prop) (hS : S loc₀) (g : V → Option V)
  (step : ∀ v loc, v ∈ l → S loc → ∃ loc', bindTo (stLocL (relab ns scope.names)) target v loc σ = .ok loc' σ ∧ S loc' ∧ ∃ b, tests C ifs (relab ns scope.names) loc' σ = .ok b σ ∧ (if b = true then ∃ y, ev C elt (relab ns scope.names) loc' σ = .ok y σ ∧ g v = some y else g v = none))
  {α : Type} {K : V → M α} {Q : α → Store → Prop} (fin : Wp (K (.ref σ.length)) (σ ++ [.list (l.filterMap g)]) Q) : Wp (compAll C elt target ifs scope sr ns loc >>= K) σ Q := by
 refine Wp_comp hC hw hok hin hl (fun i acc loc τ => τ = σ ∧ S loc ∧ acc = (l.take i).filterMap g) (fun ya yb yc yd h => h.1) ⟨rfl, hS, rfl⟩ (fun i v acc loc τ hv hp => ?_) fun out loc τ hp => ?_
 ·obtain ⟨rfl, hs, rfl⟩ := hp
  have htake : l.take (i + 1) = l.take i ++ [v] := by rw [List.take_add_one, hv]; rfl
  obtain ⟨loc', e1, hs', b, e2, h⟩ := step v loc (List.mem_of_getElem? hv) hs
  refine Wp_ok e1 (Wp_ok e2 ?_)
  rw [htake, List.filterMap_append]
  cases b with
  | false =>
   have h : g v = none := h
   exact ⟨rfl, hs', by simp [h]⟩
  | true =>
   obtain ⟨y, e3, h⟩ := h
   exact Wp_ok e3 ⟨rfl, hs', by simp [h]⟩
 ·obtain ⟨rfl, _, rfl⟩ := hp
  rw [List.take_length]
  exact fin
end
noncomputable def LeEx (X : List Nat) (σ σ' : Store) : Prop := ∀ (n : Nat) (o : O), n ∉ X → σ[n]? = some o → σ'[n]? = some o
noncomputable abbrev Le (σ σ' : Store) : Prop := LeEx [] σ σ'
section
variable {X Y : List Nat} {σ σ' σ'' τ : Store}
theorem LeEx.refl : LeEx X σ σ := fun ya yb yc h => h
theorem LeEx.trans (h : LeEx X σ σ') (h' : LeEx X σ' σ'') : LeEx X σ σ'' := fun n o hn e => h' n o hn (h n o hn e)
theorem LeEx.mono (h : LeEx X σ σ') (hs : ∀ n ∈ X, n ∈ Y) : LeEx Y σ σ' := fun n o hn e => h n o (fun hm => hn (hs n hm)) e
theorem LeEx.ex (h : Le σ σ') : LeEx X σ σ' := h.mono fun ya hm => nomatch hm
theorem LeEx.at (h : Le σ σ') {n : Nat} {o : O} (e : σ[n]? = some o) : σ'[n]? = some o := h n o List.not_mem_nil e
theorem LeEx.push {o : O} : LeEx X σ (σ ++ [o]) := fun n o' ya e => by rw [List.getElem?_append_left (lt_of_get e)]; exact e
theorem LeEx.new (h : LeEx X σ τ) {o : O} : LeEx X σ (τ ++ [o]) := h.trans .push
theorem LeEx.set {k : Nat} {o : O} (hk : k ∈ X) (h : LeEx X σ τ) : LeEx X σ (τ.set k o) := fun n o' hn e => by
 rw [List.getElem?_set_ne (fun eq : k = n => hn (by rw [← eq]; exact hk))]; exact h n o' hn e
theorem LeEx.setNew {k : Nat} {o : O} (h : LeEx X σ τ) (hk : σ.length ≤ k) : LeEx X σ (τ.set k o) := fun n o' hn e => by
 rw [List.getElem?_set_ne (fun eq => by have := lt_of_get e; (first | lia | omega))]; exact h n o' hn e
theorem LeEx.after (h : LeEx Y σ σ') (h' : LeEx X σ' σ'') (hX : ∀ n ∈ X, n ∈ Y ∨ σ.length ≤ n) : LeEx Y σ σ'' := fun n o hn e =>
 h' n o (fun hm => (hX n hm).elim hn fun hl => absurd (lt_of_get e) (Nat.not_lt.mpr hl)) (h n o hn e)
theorem get_new {o : O} : (σ ++ [o])[σ.length]? = some o := by rw [List.getElem?_append_right (Nat.le_refl _), Nat.sub_self]; rfl
theorem set_get {n : Nat} {o o' : O} (h : σ[n]? = some o) : (σ.set n o')[n]? = some o' := List.getElem?_set_self (lt_of_get h)
theorem set_ne {n k : Nat} {o o' : O} (hk : k ≠ n) (h : σ[n]? = some o) : (σ.set k o')[n]? = some o := by rw [List.getElem?_set_ne hk]; exact h
theorem push_at {n : Nat} {o o' : O} (h : σ[n]? = some o) : (σ ++ [o'])[n]? = some o := by rw [List.getElem?_append_left (lt_of_get h)]; exact h
theorem len_set {k : Nat} {o : O} : (σ.set k o).length = σ.length := List.length_set ..
noncomputable def Len (σ σ' : Store) : Prop := σ.length ≤ σ'.length
end
theorem range_val {n : Int} {i : Nat} {v : V} (h : (rangeV 0 n)[i]? = some v) : v = .int i ∧ (i : Int) < n := by
 rw [rangeV_get] at h
 split at h
 ·cases h; exact ⟨by rw [Int.zero_add], by (first | lia | omega)⟩
 ·cases h
theorem range_len {n : Int} : (rangeV 0 n).length = n.toNat := by unfold rangeV; simp
end Mine.Internal

set_option backward.match.sparseCases false
namespace Mine.Internal
open PySem PyProof.Rows
noncomputable def tab03 : List (Str × Fn) := defsV PySem.Challenge.pw_uf010004_03
noncomputable def gs03 : List (Str × V) := [(Str.ofString "MOST_KNOTS", (V.int 200)), (Str.ofString "MOST_DEEP", (V.int 12)), (Str.ofString "MOST_LETTERS", (V.int 8)), (Str.ofString "LETTERS", (V.str (Str.ofString "abcdefghijklmnopqrstuvwxyz")))]
noncomputable def us03 : List (Str × List Str) := [(Str.ofString "FieldError", [Str.ofString "FieldError", Str.ofString "ValueError"]), (Str.ofString "BadKind", [Str.ofString "BadKind", Str.ofString "FieldError", Str.ofString "ValueError"]), (Str.ofString "BadFill", [Str.ofString "BadFill", Str.ofString "FieldError", Str.ofString "ValueError"]), (Str.ofString "NoDefinition", [Str.ofString "NoDefinition", Str.ofString "FieldError", Str.ofString "ValueError"]), (Str.ofString "TooGreat", [Str.ofString "TooGreat", Str.ofString "FieldError", Str.ofString "ValueError"]), (Str.ofString "Lacks", [Str.ofString "Lacks", Str.ofString "FieldError", Str.ofString "ValueError"]), (Str.ofString "NoNumber", [Str.ofString "NoNumber", Str.ofString "FieldError", Str.ofString "ValueError"]), (Str.ofString "NoRecord", [Str.ofString "NoRecord", Str.ofString "FieldError", Str.ofString "ValueError"])]
noncomputable def gl03 : Str → Option V := globT gs03
noncomputable def up03 : Str → Option (List Str) := upsT us03
noncomputable def cl03 (d : Nat) (f : Str) (as : List V) : M V := callN (fnsT tab03) gl03 up03 d true f as
noncomputable def cf03 (d : Nat) : Cfg := cfgN (fnsT tab03) gl03 up03 d true
theorem cl03_succ {f : Str} {fn : Fn} (h : fnsT tab03 f = some fn) (d : Nat) (as : List V) : cl03 (d + 1) f as = callFn (cf03 d) fn as := by
 show callN _ _ _ (d + 1) true f as = _
 unfold callN
 rw [h]; rfl
noncomputable def cq03 (d : Nat) (f : Str) (as : List V) : M V := callN (fnsT tab03) gl03 up03 d false f as
noncomputable def cfq03 (d : Nat) : Cfg := cfgN (fnsT tab03) gl03 up03 d false
theorem cq03_succ {f : Str} {fn : Fn} (h : fnsT tab03 f = some fn) (d : Nat) (as : List V) : cq03 (d + 1) f as = callFn (cfq03 d) fn as := by
 show callN _ _ _ (d + 1) false f as = _
 unfold callN
 rw [h]; rfl
noncomputable def P_is_word_F : Fn := (fnsT tab03 "is_word").getD ⟨[], [], []⟩
theorem P_is_word_K : fnsT tab03 "is_word" = some P_is_word_F := by kernel_rfl
noncomputable def P_is_word_c1 : Expr := (ePart (sVal (nthS P_is_word_F.body 1)) 1)
theorem P_is_word_c1_in (va : V) : innerLoc P_is_word_F.names [some va, none, none, none, none, none] (cScope P_is_word_c1).names = pure [none, none, none] := by kernel_rfl
theorem P_is_word_c1_bind (oa : Option V) (vb : V) : bindTo (stLocL (relab P_is_word_F.names (cScope P_is_word_c1).names)) (cTgt P_is_word_c1) vb [none, oa, none] = pure [none, some vb, none] := by kernel_rfl
theorem P_is_word_c1_elt (d : Nat) (va : V) : ev (cf03 d) (cElt P_is_word_c1) (relab P_is_word_F.names (cScope P_is_word_c1).names) [none, some va, none] = (cmp .In va (V.str (Str.ofString "abcdefghijklmnopqrstuvwxyz")) >>= fun t0 => (pure t0 : M V)) := by kernel_rfl
theorem P_is_word_c1_tst (d : Nat) (loc : Loc) : tests (cf03 d) (cIfs P_is_word_c1) (relab P_is_word_F.names (cScope P_is_word_c1).names) loc = (pure true : M Bool) := by kernel_rfl
theorem P_is_word_c1_ok : compOk (cScope P_is_word_c1).kind (cScope P_is_word_c1).names = true := by kernel_rfl
noncomputable def P_is_word_t1 (d : Nat) (va : V) : M V := (srcV va >>= fun s0 => (compAll (cf03 d) (cElt P_is_word_c1) (cTgt P_is_word_c1) (cIfs P_is_word_c1) (cScope P_is_word_c1) s0 P_is_word_F.names [some va, none, none, none, none, none] >>= fun t1 => (bAll t1 >>= fun t2 => (pure t2 : M V))))
theorem P_is_word_sh (d : Nat) (va : V) : cl03 (d + 1) "is_word" [va] = ((isKd Kd.str va >>= fun t0 => (truth t0 >>= fun b1 => (M.cond (!b1) (pure true : M Bool) ((bLen va >>= fun t2 => (cmp .LtE (V.int 1) t2 >>= fun t3 => boolK t3 (cmp .LtE t2 (V.int 8) >>= fun t4 => (pure t4 : M V)) (pure (V.bool false) : M V))) >>= fun t5 => (truth t5 >>= fun b6 => (M.cond (!b6) (pure true : M Bool) (pure false : M Bool))))))) >>= fun b7 => (M.cond b7 (pure (V.bool false) : M V) (P_is_word_t1 d va))) :=
 (cl03_succ P_is_word_K d _).trans (by kernel_rfl)
noncomputable def P_is_count_F : Fn := (fnsT tab03 "is_count").getD ⟨[], [], []⟩
theorem P_is_count_K : fnsT tab03 "is_count" = some P_is_count_F := by kernel_rfl
theorem P_is_count_sh (d : Nat) (va : V) : cl03 (d + 1) "is_count" [va] = (isKd Kd.int va >>= fun t0 => (truth t0 >>= fun b1 => M.cond b1 (isKd Kd.bool va >>= fun t2 => (truth t2 >>= fun b3 => (truth (V.bool (!b3)) >>= fun b4 => M.cond b4 (cmp .GtE va (V.int 0) >>= fun t5 => (pure t5 : M V)) (pure (V.bool (!b3)) : M V)))) (pure t0 : M V))) :=
 (cl03_succ P_is_count_K d _).trans (by kernel_rfl)
noncomputable def P_is_row_F : Fn := (fnsT tab03 "is_row").getD ⟨[], [], []⟩
theorem P_is_row_K : fnsT tab03 "is_row" = some P_is_row_F := by kernel_rfl
noncomputable def P_is_row_l1 : Stmt := (nthS P_is_row_F.body 2)
noncomputable def P_is_row_t2 (d : Nat) (va vb vc vd ve : V) : M (Fl × Loc) := (item ve (V.int 0) >>= fun t0 => (item ve (V.int 1) >>= fun t1 => (cl03 d "is_form" [t1, vc] >>= fun t2 => (truth t2 >>= fun b3 => (M.cond (!b3) (pure (Fl.ret (V.bool false), [some va, some vb, some vc, some t0, some ve, none, none, none, none, none, none]) : M (Fl × Loc)) (pure (Fl.next, [some va, some vb, some vc, some t0, some ve, none, none, none, none, none, none]) : M (Fl × Loc)))))))
theorem P_is_row_l1_step (d : Nat) (va vb vc vd ve : V) (of : Option V) : (bindTo (stLoc P_is_row_F.names) (sTgt P_is_row_l1) va [some vb, some vc, some vd, some ve, of, none, none, none, none, none, none] >>= exs (cf03 d) (sBody P_is_row_l1) P_is_row_F.names) = ((isKd Kd.tuple va >>= fun t0 => (truth t0 >>= fun b1 => (M.cond (!b1) (pure true : M Bool) (bLen va >>= fun t2 => (cmp .NotEq t2 (V.int 2) >>= fun t3 => (truth t3 >>= fun b4 => (M.cond b4 (pure true : M Bool) (item va (V.int 0) >>= fun t5 => (cl03 d "is_word" [t5] >>= fun t6 => (truth t6 >>= fun b7 => (M.cond (!b7) (pure true : M Bool) (item va (V.int 0) >>= fun t8 => (cmp .LtE t8 ve >>= fun t9 => (truth t9 >>= fun b10 => (M.cond b10 (pure true : M Bool) (pure false : M Bool)))))))))))))))) >>= fun b11 => (M.cond b11 (pure (Fl.ret (V.bool false), [some vb, some vc, some vd, some ve, some va, none, none, none, none, none, none]) : M (Fl × Loc)) (P_is_row_t2 d vb vc vd ve va))) := by kernel_rfl
noncomputable def P_is_row_a1 (d : Nat) (loc : Loc) : M V := exsK (cf03 d) (List.drop 3 P_is_row_F.body) P_is_row_F.names loc retK
theorem P_is_row_a1_eq (d : Nat) (va vb vc vd : V) (oe : Option V) : P_is_row_a1 d [some va, some vb, some vc, some vd, oe, none, none, none, none, none, none] = (pure (V.bool true) : M V) := by kernel_rfl
noncomputable def P_is_row_t1 (d : Nat) (va vb vc : V) : M V := (srcV va >>= fun s0 => (forAll (cf03 d) (sTgt P_is_row_l1) (sBody P_is_row_l1) s0 P_is_row_F.names [some va, some vb, some vc, some (V.str (Str.ofString "")), none, none, none, none, none, none, none] >>= flK retK (P_is_row_a1 d)))
theorem P_is_row_sh (d : Nat) (va vb vc : V) : cl03 (d + 1) "is_row" [va, vb, vc] = ((isKd Kd.tuple va >>= fun t0 => (truth t0 >>= fun b1 => (M.cond (!b1) (pure true : M Bool) ((cmp .IsNot vb V.none >>= fun t2 => (truth t2 >>= fun b3 => (M.cond b3 (cl03 d "is_count" [vb] >>= fun t4 => (truth t4 >>= fun b5 => (M.cond (!b5) (pure true : M Bool) (pure false : M Bool)))) (pure false : M Bool)))) >>= fun b6 => (M.cond b6 (pure true : M Bool) (pure false : M Bool)))))) >>= fun b7 => (M.cond b7 (pure (V.bool false) : M V) (P_is_row_t1 d va vb vc))) :=
 (cl03_succ P_is_row_K d _).trans (by kernel_rfl)
noncomputable def P_is_form_F : Fn := (fnsT tab03 "is_form").getD ⟨[], [], []⟩
theorem P_is_form_K : fnsT tab03 "is_form" = some P_is_form_F := by kernel_rfl
noncomputable def P_is_form_t3 (d : Nat) (va vb : V) : M V := (item va (V.int 0) >>= fun t0 => (cmp .Eq t0 (V.str (Str.ofString "record")) >>= fun t1 => (truth t1 >>= fun b2 => M.cond b2 (bLen va >>= fun t3 => (cmp .Eq t3 (V.int 3) >>= fun t4 => (truth t4 >>= fun b5 => M.cond b5 (item va (V.int 1) >>= fun t6 => (item va (V.int 2) >>= fun t7 => (binop .Sub vb (V.int 1) >>= fun t8 => (cl03 d "is_row" [t6, t7, t8] >>= fun t9 => (pure t9 : M V))))) (pure t4 : M V)))) (pure t1 : M V))))
noncomputable def P_is_form_t2 (d : Nat) (va vb : V) : M V := (item va (V.int 0) >>= fun t0 => (cmp .Eq t0 (V.str (Str.ofString "blank")) >>= fun t1 => (truth t1 >>= fun b2 => (M.cond b2 (bLen va >>= fun t3 => (cmp .Eq t3 (V.int 2) >>= fun t4 => (truth t4 >>= fun b5 => M.cond b5 (item va (V.int 1) >>= fun t6 => (cl03 d "is_count" [t6] >>= fun t7 => (pure t7 : M V))) (pure t4 : M V)))) (P_is_form_t3 d va vb)))))
noncomputable def P_is_form_t1 (d : Nat) (va vb : V) : M V := (item va (V.int 0) >>= fun t0 => (cmp .Eq t0 (V.str (Str.ofString "number")) >>= fun t1 => (truth t1 >>= fun b2 => (M.cond b2 (bLen va >>= fun t3 => (cmp .Eq t3 (V.int 1) >>= fun t4 => (pure t4 : M V))) (P_is_form_t2 d va vb)))))
theorem P_is_form_sh (d : Nat) (va vb : V) : cl03 (d + 1) "is_form" [va, vb] = ((cmp .Eq vb (V.int 0) >>= fun t0 => (truth t0 >>= fun b1 => (M.cond b1 (pure true : M Bool) (isKd Kd.tuple va >>= fun t2 => (truth t2 >>= fun b3 => (M.cond (!b3) (pure true : M Bool) (bLen va >>= fun t4 => (cmp .Eq t4 (V.int 0) >>= fun t5 => (truth t5 >>= fun b6 => (M.cond b6 (pure true : M Bool) (item va (V.int 0) >>= fun t7 => (isKd Kd.str t7 >>= fun t8 => (truth t8 >>= fun b9 => (M.cond (!b9) (pure true : M Bool) (pure false : M Bool))))))))))))))) >>= fun b10 => (M.cond b10 (pure (V.bool false) : M V) (P_is_form_t1 d va vb))) :=
 (cl03_succ P_is_form_K d _).trans (by kernel_rfl)
noncomputable def P_knots_of_F : Fn := (fnsT tab03 "knots_of").getD ⟨[], [], []⟩
theorem P_knots_of_K : fnsT tab03 "knots_of" = some P_knots_of_F := by kernel_rfl
noncomputable def P_knots_of_c1 : Expr := (ePart (ePart (sVal (nthS P_knots_of_F.body 1)) 1) 1)
theorem P_knots_of_c1_in (va : V) : innerLoc P_knots_of_F.names [some va, none] (cScope P_knots_of_c1).names = pure [none, none, none, none] := by kernel_rfl
theorem P_knots_of_c1_bind (oa ob : Option V) (vc vd : V) : bindTo (stLocL (relab P_knots_of_F.names (cScope P_knots_of_c1).names)) (cTgt P_knots_of_c1) (.tup [vc, vd]) [none, oa, ob, none] = pure [none, some vc, some vd, none] := by kernel_rfl
theorem P_knots_of_c1_elt (d : Nat) (va vb : V) : ev (cf03 d) (cElt P_knots_of_c1) (relab P_knots_of_F.names (cScope P_knots_of_c1).names) [none, some va, some vb, none] = (cl03 d "knots_of" [vb] >>= fun t0 => (pure t0 : M V)) := by kernel_rfl
theorem P_knots_of_c1_tst (d : Nat) (loc : Loc) : tests (cf03 d) (cIfs P_knots_of_c1) (relab P_knots_of_F.names (cScope P_knots_of_c1).names) loc = (pure true : M Bool) := by kernel_rfl
theorem P_knots_of_c1_ok : compOk (cScope P_knots_of_c1).kind (cScope P_knots_of_c1).names = true := by kernel_rfl
noncomputable def P_knots_of_t1 (d : Nat) (va : V) : M V := (item va (V.int 1) >>= fun t0 => (srcV t0 >>= fun s1 => (compAll (cf03 d) (cElt P_knots_of_c1) (cTgt P_knots_of_c1) (cIfs P_knots_of_c1) (cScope P_knots_of_c1) s1 P_knots_of_F.names [some va, none] >>= fun t2 => (bSum t2 >>= fun t3 => (binop .Add (V.int 1) t3 >>= fun t4 => (pure t4 : M V))))))
theorem P_knots_of_sh (d : Nat) (va : V) : cl03 (d + 1) "knots_of" [va] = (item va (V.int 0) >>= fun t0 => (cmp .NotEq t0 (V.str (Str.ofString "record")) >>= fun t1 => (truth t1 >>= fun b2 => (M.cond b2 (pure (V.int 1) : M V) (P_knots_of_t1 d va))))) :=
 (cl03_succ P_knots_of_K d _).trans (by kernel_rfl)
noncomputable def P_depth_of_F : Fn := (fnsT tab03 "depth_of").getD ⟨[], [], []⟩
theorem P_depth_of_K : fnsT tab03 "depth_of" = some P_depth_of_F := by kernel_rfl
noncomputable def P_depth_of_c1 : Expr := (ePart (ePart (sVal (nthS P_depth_of_F.body 1)) 1) 1)
theorem P_depth_of_c1_in (va : V) : innerLoc P_depth_of_F.names [some va, none] (cScope P_depth_of_c1).names = pure [none, none, none, none] := by kernel_rfl
theorem P_depth_of_c1_bind (oa ob : Option V) (vc vd : V) : bindTo (stLocL (relab P_depth_of_F.names (cScope P_depth_of_c1).names)) (cTgt P_depth_of_c1) (.tup [vc, vd]) [none, oa, ob, none] = pure [none, some vc, some vd, none] := by kernel_rfl
theorem P_depth_of_c1_elt (d : Nat) (va vb : V) : ev (cf03 d) (cElt P_depth_of_c1) (relab P_depth_of_F.names (cScope P_depth_of_c1).names) [none, some va, some vb, none] = (cl03 d "depth_of" [vb] >>= fun t0 => (pure t0 : M V)) := by kernel_rfl
theorem P_depth_of_c1_tst (d : Nat) (loc : Loc) : tests (cf03 d) (cIfs P_depth_of_c1) (relab P_depth_of_F.names (cScope P_depth_of_c1).names) loc = (pure true : M Bool) := by kernel_rfl
theorem P_depth_of_c1_ok : compOk (cScope P_depth_of_c1).kind (cScope P_depth_of_c1).names = true := by kernel_rfl
noncomputable def P_depth_of_t1 (d : Nat) (va : V) : M V := (item va (V.int 1) >>= fun t0 => (srcV t0 >>= fun s1 => (compAll (cf03 d) (cElt P_depth_of_c1) (cTgt P_depth_of_c1) (cIfs P_depth_of_c1) (cScope P_depth_of_c1) s1 P_depth_of_F.names [some va, none] >>= fun t2 => (bMax 0 t2 >>= fun t3 => (binop .Add (V.int 1) t3 >>= fun t4 => (pure t4 : M V))))))
theorem P_depth_of_sh (d : Nat) (va : V) : cl03 (d + 1) "depth_of" [va] = (item va (V.int 0) >>= fun t0 => (cmp .NotEq t0 (V.str (Str.ofString "record")) >>= fun t1 => (truth t1 >>= fun b2 => (M.cond b2 (pure (V.int 1) : M V) (P_depth_of_t1 d va))))) :=
 (cl03_succ P_depth_of_K d _).trans (by kernel_rfl)
noncomputable def P_note_blanks_F : Fn := (fnsT tab03 "note_blanks").getD ⟨[], [], []⟩
theorem P_note_blanks_K : fnsT tab03 "note_blanks" = some P_note_blanks_F := by kernel_rfl
noncomputable def P_note_blanks_l1 : Stmt := (nthS (sBody (nthS P_note_blanks_F.body 1)) 0)
theorem P_note_blanks_l1_step (d : Nat) (va vb vc vd : V) (oe of : Option V) : (bindTo (stLoc P_note_blanks_F.names) (sTgt P_note_blanks_l1) (.tup [va, vb]) [some vc, some vd, of, oe, none, none] >>= exs (cf03 d) (sBody P_note_blanks_l1) P_note_blanks_F.names) = (cl03 d "note_blanks" [vb, vd] >>= fun t0 => (pure (Fl.next, [some vc, some vd, some va, some vb, none, none]) : M (Fl × Loc))) := by kernel_rfl
noncomputable def P_note_blanks_a1 (d : Nat) (loc : Loc) : M V := exsK (cf03 d) (List.drop 1 (sBody (nthS P_note_blanks_F.body 1))) P_note_blanks_F.names loc (flK retK (fun loc' => exsK (cf03 d) (List.drop 2 P_note_blanks_F.body) P_note_blanks_F.names loc' retK))
noncomputable def P_note_blanks_c1 : Expr := (ePart (ePart (ePart (sVal (nthS (sBody (nthS (sBody (nthS P_note_blanks_F.body 1)) 1)) 0)) 1) 1) 1)
theorem P_note_blanks_c1_in (va vb : V) (oc od : Option V) : innerLoc P_note_blanks_F.names [some va, some vb, oc, od, none, none] (cScope P_note_blanks_c1).names = pure [none, none, none] := by kernel_rfl
theorem P_note_blanks_c1_bind (oa ob : Option V) (vc vd : V) : bindTo (stLocL (relab P_note_blanks_F.names (cScope P_note_blanks_c1).names)) (cTgt P_note_blanks_c1) (.tup [vc, vd]) [none, oa, ob] = pure [none, some vc, some vd] := by kernel_rfl
theorem P_note_blanks_c1_elt (d : Nat) (va vb : V) : ev (cf03 d) (cElt P_note_blanks_c1) (relab P_note_blanks_F.names (cScope P_note_blanks_c1).names) [none, some va, some vb] = (pure va : M V) := by kernel_rfl
theorem P_note_blanks_c1_tst (d : Nat) (loc : Loc) : tests (cf03 d) (cIfs P_note_blanks_c1) (relab P_note_blanks_F.names (cScope P_note_blanks_c1).names) loc = (pure true : M Bool) := by kernel_rfl
theorem P_note_blanks_c1_ok : compOk (cScope P_note_blanks_c1).kind (cScope P_note_blanks_c1).names = true := by kernel_rfl
theorem P_note_blanks_a1_eq (d : Nat) (va vb : V) (oc od : Option V) : P_note_blanks_a1 d [some va, some vb, od, oc, none, none] = (item va (V.int 2) >>= fun t0 => (cmp .IsNot t0 V.none >>= fun t1 => (truth t1 >>= fun b2 => (M.cond b2 (askS (mtag vb "append") >>= fun g3 => (item va (V.int 2) >>= fun t4 => (item va (V.int 1) >>= fun t5 => (srcV t5 >>= fun s6 => (compAll (cf03 d) (cElt P_note_blanks_c1) (cTgt P_note_blanks_c1) (cIfs P_note_blanks_c1) (cScope P_note_blanks_c1) s6 P_note_blanks_F.names [some va, some vb, od, oc, none, none] >>= fun t7 => (bTuple t7 >>= fun t8 => (runM g3 vb [(V.tup [t4, t8])] >>= fun t9 => (pure V.none : M V)))))))) (pure V.none : M V))))) := by kernel_rfl
noncomputable def P_note_blanks_t1 (d : Nat) (va vb : V) : M V := (item va (V.int 0) >>= fun t0 => (cmp .Eq t0 (V.str (Str.ofString "record")) >>= fun t1 => (truth t1 >>= fun b2 => (M.cond b2 (item va (V.int 1) >>= fun t3 => (srcV t3 >>= fun s4 => (forAll (cf03 d) (sTgt P_note_blanks_l1) (sBody P_note_blanks_l1) s4 P_note_blanks_F.names [some va, some vb, none, none, none, none] >>= flK (flK retK (fun loc' => exsK (cf03 d) (List.drop 2 P_note_blanks_F.body) P_note_blanks_F.names loc' retK)) (P_note_blanks_a1 d)))) (pure V.none : M V)))))
theorem P_note_blanks_sh (d : Nat) (va vb : V) : cl03 (d + 1) "note_blanks" [va, vb] = (item va (V.int 0) >>= fun t0 => (cmp .Eq t0 (V.str (Str.ofString "blank")) >>= fun t1 => (truth t1 >>= fun b2 => (M.cond b2 (askS (mtag vb "append") >>= fun g3 => (item va (V.int 1) >>= fun t4 => (runM g3 vb [(V.tup [t4, V.none])] >>= fun t5 => (P_note_blanks_t1 d va vb)))) (P_note_blanks_t1 d va vb))))) :=
 (cl03_succ P_note_blanks_K d _).trans (by kernel_rfl)
noncomputable def P_blanks_of_F : Fn := (fnsT tab03 "blanks_of").getD ⟨[], [], []⟩
theorem P_blanks_of_K : fnsT tab03 "blanks_of" = some P_blanks_of_F := by kernel_rfl
noncomputable def P_blanks_of_l1 : Stmt := (nthS P_blanks_of_F.body 1)
theorem P_blanks_of_l1_step (d : Nat) (va vb vc : V) (od : Option V) : (bindTo (stLoc P_blanks_of_F.names) (sTgt P_blanks_of_l1) va [some vb, some vc, od, none, none, none, none] >>= exs (cf03 d) (sBody P_blanks_of_l1) P_blanks_of_F.names) = (cl03 d "note_blanks" [va, vc] >>= fun t0 => (pure (Fl.next, [some vb, some vc, some va, none, none, none, none]) : M (Fl × Loc))) := by kernel_rfl
noncomputable def P_blanks_of_a1 (d : Nat) (loc : Loc) : M V := exsK (cf03 d) (List.drop 2 P_blanks_of_F.body) P_blanks_of_F.names loc retK
noncomputable def P_blanks_of_l2 : Stmt := (nthS P_blanks_of_F.body 3)
theorem P_blanks_of_l2_step (d : Nat) (va vb vc vd : V) (oe : Option V) (vf : V) (og oh : Option V) : (bindTo (stLoc P_blanks_of_F.names) (sTgt P_blanks_of_l2) (.tup [va, vb]) [some vc, some vd, oe, some vf, oh, og, none] >>= exs (cf03 d) (sBody P_blanks_of_l2) P_blanks_of_F.names) = (askS (mtag vf "setdefault") >>= fun g0 => (runM g0 vf [va, vb] >>= fun t1 => (cmp .NotEq t1 vb >>= fun t2 => (truth t2 >>= fun b3 => (M.cond b3 (pure (Fl.ret V.none, [some vc, some vd, oe, some vf, some va, some vb, none]) : M (Fl × Loc)) (pure (Fl.next, [some vc, some vd, oe, some vf, some va, some vb, none]) : M (Fl × Loc))))))) := by kernel_rfl
noncomputable def P_blanks_of_a2 (d : Nat) (loc : Loc) : M V := exsK (cf03 d) (List.drop 4 P_blanks_of_F.body) P_blanks_of_F.names loc retK
theorem P_blanks_of_a2_eq (d : Nat) (va vb : V) (oc : Option V) (vd : V) (oe of : Option V) : P_blanks_of_a2 d [some va, some vb, oc, some vd, of, oe, none] = (pure vd : M V) := by kernel_rfl
theorem P_blanks_of_a1_eq (d : Nat) (va vb : V) (oc : Option V) : P_blanks_of_a1 d [some va, some vb, oc, none, none, none, none] = (newO (.dict 0 []) >>= fun t0 => (srcV vb >>= fun s1 => (forAll (cf03 d) (sTgt P_blanks_of_l2) (sBody P_blanks_of_l2) s1 P_blanks_of_F.names [some va, some vb, oc, some t0, none, none, none] >>= flK retK (P_blanks_of_a2 d)))) := by kernel_rfl
theorem P_blanks_of_sh (d : Nat) (va : V) : cl03 (d + 1) "blanks_of" [va] = (newO (.list []) >>= fun t0 => (srcV va >>= fun s1 => (forAll (cf03 d) (sTgt P_blanks_of_l1) (sBody P_blanks_of_l1) s1 P_blanks_of_F.names [some va, some t0, none, none, none, none, none] >>= flK retK (P_blanks_of_a1 d)))) :=
 (cl03_succ P_blanks_of_K d _).trans (by kernel_rfl)
noncomputable def P_is_kind_F : Fn := (fnsT tab03 "is_kind").getD ⟨[], [], []⟩
theorem P_is_kind_K : fnsT tab03 "is_kind" = some P_is_kind_F := by kernel_rfl
theorem P_is_kind_sh (d : Nat) (va : V) : cl03 (d + 1) "is_kind" [va] = (cl03 d "is_form" [va, (V.int 12)] >>= fun t0 => (truth t0 >>= fun b1 => M.cond b1 (cl03 d "knots_of" [va] >>= fun t2 => (cmp .LtE t2 (V.int 200) >>= fun t3 => (truth t3 >>= fun b4 => M.cond b4 (newO (.list [va]) >>= fun t5 => (cl03 d "blanks_of" [t5] >>= fun t6 => (cmp .IsNot t6 V.none >>= fun t7 => (pure t7 : M V)))) (pure t3 : M V)))) (pure t0 : M V))) :=
 (cl03_succ P_is_kind_K d _).trans (by kernel_rfl)
noncomputable def P_need_fill_F : Fn := (fnsT tab03 "need_fill").getD ⟨[], [], []⟩
theorem P_need_fill_K : fnsT tab03 "need_fill" = some P_need_fill_F := by kernel_rfl
noncomputable def P_need_fill_l1 : Stmt := (nthS P_need_fill_F.body 2)
theorem P_need_fill_l1_step (d : Nat) (va vb vc vd : V) (oe of : Option V) : (bindTo (stLoc P_need_fill_F.names) (sTgt P_need_fill_l1) (.tup [va, vb]) [some vc, some vd, of, oe, none, none, none, none, none, none, none] >>= exs (cf03 d) (sBody P_need_fill_l1) P_need_fill_F.names) = (cmp .In va vd >>= fun t0 => (truth t0 >>= fun b1 => (M.cond b1 (newO (.exc (Str.ofString "BadFill") []) >>= fun e141 => (M.throw e141 : M (Fl × Loc))) (pure (Fl.next, [some vc, some vd, some va, some vb, none, none, none, none, none, none, none]) : M (Fl × Loc))))) := by kernel_rfl
noncomputable def P_need_fill_a1 (d : Nat) (loc : Loc) : M V := exsK (cf03 d) (List.drop 3 P_need_fill_F.body) P_need_fill_F.names loc retK
theorem P_need_fill_a1_eq (d : Nat) (va vb : V) (oc od : Option V) : P_need_fill_a1 d [some va, some vb, od, oc, none, none, none, none, none, none, none] = (pure V.none : M V) := by kernel_rfl
noncomputable def P_need_fill_t2 (d : Nat) (va vb : V) : M V := (item va (V.int 0) >>= fun t0 => (srcV t0 >>= fun s1 => (forAll (cf03 d) (sTgt P_need_fill_l1) (sBody P_need_fill_l1) s1 P_need_fill_F.names [some va, some vb, none, none, none, none, none, none, none, none, none] >>= flK retK (P_need_fill_a1 d))))
noncomputable def P_need_fill_t1 (d : Nat) (va vb : V) : M V := ((isKd Kd.tuple va >>= fun t0 => (truth t0 >>= fun b1 => (M.cond (!b1) (pure true : M Bool) (bLen va >>= fun t2 => (cmp .NotEq t2 (V.int 2) >>= fun t3 => (truth t3 >>= fun b4 => (M.cond b4 (pure true : M Bool) (item va (V.int 0) >>= fun t5 => (item va (V.int 1) >>= fun t6 => (cl03 d "is_row" [t5, t6, (V.int 12)] >>= fun t7 => (truth t7 >>= fun b8 => (M.cond (!b8) (pure true : M Bool) (pure false : M Bool))))))))))))) >>= fun b9 => (M.cond b9 (newO (.exc (Str.ofString "BadFill") []) >>= fun e154 => (M.throw e154 : M V)) (P_need_fill_t2 d va vb)))
noncomputable def P_need_fill_t3 (d : Nat) (va vb : V) : M V := (pure V.none : M V)
theorem P_need_fill_sh (d : Nat) (va vb : V) : cl03 (d + 1) "need_fill" [va, vb] = (cmp .Is vb V.none >>= fun t0 => (truth t0 >>= fun b1 => (M.cond b1 (cl03 d "is_form" [va, (V.int 12)] >>= fun t2 => (truth t2 >>= fun b3 => (M.cond (!b3) (newO (.exc (Str.ofString "BadFill") []) >>= fun e159 => (M.throw e159 : M V)) (P_need_fill_t3 d va vb)))) (P_need_fill_t1 d va vb)))) :=
 (cl03_succ P_need_fill_K d _).trans (by kernel_rfl)
noncomputable def P_with_fills_F : Fn := (fnsT tab03 "with_fills").getD ⟨[], [], []⟩
theorem P_with_fills_K : fnsT tab03 "with_fills" = some P_with_fills_F := by kernel_rfl
noncomputable def P_with_fills_c1 : Expr := (sVal (nthS P_with_fills_F.body 2))
theorem P_with_fills_c1_in (va vb : V) : innerLoc P_with_fills_F.names [some va, some vb, none, none, none, none, none] (cScope P_with_fills_c1).names = pure [none, none, none, none, some vb] := by kernel_rfl
theorem P_with_fills_c1_bind (va : V) (ob oc : Option V) (vd ve : V) : bindTo (stLocL (relab P_with_fills_F.names (cScope P_with_fills_c1).names)) (cTgt P_with_fills_c1) (.tup [vd, ve]) [none, ob, oc, none, some va] = pure [none, some vd, some ve, none, some va] := by kernel_rfl
theorem P_with_fills_c1_elt (d : Nat) (va vb vc : V) : ev (cf03 d) (cElt P_with_fills_c1) (relab P_with_fills_F.names (cScope P_with_fills_c1).names) [none, some vb, some vc, none, some va] = (cl03 d "with_fills" [vc, va] >>= fun t0 => (pure (V.tup [vb, t0]) : M V)) := by kernel_rfl
theorem P_with_fills_c1_tst (d : Nat) (loc : Loc) : tests (cf03 d) (cIfs P_with_fills_c1) (relab P_with_fills_F.names (cScope P_with_fills_c1).names) loc = (pure true : M Bool) := by kernel_rfl
theorem P_with_fills_c1_ok : compOk (cScope P_with_fills_c1).kind (cScope P_with_fills_c1).names = true := by kernel_rfl
noncomputable def P_with_fills_t3 (d : Nat) (va vb vc vd : V) : M V := (bSorted vc >>= fun t0 => (bTuple t0 >>= fun t1 => (pure (V.tup [(V.str (Str.ofString "record")), t1, vd]) : M V)))
noncomputable def P_with_fills_t2 (d : Nat) (va vb : V) : M V := (item va (V.int 1) >>= fun t0 => (srcV t0 >>= fun s1 => (compAll (cf03 d) (cElt P_with_fills_c1) (cTgt P_with_fills_c1) (cIfs P_with_fills_c1) (cScope P_with_fills_c1) s1 P_with_fills_F.names [some va, some vb, none, none, none, none, none] >>= fun t2 => (item va (V.int 2) >>= fun t3 => ((cmp .IsNot t3 V.none >>= fun t4 => (truth t4 >>= fun b5 => (M.cond b5 (cmp .In t3 vb >>= fun t6 => (truth t6 >>= fun b7 => (M.cond b7 (pure true : M Bool) (pure false : M Bool)))) (pure false : M Bool)))) >>= fun b8 => (M.cond b8 (item vb t3 >>= fun t9 => (item t9 (V.int 0) >>= fun t10 => (bList t10 >>= fun t11 => (binop .Add t2 t11 >>= fun t12 => (item vb t3 >>= fun t13 => (item t13 (V.int 1) >>= fun t14 => (P_with_fills_t3 d va vb t12 t14))))))) (P_with_fills_t3 d va vb t2 t3)))))))
noncomputable def P_with_fills_t1 (d : Nat) (va vb : V) : M V := (item va (V.int 0) >>= fun t0 => (cmp .Eq t0 (V.str (Str.ofString "blank")) >>= fun t1 => (truth t1 >>= fun b2 => (M.cond b2 (askS (mtag vb "get") >>= fun g3 => (item va (V.int 1) >>= fun t4 => (runM g3 vb [t4, va] >>= fun t5 => (pure t5 : M V)))) (P_with_fills_t2 d va vb)))))
theorem P_with_fills_sh (d : Nat) (va vb : V) : cl03 (d + 1) "with_fills" [va, vb] = (item va (V.int 0) >>= fun t0 => (cmp .Eq t0 (V.str (Str.ofString "number")) >>= fun t1 => (truth t1 >>= fun b2 => (M.cond b2 (pure va : M V) (P_with_fills_t1 d va vb))))) :=
 (cl03_succ P_with_fills_K d _).trans (by kernel_rfl)
noncomputable def P_filled_F : Fn := (fnsT tab03 "filled").getD ⟨[], [], []⟩
theorem P_filled_K : fnsT tab03 "filled" = some P_filled_F := by kernel_rfl
noncomputable def P_filled_l1 : Stmt := (nthS P_filled_F.body 2)
theorem P_filled_l1_step (d : Nat) (va vb vc vd : V) (oe : Option V) : (bindTo (stLoc P_filled_F.names) (sTgt P_filled_l1) va [some vb, some vc, some vd, oe, none, none, none, none, none, none, none, none, none, none, none, none] >>= exs (cf03 d) (sBody P_filled_l1) P_filled_F.names) = (cmp .In va vc >>= fun t0 => (truth t0 >>= fun b1 => (M.cond b1 (item vc va >>= fun t2 => (item vd va >>= fun t3 => (cl03 d "need_fill" [t2, t3] >>= fun t4 => (pure (Fl.next, [some vb, some vc, some vd, some va, none, none, none, none, none, none, none, none, none, none, none, none]) : M (Fl × Loc))))) (pure (Fl.next, [some vb, some vc, some vd, some va, none, none, none, none, none, none, none, none, none, none, none, none]) : M (Fl × Loc))))) := by kernel_rfl
noncomputable def P_filled_a1 (d : Nat) (loc : Loc) : M V := exsK (cf03 d) (List.drop 3 P_filled_F.body) P_filled_F.names loc retK
noncomputable def P_filled_t3 (d : Nat) (va vb vc : V) (od : Option V) (ve : V) : M V := (pure ve : M V)
noncomputable def P_filled_t2 (d : Nat) (va vb vc : V) (od : Option V) (ve : V) : M V := (newO (.list [ve]) >>= fun t0 => (cl03 d "blanks_of" [t0] >>= fun t1 => (cmp .Is t1 V.none >>= fun t2 => (truth t2 >>= fun b3 => (M.cond b3 (newO (.exc (Str.ofString "BadFill") []) >>= fun e199 => (M.throw e199 : M V)) (P_filled_t3 d va vb vc od ve))))))
theorem P_filled_a1_eq (d : Nat) (va vb vc : V) (od : Option V) : P_filled_a1 d [some va, some vb, some vc, od, none, none, none, none, none, none, none, none, none, none, none, none] = (cl03 d "with_fills" [va, vb] >>= fun t0 => ((cl03 d "knots_of" [t0] >>= fun t1 => (cmp .Gt t1 (V.int 200) >>= fun t2 => (truth t2 >>= fun b3 => (M.cond b3 (pure true : M Bool) (cl03 d "depth_of" [t0] >>= fun t4 => (cmp .Gt t4 (V.int 12) >>= fun t5 => (truth t5 >>= fun b6 => (M.cond b6 (pure true : M Bool) (pure false : M Bool))))))))) >>= fun b7 => (M.cond b7 (newO (.exc (Str.ofString "TooGreat") []) >>= fun e207 => (M.throw e207 : M V)) (P_filled_t2 d va vb vc od t0)))) := by kernel_rfl
noncomputable def P_filled_t1 (d : Nat) (va vb : V) : M V := (newO (.list [va]) >>= fun t0 => (cl03 d "blanks_of" [t0] >>= fun t1 => (srcV t1 >>= fun s2 => (forAll (cf03 d) (sTgt P_filled_l1) (sBody P_filled_l1) s2 P_filled_F.names [some va, some vb, some t1, none, none, none, none, none, none, none, none, none, none, none, none, none] >>= flK retK (P_filled_a1 d)))))
theorem P_filled_sh (d : Nat) (va vb : V) : cl03 (d + 1) "filled" [va, vb] = (cl03 d "is_kind" [va] >>= fun t0 => (truth t0 >>= fun b1 => (M.cond (!b1) (newO (.exc (Str.ofString "BadKind") []) >>= fun e211 => (M.throw e211 : M V)) (P_filled_t1 d va vb)))) :=
 (cl03_succ P_filled_K d _).trans (by kernel_rfl)
noncomputable def L_cell_F : Fn := (fnsT tab03 "_law_cell").getD ⟨[], [], []⟩
theorem L_cell_K : fnsT tab03 "_law_cell" = some L_cell_F := by kernel_rfl
noncomputable def L_cell_t1 (d : Nat) (va vb : V) : M V := (pure (V.int 0) : M V)
theorem L_cell_sh (d : Nat) (va vb : V) : cl03 (d + 1) "_law_cell" [va, vb] = (bLen va >>= fun t0 => (cmp .Lt vb t0 >>= fun t1 => (truth t1 >>= fun b2 => (M.cond b2 (item va vb >>= fun t3 => (binop .Mult t3 (V.int 48271) >>= fun t4 => (binop .Mod t4 (V.int 2147483647) >>= fun t5 => (pure t5 : M V)))) (L_cell_t1 d va vb))))) :=
 (cl03_succ L_cell_K d _).trans (by kernel_rfl)
noncomputable def L_next_F : Fn := (fnsT tab03 "_law_next").getD ⟨[], [], []⟩
theorem L_next_K : fnsT tab03 "_law_next" = some L_next_F := by kernel_rfl
theorem L_next_sh (d : Nat) (va : V) : cl03 (d + 1) "_law_next" [va] = (item va (V.int 0) >>= fun t0 => (binop .Mult t0 (V.int 48271) >>= fun t1 => (binop .Add t1 (V.int 11) >>= fun t2 => (binop .Mod t2 (V.int 2147483647) >>= fun t3 => (setItem va (V.int 0) t3 >>= fun ya => (item va (V.int 1) >>= fun t4 => (binop .Sub t4 (V.int 1) >>= fun t5 => (setItem va (V.int 1) t5 >>= fun ya => (item va (V.int 0) >>= fun t6 => (binop .FloorDiv t6 (V.int 7) >>= fun t7 => (pure t7 : M V))))))))))) :=
 (cl03_succ L_next_K d _).trans (by kernel_rfl)
noncomputable def L_labels_F : Fn := (fnsT tab03 "_law_labels").getD ⟨[], [], []⟩
theorem L_labels_K : fnsT tab03 "_law_labels" = some L_labels_F := by kernel_rfl
noncomputable def L_labels_c1 : Expr := (ePart (sVal (nthS L_labels_F.body 4)) 1)
theorem L_labels_c1_in (va vb vc vd ve vf : V) : innerLoc L_labels_F.names [some va, some vb, some vc, some vd, some ve, some vf, none, none, none, none, none] (cScope L_labels_c1).names = pure [none, none, some va, some vc, some vf] := by kernel_rfl
theorem L_labels_c1_bind (va vb vc : V) (od : Option V) (ve : V) : bindTo (stLocL (relab L_labels_F.names (cScope L_labels_c1).names)) (cTgt L_labels_c1) ve [none, od, some va, some vb, some vc] = pure [none, some ve, some va, some vb, some vc] := by kernel_rfl
theorem L_labels_c1_elt (d : Nat) (va vb vc vd : V) : ev (cf03 d) (cElt L_labels_c1) (relab L_labels_F.names (cScope L_labels_c1).names) [none, some vd, some va, some vb, some vc] = (binop .FloorDiv va (V.int 1274) >>= fun t0 => (binop .Mult t0 vd >>= fun t1 => (binop .Add vc t1 >>= fun t2 => (binop .Mod t2 (V.int 26) >>= fun t3 => (item vb t3 >>= fun t4 => (pure t4 : M V)))))) := by kernel_rfl
theorem L_labels_c1_tst (d : Nat) (loc : Loc) : tests (cf03 d) (cIfs L_labels_c1) (relab L_labels_F.names (cScope L_labels_c1).names) loc = (pure true : M Bool) := by kernel_rfl
theorem L_labels_c1_ok : compOk (cScope L_labels_c1).kind (cScope L_labels_c1).names = true := by kernel_rfl
noncomputable def L_labels_l1 : Stmt := (nthS L_labels_F.body 6)
theorem L_labels_l1_step (d : Nat) (va vb vc vd ve vf vg vh vi : V) (oj ok : Option V) : (bindTo (stLoc L_labels_F.names) (sTgt L_labels_l1) va [some vb, some vc, some vd, some ve, some vf, some vg, ok, some vh, some vi, oj, none] >>= exs (cf03 d) (sBody L_labels_l1) L_labels_F.names) = (binop .FloorDiv vb (V.int 49) >>= fun t0 => (binop .Mult (V.int 3) va >>= fun t1 => (binop .Add t0 t1 >>= fun t2 => (binop .Mod t2 (V.int 26) >>= fun t3 => (item vd t3 >>= fun t4 => (askS (mtag vi "append") >>= fun g5 => (bound V.none >>= fun i6 => bound vf >>= fun i7 => sliceV i6 i7 vh >>= fun t8 => (binop .Add t8 t4 >>= fun t9 => (bound vf >>= fun i10 => bound V.none >>= fun i11 => sliceV i10 i11 vh >>= fun t12 => (binop .Add t9 t12 >>= fun t13 => (runM g5 vi [t13] >>= fun t14 => (pure (Fl.next, [some vb, some vc, some vd, some ve, some vf, some vg, some va, some vh, some vi, some t4, none]) : M (Fl × Loc))))))))))))) := by kernel_rfl
noncomputable def L_labels_a1 (d : Nat) (loc : Loc) : M V := exsK (cf03 d) (List.drop 7 L_labels_F.body) L_labels_F.names loc retK
theorem L_labels_a1_eq (d : Nat) (va vb vc vd ve vf vg vh : V) (oi oj : Option V) : L_labels_a1 d [some va, some vb, some vc, some vd, some ve, some vf, oj, some vg, some vh, oi, none] = (pure vh : M V) := by kernel_rfl
theorem L_labels_sh (d : Nat) (va vb : V) : cl03 (d + 1) "_law_labels" [va, vb] = (binop .Mod va (V.int 7) >>= fun t0 => (binop .FloorDiv va (V.int 7) >>= fun t1 => (binop .Add t0 (V.int 1) >>= fun t2 => (binop .Mod t1 t2 >>= fun t3 => (binop .FloorDiv va (V.int 49) >>= fun t4 => (binop .Mod t4 (V.int 26) >>= fun t5 => (askS (mtag (V.str (Str.ofString "")) "join") >>= fun g6 => (rangeOf t0 >>= fun s7 => (compAll (cf03 d) (cElt L_labels_c1) (cTgt L_labels_c1) (cIfs L_labels_c1) (cScope L_labels_c1) s7 L_labels_F.names [some va, some vb, some (V.str (Str.ofString "abcdefghijklmnopqrstuvwxyz")), some t0, some t3, some t5, none, none, none, none, none] >>= fun t8 => (runM g6 (V.str (Str.ofString "")) [t8] >>= fun t9 => (newO (.list []) >>= fun t10 => (rangeOf vb >>= fun s11 => (forAll (cf03 d) (sTgt L_labels_l1) (sBody L_labels_l1) s11 L_labels_F.names [some va, some vb, some (V.str (Str.ofString "abcdefghijklmnopqrstuvwxyz")), some t0, some t3, some t5, none, some t9, some t10, none, none] >>= flK retK (L_labels_a1 d)))))))))))))) :=
 (cl03_succ L_labels_K d _).trans (by kernel_rfl)
noncomputable def L_kind_F : Fn := (fnsT tab03 "_law_kind").getD ⟨[], [], []⟩
theorem L_kind_K : fnsT tab03 "_law_kind" = some L_kind_F := by kernel_rfl
noncomputable def L_kind_c1 : Expr := (sVal (nthS L_kind_F.body 4))
theorem L_kind_c1_in (va vb vc vd ve vf : V) : innerLoc L_kind_F.names [some va, some vb, some vc, some vd, some ve, some vf, none, none, none, none, none] (cScope L_kind_c1).names = pure [none, none, some vf] := by kernel_rfl
theorem L_kind_c1_bind (va : V) (ob : Option V) (vc : V) : bindTo (stLocL (relab L_kind_F.names (cScope L_kind_c1).names)) (cTgt L_kind_c1) vc [none, ob, some va] = pure [none, some vc, some va] := by kernel_rfl
theorem L_kind_c1_elt (d : Nat) (va vb : V) : ev (cf03 d) (cElt L_kind_c1) (relab L_kind_F.names (cScope L_kind_c1).names) [none, some vb, some va] = (pure vb : M V) := by kernel_rfl
theorem L_kind_c1_tst (d : Nat) (va vb : V) : tests (cf03 d) (cIfs L_kind_c1) (relab L_kind_F.names (cScope L_kind_c1).names) [none, some vb, some va] = (cmp .In vb va >>= fun t0 => (truth t0 >>= fun b1 => (pure b1 : M Bool))) := by kernel_rfl
theorem L_kind_c1_ok : compOk (cScope L_kind_c1).kind (cScope L_kind_c1).names = true := by kernel_rfl
noncomputable def L_kind_c2 : Expr := (ePart (sVal (nthS L_kind_F.body 5)) 1)
theorem L_kind_c2_in (va vb vc vd ve vf vg : V) : innerLoc L_kind_F.names [some va, some vb, some vc, some vd, some ve, some vf, some vg, none, none, none, none] (cScope L_kind_c2).names = pure [none, none, none, some vb, some vd, some vc, some va] := by kernel_rfl
theorem L_kind_c2_bind (va vb vc vd : V) (oe : Option V) (vf : V) : bindTo (stLocL (relab L_kind_F.names (cScope L_kind_c2).names)) (cTgt L_kind_c2) vf [none, oe, none, some vb, some vd, some vc, some va] = pure [none, some vf, none, some vb, some vd, some vc, some va] := by kernel_rfl
theorem L_kind_c2_elt (d : Nat) (va vb vc vd ve : V) : ev (cf03 d) (cElt L_kind_c2) (relab L_kind_F.names (cScope L_kind_c2).names) [none, some ve, none, some vb, some vd, some vc, some va] = (binop .Sub vd (V.int 1) >>= fun t0 => (cl03 d "_law_kind" [va, vb, vc, t0] >>= fun t1 => (pure (V.tup [ve, t1]) : M V))) := by kernel_rfl
theorem L_kind_c2_tst (d : Nat) (loc : Loc) : tests (cf03 d) (cIfs L_kind_c2) (relab L_kind_F.names (cScope L_kind_c2).names) loc = (pure true : M Bool) := by kernel_rfl
theorem L_kind_c2_ok : compOk (cScope L_kind_c2).kind (cScope L_kind_c2).names = true := by kernel_rfl
noncomputable def L_kind_t4 (d : Nat) (va vb vc vd ve vf vg vh : V) : M V := (item vc (V.int 0) >>= fun t0 => (item vc (V.int 1) >>= fun t1 => (askS (mtag t1 "index") >>= fun g2 => (runM g2 t1 [vg] >>= fun t3 => (binop .Mult (V.int 2) t3 >>= fun t4 => (binop .Add (V.int 1) t4 >>= fun t5 => (binop .Mult t0 t5 >>= fun t6 => (pure (V.tup [(V.str (Str.ofString "record")), vh, t6]) : M V))))))))
noncomputable def L_kind_t3 (d : Nat) (va vb vc vd ve vf vg vh : V) : M V := (item vc (V.int 1) >>= fun t0 => (cmp .NotIn vg t0 >>= fun t1 => (truth t1 >>= fun b2 => (M.cond b2 (item vc (V.int 1) >>= fun t3 => (askS (mtag t3 "append") >>= fun g4 => (runM g4 t3 [vg] >>= fun t5 => (L_kind_t4 d va vb vc vd ve vf vg vh)))) (L_kind_t4 d va vb vc vd ve vf vg vh)))))
noncomputable def L_kind_t2 (d : Nat) (va vb vc vd ve : V) : M V := (binop .FloorDiv ve (V.int 7) >>= fun t0 => (binop .Mod t0 (V.int 4) >>= fun t1 => (item vb t1 >>= fun t2 => (binop .FloorDiv ve (V.int 28) >>= fun t3 => (binop .Mod t3 (V.int 4) >>= fun t4 => (item vb t4 >>= fun t5 => (binop .FloorDiv ve (V.int 112) >>= fun t6 => (binop .Mod t6 (V.int 4) >>= fun t7 => (item vb t7 >>= fun t8 => (newO (.list [t2, t5, t8]) >>= fun t9 => (binop .FloorDiv ve (V.int 448) >>= fun t10 => (binop .Mod t10 (V.int 4) >>= fun t11 => (bound V.none >>= fun i12 => bound t11 >>= fun i13 => sliceV i12 i13 t9 >>= fun t14 => (bSorted vb >>= fun t15 => (srcV t15 >>= fun s16 => (compAll (cf03 d) (cElt L_kind_c1) (cTgt L_kind_c1) (cIfs L_kind_c1) (cScope L_kind_c1) s16 L_kind_F.names [some va, some vb, some vc, some vd, some ve, some t14, none, none, none, none, none] >>= fun t17 => (srcV t17 >>= fun s18 => (compAll (cf03 d) (cElt L_kind_c2) (cTgt L_kind_c2) (cIfs L_kind_c2) (cScope L_kind_c2) s18 L_kind_F.names [some va, some vb, some vc, some vd, some ve, some t14, some t17, none, none, none, none] >>= fun t19 => (bTuple t19 >>= fun t20 => (binop .FloorDiv ve (V.int 1792) >>= fun t21 => (binop .Mod t21 (V.int 2) >>= fun t22 => (cmp .Eq t22 (V.int 0) >>= fun t23 => (truth t23 >>= fun b24 => (M.cond b24 (pure (V.tup [(V.str (Str.ofString "record")), t20, V.none]) : M V) (L_kind_t3 d va vb vc vd ve t14 t17 t20)))))))))))))))))))))))))
noncomputable def L_kind_t1 (d : Nat) (va vb vc vd ve : V) : M V := (binop .Mod ve (V.int 7) >>= fun t0 => (cmp .Eq t0 (V.int 2) >>= fun t1 => (truth t1 >>= fun b2 => (M.cond b2 (item vc (V.int 0) >>= fun t3 => (binop .Mult t3 (V.int 2) >>= fun t4 => (binop .FloorDiv ve (V.int 7) >>= fun t5 => (binop .Mod t5 (V.int 3) >>= fun t6 => (binop .Mult t4 t6 >>= fun t7 => (pure (V.tup [(V.str (Str.ofString "blank")), t7]) : M V)))))) (L_kind_t2 d va vb vc vd ve)))))
theorem L_kind_sh (d : Nat) (va vb vc vd : V) : cl03 (d + 1) "_law_kind" [va, vb, vc, vd] = (cl03 d "_law_next" [va] >>= fun t0 => ((cmp .LtE vd (V.int 1) >>= fun t1 => (truth t1 >>= fun b2 => (M.cond b2 (pure true : M Bool) (item va (V.int 1) >>= fun t3 => (cmp .LtE t3 (V.int 0) >>= fun t4 => (truth t4 >>= fun b5 => (M.cond b5 (pure true : M Bool) (binop .Mod t0 (V.int 7) >>= fun t6 => (cmp .Lt t6 (V.int 2) >>= fun t7 => (truth t7 >>= fun b8 => (M.cond b8 (pure true : M Bool) (pure false : M Bool)))))))))))) >>= fun b9 => (M.cond b9 (pure (V.tup [(V.str (Str.ofString "number"))]) : M V) (L_kind_t1 d va vb vc vd t0)))) :=
 (cl03_succ L_kind_K d _).trans (by kernel_rfl)
noncomputable def L_blanks_F : Fn := (fnsT tab03 "_law_blanks").getD ⟨[], [], []⟩
theorem L_blanks_K : fnsT tab03 "_law_blanks" = some L_blanks_F := by kernel_rfl
noncomputable def L_blanks_t2 (d : Nat) (va vb : V) (oc : Option V) : M V := (pure vb : M V)
noncomputable def L_blanks_l1 : Stmt := (nthS (sBody (nthS L_blanks_F.body 1)) 0)
theorem L_blanks_l1_step (d : Nat) (va vb vc : V) (od : Option V) : (bindTo (stLoc L_blanks_F.names) (sTgt L_blanks_l1) va [some vb, some vc, od, none] >>= exs (cf03 d) (sBody L_blanks_l1) L_blanks_F.names) = (item va (V.int 1) >>= fun t0 => (cl03 d "_law_blanks" [t0, vc] >>= fun t1 => (pure (Fl.next, [some vb, some vc, some va, none]) : M (Fl × Loc)))) := by kernel_rfl
noncomputable def L_blanks_a1 (d : Nat) (loc : Loc) : M V := exsK (cf03 d) (List.drop 1 (sBody (nthS L_blanks_F.body 1))) L_blanks_F.names loc (flK retK (fun loc' => exsK (cf03 d) (List.drop 2 L_blanks_F.body) L_blanks_F.names loc' retK))
noncomputable def L_blanks_c1 : Expr := (sVal (nthS (sBody (nthS (sBody (nthS L_blanks_F.body 1)) 1)) 0))
theorem L_blanks_c1_in (va vb : V) (oc : Option V) : innerLoc L_blanks_F.names [some va, some vb, oc, none] (cScope L_blanks_c1).names = pure [none, none] := by kernel_rfl
theorem L_blanks_c1_bind (oa : Option V) (vb : V) : bindTo (stLocL (relab L_blanks_F.names (cScope L_blanks_c1).names)) (cTgt L_blanks_c1) vb [none, oa] = pure [none, some vb] := by kernel_rfl
theorem L_blanks_c1_elt (d : Nat) (va : V) : ev (cf03 d) (cElt L_blanks_c1) (relab L_blanks_F.names (cScope L_blanks_c1).names) [none, some va] = (item va (V.int 0) >>= fun t0 => (pure t0 : M V)) := by kernel_rfl
theorem L_blanks_c1_tst (d : Nat) (loc : Loc) : tests (cf03 d) (cIfs L_blanks_c1) (relab L_blanks_F.names (cScope L_blanks_c1).names) loc = (pure true : M Bool) := by kernel_rfl
theorem L_blanks_c1_ok : compOk (cScope L_blanks_c1).kind (cScope L_blanks_c1).names = true := by kernel_rfl
theorem L_blanks_a1_eq (d : Nat) (va vb : V) (oc : Option V) : L_blanks_a1 d [some va, some vb, oc, none] = (item va (V.int 2) >>= fun t0 => (cmp .IsNot t0 V.none >>= fun t1 => (truth t1 >>= fun b2 => (M.cond b2 (item va (V.int 1) >>= fun t3 => (srcV t3 >>= fun s4 => (compAll (cf03 d) (cElt L_blanks_c1) (cTgt L_blanks_c1) (cIfs L_blanks_c1) (cScope L_blanks_c1) s4 L_blanks_F.names [some va, some vb, oc, none] >>= fun t5 => (item va (V.int 2) >>= fun t6 => (setItem vb t6 t5 >>= fun ya => (L_blanks_t2 d va vb oc)))))) (L_blanks_t2 d va vb oc))))) := by kernel_rfl
noncomputable def L_blanks_t1 (d : Nat) (va vb : V) : M V := (item va (V.int 0) >>= fun t0 => (cmp .Eq t0 (V.str (Str.ofString "record")) >>= fun t1 => (truth t1 >>= fun b2 => (M.cond b2 (item va (V.int 1) >>= fun t3 => (srcV t3 >>= fun s4 => (forAll (cf03 d) (sTgt L_blanks_l1) (sBody L_blanks_l1) s4 L_blanks_F.names [some va, some vb, none, none] >>= flK (flK retK (fun loc' => exsK (cf03 d) (List.drop 2 L_blanks_F.body) L_blanks_F.names loc' retK)) (L_blanks_a1 d)))) (L_blanks_t2 d va vb none)))))
theorem L_blanks_sh (d : Nat) (va vb : V) : cl03 (d + 1) "_law_blanks" [va, vb] = (item va (V.int 0) >>= fun t0 => (cmp .Eq t0 (V.str (Str.ofString "blank")) >>= fun t1 => (truth t1 >>= fun b2 => (M.cond b2 (item va (V.int 1) >>= fun t3 => (setItem vb t3 V.none >>= fun ya => (L_blanks_t1 d va vb))) (L_blanks_t1 d va vb))))) :=
 (cl03_succ L_blanks_K d _).trans (by kernel_rfl)
noncomputable def L_filled_F : Fn := (fnsT tab03 "_law_filled").getD ⟨[], [], []⟩
theorem L_filled_K : fnsT tab03 "_law_filled" = some L_filled_F := by kernel_rfl
noncomputable def L_filled_c1 : Expr := (sVal (nthS L_filled_F.body 2))
theorem L_filled_c1_in (va vb : V) : innerLoc L_filled_F.names [some va, some vb, none, none, none, none, none, none, none] (cScope L_filled_c1).names = pure [none, none, none, none, some vb] := by kernel_rfl
theorem L_filled_c1_bind (va : V) (ob oc : Option V) (vd ve : V) : bindTo (stLocL (relab L_filled_F.names (cScope L_filled_c1).names)) (cTgt L_filled_c1) (.tup [vd, ve]) [none, ob, oc, none, some va] = pure [none, some vd, some ve, none, some va] := by kernel_rfl
theorem L_filled_c1_elt (d : Nat) (va vb vc : V) : ev (cf03 d) (cElt L_filled_c1) (relab L_filled_F.names (cScope L_filled_c1).names) [none, some vb, some vc, none, some va] = (cl03 d "_law_filled" [vc, va] >>= fun t0 => (pure (V.tup [vb, t0]) : M V)) := by kernel_rfl
theorem L_filled_c1_tst (d : Nat) (loc : Loc) : tests (cf03 d) (cIfs L_filled_c1) (relab L_filled_F.names (cScope L_filled_c1).names) loc = (pure true : M Bool) := by kernel_rfl
theorem L_filled_c1_ok : compOk (cScope L_filled_c1).kind (cScope L_filled_c1).names = true := by kernel_rfl
noncomputable def L_filled_c2 : Expr := (ePart (ePart (sVal (nthS L_filled_F.body 6)) 1) 1)
theorem L_filled_c2_in (va vb vc vd ve : V) : innerLoc L_filled_F.names [some va, some vb, some vc, some vd, some ve, none, none, none, none] (cScope L_filled_c2).names = pure [none, none, some ve] := by kernel_rfl
theorem L_filled_c2_bind (va : V) (ob : Option V) (vc : V) : bindTo (stLocL (relab L_filled_F.names (cScope L_filled_c2).names)) (cTgt L_filled_c2) vc [none, ob, some va] = pure [none, some vc, some va] := by kernel_rfl
theorem L_filled_c2_elt (d : Nat) (va vb : V) : ev (cf03 d) (cElt L_filled_c2) (relab L_filled_F.names (cScope L_filled_c2).names) [none, some vb, some va] = (item va vb >>= fun t0 => (pure (V.tup [vb, t0]) : M V)) := by kernel_rfl
theorem L_filled_c2_tst (d : Nat) (loc : Loc) : tests (cf03 d) (cIfs L_filled_c2) (relab L_filled_F.names (cScope L_filled_c2).names) loc = (pure true : M Bool) := by kernel_rfl
theorem L_filled_c2_ok : compOk (cScope L_filled_c2).kind (cScope L_filled_c2).names = true := by kernel_rfl
noncomputable def L_filled_t3 (d : Nat) (va vb vc vd : V) : M V := (bDict vc >>= fun t0 => (bList t0 >>= fun t1 => (bSorted t1 >>= fun t2 => (srcV t2 >>= fun s3 => (compAll (cf03 d) (cElt L_filled_c2) (cTgt L_filled_c2) (cIfs L_filled_c2) (cScope L_filled_c2) s3 L_filled_F.names [some va, some vb, some vc, some vd, some t0, none, none, none, none] >>= fun t4 => (bTuple t4 >>= fun t5 => (pure (V.tup [(V.str (Str.ofString "record")), t5, vd]) : M V)))))))
noncomputable def L_filled_t2 (d : Nat) (va vb : V) : M V := (item va (V.int 1) >>= fun t0 => (srcV t0 >>= fun s1 => (compAll (cf03 d) (cElt L_filled_c1) (cTgt L_filled_c1) (cIfs L_filled_c1) (cScope L_filled_c1) s1 L_filled_F.names [some va, some vb, none, none, none, none, none, none, none] >>= fun t2 => (item va (V.int 2) >>= fun t3 => ((cmp .IsNot t3 V.none >>= fun t4 => (truth t4 >>= fun b5 => (M.cond b5 (cmp .In t3 vb >>= fun t6 => (truth t6 >>= fun b7 => (M.cond b7 (pure true : M Bool) (pure false : M Bool)))) (pure false : M Bool)))) >>= fun b8 => (M.cond b8 (item vb t3 >>= fun t9 => (item t9 (V.int 0) >>= fun t10 => (bList t10 >>= fun t11 => (binop .Add t2 t11 >>= fun t12 => (item vb t3 >>= fun t13 => (item t13 (V.int 1) >>= fun t14 => (L_filled_t3 d va vb t12 t14))))))) (L_filled_t3 d va vb t2 t3)))))))
noncomputable def L_filled_t1 (d : Nat) (va vb : V) : M V := (item va (V.int 0) >>= fun t0 => (cmp .Eq t0 (V.str (Str.ofString "number")) >>= fun t1 => (truth t1 >>= fun b2 => (M.cond b2 (pure va : M V) (L_filled_t2 d va vb)))))
theorem L_filled_sh (d : Nat) (va vb : V) : cl03 (d + 1) "_law_filled" [va, vb] = (item va (V.int 0) >>= fun t0 => (cmp .Eq t0 (V.str (Str.ofString "blank")) >>= fun t1 => (truth t1 >>= fun b2 => (M.cond b2 (askS (mtag vb "get") >>= fun g3 => (item va (V.int 1) >>= fun t4 => (runM g3 vb [t4, va] >>= fun t5 => (pure t5 : M V)))) (L_filled_t1 d va vb))))) :=
 (cl03_succ L_filled_K d _).trans (by kernel_rfl)
noncomputable def L_fill_F : Fn := (fnsT tab03 "_law_fill").getD ⟨[], [], []⟩
theorem L_fill_K : fnsT tab03 "_law_fill" = some L_fill_F := by kernel_rfl
noncomputable def L_fill_c1 : Expr := (sVal (nthS L_fill_F.body 1))
theorem L_fill_c1_in (va vb vc vd : V) : innerLoc L_fill_F.names [some va, some vb, some vc, some vd, none, none, none, none, none, none, none] (cScope L_fill_c1).names = pure [none, none, some vd] := by kernel_rfl
theorem L_fill_c1_bind (va : V) (ob : Option V) (vc : V) : bindTo (stLocL (relab L_fill_F.names (cScope L_fill_c1).names)) (cTgt L_fill_c1) vc [none, ob, some va] = pure [none, some vc, some va] := by kernel_rfl
theorem L_fill_c1_elt (d : Nat) (va vb : V) : ev (cf03 d) (cElt L_fill_c1) (relab L_fill_F.names (cScope L_fill_c1).names) [none, some vb, some va] = (pure vb : M V) := by kernel_rfl
theorem L_fill_c1_tst (d : Nat) (va vb : V) : tests (cf03 d) (cIfs L_fill_c1) (relab L_fill_F.names (cScope L_fill_c1).names) [none, some vb, some va] = (cmp .NotIn vb va >>= fun t0 => (truth t0 >>= fun b1 => (pure b1 : M Bool))) := by kernel_rfl
theorem L_fill_c1_ok : compOk (cScope L_fill_c1).kind (cScope L_fill_c1).names = true := by kernel_rfl
noncomputable def L_fill_c2 : Expr := (ePart (sVal (nthS L_fill_F.body 2)) 1)
theorem L_fill_c2_in (va vb vc vd ve : V) : innerLoc L_fill_F.names [some va, some vb, some vc, some vd, some ve, none, none, none, none, none, none] (cScope L_fill_c2).names = pure [none, none, none, none, some vb, some vc, some va] := by kernel_rfl
theorem L_fill_c2_bind (va vb vc : V) (od : Option V) (ve : V) : bindTo (stLocL (relab L_fill_F.names (cScope L_fill_c2).names)) (cTgt L_fill_c2) ve [none, od, none, none, some vb, some vc, some va] = pure [none, some ve, none, none, some vb, some vc, some va] := by kernel_rfl
theorem L_fill_c2_elt (d : Nat) (va vb vc vd : V) : ev (cf03 d) (cElt L_fill_c2) (relab L_fill_F.names (cScope L_fill_c2).names) [none, some vd, none, none, some vb, some vc, some va] = (cl03 d "_law_kind" [va, vb, vc, (V.int 2)] >>= fun t0 => (pure (V.tup [vd, t0]) : M V)) := by kernel_rfl
theorem L_fill_c2_tst (d : Nat) (va vb vc vd : V) : tests (cf03 d) (cIfs L_fill_c2) (relab L_fill_F.names (cScope L_fill_c2).names) [none, some vd, none, none, some vb, some vc, some va] = (cl03 d "_law_next" [va] >>= fun t0 => (binop .Mod t0 (V.int 2) >>= fun t1 => (cmp .Eq t1 (V.int 0) >>= fun t2 => (truth t2 >>= fun b3 => (pure b3 : M Bool))))) := by kernel_rfl
theorem L_fill_c2_ok : compOk (cScope L_fill_c2).kind (cScope L_fill_c2).names = true := by kernel_rfl
noncomputable def L_fill_c3 : Expr := (ePart (sVal (nthS L_fill_F.body 4)) 1)
theorem L_fill_c3_in (va vb vc vd ve vf : V) : innerLoc L_fill_F.names [some va, some vb, some vc, some vd, some ve, some vf, none, none, none, none, none] (cScope L_fill_c3).names = pure [none, none] := by kernel_rfl
theorem L_fill_c3_bind (oa : Option V) (vb : V) : bindTo (stLocL (relab L_fill_F.names (cScope L_fill_c3).names)) (cTgt L_fill_c3) vb [none, oa] = pure [none, some vb] := by kernel_rfl
theorem L_fill_c3_elt (d : Nat) (va : V) : ev (cf03 d) (cElt L_fill_c3) (relab L_fill_F.names (cScope L_fill_c3).names) [none, some va] = (item va (V.int 0) >>= fun t0 => (pure t0 : M V)) := by kernel_rfl
theorem L_fill_c3_tst (d : Nat) (loc : Loc) : tests (cf03 d) (cIfs L_fill_c3) (relab L_fill_F.names (cScope L_fill_c3).names) loc = (pure true : M Bool) := by kernel_rfl
theorem L_fill_c3_ok : compOk (cScope L_fill_c3).kind (cScope L_fill_c3).names = true := by kernel_rfl
noncomputable def L_fill_c4 : Expr := (ePart (sVal (nthS L_fill_F.body 5)) 1)
theorem L_fill_c4_in (va vb vc vd ve vf vg : V) : innerLoc L_fill_F.names [some va, some vb, some vc, some vd, some ve, some vf, some vg, none, none, none, none] (cScope L_fill_c4).names = pure [none, none] := by kernel_rfl
theorem L_fill_c4_bind (oa : Option V) (vb : V) : bindTo (stLocL (relab L_fill_F.names (cScope L_fill_c4).names)) (cTgt L_fill_c4) vb [none, oa] = pure [none, some vb] := by kernel_rfl
theorem L_fill_c4_elt (d : Nat) (va : V) : ev (cf03 d) (cElt L_fill_c4) (relab L_fill_F.names (cScope L_fill_c4).names) [none, some va] = (pure va : M V) := by kernel_rfl
theorem L_fill_c4_tst (d : Nat) (va : V) : tests (cf03 d) (cIfs L_fill_c4) (relab L_fill_F.names (cScope L_fill_c4).names) [none, some va] = (cmp .NotEq va (V.str (Str.ofString "-")) >>= fun t0 => (truth t0 >>= fun b1 => (pure b1 : M Bool))) := by kernel_rfl
theorem L_fill_c4_ok : compOk (cScope L_fill_c4).kind (cScope L_fill_c4).names = true := by kernel_rfl
noncomputable def L_fill_t3 (d : Nat) (va vb vc vd ve vf vg : V) : M V := (item vc (V.int 0) >>= fun t0 => (item vc (V.int 1) >>= fun t1 => (askS (mtag t1 "index") >>= fun g2 => (runM g2 t1 [vg] >>= fun t3 => (binop .Mult (V.int 2) t3 >>= fun t4 => (binop .Add (V.int 1) t4 >>= fun t5 => (binop .Mult t0 t5 >>= fun t6 => (pure (V.tup [vf, t6]) : M V))))))))
noncomputable def L_fill_t2 (d : Nat) (va vb vc vd ve vf : V) : M V := (newO (.list [(V.str (Str.ofString "-"))]) >>= fun t0 => (binop .Add vd t0 >>= fun t1 => (srcV vf >>= fun s2 => (compAll (cf03 d) (cElt L_fill_c3) (cTgt L_fill_c3) (cIfs L_fill_c3) (cScope L_fill_c3) s2 L_fill_F.names [some va, some vb, some vc, some vd, some ve, some vf, none, none, none, none, none] >>= fun t3 => (binop .Add t1 t3 >>= fun t4 => (srcV t4 >>= fun s5 => (compAll (cf03 d) (cElt L_fill_c4) (cTgt L_fill_c4) (cIfs L_fill_c4) (cScope L_fill_c4) s5 L_fill_F.names [some va, some vb, some vc, some vd, some ve, some vf, some t4, none, none, none, none] >>= fun t6 => (bSorted t6 >>= fun t7 => (item vc (V.int 1) >>= fun t8 => (cmp .NotIn t7 t8 >>= fun t9 => (truth t9 >>= fun b10 => (M.cond b10 (item vc (V.int 1) >>= fun t11 => (askS (mtag t11 "append") >>= fun g12 => (runM g12 t11 [t7] >>= fun t13 => (L_fill_t3 d va vb vc vd ve vf t7)))) (L_fill_t3 d va vb vc vd ve vf t7)))))))))))))
noncomputable def L_fill_t1 (d : Nat) (va vb vc vd : V) : M V := (newO (.list [(V.str (Str.ofString "zzzzzzzz"))]) >>= fun t0 => (binop .Add vb t0 >>= fun t1 => (bSorted t1 >>= fun t2 => (srcV t2 >>= fun s3 => (compAll (cf03 d) (cElt L_fill_c1) (cTgt L_fill_c1) (cIfs L_fill_c1) (cScope L_fill_c1) s3 L_fill_F.names [some va, some vb, some vc, some vd, none, none, none, none, none, none, none] >>= fun t4 => (srcV t4 >>= fun s5 => (compAll (cf03 d) (cElt L_fill_c2) (cTgt L_fill_c2) (cIfs L_fill_c2) (cScope L_fill_c2) s5 L_fill_F.names [some va, some vb, some vc, some vd, some t4, none, none, none, none, none, none] >>= fun t6 => (bTuple t6 >>= fun t7 => (cl03 d "_law_next" [va] >>= fun t8 => (binop .Mod t8 (V.int 2) >>= fun t9 => (cmp .Eq t9 (V.int 0) >>= fun t10 => (truth t10 >>= fun b11 => (M.cond b11 (pure (V.tup [t7, V.none]) : M V) (L_fill_t2 d va vb vc vd t4 t7))))))))))))))
theorem L_fill_sh (d : Nat) (va vb vc vd : V) : cl03 (d + 1) "_law_fill" [va, vb, vc, vd] = (cmp .Is vd V.none >>= fun t0 => (truth t0 >>= fun b1 => (M.cond b1 (cl03 d "_law_kind" [va, vb, vc, (V.int 3)] >>= fun t2 => (pure t2 : M V)) (L_fill_t1 d va vb vc vd)))) :=
 (cl03_succ L_fill_K d _).trans (by kernel_rfl)
noncomputable def L_lone_F : Fn := (fnsT tab03 "_law_lone").getD ⟨[], [], []⟩
theorem L_lone_K : fnsT tab03 "_law_lone" = some L_lone_F := by kernel_rfl
theorem L_lone_sh (d : Nat) (va : V) : cq03 (d + 1) "_law_lone" [va] = (isUp (cf03 d) (Str.ofString "BadFill") va >>= fun t0 => (bInt t0 >>= fun t1 => (isUp (cf03 d) (Str.ofString "BadKind") va >>= fun t2 => (bInt t2 >>= fun t3 => (binop .Add t1 t3 >>= fun t4 => (isUp (cf03 d) (Str.ofString "Lacks") va >>= fun t5 => (bInt t5 >>= fun t6 => (binop .Add t4 t6 >>= fun t7 => (isUp (cf03 d) (Str.ofString "NoDefinition") va >>= fun t8 => (bInt t8 >>= fun t9 => (binop .Add t7 t9 >>= fun t10 => (isUp (cf03 d) (Str.ofString "NoNumber") va >>= fun t11 => (bInt t11 >>= fun t12 => (binop .Add t10 t12 >>= fun t13 => (isUp (cf03 d) (Str.ofString "NoRecord") va >>= fun t14 => (bInt t14 >>= fun t15 => (binop .Add t13 t15 >>= fun t16 => (isUp (cf03 d) (Str.ofString "ValueError") va >>= fun t17 => (truth t17 >>= fun b18 => M.cond b18 (isUp (cf03 d) (Str.ofString "TooGreat") va >>= fun t19 => (bInt t19 >>= fun t20 => (binop .Add t16 t20 >>= fun t21 => (cmp .Eq t21 (V.int 1) >>= fun t22 => (pure t22 : M V))))) (pure t17 : M V)))))))))))))))))))) :=
 (cq03_succ L_lone_K d _).trans (by kernel_rfl)
noncomputable def L_knots_F : Fn := (fnsT tab03 "_law_knots").getD ⟨[], [], []⟩
theorem L_knots_K : fnsT tab03 "_law_knots" = some L_knots_F := by kernel_rfl
noncomputable def L_knots_c1 : Expr := (ePart (ePart (sVal (nthS L_knots_F.body 1)) 1) 1)
theorem L_knots_c1_in (va : V) : innerLoc L_knots_F.names [some va, none] (cScope L_knots_c1).names = pure [none, none, none] := by kernel_rfl
theorem L_knots_c1_bind (oa : Option V) (vb : V) : bindTo (stLocL (relab L_knots_F.names (cScope L_knots_c1).names)) (cTgt L_knots_c1) vb [none, oa, none] = pure [none, some vb, none] := by kernel_rfl
theorem L_knots_c1_elt (d : Nat) (va : V) : ev (cf03 d) (cElt L_knots_c1) (relab L_knots_F.names (cScope L_knots_c1).names) [none, some va, none] = (item va (V.int 1) >>= fun t0 => (cl03 d "_law_knots" [t0] >>= fun t1 => (pure t1 : M V))) := by kernel_rfl
theorem L_knots_c1_tst (d : Nat) (loc : Loc) : tests (cf03 d) (cIfs L_knots_c1) (relab L_knots_F.names (cScope L_knots_c1).names) loc = (pure true : M Bool) := by kernel_rfl
theorem L_knots_c1_ok : compOk (cScope L_knots_c1).kind (cScope L_knots_c1).names = true := by kernel_rfl
noncomputable def L_knots_t1 (d : Nat) (va : V) : M V := (item va (V.int 1) >>= fun t0 => (srcV t0 >>= fun s1 => (compAll (cf03 d) (cElt L_knots_c1) (cTgt L_knots_c1) (cIfs L_knots_c1) (cScope L_knots_c1) s1 L_knots_F.names [some va, none] >>= fun t2 => (bSum t2 >>= fun t3 => (binop .Add (V.int 1) t3 >>= fun t4 => (pure t4 : M V))))))
theorem L_knots_sh (d : Nat) (va : V) : cl03 (d + 1) "_law_knots" [va] = (item va (V.int 0) >>= fun t0 => (cmp .NotEq t0 (V.str (Str.ofString "record")) >>= fun t1 => (truth t1 >>= fun b2 => (M.cond b2 (pure (V.int 1) : M V) (L_knots_t1 d va))))) :=
 (cl03_succ L_knots_K d _).trans (by kernel_rfl)
noncomputable def L_deep_F : Fn := (fnsT tab03 "_law_deep").getD ⟨[], [], []⟩
theorem L_deep_K : fnsT tab03 "_law_deep" = some L_deep_F := by kernel_rfl
noncomputable def L_deep_c1 : Expr := (ePart (ePart (sVal (nthS L_deep_F.body 1)) 1) 1)
theorem L_deep_c1_in (va : V) : innerLoc L_deep_F.names [some va, none] (cScope L_deep_c1).names = pure [none, none, none] := by kernel_rfl
theorem L_deep_c1_bind (oa : Option V) (vb : V) : bindTo (stLocL (relab L_deep_F.names (cScope L_deep_c1).names)) (cTgt L_deep_c1) vb [none, oa, none] = pure [none, some vb, none] := by kernel_rfl
theorem L_deep_c1_elt (d : Nat) (va : V) : ev (cf03 d) (cElt L_deep_c1) (relab L_deep_F.names (cScope L_deep_c1).names) [none, some va, none] = (item va (V.int 1) >>= fun t0 => (cl03 d "_law_deep" [t0] >>= fun t1 => (pure t1 : M V))) := by kernel_rfl
theorem L_deep_c1_tst (d : Nat) (loc : Loc) : tests (cf03 d) (cIfs L_deep_c1) (relab L_deep_F.names (cScope L_deep_c1).names) loc = (pure true : M Bool) := by kernel_rfl
theorem L_deep_c1_ok : compOk (cScope L_deep_c1).kind (cScope L_deep_c1).names = true := by kernel_rfl
noncomputable def L_deep_t1 (d : Nat) (va : V) : M V := (item va (V.int 1) >>= fun t0 => (srcV t0 >>= fun s1 => (compAll (cf03 d) (cElt L_deep_c1) (cTgt L_deep_c1) (cIfs L_deep_c1) (cScope L_deep_c1) s1 L_deep_F.names [some va, none] >>= fun t2 => (bMax 0 t2 >>= fun t3 => (binop .Add (V.int 1) t3 >>= fun t4 => (pure t4 : M V))))))
theorem L_deep_sh (d : Nat) (va : V) : cl03 (d + 1) "_law_deep" [va] = (item va (V.int 0) >>= fun t0 => (cmp .NotEq t0 (V.str (Str.ofString "record")) >>= fun t1 => (truth t1 >>= fun b2 => (M.cond b2 (pure (V.int 1) : M V) (L_deep_t1 d va))))) :=
 (cl03_succ L_deep_K d _).trans (by kernel_rfl)
noncomputable def L_met_F : Fn := (fnsT tab03 "_law_met").getD ⟨[], [], []⟩
theorem L_met_K : fnsT tab03 "_law_met" = some L_met_F := by kernel_rfl
noncomputable def L_met_t2 (d : Nat) (va vb vc : V) (od oe : Option V) : M V := (pure vc : M V)
noncomputable def L_met_l1 : Stmt := (nthS (sBody (nthS L_met_F.body 2)) 0)
theorem L_met_l1_step (d : Nat) (va vb vc vd : V) (oe : Option V) : (bindTo (stLoc L_met_F.names) (sTgt L_met_l1) va [some vb, some vc, some vd, oe, none, none] >>= exs (cf03 d) (sBody L_met_l1) L_met_F.names) = ((item va (V.int 1) >>= fun t0 => (cl03 d "_law_met" [t0, vc] >>= fun t1 => (truth t1 >>= fun b2 => M.cond b2 (pure vd : M V) (pure t1 : M V)))) >>= fun t3 => (pure (Fl.next, [some vb, some vc, some t3, some va, none, none]) : M (Fl × Loc))) := by kernel_rfl
noncomputable def L_met_a1 (d : Nat) (loc : Loc) : M V := exsK (cf03 d) (List.drop 1 (sBody (nthS L_met_F.body 2))) L_met_F.names loc (flK retK (fun loc' => exsK (cf03 d) (List.drop 3 L_met_F.body) L_met_F.names loc' retK))
noncomputable def L_met_c1 : Expr := (sVal (nthS (sBody (nthS L_met_F.body 2)) 1))
theorem L_met_c1_in (va vb vc : V) (od : Option V) : innerLoc L_met_F.names [some va, some vb, some vc, od, none, none] (cScope L_met_c1).names = pure [none, none] := by kernel_rfl
theorem L_met_c1_bind (oa : Option V) (vb : V) : bindTo (stLocL (relab L_met_F.names (cScope L_met_c1).names)) (cTgt L_met_c1) vb [none, oa] = pure [none, some vb] := by kernel_rfl
theorem L_met_c1_elt (d : Nat) (va : V) : ev (cf03 d) (cElt L_met_c1) (relab L_met_F.names (cScope L_met_c1).names) [none, some va] = (item va (V.int 0) >>= fun t0 => (pure t0 : M V)) := by kernel_rfl
theorem L_met_c1_tst (d : Nat) (loc : Loc) : tests (cf03 d) (cIfs L_met_c1) (relab L_met_F.names (cScope L_met_c1).names) loc = (pure true : M Bool) := by kernel_rfl
theorem L_met_c1_ok : compOk (cScope L_met_c1).kind (cScope L_met_c1).names = true := by kernel_rfl
theorem L_met_a1_eq (d : Nat) (va vb vc : V) (od : Option V) : L_met_a1 d [some va, some vb, some vc, od, none, none] = (item va (V.int 1) >>= fun t0 => (srcV t0 >>= fun s1 => (compAll (cf03 d) (cElt L_met_c1) (cTgt L_met_c1) (cIfs L_met_c1) (cScope L_met_c1) s1 L_met_F.names [some va, some vb, some vc, od, none, none] >>= fun t2 => ((item va (V.int 2) >>= fun t3 => (cmp .IsNot t3 V.none >>= fun t4 => (truth t4 >>= fun b5 => (M.cond b5 (askS (mtag vb "setdefault") >>= fun g6 => (item va (V.int 2) >>= fun t7 => (runM g6 vb [t7, t2] >>= fun t8 => (cmp .NotEq t8 t2 >>= fun t9 => (truth t9 >>= fun b10 => (M.cond b10 (pure true : M Bool) (pure false : M Bool))))))) (pure false : M Bool))))) >>= fun b11 => (M.cond b11 (pure (V.bool false) : M V) (L_met_t2 d va vb vc od (some t2))))))) := by kernel_rfl
noncomputable def L_met_t1 (d : Nat) (va vb : V) : M V := (item va (V.int 0) >>= fun t0 => (cmp .Eq t0 (V.str (Str.ofString "record")) >>= fun t1 => (truth t1 >>= fun b2 => (M.cond b2 (item va (V.int 1) >>= fun t3 => (srcV t3 >>= fun s4 => (forAll (cf03 d) (sTgt L_met_l1) (sBody L_met_l1) s4 L_met_F.names [some va, some vb, some (V.bool true), none, none, none] >>= flK (flK retK (fun loc' => exsK (cf03 d) (List.drop 3 L_met_F.body) L_met_F.names loc' retK)) (L_met_a1 d)))) (L_met_t2 d va vb (V.bool true) none none)))))
theorem L_met_sh (d : Nat) (va vb : V) : cl03 (d + 1) "_law_met" [va, vb] = (item va (V.int 0) >>= fun t0 => (cmp .Eq t0 (V.str (Str.ofString "blank")) >>= fun t1 => (truth t1 >>= fun b2 => (M.cond b2 (askS (mtag vb "setdefault") >>= fun g3 => (item va (V.int 1) >>= fun t4 => (runM g3 vb [t4, V.none] >>= fun t5 => (cmp .Is t5 V.none >>= fun t6 => (pure t6 : M V))))) (L_met_t1 d va vb))))) :=
 (cl03_succ L_met_K d _).trans (by kernel_rfl)
noncomputable def L_odd_F : Fn := (fnsT tab03 "_law_odd").getD ⟨[], [], []⟩
theorem L_odd_K : fnsT tab03 "_law_odd" = some L_odd_F := by kernel_rfl
noncomputable def L_odd_t1 (d : Nat) (va vb vc vd : V) : M V := (newO (.list [(V.tup [(V.str (Str.ofString "blank")), (V.int (-1))])]) >>= fun t0 => (binop .Add vd t0 >>= fun t1 => (bLen vd >>= fun t2 => (binop .Add t2 (V.int 1) >>= fun t3 => (binop .Mod va t3 >>= fun t4 => (item t1 t4 >>= fun t5 => (pure t5 : M V)))))))
theorem L_odd_sh (d : Nat) (va vb : V) : cl03 (d + 1) "_law_odd" [va, vb] = (newO (.list []) >>= fun t0 => (newO (.list [V.none, (V.tup []), (V.tup [(V.str (Str.ofString "kind"))]), (V.tup [(V.tup []), (V.int 5), (V.int 5)]), (V.tup [(V.tup [(V.str (Str.ofString "a")), (V.tup [(V.str (Str.ofString "number"))])]), V.none]), (V.tup [t0, V.none])]) >>= fun t1 => (newO (.list [(V.tup [(V.tup [(V.tup [(V.str (Str.ofString "b")), (V.tup [(V.str (Str.ofString "number"))])]), (V.tup [(V.str (Str.ofString "a")), (V.tup [(V.str (Str.ofString "number"))])])]), V.none])]) >>= fun t2 => (binop .Add t1 t2 >>= fun t3 => (newO (.list [(V.tup [(V.tup [(V.tup [(V.str (Str.ofString "A")), (V.tup [(V.str (Str.ofString "number"))])])]), V.none]), (V.tup [(V.tup [(V.tup [(V.str (Str.ofString "a")), V.none])]), V.none]), (V.tup [(V.tup []), (V.bool true)]), (V.tup [(V.tup []), (V.int (-1))])]) >>= fun t4 => (binop .Add t3 t4 >>= fun t5 => (newO (.list [(V.tup [(V.str (Str.ofString "number")), (V.int 1)]), (V.int 7), (V.str (Str.ofString "number"))]) >>= fun t6 => (binop .Add t5 t6 >>= fun t7 => ((cmp .IsNot vb V.none >>= fun t8 => (truth t8 >>= fun b9 => (M.cond b9 (newO (.list []) >>= fun t10 => (cmp .NotEq vb t10 >>= fun t11 => (truth t11 >>= fun b12 => (M.cond b12 (pure true : M Bool) (pure false : M Bool))))) (pure false : M Bool)))) >>= fun b13 => (M.cond b13 (askS (mtag t7 "append") >>= fun g14 => (item vb (V.int 0) >>= fun t15 => (runM g14 t7 [(V.tup [(V.tup [(V.tup [t15, (V.tup [(V.str (Str.ofString "number"))])])]), V.none])] >>= fun t16 => (L_odd_t1 d va vb (V.tup [(V.str (Str.ofString "number"))]) t7)))) (L_odd_t1 d va vb (V.tup [(V.str (Str.ofString "number"))]) t7))))))))))) :=
 (cl03_succ L_odd_K d _).trans (by kernel_rfl)
noncomputable def L_tried_F : Fn := (fnsT tab03 "_law_tried").getD ⟨[], [], []⟩
theorem L_tried_K : fnsT tab03 "_law_tried" = some L_tried_F := by kernel_rfl
noncomputable def L_tried_t2 (d : Nat) (va vb vc : V) : M (Fl × Loc) := (newO (.list [(V.str (Str.ofString "BadFill")), (V.str (Str.ofString "TooGreat"))]) >>= fun t0 => (isUp (cf03 d) (Str.ofString "TooGreat") vc >>= fun t1 => (bInt t1 >>= fun t2 => (item t0 t2 >>= fun t3 => (newO (.list [t3]) >>= fun t4 => (pure (Fl.ret t4, [some va, some vb, some vc, none, none, none, none, none, none, none]) : M (Fl × Loc)))))))
noncomputable def L_tried_t1 (d : Nat) (va vb vc : V) : M (Fl × Loc) := (isUp (cf03 d) (Str.ofString "BadKind") vc >>= fun t0 => (truth t0 >>= fun b1 => (M.cond b1 (newO (.list [(V.str (Str.ofString "BadKind"))]) >>= fun t2 => (pure (Fl.ret t2, [some va, some vb, some vc, none, none, none, none, none, none, none]) : M (Fl × Loc))) (L_tried_t2 d va vb vc))))
noncomputable def L_tried_h (d : Nat) (va vb e512 : V) : M (Fl × Loc) := (cq03 d "_law_lone" [e512] >>= fun t0 => (truth t0 >>= fun b1 => (M.cond (!b1) (newO (.list [(V.str (Str.ofString "more"))]) >>= fun t2 => (pure (Fl.ret t2, [some va, some vb, some e512, none, none, none, none, none, none, none]) : M (Fl × Loc))) (L_tried_t1 d va vb e512))))
theorem L_tried_sh (d : Nat) (va vb : V) : cl03 (d + 1) "_law_tried" [va, vb] = (M.tryd (cl03 d "filled" [va, vb] >>= fun t0 => (pure t0 : M V)) (fun v => (pure v : M V)) (fun e512 => (excIs (cf03 d) (Str.ofString "FieldError") e512 >>= fun b => if b = true then (M.safe (L_tried_h d va vb e512) >>= fun r => (pure (r.1, dropLoc r.2) : M (Fl × Loc))) else M.bad) >>= fun x => andThen x (exs (cf03 d) [] L_tried_F.names) >>= retK)) :=
 (cl03_succ L_tried_K d _).trans (by kernel_rfl)
noncomputable def L_due_F : Fn := (fnsT tab03 "_law_due").getD ⟨[], [], []⟩
theorem L_due_K : fnsT tab03 "_law_due" = some L_due_F := by kernel_rfl
noncomputable def L_due_t2 (d : Nat) (va vb vc vd : V) : M V := (newO (.dict 0 []) >>= fun t0 => (cl03 d "_law_met" [vd, t0] >>= fun t1 => (truth t1 >>= fun b2 => (M.cond b2 (pure vd : M V) (newO (.list [(V.str (Str.ofString "BadFill"))]) >>= fun t3 => (pure t3 : M V))))))
noncomputable def L_due_t1 (d : Nat) (va vb vc : V) : M V := (cl03 d "_law_filled" [va, vb] >>= fun t0 => ((cl03 d "_law_knots" [t0] >>= fun t1 => (cmp .Gt t1 (V.int 200) >>= fun t2 => (truth t2 >>= fun b3 => (M.cond b3 (pure true : M Bool) (cl03 d "_law_deep" [t0] >>= fun t4 => (cmp .Gt t4 (V.int 12) >>= fun t5 => (truth t5 >>= fun b6 => (M.cond b6 (pure true : M Bool) (pure false : M Bool))))))))) >>= fun b7 => (M.cond b7 (newO (.list [(V.str (Str.ofString "TooGreat"))]) >>= fun t8 => (pure t8 : M V)) (L_due_t2 d va vb vc t0))))
theorem L_due_sh (d : Nat) (va vb vc : V) : cl03 (d + 1) "_law_due" [va, vb, vc] = (truth vc >>= fun b0 => (M.cond b0 (newO (.list [(V.str (Str.ofString "BadFill"))]) >>= fun t1 => (pure t1 : M V)) (L_due_t1 d va vb vc))) :=
 (cl03_succ L_due_K d _).trans (by kernel_rfl)
noncomputable def L_round_F : Fn := (fnsT tab03 "_law_round").getD ⟨[], [], []⟩
theorem L_round_K : fnsT tab03 "_law_round" = some L_round_F := by kernel_rfl
noncomputable def L_round_l1 : Stmt := (nthS L_round_F.body 6)
theorem L_round_l1_step (d : Nat) (va vb vc vd ve vf vg vh vi vj vk : V) : (bindTo (stLoc L_round_F.names) (sTgt L_round_l1) va [some vb, some vc, some vd, some ve, some vf, some vg, some vh, some vi, some vj, some vk, none, none, none, none, none, none, none, none, none, none, none, none, none, none, none, none, none, none, none, none] >>= exs (cf03 d) (sBody L_round_l1) L_round_F.names) = ((binop .FloorDiv ve (V.int 3) >>= fun t0 => (binop .Mod t0 (V.int 3) >>= fun t1 => (cmp .Gt t1 (V.int 0) >>= fun t2 => (truth t2 >>= fun b3 => (M.cond b3 (pure true : M Bool) (cl03 d "_law_next" [vg] >>= fun t4 => (binop .Mod t4 (V.int 2) >>= fun t5 => (cmp .Eq t5 (V.int 0) >>= fun t6 => (truth t6 >>= fun b7 => (M.cond b7 (pure true : M Bool) (pure false : M Bool))))))))))) >>= fun b8 => (M.cond b8 (item vj va >>= fun t9 => (cl03 d "_law_fill" [vg, vb, vh, t9] >>= fun t10 => (setItem vk va t10 >>= fun ya => (pure (Fl.next, [some vb, some vc, some vd, some ve, some va, some vg, some vh, some vi, some vj, some vk, none, none, none, none, none, none, none, none, none, none, none, none, none, none, none, none, none, none, none, none]) : M (Fl × Loc))))) (pure (Fl.next, [some vb, some vc, some vd, some ve, some va, some vg, some vh, some vi, some vj, some vk, none, none, none, none, none, none, none, none, none, none, none, none, none, none, none, none, none, none, none, none]) : M (Fl × Loc)))) := by kernel_rfl
noncomputable def L_round_a1 (d : Nat) (loc : Loc) : M V := exsK (cf03 d) (List.drop 7 L_round_F.body) L_round_F.names loc retK
noncomputable def L_round_c1 : Expr := (sVal (nthS L_round_F.body 11))
theorem L_round_c1_in (va vb vc vd ve vf vg vh vi vj vk : V) (ol om : Option V) : innerLoc L_round_F.names [some va, some vb, some vc, some vd, some ve, some vf, some vg, some vh, some vi, some vj, some vk, ol, om, none, none, none, none, none, none, none, none, none, none, none, none, none, none, none, none, none] (cScope L_round_c1).names = pure [none, none, some vi] := by kernel_rfl
theorem L_round_c1_bind (va : V) (ob : Option V) (vc : V) : bindTo (stLocL (relab L_round_F.names (cScope L_round_c1).names)) (cTgt L_round_c1) vc [none, ob, some va] = pure [none, some vc, some va] := by kernel_rfl
theorem L_round_c1_elt (d : Nat) (va vb : V) : ev (cf03 d) (cElt L_round_c1) (relab L_round_F.names (cScope L_round_c1).names) [none, some vb, some va] = (pure vb : M V) := by kernel_rfl
theorem L_round_c1_tst (d : Nat) (va vb : V) : tests (cf03 d) (cIfs L_round_c1) (relab L_round_F.names (cScope L_round_c1).names) [none, some vb, some va] = (item va vb >>= fun t0 => (cmp .Is t0 V.none >>= fun t1 => (truth t1 >>= fun b2 => (pure b2 : M Bool)))) := by kernel_rfl
theorem L_round_c1_ok : compOk (cScope L_round_c1).kind (cScope L_round_c1).names = true := by kernel_rfl
noncomputable def L_round_c2 : Expr := (sVal (nthS L_round_F.body 12))
theorem L_round_c2_in (va vb vc vd ve vf vg vh vi vj vk : V) (ol om : Option V) (vn : V) : innerLoc L_round_F.names [some va, some vb, some vc, some vd, some ve, some vf, some vg, some vh, some vi, some vj, some vk, ol, om, some vn, none, none, none, none, none, none, none, none, none, none, none, none, none, none, none, none] (cScope L_round_c2).names = pure [none, none, some vi] := by kernel_rfl
theorem L_round_c2_bind (va : V) (ob : Option V) (vc : V) : bindTo (stLocL (relab L_round_F.names (cScope L_round_c2).names)) (cTgt L_round_c2) vc [none, ob, some va] = pure [none, some vc, some va] := by kernel_rfl
theorem L_round_c2_elt (d : Nat) (va vb : V) : ev (cf03 d) (cElt L_round_c2) (relab L_round_F.names (cScope L_round_c2).names) [none, some vb, some va] = (pure vb : M V) := by kernel_rfl
theorem L_round_c2_tst (d : Nat) (va vb : V) : tests (cf03 d) (cIfs L_round_c2) (relab L_round_F.names (cScope L_round_c2).names) [none, some vb, some va] = (item va vb >>= fun t0 => (cmp .IsNot t0 V.none >>= fun t1 => (truth t1 >>= fun b2 => (pure b2 : M Bool)))) := by kernel_rfl
theorem L_round_c2_ok : compOk (cScope L_round_c2).kind (cScope L_round_c2).names = true := by kernel_rfl
noncomputable def L_round_t4 (d : Nat) (va vb vc vd ve vf vg vh vi vj vk : V) (ol om : Option V) (vn vo vp vq vr : V) : M V := (cl03 d "_law_tried" [vh, vp] >>= fun t0 => (cmp .Eq t0 vq >>= fun t1 => (truth t1 >>= fun b2 => M.cond b2 (cl03 d "_law_tried" [(V.tup [(V.str (Str.ofString "none"))]), vp] >>= fun t3 => (newO (.list [(V.str (Str.ofString "BadKind"))]) >>= fun t4 => (cmp .Eq t3 t4 >>= fun t5 => (pure t5 : M V)))) (pure t1 : M V))))
noncomputable def L_round_t3 (d : Nat) (va vb vc vd ve vf vg vh vi vj vk : V) (ol om : Option V) (vn vo : V) : M V := (bDict vj >>= fun t0 => (cl03 d "_law_due" [vh, vj, vk] >>= fun t1 => (cl03 d "_law_tried" [vh, vj] >>= fun t2 => (askS (mtag vj "clear") >>= fun g3 => (runM g3 vj [] >>= fun t4 => ((cmp .NotEq t2 t1 >>= fun t5 => (truth t5 >>= fun b6 => (M.cond b6 (pure true : M Bool) (isKd Kd.list t2 >>= fun t7 => (isKd Kd.list t1 >>= fun t8 => (cmp .NotEq t7 t8 >>= fun t9 => (truth t9 >>= fun b10 => (M.cond b10 (pure true : M Bool) (pure false : M Bool))))))))) >>= fun b11 => (M.cond b11 (pure (V.bool false) : M V) (L_round_t4 d va vb vc vd ve vf vg vh vi vj vk ol om vn vo t0 t1 t2))))))))
noncomputable def L_round_t2 (d : Nat) (va vb vc vd ve vf vg vh vi vj vk : V) (ol om : Option V) : M V := (srcV vi >>= fun s0 => (compAll (cf03 d) (cElt L_round_c1) (cTgt L_round_c1) (cIfs L_round_c1) (cScope L_round_c1) s0 L_round_F.names [some va, some vb, some vc, some vd, some ve, some vf, some vg, some vh, some vi, some vj, some vk, ol, om, none, none, none, none, none, none, none, none, none, none, none, none, none, none, none, none, none] >>= fun t1 => (srcV vi >>= fun s2 => (compAll (cf03 d) (cElt L_round_c2) (cTgt L_round_c2) (cIfs L_round_c2) (cScope L_round_c2) s2 L_round_F.names [some va, some vb, some vc, some vd, some ve, some vf, some vg, some vh, some vi, some vj, some vk, ol, om, some t1, none, none, none, none, none, none, none, none, none, none, none, none, none, none, none, none] >>= fun t3 => ((binop .Mod vd (V.int 9) >>= fun t4 => (newO (.list [(V.int 5), (V.int 8)]) >>= fun t5 => (cmp .In t4 t5 >>= fun t6 => (truth t6 >>= fun b7 => (M.cond b7 (newO (.list []) >>= fun t8 => (cmp .NotEq t1 t8 >>= fun t9 => (truth t9 >>= fun b10 => (M.cond b10 (newO (.list []) >>= fun t11 => (cmp .NotEq t3 t11 >>= fun t12 => (truth t12 >>= fun b13 => (M.cond b13 (pure true : M Bool) (pure false : M Bool))))) (pure false : M Bool))))) (pure false : M Bool)))))) >>= fun b14 => (M.cond b14 (askS (mtag vj "pop") >>= fun g15 => (item t3 (V.int 0) >>= fun t16 => (runM g15 vj [t16, V.none] >>= fun t17 => (item t3 (V.int 0) >>= fun t18 => (item t3 (V.int 0) >>= fun t19 => (newO (.list [(V.tup [(V.str (Str.ofString "blank")), t18]), (V.tup [(V.str (Str.ofString "record")), (V.tup [(V.tup [(V.str (Str.ofString "a")), (V.tup [(V.str (Str.ofString "number"))])])]), t19])]) >>= fun t20 => (binop .FloorDiv vd (V.int 9) >>= fun t21 => (binop .Mod t21 (V.int 2) >>= fun t22 => (item t20 t22 >>= fun t23 => (item t1 (V.int 0) >>= fun t24 => (setItem vj t24 t23 >>= fun ya => (L_round_t3 d va vb vc vd ve vf vg vh vi vj vk ol om t1 t3)))))))))))) (L_round_t3 d va vb vc vd ve vf vg vh vi vj vk ol om t1 t3)))))))
noncomputable def L_round_l2 : Stmt := (nthS (sBody (nthS L_round_F.body 10)) 0)
noncomputable def L_round_l3 : Stmt := (nthS (sBody L_round_l2) 0)
theorem L_round_l3_step (d : Nat) (va vb vc vd ve vf vg vh vi vj vk vl vm : V) : (bindTo (stLoc L_round_F.names) (sTgt L_round_l3) va [some vb, some vc, some vd, some ve, some vf, some vg, some vh, some vi, some vj, some vk, some vl, some vm, none, none, none, none, none, none, none, none, none, none, none, none, none, none, none, none, none, none] >>= exs (cf03 d) (sBody L_round_l3) L_round_F.names) = (item vj va >>= fun t0 => (cmp .Is t0 V.none >>= fun t1 => (truth t1 >>= fun b2 => (M.cond b2 (askS (mtag vk "get") >>= fun g3 => (runM g3 vk [va, (V.tup [(V.str (Str.ofString "number"))])] >>= fun t4 => (setItem vk va (V.tup [(V.str (Str.ofString "record")), (V.tup [(V.tup [(V.str (Str.ofString "a")), t4])]), V.none]) >>= fun ya => (pure (Fl.next, [some vb, some vc, some vd, some ve, some va, some vg, some vh, some vi, some vj, some vk, some vl, some vm, none, none, none, none, none, none, none, none, none, none, none, none, none, none, none, none, none, none]) : M (Fl × Loc))))) (pure (Fl.next, [some vb, some vc, some vd, some ve, some va, some vg, some vh, some vi, some vj, some vk, some vl, some vm, none, none, none, none, none, none, none, none, none, none, none, none, none, none, none, none, none, none]) : M (Fl × Loc)))))) := by kernel_rfl
noncomputable def L_round_a2 (d : Nat) (loc : Loc) : M (Fl × Loc) := exsK (cf03 d) (List.drop 1 (sBody L_round_l2)) L_round_F.names loc (fun x => pure x)
theorem L_round_a2_eq (d : Nat) (va vb vc vd ve vf vg vh vi vj vk vl : V) : L_round_a2 d [some va, some vb, some vc, some vd, some ve, some vf, some vg, some vh, some vi, some vj, some vk, some vl, none, none, none, none, none, none, none, none, none, none, none, none, none, none, none, none, none, none] = (pure (Fl.next, [some va, some vb, some vc, some vd, some ve, some vf, some vg, some vh, some vi, some vj, some vk, some vl, none, none, none, none, none, none, none, none, none, none, none, none, none, none, none, none, none, none]) : M (Fl × Loc)) := by kernel_rfl
theorem L_round_l2_step (d : Nat) (va vb vc vd ve vf vg vh vi vj vk vl : V) (om : Option V) : (bindTo (stLoc L_round_F.names) (sTgt L_round_l2) va [some vb, some vc, some vd, some ve, some vf, some vg, some vh, some vi, some vj, some vk, some vl, om, none, none, none, none, none, none, none, none, none, none, none, none, none, none, none, none, none, none] >>= exs (cf03 d) (sBody L_round_l2) L_round_F.names) = (srcV vj >>= fun s0 => (forAll (cf03 d) (sTgt L_round_l3) (sBody L_round_l3) s0 L_round_F.names [some vb, some vc, some vd, some ve, some vf, some vg, some vh, some vi, some vj, some vk, some vl, some va, none, none, none, none, none, none, none, none, none, none, none, none, none, none, none, none, none, none] >>= flK (fun x => pure x) (L_round_a2 d))) := by kernel_rfl
noncomputable def L_round_a3 (d : Nat) (loc : Loc) : M V := exsK (cf03 d) (List.drop 1 (sBody (nthS L_round_F.body 10))) L_round_F.names loc (flK retK (fun loc' => exsK (cf03 d) (List.drop 11 L_round_F.body) L_round_F.names loc' retK))
noncomputable def L_round_c3 : Expr := (sVal (nthS (sBody (nthS L_round_F.body 10)) 1))
theorem L_round_c3_in (va vb vc vd ve vf vg vh vi vj vk : V) (ol : Option V) : innerLoc L_round_F.names [some va, some vb, some vc, some vd, some ve, some vf, some vg, some vh, some vi, some vj, some vk, ol, none, none, none, none, none, none, none, none, none, none, none, none, none, none, none, none, none, none] (cScope L_round_c3).names = pure [none, none, none, some vi, some vj] := by kernel_rfl
theorem L_round_c3_bind (va vb : V) (oc : Option V) (vd : V) : bindTo (stLocL (relab L_round_F.names (cScope L_round_c3).names)) (cTgt L_round_c3) vd [none, oc, none, some va, some vb] = pure [none, some vd, none, some va, some vb] := by kernel_rfl
theorem L_round_c3_elt (d : Nat) (va vb vc : V) : ev (cf03 d) (cElt L_round_c3) (relab L_round_F.names (cScope L_round_c3).names) [none, some vc, none, some va, some vb] = (pure vc : M V) := by kernel_rfl
theorem L_round_c3_tst (d : Nat) (va vb vc : V) : tests (cf03 d) (cIfs L_round_c3) (relab L_round_F.names (cScope L_round_c3).names) [none, some vc, none, some va, some vb] = (item va vc >>= fun t0 => (cmp .Is t0 V.none >>= fun t1 => (truth t1 >>= fun b2 => (M.cond b2 (item vb vc >>= fun t3 => (cl03 d "_law_deep" [t3] >>= fun t4 => (cmp .Gt t4 (V.int 12) >>= fun t5 => (truth t5 >>= fun b6 => (M.cond b6 (pure true : M Bool) (pure false : M Bool)))))) (pure false : M Bool))))) := by kernel_rfl
theorem L_round_c3_ok : compOk (cScope L_round_c3).kind (cScope L_round_c3).names = true := by kernel_rfl
theorem L_round_a3_eq (d : Nat) (va vb vc vd ve vf vg vh vi vj vk : V) (ol : Option V) : L_round_a3 d [some va, some vb, some vc, some vd, some ve, some vf, some vg, some vh, some vi, some vj, some vk, ol, none, none, none, none, none, none, none, none, none, none, none, none, none, none, none, none, none, none] = (srcV vi >>= fun s0 => (compAll (cf03 d) (cElt L_round_c3) (cTgt L_round_c3) (cIfs L_round_c3) (cScope L_round_c3) s0 L_round_F.names [some va, some vb, some vc, some vd, some ve, some vf, some vg, some vh, some vi, some vj, some vk, ol, none, none, none, none, none, none, none, none, none, none, none, none, none, none, none, none, none, none] >>= fun t1 => (newO (.list []) >>= fun t2 => (cmp .NotEq t1 t2 >>= fun t3 => (L_round_t2 d va vb vc vd ve vf vg vh vi vj t3 ol (some t1)))))) := by kernel_rfl
noncomputable def L_round_t1 (d : Nat) (va vb vc vd ve vf vg vh vi vj vk : V) : M V := (binop .Mod vd (V.int 9) >>= fun t0 => (cmp .Eq t0 (V.int 2) >>= fun t1 => (truth t1 >>= fun b2 => (M.cond b2 (rangeOf (V.int 11) >>= fun s3 => (forAll (cf03 d) (sTgt L_round_l2) (sBody L_round_l2) s3 L_round_F.names [some va, some vb, some vc, some vd, some ve, some vf, some vg, some vh, some vi, some vj, some vk, none, none, none, none, none, none, none, none, none, none, none, none, none, none, none, none, none, none, none] >>= flK (flK retK (fun loc' => exsK (cf03 d) (List.drop 11 L_round_F.body) L_round_F.names loc' retK)) (L_round_a3 d))) (L_round_t2 d va vb vc vd ve vf vg vh vi vj vk none none)))))
theorem L_round_a1_eq (d : Nat) (va vb vc vd ve vf vg vh vi vj : V) : L_round_a1 d [some va, some vb, some vc, some vd, some ve, some vf, some vg, some vh, some vi, some vj, none, none, none, none, none, none, none, none, none, none, none, none, none, none, none, none, none, none, none, none] = (item vg (V.int 0) >>= fun t0 => (binop .Mult t0 (V.int 100) >>= fun t1 => (binop .Add t1 (V.int 1) >>= fun t2 => (setItem vj t2 (V.tup [(V.str (Str.ofString "no")), (V.str (Str.ofString "kind"))]) >>= fun ya => ((binop .Mod vd (V.int 3) >>= fun t3 => (cmp .Eq t3 (V.int 1) >>= fun t4 => (truth t4 >>= fun b5 => M.cond b5 (bList vi >>= fun t6 => (newO (.list []) >>= fun t7 => (cmp .NotEq t6 t7 >>= fun t8 => (pure t8 : M V)))) (pure t4 : M V)))) >>= fun t9 => (truth t9 >>= fun b10 => (M.cond b10 (bList vi >>= fun t11 => (binop .FloorDiv vd (V.int 9) >>= fun t12 => (bLen vi >>= fun t13 => (binop .Mod t12 t13 >>= fun t14 => (item t11 t14 >>= fun t15 => (binop .FloorDiv vd (V.int 27) >>= fun t16 => (item vi t15 >>= fun t17 => (cl03 d "_law_odd" [t16, t17] >>= fun t18 => (setItem vj t15 t18 >>= fun ya => (L_round_t1 d va vb vc vd t15 vf vg vh vi vj t9)))))))))) (L_round_t1 d va vb vc vd ve vf vg vh vi vj t9)))))))) := by kernel_rfl
theorem L_round_sh (d : Nat) (va vb vc vd ve : V) : cl03 (d + 1) "_law_round" [va, vb, vc, vd, ve] = (binop .Mod vb (V.int 2147483645) >>= fun t0 => (binop .Add (V.int 1) t0 >>= fun t1 => (binop .Mod vc (V.int 23) >>= fun t2 => (binop .Add (V.int 8) t2 >>= fun t3 => (newO (.list [t1, t3]) >>= fun t4 => (binop .Pow (V.int 10) (V.int 6) >>= fun t5 => (binop .Mod ve t5 >>= fun t6 => (binop .Add (V.int 1) t6 >>= fun t7 => (newO (.list []) >>= fun t8 => (newO (.list [t7, t8]) >>= fun t9 => (binop .FloorDiv vc (V.int 23) >>= fun t10 => (binop .Mod t10 (V.int 4) >>= fun t11 => (binop .Add (V.int 3) t11 >>= fun t12 => (cl03 d "_law_kind" [t4, va, t9, t12] >>= fun t13 => (newO (.dict 0 []) >>= fun t14 => (cl03 d "_law_blanks" [t13, t14] >>= fun t15 => (setItem t4 (V.int 1) (V.int 25) >>= fun ya => (newO (.dict 0 []) >>= fun t16 => (srcV t15 >>= fun s17 => (forAll (cf03 d) (sTgt L_round_l1) (sBody L_round_l1) s17 L_round_F.names [some va, some vb, some vc, some vd, some ve, some t4, some t9, some t13, some t15, some t16, none, none, none, none, none, none, none, none, none, none, none, none, none, none, none, none, none, none, none, none] >>= flK retK (L_round_a1 d))))))))))))))))))))) :=
 (cl03_succ L_round_K d _).trans (by kernel_rfl)
noncomputable def L_law_F : Fn := (fnsT tab03 "law").getD ⟨[], [], []⟩
theorem L_law_K : fnsT tab03 "law" = some L_law_F := by kernel_rfl
noncomputable def L_law_l1 : Stmt := (nthS L_law_F.body 1)
noncomputable def L_law_c1 : Expr := (sVal (nthS (sBody L_law_l1) 0))
theorem L_law_c1_in (va vb vc : V) (od : Option V) : innerLoc L_law_F.names [some va, some vb, some vc, od, none, none, none, none] (cScope L_law_c1).names = pure [none, none, none, some vc, some va] := by kernel_rfl
theorem L_law_c1_bind (va vb : V) (oc : Option V) (vd : V) : bindTo (stLocL (relab L_law_F.names (cScope L_law_c1).names)) (cTgt L_law_c1) vd [none, oc, none, some vb, some va] = pure [none, some vd, none, some vb, some va] := by kernel_rfl
theorem L_law_c1_elt (d : Nat) (va vb vc : V) : ev (cf03 d) (cElt L_law_c1) (relab L_law_F.names (cScope L_law_c1).names) [none, some vc, none, some vb, some va] = (binop .Mult (V.int 4) vb >>= fun t0 => (binop .Add (V.int 1) t0 >>= fun t1 => (binop .Add t1 vc >>= fun t2 => (cl03 d "_law_cell" [va, t2] >>= fun t3 => (pure t3 : M V))))) := by kernel_rfl
theorem L_law_c1_tst (d : Nat) (loc : Loc) : tests (cf03 d) (cIfs L_law_c1) (relab L_law_F.names (cScope L_law_c1).names) loc = (pure true : M Bool) := by kernel_rfl
theorem L_law_c1_ok : compOk (cScope L_law_c1).kind (cScope L_law_c1).names = true := by kernel_rfl
theorem L_law_l1_step (d : Nat) (va vb vc : V) (od oe : Option V) : (bindTo (stLoc L_law_F.names) (sTgt L_law_l1) va [some vb, some vc, oe, od, none, none, none, none] >>= exs (cf03 d) (sBody L_law_l1) L_law_F.names) = (rangeOf (V.int 4) >>= fun s0 => (compAll (cf03 d) (cElt L_law_c1) (cTgt L_law_c1) (cIfs L_law_c1) (cScope L_law_c1) s0 L_law_F.names [some vb, some vc, some va, od, none, none, none, none] >>= fun t1 => (item t1 (V.int 0) >>= fun t2 => (item t1 (V.int 1) >>= fun t3 => (item t1 (V.int 2) >>= fun t4 => (item t1 (V.int 3) >>= fun t5 => (cl03 d "_law_round" [vc, t2, t3, t4, t5] >>= fun t6 => (truth t6 >>= fun b7 => (M.cond (!b7) (pure (Fl.ret (V.bool false), [some vb, some vc, some va, some t1, none, none, none, none]) : M (Fl × Loc)) (pure (Fl.next, [some vb, some vc, some va, some t1, none, none, none, none]) : M (Fl × Loc))))))))))) := by kernel_rfl
noncomputable def L_law_a1 (d : Nat) (loc : Loc) : M V := exsK (cf03 d) (List.drop 2 L_law_F.body) L_law_F.names loc retK
theorem L_law_a1_eq (d : Nat) (va vb : V) (oc od : Option V) : L_law_a1 d [some va, some vb, od, oc, none, none, none, none] = (pure (V.bool true) : M V) := by kernel_rfl
theorem L_law_sh (d : Nat) (va : V) : cl03 (d + 1) "law" [va] = (cl03 d "_law_cell" [va, (V.int 0)] >>= fun t0 => (cl03 d "_law_labels" [t0, (V.int 4)] >>= fun t1 => (rangeOf (V.int 3) >>= fun s2 => (forAll (cf03 d) (sTgt L_law_l1) (sBody L_law_l1) s2 L_law_F.names [some va, some t1, none, none, none, none, none, none] >>= flK retK (L_law_a1 d))))) :=
 (cl03_succ L_law_K d _).trans (by kernel_rfl)
end Mine.Internal

set_option backward.match.sparseCases false
namespace Mine.Internal
open PySem PyProof.Rows
theorem calm (d : Nat) : (cf03 d).calm = true := rfl
theorem cell_ok {d : Nat} {zs : List Int} {σ : Store} {k : Int} (h : σ[0]? = some (.list (zs.map .int))) (hk : 0 ≤ k) : Wp (cl03 (d + 1) "_law_cell" [.ref 0, .int k]) σ (fun r σ' => σ' = σ ∧ ∃ c, r = .int c ∧ 0 ≤ c ∧ c < 2147483647) := by
 rw [L_cell_sh]
 refine Wp_step (r_len h) (Wp_step rfl (Wp_step rfl (Wp_cond (fun e => ?_) fun ya => Wp_pure ⟨rfl, 0, rfl, by decide, by decide⟩)))
 have hl : k < ((zs.map V.int).length : Nat) := of_decide_eq_true e
 rw [List.length_map] at hl
 have hx : (zs.map V.int)[k.toNat]? = some (.int (zs[k.toNat]'(by lia))) := by
  rw [List.getElem?_map, List.getElem?_eq_getElem (by lia)]; rfl
 exact Wp_step (r_item h hk hx) (Wp_step (r_mulR (by decide)) (Wp_step (r_mod (by decide)) (Wp_pure ⟨rfl, _, rfl, Int.emod_nonneg _ (by decide), Int.emod_lt_of_pos _ (by decide)⟩)))
theorem next_ok {d : Nat} {σ : Store} {n : Nat} {s c : Int} (h : σ[n]? = some (.list [.int s, .int c])) (hn : 0 < n) : Wp (cl03 (d + 1) "_law_next" [.ref n]) σ (fun r σ' => ∃ z s', r = .int z ∧ 0 ≤ z ∧ σ' = σ.set n (.list [.int s', .int (c - 1)])) := by
 rw [L_next_sh]
 refine Wp_step (r_item h (by decide) rfl) (Wp_step (r_mulR (by decide)) (Wp_step rfl (Wp_step (r_mod (by decide)) (Wp_step (r_setItem h hn (by decide) (by simp)) ?_))))
 have h0 : 0 ≤ (s * 48271 + 11) % 2147483647 := Int.emod_nonneg _ (by decide)
 generalize (s * 48271 + 11) % 2147483647 = s' at h0
 have h1 : (σ.set n (.list [.int s', .int c]))[n]? = some (.list [.int s', .int c]) := set_get h
 refine Wp_step (r_item h1 (by decide) rfl) (Wp_step rfl (Wp_step (r_setItem h1 hn (by decide) (by simp)) ?_))
 have h2 : ((σ.set n (.list [.int s', .int c])).set n (.list [.int s', .int (c - 1)]))[n]? = some (.list [.int s', .int (c - 1)]) := set_get h1
 refine Wp_step (r_item h2 (by decide) rfl) (Wp_step (r_div (by decide)) (Wp_pure ⟨_, s', rfl, by lia, ?_⟩))
 rw [List.set_set]; rfl
noncomputable def Low (cs : List Nat) : Prop := ∀ c ∈ cs, 97 ≤ c ∧ c < 123
structure Word (s : Str) : Prop where
 pos : 1 ≤ s.length
 len : s.length ≤ 8
 low : Low s.cps.toList
noncomputable def lab (cs : List Nat) (k : Nat) (z : Int) (j : Nat) : Str := ⟨(cs.take k ++ (97 + ((z + 3 * (j : Int)) % 26).toNat) :: cs.drop k).toArray⟩
theorem low_of (x : Int) : 97 ≤ 97 + (x % 26).toNat ∧ 97 + (x % 26).toNat < 123 := ⟨Nat.le_add_right _ _, Nat.add_lt_add_left ((Int.toNat_lt (Int.emod_nonneg _ (by decide))).mpr (Int.emod_lt_of_pos _ (by decide))) 97⟩
theorem lab_word {cs : List Nat} {k j : Nat} {z : Int} (h : Low cs) (h6 : cs.length ≤ 6) : Word (lab cs k z j) ∧ (lab cs k z j).length ≤ 7 := by
 have hl : (lab cs k z j).length = cs.length + 1 := by
  show (List.toArray _).size = _
  rw [List.size_toArray, List.length_append, List.length_cons, ← Nat.add_assoc, ← List.length_append, List.take_append_drop]
 refine ⟨⟨by rw [hl]; exact Nat.le_add_left _ _, by rw [hl]; exact Nat.le_trans (Nat.succ_le_succ h6) (by decide), fun c hc => ?_⟩, by rw [hl]; exact Nat.succ_le_succ h6⟩
 rcases List.mem_append.mp hc with hc | hc
 ·exact h c (List.mem_of_mem_take hc)
 ·rcases List.mem_cons.mp hc with rfl | hc
  ·exact low_of _
  ·exact h c (List.mem_of_mem_drop hc)
theorem lab_inj {cs : List Nat} {k i j : Nat} {z : Int} (hi : i < 4) (hj : j < 4) (h : lab cs k z i = lab cs k z j) : i = j := by
 have h1 := congrArg (fun s : Str => s.cps.toList) h
 have h2 := List.append_cancel_left h1
 have h3 : 97 + ((z + 3 * (i : Int)) % 26).toNat = 97 + ((z + 3 * (j : Int)) % 26).toNat := (List.cons.inj h2).1
 have h4 : (z + 3 * (i : Int)) % 26 = (z + 3 * (j : Int)) % 26 := by
  rw [← Int.toNat_of_nonneg (Int.emod_nonneg (z + 3 * (i : Int)) (show (26 : Int) ≠ 0 by decide)), Nat.add_left_cancel h3, Int.toNat_of_nonneg (Int.emod_nonneg _ (by decide))]
 have h5 := Int.dvd_of_emod_eq_zero (Int.emod_eq_emod_iff_emod_sub_eq_zero.mp h4)
 clear h h1 h2 h3 h4
 have h6 := Int.eq_zero_of_dvd_of_natAbs_lt_natAbs h5 (by show _ < 26; lia)
 lia
theorem lab_nodup (cs : List Nat) (k : Nat) (z : Int) : ((List.range 4).map (lab cs k z)).Nodup := by
 refine List.pairwise_map.mpr (List.Pairwise.imp_of_mem ?_ List.nodup_range)
 intro i j hi hj hij e
 exact hij (lab_inj (List.mem_range.mp hi) (List.mem_range.mp hj) e)
theorem glue_chars : ∀ (cs : List Nat) (acc : Array Nat), (cs.map chr1).foldl (fun acc p => acc ++ (Str.ofString "").cps ++ p.cps) acc = acc ++ cs.toArray
 | [], acc => by simp
 | c :: cs, acc => by
  rw [List.map_cons, List.foldl_cons, glue_chars cs]
  show acc ++ #[] ++ #[c] ++ cs.toArray = acc ++ (c :: cs).toArray
  simp
theorem glued_chars : ∀ cs : List Nat, Txt.join (Str.ofString "") (cs.map chr1) = ⟨cs.toArray⟩
 | [] => rfl
 | c :: cs => by
  show (⟨((c :: cs).map chr1 |>.drop 1).foldl (fun acc p => acc ++ (Str.ofString "").cps ++ p.cps) (chr1 c).cps⟩ : Str) = _
  rw [List.map_cons, List.drop_one, List.tail_cons, glue_chars]
  show (⟨#[c] ++ cs.toArray⟩ : Str) = _
  simp
theorem allStrs_map : ∀ ss : List Str, allStrs (ss.map V.str) = some ss
 | [] => rfl
 | s :: r => by show (allStrs (r.map V.str)).map _ = _; rw [allStrs_map r]; rfl
theorem r_joinChars {σ : Store} {n : Nat} {cs : List Nat} (h : σ[n]? = some (.list (cs.map fun c => V.str (chr1 c)))) (hl : cs.length ≤ 100) : runM .join (.str (Str.ofString "")) [.ref n] σ = .ok (.str ⟨cs.toArray⟩) σ := by
 have e : allStrs (cs.map fun c => V.str (chr1 c)) = some (cs.map chr1) := by
  rw [show (cs.map fun c => V.str (chr1 c)) = (cs.map chr1).map V.str from (List.map_map ..).symm, allStrs_map]
 refine (bind_ok (r_getList h)).trans ((bind_ok (a := cs.map chr1) (σ' := σ) (by rw [e]; rfl)).trans ?_)
 have h1 : ((cs.map chr1).map (·.length)).sum = cs.length := by
  rw [List.map_map]
  clear h hl e
  induction cs with
  | nil => rfl
  | cons c cs ih => rw [List.map_cons, List.sum_cons, ih, List.length_cons]; show 1 + _ = _; lia
 have h0 : (Str.ofString "").length = 0 := by decide +kernel
 rw [if_pos (by rw [h1, h0]; lia), glued_chars]; rfl
theorem sign_is {k : Int} (h0 : 0 ≤ k) (h1 : k < 26) {σ : Store} : item (.str (Str.ofString "abcdefghijklmnopqrstuvwxyz")) (.int k) σ = .ok (.str (chr1 (97 + k.toNat))) σ := by
 have hs : ∀ j : Fin 26, (Str.ofString "abcdefghijklmnopqrstuvwxyz").cps[j.val]? = some (97 + j.val) := by decide +kernel
 have hl : (Str.ofString "abcdefghijklmnopqrstuvwxyz").length = 26 := by decide +kernel
 show ofOpt ((place k (Str.ofString "abcdefghijklmnopqrstuvwxyz").length).bind fun j => ((Str.ofString "abcdefghijklmnopqrstuvwxyz").cps[j]?).map fun c => V.str (chr1 c)) σ = _
 rw [place_pos h0 (by rw [hl]; exact h1)]
 show ofOpt (((Str.ofString "abcdefghijklmnopqrstuvwxyz").cps[k.toNat]?).map fun c => V.str (chr1 c)) σ = _
 rw [hs ⟨k.toNat, by lia⟩]; rfl
theorem cut_to {α : Type} {l : List α} {k : Int} (h0 : 0 ≤ k) (h1 : k ≤ l.length) : cut l none (some k) = l.take k.toNat := by
 unfold cut
 show (l.drop 0).take (clipAt l.length k - 0) = _
 rw [show clipAt l.length k = k.toNat by unfold clipAt; rw [if_neg (by lia)]; lia]; rfl
theorem cut_from {α : Type} {l : List α} {k : Int} (h0 : 0 ≤ k) (h1 : k ≤ l.length) : cut l (some k) none = l.drop k.toNat := by
 unfold cut
 show (l.drop (clipAt l.length k)).take (l.length - clipAt l.length k) = _
 rw [show clipAt l.length k = k.toNat by unfold clipAt; rw [if_neg (by lia)]; lia, List.take_of_length_le (by rw [List.length_drop]; lia)]
theorem lab_of {cs : List Nat} {k z : Int} {j : Nat} (h0 : 0 ≤ k) (h1 : k ≤ cs.length) (h6 : cs.length ≤ 6) {σ : Store} {f : V → M (Fl × Loc)} {Q : Fl × Loc → Store → Prop} (q : Wp (f (.str (lab cs k.toNat z j))) σ Q) :
  Wp (bound V.none >>= fun i => bound (V.int k) >>= fun i' => sliceV i i' (.str ⟨cs.toArray⟩) >>= fun t => (binop .Add t (.str (chr1 (97 + ((z + 3 * (j : Int)) % 26).toNat))) >>= fun t' => (bound (V.int k) >>= fun i => bound V.none >>= fun i' => sliceV i i' (.str ⟨cs.toArray⟩) >>= fun u => (binop .Add t' u >>= f)))) σ Q := by
 have e1 : cutStr ⟨cs.toArray⟩ none (some k) = ⟨(cs.take k.toNat).toArray⟩ := by unfold cutStr; rw [cut_to h0 h1]
 have e2 : cutStr ⟨cs.toArray⟩ (some k) none = ⟨(cs.drop k.toNat).toArray⟩ := by unfold cutStr; rw [cut_from h0 h1]
 have h24 : (16777216 : Nat) = sizeLine := rfl
 have add : ∀ (x y : List Nat), x.length + y.length ≤ 100 → binop .Add (.str ⟨x.toArray⟩) (.str ⟨y.toArray⟩) σ = .ok (.str ⟨(x ++ y).toArray⟩) σ := fun x y h => by
  show (if x.toArray.size + y.toArray.size ≤ sizeLine then pure (V.str (⟨x.toArray⟩ ++ ⟨y.toArray⟩)) else M.bad : M V) σ = _
  rw [if_pos (by rw [List.size_toArray, List.size_toArray]; lia)]
  show Res.ok (V.str ⟨x.toArray ++ y.toArray⟩) σ = _
  simp
 refine Wp_step rfl (Wp_step rfl (Wp_step (a := .str ⟨(cs.take k.toNat).toArray⟩) (by rw [← e1]; rfl) (Wp_step (add _ [_] (Nat.le_trans (Nat.succ_le_succ (Nat.le_trans (List.length_take_le' _ _) h6)) (by decide))) (Wp_step rfl (Wp_step rfl (Wp_step (a := .str ⟨(cs.drop k.toNat).toArray⟩) (by rw [← e2]; rfl) (Wp_step (add _ _ (by rw [List.length_append, List.length_drop]; exact Nat.le_trans (Nat.add_le_add (Nat.succ_le_succ (Nat.le_trans (List.length_take_le' _ _) h6)) (Nat.le_trans (Nat.sub_le _ _) h6)) (by decide))) ?_)))))))
 rw [List.append_assoc]; exact q
structure Labs (ls : List Str) : Prop where
 four : ls.length = 4
 nodup : ls.Nodup
 word : ∀ s ∈ ls, Word s ∧ s.length ≤ 7
theorem labels_ok {d : Nat} {σ : Store} {c : Int} : Wp (cl03 (d + 1) "_law_labels" [.int c, .int 4]) σ (fun r σ' => Le σ σ' ∧ ∃ (n : Nat) (ls : List Str), r = .ref n ∧ σ.length ≤ n ∧ σ'[n]? = some (.list (ls.map V.str)) ∧ Labs ls) := by
 rw [L_labels_sh]
 have hsz : 0 ≤ c % 7 ∧ c % 7 < 7 := ⟨Int.emod_nonneg _ (by decide), Int.emod_lt_of_pos _ (by decide)⟩
 have h24 : (16777216 : Nat) = sizeLine := rfl
 refine Wp_step (r_mod (by decide)) (Wp_step (r_div (by decide)) (Wp_step rfl ?_))
 generalize c % 7 = size at hsz
 refine Wp_step (r_mod ⟨by lia (splits := 9), by lia (splits := 9)⟩) (Wp_step (r_div (by decide)) (Wp_step (r_mod (by decide)) (Wp_step rfl (Wp_step (r_range ⟨by lia, by lia⟩) ?_))))
 have hat : 0 ≤ c / 7 % (size + 1) ∧ c / 7 % (size + 1) ≤ size := by
  have := Int.emod_nonneg (c / 7) (show size + 1 ≠ 0 by lia)
  have := Int.emod_lt_of_pos (c / 7) (show 0 < size + 1 by lia)
  lia
 generalize c / 7 % (size + 1) = k at hat
 generalize c / 49 % 26 = stp
 refine Wp_comp (J := fun ya => True) (calm d) walks_vals L_labels_c1_ok (L_labels_c1_in ..) (by rw [range_len]; lia) (fun i acc loc τ => τ = σ ∧ (∃ o, loc = [none, o, some (.int c), some (.str (Str.ofString "abcdefghijklmnopqrstuvwxyz")), some (.int stp)]) ∧ ∃ cs, acc = cs.map (fun c => V.str (chr1 c)) ∧ cs.length = i ∧ Low cs) (fun ya yb yc yd ye => trivial) ⟨rfl, ⟨_, rfl⟩, [], rfl, rfl, fun ya h => nomatch h⟩ (fun i v acc loc τ hv hp => ?_) fun out loc τ hp => ?_
 ·obtain ⟨rfl, ⟨o, rfl⟩, cs, rfl, hlen, hlow⟩ := hp
  obtain ⟨rfl, hi⟩ := range_val hv
  rw [L_labels_c1_bind]
  refine Wp_pure ?_
  rw [L_labels_c1_tst]
  refine Wp_pure ?_
  rw [if_pos rfl, L_labels_c1_elt]
  have hm : 0 ≤ (stp + c / 1274 * (i : Int)) % 26 ∧ (stp + c / 1274 * (i : Int)) % 26 < 26 := ⟨Int.emod_nonneg _ (by decide), Int.emod_lt_of_pos _ (by decide)⟩
  refine Wp_step (r_div (by decide)) (Wp_step (r_mulR (by unfold Small; lia)) (Wp_step rfl (Wp_step (r_mod (by decide)) (Wp_step (sign_is hm.1 hm.2) (Wp_pure ⟨rfl, ⟨_, rfl⟩, cs ++ [_], by rw [List.map_append]; rfl, by rw [List.length_append, hlen]; rfl, fun x hx => ?_⟩)))))
  rcases List.mem_append.mp hx with hx | hx
  ·exact hlow x hx
  ·rw [List.mem_singleton.mp hx]; exact low_of _
 ·obtain ⟨rfl, _, cs, rfl, hlen, hlow⟩ := hp
  rw [range_len] at hlen
  refine Wp_step (r_joinChars get_new (by lia)) (Wp_step rfl (Wp_step (r_range (by decide)) ?_))
  have hle : Le τ (τ ++ [O.list (cs.map fun c => V.str (chr1 c))] ++ [O.list []]) := LeEx.push.new
  have hk1 : (τ ++ [O.list (cs.map fun c => V.str (chr1 c))] ++ [O.list []])[(τ ++ [O.list (cs.map fun c => V.str (chr1 c))]).length]? = some (.list []) := get_new
  have hf : τ.length < (τ ++ [O.list (cs.map fun c => V.str (chr1 c))]).length := by simp
  generalize (τ ++ [O.list (cs.map fun c => V.str (chr1 c))]).length = f at hk1 hf
  generalize τ ++ [O.list (cs.map fun c => V.str (chr1 c))] ++ [O.list []] = τ' at hk1 hle
  refine Wp_for (J := fun ya => True) (calm d) walks_vals (fun i loc τ₁ => Le τ τ₁ ∧ (∃ o1 o2, loc = [some (.int c), some (.int 4), some (.str (Str.ofString "abcdefghijklmnopqrstuvwxyz")), some (.int size), some (.int k), some (.int stp), o1, some (.str ⟨cs.toArray⟩), some (.ref f), o2, none]) ∧
   τ₁[f]? = some (.list (((List.range i).map (lab cs k.toNat (c / 49))).map V.str))) (fun ya yb yc yd => trivial) ⟨hle, ⟨_, _, rfl⟩, hk1⟩ (fun i v loc τ₁ hv hp => ?_) fun loc τ₁ hp => ?_
  ·obtain ⟨hle, ⟨o1, o2, rfl⟩, hl⟩ := hp
   obtain ⟨rfl, hi⟩ := range_val hv
   rw [L_labels_l1_step]
   have hm : 0 ≤ (c / 49 + 3 * (i : Int)) % 26 ∧ (c / 49 + 3 * (i : Int)) % 26 < 26 := ⟨Int.emod_nonneg _ (by decide), Int.emod_lt_of_pos _ (by decide)⟩
   refine Wp_step (r_div (by decide)) (Wp_step (r_mulL (by decide)) (Wp_step rfl (Wp_step (r_mod (by decide)) (Wp_step (sign_is hm.1 hm.2) (Wp_step (r_tagL hl tag_append) (lab_of hat.1 (by lia) (by lia) (Wp_step (r_append hl (by lia) (by simp; lia)) (Wp_pure ⟨hle.setNew (Nat.le_of_lt hf), ⟨_, _, rfl⟩, ?_⟩))))))))
   rw [List.range_succ, List.map_append, List.map_append]
   exact set_get hl
  ·obtain ⟨hle, ⟨o1, o2, rfl⟩, hl⟩ := hp
   rw [L_labels_a1_eq]
   rw [range_len] at hl
   refine Wp_pure ⟨hle, f, _, rfl, Nat.le_of_lt hf, hl, rfl, lab_nodup _ _ _, fun s hs => ?_⟩
   obtain ⟨j, _, rfl⟩ := List.mem_map.mp hs
   exact lab_word hlow (by lia)
end Mine.Internal

set_option backward.match.sparseCases false
namespace Mine.Internal
open PySem PyProof.Rows
inductive Dat (σ : Store) : V → Prop
 | none : Dat σ .none
 | bool (b : Bool) : Dat σ (.bool b)
 | int (i : Int) : Dat σ (.int i)
 | str (s : Str) : Dat σ (.str s)
 | lst {r : Nat} {l : List V} : σ[r]? = some (.list l) → Dat σ (.ref r)
 | tup {l : List V} : (∀ x ∈ l, Dat σ x) → Dat σ (.tup l)
noncomputable def Kp (σ σ' : Store) : Prop := ∀ (r : Nat) (l : List V), σ[r]? = some (.list l) → ∃ l', σ'[r]? = some (.list l')
theorem LeEx.kp {σ σ' : Store} (h : Le σ σ') : Kp σ σ' := fun r l e => ⟨l, h.at e⟩
theorem Dat.kp {σ σ' : Store} (h : Kp σ σ') {v : V} (d : Dat σ v) : Dat σ' v := by
 induction d with
 | none => exact .none
 | bool b => exact .bool b
 | int i => exact .int i
 | str s => exact .str s
 | lst e => obtain ⟨l', e'⟩ := h _ _ e; exact .lst e'
 | tup _ ih => exact .tup ih
noncomputable def isTupV : V → Bool
 | .tup _ => true
 | _ => false
noncomputable def isStrV : V → Bool
 | .str _ => true
 | _ => false
noncomputable def isNoneV : V → Bool
 | .none => true
 | _ => false
theorem r_kdT {σ : Store} {v : V} (h : Dat σ v) : isKd .tuple v σ = .ok (.bool (isTupV v)) σ := by
 cases h with
 | lst e => exact r_kdRef e
 | _ => rfl
theorem r_kdS {σ : Store} {v : V} (h : Dat σ v) : isKd .str v σ = .ok (.bool (isStrV v)) σ := by
 cases h with
 | lst e => exact r_kdRef e
 | _ => rfl
theorem r_notNone {σ : Store} {v : V} : cmp .IsNot v .none σ = .ok (.bool (!isNoneV v)) σ := by cases v <;> rfl
theorem r_isNone {σ : Store} {v : V} : cmp .Is v .none σ = .ok (.bool (isNoneV v)) σ := by cases v <;> rfl
structure Says (σ : Store) (b : Bool) (r : V) (σ' : Store) : Prop where
 h1 : Le σ σ'
 h2 : r = .bool b
structure SaysB (σ : Store) (b : Bool) (r : Bool) (σ' : Store) : Prop where
 h1 : Le σ σ'
 h2 : r = b
noncomputable def letters : Str := Str.ofString "abcdefghijklmnopqrstuvwxyz"
noncomputable def lenB (s : Str) : Bool := decide ((1 : Int) ≤ s.length) && decide ((s.length : Int) ≤ 8)
noncomputable def wordB : V → Bool
 | .str s => lenB s && s.cps.toList.all fun c => Txt.contains letters (chr1 c)
 | _ => false
noncomputable def countB : V → Bool
 | .int i => decide (0 ≤ i)
 | _ => false
theorem bools_all : ∀ bs : List Bool, allBools (bs.map V.bool) = some bs
 | [] => rfl
 | b :: r => by show (allBools (r.map V.bool)).map _ = _; rw [bools_all r]; rfl
theorem Wp_boolK {α : Type} {σ : Store} {m n : M α} {Q : α → Store → Prop} {b : Bool} (h1 : b = true → Wp m σ Q) (h2 : b = false → Wp n σ Q) : Wp (boolK (.bool b) m n) σ Q := by
 cases b with
 | true => exact h1 rfl
 | false => exact h2 rfl
noncomputable def hasB (v : V) : Option V := match v with | .str c => some (V.bool (Txt.contains letters c)) | _ => none
theorem isWord_ok {d : Nat} {σ : Store} {v : V} (h : Dat σ v) : Wp (cl03 (d + 1) "is_word" [v]) σ (Says σ (wordB v)) := by
 have no : isStrV v = false → Wp (cl03 (d + 1) "is_word" [v]) σ (Says σ false) := fun e => by
  rw [P_is_word_sh]
  refine Wp.step (P := SaysB σ true) (Wp_step (r_kdS h) ?_) fun b τ hb => ?_
  ·rw [e]; exact Wp_pure ⟨.refl, rfl⟩
  ·obtain ⟨hl, rfl⟩ := hb
   exact Wp_pure ⟨hl, rfl⟩
 cases v with
 | str s =>
  rw [P_is_word_sh]
  refine Wp.step (P := fun b τ => τ = σ ∧ b = !lenB s) (Wp_step rfl (Wp_step rfl (Wp_no rfl (Wp.step (P := fun r τ => τ = σ ∧ r = .bool (lenB s)) (Wp_step rfl (Wp_step rfl (Wp_boolK (fun e => ?_) fun e => ?_))) fun r τ hr => ?_)))) fun b τ hb => ?_
  ·have e : decide ((1 : Int) ≤ s.length) = true := e
   refine Wp_step rfl (Wp_pure ⟨rfl, ?_⟩)
   unfold lenB; rw [e]; rfl
  ·have e : decide ((1 : Int) ≤ s.length) = false := e
   refine Wp_pure ⟨rfl, ?_⟩
   unfold lenB; rw [e]; rfl
  ·obtain ⟨rfl, rfl⟩ := hr
   refine Wp_step rfl ?_
   cases lenB s with
   | true => exact Wp_pure ⟨rfl, rfl⟩
   | false => exact Wp_pure ⟨rfl, rfl⟩
  ·obtain ⟨rfl, rfl⟩ := hb
   show Wp _ τ (Says τ (lenB s && s.cps.toList.all fun c => Txt.contains letters (chr1 c)))
   cases hl : lenB s with
   | false => exact Wp_pure ⟨.refl, rfl⟩
   | true =>
    unfold lenB at hl
    rw [Bool.and_eq_true, decide_eq_true_eq, decide_eq_true_eq] at hl
    have hfm : (chars s).filterMap hasB = (s.cps.toList.map fun c => Txt.contains letters (chr1 c)).map V.bool := by
     unfold chars
     rw [List.filterMap_map, List.map_map, ← List.filterMap_eq_map]; rfl
    have h24 : (16777216 : Nat) = sizeLine := rfl
    refine Wp_no rfl (Wp_step rfl (Wp_compPure (calm d) walks_vals P_is_word_c1_ok (P_is_word_c1_in ..) ?_ (fun loc => ∃ o, loc = [none, o, none]) ⟨_, rfl⟩ hasB (fun v loc hv hS => ?_) ?_))
    ·show (s.cps.toList.map _).length ≤ _
     rw [List.length_map, Array.length_toList]
     have : s.cps.size = s.length := rfl
     lia
    ·obtain ⟨o, rfl⟩ := hS
     obtain ⟨c, _, rfl⟩ := List.mem_map.mp hv
     rw [P_is_word_c1_bind]
     refine ⟨_, rfl, ⟨_, rfl⟩, true, by rw [P_is_word_c1_tst]; rfl, ?_⟩
     rw [if_pos rfl, P_is_word_c1_elt]
     exact ⟨_, rfl, rfl⟩
    ·rw [hfm]
     refine Wp_step (r_all get_new (bools_all _)) (Wp_pure ⟨.push, ?_⟩)
     rw [List.all_map]; rfl
 | _ => exact no rfl
theorem isCount_ok {d : Nat} {σ : Store} {v : V} (h : Dat σ v) : Wp (cl03 (d + 1) "is_count" [v]) σ (Says σ (countB v)) := by
 rw [P_is_count_sh]
 cases h with
 | lst e => exact Wp_step (r_kdRef e) (Wp_pure ⟨.refl, rfl⟩)
 | bool b => exact Wp_pure ⟨.refl, rfl⟩
 | int i => exact Wp_pure ⟨.refl, rfl⟩
 | _ => exact Wp_pure ⟨.refl, rfl⟩
end Mine.Internal

set_option backward.match.sparseCases false
namespace Mine.Internal
open PySem PyProof.Rows
noncomputable abbrev sNum : Str := Str.ofString "number"
noncomputable abbrev sBlank : Str := Str.ofString "blank"
noncomputable abbrev sRec : Str := Str.ofString "record"
noncomputable def fieldB (a : Str) : V → Option (Str × V)
 | .tup [.str s, k] => if wordB (.str s) && strLt a s then some (s, k) else none
 | _ => none
noncomputable def rowsB (F : V → Bool) : Str → List V → Bool
 | _, [] => true
 | a, x :: r => match fieldB a x with
  | some (s, k) => F k && rowsB F s r
  | none => false
noncomputable def rowB (F : V → Bool) (f t : V) : Bool := match f with
 | .tup fs => (isNoneV t || countB t) && rowsB F (Str.ofString "") fs
 | _ => false
noncomputable def bodyB (F : V → Bool) (w : Str) (r : List V) : Bool :=
 cond (w == sNum) (r.length == 0) (cond (w == sBlank) (match r with | [x] => countB x | _ => false) (cond (w == sRec) (match r with | [f, t] => rowB F f t | _ => false) false))
noncomputable def headW : V → Option (Str × List V)
 | .tup (.str w :: r) => some (w, r)
 | _ => none
noncomputable def formB : Nat → V → Bool
 | 0, _ => false
 | n + 1, v => match headW v with
  | some (w, r) => bodyB (formB n) w r
  | none => false
theorem Dat.mem {σ : Store} {l : List V} (h : Dat σ (.tup l)) {x : V} (hx : x ∈ l) : Dat σ x := by cases h with | tup h => exact h x hx
theorem r_eqI {σ : Store} {a b : Int} : cmp .Eq (.int a) (.int b) σ = .ok (.bool (a == b)) σ := rfl
theorem r_neI {σ : Store} {a b : Int} : cmp .NotEq (.int a) (.int b) σ = .ok (.bool (!(a == b))) σ := rfl
theorem r_eqS {σ : Store} {a b : Str} : cmp .Eq (.str a) (.str b) σ = .ok (.bool (a == b)) σ := rfl
theorem nat_beq {a b : Nat} : ((a : Int) == (b : Int)) = (a == b) := by
 rw [Bool.eq_iff_iff, beq_iff_eq, beq_iff_eq]; exact Int.ofNat_inj
theorem two_or {α : Type} (l : List α) : (∃ a b, l = [a, b]) ∨ (l.length == 2) = false := by
 match l with
 | [] => exact .inr rfl
 | [_] => exact .inr rfl
 | [a, b] => exact .inl ⟨a, b, rfl⟩
 | _ :: _ :: _ :: _ => exact .inr rfl
theorem word_str {v : V} (h : wordB v = true) : ∃ s, v = .str s := by
 cases v with
 | str s => exact ⟨s, rfl⟩
 | _ => cases h
theorem field_ok {d : Nat} {σ : Store} {x : V} {a : Str} (h : Dat σ x) : Wp (isKd Kd.tuple x >>= fun t25 => (truth t25 >>= fun b26 => (M.cond (!b26) (pure true : M Bool) (bLen x >>= fun t27 => (cmp .NotEq t27 (V.int 2) >>= fun t28 => (truth t28 >>= fun b29 => (M.cond b29 (pure true : M Bool) (item x (V.int 0) >>= fun t30 => (cl03 (d + 1) "is_word" [t30] >>= fun t31 => (truth t31 >>= fun b32 => (M.cond (!b32) (pure true : M Bool) (item x (V.int 0) >>= fun t33 => (cmp .LtE t33 (V.str a) >>= fun t34 => (truth t34 >>= fun b35 => (M.cond b35 (pure true : M Bool) (pure false : M Bool)))))))))))))))) σ
  (fun b σ' => Le σ σ' ∧ ((b = true ∧ fieldB a x = none) ∨ (b = false ∧ ∃ s k, x = .tup [.str s, k] ∧ fieldB a x = some (s, k)))) := by
 refine Wp_step (r_kdT h) (Wp_step rfl ?_)
 cases x with
 | tup l =>
  refine Wp_no rfl (Wp_step rfl (Wp_step r_neI (Wp_step rfl ?_)))
  rcases two_or l with ⟨l, k, rfl⟩ | hl
  ·refine Wp_no rfl (Wp_step r_item0 ((isWord_ok (h.mem (List.mem_cons_self ..))).step fun r τ hr => ?_))
   obtain ⟨hle, rfl⟩ := hr
   refine Wp_step rfl ?_
   cases hw : wordB l with
   | false =>
    refine Wp_pure ⟨hle, .inl ⟨rfl, ?_⟩⟩
    cases l with
    | str s => show (if (wordB (.str s) && strLt a s) = true then some (s, k) else none) = none; rw [hw]; rfl
    | _ => rfl
   | true =>
    obtain ⟨s, rfl⟩ := word_str hw
    have hf : fieldB a (.tup [.str s, k]) = if (wordB (.str s) && strLt a s) = true then some (s, k) else none := rfl
    rw [hw] at hf
    refine Wp_no rfl (Wp_step r_item0 (Wp_step rfl (Wp_step (a := !strLt a s) rfl ?_)))
    cases hs : strLt a s with
    | false => rw [hs] at hf; exact Wp_pure ⟨hle, .inl ⟨rfl, hf⟩⟩
    | true => rw [hs] at hf; exact Wp_pure ⟨hle, .inr ⟨rfl, s, k, rfl, hf⟩⟩
  ·rw [show (((l.length : Nat) : Int) == 2) = false from nat_beq.trans hl]
   refine Wp_pure ⟨.refl, .inl ⟨rfl, ?_⟩⟩
   match l, hl with
   | [], _ => rfl
   | [v], _ => cases v <;> rfl
   | v :: _ :: _ :: _, _ => cases v <;> rfl
 | _ => exact Wp_pure ⟨.refl, .inl ⟨rfl, rfl⟩⟩
noncomputable abbrev FormOk (d n : Nat) : Prop := ∀ (v : V) (σ : Store), Dat σ v → Wp (cl03 d "is_form" [v, .int n]) σ (Says σ (formB n v))
theorem rows_ok {n d : Nat} (ih : FormOk (d + 1) n) {fs : List V} {t : V} {σ σ₁ : Store} (hf : Dat σ (.tup fs)) (hle : Le σ σ₁) : Wp (P_is_row_t1 (d + 1) (.tup fs) t (.int n)) σ₁ (Says σ (rowsB (formB n) (Str.ofString "") fs)) := by
 refine Wp_step rfl (Wp_for (J := fun ya => True) (calm _) walks_vals (fun i loc τ => Le σ τ ∧ ∃ a o, loc = [some (.tup fs), some t, some (.int n), some (.str a), o, none, none, none, none, none, none] ∧ rowsB (formB n) (Str.ofString "") fs = rowsB (formB n) a (fs.drop i)) (fun ya yb yc yd => trivial) ⟨hle, _, _, rfl, rfl⟩ (fun i x loc τ hx hp => ?_) fun loc τ hp => ?_)
 ·obtain ⟨hlt, a, o, rfl, hrow⟩ := hp
  rw [List.drop_eq_getElem_cons (lt_of_get hx), show fs[i]'(lt_of_get hx) = x from Option.some.inj ((List.getElem?_eq_getElem _).symm.trans hx)] at hrow
  have hr2 : rowsB (formB n) (Str.ofString "") fs = match fieldB a x with | some (s, k) => formB n k && rowsB (formB n) s (fs.drop (i + 1)) | none => false := hrow
  rw [P_is_row_l1_step]
  refine (field_ok ((hf.mem (List.mem_of_getElem? hx)).kp hlt.kp)).step fun b τ₁ hb => ?_
  obtain ⟨hle1, hb⟩ := hb
  rcases hb with ⟨rfl, e⟩ | ⟨rfl, s, k, rfl, e⟩
  ·refine Wp_pure (Wp_pure ⟨hlt.trans hle1, ?_⟩)
   rw [hr2, e]
  ·rw [e] at hr2
   replace hr2 : rowsB (formB n) (Str.ofString "") fs = (formB n k && rowsB (formB n) s (fs.drop (i + 1))) := hr2
   refine Wp_no rfl ?_
   unfold P_is_row_t2
   refine Wp_step r_item0 (Wp_step r_item1 ((ih k τ₁ (((hf.mem (List.mem_of_getElem? hx)).mem (List.mem_cons_of_mem _ (List.mem_cons_self ..))).kp (hlt.trans hle1).kp)).step fun r τ₂ hr => ?_))
   obtain ⟨hle2, rfl⟩ := hr
   refine Wp_step rfl ?_
   cases hF : formB n k with
   | false =>
    rw [hF] at hr2
    refine Wp_pure (Wp_pure ⟨(hlt.trans hle1).trans hle2, ?_⟩)
    rw [hr2]; rfl
   | true =>
    rw [hF] at hr2
    exact Wp_pure ⟨(hlt.trans hle1).trans hle2, s, _, rfl, hr2⟩
 ·obtain ⟨hlt, a, o, rfl, hrow⟩ := hp
  rw [P_is_row_a1_eq, hrow, List.drop_length]
  exact Wp_pure ⟨hlt, rfl⟩
theorem isRow_ok {n d : Nat} (ih : FormOk (d + 1) n) {f t : V} {σ : Store} (hf : Dat σ f) (ht : Dat σ t) : Wp (cl03 (d + 2) "is_row" [f, t, .int n]) σ (Says σ (rowB (formB n) f t)) := by
 rw [P_is_row_sh]
 cases f with
 | tup fs =>
  refine Wp.step (P := SaysB σ (!(isNoneV t || countB t))) (Wp_step (r_kdT hf) (Wp_step rfl (Wp_no rfl (Wp.step (P := SaysB σ (!(isNoneV t || countB t))) (Wp_step r_notNone (Wp_step rfl ?_)) fun b τ hb => ?_)))) fun b τ hb => ?_
  ·cases isNoneV t with
   | true => exact Wp_pure ⟨.refl, rfl⟩
   | false =>
    refine (isCount_ok ht).step fun r τ hr => ?_
    obtain ⟨hle, rfl⟩ := hr
    cases countB t with
    | true => exact Wp_pure ⟨hle, rfl⟩
    | false => exact Wp_pure ⟨hle, rfl⟩
  ·obtain ⟨hle, rfl⟩ := hb
   cases (!(isNoneV t || countB t)) with
   | true => exact Wp_pure ⟨hle, rfl⟩
   | false => exact Wp_pure ⟨hle, rfl⟩
  ·obtain ⟨hle, rfl⟩ := hb
   show Wp _ τ (Says σ ((isNoneV t || countB t) && rowsB (formB n) (Str.ofString "") fs))
   cases (isNoneV t || countB t) with
   | true => exact rows_ok ih hf hle
   | false => exact Wp_pure ⟨hle, rfl⟩
 | _ => exact Wp.step (P := fun b τ => b = true ∧ τ = σ) (Wp_step (r_kdT hf) (Wp_pure ⟨rfl, rfl⟩)) fun b τ hb => Wp_yes hb.1 (Wp_pure ⟨hb.2 ▸ .refl, rfl⟩)
theorem head_ok {σ : Store} {v : V} {n : Nat} (h : Dat σ v) : Wp (cmp .Eq (V.int n) (V.int 0) >>= fun t71 => (truth t71 >>= fun b72 => (M.cond b72 (pure true : M Bool) (isKd Kd.tuple v >>= fun t73 => (truth t73 >>= fun b74 => (M.cond (!b74) (pure true : M Bool) (bLen v >>= fun t75 => (cmp .Eq t75 (V.int 0) >>= fun t76 => (truth t76 >>= fun b77 => (M.cond b77 (pure true : M Bool) (item v (V.int 0) >>= fun t78 => (isKd Kd.str t78 >>= fun t79 => (truth t79 >>= fun b80 => (M.cond (!b80) (pure true : M Bool) (pure false : M Bool))))))))))))))) σ
  (fun b σ' => σ' = σ ∧ ((b = true ∧ (n = 0 ∨ headW v = none)) ∨ (b = false ∧ n ≠ 0 ∧ ∃ w r, v = .tup (.str w :: r)))) := by
 refine Wp_step r_eqI (Wp_step rfl ?_)
 cases n with
 | zero => exact Wp_pure ⟨rfl, .inl ⟨rfl, .inl rfl⟩⟩
 | succ n =>
  refine Wp_no (nat_beq (b := 0)) (Wp_step (r_kdT h) (Wp_step rfl ?_))
  cases v with
  | tup l =>
   refine Wp_no rfl (Wp_step rfl (Wp_step r_eqI (Wp_step rfl ?_)))
   cases l with
   | nil => exact Wp_pure ⟨rfl, .inl ⟨rfl, .inr rfl⟩⟩
   | cons x r =>
    refine Wp_no (nat_beq (b := 0)) (Wp_step r_item0 (Wp_step (r_kdS (h.mem (List.mem_cons_self ..))) (Wp_step rfl ?_)))
    cases x with
    | str w => exact Wp_pure ⟨rfl, .inr ⟨rfl, Nat.succ_ne_zero _, w, r, rfl⟩⟩
    | _ => exact Wp_pure ⟨rfl, .inl ⟨rfl, .inr rfl⟩⟩
  | _ => exact Wp_pure ⟨rfl, .inl ⟨rfl, .inr rfl⟩⟩
theorem isForm_ok : ∀ (n d : Nat), 2 * n + 2 ≤ d → FormOk d n := by
 intro n
 induction n with
 | zero =>
  intro d hd v σ hv
  obtain ⟨d, rfl⟩ := up1 (d := d) (by assumption)
  rw [P_is_form_sh]
  exact Wp_pure ⟨.refl, rfl⟩
 | succ n ih =>
  intro d hd v σ hv
  obtain ⟨d, rfl⟩ : ∃ e, d = e + 3 := ⟨d - 3, by lia⟩
  rw [P_is_form_sh]
  refine (head_ok hv).step fun b τ hb => ?_
  obtain ⟨rfl, hb⟩ := hb
  rcases hb with ⟨rfl, e⟩ | ⟨rfl, _, w, r, rfl⟩
  ·refine Wp_pure ⟨.refl, ?_⟩
   rcases e with e | e
   ·cases e
   ·show V.bool false = V.bool (match headW v with | some (w, r) => bodyB (formB n) w r | none => false)
    rw [e]
  ·show Wp (P_is_form_t1 (d + 2) _ _) τ (Says τ (bodyB (formB n) w r))
   refine Wp_step r_item0 (Wp_step r_eqS (Wp_step rfl ?_))
   unfold bodyB
   cases w == sNum with
   | true => exact Wp_yes rfl (Wp_step rfl (Wp_step r_eqI (Wp_pure ⟨.refl, congrArg V.bool ((nat_beq (a := r.length + 1) (b := 1)).trans (by cases r <;> rfl))⟩)))
   | false =>
    refine Wp_no rfl ?_
    unfold P_is_form_t2
    refine Wp_step r_item0 (Wp_step r_eqS (Wp_step rfl ?_))
    cases w == sBlank with
    | true =>
     refine Wp_yes rfl ?_
     refine Wp_step rfl (Wp_step r_eqI (Wp_step rfl ?_))
     rw [show (((V.str w :: r).length : Int) == 2) = (r.length + 1 == 2) from nat_beq]
     match r with
     | [x] => exact Wp_yes rfl <| Wp_step r_item1 ((isCount_ok (hv.mem (List.mem_cons_of_mem _ (List.mem_cons_self ..)))).step fun q σ' hq => Wp_pure hq)
     | [] => exact Wp_pure ⟨.refl, rfl⟩
     | _ :: _ :: _ => exact Wp_pure ⟨.refl, rfl⟩
    | false =>
     refine Wp_no rfl ?_
     unfold P_is_form_t3
     refine Wp_step r_item0 (Wp_step r_eqS (Wp_step rfl ?_))
     cases w == sRec with
     | false => exact Wp_pure ⟨.refl, rfl⟩
     | true =>
      refine Wp_yes rfl (Wp_step rfl (Wp_step r_eqI (Wp_step rfl ?_)))
      rw [show (((V.str w :: r).length : Int) == 3) = (r.length + 1 == 3) from nat_beq]
      match r with
      | [f, t] =>
       refine Wp_yes rfl (Wp_step r_item1 (Wp_step r_item2 (Wp_step rfl ?_)))
       rw [show ((n + 1 : Nat) : Int) - 1 = (n : Int) by lia]
       exact (isRow_ok (ih (d + 1) (by lia)) (hv.mem (List.mem_cons_of_mem _ (List.mem_cons_self ..))) (hv.mem (List.mem_cons_of_mem _ (List.mem_cons_of_mem _ (List.mem_cons_self ..))))).step fun q σ' hq => Wp_pure hq
      | [] => exact Wp_pure ⟨.refl, rfl⟩
      | [_] => exact Wp_pure ⟨.refl, rfl⟩
      | _ :: _ :: _ :: _ => exact Wp_pure ⟨.refl, rfl⟩
end Mine.Internal

set_option backward.match.sparseCases false
namespace Mine.Internal
open PySem PyProof.Rows
noncomputable abbrev numV : V := .tup [.str sNum]
noncomputable abbrev blankV (i : Int) : V := .tup [.str sBlank, .int i]
noncomputable abbrev recV (ps : List (Str × V)) (t : V) : V := .tup [.str sRec, .tup (ps.map pairV), t]
noncomputable def UpP (ps : List (Str × V)) : Prop := ps.Pairwise fun p q => strLt p.1 q.1 = true
noncomputable def RestOk (t : V) : Prop := t = .none ∨ ∃ i : Int, 0 ≤ i ∧ t = .int i
inductive Fm (w : Nat) : Nat → V → Prop
 | num {n : Nat} : Fm w (n + 1) numV
 | blank {n : Nat} {i : Int} : 0 ≤ i → Fm w (n + 1) (blankV i)
 | rcd {n : Nat} {ps : List (Str × V)} {t : V} : ps.length ≤ w → w ≤ 100 → UpP ps → (∀ p ∈ ps, wordB (.str p.1) = true) → (∀ p ∈ ps, Fm w n p.2) → RestOk t → Fm w (n + 1) (recV ps t)
theorem rest_iff {t : V} : (isNoneV t || countB t) = true ↔ RestOk t := by
 constructor
 ·intro h
  cases t with
  | none => exact .inl rfl
  | int i => exact .inr ⟨i, of_decide_eq_true h, rfl⟩
  | _ => cases h
 ·rintro (rfl | ⟨i, h, rfl⟩)
  ·rfl
  ·exact decide_eq_true h
theorem field_pair {a s : Str} {k : V} : fieldB a (pairV (s, k)) = if (wordB (.str s) && strLt a s) = true then some (s, k) else none := rfl
noncomputable def AllAbove (a : Str) (ps : List (Str × V)) : Prop := ∀ p ∈ ps, strLt a p.1 = true
theorem rows_all {F : V → Bool} : ∀ {ps : List (Str × V)} {a : Str}, rowsB F a (ps.map pairV) = true → ∀ p ∈ ps, F p.2 = true
 | [], _, _, _, h => nomatch h
 | q :: ps, a, h, p, hp => by
  have h : (match fieldB a (pairV (q.1, q.2)) with | some (s, k) => F k && rowsB F s (ps.map pairV) | none => false) = true := h
  rw [field_pair] at h
  by_cases hc : (wordB (.str q.1) && strLt a q.1) = true
  ·rw [if_pos hc] at h
   have h : (F q.2 && rowsB F q.1 (ps.map pairV)) = true := h
   rw [Bool.and_eq_true] at h
   rcases List.mem_cons.mp hp with rfl | hp
   ·exact h.1
   ·exact rows_all h.2 p hp
  ·rw [if_neg hc] at h; cases h
theorem rows_of {F : V → Bool} : ∀ {ps : List (Str × V)} {a : Str}, UpP ps → AllAbove a ps → (∀ p ∈ ps, wordB (.str p.1) = true) → (∀ p ∈ ps, F p.2 = true) → rowsB F a (ps.map pairV) = true
 | [], _, _, _, _, _ => rfl
 | p :: ps, a, hu, ha, hw, hF => by
  show (match fieldB a (pairV p) with | some (s, k) => F k && rowsB F s (ps.map pairV) | none => false) = true
  rw [show fieldB a (pairV p) = some p by rw [show pairV p = pairV (p.1, p.2) from rfl, field_pair, hw p (List.mem_cons_self ..), ha p (List.mem_cons_self ..)]; rfl]
  obtain ⟨h1, h2⟩ := List.pairwise_cons.mp hu
  show (F p.2 && rowsB F p.1 (ps.map pairV)) = true
  rw [hF p (List.mem_cons_self ..), rows_of h2 h1 (fun q hq => hw q (List.mem_cons_of_mem _ hq)) fun q hq => hF q (List.mem_cons_of_mem _ hq)]; rfl
theorem word_above {s : Str} (h : wordB (.str s) = true) : strLt (Str.ofString "") s = true := by
 unfold strLt
 have h1 : lenB s = true := by
  have h : (lenB s && _) = true := h
  rw [Bool.and_eq_true] at h; exact h.1
 unfold lenB at h1
 rw [Bool.and_eq_true, decide_eq_true_eq] at h1
 cases e : s.cps.toList with
 | nil =>
  have : s.cps.toList.length = s.length := Array.length_toList
  rw [e] at this
  have h2 := h1.1
  rw [← this] at h2
  exact absurd h2 (by decide)
 | cons c r => exact decide_eq_true (List.nil_lt_cons ..)
theorem fm_form {w n : Nat} {v : V} (h : Fm w n v) : formB n v = true := by
 induction h with
 | num => exact (by decide +kernel : (cond (sNum == sNum) true false) = true)
 | blank hi =>
  show cond (sBlank == sNum) false (cond (sBlank == sBlank) (decide _) (cond (sBlank == sRec) false false)) = true
  rw [show (sBlank == sNum) = false by decide +kernel, show (sBlank == sBlank) = true by decide +kernel]
  exact decide_eq_true hi
 | rcd hl _ hu hw _ ht ih =>
  show cond (sRec == sNum) false (cond (sRec == sBlank) false (cond (sRec == sRec) (_ && rowsB _ _ _) false)) = true
  rw [show (sRec == sNum) = false by decide +kernel, show (sRec == sBlank) = false by decide +kernel, show (sRec == sRec) = true by decide +kernel]
  rw [cond_false, cond_false, cond_true, rest_iff.mpr ht, rows_of hu (fun p hp => word_above (hw p hp)) hw ih]; rfl
theorem Fm.up {w u n m : Nat} {v : V} (h : Fm w n v) (hm : n ≤ m) (hu : w ≤ u) (h100 : u ≤ 100) : Fm u m v := by
 induction h generalizing m with
 | num => obtain ⟨m, rfl⟩ := up1 (d := m) (by assumption); exact .num
 | blank hi => obtain ⟨m, rfl⟩ := up1 (d := m) (by assumption); exact .blank hi
 | rcd hl _ hup hw _ ht ih => obtain ⟨m, rfl⟩ := up1 (d := m) (by assumption); exact .rcd (Nat.le_trans hl hu) h100 hup hw (fun p hp => ih p hp (by lia)) ht
structure Gives (σ : Store) (x : V) (r : V) (σ' : Store) : Prop where
 h1 : Le σ σ'
 h2 : r = x
noncomputable def sndV : V → V
 | .tup [_, k] => k
 | v => v
noncomputable def fold (agg : List Int → Int) : Nat → V → Int
 | 0, _ => 0
 | n + 1, v => match v with
  | .tup [_, .tup fs, _] => 1 + agg (fs.map fun x => fold agg n (sndV x))
  | _ => 1
theorem fold_rec {agg : List Int → Int} {n : Nat} {ps : List (Str × V)} {t : V} : fold agg (n + 1) (recV ps t) = 1 + agg (ps.map fun p => fold agg n p.2) := by
 show 1 + agg ((ps.map pairV).map _) = _
 rw [List.map_map]; rfl
theorem Wp_map {C : Cfg} {target elt : Expr} {ifs : List Expr} {scope : Scope} {ns : Names} {σ : Store} {l : List V} (hC : C.calm = true) (hok : compOk scope.kind scope.names = true) {loc loc₀ : Loc} (hin : innerLoc ns loc scope.names = pure loc₀) (hl : l.length ≤ sizeLine)
  (ht : ∀ loc, tests C ifs (relab ns scope.names) loc = pure true) (S : Loc → Prop) (hS : S loc₀) (g : V → V)
  (step : ∀ v loc τ, v ∈ l → S loc → Le σ τ → ∃ loc', bindTo (stLocL (relab ns scope.names)) target v loc = pure loc' ∧ S loc' ∧ Wp (ev C elt (relab ns scope.names) loc') τ (Gives τ (g v)))
  {α : Type} {K : V → M α} {Q : α → Store → Prop} (fin : ∀ τ, Le σ τ → Wp (K (.ref τ.length)) (τ ++ [.list (l.map g)]) Q) : Wp (compAll C elt target ifs scope (.vals l) ns loc >>= K) σ Q := by
 refine Wp_comp (J := fun ya => True) hC walks_vals hok hin hl (fun i acc loc τ => Le σ τ ∧ S loc ∧ acc = (l.take i).map g) (fun ya yb yc yd ye => trivial) ⟨.refl, hS, rfl⟩ (fun i v acc loc τ hv hp => ?_) fun out loc τ hp => ?_
 ·obtain ⟨hle, hs, rfl⟩ := hp
  obtain ⟨loc', e, hs', h⟩ := step v loc τ (List.mem_of_getElem? hv) hs hle
  rw [e]
  refine Wp_pure ?_
  rw [ht]
  refine Wp_pure ?_
  rw [if_pos rfl]
  refine h.mono fun y τ' hy => ⟨hle.trans hy.1, hs', ?_⟩
  rw [List.take_add_one, hv, List.map_append, hy.2]; rfl
 ·obtain ⟨hle, _, rfl⟩ := hp
  rw [List.take_length]; exact fin τ hle
theorem ints_all : ∀ is : List Int, allInts (is.map V.int) = some is
 | [] => rfl
 | i :: r => by show (allInts (r.map V.int)).map _ = _; rw [ints_all r]; rfl
noncomputable abbrev FoldOk (nm : Str) (f : V → Int) (d : Nat) (ps : List (Str × V)) : Prop := ∀ p ∈ ps, ∀ τ, Wp (cl03 d nm [p.2]) τ (Gives τ (.int (f p.2)))
theorem fold_ok {agg : List Int → Int} {nm : Str} {T : Nat → V → M V} (sh : ∀ d v, cl03 (d + 1) nm [v] = (item v (V.int 0) >>= fun t => (cmp .NotEq t (V.str (Str.ofString "record")) >>= fun t => (truth t >>= fun b => (M.cond b (pure (V.int 1) : M V) (T d v))))))
  (rc : ∀ d ps t σ f, ps.length ≤ 100 → FoldOk nm f d ps → Wp (T d (recV ps t)) σ (Gives σ (.int (1 + agg (ps.map fun p => f p.2))))) {w n : Nat} {v : V} (h : Fm w n v) : ∀ (d : Nat) (σ : Store), n ≤ d → Wp (cl03 d nm [v]) σ (Gives σ (.int (fold agg n v))) := by
 induction h with
 | num =>
  intro d σ hd
  obtain ⟨d, rfl⟩ := up1 (d := d) (by assumption)
  rw [sh]
  exact Wp_step r_item0 (Wp_step rfl (Wp_step rfl (Wp_yes (by decide +kernel) (Wp_pure ⟨.refl, rfl⟩))))
 | blank hi =>
  intro d σ hd
  obtain ⟨d, rfl⟩ := up1 (d := d) (by assumption)
  rw [sh]
  exact Wp_step r_item0 (Wp_step rfl (Wp_step rfl (Wp_yes (by decide +kernel) (Wp_pure ⟨.refl, rfl⟩))))
 | rcd hl h100 hu hw _ ht ih =>
  intro d σ hd
  obtain ⟨d, rfl⟩ := up1 (d := d) (by assumption)
  rw [sh, fold_rec]
  exact Wp_step r_item0 (Wp_step rfl (Wp_step rfl (Wp_no (by decide +kernel) (rc d _ _ σ _ (Nat.le_trans hl h100) fun p hp τ => ih p hp d τ (by lia)))))
theorem len24 {l : List V} (h : l.length ≤ 1000) : l.length ≤ sizeLine := Nat.le_trans h (by decide)
theorem map_len {ps : List (Str × V)} (h : ps.length ≤ 100) : (ps.map pairV).length ≤ sizeLine := by rw [List.length_map]; exact Nat.le_trans h (by decide)
theorem ints_map {ps : List (Str × V)} {f : V → Int} : allInts ((ps.map pairV).map fun x => V.int (f (sndV x))) = some (ps.map fun p => f p.2) := by
 rw [List.map_map, show ps.map ((fun x => V.int (f (sndV x))) ∘ pairV) = (ps.map fun p => f p.2).map V.int by rw [List.map_map]; rfl, ints_all]
noncomputable abbrev kn (n : Nat) (v : V) : Int := fold List.sum n v
noncomputable abbrev dp (n : Nat) (v : V) : Int := fold (maxOf 0) n v
theorem knots_ok {w n : Nat} {v : V} (h : Fm w n v) (d : Nat) (σ : Store) (hd : n ≤ d) : Wp (cl03 d "knots_of" [v]) σ (Gives σ (.int (kn n v))) :=
 fold_ok P_knots_of_sh (fun d ps t σ f hl hF => by
  refine Wp_step r_item1 (Wp_step rfl (Wp_map (calm d) P_knots_of_c1_ok (P_knots_of_c1_in ..) (map_len hl) (P_knots_of_c1_tst d) (fun loc => ∃ o1 o2, loc = [none, o1, o2, none]) ⟨_, _, rfl⟩ (fun x => .int (f (sndV x))) (fun x loc τ hx hS ya => ?_) fun τ hle => ?_))
  ·obtain ⟨p, hp, rfl⟩ := List.mem_map.mp hx
   obtain ⟨o1, o2, rfl⟩ := hS
   refine ⟨_, P_knots_of_c1_bind .., ⟨_, _, rfl⟩, ?_⟩
   rw [P_knots_of_c1_elt]
   exact (hF p hp τ).step fun r τ' hr => Wp_pure hr
  ·exact Wp_step (r_sum get_new ints_map) (Wp_step rfl (Wp_pure ⟨hle.new, rfl⟩))) h d σ hd
theorem depth_ok {w n : Nat} {v : V} (h : Fm w n v) (d : Nat) (σ : Store) (hd : n ≤ d) : Wp (cl03 d "depth_of" [v]) σ (Gives σ (.int (dp n v))) :=
 fold_ok P_depth_of_sh (fun d ps t σ f hl hF => by
  refine Wp_step r_item1 (Wp_step rfl (Wp_map (calm d) P_depth_of_c1_ok (P_depth_of_c1_in ..) (map_len hl) (P_depth_of_c1_tst d) (fun loc => ∃ o1 o2, loc = [none, o1, o2, none]) ⟨_, _, rfl⟩ (fun x => .int (f (sndV x))) (fun x loc τ hx hS ya => ?_) fun τ hle => ?_))
  ·obtain ⟨p, hp, rfl⟩ := List.mem_map.mp hx
   obtain ⟨o1, o2, rfl⟩ := hS
   refine ⟨_, P_depth_of_c1_bind .., ⟨_, _, rfl⟩, ?_⟩
   rw [P_depth_of_c1_elt]
   exact (hF p hp τ).step fun r τ' hr => Wp_pure hr
  ·exact Wp_step (r_max get_new ints_map) (Wp_step rfl (Wp_pure ⟨hle.new, rfl⟩))) h d σ hd
theorem lknots_ok {w n : Nat} {v : V} (h : Fm w n v) (d : Nat) (σ : Store) (hd : n ≤ d) : Wp (cl03 d "_law_knots" [v]) σ (Gives σ (.int (kn n v))) :=
 fold_ok L_knots_sh (fun d ps t σ f hl hF => by
  refine Wp_step r_item1 (Wp_step rfl (Wp_map (calm d) L_knots_c1_ok (L_knots_c1_in ..) (map_len hl) (L_knots_c1_tst d) (fun loc => ∃ o, loc = [none, o, none]) ⟨_, rfl⟩ (fun x => .int (f (sndV x))) (fun x loc τ hx hS ya => ?_) fun τ hle => ?_))
  ·obtain ⟨p, hp, rfl⟩ := List.mem_map.mp hx
   obtain ⟨o, rfl⟩ := hS
   refine ⟨_, L_knots_c1_bind .., ⟨_, rfl⟩, ?_⟩
   rw [L_knots_c1_elt]
   exact Wp_step r_item1 ((hF p hp τ).step fun r τ' hr => Wp_pure hr)
  ·exact Wp_step (r_sum get_new ints_map) (Wp_step rfl (Wp_pure ⟨hle.new, rfl⟩))) h d σ hd
theorem ldeep_ok {w n : Nat} {v : V} (h : Fm w n v) (d : Nat) (σ : Store) (hd : n ≤ d) : Wp (cl03 d "_law_deep" [v]) σ (Gives σ (.int (dp n v))) :=
 fold_ok L_deep_sh (fun d ps t σ f hl hF => by
  refine Wp_step r_item1 (Wp_step rfl (Wp_map (calm d) L_deep_c1_ok (L_deep_c1_in ..) (map_len hl) (L_deep_c1_tst d) (fun loc => ∃ o, loc = [none, o, none]) ⟨_, rfl⟩ (fun x => .int (f (sndV x))) (fun x loc τ hx hS ya => ?_) fun τ hle => ?_))
  ·obtain ⟨p, hp, rfl⟩ := List.mem_map.mp hx
   obtain ⟨o, rfl⟩ := hS
   refine ⟨_, L_deep_c1_bind .., ⟨_, rfl⟩, ?_⟩
   rw [L_deep_c1_elt]
   exact Wp_step r_item1 ((hF p hp τ).step fun r τ' hr => Wp_pure hr)
  ·exact Wp_step (r_max get_new ints_map) (Wp_step rfl (Wp_pure ⟨hle.new, rfl⟩))) h d σ hd
end Mine.Internal

set_option backward.match.sparseCases false
namespace Mine.Internal
open PySem PyProof.Rows
noncomputable abbrev Lb := Option (List Str)
noncomputable abbrev Evs := List (Int × Lb)
noncomputable def fstS : V → Str
 | .tup [.str s, _] => s
 | _ => Str.ofString ""
noncomputable def endE (t : V) (ls : List Str) : Evs := match t with
 | .int i => [(i, some ls)]
 | _ => []
noncomputable def ev2 : Nat → V → Evs
 | 0, _ => []
 | n + 1, v => match v with
  | .tup [_, .int i] => [(i, none)]
  | .tup [_, .tup fs, t] => (fs.flatMap fun x => ev2 n (sndV x)) ++ endE t (fs.map fstS)
  | _ => []
noncomputable def evP (n : Nat) (ps : List (Str × V)) : Evs := ps.flatMap fun p => ev2 n p.2
theorem ev_rec {n : Nat} {ps : List (Str × V)} {t : V} : ev2 (n + 1) (recV ps t) = evP n ps ++ endE t (ps.map (·.1)) := by
 show ((ps.map pairV).flatMap _) ++ endE t ((ps.map pairV).map fstS) = _
 rw [List.flatMap_map, List.map_map]; rfl
theorem evP_take {n : Nat} {ps : List (Str × V)} {i : Nat} {p : Str × V} (h : ps[i]? = some p) : evP n (ps.take (i + 1)) = evP n (ps.take i) ++ ev2 n p.2 := by
 unfold evP
 rw [List.take_add_one, h, List.flatMap_append]
 show _ ++ (ev2 n p.2 ++ []) = _
 rw [List.append_nil]
theorem sum_len (n : Nat) : ∀ ps : List (Str × V), (∀ p ∈ ps, ((ev2 n p.2).length : Int) ≤ kn n p.2) → ((evP n ps).length : Int) ≤ (ps.map fun p => kn n p.2).sum
 | [], _ => Int.le_refl 0
 | p :: ps, h => by
  have h1 := h p (List.mem_cons_self ..)
  have h2 := sum_len n ps fun q hq => h q (List.mem_cons_of_mem _ hq)
  unfold evP at *
  rw [List.flatMap_cons, List.length_append, List.map_cons, List.sum_cons]
  lia
theorem end_len {t : V} {ls : List Str} : (endE t ls).length ≤ 1 := by cases t <;> first | exact Nat.le_refl _ | exact Nat.zero_le _
theorem kn_rec {n : Nat} {ps : List (Str × V)} {t : V} : kn (n + 1) (recV ps t) = 1 + (ps.map fun p => kn n p.2).sum := fold_rec
theorem ev_len {w n : Nat} {v : V} (h : Fm w n v) : ((ev2 n v).length : Int) ≤ kn n v := by
 induction h with
 | num => exact (by decide : (0 : Int) ≤ 1)
 | blank _ => exact (by decide : (1 : Int) ≤ 1)
 | @rcd n ps t _ _ _ _ _ _ ih =>
  rw [ev_rec, kn_rec, List.length_append]
  have := sum_len n ps ih
  have := @end_len t (ps.map (·.1))
  lia
noncomputable def look (evs : Evs) (i : Int) : Option Lb := (evs.find? fun e => decide (e.1 = i)).map (·.2)
theorem look_append {a b : Evs} {i : Int} : look (a ++ b) i = (look a i).or (look b i) := by
 unfold look; rw [List.find?_append]
 cases List.find? _ a <;> rfl
theorem look_one {i j : Int} {L : Lb} : look [(i, L)] j = if i = j then some L else none := by
 unfold look
 by_cases h : i = j
 ·rw [if_pos h]; simp [h]
 ·rw [if_neg h]; simp [h]
theorem look_left {a b : Evs} {i : Int} {L : Lb} (h : look a i = some L) : look (a ++ b) i = some L := by rw [look_append, h]; rfl
theorem look_mem {a : Evs} {i : Int} {L : Lb} (h : look a i = some L) : (i, L) ∈ a := by
 unfold look at h
 obtain ⟨e, he, rfl⟩ := Option.map_eq_some_iff.mp h
 have h1 : e.1 = i := of_decide_eq_true (List.find?_some (p := fun e : Int × Lb => decide (e.1 = i)) he)
 rw [← h1]; exact List.mem_of_find?_eq_some he
theorem look_some {a : Evs} {e : Int × Lb} (h : e ∈ a) : ∃ L, look a e.1 = some L := by
 unfold look
 cases hf : a.find? fun x => decide (x.1 = e.1) with
 | none => exact absurd (List.find?_eq_none.mp hf e h) (by simp)
 | some x => exact ⟨x.2, rfl⟩
noncomputable def goodB (pre evs : Evs) : Bool := evs.all fun e => decide (look (pre ++ evs) e.1 = some e.2)
theorem good_append {pre a b : Evs} : goodB pre (a ++ b) = (goodB pre a && goodB (pre ++ a) b) := by
 unfold goodB
 rw [List.all_append, List.append_assoc]
 congr 1
 rw [Bool.eq_iff_iff, List.all_eq_true, List.all_eq_true]
 refine forall_congr' fun e => forall_congr' fun he => ?_
 obtain ⟨L, hL⟩ := look_some (a := pre ++ a) (List.mem_append_right _ he)
 rw [← List.append_assoc, look_left hL, hL]
theorem good_one {pre : Evs} {i : Int} {L : Lb} : goodB pre [(i, L)] = decide (look (pre ++ [(i, L)]) i = some L) := by
 unfold goodB; simp
noncomputable def Enc (b : Bool) (lo : Nat) (σ : Store) : Lb → V → Prop
 | none, x => x = .none
 | some ls, x => cond b (x = .tup (ls.map .str)) (∃ r, x = .ref r ∧ lo ≤ r ∧ σ[r]? = some (.list (ls.map .str)))
theorem Enc.le {b : Bool} {lo : Nat} {σ σ' : Store} {X : List Nat} (h : LeEx X σ σ') (hX : ∀ n ∈ X, n < lo) : ∀ {L : Lb} {x : V}, Enc b lo σ L x → Enc b lo σ' L x
 | none, _, e => e
 | some ls, x, e => by
  cases b with
  | true => exact e
  | false =>
   obtain ⟨r, rfl, hr, e⟩ := e
   exact ⟨r, rfl, hr, h r _ (fun hm => absurd (hX r hm) (Nat.not_lt.mpr hr)) e⟩
theorem eqv_strs : ∀ x y : List Str, PyData.eqvAll (x.map PyData.str) (y.map PyData.str) = decide (x = y)
 | [], [] => by simp [PyData.eqvAll]
 | [], _ :: _ => by simp [PyData.eqvAll]
 | _ :: _, [] => by simp [PyData.eqvAll]
 | a :: x, b :: y => by
  show (PyData.eqv (.str a) (.str b) && PyData.eqvAll (x.map PyData.str) (y.map PyData.str)) = _
  rw [eqv_strs x y, show PyData.eqv (.str a) (.str b) = (a == b) from by simp [PyData.eqv]]
  by_cases h : a = b
  ·subst h; simp
  ·simp [h]
theorem strs_data (f : Nat → Option PyData) : ∀ ss : List Str, toPyTs f (ss.map V.str) = some (ss.map PyData.str) ∧ PyData.depthAll (ss.map PyData.str) ≤ 0
 | [] => ⟨rfl, Nat.le_refl _⟩
 | s :: ss => by
  obtain ⟨h1, h2⟩ := strs_data f ss
  refine ⟨?_, ?_⟩
  ·show (match toPyT f (.str s), toPyTs f (ss.map V.str) with | some d, some ds => some (d :: ds) | _, _ => none) = _
   rw [h1]; rfl
  ·show max (PyData.depth (.str s)) (PyData.depthAll (ss.map PyData.str)) ≤ 0
   have : PyData.depth (.str s) = 0 := by simp [PyData.depth]
   lia
noncomputable def encD (b : Bool) : Lb → PyData
 | none => .none
 | some ls => cond b (.tuple (ls.map .str)) (.list (ls.map .str))
theorem enc_data {b : Bool} {lo : Nat} {σ : Store} : ∀ {L : Lb} {x : V}, Enc b lo σ L x → toPy σ x = some (encD b L)
 | none, x, e => by cases e; rfl
 | some ls, x, e => by
  cases b with
  | true =>
   cases e
   show (toPyTs _ (ls.map V.str)).map PyData.tuple = _
   rw [(strs_data _ ls).1]; rfl
  | false =>
   obtain ⟨r, rfl, _, e⟩ := e
   show (match σ[r]? with | some (.list l) => (toPyTs (toPyF σ 3) l).map PyData.list | _ => none) = _
   rw [e]
   show (toPyTs _ (ls.map V.str)).map PyData.list = _
   rw [(strs_data _ ls).1]; rfl
theorem enc_depth {b : Bool} {L : Lb} : (encD b L).depth ≤ 1 := by
 cases L with
 | none => simp [encD, PyData.depth]
 | some ls =>
  have := (strs_data (fun ya => none) ls).2
  cases b with
  | true => show PyData.depthAll (ls.map PyData.str) + 1 ≤ 1; lia
  | false => show PyData.depthAll (ls.map PyData.str) + 1 ≤ 1; lia
theorem enc_eqv {b : Bool} {L L' : Lb} : PyData.eqv (encD b L) (encD b L') = decide (L = L') := by
 cases L with
 | none => cases L' with
  | none => simp [encD, PyData.eqv]
  | some _ => cases b <;> simp [encD, PyData.eqv]
 | some x => cases L' with
  | none => cases b <;> simp [encD, PyData.eqv]
  | some y =>
   have : PyData.eqv (encD b (some x)) (encD b (some y)) = PyData.eqvAll (x.map PyData.str) (y.map PyData.str) := by cases b <;> simp [encD, PyData.eqv]
   rw [this, eqv_strs]; simp
theorem enc_veq {b : Bool} {lo : Nat} {σ : Store} {L L' : Lb} {x y : V} (hx : Enc b lo σ L x) (hy : Enc b lo σ L' y) : veq σ x y = some (decide (L = L')) := by
 unfold veq
 rw [enc_data hx, enc_data hy]
 show (if min (encD b L).depth (encD b L').depth ≤ 200 then some (PyData.eqv _ _) else none) = _
 have := @enc_depth b L
 rw [if_pos (by lia), enc_eqv]
theorem enc_none {b : Bool} {lo : Nat} {σ : Store} {L : Lb} {x : V} (h : Enc b lo σ L x) : isNoneV x = decide (L = none) := by
 cases L with
 | none => cases h; rfl
 | some ls => cases b with
  | true => cases h; rfl
  | false => obtain ⟨r, rfl, _⟩ := h; rfl
structure TabE (b : Bool) (lo : Nat) (σ : Store) (k : Nat) (evs : Evs) (ver : Nat) (T : Tab) : Prop where
 cell : σ[k]? = some (.dict ver T)
 len : T.length ≤ evs.length
 keys : ∀ p ∈ T, ∃ i L, p.1 = .inl i ∧ look evs i = some L
 no : ∀ i, look evs i = none → dGet T (.inl i) = none
 yes : ∀ i L, look evs i = some L → ∃ x, dGet T (.inl i) = some x ∧ Enc b lo σ L x
 nd : (T.map (·.1)).Nodup
noncomputable def TabAt (b : Bool) (lo : Nat) (σ : Store) (k : Nat) (evs : Evs) : Prop := ∃ ver T, TabE b lo σ k evs ver T
section
variable {b : Bool} {lo k : Nat} {σ σ' : Store} {evs : Evs} {ver : Nat} {T : Tab} {X : List Nat} {i : Int} {L : Lb} {x : V}
theorem TabE.le (h : TabE b lo σ k evs ver T) (hle : LeEx X σ σ') (hX : ∀ n ∈ X, n < lo) (hk : k ∉ X) : TabE b lo σ' k evs ver T :=
 ⟨hle k _ hk h.cell, h.len, h.keys, h.no, fun i L e => let ⟨x, h1, h2⟩ := h.yes i L e; ⟨x, h1, h2.le hle hX⟩, h.nd⟩
theorem TabAt.le (h : TabAt b lo σ k evs) (hle : LeEx X σ σ') (hX : ∀ n ∈ X, n < lo) (hk : k ∉ X) : TabAt b lo σ' k evs := let ⟨v, T, t⟩ := h; ⟨v, T, t.le hle hX hk⟩
theorem TabE.empty (h : σ[k]? = some (.dict 0 [])) : TabE b lo σ k [] 0 [] := ⟨h, Nat.le_refl _, fun p hp => (nomatch hp), fun ya yb => rfl, fun ya yb e => (nomatch e), List.nodup_nil⟩
theorem look_snoc {j : Int} : look (evs ++ [(i, L)]) j = (look evs j).or (if i = j then some L else none) := by rw [look_append, look_one]
theorem TabE.put {T' : Tab} {v' : Nat} (h : TabE b lo σ k evs ver T) (hkl : k < lo) (hx : Enc b lo σ L x) (hl : look evs i = none ∨ look evs i = some L) (hlen : T'.length ≤ T.length + 1) (hk : ∀ p ∈ T', p ∈ T ∨ p.1 = .inl i)
  (hg : ∀ j, dGet T' (.inl j) = if j = i then some x else dGet T (.inl j)) (hc : σ'[k]? = some (.dict v' T')) (hle : LeEx [k] σ σ') (hnd : (T'.map (·.1)).Nodup) : TabE b lo σ' k (evs ++ [(i, L)]) v' T' := by
 have hX : ∀ n ∈ [k], n < lo := fun n hn => by rw [List.mem_singleton.mp hn]; exact hkl
 have hi : look (evs ++ [(i, L)]) i = some L := by
  rw [look_snoc, if_pos rfl]
  rcases hl with e | e <;> rw [e] <;> rfl
 have hj : ∀ j, j ≠ i → look (evs ++ [(i, L)]) j = look evs j := fun j hne => by rw [look_snoc, if_neg (Ne.symm hne)]; cases look evs j <;> rfl
 have h1 := h.len
 refine ⟨hc, by rw [List.length_append]; show _ ≤ _ + 1; lia, fun p hp => ?_, fun j e => ?_, fun j M e => ?_, hnd⟩
 ·rcases hk p hp with hp | e
  ·obtain ⟨j, M, e1, e2⟩ := h.keys p hp
   exact ⟨j, M, e1, look_left e2⟩
  ·exact ⟨i, L, e, hi⟩
 ·by_cases hji : j = i
  ·subst hji; rw [hi] at e; cases e
  ·rw [hg, if_neg hji]
   rw [hj j hji] at e
   exact h.no j e
 ·by_cases hji : j = i
  ·subst hji
   rw [hi] at e; cases e
   exact ⟨x, by rw [hg, if_pos rfl], hx.le hle hX⟩
  ·rw [hj j hji] at e
   obtain ⟨y, e1, e2⟩ := h.yes j M e
   exact ⟨y, by rw [hg, if_neg hji]; exact e1, e2.le hle hX⟩
theorem dGet_snoc {k k' : Key} {v : V} (h : dGet T k = none) : dGet (T ++ [(k, v)]) k' = if k' = k then some v else dGet T k' := by
 unfold dGet at *
 rw [List.find?_append]
 by_cases hk : k' = k
 ·subst hk
  rw [Option.map_eq_none_iff.mp h]; simp
 ·rw [if_neg hk]
  have : List.find? (fun p : Key × V => decide (p.1 = k')) [(k, v)] = none := by
   have hk' : ¬ k = k' := fun e => hk e.symm
   simp [hk']
  rw [this]
  cases List.find? (fun p : Key × V => decide (p.1 = k')) T <;> rfl
theorem nodup_snoc {k : Key} {v : V} (h : (T.map (·.1)).Nodup) (hn : dGet T k = none) : ((T ++ [(k, v)]).map (·.1)).Nodup := by
 rw [List.map_append]
 refine List.nodup_append.mpr ⟨h, List.nodup_cons.mpr ⟨List.not_mem_nil, List.nodup_nil⟩, fun a ha b hb e => ?_⟩
 obtain ⟨p, hp, rfl⟩ := List.mem_map.mp ha
 unfold dGet at hn
 have := List.find?_eq_none.mp (Option.map_eq_none_iff.mp hn) p hp
 exact this (decide_eq_true (e.trans (List.mem_singleton.mp hb)))
theorem inl_ne {i j : Int} (h : j ≠ i) : (Sum.inl j : Key) ≠ .inl i := fun e => h (Sum.inl.inj e)
theorem ite_inl {α : Type} {i j : Int} {a b : α} : (if (Sum.inl j : Key) = .inl i then a else b) = if j = i then a else b := by
 by_cases h : j = i
 ·rw [if_pos h, if_pos (by rw [h])]
 ·rw [if_neg h, if_neg (inl_ne h)]
theorem tag_sd : mtag (.ref 0) "setdefault" [.dict 0 []] = some .setdefault := by kernel_rfl
theorem sd_ok (h : TabE b lo σ k evs ver T) (h0 : 0 < k) (hkl : k < lo) (hx : Enc b lo σ L x) (hl : evs.length ≤ 100000) : Wp (runM .setdefault (.ref k) [.int i, x]) σ (fun r σ' => LeEx [k] σ σ' ∧ (∃ L', look (evs ++ [(i, L)]) i = some L' ∧ Enc b lo σ' L' r) ∧ TabAt b lo σ' k (evs ++ [(i, L)])) := by
 have h24 : (16777216 : Nat) = sizeLine := rfl
 have h1 := h.len
 have run : runM .setdefault (.ref k) [.int i, x] σ = (match dGet T (.inl i) with | some x => pure x | none => if T.length + 1 ≤ sizeLine then (putD k (T ++ [(.inl i, x)]) >>= fun ya => pure x) else M.bad : M V) σ := bind_ok (r_getDict h.cell)
 cases e : look evs i with
 | some L' =>
  obtain ⟨y, e1, e2⟩ := h.yes i L' e
  rw [e1] at run
  refine Wp_ok run ⟨.refl, ⟨L', look_left e, e2⟩, ver, T, h.cell, by rw [List.length_append]; show _ ≤ _ + 1; lia, fun p hp => ?_, fun j e' => ?_, fun j M e' => ?_, h.nd⟩
  ·obtain ⟨j, M, e3, e4⟩ := h.keys p hp
   exact ⟨j, M, e3, look_left e4⟩
  ·rw [look_snoc] at e'
   exact h.no j (by cases e4 : look evs j with | none => rfl | some M => rw [e4] at e'; cases e')
  ·rw [look_snoc] at e'
   cases e4 : look evs j with
   | some M' => rw [e4] at e'; cases e'; exact h.yes j _ e4
   | none =>
    rw [e4] at e'
    by_cases hij : i = j
    ·subst hij; rw [e] at e4; cases e4
    ·rw [if_neg hij] at e'; cases e'
 | none =>
  rw [h.no i e] at run
  dsimp only at run
  rw [if_pos (by lia), bind_ok (putD_ok h0 h.cell)] at run
  have hle : LeEx [k] σ (σ.set k (.dict (ver + 1) (T ++ [(.inl i, x)]))) := LeEx.refl.set (List.mem_singleton.mpr rfl)
  refine Wp_ok run ⟨hle, ⟨L, by rw [look_snoc, e, if_pos rfl]; rfl, hx.le hle (fun n hn => by rw [List.mem_singleton.mp hn]; exact hkl)⟩, _, _, h.put hkl hx (.inl e) (by rw [List.length_append]; exact Nat.le_refl _) (fun p hp => ?_) (fun j => ?_) (set_get h.cell) hle (nodup_snoc h.nd (h.no i e))⟩
  ·rcases List.mem_append.mp hp with hp | hp
   ·exact .inl hp
   ·rw [List.mem_singleton.mp hp]; exact .inr rfl
  ·rw [dGet_snoc (h.no i e), ite_inl]
end
noncomputable def labV : Lb → V
 | none => .none
 | some ls => .tup (ls.map .str)
theorem labV_enc {lo : Nat} {σ : Store} : ∀ L : Lb, Enc true lo σ L (labV L)
 | none => rfl
 | some _ => rfl
theorem enc_labV {lo : Nat} {σ : Store} : ∀ {L : Lb} {x : V}, Enc true lo σ L x → x = labV L
 | none, _, e => e
 | some _, _, e => e
noncomputable def evV (e : Int × Lb) : V := .tup [.int e.1, labV e.2]
theorem eq_words {σ : Store} {a b : Str} {c : Bool} (h : (a == b) = c) : cmp .Eq (.str a) (.str b) σ = .ok (.bool c) σ := by rw [← h]; rfl
theorem len_ok {a : Nat} (h : a ≤ 100000) : a < sizeLine := Nat.lt_of_le_of_lt h (by decide)
theorem labels_map {ps : List (Str × V)} : (ps.map pairV).map (fun x => V.str (fstS x)) = (ps.map (·.1)).map V.str := by rw [List.map_map, List.map_map]; rfl
theorem kn_at {w n j : Nat} {ps : List (Str × V)} {t : V} {p : Str × V} (hp : ∀ p ∈ ps, Fm w n p.2) (hj : ps[j]? = some p) : ((evP n (ps.take j)).length : Int) + kn n p.2 ≤ kn (n + 1) (recV ps t) - 1 := by
 rw [kn_rec]
 have e : ps = ps.take j ++ p :: ps.drop (j + 1) := by
  conv => lhs; rw [← List.take_append_drop j ps]
  rw [List.drop_eq_getElem_cons (lt_of_get hj), show ps[j]'(lt_of_get hj) = p from Option.some.inj ((List.getElem?_eq_getElem _).symm.trans hj)]
 have h1 := sum_len n (ps.take j) fun q hq => ev_len (hp q (List.mem_of_mem_take hq))
 have h2 := sum_len n (ps.drop (j + 1)) fun q hq => ev_len (hp q (List.mem_of_mem_drop hq))
 have h3 : (ps.map fun p => kn n p.2).sum = ((ps.take j).map fun p => kn n p.2).sum + (kn n p.2 + ((ps.drop (j + 1)).map fun p => kn n p.2).sum) := by
  conv => lhs; rw [e]
  rw [List.map_append, List.sum_append_int, List.map_cons, List.sum_cons]
 rw [h3]
 lia
theorem noted_end {F w n d : Nat} {ps : List (Str × V)} {t : V} {l : List V} {σ τ : Store} {o1 o2 : Option V} (hF : 0 < F) (h100 : ps.length ≤ 100) (hp : ∀ p ∈ ps, Fm w n p.2) (ht : RestOk t) (hl : ((l.length : Nat) : Int) + kn (n + 1) (recV ps t) ≤ 100000) (hle : LeEx [F] σ τ) (hl' : τ[F]? = some (.list (l ++ (evP n ps).map evV))) :
 Wp (P_note_blanks_a1 d [some (recV ps t), some (.ref F), o1, o2, none, none]) τ (fun ya σ' => LeEx [F] σ σ' ∧ σ'[F]? = some (.list (l ++ (ev2 (n + 1) (recV ps t)).map evV))) := by
 rw [P_note_blanks_a1_eq, ev_rec]
 refine Wp_step r_item2 (Wp_step r_notNone (Wp_step rfl ?_))
 rcases ht with rfl | ⟨i, hi, rfl⟩
 ·refine Wp_no rfl (Wp_pure ⟨hle, ?_⟩)
  show τ[F]? = some (.list (l ++ (evP n ps ++ []).map evV))
  rw [List.append_nil]; exact hl'
 ·refine Wp_yes rfl (Wp_step (r_tagL hl' tag_append) (Wp_step r_item2 (Wp_step r_item1 (Wp_step rfl (Wp_map (calm d) P_note_blanks_c1_ok (P_note_blanks_c1_in ..) (map_len h100) (P_note_blanks_c1_tst d) (fun loc => ∃ o1 o2, loc = [none, o1, o2]) ⟨_, _, rfl⟩ (fun x => .str (fstS x)) (fun x loc τ hx hS ya => ?_) fun τ₁ hle1 => ?_)))))
  ·obtain ⟨p, hp, rfl⟩ := List.mem_map.mp hx
   obtain ⟨o1, o2, rfl⟩ := hS
   refine ⟨_, P_note_blanks_c1_bind .., ⟨_, _, rfl⟩, ?_⟩
   rw [P_note_blanks_c1_elt]
   exact Wp_pure ⟨.refl, rfl⟩
  ·rw [labels_map]
   have hl2 := push_at (o' := .list ((ps.map (·.1)).map V.str)) (hle1.at hl')
   refine Wp_step (r_tuple get_new) (Wp_step (r_append hl2 hF (len_ok ?_)) (Wp_pure ⟨((hle.trans hle1.ex).new).set (List.mem_singleton.mpr rfl), ?_⟩))
   ·have h1 := sum_len n ps fun q hq => ev_len (hp q hq)
    have h2 := @kn_rec n ps (.int i)
    rw [List.length_append, List.length_map]
    lia
   ·rw [List.map_append, ← List.append_assoc]; exact set_get hl2
theorem noted_ok {F : Nat} (hF : 0 < F) {w n : Nat} {v : V} (hv : Fm w n v) : ∀ (d : Nat) (l : List V) (σ : Store), n ≤ d → σ[F]? = some (.list l) → ((l.length : Nat) : Int) + kn n v ≤ 100000 →
  Wp (cl03 d "note_blanks" [v, .ref F]) σ (fun ya σ' => LeEx [F] σ σ' ∧ σ'[F]? = some (.list (l ++ (ev2 n v).map evV))) := by
 induction hv with
 | num =>
  intro d l σ hd hf hl
  obtain ⟨d, rfl⟩ := up1 (d := d) (by assumption)
  rw [P_note_blanks_sh]
  refine Wp_step r_item0 (Wp_step (eq_words (by decide +kernel)) (Wp_step rfl (Wp_no rfl ?_)))
  unfold P_note_blanks_t1
  refine Wp_step r_item0 (Wp_step (eq_words (by decide +kernel)) (Wp_step rfl (Wp_no rfl (Wp_pure ⟨.refl, ?_⟩))))
  show σ[F]? = some (.list (l ++ []))
  rw [List.append_nil]; exact hf
 | @blank n i hi =>
  intro d l σ hd hf hl
  obtain ⟨d, rfl⟩ := up1 (d := d) (by assumption)
  have hl : ((l.length : Nat) : Int) + 1 ≤ 100000 := hl
  rw [P_note_blanks_sh]
  refine Wp_step r_item0 (Wp_step (eq_words (by decide +kernel)) (Wp_step rfl (Wp_yes rfl (Wp_step (r_tagL hf tag_append) (Wp_step r_item1 (Wp_step (r_append hf hF (len_ok (by lia (splits := 9)))) ?_))))))
  unfold P_note_blanks_t1
  exact Wp_step r_item0 (Wp_step (eq_words (by decide +kernel)) (Wp_step rfl (Wp_no rfl (Wp_pure ⟨LeEx.refl.set (List.mem_singleton.mpr rfl), set_get hf⟩))))
 | @rcd n ps t hlw hw100 hu hw hp ht ih =>
  have h100 := Nat.le_trans hlw hw100
  intro d l σ hd hf hl
  obtain ⟨d, rfl⟩ := up1 (d := d) (by assumption)
  rw [P_note_blanks_sh]
  refine Wp_step r_item0 (Wp_step (eq_words (by decide +kernel)) (Wp_step rfl (Wp_no rfl ?_)))
  unfold P_note_blanks_t1
  refine Wp_step r_item0 (Wp_step (eq_words (by decide +kernel)) (Wp_step rfl (Wp_yes rfl (Wp_step r_item1 (Wp_step rfl (Wp_for (J := fun ya => True) (calm d) walks_vals (fun i loc τ => LeEx [F] σ τ ∧ (∃ o1 o2, loc = [some (recV ps t), some (.ref F), o1, o2, none, none]) ∧ τ[F]? = some (.list (l ++ (evP n (ps.take i)).map evV))) (fun ya yb yc yd => trivial) ⟨.refl, ⟨_, _, rfl⟩, ?_⟩ (fun i x loc τ hx hq => ?_) fun loc τ hq => ?_))))))
  ·show σ[F]? = some (.list (l ++ []))
   rw [List.append_nil]; exact hf
  ·obtain ⟨hle, ⟨o1, o2, rfl⟩, hl'⟩ := hq
   rw [List.getElem?_map] at hx
   obtain ⟨p, hpi, rfl⟩ := Option.map_eq_some_iff.mp hx
   rw [show pairV p = .tup [.str p.1, p.2] from rfl, P_note_blanks_l1_step]
   have := kn_at (t := t) hp hpi
   refine (ih p (List.mem_of_getElem? hpi) d _ τ (by lia) hl' (by rw [List.length_append, List.length_map]; lia)).step fun r τ₁ hr => Wp_pure ⟨hle.trans hr.1, ⟨_, _, rfl⟩, ?_⟩
   rw [evP_take hpi, List.map_append, ← List.append_assoc]; exact hr.2
  ·obtain ⟨hle, ⟨o1, o2, rfl⟩, hl'⟩ := hq
   rw [List.length_map, List.take_length] at hl'
   exact noted_end hF h100 hp ht hl hle hl'
end Mine.Internal

set_option backward.match.sparseCases false
namespace Mine.Internal
open PySem PyProof.Rows
theorem good_split {a b : Evs} (h : goodB [] a = true) : goodB [] (a ++ b) = goodB a b := by rw [good_append, h]; rfl
theorem good_cons {pre r : Evs} {i : Int} {L : Lb} : goodB pre ((i, L) :: r) = (decide (look (pre ++ [(i, L)]) i = some L) && goodB (pre ++ [(i, L)]) r) := by
 rw [show (i, L) :: r = [(i, L)] ++ r from rfl, good_append, good_one]
theorem take_drop {α : Type} {l : List α} {i : Nat} {x : α} (h : l[i]? = some x) : l = l.take i ++ x :: l.drop (i + 1) := by
 conv => lhs; rw [← List.take_append_drop i l]
 rw [List.drop_eq_getElem_cons (lt_of_get h), show l[i]'(lt_of_get h) = x from Option.some.inj ((List.getElem?_eq_getElem _).symm.trans h)]
theorem take_snoc {α : Type} {l : List α} {i : Nat} {x : α} (h : l[i]? = some x) : l.take (i + 1) = l.take i ++ [x] := by rw [List.take_add_one, h]; rfl
noncomputable def Blanks (evs : Evs) (lo : Nat) (r : V) (σ : Store) : Prop := (goodB [] evs = false ∧ r = .none) ∨ (goodB [] evs = true ∧ ∃ j, r = .ref j ∧ 0 < j ∧ lo ≤ j ∧ TabAt true (j + 1) σ j evs)
theorem blanks_ok {w n d k : Nat} {v : V} {σ : Store} (hv : Fm w n v) (hk : σ[k]? = some (.list [v])) (h200 : kn n v ≤ 200) (hd : n ≤ d) : Wp (cl03 (d + 1) "blanks_of" [.ref k]) σ (fun r σ' => Le σ σ' ∧ Blanks (ev2 n v) σ.length r σ') := by
 rw [P_blanks_of_sh]
 have hpos : 0 < σ.length := Nat.lt_of_le_of_lt (Nat.zero_le _) (lt_of_get hk)
 have hl := ev_len hv
 refine Wp_step rfl (Wp_step (r_src (push_at hk)) ?_)
 have hk1 : (σ ++ [O.list []])[k]? = some (.list [v]) := push_at hk
 have hF : (σ ++ [O.list []])[σ.length]? = some (.list []) := get_new
 have hle : Le σ (σ ++ [O.list []]) := .push
 have hkF := lt_of_get hk
 have hlen : (σ ++ [O.list []]).length = σ.length + 1 := by simp
 generalize (σ ++ [O.list []]) = σ₁ at hk1 hF hle hlen
 have hpl : σ.length < σ₁.length := by lia
 generalize hFe : σ.length = F at *
 refine Wp_for (J := fun τ => τ[k]? = some (.list [v])) (calm d) (walks_lst fun ya h => h) (fun i loc τ => LeEx [F] σ₁ τ ∧ (∃ o, loc = [some (.ref k), some (.ref F), o, none, none, none, none]) ∧ ((i = 0 ∧ τ[F]? = some (.list [])) ∨ (i = 1 ∧ τ[F]? = some (.list ((ev2 n v).map evV))))) (fun i loc τ h => h.1 k _ (by simp; lia) hk1) ⟨.refl, ⟨_, rfl⟩, .inl ⟨rfl, hF⟩⟩ (fun i x loc τ hx hp => ?_) fun loc τ hp => ?_
 ·obtain ⟨hle1, ⟨o, rfl⟩, hi⟩ := hp
  rcases hi with ⟨rfl, hi⟩ | ⟨rfl, _⟩
  ·cases hx
   rw [P_blanks_of_l1_step]
   exact (noted_ok (by lia) hv d [] τ hd hi (by show 0 + _ ≤ _; lia)).step fun r τ₁ hr => Wp_pure ⟨hle1.trans hr.1, ⟨_, rfl⟩, .inr ⟨rfl, hr.2⟩⟩
  ·cases hx
 ·obtain ⟨hle1, ⟨o, rfl⟩, hi⟩ := hp
  rcases hi with ⟨h, _⟩ | ⟨_, hi⟩
  ·cases h
  rw [P_blanks_of_a1_eq]
  refine Wp_step rfl (Wp_step (r_src (push_at hi)) ?_)
  have hi1 : (τ ++ [O.dict 0 []])[F]? = some (.list ((ev2 n v).map evV)) := push_at hi
  have hD : (τ ++ [O.dict 0 []])[τ.length]? = some (.dict 0 []) := get_new
  have hFD := lt_of_get hi
  have hle2 : Le σ (τ ++ [O.dict 0 []]) := (hle.after hle1 fun m hm => .inr (by rw [List.mem_singleton.mp hm]; lia)).new
  generalize (τ ++ [O.dict 0 []]) = σ₂ at hi1 hD hle2
  generalize τ.length = D at hD hFD
  refine Wp_for (J := fun τ => τ[F]? = some (.list ((ev2 n v).map evV))) (calm d) (walks_lst fun ya h => h) (fun i loc τ => LeEx [D] σ₂ τ ∧ (∃ o o1 o2, loc = [some (.ref k), some (.ref F), o, some (.ref D), o1, o2, none]) ∧ goodB [] ((ev2 n v).take i) = true ∧ TabAt true (D + 1) τ D ((ev2 n v).take i)) (fun i loc τ h => h.1 F _ (by simp; lia) hi1) ⟨.refl, ⟨_, _, _, rfl⟩, rfl, 0, [], TabE.empty hD⟩ (fun i x loc τ hx hp => ?_) fun loc τ hp => ?_
  ·obtain ⟨hle3, ⟨o, o1, o2, rfl⟩, hg, ver, T, tab⟩ := hp
   rw [List.getElem?_map] at hx
   obtain ⟨⟨i', L⟩, he, rfl⟩ := Option.map_eq_some_iff.mp hx
   rw [show evV (i', L) = .tup [.int i', labV L] from rfl, P_blanks_of_l2_step]
   have hlt := lt_of_get he
   refine Wp_step (r_tagD tab.cell tag_sd) ((sd_ok tab (by lia) (Nat.lt_succ_self _) (labV_enc L) (by rw [List.length_take]; lia)).step fun r τ₁ hr => ?_)
   obtain ⟨hle4, ⟨L', hL', hE⟩, tab'⟩ := hr
   refine Wp_step (r_ne (enc_veq hE (labV_enc L))) (Wp_step rfl ?_)
   by_cases hc : L' = L
   ·subst hc
    refine Wp_no (by simp) (Wp_pure ⟨hle3.trans hle4, ⟨_, _, _, rfl⟩, ?_, ?_⟩)
    ·rw [take_snoc he, good_split hg, good_one]; exact decide_eq_true hL'
    ·rw [take_snoc he]; exact tab'
   ·refine Wp_yes (by simp [hc]) (Wp_pure (Wp_pure ⟨hle2.after (hle3.trans hle4) fun m hm => .inr (by rw [List.mem_singleton.mp hm]; lia), .inl ⟨?_, rfl⟩⟩))
    rw [take_drop he, good_split hg, good_cons, hL']
    simp [hc]
  ·obtain ⟨hle3, ⟨o, o1, o2, rfl⟩, hg, tab⟩ := hp
   rw [List.length_map, List.take_length] at hg tab
   rw [P_blanks_of_a2_eq]
   exact Wp_pure ⟨hle2.after hle3 fun m hm => .inr (by rw [List.mem_singleton.mp hm]; lia), .inr ⟨hg, D, rfl, by lia, by lia, tab⟩⟩
end Mine.Internal

set_option backward.match.sparseCases false
namespace Mine.Internal
open PySem PyProof.Rows
theorem Fm.dat {σ : Store} {w n : Nat} {v : V} (h : Fm w n v) : Dat σ v := by
 have two : ∀ {x y : V}, Dat σ x → Dat σ y → Dat σ (.tup [x, y]) := fun hx hy => .tup fun z hz => by
  rcases List.mem_cons.mp hz with rfl | hz
  ·exact hx
  ·rw [List.mem_singleton.mp hz]; exact hy
 induction h with
 | num => exact .tup fun x hx => by rw [List.mem_singleton.mp hx]; exact .str _
 | blank _ => exact two (.str _) (.int _)
 | rcd _ _ _ _ _ ht ih =>
  refine .tup fun x hx => ?_
  rcases List.mem_cons.mp hx with rfl | hx
  ·exact .str _
  ·rcases List.mem_cons.mp hx with rfl | hx
   ·refine .tup fun y hy => ?_
    obtain ⟨p, hp, rfl⟩ := List.mem_map.mp hy
    exact two (.str _) (ih p hp)
   ·rw [List.mem_singleton.mp hx]
    rcases ht with rfl | ⟨i, _, rfl⟩
    ·exact .none
    ·exact .int i
theorem isKind_ok {w d : Nat} {v : V} {σ : Store} (hv : Fm w 12 v) (h200 : kn 12 v ≤ 200) (hg : goodB [] (ev2 12 v) = true) : Wp (cl03 (d + 27) "is_kind" [v]) σ (Says σ true) := by
 rw [P_is_kind_sh]
 refine (isForm_ok 12 (d + 26) (by lia) v σ hv.dat).step fun r σ₁ hr => ?_
 obtain ⟨hle, rfl⟩ := hr
 refine Wp_step rfl (Wp_yes (fm_form hv) ((knots_ok hv _ σ₁ (by lia)).step fun r σ₂ hr => ?_))
 obtain ⟨hle2, rfl⟩ := hr
 refine Wp_step rfl (Wp_step (a := true) (σ' := σ₂) (by show Res.ok (decide (kn 12 v ≤ 200)) σ₂ = _; rw [decide_eq_true h200]) (Wp_yes rfl (Wp_step rfl ((blanks_ok hv get_new h200 (by lia)).step fun r σ₃ hr => ?_))))
 obtain ⟨hle3, hb⟩ := hr
 rcases hb with ⟨e, _⟩ | ⟨_, j, rfl, _⟩
 ·rw [hg] at e; cases e
 ·exact Wp_step r_notNone (Wp_pure ⟨((hle.trans hle2).new).trans hle3, rfl⟩)
noncomputable def noneV : V := .tup [.str (Str.ofString "none")]
theorem notKind_ok {d : Nat} {σ : Store} : Wp (cl03 (d + 27) "is_kind" [noneV]) σ (Says σ false) := by
 rw [P_is_kind_sh]
 refine (isForm_ok 12 (d + 26) (by lia) noneV σ (.tup fun x hx => by rw [List.mem_singleton.mp hx]; exact .str _)).step fun r σ₁ hr => ?_
 obtain ⟨hle, rfl⟩ := hr
 have e : formB 12 noneV = false := by decide +kernel
 rw [e]
 exact Wp_pure ⟨hle, rfl⟩
noncomputable def pairOf : V → Option (V × V)
 | .tup [f, t] => some (f, t)
 | _ => none
noncomputable def fieldsOf : V → List V
 | .tup fs => fs
 | _ => []
noncomputable def fillB : Lb → V → Bool
 | none, x => formB 12 x
 | some ls, x => match pairOf x with
  | some (f, t) => rowB (formB 12) f t && (fieldsOf f).all fun y => !(decide (fstS y ∈ ls))
  | none => false
inductive Exc (c : Str) (σ : Store) (e : V) (σ' : Store) : Prop
 | mk (h1 : Le σ σ') (r : Nat) (h2 : e = .ref r) (h3 : σ'[r]? = some (.exc c [])) : Exc c σ e σ'
theorem Exc.after {c : Str} {σ τ σ' : Store} {e : V} (l : Le σ τ) (h : Exc c τ e σ') : Exc c σ e σ' := by
 obtain ⟨h1, r, h2, h3⟩ := h
 exact ⟨l.trans h1, r, h2, h3⟩
noncomputable abbrev sBadFill : Str := Str.ofString "BadFill"
noncomputable abbrev sBadKind : Str := Str.ofString "BadKind"
noncomputable abbrev sTooGreat : Str := Str.ofString "TooGreat"
theorem Wx_raise {α : Type} {σ τ : Store} {c : Str} {Q : α → Store → Prop} {E : V → Store → Prop} (h : Le σ τ) (k : ∀ e σ', Exc c σ e σ' → E e σ') : Wx (newO (.exc c []) >>= fun e => (M.throw e : M α)) τ Q E := Wx_throw (k _ _ ⟨h.new, _, rfl, get_new⟩)
theorem vin_strs {σ : Store} {s : Str} : ∀ ss : List Str, vin σ (.str s) (ss.map V.str) = some (decide (s ∈ ss))
 | [] => by simp [vin]
 | t :: ss => by
  show (match veq σ (.str t) (.str s), vin σ (.str s) (ss.map V.str) with | some e, some t => some (e || t) | _, _ => none) = _
  rw [vin_strs ss, show veq σ (.str t) (.str s) = some (t == s) from rfl]
  show some ((t == s) || decide (s ∈ ss)) = _
  by_cases h : t = s
  ·subst h; simp
  ·have : ¬ s = t := fun e => h e.symm
   simp [h, this]
theorem rows_pairs {F : V → Bool} : ∀ {fs : List V} {a : Str}, rowsB F a fs = true → ∃ ps : List (Str × V), fs = ps.map pairV
 | [], _, _ => ⟨[], rfl⟩
 | x :: fs, a, h => by
  have h : (match fieldB a x with | some (s, k) => F k && rowsB F s fs | none => false) = true := h
  cases e : fieldB a x with
  | none => rw [e] at h; cases h
  | some q =>
   rw [e] at h
   have h : (F q.2 && rowsB F q.1 fs) = true := h
   rw [Bool.and_eq_true] at h
   obtain ⟨ps, rfl⟩ := rows_pairs h.2
   match x, e with
   | .tup [.str s, k], _ => exact ⟨(s, k) :: ps, rfl⟩
theorem needRest_ok {d : Nat} {σ τ : Store} {x f t : V} {ls : List Str} (hx : x = .tup [f, t]) (hle : Le σ τ) (hr : rowB (formB 12) f t = true) :
  Wx (P_need_fill_t2 d x (.tup (ls.map V.str))) τ (fun ya σ' => Le σ σ' ∧ (fieldsOf f).all (fun y => !(decide (fstS y ∈ ls))) = true) (fun e σ' => Exc sBadFill σ e σ' ∧ (fieldsOf f).all (fun y => !(decide (fstS y ∈ ls))) = false) := by
 cases f with
 | tup fs =>
  have hr : ((isNoneV t || countB t) && rowsB (formB 12) (Str.ofString "") fs) = true := hr
  rw [Bool.and_eq_true] at hr
  obtain ⟨ps, rfl⟩ := rows_pairs hr.2
  subst hx
  unfold P_need_fill_t2
  refine Wx_step r_item0 (Wx_step rfl (Wx_for (J := fun ya => True) (calm d) walks_vals (fun i loc τ => Le σ τ ∧ (∃ o1 o2, loc = [some (.tup [.tup (ps.map pairV), t]), some (.tup (ls.map V.str)), o1, o2, none, none, none, none, none, none, none]) ∧ ((ps.map pairV).take i).all (fun y => !(decide (fstS y ∈ ls))) = true) (fun ya yb yc yd => trivial) ⟨hle, ⟨_, _, rfl⟩, rfl⟩ (fun i y loc τ hy hp => ?_) fun loc τ hp => ?_))
  ·obtain ⟨hle1, ⟨o1, o2, rfl⟩, hall⟩ := hp
   obtain ⟨p, hpm, rfl⟩ := List.mem_map.mp (List.mem_of_getElem? hy)
   rw [show pairV p = .tup [.str p.1, p.2] from rfl, P_need_fill_l1_step]
   refine Wx_step (r_inT (vin_strs ls)) (Wx_step rfl ?_)
   by_cases hc : p.1 ∈ ls
   ·rw [decide_eq_true hc]
    refine Wx_raise hle1 fun e σ' he => ⟨he, ?_⟩
    rw [List.all_eq_false]
    exact ⟨pairV p, List.mem_map.mpr ⟨p, hpm, rfl⟩, by show ¬ (!(decide (p.1 ∈ ls))) = true; simp [hc]⟩
   ·rw [decide_eq_false hc]
    refine .inl (Wp_pure ⟨hle1, ⟨_, _, rfl⟩, ?_⟩)
    rw [take_snoc hy, List.all_append, hall]
    show (true && ((!(decide (p.1 ∈ ls))) && true)) = true
    rw [decide_eq_false hc]; rfl
  ·obtain ⟨hle1, ⟨o1, o2, rfl⟩, hall⟩ := hp
   rw [List.take_length] at hall
   rw [P_need_fill_a1_eq]
   exact .inl (Wp_pure ⟨hle1, hall⟩)
 | _ => cases hr
theorem need_ok {d : Nat} {σ : Store} {x : V} {L : Lb} (hx : Dat σ x) : Wx (cl03 (d + 28) "need_fill" [x, labV L]) σ (fun ya σ' => Le σ σ' ∧ fillB L x = true) (fun e σ' => Exc sBadFill σ e σ' ∧ fillB L x = false) := by
 rw [P_need_fill_sh]
 cases L with
 | none =>
  refine Wx_step rfl (Wx_step rfl ?_)
  show Wx (cl03 (d + 27) "is_form" [x, .int 12] >>= _) σ _ _
  refine (isForm_ok 12 (d + 27) (by lia) x σ hx).stepX fun r σ₁ hr => ?_
  obtain ⟨hle, rfl⟩ := hr
  refine Wx_step rfl ?_
  show Wx _ _ (fun ya σ' => Le σ σ' ∧ formB 12 x = true) (fun e σ' => Exc sBadFill σ e σ' ∧ formB 12 x = false)
  cases formB 12 x with
  | true => exact .inl (Wp_pure ⟨hle, rfl⟩)
  | false => exact Wx_raise hle fun e σ' he => ⟨he, rfl⟩
 | some ls =>
  refine Wx_step rfl (Wx_step rfl ?_)
  show Wx (P_need_fill_t1 (d + 27) x (.tup (ls.map V.str))) σ _ _
  unfold P_need_fill_t1
  have hno : pairOf x = none → fillB (some ls) x = false := fun e => by
   show (match pairOf x with | some (f, t) => rowB (formB 12) f t && (fieldsOf f).all fun y => !(decide (fstS y ∈ ls)) | none => false) = false
   rw [e]
  refine Wp.stepX (P := fun b τ => Le σ τ ∧ ((b = true ∧ fillB (some ls) x = false) ∨ (b = false ∧ ∃ f t, x = .tup [f, t] ∧ rowB (formB 12) f t = true))) (Wp_step (r_kdT hx) (Wp_step rfl ?_)) fun b τ hb => ?_
  ·cases x with
   | tup l =>
    refine Wp_no rfl (Wp_step rfl (Wp_step r_neI (Wp_step rfl ?_)))
    rcases two_or l with ⟨f, t, rfl⟩ | hl
    ·refine Wp_no rfl (Wp_step r_item0 (Wp_step r_item1 ((isRow_ok (n := 12) (d := d + 25) (isForm_ok 12 _ (by lia)) (hx.mem (List.mem_cons_self ..)) (hx.mem (List.mem_cons_of_mem _ (List.mem_cons_self ..)))).step fun r τ hr => ?_)))
     obtain ⟨hle, rfl⟩ := hr
     refine Wp_step rfl ?_
     cases hr : rowB (formB 12) f t with
     | true => exact Wp_pure ⟨hle, .inr ⟨rfl, f, t, rfl, hr⟩⟩
     | false =>
      refine Wp_pure ⟨hle, .inl ⟨rfl, ?_⟩⟩
      show (rowB (formB 12) f t && _) = false
      rw [hr]; rfl
    ·rw [show (((l.length : Nat) : Int) == 2) = false from nat_beq.trans hl]
     refine Wp_pure ⟨.refl, .inl ⟨rfl, hno ?_⟩⟩
     match l, hl with
     | [], _ => rfl
     | [_], _ => rfl
     | _ :: _ :: _ :: _, _ => rfl
   | _ => exact Wp_pure ⟨.refl, .inl ⟨rfl, rfl⟩⟩
  ·obtain ⟨hle, hb⟩ := hb
   rcases hb with ⟨rfl, e⟩ | ⟨rfl, f, t, rfl, hr⟩
   ·exact Wx_raise hle fun x σ' he => ⟨he, e⟩
   ·have e : fillB (some ls) (.tup [f, t]) = (rowB (formB 12) f t && (fieldsOf f).all fun y => !(decide (fstS y ∈ ls))) := rfl
    rw [e, hr]
    exact needRest_ok rfl hle hr
noncomputable def FillOk : Lb → V → Prop
 | none, x => Fm 20 12 x
 | some ls, x => ∃ (qs : List (Str × V)) (t : V), x = .tup [.tup (qs.map pairV), t] ∧ qs.length ≤ 10 ∧ UpP qs ∧ (∀ q ∈ qs, wordB (.str q.1) = true) ∧ (∀ q ∈ qs, Fm 20 12 q.2) ∧ RestOk t ∧ ∀ q ∈ qs, q.1 ∉ ls
theorem fill_ok : ∀ {L : Lb} {x : V}, FillOk L x → fillB L x = true
 | none, x, h => fm_form h
 | some ls, x, h => by
  obtain ⟨qs, t, rfl, _, hu, hw, hF, ht, hn⟩ := h
  show (((isNoneV t || countB t) && rowsB (formB 12) (Str.ofString "") (qs.map pairV)) && (qs.map pairV).all fun y => !(decide (fstS y ∈ ls))) = true
  rw [rest_iff.mpr ht, rows_of hu (fun p hp => word_above (hw p hp)) hw fun p hp => fm_form (hF p hp)]
  show (qs.map pairV).all _ = true
  rw [List.all_map, List.all_eq_true]
  intro q hq
  show (!(decide (q.1 ∈ ls))) = true
  rw [decide_eq_false (hn q hq)]; rfl
end Mine.Internal

set_option backward.match.sparseCases false
namespace Mine.Internal
open PySem PyProof.Rows
noncomputable def restQ (F : Int → Option V) (t : V) : Option (List (Str × V) × V) := match t with
 | .int i => (F i).bind fun x => (pairOf x).map fun q => ((fieldsOf q.1).map (fun y => (fstS y, sndV y)), q.2)
 | _ => none
noncomputable def finQ (ps : List (Str × V)) (t : V) : Option (List (Str × V) × V) → List (Str × V) × V
 | none => (ps, t)
 | some q => (ps ++ q.1, q.2)
noncomputable def wf (F : Int → Option V) : Nat → V → V
 | 0, v => v
 | n + 1, v => match v with
  | .tup [_, .int i] => (F i).getD v
  | .tup [_, .tup fs, t] => recV (sortP (finQ (fs.map fun x => (fstS x, wf F n (sndV x))) t (restQ F t)).1) (finQ (fs.map fun x => (fstS x, wf F n (sndV x))) t (restQ F t)).2
  | _ => v
noncomputable def wfP (F : Int → Option V) (n : Nat) (ps : List (Str × V)) : List (Str × V) := ps.map fun p => (p.1, wf F n p.2)
theorem wf_rec {F : Int → Option V} {n : Nat} {ps : List (Str × V)} {t : V} : wf F (n + 1) (recV ps t) = recV (sortP (finQ (wfP F n ps) t (restQ F t)).1) (finQ (wfP F n ps) t (restQ F t)).2 := by
 have e : (ps.map pairV).map (fun x => (fstS x, wf F n (sndV x))) = wfP F n ps := by rw [List.map_map]; rfl
 show recV (sortP (finQ ((ps.map pairV).map _) t (restQ F t)).1) (finQ ((ps.map pairV).map _) t (restQ F t)).2 = _
 rw [e]
theorem unpair {qs : List (Str × V)} : (qs.map pairV).map (fun y => (fstS y, sndV y)) = qs := by
 rw [List.map_map]; exact List.map_id _
structure Fills (σ : Store) (k : Nat) (F : Int → Option V) : Prop where
 cell : ∃ ver T, σ[k]? = some (.dict ver T) ∧ ∀ i, dGet T (.inl i) = F i
theorem Fills.le {σ σ' : Store} {k : Nat} {F : Int → Option V} {X : List Nat} (h : Fills σ k F) (hle : LeEx X σ σ') (hk : k ∉ X) : Fills σ' k F :=
 let ⟨v, T, e, g⟩ := h.cell; ⟨v, T, hle k _ hk e, g⟩
noncomputable def AllOk (F : Int → Option V) (evs : Evs) : Prop := ∀ e ∈ evs, ∀ x, F e.1 = some x → FillOk e.2 x
theorem up_nodup {ps : List (Str × V)} (h : UpP ps) : (ps.map (·.1)).Nodup := List.pairwise_map.mpr (h.imp fun {a b} hl e => by
 rw [e] at hl
 unfold strLt at hl
 exact absurd (of_decide_eq_true hl) (List.lt_irrefl _))
theorem wfP_fst {F : Int → Option V} {n : Nat} {ps : List (Str × V)} : (wfP F n ps).map (·.1) = ps.map (·.1) := by unfold wfP; rw [List.map_map]; rfl
structure Fin (ps : List (Str × V)) (q : List (Str × V) × V) : Prop where
 nodup : (q.1.map (·.1)).Nodup
 len : q.1.length ≤ ps.length + 10
theorem fin_ok {F : Int → Option V} {ps : List (Str × V)} {t : V} (hn : (ps.map (·.1)).Nodup) (h : ∀ i, t = .int i → ∀ x, F i = some x → FillOk (some (ps.map (·.1))) x) : Fin ps (finQ ps t (restQ F t)) := by
 have no : Fin ps (ps, t) := ⟨hn, Nat.le_add_right _ _⟩
 cases t with
 | int i =>
  unfold restQ
  dsimp only
  cases e : F i with
  | none => exact no
  | some x =>
   obtain ⟨qs, t', rfl, hl, hu, _, _, _, hd⟩ := h i rfl x e
   show Fin ps (ps ++ (qs.map pairV).map (fun y => (fstS y, sndV y)), t')
   rw [unpair]
   refine ⟨?_, by rw [List.length_append]; lia⟩
   rw [List.map_append]
   refine List.nodup_append.mpr ⟨hn, up_nodup hu, fun a ha b hb e => ?_⟩
   obtain ⟨q, hq, rfl⟩ := List.mem_map.mp hb
   exact hd q hq (e ▸ ha)
 | _ => exact no
theorem allLabs_map : ∀ ps : List (Str × V), allLabs (ps.map pairV) = some ps
 | [] => rfl
 | p :: ps => by show (allLabs (ps.map pairV)).map (p :: ·) = _; rw [allLabs_map ps]; rfl
theorem sortL_pairs {ps : List (Str × V)} (h : (ps.map (·.1)).Nodup) : sortL (ps.map pairV) = some ((sortP ps).map pairV) := by
 cases ps with
 | nil => rfl
 | cons p ps =>
  unfold sortL
  rw [show allStrs ((p :: ps).map pairV) = none from rfl, allLabs_map]
  exact if_pos h
theorem rest_part {T3 : V → V → M V} {F : Int → Option V} {σ : Store} {k f : Nat} {ps : List (Str × V)} {t : V} {Q : V → Store → Prop} (hk : Fills σ k F) (hf : σ[f]? = some (.list (ps.map pairV))) (ht : RestOk t) (hl : ps.length ≤ 10)
  (h : ∀ i, t = .int i → ∀ x, F i = some x → FillOk (some (ps.map (·.1))) x)
  (hT : ∀ g τ, Le σ τ → τ[g]? = some (.list ((finQ ps t (restQ F t)).1.map pairV)) → Wp (T3 (.ref g) (finQ ps t (restQ F t)).2) τ Q) :
  Wp ((cmp .IsNot t V.none >>= fun t168 => (truth t168 >>= fun b169 => (M.cond b169 (cmp .In t (.ref k) >>= fun t170 => (truth t170 >>= fun b171 => (M.cond b171 (pure true : M Bool) (pure false : M Bool)))) (pure false : M Bool)))) >>= fun b167 => (M.cond b167 (item (.ref k) t >>= fun t172 => (item t172 (V.int 0) >>= fun t173 => (bList t173 >>= fun t174 => (binop .Add (.ref f) t174 >>= fun t175 => (item (.ref k) t >>= fun t176 => (item t176 (V.int 1) >>= fun t177 => (T3 t175 t177))))))) (T3 (.ref f) t))) σ Q := by
 obtain ⟨ver, T, e, g⟩ := hk.cell
 rcases ht with rfl | ⟨i, hi, rfl⟩
 ·exact Wp.step (P := fun b τ => b = false ∧ τ = σ) (Wp_step r_notNone (Wp_pure ⟨rfl, rfl⟩)) fun b τ hb => Wp_no hb.1 (by rw [hb.2]; exact hT f σ .refl hf)
 ·refine Wp.step (P := fun b τ => b = (F i).isSome ∧ τ = σ) (Wp_step r_notNone (Wp_step rfl (Wp_yes rfl (Wp_step (r_inD e rfl) (Wp_step rfl ?_))))) fun b τ hb => ?_
  ·rw [g i]
   cases (F i).isSome with
   | true => exact Wp_pure ⟨rfl, rfl⟩
   | false => exact Wp_pure ⟨rfl, rfl⟩
  ·obtain ⟨rfl, rfl⟩ := hb
   have hT := hT
   unfold restQ at hT
   dsimp only at hT
   cases eF : F i with
   | none => rw [eF] at hT; exact Wp_no rfl (hT f τ .refl hf)
   | some x =>
    obtain ⟨qs, t', rfl, hq, _⟩ := h i rfl x eF
    rw [eF] at hT
    have hT : ∀ g τ', Le τ τ' → τ'[g]? = some (.list ((ps ++ (qs.map pairV).map (fun y => (fstS y, sndV y))).map pairV)) → Wp (T3 (.ref g) t') τ' Q := hT
    rw [unpair, List.map_append] at hT
    have e1 : (τ ++ [O.list (qs.map pairV)])[k]? = some (.dict ver T) := push_at e
    refine Wp_yes rfl (Wp_step (r_itemD e rfl ((g i).trans eF)) (Wp_step r_item0 (Wp_step rfl (Wp_step (r_add (push_at hf) get_new ?_) (Wp_step (r_itemD (push_at e1) rfl ((g i).trans eF)) (Wp_step r_item1 (hT _ _ LeEx.push.new get_new)))))))
    rw [List.length_map, List.length_map]
    exact Nat.le_of_lt (len_ok (by lia))
theorem tag_get : mtag (.ref 0) "get" [.dict 0 []] = some .get := by kernel_rfl
theorem allOk_of {F : Int → Option V} {n : Nat} {ps : List (Str × V)} {t : V} (h : AllOk F (ev2 (n + 1) (recV ps t))) : (∀ p ∈ ps, AllOk F (ev2 n p.2)) ∧ ∀ i, t = .int i → ∀ x, F i = some x → FillOk (some (ps.map (·.1))) x := by
 rw [ev_rec] at h
 refine ⟨fun p hp e he => h e (List.mem_append_left _ (List.mem_flatMap.mpr ⟨p, hp, he⟩)), fun i e x hx => ?_⟩
 subst e
 exact h (i, some (ps.map (·.1))) (List.mem_append_right _ (List.mem_singleton.mpr rfl)) x hx
theorem map_wf {F : Int → Option V} {n : Nat} {ps : List (Str × V)} : (ps.map pairV).map (fun x => V.tup [.str (fstS x), wf F n (sndV x)]) = (wfP F n ps).map pairV := by
 unfold wfP; rw [List.map_map, List.map_map]; rfl
theorem rest_fst {F : Int → Option V} {n : Nat} {ps : List (Str × V)} {t : V} (h : ∀ i, t = .int i → ∀ x, F i = some x → FillOk (some (ps.map (·.1))) x) : ∀ i, t = .int i → ∀ x, F i = some x → FillOk (some ((wfP F n ps).map (·.1))) x := by rw [wfP_fst]; exact h
theorem with_ok {F : Int → Option V} {k n : Nat} {v : V} (hv : Fm 10 n v) : ∀ (d : Nat) (σ : Store), n ≤ d → Fills σ k F → AllOk F (ev2 n v) → Wp (cl03 d "with_fills" [v, .ref k]) σ (Gives σ (wf F n v)) := by
 induction hv with
 | num =>
  intro d σ hd hk ha
  obtain ⟨d, rfl⟩ := up1 (d := d) (by assumption)
  rw [P_with_fills_sh]
  exact Wp_step r_item0 (Wp_step (eq_words (by decide +kernel)) (Wp_step rfl (Wp_yes rfl (Wp_pure ⟨.refl, rfl⟩))))
 | @blank n i hi =>
  intro d σ hd hk ha
  obtain ⟨d, rfl⟩ := up1 (d := d) (by assumption)
  obtain ⟨ver, T, e, g⟩ := hk.cell
  rw [P_with_fills_sh]
  refine Wp_step r_item0 (Wp_step (eq_words (by decide +kernel)) (Wp_step rfl (Wp_no rfl ?_)))
  unfold P_with_fills_t1
  refine Wp_step r_item0 (Wp_step (eq_words (by decide +kernel)) (Wp_step rfl (Wp_yes rfl (Wp_step (r_tagD e tag_get) (Wp_step r_item1 (Wp_step (r_get e rfl) (Wp_pure ⟨.refl, ?_⟩)))))))
  rw [g i]; rfl
 | @rcd n ps t hl _ hu hw hp ht ih =>
  intro d σ hd hk ha
  obtain ⟨d, rfl⟩ := up1 (d := d) (by assumption)
  obtain ⟨ha1, ha2⟩ := allOk_of ha
  rw [P_with_fills_sh]
  refine Wp_step r_item0 (Wp_step (eq_words (by decide +kernel)) (Wp_step rfl (Wp_no rfl ?_)))
  unfold P_with_fills_t1
  refine Wp_step r_item0 (Wp_step (eq_words (by decide +kernel)) (Wp_step rfl (Wp_no rfl ?_)))
  unfold P_with_fills_t2
  refine Wp_step r_item1 (Wp_step rfl (Wp_map (calm d) P_with_fills_c1_ok (P_with_fills_c1_in ..) (map_len (by lia)) (P_with_fills_c1_tst d) (fun loc => ∃ o1 o2, loc = [none, o1, o2, none, some (.ref k)]) ⟨_, _, rfl⟩ (fun x => .tup [.str (fstS x), wf F n (sndV x)]) (fun x loc τ hx hS hle => ?_) fun τ hle => ?_))
  ·obtain ⟨p, hpm, rfl⟩ := List.mem_map.mp hx
   obtain ⟨o1, o2, rfl⟩ := hS
   refine ⟨_, P_with_fills_c1_bind .., ⟨_, _, rfl⟩, ?_⟩
   rw [P_with_fills_c1_elt]
   refine (ih p hpm d τ (by lia) (hk.le hle (by simp)) (ha1 p hpm)).step fun r τ' hr => ?_
   obtain ⟨h1, rfl⟩ := hr
   exact Wp_pure ⟨h1, rfl⟩
  ·rw [map_wf, wf_rec]
   have hfin := fin_ok (F := F) (ps := wfP F n ps) (t := t) (by rw [wfP_fst]; exact up_nodup hu) (rest_fst ha2)
   have hwl : (wfP F n ps).length ≤ 10 := by unfold wfP; rw [List.length_map]; exact hl
   have h1 := hfin.len
   refine Wp_step r_item2 (rest_part (F := F) (hk.le hle.new (by simp)) get_new ht hwl (rest_fst ha2) fun g τ' hle' hg => ?_)
   unfold P_with_fills_t3
   exact Wp_step (r_sorted hg (by rw [List.length_map]; lia) (sortL_pairs hfin.nodup)) (Wp_step (r_tuple get_new) (Wp_pure ⟨(hle.new.trans hle').new, rfl⟩))
noncomputable def tabP (ps : List (Str × V)) : Tab := ps.map fun p => (.inr p.1, p.2)
theorem pairs_map : ∀ ps : List (Str × V), pairsOf (ps.map pairV) = some (tabP ps)
 | [] => rfl
 | p :: ps => by
  show (match keyOf (.str p.1), pairsOf (ps.map pairV) with | some k, some t => some ((k, p.2) :: t) | _, _ => none) = _
  rw [pairs_map ps]; rfl
theorem dSet_new {l : Tab} {k : Key} {v : V} (h : ∀ p ∈ l, p.1 ≠ k) : dSet l k v = l ++ [(k, v)] := by
 unfold dSet
 rw [if_neg]
 intro hc
 obtain ⟨p, hp, e⟩ := List.any_eq_true.mp hc
 exact h p hp (of_decide_eq_true e)
theorem merge_new : ∀ (ps qs : List (Str × V)), ((qs ++ ps).map (·.1)).Nodup → dMerge (tabP qs) (tabP ps) = tabP (qs ++ ps)
 | [], qs, _ => by rw [List.append_nil]; rfl
 | p :: ps, qs, h => by
  show dMerge (dSet (tabP qs) (.inr p.1) p.2) (tabP ps) = _
  have h' : ((qs ++ [p] ++ ps).map (·.1)).Nodup := by rw [List.append_assoc]; exact h
  rw [dSet_new (fun x hx e => ?_), show tabP qs ++ [(Sum.inr p.1, p.2)] = tabP (qs ++ [p]) by unfold tabP; rw [List.map_append]; rfl, merge_new ps (qs ++ [p]) h', List.append_assoc]
  ·rfl
  ·obtain ⟨q, hq, rfl⟩ := List.mem_map.mp hx
   rw [List.map_append, List.nodup_append] at h
   exact h.2.2 q.1 (List.mem_map.mpr ⟨q, hq, rfl⟩) p.1 (List.mem_cons_self ..) (Sum.inr.inj e)
theorem putS_fst {x : Str × V} : ∀ l : List (Str × V), (putP x l).map (·.1) = putS x.1 (l.map (·.1))
 | [] => rfl
 | y :: r => by
  unfold putP putS
  rw [List.map_cons]
  by_cases h : strLt y.1 x.1 = true
  ·rw [if_pos h]; dsimp only; rw [if_pos h, List.map_cons, putS_fst r]
  ·rw [if_neg h]; dsimp only; rw [if_neg h]; rfl
theorem sortS_fst : ∀ l : List (Str × V), (sortP l).map (·.1) = sortS (l.map (·.1))
 | [] => rfl
 | x :: r => by
  show (putP x (sortP r)).map _ = putS x.1 (sortS (r.map (·.1)))
  rw [putS_fst, sortS_fst r]
theorem dGet_tab : ∀ {ps : List (Str × V)} {p : Str × V}, (ps.map (·.1)).Nodup → p ∈ ps → dGet (tabP ps) (.inr p.1) = some p.2
 | q :: ps, p, hn, hp => by
  obtain ⟨h1, h2⟩ := List.nodup_cons.mp hn
  show (List.find? _ ((Sum.inr q.1, q.2) :: tabP ps)).map _ = _
  rcases List.mem_cons.mp hp with rfl | hp
  ·rw [List.find?_cons_of_pos (by simp)]; rfl
  ·have hne : ¬ (Sum.inr q.1 : Key) = .inr p.1 := fun e => h1 (List.mem_map.mpr ⟨p, hp, (Sum.inr.inj e).symm⟩)
   rw [List.find?_cons_of_neg (by simpa using hne)]
   exact dGet_tab h2 hp
theorem filterMap_some {α β : Type} {f : α → Option β} {g : α → β} : ∀ {l : List α}, (∀ x ∈ l, f x = some (g x)) → l.filterMap f = l.map g
 | [], _ => rfl
 | x :: l, h => by rw [List.filterMap_cons_some (h x (List.mem_cons_self ..)), filterMap_some fun y hy => h y (List.mem_cons_of_mem _ hy)]; rfl
theorem sortL_strs {ss : List Str} : sortL (ss.map V.str) = some ((sortS ss).map V.str) := by unfold sortL; rw [allStrs_map]
theorem lfin_ok {d : Nat} {σ : Store} {v f t : V} {g : Nat} {ps : List (Str × V)} (hg : σ[g]? = some (.list (ps.map pairV))) (hn : (ps.map (·.1)).Nodup) (hl : ps.length ≤ 20) : Wp (L_filled_t3 d v f (.ref g) t) σ (Gives σ (recV (sortP ps) t)) := by
 unfold L_filled_t3
 have e0 : dMerge [] (tabP ps) = tabP ps := merge_new ps [] hn
 refine Wp_step (r_dictL hg (pairs_map ps)) (Wp_step (r_listD get_new) ?_)
 rw [e0]
 have e1 : (tabP ps).map (fun p => keyV p.1) = (ps.map (·.1)).map V.str := by unfold tabP; rw [List.map_map, List.map_map]; rfl
 rw [e1]
 have hD : (σ ++ [O.dict 0 (tabP ps)] ++ [O.list ((ps.map (·.1)).map V.str)])[σ.length]? = some (.dict 0 (tabP ps)) := push_at get_new
 refine Wp_step (r_sorted get_new (by rw [List.length_map, List.length_map]; lia) sortL_strs) (Wp_step (r_src get_new) ?_)
 rw [← sortS_fst]
 have hle : Le σ (σ ++ [O.dict 0 (tabP ps)] ++ [O.list ((ps.map (·.1)).map V.str)] ++ [O.list (((sortP ps).map (·.1)).map V.str)]) := LeEx.push.new.new
 have hD2 := push_at (o' := O.list (((sortP ps).map (·.1)).map V.str)) hD
 have hS : (σ ++ [O.dict 0 (tabP ps)] ++ [O.list ((ps.map (·.1)).map V.str)] ++ [O.list (((sortP ps).map (·.1)).map V.str)])[(σ ++ [O.dict 0 (tabP ps)] ++ [O.list ((ps.map (·.1)).map V.str)]).length]? = some (.list (((sortP ps).map (·.1)).map V.str)) := get_new
 generalize (σ ++ [O.dict 0 (tabP ps)] ++ [O.list ((ps.map (·.1)).map V.str)] ++ [O.list (((sortP ps).map (·.1)).map V.str)]) = τ at hle hD2 hS
 generalize (σ ++ [O.dict 0 (tabP ps)] ++ [O.list ((ps.map (·.1)).map V.str)]).length = S at hS
 have hsl : (((sortP ps).map (·.1)).map V.str).length ≤ sizeLine := by
  rw [sortS_fst, List.length_map, show (sortS (ps.map (·.1))).length = ps.length by rw [← sortS_fst, List.length_map]; exact sortP_perm.length_eq]
  exact Nat.le_trans hl (by decide)
 refine Wp_compPure (calm d) (walks_lst fun τ' e => e ▸ hS) L_filled_c2_ok (L_filled_c2_in ..) hsl (fun loc => ∃ o, loc = [none, o, some (.ref σ.length)]) ⟨_, rfl⟩ (fun v => match v with | .str s => (dGet (tabP ps) (.inr s)).map fun x => pairV (s, x) | _ => none) (fun v loc hv hS => ?_) ?_
 ·obtain ⟨o, rfl⟩ := hS
  obtain ⟨s, hs, rfl⟩ := List.mem_map.mp hv
  obtain ⟨p, hp, rfl⟩ := List.mem_map.mp hs
  have hp := dGet_tab hn (sortP_perm.mem_iff.mp hp)
  rw [L_filled_c2_bind]
  refine ⟨_, rfl, ⟨_, rfl⟩, true, by rw [L_filled_c2_tst]; rfl, ?_⟩
  rw [if_pos rfl, L_filled_c2_elt]
  refine ⟨_, bind_ok (r_itemD hD2 rfl hp), ?_⟩
  show (dGet (tabP ps) (.inr p.1)).map _ = _
  rw [hp]; rfl
 ·have e2 : ((((sortP ps).map (·.1)).map V.str).filterMap fun v => match v with | .str s => (dGet (tabP ps) (.inr s)).map fun x => pairV (s, x) | _ => none) = (sortP ps).map pairV := by
   rw [List.map_map, List.filterMap_map]
   refine filterMap_some fun p hp => ?_
   show (dGet (tabP ps) (.inr p.1)).map _ = _
   rw [dGet_tab hn (sortP_perm.mem_iff.mp hp)]; rfl
  rw [e2]
  exact Wp_step (r_tuple get_new) (Wp_pure ⟨hle.new, rfl⟩)
theorem lfilled_ok {F : Int → Option V} {k n : Nat} {v : V} (hv : Fm 10 n v) : ∀ (d : Nat) (σ : Store), n ≤ d → Fills σ k F → AllOk F (ev2 n v) → Wp (cl03 d "_law_filled" [v, .ref k]) σ (Gives σ (wf F n v)) := by
 induction hv with
 | num =>
  intro d σ hd hk ha
  obtain ⟨d, rfl⟩ := up1 (d := d) (by assumption)
  rw [L_filled_sh]
  refine Wp_step r_item0 (Wp_step (eq_words (by decide +kernel)) (Wp_step rfl (Wp_no rfl ?_)))
  unfold L_filled_t1
  exact Wp_step r_item0 (Wp_step (eq_words (by decide +kernel)) (Wp_step rfl (Wp_yes rfl (Wp_pure ⟨.refl, rfl⟩))))
 | @blank n i hi =>
  intro d σ hd hk ha
  obtain ⟨d, rfl⟩ := up1 (d := d) (by assumption)
  obtain ⟨ver, T, e, g⟩ := hk.cell
  rw [L_filled_sh]
  refine Wp_step r_item0 (Wp_step (eq_words (by decide +kernel)) (Wp_step rfl (Wp_yes rfl (Wp_step (r_tagD e tag_get) (Wp_step r_item1 (Wp_step (r_get e rfl) (Wp_pure ⟨.refl, ?_⟩)))))))
  rw [g i]; rfl
 | @rcd n ps t hl _ hu hw hp ht ih =>
  intro d σ hd hk ha
  obtain ⟨d, rfl⟩ := up1 (d := d) (by assumption)
  obtain ⟨ha1, ha2⟩ := allOk_of ha
  rw [L_filled_sh]
  refine Wp_step r_item0 (Wp_step (eq_words (by decide +kernel)) (Wp_step rfl (Wp_no rfl ?_)))
  unfold L_filled_t1
  refine Wp_step r_item0 (Wp_step (eq_words (by decide +kernel)) (Wp_step rfl (Wp_no rfl ?_)))
  unfold L_filled_t2
  refine Wp_step r_item1 (Wp_step rfl (Wp_map (calm d) L_filled_c1_ok (L_filled_c1_in ..) (map_len (by lia)) (L_filled_c1_tst d) (fun loc => ∃ o1 o2, loc = [none, o1, o2, none, some (.ref k)]) ⟨_, _, rfl⟩ (fun x => .tup [.str (fstS x), wf F n (sndV x)]) (fun x loc τ hx hS hle => ?_) fun τ hle => ?_))
  ·obtain ⟨p, hpm, rfl⟩ := List.mem_map.mp hx
   obtain ⟨o1, o2, rfl⟩ := hS
   refine ⟨_, L_filled_c1_bind .., ⟨_, _, rfl⟩, ?_⟩
   rw [L_filled_c1_elt]
   refine (ih p hpm d τ (by lia) (hk.le hle (by simp)) (ha1 p hpm)).step fun r τ' hr => ?_
   obtain ⟨h1, rfl⟩ := hr
   exact Wp_pure ⟨h1, rfl⟩
  ·rw [map_wf, wf_rec]
   have hfin := fin_ok (F := F) (ps := wfP F n ps) (t := t) (by rw [wfP_fst]; exact up_nodup hu) (rest_fst ha2)
   have hwl : (wfP F n ps).length ≤ 10 := by unfold wfP; rw [List.length_map]; exact hl
   have h1 := hfin.len
   refine Wp_step r_item2 (rest_part (F := F) (hk.le hle.new (by simp)) get_new ht hwl (rest_fst ha2) fun g τ' hle' hg => ?_)
   exact (lfin_ok hg hfin.nodup (by lia)).mono fun r τ₁ hr => ⟨(hle.new.trans hle').trans hr.1, hr.2⟩
end Mine.Internal

set_option backward.match.sparseCases false
namespace Mine.Internal
open PySem PyProof.Rows
theorem sort_up {ps : List (Str × V)} (h : (ps.map (·.1)).Nodup) : UpP (sortP ps) := sortP_up h
theorem wf_fm {F : Int → Option V} {n : Nat} {v : V} (hv : Fm 10 n v) (ha : AllOk F (ev2 n v)) : Fm 20 (n + 12) (wf F n v) := by
 induction hv with
 | @num n => exact Fm.num (n := n + 12)
 | @blank n i hi =>
  show Fm 20 (n + 1 + 12) ((F i).getD (blankV i))
  cases e : F i with
  | none => exact Fm.blank (n := n + 12) hi
  | some x =>
   have : FillOk none x := ha (i, none) (List.mem_singleton.mpr rfl) x e
   exact Fm.up this (by lia) (by lia) (by lia)
 | @rcd n ps t hl _ hu hw hp ht ih =>
  obtain ⟨ha1, ha2⟩ := allOk_of ha
  have hfin := fin_ok (F := F) (ps := wfP F n ps) (t := t) (by rw [wfP_fst]; exact up_nodup hu) (rest_fst ha2)
  have hwl : (wfP F n ps).length = ps.length := by unfold wfP; rw [List.length_map]
  have h1 := hfin.len
  rw [wf_rec]
  have base : ∀ q ∈ wfP F n ps, wordB (.str q.1) = true ∧ Fm 20 (n + 12) q.2 := fun q hq => by
   obtain ⟨p, hpm, rfl⟩ := List.mem_map.mp hq
   exact ⟨hw p hpm, ih p hpm (ha1 p hpm)⟩
  have all : (∀ q ∈ (finQ (wfP F n ps) t (restQ F t)).1, wordB (.str q.1) = true ∧ Fm 20 (n + 12) q.2) ∧ RestOk (finQ (wfP F n ps) t (restQ F t)).2 := by
   rcases ht with rfl | ⟨i, hi, rfl⟩
   ·exact ⟨base, .inl rfl⟩
   ·unfold restQ
    dsimp only
    cases e : F i with
    | none => exact ⟨base, .inr ⟨i, hi, rfl⟩⟩
    | some x =>
     obtain ⟨qs, t', rfl, _, _, hqw, hqf, ht', _⟩ := ha2 i rfl x e
     show (∀ q ∈ wfP F n ps ++ (qs.map pairV).map (fun y => (fstS y, sndV y)), _) ∧ RestOk t'
     rw [unpair]
     refine ⟨fun q hq => ?_, ht'⟩
     rcases List.mem_append.mp hq with hq | hq
     ·exact base q hq
     ·exact ⟨hqw q hq, (hqf q hq).up (by lia) (by lia) (by lia)⟩
  exact Fm.rcd (n := n + 12) (by rw [sortP_perm.length_eq]; lia) (by lia) (sort_up hfin.nodup) (fun q hq => (all.1 q (sortP_perm.mem_iff.mp hq)).1) (fun q hq => (all.1 q (sortP_perm.mem_iff.mp hq)).2) all.2
noncomputable def dueOf (x : V) : V ⊕ Str := if 200 < kn 24 x ∨ 12 < dp 24 x then .inr sTooGreat else if goodB [] (ev2 24 x) = true then .inl x else .inr sBadFill
theorem good_look {evs : Evs} (h : goodB [] evs = true) {e : Int × Lb} (he : e ∈ evs) : look evs e.1 = some e.2 := of_decide_eq_true (List.all_eq_true.mp h e he)
theorem dGet_mem {T : Tab} {k : Key} {x : V} (h : dGet T k = some x) : ∃ p ∈ T, p.1 = k := by
 unfold dGet at h
 obtain ⟨p, hp, _⟩ := Option.map_eq_some_iff.mp h
 exact ⟨p, List.mem_of_find?_eq_some hp, of_decide_eq_true (List.find?_some (p := fun p : Key × V => decide (p.1 = k)) hp)⟩
noncomputable def BadAt (F : Int → Option V) (evs : Evs) : Prop := ∃ e ∈ evs, ∃ x, F e.1 = some x ∧ fillB e.2 x = false
structure FilledQ (σ : Store) (F : Int → Option V) (v r : V) (σ' : Store) : Prop where
 h1 : Le σ σ'
 h2 : AllOk F (ev2 12 v)
 h3 : dueOf (wf F 12 v) = .inl r
noncomputable def FilledE (σ : Store) (F : Int → Option V) (v e : V) (σ' : Store) : Prop := ∃ c, Exc c σ e σ' ∧ ((c = sBadFill ∧ BadAt F (ev2 12 v)) ∨ (AllOk F (ev2 12 v) ∧ dueOf (wf F 12 v) = .inr c))
theorem great_ok {n1 n2 : Str} {x : V} {d : Nat} {σ τ : Store} (hle : Le σ τ) (h1 : ∀ τ, Wp (cl03 d n1 [x]) τ (Gives τ (.int (kn 24 x)))) (h2 : ∀ τ, Wp (cl03 d n2 [x]) τ (Gives τ (.int (dp 24 x)))) :
  Wp (cl03 d n1 [x] >>= fun t201 => (cmp .Gt t201 (V.int 200) >>= fun t202 => (truth t202 >>= fun b203 => (M.cond b203 (pure true : M Bool) (cl03 d n2 [x] >>= fun t204 => (cmp .Gt t204 (V.int 12) >>= fun t205 => (truth t205 >>= fun b206 => (M.cond b206 (pure true : M Bool) (pure false : M Bool))))))))) τ (SaysB σ (decide (200 < kn 24 x ∨ 12 < dp 24 x))) := by
 refine (h1 τ).step fun r τ₁ hr => ?_
 obtain ⟨hle1, rfl⟩ := hr
 refine Wp_step rfl (Wp_step (a := decide (200 < kn 24 x)) rfl ?_)
 by_cases hc : 200 < kn 24 x
 ·rw [decide_eq_true hc]
  exact Wp_pure ⟨hle.trans hle1, (decide_eq_true (Or.inl hc)).symm⟩
 ·rw [decide_eq_false hc]
  refine Wp_no rfl ((h2 τ₁).step fun r τ₂ hr => ?_)
  obtain ⟨hle2, rfl⟩ := hr
  refine Wp_step rfl (Wp_step (a := decide (12 < dp 24 x)) rfl ?_)
  by_cases hc2 : 12 < dp 24 x
  ·rw [decide_eq_true hc2]
   exact Wp_pure ⟨(hle.trans hle1).trans hle2, (decide_eq_true (Or.inr hc2)).symm⟩
  ·rw [decide_eq_false hc2]
   exact Wp_pure ⟨(hle.trans hle1).trans hle2, (decide_eq_false (fun h => h.elim hc hc2)).symm⟩
theorem filled_ok {F : Int → Option V} {k d : Nat} {v : V} {σ : Store} (hv : Fm 10 12 v) (h200 : kn 12 v ≤ 200) (hg : goodB [] (ev2 12 v) = true) (hk : Fills σ k F) (hdat : ∀ i x, F i = some x → Dat σ x)
  (hx : ∀ e ∈ ev2 12 v, ∀ x, F e.1 = some x → fillB e.2 x = true → FillOk e.2 x) : Wx (cl03 (d + 40) "filled" [v, .ref k]) σ (FilledQ σ F v) (FilledE σ F v) := by
 rw [P_filled_sh]
 refine (isKind_ok (d := d + 12) hv h200 hg).stepX fun r σ₁ hr => ?_
 obtain ⟨hle1, rfl⟩ := hr
 refine Wx_step rfl ?_
 show Wx (P_filled_t1 (d + 39) v (.ref k)) σ₁ _ _
 unfold P_filled_t1
 refine Wx_step rfl ((blanks_ok (d := d + 38) hv get_new h200 (by lia)).stepX fun r σ₂ hr => ?_)
 obtain ⟨hle2, hb⟩ := hr
 rcases hb with ⟨e, _⟩ | ⟨_, j, rfl, hj0, hj, ver, T, tab⟩
 ·rw [hg] at e; cases e
 have hle : Le σ σ₂ := hle1.new.trans hle2
 have hkj : k ≠ j := fun e => by
  obtain ⟨_, _, e1, _⟩ := hk.cell
  have := lt_of_get (hle1.at e1)
  rw [List.length_append] at hj
  lia
 refine Wx_step (r_srcD tab.cell) (Wx_for (J := fun τ => τ[j]? = some (.dict ver T)) (calm _) (walks_keys fun ya h => h) (fun i loc τ => Le σ₂ τ ∧ (∃ o, loc = [some v, some (.ref k), some (.ref j), o, none, none, none, none, none, none, none, none, none, none, none, none]) ∧ ∀ p ∈ T.take i, ∀ i' L x, p.1 = .inl i' → look (ev2 12 v) i' = some L → F i' = some x → fillB L x = true) (fun i loc τ h => h.1.at tab.cell) ⟨.refl, ⟨_, rfl⟩, fun p hp => (by cases hp)⟩ (fun i y loc τ hy hp => ?_) fun loc τ hp => ?_)
 ·obtain ⟨hle3, ⟨o, rfl⟩, hall⟩ := hp
  rw [List.getElem?_map] at hy
  obtain ⟨p, hpi, rfl⟩ := Option.map_eq_some_iff.mp hy
  obtain ⟨i', L, e1, e2⟩ := tab.keys p (List.mem_of_getElem? hpi)
  obtain ⟨y, e3, e4⟩ := tab.yes i' L e2
  have e4 := enc_labV e4
  subst e4
  obtain ⟨vF, TF, eF, gF⟩ := (hk.le (hle.trans hle3) (by simp)).cell
  rw [show keyV p.1 = .int i' by rw [e1]; rfl, P_filled_l1_step]
  refine Wx_step (r_inD eF rfl) (Wx_step rfl ?_)
  rw [gF i']
  cases eX : F i' with
  | none =>
   refine .inl (Wp_pure ⟨hle3, ⟨_, rfl⟩, fun q hq i2 L2 x q1 q2 q3 => ?_⟩)
   rw [take_snoc hpi] at hq
   rcases List.mem_append.mp hq with hq | hq
   ·exact hall q hq i2 L2 x q1 q2 q3
   ·rw [List.mem_singleton.mp hq, e1] at q1
    cases q1
    rw [eX] at q3; cases q3
  | some x =>
   refine Wx_step (r_itemD eF rfl ((gF i').trans eX)) (Wx_step (r_itemD (hle3.at tab.cell) rfl e3) (Wx.step (P := fun ya τ' => Le τ τ' ∧ fillB L x = true) ?_ fun r τ₁ hr => ?_))
   ·refine (need_ok (d := d + 11) (L := L) ((hdat i' x eX).kp (hle.trans hle3).kp)).elim .inl fun ⟨e, τ', he, hE⟩ => .inr ⟨e, τ', he, sBadFill, hE.1.after (hle.trans hle3), .inl ⟨rfl, (i', L), look_mem e2, x, eX, hE.2⟩⟩
   ·refine .inl (Wp_pure ⟨hle3.trans hr.1, ⟨_, rfl⟩, fun q hq i2 L2 x2 q1 q2 q3 => ?_⟩)
    rw [take_snoc hpi] at hq
    rcases List.mem_append.mp hq with hq | hq
    ·exact hall q hq i2 L2 x2 q1 q2 q3
    ·rw [List.mem_singleton.mp hq, e1] at q1
     cases q1
     rw [eX] at q3; cases q3
     rw [e2] at q2; cases q2
     exact hr.2
 ·obtain ⟨hle3, ⟨o, rfl⟩, hall⟩ := hp
  rw [List.length_map, List.take_length] at hall
  have hA : AllOk F (ev2 12 v) := fun e he x hF => by
   have hlk := good_look hg he
   obtain ⟨y, e3, _⟩ := tab.yes e.1 e.2 hlk
   obtain ⟨p, hp, e1⟩ := dGet_mem e3
   exact hx e he x hF (hall p hp e.1 e.2 x e1 hlk hF)
  have hfm : Fm 20 24 (wf F 12 v) := wf_fm hv hA
  rw [P_filled_a1_eq]
  refine (with_ok hv (d + 39) τ (by lia) (hk.le (hle.trans hle3) (by simp)) hA).stepX fun r τ₁ hr => ?_
  obtain ⟨hle4, rfl⟩ := hr
  refine (great_ok ((hle.trans hle3).trans hle4) (fun τ => knots_ok hfm _ τ (by lia)) fun τ => depth_ok hfm _ τ (by lia)).stepX fun b τ₂ hb => ?_
  obtain ⟨hle5, rfl⟩ := hb
  by_cases hc : 200 < kn 24 (wf F 12 v) ∨ 12 < dp 24 (wf F 12 v)
  ·rw [decide_eq_true hc]
   exact Wx_raise hle5 fun e σ' he => ⟨sTooGreat, he, .inr ⟨hA, if_pos hc⟩⟩
  ·rw [decide_eq_false hc]
   show Wx (P_filled_t2 (d + 39) v (.ref k) (.ref j) o (wf F 12 v)) τ₂ _ _
   unfold P_filled_t2
   refine Wx_step rfl ((blanks_ok (d := d + 38) hfm get_new (by lia) (by lia)).stepX fun r τ₃ hr => ?_)
   obtain ⟨hle6, hb⟩ := hr
   have hle7 : Le σ τ₃ := hle5.new.trans hle6
   refine Wx_step r_isNone (Wx_step rfl ?_)
   rcases hb with ⟨hgf, rfl⟩ | ⟨hgt, j2, rfl, _⟩
   ·exact Wx_raise hle7 fun e σ' he => ⟨sBadFill, he, .inr ⟨hA, (if_neg hc).trans (if_neg (by rw [hgf]; decide))⟩⟩
   ·exact .inl (Wp_pure ⟨hle7, hA, (if_neg hc).trans (if_pos hgt)⟩)
theorem badKind_ok {k : V} {d : Nat} {σ : Store} : ∃ e σ', cl03 (d + 40) "filled" [noneV, k] σ = .exc e σ' ∧ Exc sBadKind σ e σ' := by
 obtain ⟨r, σ₁, e, hle, rfl⟩ := notKind_ok (d := d + 12) (σ := σ)
 refine ⟨.ref σ₁.length, σ₁ ++ [.exc sBadKind []], ?_, hle.new, _, rfl, get_new⟩
 rw [P_filled_sh]
 exact (bind_ok e).trans rfl
noncomputable def upB (c t : Str) : Bool := ((up03 c).getD []).contains t
noncomputable def Known (c : Str) : Prop := c = sBadFill ∨ c = sBadKind ∨ c = sTooGreat
theorem known_up {c : Str} (h : Known c) : ∃ us, up03 c = some us := by
 rcases h with rfl | rfl | rfl
 ·exact ⟨_, (by kernel_rfl : up03 sBadFill = some [Str.ofString "BadFill", Str.ofString "FieldError", Str.ofString "ValueError"])⟩
 ·exact ⟨_, (by kernel_rfl : up03 sBadKind = some [Str.ofString "BadKind", Str.ofString "FieldError", Str.ofString "ValueError"])⟩
 ·exact ⟨_, (by kernel_rfl : up03 sTooGreat = some [Str.ofString "TooGreat", Str.ofString "FieldError", Str.ofString "ValueError"])⟩
theorem r_isUp {c t : Str} {d r : Nat} {σ : Store} (h : Known c) (e : σ[r]? = some (.exc c [])) : isUp (cf03 d) t (.ref r) σ = .ok (.bool (upB c t)) σ := by
 obtain ⟨us, hu⟩ := known_up h
 refine (bind_ok (r_getO e)).trans ?_
 show ofOpt ((up03 c).map fun us => V.bool (us.contains t)) σ = _
 unfold upB
 rw [hu]; rfl
noncomputable def one (c t : Str) : Int := cond (upB c t) 1 0
noncomputable def loneB (c : Str) : Bool := one c sBadFill + one c sBadKind + one c (Str.ofString "Lacks") + one c (Str.ofString "NoDefinition") + one c (Str.ofString "NoNumber") + one c (Str.ofString "NoRecord") + one c sTooGreat == 1
theorem known_facts {c : Str} (h : Known c) : upB c (Str.ofString "FieldError") = true ∧ upB c (Str.ofString "ValueError") = true ∧ loneB c = true := by
 rcases h with rfl | rfl | rfl
 ·exact ⟨by decide +kernel, by decide +kernel, by decide +kernel⟩
 ·exact ⟨by decide +kernel, by decide +kernel, by decide +kernel⟩
 ·exact ⟨by decide +kernel, by decide +kernel, by decide +kernel⟩
theorem lone_ok {c : Str} {d r : Nat} {σ : Store} (h : Known c) (e : σ[r]? = some (.exc c [])) : Wp (cq03 (d + 1) "_law_lone" [.ref r]) σ (fun x τ => τ = σ ∧ x = .bool true) := by
 obtain ⟨_, h2, h3⟩ := known_facts h
 rw [L_lone_sh]
 refine Wp_step (r_isUp h e) (Wp_step rfl (Wp_step (r_isUp h e) (Wp_step rfl (Wp_step rfl (Wp_step (r_isUp h e) (Wp_step rfl (Wp_step rfl (Wp_step (r_isUp h e) (Wp_step rfl (Wp_step rfl (Wp_step (r_isUp h e) (Wp_step rfl (Wp_step rfl (Wp_step (r_isUp h e) (Wp_step rfl (Wp_step rfl (Wp_step (r_isUp h e) (Wp_step rfl (Wp_yes h2 (Wp_step (r_isUp h e) (Wp_step rfl (Wp_step rfl (Wp_step rfl (Wp_pure ⟨rfl, ?_⟩))))))))))))))))))))))))
 exact congrArg V.bool h3
noncomputable def Back (σ : Store) : V ⊕ Str → V → Store → Prop
 | .inl x, r, σ' => Le σ σ' ∧ r = x
 | .inr c, r, σ' => Le σ σ' ∧ ∃ j, r = .ref j ∧ σ.length ≤ j ∧ σ'[j]? = some (.list [.str c])
theorem handle_ok {c : Str} {k f : V} {d r : Nat} {σ : Store} (h : Known c) (e : σ[r]? = some (.exc c [])) : ∃ fl loc σ', L_tried_h (d + 1) k f (.ref r) σ = .ok (.ret fl, loc) σ' ∧ Back σ (.inr c) fl σ' := by
 have hw : Wp (L_tried_h (d + 1) k f (.ref r)) σ (fun x σ' => ∃ fl loc, x = (.ret fl, loc) ∧ Back σ (.inr c) fl σ') := by
  unfold L_tried_h
  refine (lone_ok h e).step fun x τ hx => ?_
  obtain ⟨rfl, rfl⟩ := hx
  refine Wp_step rfl (Wp_no rfl ?_)
  unfold L_tried_t1
  refine Wp_step (r_isUp h e) (Wp_step rfl ?_)
  rcases h with rfl | rfl | rfl
  ·refine Wp_no (by decide +kernel) ?_
   unfold L_tried_t2
   have e0 : upB sBadFill sTooGreat = false := by decide +kernel
   refine Wp_step rfl (Wp_step ((r_isUp (.inl rfl) (push_at e)).trans (by rw [e0])) (Wp_step rfl (Wp_step (r_item get_new (by decide) rfl) (Wp_step rfl (Wp_pure ⟨_, _, rfl, LeEx.push.new, _, rfl, ?_, get_new⟩)))))
   simp
  ·exact Wp_yes (by decide +kernel) (Wp_step rfl (Wp_pure ⟨_, _, rfl, .push, _, rfl, Nat.le_refl _, get_new⟩))
  ·refine Wp_no (by decide +kernel) ?_
   unfold L_tried_t2
   have e0 : upB sTooGreat sTooGreat = true := by decide +kernel
   refine Wp_step rfl (Wp_step ((r_isUp (.inr (.inr rfl)) (push_at e)).trans (by rw [e0])) (Wp_step rfl (Wp_step (r_item get_new (by decide) rfl) (Wp_step rfl (Wp_pure ⟨_, _, rfl, LeEx.push.new, _, rfl, ?_, get_new⟩)))))
   simp
 obtain ⟨x, σ', e1, fl, loc, rfl, hb⟩ := hw
 exact ⟨fl, loc, σ', e1, hb⟩
theorem Back.le {σ σ₁ σ' : Store} {o : V ⊕ Str} {r : V} (h : Le σ σ₁) (hl : σ.length ≤ σ₁.length) (b : Back σ₁ o r σ') : Back σ o r σ' := by
 cases o with
 | inl x => exact ⟨h.trans b.1, b.2⟩
 | inr c => obtain ⟨h1, j, e1, h2, e2⟩ := b; exact ⟨h.trans h1, j, e1, Nat.le_trans hl h2, e2⟩
theorem LeEx.len {X : List Nat} {σ σ' : Store} (h : Le σ σ') : σ.length ≤ σ'.length := by
 rcases Nat.lt_or_ge σ'.length σ.length with hl | hl
 ·have := h.at (List.getElem?_eq_getElem hl)
  rw [List.getElem?_eq_none (Nat.le_refl _)] at this; cases this
 ·exact hl
theorem caught {c : Str} {k f e : V} {d : Nat} {σ τ : Store} (h : Known c) (h1 : cl03 (d + 1) "filled" [k, f] σ = .exc e τ) (h2 : Exc c σ e τ) : Wp (cl03 (d + 2) "_law_tried" [k, f]) σ (Back σ (.inr c)) := by
 obtain ⟨hle, r, rfl, er⟩ := h2
 obtain ⟨fl, loc, σ', e1, hb⟩ := handle_ok (k := k) (f := f) (d := d) h er
 refine ⟨fl, σ', ?_, hb.le hle (LeEx.len (X := []) hle)⟩
 rw [L_tried_sh, tryd_eq, bind_exc h1]
 show ((excIs (cf03 (d + 1)) (Str.ofString "FieldError") (.ref r) >>= fun b => if b = true then (M.safe (L_tried_h (d + 1) k f (.ref r)) >>= fun r => (pure (r.1, dropLoc r.2) : M (Fl × Loc))) else M.bad) >>= fun x => andThen x (exs (cf03 (d + 1)) [] L_tried_F.names) >>= retK) τ = _
 obtain ⟨us, hu⟩ := known_up h
 have hx : excIs (cf03 (d + 1)) (Str.ofString "FieldError") (.ref r) τ = .ok true τ := by
  refine (bind_ok (r_getO er)).trans ?_
  show ofOpt ((up03 c).map fun us => us.contains (Str.ofString "FieldError")) τ = _
  have := (known_facts h).1
  unfold upB at this
  rw [hu] at this ⊢
  show Res.ok (us.contains _) τ = _
  rw [show us.contains (Str.ofString "FieldError") = true from this]
 have hs : M.safe (L_tried_h (d + 1) k f (.ref r)) τ = .ok (.ret fl, loc) σ' := by rw [safe_eq, e1]
 rw [M.assoc, bind_ok hx, if_pos rfl, M.assoc, bind_ok hs]
 rfl
theorem tried_ok {k f : V} {d : Nat} {σ : Store} {o : V ⊕ Str} (h : Wx (cl03 (d + 1) "filled" [k, f]) σ (fun r σ' => Le σ σ' ∧ o = .inl r) (fun e σ' => ∃ c, Known c ∧ o = .inr c ∧ Exc c σ e σ')) : Wp (cl03 (d + 2) "_law_tried" [k, f]) σ (Back σ o) := by
 rcases h with ⟨r, σ', e, hle, rfl⟩ | ⟨e, σ', h1, c, hc, rfl, hE⟩
 ·refine ⟨r, σ', ?_, hle, rfl⟩
  rw [L_tried_sh, tryd_eq, bind_ok e]; rfl
 ·exact caught hc h1 hE
end Mine.Internal

set_option backward.match.sparseCases false
namespace Mine.Internal
open PySem PyProof.Rows
structure MetQ (k lo : Nat) (pre evs : Evs) (σ : Store) (r : V) (σ' : Store) : Prop where
 h1 : LeEx [k] σ σ'
 h2 : σ.length ≤ σ'.length
 h3 : r = .bool (goodB pre evs)
 h4 : TabAt false lo σ' k (pre ++ evs)
theorem good_dec {pre : Evs} {i : Int} {L L' : Lb} (h : look (pre ++ [(i, L)]) i = some L') : goodB pre [(i, L)] = decide (L' = L) := by
 rw [good_one, h]; simp
theorem set_len {X : List Nat} {σ σ' : Store} (h : LeEx X σ σ') (hx : ∀ n ∈ X, n < σ'.length) : σ.length ≤ σ'.length := by
 rcases Nat.lt_or_ge σ'.length σ.length with hl | hl
 ·by_cases hm : σ'.length ∈ X
  ·exact absurd (hx _ hm) (Nat.lt_irrefl _)
  ·have := h _ _ hm (List.getElem?_eq_getElem hl)
   rw [List.getElem?_eq_none (Nat.le_refl _)] at this; cases this
 ·exact hl
theorem met_ok {k lo : Nat} (h0 : 0 < k) (hkl : k < lo) {w n : Nat} {v : V} (hv : Fm w n v) : ∀ (d : Nat) (pre : Evs) (σ : Store), n ≤ d → lo ≤ σ.length → TabAt false lo σ k pre → ((pre.length : Nat) : Int) + kn n v ≤ 100000 → Wp (cl03 d "_law_met" [v, .ref k]) σ (MetQ k lo pre (ev2 n v) σ) := by
 have hX : ∀ n ∈ [k], n < lo := fun n hn => by rw [List.mem_singleton.mp hn]; exact hkl
 induction hv with
 | num =>
  intro d pre σ hd hlo tab hl
  obtain ⟨d, rfl⟩ := up1 (d := d) (by assumption)
  rw [L_met_sh]
  refine Wp_step r_item0 (Wp_step (eq_words (by decide +kernel)) (Wp_step rfl (Wp_no rfl ?_)))
  unfold L_met_t1
  refine Wp_step r_item0 (Wp_step (eq_words (by decide +kernel)) (Wp_step rfl (Wp_no rfl (Wp_pure ⟨.refl, Nat.le_refl _, rfl, ?_⟩))))
  show TabAt false lo σ k (pre ++ [])
  rw [List.append_nil]; exact tab
 | @blank n i hi =>
  intro d pre σ hd hlo tab hl
  obtain ⟨d, rfl⟩ := up1 (d := d) (by assumption)
  have hl : ((pre.length : Nat) : Int) + 1 ≤ 100000 := hl
  obtain ⟨ver, T, tab⟩ := tab
  rw [L_met_sh]
  refine Wp_step r_item0 (Wp_step (eq_words (by decide +kernel)) (Wp_step rfl (Wp_yes rfl (Wp_step (r_tagD tab.cell tag_sd) (Wp_step r_item1 ((sd_ok (L := none) tab h0 hkl rfl (by lia (splits := 9))).step fun r τ hr => ?_))))))
  obtain ⟨hle, ⟨L', hL, hE⟩, tab'⟩ := hr
  refine Wp_step r_isNone (Wp_pure ⟨hle, set_len hle (fun n hn => ?_), ?_, tab'⟩)
  ·obtain ⟨_, _, t⟩ := tab'
   rw [List.mem_singleton.mp hn]; exact lt_of_get t.cell
  ·rw [enc_none hE]; exact congrArg V.bool (good_dec hL).symm
 | @rcd n ps t hlw hw100 hu hw hp ht ih =>
  have h100 := Nat.le_trans hlw hw100
  intro d pre σ hd hlo tab hl
  obtain ⟨d, rfl⟩ := up1 (d := d) (by assumption)
  have hkn : ∀ j p, ps[j]? = some p → ((evP n (ps.take j)).length : Int) + kn n p.2 ≤ kn (n + 1) (recV ps t) - 1 := fun j p hj => kn_at hp hj
  rw [L_met_sh]
  refine Wp_step r_item0 (Wp_step (eq_words (by decide +kernel)) (Wp_step rfl (Wp_no rfl ?_)))
  unfold L_met_t1
  refine Wp_step r_item0 (Wp_step (eq_words (by decide +kernel)) (Wp_step rfl (Wp_yes rfl (Wp_step r_item1 (Wp_step rfl (Wp_for (J := fun ya => True) (calm d) walks_vals (fun i loc τ => LeEx [k] σ τ ∧ σ.length ≤ τ.length ∧ (∃ o, loc = [some (recV ps t), some (.ref k), some (.bool (goodB pre (evP n (ps.take i)))), o, none, none]) ∧ TabAt false lo τ k (pre ++ evP n (ps.take i))) (fun ya yb yc yd => trivial) ⟨.refl, Nat.le_refl _, ⟨_, rfl⟩, ?_⟩ (fun i x loc τ hx hq => ?_) fun loc τ hq => ?_))))))
  ·show TabAt false lo σ k (pre ++ [])
   rw [List.append_nil]; exact tab
  ·obtain ⟨hle, hlen, ⟨o, rfl⟩, tab1⟩ := hq
   rw [List.getElem?_map] at hx
   obtain ⟨p, hpi, rfl⟩ := Option.map_eq_some_iff.mp hx
   rw [L_met_l1_step]
   have := hkn i p hpi
   refine Wp.step (P := fun r τ' => LeEx [k] τ τ' ∧ τ.length ≤ τ'.length ∧ r = .bool (goodB pre (evP n (ps.take (i + 1)))) ∧ TabAt false lo τ' k (pre ++ evP n (ps.take (i + 1)))) (Wp_step r_item1 ((ih p (List.mem_of_getElem? hpi) d _ τ (by lia) (Nat.le_trans hlo hlen) tab1 (by rw [List.length_append]; lia)).step fun r τ₁ hr => ?_)) fun r τ₁ hr => ?_
   ·obtain ⟨h1, h2, rfl, h3⟩ := hr
    rw [List.append_assoc, ← evP_take hpi] at h3
    have e : goodB pre (evP n (ps.take (i + 1))) = (goodB pre (evP n (ps.take i)) && goodB (pre ++ evP n (ps.take i)) (ev2 n p.2)) := by rw [evP_take hpi, good_append]
    rw [e]
    refine Wp_step rfl ?_
    cases goodB (pre ++ evP n (ps.take i)) (ev2 n p.2) with
    | true => exact Wp_pure ⟨h1, h2, by rw [Bool.and_true], h3⟩
    | false => exact Wp_pure ⟨h1, h2, by rw [Bool.and_false], h3⟩
   ·obtain ⟨h1, h2, rfl, h3⟩ := hr
    exact Wp_pure ⟨hle.trans h1, Nat.le_trans hlen h2, ⟨_, rfl⟩, h3⟩
  ·obtain ⟨hle, hlen, ⟨o, rfl⟩, tab1⟩ := hq
   rw [List.length_map, List.take_length] at tab1 ⊢
   rw [L_met_a1_eq, ev_rec]
   refine Wp_step r_item1 (Wp_step rfl (Wp_map (calm d) L_met_c1_ok (L_met_c1_in ..) (map_len h100) (L_met_c1_tst d) (fun loc => ∃ o, loc = [none, o]) ⟨_, rfl⟩ (fun x => .str (fstS x)) (fun x loc τ hx hS ya => ?_) fun τ₁ hle1 => ?_))
   ·obtain ⟨p, hp, rfl⟩ := List.mem_map.mp hx
    obtain ⟨o, rfl⟩ := hS
    refine ⟨_, L_met_c1_bind .., ⟨_, rfl⟩, ?_⟩
    rw [L_met_c1_elt]
    exact Wp_step r_item0 (Wp_pure ⟨.refl, rfl⟩)
   ·rw [labels_map]
    have hlen1 : τ.length ≤ τ₁.length := LeEx.len (X := []) hle1
    have tab2 := tab1.le (X := []) (hle1.new (o := .list ((ps.map (·.1)).map V.str))) (fun ya h => (nomatch h)) (by simp)
    have hle2 : LeEx [k] σ (τ₁ ++ [.list ((ps.map (·.1)).map V.str)]) := (hle.trans hle1.ex).new
    have hE : Enc false lo (τ₁ ++ [.list ((ps.map (·.1)).map V.str)]) (some (ps.map (·.1))) (.ref τ₁.length) := ⟨_, rfl, by lia, get_new⟩
    have hlen2 : σ.length ≤ (τ₁ ++ [O.list ((ps.map (·.1)).map V.str)]).length := by rw [List.length_append]; lia
    generalize (τ₁ ++ [O.list ((ps.map (·.1)).map V.str)]) = τ₂ at tab2 hle2 hE hlen2
    have h1 := sum_len n ps fun q hq => ev_len (hp q hq)
    have h2 := @kn_rec n ps t
    rcases ht with rfl | ⟨i, hi, rfl⟩
    ·refine Wp.step (P := fun b τ' => b = false ∧ τ' = τ₂) (Wp_step r_item2 (Wp_step r_notNone (Wp_pure ⟨rfl, rfl⟩))) fun b τ' hb => Wp_no hb.1 (Wp_pure ?_)
     rw [hb.2, show endE .none (ps.map (·.1)) = [] from rfl, List.append_nil]
     exact ⟨hle2, hlen2, rfl, tab2⟩
    ·obtain ⟨ver, T, tab3⟩ := tab2
     show Wp _ τ₂ (MetQ k lo pre (evP n ps ++ [(i, some (ps.map (·.1)))]) σ)
     refine Wp.step (P := fun b τ' => LeEx [k] τ₂ τ' ∧ b = !goodB (pre ++ evP n ps) [(i, some (ps.map (·.1)))] ∧ TabAt false lo τ' k (pre ++ evP n ps ++ [(i, some (ps.map (·.1)))])) (Wp_step r_item2 (Wp_step r_notNone (Wp_step rfl (Wp_yes rfl (Wp_step (r_tagD tab3.cell tag_sd) (Wp_step r_item2 ((sd_ok tab3 h0 hkl hE (by rw [List.length_append]; lia)).step fun r τ₃ hr => ?_))))))) fun b τ₃ hb => ?_
     ·obtain ⟨hle3, ⟨L', hL, hE'⟩, tab4⟩ := hr
      refine Wp_step (r_ne (enc_veq hE' (hE.le hle3 hX))) (Wp_step rfl ?_)
      rw [good_dec hL]
      cases decide (L' = some (ps.map (·.1))) with
      | true => exact Wp_pure ⟨hle3, rfl, tab4⟩
      | false => exact Wp_pure ⟨hle3, rfl, tab4⟩
     ·obtain ⟨hle3, rfl, tab4⟩ := hb
      have hlen3 : τ₂.length ≤ τ₃.length := set_len hle3 fun n hn => by
       obtain ⟨_, _, t⟩ := tab4
       rw [List.mem_singleton.mp hn]; exact lt_of_get t.cell
      rw [List.append_assoc] at tab4
      cases hgd : goodB (pre ++ evP n ps) [(i, some (ps.map (·.1)))] with
      | true =>
       refine Wp_pure ⟨hle2.trans hle3, Nat.le_trans hlen2 hlen3, ?_, tab4⟩
       rw [good_append, hgd, Bool.and_true]
      | false =>
       refine Wp_pure ⟨hle2.trans hle3, Nat.le_trans hlen2 hlen3, ?_, tab4⟩
       rw [good_append, hgd, Bool.and_false]
theorem due_ok {F : Int → Option V} {k d : Nat} {v : V} {σ : Store} (hv : Fm 10 12 v) (hk : Fills σ k F) (hA : AllOk F (ev2 12 v)) : Wp (cl03 (d + 40) "_law_due" [v, .ref k, .bool false]) σ (Back σ (dueOf (wf F 12 v))) := by
 have hpos : 0 < σ.length := by
  obtain ⟨_, _, e, _⟩ := hk.cell
  have := lt_of_get e
  lia
 rw [L_due_sh]
 refine Wp_step rfl (Wp_no rfl ?_)
 unfold L_due_t1
 have hfm : Fm 20 24 (wf F 12 v) := wf_fm hv hA
 refine (lfilled_ok hv (d + 39) σ (by lia) hk hA).step fun r σ₁ hr => ?_
 obtain ⟨hle1, rfl⟩ := hr
 refine (great_ok hle1 (fun τ => lknots_ok hfm _ τ (by lia)) fun τ => ldeep_ok hfm _ τ (by lia)).step fun b σ₂ hb => ?_
 obtain ⟨hle2, rfl⟩ := hb
 by_cases hc : 200 < kn 24 (wf F 12 v) ∨ 12 < dp 24 (wf F 12 v)
 ·rw [decide_eq_true hc, show dueOf (wf F 12 v) = .inr sTooGreat from if_pos hc]
  exact Wp_yes rfl (Wp_step rfl (Wp_pure ⟨hle2.new, _, rfl, LeEx.len (X := []) hle2, get_new⟩))
 ·rw [decide_eq_false hc, show dueOf (wf F 12 v) = _ from if_neg hc]
  refine Wp_no rfl ?_
  unfold L_due_t2
  have hl2 := LeEx.len (X := []) hle2
  have hlen : (σ₂ ++ [O.dict 0 []]).length = σ₂.length + 1 := by simp
  refine Wp_step rfl ((met_ok (k := σ₂.length) (lo := σ₂.length + 1) (by lia) (Nat.lt_succ_self _) hfm _ [] _ (by lia) (by rw [hlen]; exact Nat.le_refl _) ⟨0, [], TabE.empty get_new⟩ (by show (0 : Int) + _ ≤ _; lia)).step fun r σ₃ hr => ?_)
  obtain ⟨hle3, hl3, rfl, _⟩ := hr
  have hle4 : Le σ σ₃ := hle2.new.after hle3 fun n hn => .inr (by rw [List.mem_singleton.mp hn]; exact hl2)
  refine Wp_step rfl ?_
  cases hg : goodB [] (ev2 24 (wf F 12 v)) with
  | true => exact Wp_yes rfl (Wp_pure ⟨hle4, rfl⟩)
  | false =>
   rw [if_neg (by decide)]
   exact Wp_no rfl (Wp_step rfl (Wp_pure ⟨hle4.new, _, rfl, by lia, get_new⟩))
theorem dueOdd_ok {k v : V} {d : Nat} {σ : Store} : Wp (cl03 (d + 1) "_law_due" [v, k, .bool true]) σ (Back σ (.inr sBadFill)) := by
 rw [L_due_sh]
 exact Wp_step rfl (Wp_yes rfl (Wp_step rfl (Wp_pure ⟨.push, _, rfl, Nat.le_refl _, get_new⟩)))
end Mine.Internal

set_option backward.match.sparseCases false
namespace Mine.Internal
open PySem PyProof.Rows
structure Ga where
 (st lb mt ml lo : Nat)
 ls : List Str
 b : Int
structure GaOk (G : Ga) : Prop where
 st0 : 0 < G.st
 ml0 : 0 < G.ml
 n1 : G.st ≠ G.ml
 n2 : G.lb ≠ G.st
 n3 : G.lb ≠ G.ml
 n4 : G.mt ≠ G.st
 n5 : G.mt ≠ G.ml
 l1 : G.st < G.lo
 l2 : G.ml < G.lo
 labs : Labs G.ls
 b1 : 1 ≤ G.b
 b2 : G.b ≤ 1000000
theorem inOne {P : Nat → Prop} {a : Nat} (h : P a) : ∀ q ∈ [a], P q := fun q hq => by rw [List.mem_singleton.mp hq]; exact h
theorem inTwo {P : Nat → Prop} {a b : Nat} (h : P a) (h' : P b) : ∀ q ∈ [a, b], P q := fun q hq => (List.mem_cons.mp hq).elim (fun e => by rw [e]; exact h) (inOne h' q)
theorem not1 {x a : Nat} (h : x ≠ a) : x ∉ [a] := fun m => h (List.mem_singleton.mp m)
theorem not2 {x a b : Nat} (h : x ≠ a) (h' : x ≠ b) : x ∉ [a, b] := fun m => (List.mem_cons.mp m).elim h (not1 h')
inductive Words (σ : Store) (lo : Nat) : List Nat → List (List Str) → Prop
 | nil : Words σ lo [] []
 | cons {m : Nat} {ms : List Nat} {ws : List Str} {W : List (List Str)} (h1 : lo ≤ m) (h2 : σ[m]? = some (.list (ws.map V.str))) (h3 : Words σ lo ms W) : Words σ lo (m :: ms) (ws :: W)
section
variable {σ σ' : Store} {lo m w : Nat} {X ms : List Nat} {W : List (List Str)} {ws : List Str}
theorem Words.to (wd : Words σ lo ms W) (h : ∀ (m : Nat) (l : List V), lo ≤ m → σ[m]? = some (O.list l) → σ'[m]? = some (O.list l)) : Words σ' lo ms W := by
 induction wd with
 | nil => exact .nil
 | cons h1 h2 _ ih => exact .cons h1 (h _ _ h1 h2) ih
theorem Words.le (h : LeEx X σ σ') (hX : ∀ n ∈ X, n < lo) (wd : Words σ lo ms W) : Words σ' lo ms W := wd.to fun m ya h1 h2 => h m _ (fun hm => absurd (hX m hm) (Nat.not_lt.mpr h1)) h2
theorem Words.snoc (h1 : lo ≤ m) (h2 : σ[m]? = some (.list (ws.map V.str))) (wd : Words σ lo ms W) : Words σ lo (ms ++ [m]) (W ++ [ws]) := by
 induction wd with
 | nil => exact .cons h1 h2 .nil
 | cons a b _ ih => exact .cons a b ih
theorem Words.len (wd : Words σ lo ms W) : ms.length = W.length := by
 induction wd with
 | nil => rfl
 | cons _ _ _ ih => rw [List.length_cons, List.length_cons, ih]
theorem words_veq {σ : Store} {a b : Nat} {x y : List Str} (ha : σ[a]? = some (.list (x.map V.str))) (hb : σ[b]? = some (.list (y.map V.str))) : veq σ (.ref a) (.ref b) = some (decide (x = y)) := by
 rw [enc_veq (b := false) (lo := 0) (L := some x) (L' := some y) ⟨a, rfl, Nat.zero_le _, ha⟩ ⟨b, rfl, Nat.zero_le _, hb⟩]
 simp
theorem vin_words (hw : σ[w]? = some (.list (ws.map V.str))) (wd : Words σ lo ms W) : vin σ (.ref w) (ms.map V.ref) = some (decide (ws ∈ W)) := by
 induction wd with
 | nil => simp [vin]
 | @cons m ms x W h1 h2 h3 ih =>
  show (match veq σ (.ref m) (.ref w), vin σ (.ref w) (ms.map V.ref) with | some e, some t => some (e || t) | _, _ => none) = _
  rw [words_veq h2 hw, ih]
  show some (decide (x = ws) || decide (ws ∈ W)) = _
  by_cases h : x = ws
  ·subst h; simp
  ·have : ¬ ws = x := fun e => h e.symm
   simp [h, this]
theorem vidx_words (hw : σ[w]? = some (.list (ws.map V.str))) (wd : Words σ lo ms W) : ∀ k : Nat, ws ∈ W → ∃ i, vidx σ (.ref w) (ms.map V.ref) k = some (k + i) ∧ W[i]? = some ws := by
 induction wd with
 | nil => exact fun ya h => nomatch h
 | @cons m ms x W h1 h2 h3 ih =>
  intro k h
  have e : vidx σ (.ref w) ((m :: ms).map V.ref) k = (match veq σ (.ref m) (.ref w) with | some true => some k | some false => vidx σ (.ref w) (ms.map V.ref) (k + 1) | none => none) := rfl
  rw [words_veq h2 hw] at e
  by_cases hx : x = ws
  ·subst hx
   rw [decide_eq_true rfl] at e
   exact ⟨0, e, rfl⟩
  ·rw [decide_eq_false hx] at e
   obtain ⟨i, h4, h5⟩ := ih (k + 1) ((List.mem_cons.mp h).resolve_left fun e => hx e.symm)
   exact ⟨i + 1, by rw [e]; show vidx σ (.ref w) (ms.map V.ref) (k + 1) = _; rw [h4, Nat.add_assoc, Nat.add_comm 1], h5⟩
end
structure Gk (G : Ga) (σ : Store) (W : List (List Str)) (c : Int) : Prop where
 st : ∃ s, σ[G.st]? = some (.list [.int s, .int c])
 lb : σ[G.lb]? = some (.list (G.ls.map V.str))
 mt : σ[G.mt]? = some (.list [.int G.b, .ref G.ml])
 ml : ∃ ms : List Nat, σ[G.ml]? = some (.list (ms.map V.ref)) ∧ Words σ G.lo ms W
 nodup : W.Nodup
 len : G.lo ≤ σ.length
noncomputable def rr (c : Int) : Int := max (c - 1) 0
noncomputable def EvOk (b : Int) (W : List (List Str)) (e : Int × Lb) : Prop := (∃ j : Int, 0 ≤ j ∧ e = (b * 2 * j, none)) ∨ ∃ (i : Nat) (ws : List Str), W[i]? = some ws ∧ e = (b * (1 + 2 * (i : Int)), some ws)
noncomputable def Said (b : Int) (W : List (List Str)) (evs : Evs) : Prop := ∀ e ∈ evs, EvOk b W e
theorem Said.more {b : Int} {W E : List (List Str)} {evs : Evs} (h : Said b W evs) : Said b (W ++ E) evs := fun e he => (h e he).elim .inl fun ⟨i, ws, h1, h2⟩ => .inr ⟨i, ws, by rw [List.getElem?_append_left (lt_of_get h1)]; exact h1, h2⟩
theorem Said.append {b : Int} {W : List (List Str)} {x y : Evs} (hx : Said b W x) (hy : Said b W y) : Said b W (x ++ y) := fun e he => (List.mem_append.mp he).elim (hx e) (hy e)
structure Gone (G : Ga) (σ : Store) (W : List (List Str)) (c : Int) (σ' : Store) (W' : List (List Str)) (c' : Int) : Prop where
 le : LeEx [G.st, G.ml] σ σ'
 gk : Gk G σ' W' c'
 more : ∃ E, W' = W ++ E
 met : (W'.length : Int) - W.length ≤ rr c - rr c'
 cc : c' ≤ c
section
variable {G : Ga} {σ σ' σ'' : Store} {W W' W'' : List (List Str)} {c c' c'' : Int}
theorem Gk.to (g : Gk G σ W c) (h : ∀ (q : Nat) (l : List V), σ[q]? = some (O.list l) → σ'[q]? = some (O.list l)) (hl : σ.length ≤ σ'.length) : Gk G σ' W c := by
 obtain ⟨⟨s, e⟩, lb, mt, ⟨ms, e', w⟩, nd, len⟩ := g
 exact ⟨⟨s, h _ _ e⟩, h _ _ lb, h _ _ mt, ⟨ms, h _ _ e', w.to fun m l ya e => h m l e⟩, nd, Nat.le_trans len hl⟩
theorem Gk.le (g : Gk G σ W c) (h : Le σ σ') : Gk G σ' W c := g.to (fun q l e => h.at e) (LeEx.len (X := []) h)
theorem Gk.set (ok : GaOk G) (g : Gk G σ W c) (s' c' : Int) : Gk G (σ.set G.st (.list [.int s', .int c'])) W c' := by
 have hle : LeEx [G.st] σ (σ.set G.st (.list [.int s', .int c'])) := LeEx.refl.set (List.mem_singleton.mpr rfl)
 obtain ⟨⟨s, e⟩, lb, mt, ⟨ms, e', w⟩, nd, len⟩ := g
 exact ⟨⟨s', set_get e⟩, hle _ _ (not1 ok.n2) lb, hle _ _ (not1 ok.n4) mt, ⟨ms, hle _ _ (not1 (Ne.symm ok.n1)) e', w.le hle (inOne ok.l1)⟩, nd, by rw [len_set]; exact len⟩
theorem rr_le (h : c' ≤ c) : rr c' ≤ rr c := Int.max_le.mpr ⟨Int.le_trans (Int.sub_le_sub_right h 1) (Int.le_max_left ..), Int.le_max_right ..⟩
theorem rr_step (h : 0 < c - 1) : rr c = rr (c - 1) + 1 := by
 unfold rr
 rw [Int.max_eq_left (Int.le_of_lt h), Int.max_eq_left (Int.le_sub_one_of_lt h), Int.sub_add_cancel]
theorem Gone.refl (g : Gk G σ W c) : Gone G σ W c σ W c := ⟨.refl, g, ⟨[], (List.append_nil W).symm⟩, by lia, Int.le_refl _⟩
theorem Gone.trans (h : Gone G σ W c σ' W' c') (h' : Gone G σ' W' c' σ'' W'' c'') : Gone G σ W c σ'' W'' c'' :=
 ⟨h.le.trans h'.le, h'.gk, let ⟨E, e⟩ := h.more; let ⟨E', e'⟩ := h'.more; ⟨E ++ E', by rw [e', e, List.append_assoc]⟩, by have := h.met; have := h'.met; lia, Int.le_trans h'.cc h.cc⟩
theorem Gone.new (h : Gone G σ W c σ' W' c') {o : O} : Gone G σ W c (σ' ++ [o]) W' c' := ⟨h.le.new, h.gk.le .push, h.more, h.met, h.cc⟩
theorem Gone.old (hl : Le σ σ') (h : Gone G σ' W c σ'' W' c') : Gone G σ W c σ'' W' c' := ⟨hl.ex.trans h.le, h.gk, h.more, h.met, h.cc⟩
theorem next_gk {d : Nat} (ok : GaOk G) (g : Gk G σ W c) : Wp (cl03 (d + 1) "_law_next" [.ref G.st]) σ (fun r σ' => ∃ z, r = .int z ∧ 0 ≤ z ∧ Gone G σ W c σ' W (c - 1)) := by
 obtain ⟨s, e⟩ := g.st
 refine (next_ok e ok.st0).mono fun r σ' hr => ?_
 obtain ⟨z, s', rfl, hz, rfl⟩ := hr
 refine ⟨z, rfl, hz, LeEx.refl.set (List.mem_cons_self ..), g.set ok s' (c - 1), ⟨[], (List.append_nil W).symm⟩, ?_, by lia⟩
 have := rr_le (show c - 1 ≤ c by lia)
 lia
theorem met_gk {d w : Nat} {ws : List Str} {v1 v2 v3 v4 v5 f : V} (ok : GaOk G) (g : Gk G σ W c) (hw : σ[w]? = some (.list (ws.map V.str))) (hlo : G.lo ≤ w) (hW : W.length ≤ 1000) {T4 : M V} {Q : V → Store → Prop}
  (h4 : ∀ W' τ, (∃ E, W' = W ++ E) → W'.length ≤ W.length + 1 → LeEx [G.ml] σ τ → Gk G τ W' c → ws ∈ W' → Wp T4 τ Q) :
  Wp (item (.ref G.mt) (V.int 1) >>= fun t291 => (cmp .NotIn (.ref w) t291 >>= fun t292 => (truth t292 >>= fun b293 => (M.cond b293 (item (.ref G.mt) (V.int 1) >>= fun t294 => (askS (mtag t294 "append") >>= fun g295 => (runM g295 t294 [.ref w] >>= fun t296 => T4))) T4)))) σ Q := by
 obtain ⟨ms, e, hWd⟩ := g.ml
 refine Wp_step (r_item g.mt (by decide) rfl) (Wp_step (r_notIn e (vin_words hw hWd)) (Wp_step rfl ?_))
 by_cases hm : ws ∈ W
 ·rw [decide_eq_true hm]
  exact h4 W σ ⟨[], (List.append_nil W).symm⟩ (by lia) .refl g hm
 ·rw [decide_eq_false hm]
  have hms := hWd.len
  refine Wp_yes rfl (Wp_step (r_item g.mt (by decide) rfl) (Wp_step (r_tagL e tag_append) (Wp_step (r_append e ok.ml0 (len_ok (by rw [List.length_map]; lia))) ?_)))
  have hle : LeEx [G.ml] σ (σ.set G.ml (.list (ms.map V.ref ++ [.ref w]))) := LeEx.refl.set (List.mem_singleton.mpr rfl)
  obtain ⟨s, es⟩ := g.st
  refine h4 (W ++ [ws]) _ ⟨[ws], rfl⟩ (by rw [List.length_append]; exact Nat.le_refl _) hle ⟨⟨s, hle _ _ (not1 ok.n1) es⟩, hle _ _ (not1 ok.n3) g.lb, hle _ _ (not1 ok.n5) g.mt, ⟨ms ++ [w], ?_, (hWd.le hle (inOne ok.l2)).snoc hlo (hle _ _ (not1 (fun e => by rw [e] at hlo; exact absurd ok.l2 (Nat.not_lt.mpr hlo))) hw)⟩, ?_, by rw [len_set]; exact g.len⟩ (List.mem_append_right _ (List.mem_singleton.mpr rfl))
  ·rw [set_get e, List.map_append]; rfl
  ·exact List.nodup_append.mpr ⟨g.nodup, List.nodup_cons.mpr ⟨List.not_mem_nil, List.nodup_nil⟩, fun a ha b hb e => hm (by rw [← List.mem_singleton.mp hb, ← e]; exact ha)⟩
theorem tag_index : mtag (.ref 0) "index" [.list []] = some .index := by kernel_rfl
theorem idx_gk {w : Nat} {ws : List Str} (ok : GaOk G) (g : Gk G σ W c) (hw : σ[w]? = some (.list (ws.map V.str))) (hm : ws ∈ W) (hW : W.length ≤ 2000) {K : V → M V} {Q : V → Store → Prop} (hK : ∀ i : Nat, W[i]? = some ws → Wp (K (.int (G.b * (1 + 2 * (i : Int))))) σ Q) :
  Wp (item (.ref G.mt) (V.int 0) >>= fun t284 => (item (.ref G.mt) (V.int 1) >>= fun t285 => (askS (mtag t285 "index") >>= fun g286 => (runM g286 t285 [.ref w] >>= fun t287 => (binop .Mult (V.int 2) t287 >>= fun t288 => (binop .Add (V.int 1) t288 >>= fun t289 => (binop .Mult t284 t289 >>= K))))))) σ Q := by
 obtain ⟨ms, e, hWd⟩ := g.ml
 obtain ⟨i, h1, h2⟩ := vidx_words hw hWd 0 hm
 rw [Nat.zero_add] at h1
 have := lt_of_get h2
 have := ok.b1
 have := ok.b2
 exact Wp_step (r_item g.mt (by decide) rfl) (Wp_step (r_item g.mt (by decide) rfl) (Wp_step (r_tagL e tag_index) (Wp_step (r_index e (by rw [vin_words hw hWd, decide_eq_true hm]) h1) (Wp_step (r_mulL (by decide)) (Wp_step rfl (Wp_step (r_mulL (by unfold Small; lia)) (hK i h2)))))))
end
end Mine.Internal

set_option backward.match.sparseCases false
namespace Mine.Internal
open PySem PyProof.Rows
theorem sub_len {α : Type} [DecidableEq α] : ∀ (l m : List α), l.Nodup → (∀ x ∈ l, x ∈ m) → l.length ≤ m.length
 | [], _, _, _ => Nat.zero_le _
 | x :: l, m, hn, hs => by
  obtain ⟨h1, h2⟩ := List.nodup_cons.mp hn
  have hx := hs x (List.mem_cons_self ..)
  have := sub_len l (m.erase x) h2 fun y hy => (List.mem_erase_of_ne fun e : y = x => h1 (by rw [← e]; exact hy)).mpr (hs y (List.mem_cons_of_mem _ hy))
  rw [List.length_erase_of_mem hx] at this
  have := List.length_pos_of_mem hx
  rw [List.length_cons]
  lia
noncomputable def UpS (ws : List Str) : Prop := ws.Pairwise fun a b => strLt a b = true
theorem upS_nodup {ws : List Str} (h : UpS ws) : ws.Nodup := h.imp fun {a b} hl e => by
 rw [e] at hl
 unfold strLt at hl
 exact absurd (of_decide_eq_true hl) (List.lt_irrefl _)
theorem sort_strict {ls : List Str} (h : ls.Nodup) : UpS (sortS ls) := by
 have h1 : (sortS ls).Pairwise fun a b => strLt b a = false := sortS_rising
 have h2 := sortS_perm.nodup_iff.mpr h
 refine (h1.and h2).imp fun {a b} hab => ?_
 cases e : strLt a b with
 | true => rfl
 | false => exact absurd (strLt_anti hab.1 e) hab.2
noncomputable def keepS (p : Str → Bool) (v : V) : Option V := match v with
 | .str s => if p s = true then some v else none
 | _ => none
theorem filter_strs (p : Str → Bool) : ∀ ss : List Str, (ss.map V.str).filterMap (keepS p) = (ss.filter p).map V.str
 | [] => rfl
 | s :: r => by
  rw [List.map_cons, List.filterMap_cons]
  cases h : p s with
  | true => simp [keepS, h, filter_strs p r]
  | false => simp [keepS, h, filter_strs p r]
section
variable {G : Ga} {σ : Store} {W : List (List Str)} {c : Int}
structure Picked (ls ws : List Str) : Prop where
 up : UpS ws
 sub : ∀ s ∈ ws, s ∈ ls
theorem words_ok {d pk : Nat} {f : V → M V} {Q : V → Store → Prop} {v1 v2 v3 v4 v5 : V} {ps : List Str} (ok : GaOk G) (hlb : σ[G.lb]? = some (.list (G.ls.map V.str))) (hp3 : ps.length ≤ 3) (hp : σ[pk]? = some (.list (ps.map V.str)))
  (k : ∀ (w : Nat) (ws : List Str) (σ' : Store), Le σ σ' → σ.length ≤ w → σ'[w]? = some (.list (ws.map V.str)) → Picked G.ls ws → ws.length ≤ 3 → Wp (f (.ref w)) σ' Q) :
  Wp (bSorted (.ref G.lb) >>= fun t91 => srcV t91 >>= fun s92 => compAll (cf03 d) (cElt L_kind_c1) (cTgt L_kind_c1) (cIfs L_kind_c1) (cScope L_kind_c1) s92 L_kind_F.names [some v1, some v2, some v3, some v4, some v5, some (.ref pk), none, none, none, none, none] >>= f) σ Q := by
 have h4 := ok.labs.four
 refine Wp_step (r_sorted hlb (by rw [List.length_map]; lia) sortL_strs) (Wp_step (r_src get_new) ?_)
 have hs : (σ ++ [O.list ((sortS G.ls).map V.str)])[σ.length]? = some (.list ((sortS G.ls).map V.str)) := get_new
 have hp' := push_at (o' := O.list ((sortS G.ls).map V.str)) hp
 have hle : Le σ (σ ++ [O.list ((sortS G.ls).map V.str)]) := .push
 generalize σ ++ [O.list ((sortS G.ls).map V.str)] = τ at hs hp' hle
 have hup : UpS ((sortS G.ls).filter fun s => decide (s ∈ ps)) := (sort_strict ok.labs.nodup).filter _
 have hlen : ((sortS G.ls).filter fun s => decide (s ∈ ps)).length ≤ 3 := Nat.le_trans (sub_len _ ps (upS_nodup hup) fun x hx => by simpa using (List.mem_filter.mp hx).2) hp3
 refine Wp_compPure (calm d) (walks_lst fun τ' e => e ▸ hs) L_kind_c1_ok (L_kind_c1_in ..) (len24 (by rw [List.length_map, sortS_perm.length_eq]; lia)) (fun loc => ∃ o, loc = [none, o, some (.ref pk)]) ⟨_, rfl⟩ (keepS fun s => decide (s ∈ ps)) (fun v loc hv hS => ?_) ?_
 ·obtain ⟨o, rfl⟩ := hS
  obtain ⟨s, _, rfl⟩ := List.mem_map.mp hv
  rw [L_kind_c1_bind]
  refine ⟨_, rfl, ⟨_, rfl⟩, decide (s ∈ ps), ?_, ?_⟩
  ·rw [L_kind_c1_tst]
   exact (bind_ok (r_in hp' (vin_strs ps))).trans rfl
  ·by_cases hm : s ∈ ps
   ·rw [if_pos (decide_eq_true hm), L_kind_c1_elt]
    exact ⟨_, rfl, by simp [keepS, hm]⟩
   ·rw [if_neg (by simpa using hm)]
    simp [keepS, hm]
 ·rw [filter_strs]
  exact k τ.length _ _ hle.new (LeEx.len (X := []) hle) get_new ⟨hup, fun s hs => sortS_perm.mem_iff.mp (List.mem_filter.mp hs).1⟩ hlen
theorem lab_at {ls : List Str} (h : Labs ls) (z : Int) : ∃ s, (ls.map V.str)[(z % 4).toNat]? = some (V.str s) := by
 have := h.four
 rw [List.getElem?_map, List.getElem?_eq_getElem (by lia)]; exact ⟨_, rfl⟩
theorem cut_strs (ss : List Str) (lo hi : Option Int) : ∃ ts : List Str, cut (ss.map V.str) lo hi = ts.map V.str ∧ ts.length ≤ ss.length := by
 refine ⟨cut ss lo hi, ?_, cut_length_le _ _ _⟩
 unfold cut
 rw [List.length_map, List.map_take, List.map_drop]
theorem low_word {s : Str} (h : Word s) : wordB (.str s) = true := by
 show (lenB s && s.cps.toList.all fun c => Txt.contains letters (chr1 c)) = true
 have h1 := h.pos
 have h2 := h.len
 unfold lenB
 rw [decide_eq_true (by lia), decide_eq_true (by lia), Bool.true_and, Bool.true_and, List.all_eq_true]
 intro c hc
 have hl : ∀ j : _root_.Fin 26, Txt.contains letters (chr1 (97 + j.val)) = true := by decide +kernel
 obtain ⟨h3, h4⟩ := h.low c hc
 have h5 : c < 97 + 26 := h4
 have := hl ⟨c - 97, Nat.sub_lt_left_of_lt_add h3 h5⟩
 rw [show 97 + (⟨c - 97, Nat.sub_lt_left_of_lt_add h3 h5⟩ : _root_.Fin 26).val = c from Nat.add_sub_of_le h3] at this
 exact this
structure KindOk (b : Int) (W : List (List Str)) (n : Nat) (r : V) : Prop where
 fm : Fm 10 n r
 said : Said b W (ev2 n r)
structure FieldsOk (b : Int) (W : List (List Str)) (n : Nat) (ws : List Str) (ps : List (Str × V)) : Prop where
 fst : ps.map (·.1) = ws
 fm : ∀ p ∈ ps, Fm 10 n p.2
 said : Said b W (evP n ps)
theorem FieldsOk.snoc {b : Int} {W E : List (List Str)} {n : Nat} {ws : List Str} {ps : List (Str × V)} {s : Str} {r : V} (h : FieldsOk b W n ws ps) (k : KindOk b (W ++ E) n r) : FieldsOk b (W ++ E) n (ws ++ [s]) (ps ++ [(s, r)]) :=
 ⟨by rw [List.map_append, h.fst]; rfl, fun p hp => (List.mem_append.mp hp).elim (h.fm p) fun e => by rw [List.mem_singleton.mp e]; exact k.fm, by
  show Said b (W ++ E) ((ps ++ [(s, r)]).flatMap _)
  rw [List.flatMap_append]
  refine h.said.more.append ?_
  show Said b (W ++ E) (ev2 n r ++ [])
  rw [List.append_nil]; exact k.said⟩
theorem FieldsOk.up {b : Int} {W : List (List Str)} {n : Nat} {ls ws : List Str} {ps : List (Str × V)} (h : FieldsOk b W n ws ps) (hu : UpS ws) : UpP ps := by
 have : ((ps.map (·.1)).Pairwise fun a b => strLt a b = true) := by rw [h.fst]; exact hu
 exact List.pairwise_map.mp this
theorem FieldsOk.word {b : Int} {W : List (List Str)} {n : Nat} {ws : List Str} {ps : List (Str × V)} (h : FieldsOk b W n ws ps) (hw : ∀ s ∈ ws, wordB (.str s) = true) : ∀ p ∈ ps, wordB (.str p.1) = true := fun p hp => hw p.1 (by rw [← h.fst]; exact List.mem_map.mpr ⟨p, hp, rfl⟩)
theorem sum_snoc {n : Nat} {ps : List (Str × V)} {p : Str × V} : ((ps ++ [p]).map fun p => kn n p.2).sum = (ps.map fun p => kn n p.2).sum + kn n p.2 := by
 rw [List.map_append, List.sum_append_int]
 show _ + (kn n p.2 + 0) = _
 lia
inductive KindQ (G : Ga) (n : Nat) (σ : Store) (W : List (List Str)) (c : Int) (r : V) (σ' : Store) : Prop
 | mk (W' : _) (c' : _) (h1 : Gone G σ W c σ' W' c') (h2 : KindOk G.b W' n r) (h3 : kn n r ≤ 1 + 3 * (rr c - rr c')) : KindQ G n σ W c r σ'
theorem pick_ok {z : Int} {f : V → M V} {Q : V → Store → Prop} (ok : GaOk G) (hlb : σ[G.lb]? = some (.list (G.ls.map V.str)))
  (k : ∀ (pk : Nat) (ts : List Str) (σ' : Store), Le σ σ' → ts.length ≤ 3 → σ'[pk]? = some (.list (ts.map V.str)) → Wp (f (.ref pk)) σ' Q) :
  Wp (binop .FloorDiv (.int z) (V.int 7) >>= fun t259 => (binop .Mod t259 (V.int 4) >>= fun t260 => (item (.ref G.lb) t260 >>= fun t261 => (binop .FloorDiv (.int z) (V.int 28) >>= fun t262 => (binop .Mod t262 (V.int 4) >>= fun t263 => (item (.ref G.lb) t263 >>= fun t264 => (binop .FloorDiv (.int z) (V.int 112) >>= fun t265 => (binop .Mod t265 (V.int 4) >>= fun t266 => (item (.ref G.lb) t266 >>= fun t267 => (newO (.list [t261, t264, t267]) >>= fun t268 => (binop .FloorDiv (.int z) (V.int 448) >>= fun t269 => (binop .Mod t269 (V.int 4) >>= fun t270 => (bound V.none >>= fun i271 => bound t270 >>= fun i272 => sliceV i271 i272 t268 >>= f))))))))))))) σ Q := by
 obtain ⟨a1, ha1⟩ := lab_at ok.labs (z / 7)
 obtain ⟨a2, ha2⟩ := lab_at ok.labs (z / 28)
 obtain ⟨a3, ha3⟩ := lab_at ok.labs (z / 112)
 obtain ⟨ts, hts, hts3⟩ := cut_strs [a1, a2, a3] none (some (z / 448 % 4))
 refine Wp_step (r_div (by decide)) (Wp_step (r_mod (by decide)) (Wp_step (r_item hlb (Int.emod_nonneg _ (by decide)) ha1) (Wp_step (r_div (by decide)) (Wp_step (r_mod (by decide)) (Wp_step (r_item hlb (Int.emod_nonneg _ (by decide)) ha2) (Wp_step (r_div (by decide)) (Wp_step (r_mod (by decide)) (Wp_step (r_item hlb (Int.emod_nonneg _ (by decide)) ha3) (Wp_step rfl (Wp_step (r_div (by decide)) (Wp_step (r_mod (by decide)) (Wp_step rfl (Wp_step rfl (Wp_step (r_slice get_new) (k _ ts _ LeEx.push.new hts3 ?_)))))))))))))))
 rw [← hts]; exact get_new
inductive KI (G : Ga) (n : Nat) (σ : Store) (W : List (List Str)) (c : Int) (ws : List Str) (i : Nat) (acc : List V) (loc : Loc) (τ : Store) : Prop
 | mk (o : Option V) (W' : List (List Str)) (c' : Int) (ps : List (Str × V)) (h1 : loc = [none, o, none, some (.ref G.lb), some (.int (((n + 1 : Nat) : Int) + 1)), some (.ref G.mt), some (.ref G.st)]) (h2 : acc = ps.map pairV) (h3 : Gone G σ W c τ W' c') (h4 : FieldsOk G.b W' (n + 1) (ws.take i) ps) (h5 : (ps.map fun p => kn (n + 1) p.2).sum ≤ i + 3 * (rr c - rr c')) : KI G n σ W c ws i acc loc τ
theorem fields_ok {n d w : Nat} {ws : List Str} {v5 v6 : V} {f : V → M V} {Q : V → Store → Prop} (ok : GaOk G) (ih : ∀ (d : Nat) (σ : Store) (W : List (List Str)) (c : Int), n + 2 ≤ d → Gk G σ W c → (W.length : Int) + rr c ≤ 500 → Wp (cl03 d "_law_kind" [.ref G.st, .ref G.lb, .ref G.mt, .int ((n : Int) + 1)]) σ (KindQ G (n + 1) σ W c)) (hd : n + 2 ≤ d) (g : Gk G σ W c) (hb : (W.length : Int) + rr c ≤ 500)
  (hw : σ[w]? = some (.list (ws.map V.str))) (hwX : w ∉ [G.st, G.ml]) (hw3 : ws.length ≤ 3)
  (k : ∀ W' c' ps σ', Gone G σ W c σ' W' c' → FieldsOk G.b W' (n + 1) ws ps → (ps.map fun p => kn (n + 1) p.2).sum ≤ ws.length + 3 * (rr c - rr c') → Wp (f (.ref σ'.length)) (σ' ++ [O.list (ps.map pairV)]) Q) :
  Wp (srcV (.ref w) >>= fun s282 => (compAll (cf03 d) (cElt L_kind_c2) (cTgt L_kind_c2) (cIfs L_kind_c2) (cScope L_kind_c2) s282 L_kind_F.names [some (.ref G.st), some (.ref G.lb), some (.ref G.mt), some (.int (((n + 1 : Nat) : Int) + 1)), some v5, some v6, some (.ref w), none, none, none, none] >>= f)) σ Q := by
 refine Wp_step (r_src hw) (Wp_comp (J := fun τ' => τ'[w]? = some (.list (ws.map V.str))) (calm _) (walks_lst fun ya h => h) L_kind_c2_ok (L_kind_c2_in ..) (len24 (by rw [List.length_map]; exact Nat.le_trans hw3 (by decide))) (KI G n σ W c ws)
  (fun i acc loc τ' h => by obtain ⟨_, _, _, _, _, _, h, _, _⟩ := h; exact h.le w _ hwX hw) ⟨_, W, c, [], rfl, rfl, .refl g, ⟨rfl, fun p hp => (nomatch hp), fun e he => (nomatch he)⟩, by show (0 : Int) ≤ _; lia⟩ (fun i v acc loc τ' hv hp => ?_) fun out loc τ' hp => ?_)
 ·obtain ⟨o, W', c', ps, rfl, rfl, go2, fo, hsum⟩ := hp
  rw [List.getElem?_map] at hv
  obtain ⟨s, hsi, rfl⟩ := Option.map_eq_some_iff.mp hv
  rw [L_kind_c2_bind]
  refine Wp_pure ?_
  rw [L_kind_c2_tst]
  refine Wp_pure ?_
  rw [if_pos rfl, L_kind_c2_elt]
  refine Wp_step rfl ?_
  rw [show ((n + 1 : Nat) : Int) + 1 - 1 = (n : Int) + 1 from Int.add_sub_cancel _ _]
  refine (ih d τ' W' c' hd go2.gk (by have h3 := go2.met; lia)).step fun r τ₃ hr => Wp_pure ?_
  obtain ⟨W'', c'', go3, ko, hkn⟩ := hr
  obtain ⟨E, rfl⟩ := go3.more
  refine ⟨_, W' ++ E, c'', ps ++ [(s, r)], rfl, by rw [List.map_append]; rfl, go2.trans go3, by rw [take_snoc hsi]; exact fo.snoc ko, ?_⟩
  rw [sum_snoc]
  show _ + kn (n + 1) r ≤ ((i : Int) + 1) + _
  lia
 ·obtain ⟨_, W', c', ps, _, rfl, go2, fo, hsum⟩ := hp
  rw [List.length_map] at fo hsum
  rw [List.take_length] at fo
  exact k W' c' ps τ' go2 fo hsum
theorem kind_end {n d w : Nat} {z : Int} {ws : List Str} {ps : List (Str × V)} {v4 v6 : V} {W' : List (List Str)} {c' : Int} {σ' : Store} (ok : GaOk G) (go : Gone G σ W c σ' W' c') (fo : FieldsOk G.b W' (n + 1) ws ps) (pick : Picked G.ls ws) (hw3 : ws.length ≤ 3) (hb : (W.length : Int) + rr c ≤ 500)
  (hw : σ'[w]? = some (.list (ws.map V.str))) (hlo : G.lo ≤ w) (hm : (W'.length : Int) - W.length + 1 ≤ rr c - rr c') (hkn : 1 + (ps.map fun p => kn (n + 1) p.2).sum ≤ 1 + 3 * (rr c - rr c')) :
  Wp (L_kind_t3 d (.ref G.st) (.ref G.lb) (.ref G.mt) v4 (.int z) v6 (.ref w) (.tup (ps.map pairV))) σ' (KindQ G (n + 2) σ W c) ∧ KindQ G (n + 2) σ W c (recV ps .none) σ' := by
 have hpl : ps.length = ws.length := by rw [← fo.fst, List.length_map]
 have hps : ps.length ≤ 10 := by rw [hpl]; exact Nat.le_trans hw3 (by decide)
 have hup := fo.up (ls := G.ls) pick.up
 have hwd := fo.word fun s hs => low_word (ok.labs.word s (pick.sub s hs)).1
 have hk : ∀ t, kn (n + 2) (recV ps t) ≤ 1 + 3 * (rr c - rr c') := fun t => by rw [kn_rec]; exact hkn
 have hW : W'.length ≤ 1000 := by have : 0 ≤ rr c' := Int.le_max_right ..; lia
 refine ⟨?_, W', c', go, ⟨.rcd hps (by decide) hup hwd fo.fm (.inl rfl), by rw [ev_rec]; exact fo.said.append fun e he => nomatch he⟩, hk _⟩
 unfold L_kind_t3
 refine met_gk (v1 := .none) (v2 := .none) (v3 := .none) (v4 := .none) (v5 := .none) (f := .none) (d := 0) ok go.gk hw hlo hW fun W'' τ₅ hE hl5 hle5 g5 hm5 => ?_
 unfold L_kind_t4
 obtain ⟨E, rfl⟩ := hE
 have hX := hle5 w _ (not1 (Nat.ne_of_gt (Nat.lt_of_lt_of_le ok.l2 hlo))) hw
 refine idx_gk ok g5 hX hm5 (by lia) fun i hi => Wp_pure ⟨W' ++ E, c', ⟨go.le.trans (hle5.mono fun n hn => List.mem_cons_of_mem _ hn), g5, ?_, by lia, go.cc⟩, ⟨.rcd hps (by decide) hup hwd fo.fm (.inr ⟨_, Int.mul_nonneg (Int.le_trans (by decide) ok.b1) (by lia), rfl⟩), ?_⟩, hk _⟩
 ·obtain ⟨E', e⟩ := go.more
  exact ⟨E' ++ E, by rw [e, List.append_assoc]⟩
 ·rw [ev_rec]
  refine fo.said.more.append fun e he => ?_
  rw [List.mem_singleton.mp he, fo.fst]
  exact .inr ⟨i, ws, hi, rfl⟩
theorem kind_ok (ok : GaOk G) : ∀ (n d : Nat) (σ : Store) (W : List (List Str)) (c : Int), n + 2 ≤ d → Gk G σ W c → (W.length : Int) + rr c ≤ 500 → Wp (cl03 d "_law_kind" [.ref G.st, .ref G.lb, .ref G.mt, .int ((n : Int) + 1)]) σ (KindQ G (n + 1) σ W c) := by
 intro n
 induction n with
 | zero =>
  intro d σ W c hd g hb
  obtain ⟨d, rfl⟩ := up1 hd
  obtain ⟨d, rfl⟩ := up1 (Nat.le_of_succ_le_succ hd)
  rw [L_kind_sh]
  refine (next_gk ok g).step fun r σ₁ hr => ?_
  obtain ⟨z, rfl, hz, go⟩ := hr
  refine Wp.step (P := fun b τ => b = true ∧ τ = σ₁) (Wp_step rfl (Wp_step rfl (Wp_yes rfl (Wp_pure ⟨rfl, rfl⟩)))) fun b τ hb => Wp_yes hb.1 (Wp_pure ?_)
  rw [hb.2]
  exact ⟨W, c - 1, go, ⟨.num, fun e he => nomatch he⟩, by have := rr_le go.cc; show (1 : Int) ≤ _; lia⟩
 | succ n ih =>
  intro d σ W c hd g hb
  obtain ⟨d, rfl⟩ := up1 hd
  obtain ⟨d, rfl⟩ := up1 (Nat.le_of_succ_le_succ hd)
  rw [L_kind_sh]
  refine (next_gk ok g).step fun r σ₁ hr => ?_
  obtain ⟨z, rfl, hz, go⟩ := hr
  have hrr := rr_le go.cc
  have num : KindQ G (n + 2) σ W c (.tup [.str (Str.ofString "number")]) σ₁ := ⟨W, c - 1, go, ⟨.num, fun e he => nomatch he⟩, by show (1 : Int) ≤ _; lia⟩
  obtain ⟨s1, est⟩ := go.gk.st
  refine Wp.step (P := fun b τ => τ = σ₁ ∧ (b = false → 0 < c - 1)) (Wp_step rfl (Wp_step rfl (Wp_no (decide_eq_false (by lia)) (Wp_step (r_item est (by decide) rfl) (Wp_step rfl (Wp_step rfl (Wp_cond (fun e => Wp_pure ⟨rfl, fun h => nomatch h⟩) fun e => Wp_step (r_mod (by decide)) (Wp_step rfl (Wp_step rfl (Wp_cond (fun ya => Wp_pure ⟨rfl, fun h => nomatch h⟩) fun ya => Wp_pure ⟨rfl, fun ya => Int.not_le.mp (of_decide_eq_false e)⟩)))))))))) fun b τ hb' => ?_
  obtain ⟨rfl, hpos⟩ := hb'
  refine Wp_cond (fun ya => Wp_pure num) fun hbf => ?_
  have hr1 := rr_step (hpos hbf)
  have g1 := go.gk
  unfold L_kind_t1
  refine Wp_step (r_mod (by decide)) (Wp_step rfl (Wp_step rfl (Wp_cond (fun ya => ?_) fun ya => ?_)))
  ·have hj : 0 ≤ z / 7 % 3 := Int.emod_nonneg _ (by decide)
   have hs : Small (z / 7 % 3) := by unfold Small; lia
   refine Wp_step (r_item g1.mt (by decide) rfl) (Wp_step (r_mulR (by decide)) (Wp_step (r_div (by decide)) (Wp_step (r_mod (by decide)) (Wp_step (r_mulR hs) (Wp_pure ⟨W, c - 1, go, ⟨.blank (Int.mul_nonneg (Int.mul_nonneg (Int.le_trans (by decide) ok.b1) (by decide)) hj), fun e he => ?_⟩, by show (1 : Int) ≤ _; lia⟩)))))
   rw [List.mem_singleton.mp he]
   exact .inl ⟨z / 7 % 3, hj, rfl⟩
  ·unfold L_kind_t2
   refine pick_ok ok g1.lb fun pk ts τ₁ hle2 hts3 hpk => words_ok ok (hle2.at g1.lb) hts3 hpk fun w ws τ₂ hle3 hwl hw pick hw3 => ?_
   have hlo : G.lo ≤ w := Nat.le_trans (g1.le hle2).len hwl
   have hwX : w ∉ [G.st, G.ml] := not2 (Nat.ne_of_gt (Nat.lt_of_lt_of_le ok.l1 hlo)) (Nat.ne_of_gt (Nat.lt_of_lt_of_le ok.l2 hlo))
   refine fields_ok ok ih (Nat.le_of_succ_le_succ hd) (g1.le (hle2.trans hle3)) (by lia) hw hwX hw3 fun W' c' ps τ' go2 fo hsum => ?_
   have go3 : Gone G σ W c (τ' ++ [O.list (ps.map pairV)]) W' c' := (go.trans (Gone.old (hle2.trans hle3) go2)).new
   have fin := kind_end (d := d + 1) (z := z) (v4 := .int (((n + 1 : Nat) : Int) + 1)) (v6 := .ref pk) ok go3 fo pick hw3 hb (push_at (go2.le w _ hwX hw)) hlo (by have := go2.met; lia) (by lia)
   exact Wp_step (r_tuple get_new) (Wp_step (r_div (by decide)) (Wp_step (r_mod (by decide)) (Wp_step rfl (Wp_step rfl (Wp_cond (fun ya => Wp_pure fin.2) fun ya => fin.1)))))
end
end Mine.Internal

set_option backward.match.sparseCases false
namespace Mine.Internal
open PySem PyProof.Rows
theorem dGet_dSet {l : Tab} {k k' : Key} {v : V} : dGet (dSet l k v) k' = if k' = k then some v else dGet l k' := by
 unfold dSet
 by_cases h : (l.any fun p => decide (p.1 = k)) = true
 ·rw [if_pos h]
  unfold dGet
  induction l with
  | nil => cases h
  | cons p r ih =>
   rw [List.map_cons, List.find?_cons, List.find?_cons]
   by_cases hp : p.1 = k
   ·rw [if_pos hp]
    by_cases hk : k' = k
    ·subst hk; simp [hp]
    ·have h1 : ¬ p.1 = k' := fun e => hk (e.symm.trans hp)
     simp only [h1, decide_false, if_neg hk]
     by_cases hr : (r.any fun p => decide (p.1 = k)) = true
     ·have := ih hr; rw [if_neg hk] at this; exact this
     ·have : (r.map fun p => if p.1 = k then (p.1, v) else p) = r := by
       refine (List.map_congr_left fun q hq => ?_).trans (List.map_id _)
       rw [if_neg fun e => hr (List.any_eq_true.mpr ⟨q, hq, decide_eq_true e⟩)]; rfl
      rw [this]
   ·rw [if_neg hp]
    have hr : (r.any fun p => decide (p.1 = k)) = true := by rw [List.any_cons, decide_eq_false hp, Bool.false_or] at h; exact h
    by_cases hpk : p.1 = k'
    ·have hk : ¬ k' = k := fun e => hp (hpk.trans e)
     simp [hpk, hk]
    ·simp only [hpk, decide_false]
     exact ih hr
 ·rw [if_neg h]
  have hn : dGet l k = none := by
   unfold dGet
   rw [Option.map_eq_none_iff, List.find?_eq_none]
   intro p hp he
   exact h (List.any_eq_true.mpr ⟨p, hp, he⟩)
  exact dGet_snoc hn
theorem dSet_mem {l : Tab} {k : Key} {v : V} {p : Key × V} (h : p ∈ dSet l k v) : p ∈ l ∨ p.1 = k := by
 unfold dSet at h
 by_cases ha : l.any (fun p => decide (p.1 = k)) = true
 ·rw [if_pos ha] at h
  obtain ⟨q, hq, rfl⟩ := List.mem_map.mp h
  by_cases hk : q.1 = k
  ·rw [if_pos hk]; exact .inr hk
  ·rw [if_neg hk]; exact .inl hq
 ·rw [if_neg ha] at h
  rcases List.mem_append.mp h with h | h
  ·exact .inl h
  ·rw [List.mem_singleton.mp h]; exact .inr rfl
theorem dSet_len {l : Tab} {k : Key} {v : V} : (dSet l k v).length ≤ l.length + 1 := by
 unfold dSet
 by_cases ha : l.any (fun p => decide (p.1 = k)) = true
 ·rw [if_pos ha, List.length_map]; exact Nat.le_succ _
 ·rw [if_neg ha, List.length_append]; exact Nat.le_refl _
theorem dSet_nodup {l : Tab} {k : Key} {v : V} (h : (l.map (·.1)).Nodup) : ((dSet l k v).map (·.1)).Nodup := by
 unfold dSet
 by_cases ha : l.any (fun p => decide (p.1 = k)) = true
 ·rw [if_pos ha, List.map_map]
  have : l.map ((fun x => x.1) ∘ fun p : Key × V => if p.1 = k then (p.1, v) else p) = l.map (·.1) := List.map_congr_left fun p ya => by
   show (if p.1 = k then (p.1, v) else p).1 = p.1
   by_cases hk : p.1 = k
   ·rw [if_pos hk]
   ·rw [if_neg hk]
  rw [this]; exact h
 ·rw [if_neg ha]
  refine nodup_snoc h ?_
  unfold dGet
  rw [Option.map_eq_none_iff, List.find?_eq_none]
  intro p hp hc
  exact ha (List.any_eq_true.mpr ⟨p, hp, hc⟩)
section
variable {lo k : Nat} {σ : Store} {evs : Evs} {i : Int} {L : Lb} {x : V}
theorem put_ok (h : TabAt false lo σ k evs) (h0 : 0 < k) (hkl : k < lo) (hx : Enc false lo σ L x) (hl : look evs i = none ∨ look evs i = some L) (hlen : evs.length ≤ 100000) :
  Wp (setItem (.ref k) (.int i) x) σ (fun ya σ' => LeEx [k] σ σ' ∧ σ'.length = σ.length ∧ TabAt false lo σ' k (evs ++ [(i, L)])) := by
 obtain ⟨ver, T, t⟩ := h
 have hle : LeEx [k] σ (σ.set k (.dict (ver + 1) (dSet T (.inl i) x))) := LeEx.refl.set (List.mem_singleton.mpr rfl)
 have := t.len
 exact Wp_ok (r_setD t.cell h0 rfl (len_ok (by lia))) ⟨hle, len_set, _, _, t.put hkl hx hl dSet_len (fun p hp => dSet_mem hp) (fun j => by rw [dGet_dSet, ite_inl]) (set_get t.cell) hle (dSet_nodup t.nd)⟩
end
structure SetQ (k lo : Nat) (evs : Evs) (σ : Store) (r : V) (σ' : Store) : Prop where
 h1 : LeEx [k] σ σ'
 h2 : σ.length ≤ σ'.length
 h3 : r = .ref k
 h4 : TabAt false lo σ' k evs
theorem look_of {m : Int → Lb} {pre : Evs} {i : Int} {L : Lb} (h : ∀ e ∈ pre, m e.1 = e.2) (hm : m i = L) : look pre i = none ∨ look pre i = some L := by
 cases e : look pre i with
 | none => exact .inl rfl
 | some L' =>
  have := h _ (look_mem e)
  rw [← hm, this]; exact .inr rfl
theorem lblanks_ok {k lo : Nat} (h0 : 0 < k) (hkl : k < lo) {m : Int → Lb} {w n : Nat} {v : V} (hv : Fm w n v) : ∀ (d : Nat) (pre : Evs) (σ : Store), n ≤ d → lo ≤ σ.length → TabAt false lo σ k pre → (∀ e ∈ pre ++ ev2 n v, m e.1 = e.2) → ((pre.length : Nat) : Int) + kn n v ≤ 100000 → Wp (cl03 d "_law_blanks" [v, .ref k]) σ (SetQ k lo (pre ++ ev2 n v) σ) := by
 induction hv with
 | num =>
  intro d pre σ hd hlo tab hm hl
  obtain ⟨d, rfl⟩ := up1 (d := d) (by assumption)
  rw [L_blanks_sh]
  refine Wp_step r_item0 (Wp_step (eq_words (by decide +kernel)) (Wp_step rfl (Wp_no rfl ?_)))
  unfold L_blanks_t1
  refine Wp_step r_item0 (Wp_step (eq_words (by decide +kernel)) (Wp_step rfl (Wp_no rfl (Wp_pure ⟨.refl, Nat.le_refl _, rfl, ?_⟩))))
  show TabAt false lo σ k (pre ++ [])
  rw [List.append_nil]; exact tab
 | @blank n i hi =>
  intro d pre σ hd hlo tab hm hl
  obtain ⟨d, rfl⟩ := up1 (d := d) (by assumption)
  have hl : ((pre.length : Nat) : Int) + 1 ≤ 100000 := hl
  rw [L_blanks_sh]
  refine Wp_step r_item0 (Wp_step (eq_words (by decide +kernel)) (Wp_step rfl (Wp_yes rfl (Wp_step r_item1 ((put_ok (L := none) tab h0 hkl rfl (look_of (fun e he => hm e (List.mem_append_left _ he)) (hm (i, none) (List.mem_append_right _ (List.mem_singleton.mpr rfl)))) (by lia (splits := 9))).step fun r τ hr => ?_)))))
  obtain ⟨hle, hlen, tab'⟩ := hr
  unfold L_blanks_t1
  exact Wp_step r_item0 (Wp_step (eq_words (by decide +kernel)) (Wp_step rfl (Wp_no rfl (Wp_pure ⟨hle, Nat.le_of_eq hlen.symm, rfl, tab'⟩))))
 | @rcd n ps t hlw hw100 hu hw hp ht ih =>
  have h100 := Nat.le_trans hlw hw100
  intro d pre σ hd hlo tab hm hl
  obtain ⟨d, rfl⟩ := up1 (d := d) (by assumption)
  have hkn : ∀ j p, ps[j]? = some p → ((evP n (ps.take j)).length : Int) + kn n p.2 ≤ kn (n + 1) (recV ps t) - 1 := fun j p hj => kn_at hp hj
  rw [ev_rec] at hm ⊢
  rw [L_blanks_sh]
  refine Wp_step r_item0 (Wp_step (eq_words (by decide +kernel)) (Wp_step rfl (Wp_no rfl ?_)))
  unfold L_blanks_t1
  refine Wp_step r_item0 (Wp_step (eq_words (by decide +kernel)) (Wp_step rfl (Wp_yes rfl (Wp_step r_item1 (Wp_step rfl (Wp_for (J := fun ya => True) (calm d) walks_vals (fun i loc τ => LeEx [k] σ τ ∧ σ.length ≤ τ.length ∧ (∃ o, loc = [some (recV ps t), some (.ref k), o, none]) ∧ TabAt false lo τ k (pre ++ evP n (ps.take i))) (fun ya yb yc yd => trivial) ⟨.refl, Nat.le_refl _, ⟨_, rfl⟩, ?_⟩ (fun i x loc τ hx hq => ?_) fun loc τ hq => ?_))))))
  ·show TabAt false lo σ k (pre ++ [])
   rw [List.append_nil]; exact tab
  ·obtain ⟨hle, hlen, ⟨o, rfl⟩, tab1⟩ := hq
   rw [List.getElem?_map] at hx
   obtain ⟨p, hpi, rfl⟩ := Option.map_eq_some_iff.mp hx
   rw [L_blanks_l1_step]
   have := hkn i p hpi
   refine Wp_step r_item1 ((ih p (List.mem_of_getElem? hpi) d _ τ (by lia) (Nat.le_trans hlo hlen) tab1 (fun e he => hm e ?_) (by rw [List.length_append]; lia)).step fun r τ₁ hr => ?_)
   ·rcases List.mem_append.mp he with he | he
    ·rcases List.mem_append.mp he with he | he
     ·exact List.mem_append_left _ he
     ·obtain ⟨q, hq, he⟩ := List.mem_flatMap.mp he
      exact List.mem_append_right _ (List.mem_append_left _ (List.mem_flatMap.mpr ⟨q, List.mem_of_mem_take hq, he⟩))
    ·exact List.mem_append_right _ (List.mem_append_left _ (List.mem_flatMap.mpr ⟨p, List.mem_of_getElem? hpi, he⟩))
   ·obtain ⟨h1, h2, _, h3⟩ := hr
    rw [List.append_assoc, ← evP_take hpi] at h3
    exact Wp_pure ⟨hle.trans h1, Nat.le_trans hlen h2, ⟨_, rfl⟩, h3⟩
  ·obtain ⟨hle, hlen, ⟨o, rfl⟩, tab1⟩ := hq
   rw [List.length_map, List.take_length] at tab1
   rw [L_blanks_a1_eq]
   refine Wp_step r_item2 (Wp_step r_notNone (Wp_step rfl ?_))
   have h1 := sum_len n ps fun q hq => ev_len (hp q hq)
   have h2 := @kn_rec n ps t
   rcases ht with rfl | ⟨i, hi, rfl⟩
   ·refine Wp_no rfl (Wp_pure ?_)
    rw [show endE .none (ps.map (·.1)) = [] from rfl, List.append_nil]
    exact ⟨hle, hlen, rfl, tab1⟩
   ·refine Wp_yes rfl (Wp_step r_item1 (Wp_step rfl (Wp_map (calm d) L_blanks_c1_ok (L_blanks_c1_in ..) (map_len h100) (L_blanks_c1_tst d) (fun loc => ∃ o, loc = [none, o]) ⟨_, rfl⟩ (fun x => .str (fstS x)) (fun x loc τ hx hS ya => ?_) fun τ₁ hle1 => ?_)))
    ·obtain ⟨p, hp, rfl⟩ := List.mem_map.mp hx
     obtain ⟨o, rfl⟩ := hS
     refine ⟨_, L_blanks_c1_bind .., ⟨_, rfl⟩, ?_⟩
     rw [L_blanks_c1_elt]
     exact Wp_step r_item0 (Wp_pure ⟨.refl, rfl⟩)
    ·rw [labels_map]
     have hlen1 : τ.length ≤ τ₁.length := LeEx.len (X := []) hle1
     have tab2 := tab1.le (X := []) (hle1.new (o := .list ((ps.map (·.1)).map V.str))) (fun ya h => (nomatch h)) (by simp)
     have hE : Enc false lo (τ₁ ++ [.list ((ps.map (·.1)).map V.str)]) (some (ps.map (·.1))) (.ref τ₁.length) := ⟨_, rfl, by lia, get_new⟩
     refine Wp_step r_item2 ((put_ok tab2 h0 hkl hE (look_of (m := m) (fun e he => hm e ?_) ?_) (by rw [List.length_append]; lia)).step fun r τ₂ hr => ?_)
     ·rcases List.mem_append.mp he with he | he
      ·exact List.mem_append_left _ he
      ·exact List.mem_append_right _ (List.mem_append_left _ he)
     ·exact hm (i, some (ps.map (·.1))) (List.mem_append_right _ (List.mem_append_right _ (List.mem_singleton.mpr rfl)))
     ·obtain ⟨h3, h4, h5⟩ := hr
      refine Wp_pure ⟨((hle.trans hle1.ex).new).trans h3, ?_, rfl, ?_⟩
      ·rw [h4, List.length_append]; lia
      ·rw [← List.append_assoc]; exact h5
end Mine.Internal

set_option backward.match.sparseCases false
namespace Mine.Internal
open PySem PyProof.Rows
noncomputable abbrev sZ : Str := Str.ofString "zzzzzzzz"
noncomputable abbrev sDash : Str := Str.ofString "-"
theorem labs_z {ls : List Str} (h : Labs ls) : (ls ++ [sZ]).Nodup ∧ ∀ s ∈ ls ++ [sZ], wordB (.str s) = true := by
 have hz : sZ.length = 8 := by decide +kernel
 refine ⟨List.nodup_append.mpr ⟨h.nodup, List.nodup_cons.mpr ⟨List.not_mem_nil, List.nodup_nil⟩, fun a ha b hb e => ?_⟩, fun s hs => ?_⟩
 ·have := (h.word a ha).2
  rw [e, List.mem_singleton.mp hb, hz] at this
  exact absurd this (by decide)
 ·rcases List.mem_append.mp hs with hs | hs
  ·exact low_word (h.word s hs).1
  ·rw [List.mem_singleton.mp hs]; decide +kernel
section
variable {G : Ga} {σ : Store} {W : List (List Str)} {c : Int}
inductive FillQ (G : Ga) (σ : Store) (W : List (List Str)) (c : Int) (L : Lb) (r : V) (σ' : Store) : Prop
 | mk (W' : _) (c' : _) (h1 : LeEx [G.st, G.ml] σ σ') (h2 : Gk G σ' W' c') (h3 : (W'.length : Int) ≤ W.length + (rr c - rr c') + 1) (h4 : c' ≤ c) (h5 : FillOk L r) : FillQ G σ W c L r σ'
theorem fillRest_ok {d r w : Nat} {aws fw : List Str} {ps : List (Str × V)} {v4 : V} (ok : GaOk G) (g : Gk G σ W c) (hW : W.length ≤ 1000) (hr : σ[r]? = some (.list (aws.map V.str))) (ha : aws.length ≤ 10) (hp : ps.length ≤ 10) {Q : V → Store → Prop}
  (h : ∀ W' τ (i : Nat), LeEx [G.st, G.ml] σ τ → Gk G τ W' c → W'.length ≤ W.length + 1 → Q (.tup [.tup (ps.map pairV), .int (G.b * (1 + 2 * (i : Int)))]) τ) :
  Wp (L_fill_t2 d (.ref G.st) (.ref G.lb) (.ref G.mt) (.ref r) v4 (.tup (ps.map pairV))) σ Q := by
 unfold L_fill_t2
 have h1 : (σ ++ [O.list [V.str sDash]])[r]? = some (.list (aws.map V.str)) := push_at hr
 refine Wp_step rfl (Wp_step (r_add h1 get_new (Nat.le_of_lt (len_ok (by rw [List.length_map]; show _ + 1 ≤ _; lia)))) (Wp_step rfl ?_))
 rw [show aws.map V.str ++ [V.str sDash] = (aws ++ [sDash]).map V.str by rw [List.map_append]; rfl]
 have e1 : (σ ++ [O.list [V.str sDash]] ++ [O.list ((aws ++ [sDash]).map V.str)])[(σ ++ [O.list [V.str sDash]]).length]? = some (.list ((aws ++ [sDash]).map V.str)) := get_new
 have l1 : Le σ (σ ++ [O.list [V.str sDash]] ++ [O.list ((aws ++ [sDash]).map V.str)]) := LeEx.push.new
 generalize (σ ++ [O.list [V.str sDash]] ++ [O.list ((aws ++ [sDash]).map V.str)]) = σ₁ at e1 l1
 generalize (σ ++ [O.list [V.str sDash]]).length = q at e1
 refine Wp_map (calm d) L_fill_c3_ok (L_fill_c3_in ..) (map_len (by lia)) (L_fill_c3_tst d) (fun loc => ∃ o, loc = [none, o]) ⟨_, rfl⟩ (fun x => .str (fstS x)) (fun x loc τ hx hS ya => ?_) fun σ₂ l2 => ?_
 ·obtain ⟨p, hp, rfl⟩ := List.mem_map.mp hx
  obtain ⟨o, rfl⟩ := hS
  refine ⟨_, L_fill_c3_bind .., ⟨_, rfl⟩, ?_⟩
  rw [L_fill_c3_elt]
  exact Wp_step r_item0 (Wp_pure ⟨.refl, rfl⟩)
 ·rw [labels_map]
  have e2 := push_at (o' := O.list ((ps.map (·.1)).map V.str)) (l2.at e1)
  refine Wp_step (r_add e2 get_new (Nat.le_of_lt (len_ok (by rw [List.length_map, List.length_map, List.length_map, List.length_append]; show _ + 1 + _ ≤ _; lia)))) ?_
  rw [← List.map_append]
  have l3 : Le σ (σ₂ ++ [O.list ((ps.map (·.1)).map V.str)] ++ [O.list ((aws ++ [sDash] ++ ps.map (·.1)).map V.str)]) := ((l1.trans l2).new).new
  have e3 : (σ₂ ++ [O.list ((ps.map (·.1)).map V.str)] ++ [O.list ((aws ++ [sDash] ++ ps.map (·.1)).map V.str)])[(σ₂ ++ [O.list ((ps.map (·.1)).map V.str)]).length]? = some (.list ((aws ++ [sDash] ++ ps.map (·.1)).map V.str)) := get_new
  generalize (σ₂ ++ [O.list ((ps.map (·.1)).map V.str)] ++ [O.list ((aws ++ [sDash] ++ ps.map (·.1)).map V.str)]) = σ₃ at e3 l3
  generalize (σ₂ ++ [O.list ((ps.map (·.1)).map V.str)]).length = u at e3
  have hall : (aws ++ [sDash] ++ ps.map (·.1)).length ≤ 21 := by rw [List.length_append, List.length_append, List.length_map]; show _ + 1 + _ ≤ _; lia
  generalize aws ++ [sDash] ++ ps.map (·.1) = all at e3 hall
  refine Wp_step (r_src e3) (Wp_compPure (calm d) (walks_lst fun τ' e => e ▸ e3) L_fill_c4_ok (L_fill_c4_in ..) (len24 (by rw [List.length_map]; lia)) (fun loc => ∃ o, loc = [none, o]) ⟨_, rfl⟩ (keepS fun s => !(s == sDash)) (fun v loc hv hS => ?_) ?_)
  ·obtain ⟨o, rfl⟩ := hS
   obtain ⟨s, _, rfl⟩ := List.mem_map.mp hv
   rw [L_fill_c4_bind]
   refine ⟨_, rfl, ⟨_, rfl⟩, !(s == sDash), by rw [L_fill_c4_tst]; rfl, ?_⟩
   cases hs : !(s == sDash) with
   | true => rw [if_pos rfl, L_fill_c4_elt]; exact ⟨_, rfl, by unfold keepS; dsimp only; rw [if_pos hs]⟩
   | false => rw [if_neg (by decide)]; unfold keepS; dsimp only; rw [if_neg (by rw [hs]; decide)]
  ·rw [filter_strs fun s => !(s == sDash)]
   have hfl : (all.filter fun s => !(s == sDash)).length ≤ 21 := Nat.le_trans (List.length_filter_le ..) hall
   refine Wp_step (r_sorted get_new (by rw [List.length_map]; lia) sortL_strs) ?_
   have l4 : Le σ (σ₃ ++ [O.list ((all.filter fun s => !(s == sDash)).map V.str)] ++ [O.list ((sortS (all.filter fun s => !(s == sDash))).map V.str)]) := (l3.new).new
   have e4 : (σ₃ ++ [O.list ((all.filter fun s => !(s == sDash)).map V.str)] ++ [O.list ((sortS (all.filter fun s => !(s == sDash))).map V.str)])[(σ₃ ++ [O.list ((all.filter fun s => !(s == sDash)).map V.str)]).length]? = some (.list ((sortS (all.filter fun s => !(s == sDash))).map V.str)) := get_new
   have hlo : G.lo ≤ (σ₃ ++ [O.list ((all.filter fun s => !(s == sDash)).map V.str)]).length := Nat.le_trans (g.le l3).len (by rw [List.length_append]; exact Nat.le_add_right _ _)
   generalize (σ₃ ++ [O.list ((all.filter fun s => !(s == sDash)).map V.str)] ++ [O.list ((sortS (all.filter fun s => !(s == sDash))).map V.str)]) = σ₄ at e4 l4
   generalize (σ₃ ++ [O.list ((all.filter fun s => !(s == sDash)).map V.str)]).length = u' at e4 hlo
   refine met_gk (v1 := .none) (v2 := .none) (v3 := .none) (v4 := .none) (v5 := .none) (f := .none) (d := 0) ok (g.le l4) e4 hlo hW fun W' τ₅ hE hl5 hle5 g5 hm5 => ?_
   unfold L_fill_t3
   have hw5 := hle5 u' _ (fun hm => by rw [List.mem_singleton.mp hm] at hlo; exact absurd ok.l2 (Nat.not_lt.mpr hlo)) e4
   exact idx_gk ok g5 hw5 hm5 (by lia) fun i ya => Wp_pure (h W' τ₅ i (l4.ex.trans (hle5.mono fun n hn => List.mem_cons_of_mem _ hn)) g5 hl5)
theorem free_ok {d r : Nat} {aws : List Str} {v1 v2 v3 : V} {f : V → M V} {Q : V → Store → Prop} (ok : GaOk G) (hlb : σ[G.lb]? = some (.list (G.ls.map V.str))) (hr : σ[r]? = some (.list (aws.map V.str)))
  (k : ∀ (u : Nat) (fw : List Str) (σ' : Store), Le σ σ' → σ.length ≤ u → σ'[u]? = some (.list (fw.map V.str)) → UpS fw → (∀ s ∈ fw, s ∉ aws ∧ wordB (.str s) = true) → fw.length ≤ 5 → Wp (f (.ref u)) σ' Q) :
  Wp (newO (.list [(V.str (Str.ofString "zzzzzzzz"))]) >>= fun t372 => (binop .Add (.ref G.lb) t372 >>= fun t373 => (bSorted t373 >>= fun t374 => (srcV t374 >>= fun s375 => (compAll (cf03 d) (cElt L_fill_c1) (cTgt L_fill_c1) (cIfs L_fill_c1) (cScope L_fill_c1) s375 L_fill_F.names [some v1, some v2, some v3, some (.ref r), none, none, none, none, none, none, none] >>= f))))) σ Q := by
 obtain ⟨hnz, hwz⟩ := labs_z ok.labs
 have h4 := ok.labs.four
 have hlz : (G.ls ++ [sZ]).length = 5 := by rw [List.length_append, h4]; rfl
 refine Wp_step rfl (Wp_step (r_add (push_at hlb) get_new (Nat.le_of_lt (len_ok (by rw [List.length_map, h4]; decide)))) ?_)
 rw [show G.ls.map V.str ++ [V.str sZ] = (G.ls ++ [sZ]).map V.str by rw [List.map_append]; rfl]
 refine Wp_step (r_sorted get_new (by rw [List.length_map, hlz]; decide) sortL_strs) ?_
 have l1 : Le σ (σ ++ [O.list [V.str sZ]] ++ [O.list ((G.ls ++ [sZ]).map V.str)] ++ [O.list ((sortS (G.ls ++ [sZ])).map V.str)]) := (LeEx.push.new).new
 have e1 : (σ ++ [O.list [V.str sZ]] ++ [O.list ((G.ls ++ [sZ]).map V.str)] ++ [O.list ((sortS (G.ls ++ [sZ])).map V.str)])[(σ ++ [O.list [V.str sZ]] ++ [O.list ((G.ls ++ [sZ]).map V.str)]).length]? = some (.list ((sortS (G.ls ++ [sZ])).map V.str)) := get_new
 refine Wp_step (r_src e1) (Wp_compPure (calm _) (walks_lst fun τ' e => e ▸ e1) L_fill_c1_ok (L_fill_c1_in ..) (len24 (by rw [List.length_map, sortS_perm.length_eq, hlz]; decide)) (fun loc => ∃ o, loc = [none, o, some (.ref r)]) ⟨_, rfl⟩ (keepS fun s => !(decide (s ∈ aws))) (fun v loc hv hS => ?_) ?_)
 ·obtain ⟨o, rfl⟩ := hS
  obtain ⟨s, _, rfl⟩ := List.mem_map.mp hv
  rw [L_fill_c1_bind]
  refine ⟨_, rfl, ⟨_, rfl⟩, !(decide (s ∈ aws)), ?_, ?_⟩
  ·rw [L_fill_c1_tst]
   exact (bind_ok (r_notIn (l1.at hr) (vin_strs aws))).trans rfl
  ·cases hs : !(decide (s ∈ aws)) with
   | true => rw [if_pos rfl, L_fill_c1_elt]; exact ⟨_, rfl, by unfold keepS; dsimp only; rw [if_pos hs]⟩
   | false => rw [if_neg (by decide)]; unfold keepS; dsimp only; rw [if_neg (by rw [hs]; decide)]
 ·rw [filter_strs fun s => !(decide (s ∈ aws))]
  exact k _ _ _ (LeEx.new l1) (LeEx.len (X := []) l1) get_new ((sort_strict hnz).filter _) (fun s hs => ⟨by simpa using (List.mem_filter.mp hs).2, hwz s (sortS_perm.mem_iff.mp (List.mem_filter.mp hs).1)⟩) (Nat.le_trans (List.length_filter_le ..) (by rw [sortS_perm.length_eq, hlz]; decide))
inductive FI (G : Ga) (σ : Store) (W : List (List Str)) (c : Int) (fw : List Str) (i : Nat) (acc : List V) (loc : Loc) (τ : Store) : Prop
 | mk (o : Option V) (W' : List (List Str)) (c' : Int) (ps : List (Str × V)) (ws : List Str) (h1 : loc = [none, o, none, none, some (.ref G.lb), some (.ref G.mt), some (.ref G.st)]) (h2 : acc = ps.map pairV) (h3 : Gone G σ W c τ W' c') (h4 : FieldsOk G.b W' 2 ws ps) (h5 : ws.Sublist (fw.take i)) : FI G σ W c fw i acc loc τ
theorem lfields_ok {d u : Nat} {fw : List Str} {v4 : V} {f : V → M V} {Q : V → Store → Prop} (ok : GaOk G) (g : Gk G σ W c) (hb : (W.length : Int) + rr c ≤ 400) (hw : σ[u]? = some (.list (fw.map V.str))) (hlo : G.lo ≤ u) (hfl : fw.length ≤ 5)
  (k : ∀ W' c' ps ws σ', Gone G σ W c σ' W' c' → FieldsOk G.b W' 2 ws ps → ws.Sublist fw → Wp (f (.ref σ'.length)) (σ' ++ [O.list (ps.map pairV)]) Q) :
  Wp (srcV (.ref u) >>= fun s382 => (compAll (cf03 (d + 5)) (cElt L_fill_c2) (cTgt L_fill_c2) (cIfs L_fill_c2) (cScope L_fill_c2) s382 L_fill_F.names [some (.ref G.st), some (.ref G.lb), some (.ref G.mt), some v4, some (.ref u), none, none, none, none, none, none] >>= f)) σ Q := by
 have hX : u ∉ [G.st, G.ml] := not2 (Nat.ne_of_gt (Nat.lt_of_lt_of_le ok.l1 hlo)) (Nat.ne_of_gt (Nat.lt_of_lt_of_le ok.l2 hlo))
 refine Wp_step (r_src hw) (Wp_comp (J := fun τ' => τ'[u]? = some (.list (fw.map V.str))) (calm _) (walks_lst fun ya h => h) L_fill_c2_ok (L_fill_c2_in ..) (len24 (by rw [List.length_map]; exact Nat.le_trans hfl (by decide))) (FI G σ W c fw)
  (fun i acc loc τ' h => by obtain ⟨_, _, _, _, _, _, _, h, _, _⟩ := h; exact h.le u _ hX hw) ⟨_, W, c, [], [], rfl, rfl, .refl g, ⟨rfl, fun p hp => (nomatch hp), fun e he => (nomatch he)⟩, List.nil_sublist _⟩ (fun i v acc loc τ' hv hp => ?_) fun out loc τ' hp => ?_)
 ·obtain ⟨o, W', c', ps, ws, rfl, rfl, go2, fo, hsub⟩ := hp
  rw [List.getElem?_map] at hv
  obtain ⟨s, hsi, rfl⟩ := Option.map_eq_some_iff.mp hv
  rw [L_fill_c2_bind]
  refine Wp_pure ?_
  rw [L_fill_c2_tst]
  refine (next_gk ok go2.gk).step fun r' τ₃ hr' => ?_
  obtain ⟨z, rfl, _, go3⟩ := hr'
  have go4 := go2.trans go3
  refine Wp_step (r_mod (by decide)) (Wp_step r_eqI (Wp_step (a := ((z % 2 : Int) == 0)) rfl (Wp_pure ?_)))
  cases ((z % 2 : Int) == 0) with
  | false => exact ⟨_, W', c' - 1, ps, ws, rfl, rfl, go4, fo, by rw [take_snoc hsi]; exact hsub.trans (List.sublist_append_left ..)⟩
  | true =>
   rw [if_pos rfl, L_fill_c2_elt]
   refine (kind_ok ok 1 (d + 5) τ₃ W' (c' - 1) (Nat.le_add_left_of_le (by decide)) go4.gk (by have h3 := go4.met; lia)).step fun r'' τ₄ hr'' => Wp_pure ?_
   obtain ⟨W'', c'', go5, ko, _⟩ := hr''
   obtain ⟨E, rfl⟩ := go5.more
   exact ⟨_, W' ++ E, c'', ps ++ [(s, r'')], ws ++ [s], rfl, by rw [List.map_append]; rfl, go4.trans go5, fo.snoc ko, by rw [take_snoc hsi]; exact hsub.append (List.Sublist.refl _)⟩
 ·obtain ⟨_, W', c', ps, ws, _, rfl, go2, fo, hsub⟩ := hp
  rw [List.length_map, List.take_length] at hsub
  exact k W' c' ps ws τ' go2 fo hsub
theorem lfill_ok {d lo : Nat} {L : Lb} {x : V} (ok : GaOk G) (g : Gk G σ W c) (hb : (W.length : Int) + rr c ≤ 400) (hx : Enc false lo σ L x) (hlo : G.lo ≤ lo) (hL : ∀ aws, L = some aws → aws.length ≤ 10) : Wp (cl03 (d + 6) "_law_fill" [.ref G.st, .ref G.lb, .ref G.mt, x]) σ (FillQ G σ W c L) := by
 rw [L_fill_sh]
 cases L with
 | none =>
  cases hx
  refine Wp_step rfl (Wp_step rfl (Wp_yes rfl ((kind_ok ok 2 (d + 5) σ W c (Nat.le_add_left_of_le (by decide)) g (Int.le_trans hb (by decide))).step fun r σ' hr => Wp_pure ?_)))
  obtain ⟨W', c', go, ko, _⟩ := hr
  exact ⟨W', c', go.le, go.gk, by have := go.met; lia, go.cc, ko.fm.up (by decide) (by decide) (by decide)⟩
 | some aws =>
  obtain ⟨r, rfl, hrl, hr⟩ := hx
  have hrX : r ∉ [G.st, G.ml] := not2 (Nat.ne_of_gt (Nat.lt_of_lt_of_le ok.l1 (Nat.le_trans hlo hrl))) (Nat.ne_of_gt (Nat.lt_of_lt_of_le ok.l2 (Nat.le_trans hlo hrl)))
  refine Wp_step rfl (Wp_step rfl (Wp_no rfl ?_))
  unfold L_fill_t1
  refine free_ok ok g.lb hr fun u fw σ₂ l2 hu e2 hup hfree hfl => lfields_ok ok (g.le l2) hb e2 (Nat.le_trans g.len hu) hfl fun W' c' ps ws τ' go2 fo hsub => ?_
  have hps : ps.length ≤ 10 := by rw [show ps.length = ws.length by rw [← fo.fst, List.length_map]]; exact Nat.le_trans (Nat.le_trans hsub.length_le hfl) (by decide)
  have fin : ∀ t, RestOk t → FillOk (some aws) (.tup [.tup (ps.map pairV), t]) := fun t ht =>
   ⟨ps, t, rfl, hps, fo.up (ls := G.ls) (hup.sublist hsub), fo.word fun s hs => (hfree s (hsub.mem hs)).2, fun q hq => (fo.fm q hq).up (by decide) (by decide) (by decide), ht, fun q hq => (hfree q.1 (hsub.mem (by rw [← fo.fst]; exact List.mem_map.mpr ⟨q, hq, rfl⟩))).1⟩
  have go3 : Gone G σ W c (τ' ++ [O.list (ps.map pairV)]) W' c' := (Gone.old l2 go2).new
  refine Wp_step (r_tuple get_new) ((next_gk ok go3.gk).step fun r' τ₃ hr' => ?_)
  obtain ⟨z, rfl, _, go4⟩ := hr'
  have go5 := go3.trans go4
  have h3 := go5.met
  have h5 : 0 ≤ rr (c' - 1) := Int.le_max_right ..
  refine Wp_step (r_mod (by decide)) (Wp_step rfl (Wp_step rfl (Wp_cond (fun ya => Wp_pure ⟨W', c' - 1, go5.le, go5.gk, by lia, go5.cc, fin _ (.inl rfl)⟩) fun ya => ?_)))
  refine fillRest_ok (w := 0) (fw := []) ok go5.gk (by lia) (go5.le r _ hrX hr) (hL aws rfl) hps fun W'' τ₅ i hle g5 hl5 => ?_
  exact ⟨W'', c' - 1, go5.le.trans hle, g5, by lia, go5.cc, fin _ (.inr ⟨_, Int.mul_nonneg (Int.le_trans (by decide) ok.b1) (by lia), rfl⟩)⟩
end
end Mine.Internal

set_option backward.match.sparseCases false
namespace Mine.Internal
open PySem PyProof.Rows
noncomputable def DatL (σ : Store) : List V → Prop
 | [] => True
 | x :: l => Dat σ x ∧ DatL σ l
theorem DatL.mem {σ : Store} : ∀ {l : List V}, DatL σ l → ∀ x ∈ l, Dat σ x
 | x :: l, h, y, hy => (List.mem_cons.mp hy).elim (fun e => e ▸ h.1) fun hy => h.2.mem y hy
theorem datT {σ : Store} {l : List V} (h : DatL σ l) : Dat σ (.tup l) := .tup h.mem
noncomputable def AllOdd (L : Lb) (σ : Store) (l : List V) : Prop := ∀ y ∈ l, Dat σ y ∧ fillB L y = false
theorem AllOdd.of {L : Lb} {σ : Store} {l : List V} (h : DatL σ l) (hf : (l.all fun y => !fillB L y) = true) : AllOdd L σ l := fun y hy => ⟨h.mem y hy, by simpa using List.all_eq_true.mp hf y hy⟩
theorem AllOdd.le {L : Lb} {σ σ' : Store} {l : List V} (h : AllOdd L σ l) (hl : Kp σ σ') : AllOdd L σ' l := fun y hy => ⟨(h y hy).1.kp hl, (h y hy).2⟩
theorem AllOdd.append {L : Lb} {σ : Store} {l m : List V} (h : AllOdd L σ l) (h' : AllOdd L σ m) : AllOdd L σ (l ++ m) := fun y hy => (List.mem_append.mp hy).elim (h y) (h' y)
noncomputable abbrev pA (x : V) : V := .tup [.str (Str.ofString "a"), x]
noncomputable abbrev odd1 (r : Nat) : List V := [.none, .tup [], .tup [.str (Str.ofString "kind")], .tup [.tup [], .int 5, .int 5], .tup [pA numV, .none], .tup [.ref r, .none]]
noncomputable abbrev odd2 : List V := [.tup [.tup [.tup [.str (Str.ofString "b"), numV], pA numV], .none]]
noncomputable abbrev odd3 : List V := [.tup [.tup [.tup [.str (Str.ofString "A"), numV]], .none], .tup [.tup [pA .none], .none], .tup [.tup [], .bool true], .tup [.tup [], .int (-1)]]
noncomputable abbrev odd4 : List V := [.tup [.str (Str.ofString "number"), .int 1], .int 7, .str (Str.ofString "number")]
noncomputable abbrev odd5 : List V := [.tup [.str (Str.ofString "blank"), .int (-1)]]
theorem oddB1 (r : Nat) (L : Lb) : ((odd1 r).all fun y => !fillB L y) = true := by cases L <;> kernel_rfl
theorem oddB2 (L : Lb) : (odd2.all fun y => !fillB L y) = true := by cases L <;> kernel_rfl
theorem oddB3 (L : Lb) : (odd3.all fun y => !fillB L y) = true := by cases L <;> kernel_rfl
theorem oddB4 (L : Lb) : (odd4.all fun y => !fillB L y) = true := by cases L <;> kernel_rfl
theorem oddB5 (L : Lb) : (odd5.all fun y => !fillB L y) = true := by cases L <;> kernel_rfl
section
variable {σ : Store}
theorem dNum : Dat σ numV := datT ⟨.str _, trivial⟩
theorem dA {x : V} (h : Dat σ x) : Dat σ (pA x) := datT ⟨.str _, h, trivial⟩
theorem oddD1 {r : Nat} {l : List V} (h : σ[r]? = some (.list l)) : DatL σ (odd1 r) := ⟨.none, datT trivial, datT ⟨.str _, trivial⟩, datT ⟨datT trivial, .int _, .int _, trivial⟩, datT ⟨dA dNum, .none, trivial⟩, datT ⟨.lst h, .none, trivial⟩, trivial⟩
theorem oddD2 : DatL σ odd2 := ⟨datT ⟨datT ⟨datT ⟨.str _, dNum, trivial⟩, dA dNum, trivial⟩, .none, trivial⟩, trivial⟩
theorem oddD3 : DatL σ odd3 := ⟨datT ⟨datT ⟨datT ⟨.str _, dNum, trivial⟩, trivial⟩, .none, trivial⟩, datT ⟨datT ⟨dA .none, trivial⟩, .none, trivial⟩, datT ⟨datT trivial, .bool _, trivial⟩, datT ⟨datT trivial, .int _, trivial⟩, trivial⟩
theorem oddD4 : DatL σ odd4 := ⟨datT ⟨.str _, .int _, trivial⟩, .int _, .str _, trivial⟩
theorem oddD5 : DatL σ odd5 := ⟨datT ⟨.str _, .int _, trivial⟩, trivial⟩
end
noncomputable def OddQ (L : Lb) (σ : Store) (r : V) (σ' : Store) : Prop := Le σ σ' ∧ Dat σ' r ∧ fillB L r = false
theorem oddEnd_ok {L : Lb} {d n : Nat} {z : Int} {x y : V} {l : List V} {σ τ : Store} (hle : Le σ τ) (hn : τ[n]? = some (.list l)) (hl : l.length ≤ 100) (ho : AllOdd L τ l) : Wp (L_odd_t1 d (.int z) x y (.ref n)) τ (OddQ L σ) := by
 unfold L_odd_t1
 refine Wp_step rfl (Wp_step (r_add (push_at hn) get_new (Nat.le_of_lt (len_ok (by show _ + 1 ≤ _; lia)))) (Wp_step (r_len (push_at (push_at hn))) (Wp_step rfl ?_)))
 have hk : Kp τ (τ ++ [O.list odd5] ++ [O.list (l ++ odd5)]) := (LeEx.push.new : Le _ _).kp
 have hall : AllOdd L (τ ++ [O.list odd5] ++ [O.list (l ++ odd5)]) (l ++ odd5) := (ho.le hk).append (AllOdd.of oddD5 (oddB5 L))
 have h1 : 0 ≤ z % ((l.length : Int) + 1) := Int.emod_nonneg _ (by lia)
 have h2 : z % ((l.length : Int) + 1) < (l.length : Int) + 1 := Int.emod_lt_of_pos _ (by lia)
 have hlen : (l ++ odd5).length = l.length + 1 := by rw [List.length_append]; rfl
 have hx : (l ++ odd5)[(z % ((l.length : Int) + 1)).toNat]? = some ((l ++ odd5)[(z % ((l.length : Int) + 1)).toNat]'(by lia)) := List.getElem?_eq_getElem _
 refine Wp_step (r_mod ⟨by lia (splits := 9), by lia (splits := 9)⟩) (Wp_step (r_item get_new h1 hx) (Wp_pure ⟨(hle.new).new, hall _ (List.getElem_mem _)⟩))
theorem odd_ok {L : Lb} {d lo : Nat} {z : Int} {x : V} {σ : Store} (hx : Enc false lo σ L x) (hL : ∀ aws, L = some aws → aws.length ≤ 10) : Wp (cl03 (d + 1) "_law_odd" [.int z, x]) σ (OddQ L σ) := by
 rw [L_odd_sh]
 have add : ∀ {τ : Store} {n : Nat} {l m : List V} {f : V → M V} {Q : V → Store → Prop}, τ[n]? = some (.list l) → AllOdd L τ l → l.length + m.length ≤ 50 → DatL τ m → (m.all fun y => !fillB L y) = true → (∀ n' τ', Le τ τ' → τ.length < n' → τ'[n']? = some (.list (l ++ m)) → AllOdd L τ' (l ++ m) → Wp (f (.ref n')) τ' Q) → Wp (newO (.list m) >>= fun t => binop .Add (.ref n) t >>= f) τ Q := fun {τ n l m f Q} hn ho hl hd hb k => by
  refine Wp_step rfl (Wp_step (r_add (push_at hn) get_new (Nat.le_of_lt (len_ok (by lia)))) (k _ _ LeEx.push.new (by rw [List.length_append]; exact Nat.lt_succ_self _) get_new ?_))
  exact (ho.append (AllOdd.of hd hb)).le (LeEx.push.new : Le _ _).kp
 have hr : (σ ++ [O.list []])[σ.length]? = some (.list []) := get_new
 have h0 : Le σ (σ ++ [O.list []] ++ [O.list (odd1 σ.length)]) := LeEx.push.new
 refine Wp_step rfl (Wp_step rfl (add get_new ((AllOdd.of (oddD1 hr) (oddB1 _ L)).le (LeEx.push : Le _ _).kp) (show 6 + 1 ≤ 50 by decide) oddD2 (oddB2 L) fun n1 τ1 l1 ya e1 a1 => add e1 a1 (show 7 + 4 ≤ 50 by decide) oddD3 (oddB3 L) fun n2 τ2 l2 ya e2 a2 => add e2 a2 (show 11 + 3 ≤ 50 by decide) oddD4 (oddB4 L) fun n3 τ3 l3 hn3 e3 a3 => ?_))
 have hle : Le σ τ3 := ((h0.trans l1).trans l2).trans l3
 have hlen : (odd1 σ.length ++ odd2 ++ odd3 ++ odd4).length = 14 := rfl
 generalize (odd1 σ.length ++ odd2 ++ odd3 ++ odd4) = l at e3 a3 hlen
 cases L with
 | none =>
  cases hx
  exact Wp.step (P := fun b τ => b = false ∧ τ = τ3) (Wp_pure ⟨rfl, rfl⟩) fun b τ hb => Wp_no hb.1 (by rw [hb.2]; exact oddEnd_ok hle e3 (by lia) a3)
 | some aws =>
  obtain ⟨r, rfl, hrl, hr⟩ := hx
  have hr3 := hle.at hr
  refine Wp.step (P := fun b τ => b = !(decide (aws = [])) ∧ τ = τ3 ++ [.list []]) (Wp_step rfl (Wp_step rfl (Wp_yes rfl (Wp_step rfl (Wp_step (r_ne (words_veq (y := []) (push_at hr3) get_new)) (Wp_step rfl ?_)))))) fun b τ hb => ?_
  ·cases decide (aws = []) with
   | true => exact Wp_pure ⟨rfl, rfl⟩
   | false => exact Wp_pure ⟨rfl, rfl⟩
  ·obtain ⟨rfl, rfl⟩ := hb
   have a4 := a3.le (LeEx.push (X := []) (σ := τ3) (o := O.list [])).kp
   cases aws with
   | nil => exact Wp_no rfl (oddEnd_ok hle.new (push_at e3) (by lia) a4)
   | cons s aws =>
    have hσ3 : σ.length ≤ n3 := Nat.le_trans (LeEx.len (X := []) ((h0.trans l1).trans l2)) (Nat.le_of_lt hn3)
    refine Wp_yes rfl (Wp_step (r_tagL (push_at e3) tag_append) (Wp_step (r_item (push_at hr3) (by decide) rfl) (Wp_step (r_append (push_at e3) (by lia) (len_ok (by lia))) ?_)))
    have hset : LeEx [n3] (τ3 ++ [O.list []]) ((τ3 ++ [O.list []]).set n3 (.list (l ++ [.tup [.tup [pairV (s, numV)], .none]]))) := LeEx.refl.set (List.mem_singleton.mpr rfl)
    refine oddEnd_ok (n := n3) (hle.new.after hset fun m hm => .inr (by rw [List.mem_singleton.mp hm]; exact hσ3)) (set_get (push_at e3)) (by rw [List.length_append, hlen]; show 14 + 1 ≤ 100; decide) ?_
    have hkp : Kp (τ3 ++ [O.list []]) ((τ3 ++ [O.list []]).set n3 (.list (l ++ [.tup [.tup [pairV (s, numV)], .none]]))) := fun q m e => by
     by_cases hq : q = n3
     ·subst hq; exact ⟨_, set_get e⟩
     ·exact ⟨m, set_ne (Ne.symm hq) e⟩
    refine (a4.le hkp).append (AllOdd.of ⟨datT ⟨datT ⟨datT ⟨.str _, dNum, trivial⟩, trivial⟩, .none, trivial⟩, trivial⟩ ?_)
    show (!(rowB (formB 12) (.tup [pairV (s, numV)]) .none && ((!(decide (s ∈ s :: aws))) && true)) && true) = true
    rw [decide_eq_true (List.mem_cons_self ..)]
    simp
noncomputable def DataOk (f : Nat → Option PyData) (m : Nat) (v : V) : Prop := ∃ d, toPyT f v = some d ∧ d.depth ≤ m ∧ PyData.eqv d d = true
theorem tups_data {f : Nat → Option PyData} {m : Nat} : ∀ {l : List V}, (∀ x ∈ l, DataOk f m x) → ∃ ds, toPyTs f l = some ds ∧ PyData.depthAll ds ≤ m ∧ PyData.eqvAll ds ds = true
 | [], _ => ⟨[], rfl, by simp [PyData.depthAll], by simp [PyData.eqvAll]⟩
 | x :: l, h => by
  obtain ⟨d, h1, h2, h3⟩ := h x (List.mem_cons_self ..)
  obtain ⟨ds, h4, h5, h6⟩ := tups_data fun y hy => h y (List.mem_cons_of_mem _ hy)
  refine ⟨d :: ds, ?_, ?_, ?_⟩
  ·show (match toPyT f x, toPyTs f l with | some d, some ds => some (d :: ds) | _, _ => none) = _
   rw [h1, h4]
  ·show max d.depth (PyData.depthAll ds) ≤ m
   lia
  ·show (PyData.eqv d d && PyData.eqvAll ds ds) = true
   rw [h3, h6]; rfl
theorem tup_data {f : Nat → Option PyData} {m : Nat} {l : List V} (h : ∀ x ∈ l, DataOk f m x) : DataOk f (m + 1) (.tup l) := by
 obtain ⟨ds, h1, h2, h3⟩ := tups_data h
 refine ⟨.tuple ds, ?_, ?_, ?_⟩
 ·show (toPyTs f l).map PyData.tuple = _
  rw [h1]; rfl
 ·show PyData.depthAll ds + 1 ≤ m + 1
  lia
 ·show PyData.eqvAll ds ds = true
  exact h3
theorem str_data {f : Nat → Option PyData} {m : Nat} {s : Str} : DataOk f m (.str s) := ⟨.str s, rfl, by simp [PyData.depth], by simp [PyData.eqv]⟩
theorem int_data {f : Nat → Option PyData} {m : Nat} {i : Int} : DataOk f m (.int i) := ⟨.int i, rfl, by simp [PyData.depth], by simp [PyData.eqv]⟩
theorem none_data {f : Nat → Option PyData} {m : Nat} : DataOk f m .none := ⟨.none, rfl, by simp [PyData.depth], by simp [PyData.eqv]⟩
theorem DataOk.up {f : Nat → Option PyData} {m k : Nat} {v : V} (h : DataOk f m v) (hm : m ≤ k) : DataOk f k v := let ⟨d, h1, h2, h3⟩ := h; ⟨d, h1, Nat.le_trans h2 hm, h3⟩
theorem fm_data {w n : Nat} {v : V} (h : Fm w n v) (f : Nat → Option PyData) : DataOk f (3 * n) v := by
 induction h with
 | num => exact (tup_data (m := 0) fun x hx => by rw [List.mem_singleton.mp hx]; exact str_data).up (by lia)
 | blank _ =>
  refine (tup_data (m := 0) fun x hx => ?_).up (by lia)
  rcases List.mem_cons.mp hx with rfl | hx
  ·exact str_data
  ·rw [List.mem_singleton.mp hx]; exact int_data
 | @rcd n ps t _ _ _ _ _ ht ih =>
  refine (tup_data (m := 3 * n + 2) fun x hx => ?_).up (by lia)
  rcases List.mem_cons.mp hx with rfl | hx
  ·exact str_data
  ·rcases List.mem_cons.mp hx with rfl | hx
   ·refine tup_data (m := 3 * n + 1) fun y hy => ?_
    obtain ⟨p, hp, rfl⟩ := List.mem_map.mp hy
    refine tup_data (m := 3 * n) fun z hz => ?_
    rcases List.mem_cons.mp hz with rfl | hz
    ·exact str_data
    ·rw [List.mem_singleton.mp hz]; exact ih p hp
   ·rw [List.mem_singleton.mp hx]
    rcases ht with rfl | ⟨i, _, rfl⟩
    ·exact none_data
    ·exact int_data
theorem fm_veq {w n : Nat} {v : V} {σ : Store} (h : Fm w n v) (hn : n ≤ 60) : veq σ v v = some true := by
 obtain ⟨d, h1, h2, h3⟩ := fm_data h (toPyF σ 4)
 unfold veq
 rw [show toPy σ v = some d from h1]
 show (if min d.depth d.depth ≤ 200 then some (PyData.eqv d d) else none) = _
 rw [if_pos (by lia), h3]
end Mine.Internal

set_option backward.match.sparseCases false
namespace Mine.Internal
open PySem PyProof.Rows
theorem fold_up {agg : List Int → Int} {w n : Nat} {v : V} (h : Fm w n v) : ∀ {m : Nat}, n ≤ m → fold agg m v = fold agg n v := by
 induction h with
 | num => intro m hm; obtain ⟨m, rfl⟩ := up1 (d := m) (by assumption); rfl
 | blank _ => intro m hm; obtain ⟨m, rfl⟩ := up1 (d := m) (by assumption); rfl
 | rcd _ _ _ _ _ _ ih =>
  intro m hm
  obtain ⟨m, rfl⟩ := up1 (d := m) (by assumption)
  rw [fold_rec, fold_rec, List.map_congr_left fun p hp => ih p hp (by lia)]
theorem evP_congr {n m : Nat} : ∀ {ps : List (Str × V)}, (∀ p ∈ ps, ev2 m p.2 = ev2 n p.2) → evP m ps = evP n ps
 | [], _ => rfl
 | p :: ps, h => by
  show ev2 m p.2 ++ evP m ps = ev2 n p.2 ++ evP n ps
  rw [h p (List.mem_cons_self ..), evP_congr fun q hq => h q (List.mem_cons_of_mem _ hq)]
theorem ev_up {w n : Nat} {v : V} (h : Fm w n v) : ∀ {m : Nat}, n ≤ m → ev2 m v = ev2 n v := by
 induction h with
 | num => intro m hm; obtain ⟨m, rfl⟩ := up1 (d := m) (by assumption); rfl
 | blank _ => intro m hm; obtain ⟨m, rfl⟩ := up1 (d := m) (by assumption); rfl
 | rcd _ _ _ _ _ _ ih =>
  intro m hm
  obtain ⟨m, rfl⟩ := up1 (d := m) (by assumption)
  rw [ev_rec, ev_rec, evP_congr fun p hp => ih p hp (by lia)]
theorem foldl_max {b : Int} : ∀ {r : List Int} {x : Int}, r.foldl max x ≤ b ↔ x ≤ b ∧ ∀ y ∈ r, y ≤ b
 | [], x => ⟨fun h => ⟨h, fun y hy => (nomatch hy)⟩, fun h => h.1⟩
 | z :: r, x => by
  show r.foldl max (max x z) ≤ b ↔ _
  rw [foldl_max]
  constructor
  ·rintro ⟨h1, h2⟩
   exact ⟨by lia, fun y hy => (List.mem_cons.mp hy).elim (fun e => by rw [e]; lia) (h2 y)⟩
  ·rintro ⟨h1, h2⟩
   exact ⟨Int.max_le.mpr ⟨h1, h2 z (List.mem_cons_self ..)⟩, fun y hy => h2 y (List.mem_cons_of_mem _ hy)⟩
theorem maxOf_le {b : Int} {l : List Int} (hb : 0 ≤ b) : maxOf 0 l ≤ b ↔ ∀ y ∈ l, y ≤ b := by
 cases l with
 | nil => exact ⟨fun ya y hy => (nomatch hy), fun ya => hb⟩
 | cons x r =>
  show r.foldl max x ≤ b ↔ _
  rw [foldl_max]
  constructor
  ·rintro ⟨h1, h2⟩ y hy
   exact (List.mem_cons.mp hy).elim (fun e => e ▸ h1) (h2 y)
  ·exact fun h => ⟨h x (List.mem_cons_self ..), fun y hy => h y (List.mem_cons_of_mem _ hy)⟩
theorem dp_pos {w m : Nat} {v : V} (h : Fm w m v) : 1 ≤ dp m v := by
 induction h with
 | num => exact (by decide : (1 : Int) ≤ 1)
 | blank _ => exact (by decide : (1 : Int) ≤ 1)
 | @rcd n ps t _ _ _ _ _ _ ih =>
  have : dp (n + 1) (recV ps t) = 1 + maxOf 0 (ps.map fun p => dp n p.2) := fold_rec
  rw [this]
  cases ps with
  | nil => show (1 : Int) ≤ 1 + 0; decide
  | cons p r =>
   have h1 := ih p (List.mem_cons_self ..)
   have h2 := (foldl_max (r := r.map fun p => dp n p.2) (x := dp n p.2)).mp (Int.le_refl _)
   show 1 ≤ 1 + (r.map fun p => dp n p.2).foldl max (dp n p.2)
   lia
theorem fm_cut {w m : Nat} {v : V} (h : Fm w m v) : ∀ {n : Nat}, dp m v ≤ n → Fm w n v := by
 induction h with
 | num => intro n hn; have : (1 : Int) ≤ n := hn; obtain ⟨n, rfl⟩ := up1 (n := 0) (d := n) (by lia); exact .num
 | blank hi => intro n hn; have : (1 : Int) ≤ n := hn; obtain ⟨n, rfl⟩ := up1 (n := 0) (d := n) (by lia); exact .blank hi
 | @rcd m ps t h1 h2 h3 h4 hp h5 ih =>
  intro n hn
  have h6 := dp_pos (Fm.rcd h1 h2 h3 h4 hp h5)
  obtain ⟨n, rfl⟩ := up1 (n := 0) (d := n) (by lia)
  have e : dp (m + 1) (recV ps t) = 1 + maxOf 0 (ps.map fun p => dp m p.2) := fold_rec
  rw [e] at hn
  have hm := (maxOf_le (b := n) (by lia)).mp (by lia : maxOf 0 (ps.map fun p => dp m p.2) ≤ n)
  exact .rcd h1 h2 h3 h4 (fun p hp => ih p hp (hm _ (List.mem_map.mpr ⟨p, hp, rfl⟩))) h5
theorem form_rows {n : Nat} {ps : List (Str × V)} {t : V} (h : formB (n + 1) (recV ps t) = true) : rowsB (formB n) (Str.ofString "") (ps.map pairV) = true := by
 have h : cond (sRec == sNum) false (cond (sRec == sBlank) false (cond (sRec == sRec) ((isNoneV t || countB t) && rowsB (formB n) (Str.ofString "") (ps.map pairV)) false)) = true := h
 rw [show (sRec == sNum) = false by decide +kernel, show (sRec == sBlank) = false by decide +kernel, show (sRec == sRec) = true by decide +kernel, cond_false, cond_false, cond_true, Bool.and_eq_true] at h
 exact h.2
theorem form_dp {w m : Nat} {v : V} (h : Fm w m v) : ∀ {n : Nat}, formB n v = true → dp m v ≤ n := by
 induction h with
 | num => intro n hn; cases n with | zero => cases hn | succ n => show (1 : Int) ≤ _; lia
 | blank hi => intro n hn; cases n with | zero => cases hn | succ n => show (1 : Int) ≤ _; lia
 | @rcd m ps t _ _ _ _ _ _ ih =>
  intro n hn
  cases n with
  | zero => cases hn
  | succ n =>
   have e : dp (m + 1) (recV ps t) = 1 + maxOf 0 (ps.map fun p => dp m p.2) := fold_rec
   have := (maxOf_le (b := n) (l := ps.map fun p => dp m p.2) (by lia)).mpr fun y hy => by
    obtain ⟨p, hp, rfl⟩ := List.mem_map.mp hy
    exact ih p hp (rows_all (form_rows hn) p hp)
   rw [e]; lia
structure Ready (σ : Store) (fl : Nat) (v : V) (F : Int → Option V) (odd : Bool) : Prop where
 fm : Fm 10 12 v
 kn : kn 12 v ≤ 200
 good : goodB [] (ev2 12 v) = true
 fills : Fills σ fl F
 dat : ∀ i x, F i = some x → Dat σ x
 hx : ∀ e ∈ ev2 12 v, ∀ x, F e.1 = some x → fillB e.2 x = true → FillOk e.2 x
 odd1 : odd = true → BadAt F (ev2 12 v)
 odd0 : odd = false → AllOk F (ev2 12 v)
theorem Ready.move {σ σ' : Store} {fl fl' : Nat} {v : V} {F : Int → Option V} {odd : Bool} (h : Ready σ fl v F odd) (hf : Fills σ' fl' F) (hk : Kp σ σ') : Ready σ' fl' v F odd := ⟨h.fm, h.kn, h.good, hf, fun i x e => (h.dat i x e).kp hk, h.hx, h.odd1, h.odd0⟩
theorem Ready.le {σ σ' : Store} {fl : Nat} {v : V} {F : Int → Option V} {odd : Bool} (h : Ready σ fl v F odd) (hl : Le σ σ') : Ready σ' fl v F odd := h.move (h.fills.le hl (by simp)) hl.kp
noncomputable def outOf (v : V) (F : Int → Option V) (odd : Bool) : V ⊕ Str := cond odd (.inr sBadFill) (dueOf (wf F 12 v))
theorem due_known {x : V} {c : Str} (h : dueOf x = .inr c) : Known c := by
 unfold dueOf at h
 by_cases h1 : 200 < kn 24 x ∨ 12 < dp 24 x
 ·rw [if_pos h1] at h; cases h; exact .inr (.inr rfl)
 ·rw [if_neg h1] at h
  by_cases h2 : goodB [] (ev2 24 x) = true
  ·rw [if_pos h2] at h; cases h
  ·rw [if_neg h2] at h; cases h; exact .inl rfl
theorem due_inl {x y : V} (h : dueOf x = .inl y) : y = x := by
 unfold dueOf at h
 by_cases h1 : 200 < kn 24 x ∨ 12 < dp 24 x
 ·rw [if_pos h1] at h; cases h
 ·rw [if_neg h1] at h
  by_cases h2 : goodB [] (ev2 24 x) = true
  ·rw [if_pos h2] at h; cases h; rfl
  ·rw [if_neg h2] at h; cases h
theorem all_bad {F : Int → Option V} {evs : Evs} (h : AllOk F evs) (hb : BadAt F evs) : False := by
 obtain ⟨e, he, x, h1, h2⟩ := hb
 rw [fill_ok (h e he x h1)] at h2; cases h2
section
variable {σ : Store} {fl d : Nat} {v : V} {F : Int → Option V} {odd : Bool}
theorem out_fm (h : Ready σ fl v F odd) {x : V} (e : outOf v F odd = .inl x) : Fm 20 24 x := by
 cases odd with
 | true => cases e
 | false => rw [due_inl e]; exact wf_fm h.fm (h.odd0 rfl)
theorem tried_ready (h : Ready σ fl v F odd) : Wp (cl03 (d + 41) "_law_tried" [v, .ref fl]) σ (Back σ (outOf v F odd)) := by
 refine tried_ok (d := d + 39) ?_
 rcases filled_ok (d := d) h.fm h.kn h.good h.fills h.dat h.hx with ⟨r, σ', e, hle, hA, hD⟩ | ⟨e, σ', he, c, hE, hc⟩
 ·cases odd with
  | true => exact (all_bad hA (h.odd1 rfl)).elim
  | false => exact .inl ⟨r, σ', e, hle, hD⟩
 ·refine .inr ⟨e, σ', he, c, ?_⟩
  rcases hc with ⟨rfl, hB⟩ | ⟨hA, hD⟩
  ·cases odd with
   | true => exact ⟨.inl rfl, rfl, hE⟩
   | false => exact (all_bad (h.odd0 rfl) hB).elim
  ·cases odd with
   | true => exact (all_bad hA (h.odd1 rfl)).elim
   | false => exact ⟨due_known hD, hD, hE⟩
theorem due_ready (h : Ready σ fl v F odd) : Wp (cl03 (d + 40) "_law_due" [v, .ref fl, .bool odd]) σ (Back σ (outOf v F odd)) := by
 cases odd with
 | true => exact dueOdd_ok
 | false => exact due_ok h.fm h.fills (h.odd0 rfl)
end
noncomputable def Held (lo : Nat) (σ : Store) : V ⊕ Str → V → Prop
 | .inl x, r => r = x
 | .inr c, r => ∃ j, r = .ref j ∧ lo ≤ j ∧ σ[j]? = some (.list [.str c])
theorem Back.held {σ σ' : Store} {o : V ⊕ Str} {r : V} (h : Back σ o r σ') : Le σ σ' ∧ Held σ.length σ' o r := by
 cases o with
 | inl x => exact ⟨h.1, h.2⟩
 | inr c => exact ⟨h.1, h.2⟩
theorem Held.le {lo lo' : Nat} {σ σ' : Store} {o : V ⊕ Str} {r : V} {X : List Nat} (h : Held lo σ o r) (hl : LeEx X σ σ') (hX : ∀ n ∈ X, n < lo) (hlo : lo' ≤ lo) : Held lo' σ' o r := by
 cases o with
 | inl x => exact h
 | inr c =>
  obtain ⟨j, e, hj, g⟩ := h
  exact ⟨j, e, Nat.le_trans hlo hj, hl j _ (fun hm => absurd (hX j hm) (Nat.not_lt.mpr hj)) g⟩
theorem held_veq {lo lo' : Nat} {σ : Store} {o : V ⊕ Str} {r r' : V} (h : Held lo σ o r) (h' : Held lo' σ o r') (hf : ∀ x, o = .inl x → Fm 20 24 x) : veq σ r r' = some true ∧ ∃ b, isKd .list r σ = .ok (.bool b) σ ∧ isKd .list r' σ = .ok (.bool b) σ := by
 cases o with
 | inl x =>
  cases h; cases h'
  have hx := hf r rfl
  refine ⟨fm_veq hx (by decide), false, ?_⟩
  cases hx <;> exact ⟨rfl, rfl⟩
 | inr c =>
  obtain ⟨j, rfl, _, g⟩ := h
  obtain ⟨j', rfl, _, g'⟩ := h'
  refine ⟨?_, true, r_kdRef g, r_kdRef g'⟩
  rw [words_veq (x := [c]) (y := [c]) g g']; simp
theorem tag_clear : mtag (.ref 0) "clear" [.dict 0 []] = some .clear := by kernel_rfl
theorem r_clear {k d : Nat} {t : Tab} {σ : Store} (h : σ[k]? = some (.dict d t)) (hk : 0 < k) : runM .clear (.ref k) [] σ = .ok .none (σ.set k (.dict (d + 1) [])) :=
 (bind_ok (r_getDict h)).trans (bind_ok (putD_ok hk h))
noncomputable abbrev True' (σ₀ : Store) (r : V) (σ' : Store) : Prop := r = .bool true ∧ Le σ₀ σ'
theorem end_ok {σ₀ σ : Store} {fl d : Nat} {v : V} {F : Int → Option V} {odd : Bool} {v1 v2 v3 v4 v5 v6 v7 v8 v9 v10 : V} {o1 o2 : Option V} (h : Ready σ fl v F odd) (h0 : 0 < fl) (hb : Le σ₀ σ) (hfb : σ₀.length ≤ fl) : Wp (L_round_t3 (d + 41) v1 v2 v3 v4 v5 v6 v7 v v8 (.ref fl) (.bool odd) o1 o2 v9 v10) σ (True' σ₀) := by
 obtain ⟨ver, T, eF, gF⟩ := h.fills.cell
 have hfl := lt_of_get eF
 unfold L_round_t3
 refine Wp_step (r_dictD eF) ?_
 have hcp : (σ ++ [O.dict 0 T])[σ.length]? = some (.dict 0 T) := get_new
 have l1 : Le σ (σ ++ [O.dict 0 T]) := .push
 have hlen : (σ ++ [O.dict 0 T]).length = σ.length + 1 := by simp
 generalize (σ ++ [O.dict 0 T]) = σ₁ at hcp l1 hlen
 generalize hcpe : σ.length = cp at *
 refine (due_ready (d := d + 1) (h.le l1)).step fun r1 σ₂ hr1 => ?_
 obtain ⟨l2, held1⟩ := hr1.held
 refine (tried_ready (d := d) (h.le (l1.trans l2))).step fun r2 σ₃ hr2 => ?_
 obtain ⟨l3, held2⟩ := hr2.held
 have l13 : Le σ₁ σ₃ := l2.trans l3
 have hl2 := LeEx.len (X := []) l2
 have eF3 : σ₃[fl]? = some (.dict ver T) := (l1.trans l13).at eF
 refine Wp_step (r_tagD eF3 tag_clear) (Wp_step (r_clear eF3 h0) ?_)
 have l4 : LeEx [fl] σ₃ (σ₃.set fl (.dict (ver + 1) [])) := LeEx.refl.set (List.mem_singleton.mpr rfl)
 have kp4 : Kp σ₃ (σ₃.set fl (.dict (ver + 1) [])) := fun q m e => by
  by_cases hq : q = fl
  ·subst hq; rw [eF3] at e; cases e
  ·exact ⟨m, set_ne (Ne.symm hq) e⟩
 have hcp4 : (σ₃.set fl (.dict (ver + 1) []))[cp]? = some (.dict 0 T) := set_ne (by lia) (l13.at hcp)
 generalize (σ₃.set fl (.dict (ver + 1) [])) = σ₄ at l4 kp4 hcp4
 have hb4 : Le σ₀ σ₄ := (hb.trans (l1.trans l13)).after l4 fun n hn => .inr (by rw [List.mem_singleton.mp hn]; exact hfb)
 have hX : ∀ n ∈ [fl], n < σ₁.length := fun n hn => by rw [List.mem_singleton.mp hn]; lia
 have held1' : Held 0 σ₄ (outOf v F odd) r1 := (held1.le (X := []) l3 (fun ya hm => (nomatch hm)) (Nat.le_refl _)).le l4 hX (Nat.zero_le _)
 have held2' : Held 0 σ₄ (outOf v F odd) r2 := held2.le l4 (fun n hn => Nat.lt_of_lt_of_le (hX n hn) hl2) (Nat.zero_le _)
 obtain ⟨hv, b, k2, k1⟩ := held_veq held2' held1' fun x e => out_fm h e
 refine Wp.step (P := fun b τ => b = false ∧ τ = σ₄) (Wp_step (r_ne hv) (Wp_step rfl (Wp_no rfl (Wp_step k2 (Wp_step k1 (Wp_step (r_ne (b := true) (by cases b <;> rfl)) (Wp_step rfl (Wp_no rfl (Wp_pure ⟨rfl, rfl⟩))))))))) fun b τ hb => Wp_no hb.1 ?_
 rw [hb.2]
 unfold L_round_t4
 have rdy : Ready σ₄ cp v F odd := (h.le (l1.trans l13)).move ⟨0, T, hcp4, gF⟩ kp4
 refine (tried_ready (d := d) rdy).step fun r3 σ₅ hr3 => ?_
 obtain ⟨l5, held3⟩ := hr3.held
 obtain ⟨hv2, _⟩ := held_veq held3 (held1'.le (X := []) l5 (fun ya hm => (nomatch hm)) (Nat.le_refl _)) fun x e => out_fm h e
 obtain ⟨e, τ, he, hE⟩ := badKind_ok (k := .ref cp) (d := d) (σ := σ₅)
 refine Wp_step (r_eq hv2) (Wp_step rfl (Wp_yes rfl ((caught (d := d + 39) (.inr (.inl rfl)) he hE).step fun r4 σ₆ hr4 => ?_)))
 obtain ⟨l6, j, rfl, _, g⟩ := hr4
 refine Wp_step rfl (Wp_step (r_eq (words_veq (x := [sBadKind]) (y := [sBadKind]) (push_at g) get_new)) (Wp_pure ⟨?_, ((hb4.trans l5).trans l6).new⟩))
 simp
end Mine.Internal

set_option backward.match.sparseCases false
namespace Mine.Internal
open PySem PyProof.Rows
noncomputable def upd (F : Int → Option V) (i : Int) (x : V) : Int → Option V := fun j => if j = i then some x else F j
noncomputable def del (F : Int → Option V) (i : Int) : Int → Option V := fun j => if j = i then none else F j
inductive FS (σ : Store) (fl : Nat) (F : Int → Option V) (n : Nat) : Prop
 | mk (ver : _) (T : _) (h1 : σ[fl]? = some (.dict ver T)) (h2 : T.length ≤ n) (h3 : ∀ i, dGet T (.inl i) = F i) : FS σ fl F n
section
variable {σ σ' : Store} {fl n : Nat} {F : Int → Option V} {X : List Nat} {i : Int} {x : V}
theorem FS.fills (h : FS σ fl F n) : Fills σ fl F := let ⟨v, T, e, _, g⟩ := h; ⟨v, T, e, g⟩
theorem FS.le (h : FS σ fl F n) (hl : LeEx X σ σ') (hk : fl ∉ X) : FS σ' fl F n := let ⟨v, T, e, h1, g⟩ := h; ⟨v, T, hl fl _ hk e, h1, g⟩
theorem FS.kp (h : FS σ fl F n) (hl : LeEx [fl] σ σ') : Kp σ σ' := fun q m e => ⟨m, hl q _ (fun hm => by
 obtain ⟨_, _, e1, _⟩ := h
 rw [List.mem_singleton.mp hm, e1] at e; cases e) e⟩
theorem set_fs (h : FS σ fl F n) (h0 : 0 < fl) (hn : n ≤ 10000) : Wp (setItem (.ref fl) (.int i) x) σ (fun ya σ' => LeEx [fl] σ σ' ∧ σ'.length = σ.length ∧ FS σ' fl (upd F i x) (n + 1)) := by
 obtain ⟨ver, T, e, hl, g⟩ := h
 refine Wp_ok (r_setD e h0 rfl (len_ok (by lia))) ⟨LeEx.refl.set (List.mem_singleton.mpr rfl), len_set, _, _, set_get e, Nat.le_trans dSet_len (by lia), fun j => ?_⟩
 rw [dGet_dSet, ite_inl, g j]; rfl
theorem tag_pop : mtag (.ref 0) "pop" [.dict 0 []] = some .pop := by kernel_rfl
theorem dGet_filter {T : Tab} {k k' : Key} : dGet (T.filter fun p => decide (p.1 ≠ k)) k' = if k' = k then none else dGet T k' := by
 unfold dGet
 rw [List.find?_filter]
 by_cases h : k' = k
 ·rw [if_pos h, Option.map_eq_none_iff, List.find?_eq_none]
  intro p _ hc
  simp at hc
  exact hc.1 (hc.2.trans h)
 ·rw [if_neg h]
  have : (fun p : Key × V => decide (decide (p.1 ≠ k) = true ∧ decide (p.1 = k') = true)) = fun p => decide (p.1 = k') := by
   funext p
   by_cases hp : p.1 = k'
   ·simp [hp, h]
   ·simp [hp]
  rw [this]
theorem pop_fs (h : FS σ fl F n) (h0 : 0 < fl) : Wp (runM .pop (.ref fl) [.int i, x]) σ (fun ya σ' => LeEx [fl] σ σ' ∧ FS σ' fl (del F i) n) := by
 obtain ⟨ver, T, e, hl, g⟩ := h
 have run : runM .pop (.ref fl) [.int i, x] σ = (match dGet T (.inl i) with | some y => (putD fl (T.filter fun p => p.1 ≠ .inl i) >>= fun ya => pure y) | none => pure x : M V) σ := bind_ok (r_getDict e)
 cases hg : dGet T (.inl i) with
 | none =>
  rw [hg] at run
  refine Wp_ok run ⟨.refl, ver, T, e, hl, fun j => ?_⟩
  unfold del
  by_cases hj : j = i
  ·rw [if_pos hj, hj]; exact hg
  ·rw [if_neg hj]; exact g j
 | some y =>
  rw [hg] at run
  dsimp only at run
  rw [bind_ok (putD_ok h0 e)] at run
  refine Wp_ok run ⟨LeEx.refl.set (List.mem_singleton.mpr rfl), _, _, set_get e, Nat.le_trans (List.length_filter_le ..) hl, fun j => ?_⟩
  rw [dGet_filter, ite_inl]
  unfold del
  rw [g j]
end
theorem Enc.le2 {b : Bool} {lo : Nat} {σ σ' : Store} {X : List Nat} (h : LeEx X σ σ') (hX : ∀ n ∈ X, n < lo ∨ ∀ l, σ[n]? ≠ some (.list l)) : ∀ {L : Lb} {x : V}, Enc b lo σ L x → Enc b lo σ' L x
 | none, _, e => e
 | some ls, x, e => by
  cases b with
  | true => exact e
  | false =>
   obtain ⟨r, rfl, hr, e⟩ := e
   exact ⟨r, rfl, hr, h r _ (fun hm => (hX r hm).elim (fun hl => absurd hl (Nat.not_lt.mpr hr)) fun hn => hn _ e) e⟩
theorem TabE.le2 {b : Bool} {lo k : Nat} {σ σ' : Store} {evs : Evs} {ver : Nat} {T : Tab} {X : List Nat} (h : TabE b lo σ k evs ver T) (hle : LeEx X σ σ') (hX : ∀ n ∈ X, n < lo ∨ ∀ l, σ[n]? ≠ some (.list l)) (hk : k ∉ X) : TabE b lo σ' k evs ver T :=
 ⟨hle k _ hk h.cell, h.len, h.keys, h.no, fun i L e => let ⟨x, h1, h2⟩ := h.yes i L e; ⟨x, h1, h2.le2 hle hX⟩, h.nd⟩
structure Rs (σ₀ : Store) (bk fl lo : Nat) (v : V) (ver : Nat) (T : Tab) (σ : Store) (F : Int → Option V) (n : Nat) : Prop where
 fm : Fm 10 12 v
 kn : kn 12 v ≤ 200
 good : goodB [] (ev2 12 v) = true
 fs : FS σ fl F n
 dat : ∀ i x, F i = some x → Dat σ x
 tab : TabE false lo σ bk (ev2 12 v) ver T
 pos : 0 < fl
 ne : fl ≠ bk
 base : Le σ₀ σ
 flb : σ₀.length ≤ fl
section
variable {bk fl lo ver n : Nat} {v : V} {T : Tab} {σ₀ σ σ' : Store} {F : Int → Option V}
theorem Rs.le (h : Rs σ₀ bk fl lo v ver T σ F n) (hl : Le σ σ') : Rs σ₀ bk fl lo v ver T σ' F n := ⟨h.fm, h.kn, h.good, h.fs.le hl (by simp), fun i x e => (h.dat i x e).kp hl.kp, h.tab.le2 hl (fun ya hm => (nomatch hm)) (by simp), h.pos, h.ne, h.base.trans hl, h.flb⟩
theorem Rs.put {F' : Int → Option V} {m : Nat} (h : Rs σ₀ bk fl lo v ver T σ F n) (hl : LeEx [fl] σ σ') (hf : FS σ' fl F' m) (hd : ∀ i x, F' i = some x → Dat σ x) : Rs σ₀ bk fl lo v ver T σ' F' m :=
 ⟨h.fm, h.kn, h.good, hf, fun i x e => (hd i x e).kp (h.fs.kp hl), h.tab.le2 hl (fun k hm => .inr fun l e => by
  obtain ⟨_, _, e1, _⟩ := h.fs
  rw [List.mem_singleton.mp hm, e1] at e; cases e) (fun hm => h.ne (List.mem_singleton.mp hm).symm), h.pos, h.ne, h.base.after hl fun n hn => .inr (by rw [List.mem_singleton.mp hn]; exact h.flb), h.flb⟩
theorem Rs.ready {odd : Bool} (h : Rs σ₀ bk fl lo v ver T σ F n) (hx : ∀ e ∈ ev2 12 v, ∀ x, F e.1 = some x → fillB e.2 x = true → FillOk e.2 x) (h1 : odd = true → BadAt F (ev2 12 v)) (h0 : odd = false → AllOk F (ev2 12 v)) : Ready σ fl v F odd := ⟨h.fm, h.kn, h.good, h.fs.fills, h.dat, hx, h1, h0⟩
end
noncomputable def keyI : Key → Int
 | .inl i => i
 | .inr _ => 0
noncomputable abbrev keysI (T : Tab) : List Int := T.map fun p => keyI p.1
theorem keys_int {b : Bool} {lo k ver : Nat} {σ : Store} {evs : Evs} {T : Tab} (h : TabE b lo σ k evs ver T) : T.map (fun p => keyV p.1) = (keysI T).map V.int := by
 rw [List.map_map]
 refine List.map_congr_left fun p hp => ?_
 obtain ⟨i, _, e, _⟩ := h.keys p hp
 show keyV p.1 = V.int (keyI p.1)
 rw [e]; rfl
theorem key_look {b : Bool} {lo k ver : Nat} {σ : Store} {evs : Evs} {T : Tab} (h : TabE b lo σ k evs ver T) {i : Int} (hi : i ∈ keysI T) : ∃ L, look evs i = some L := by
 obtain ⟨p, hp, rfl⟩ := List.mem_map.mp hi
 obtain ⟨j, L, e, hL⟩ := h.keys p hp
 rw [e]; exact ⟨L, hL⟩
theorem look_key {b : Bool} {lo k ver : Nat} {σ : Store} {evs : Evs} {T : Tab} (h : TabE b lo σ k evs ver T) {i : Int} {L : Lb} (hL : look evs i = some L) : i ∈ keysI T := by
 obtain ⟨x, e, _⟩ := h.yes i L hL
 obtain ⟨p, hp, e1⟩ := dGet_mem e
 exact List.mem_map.mpr ⟨p, hp, by rw [e1]; rfl⟩
noncomputable def keepI (p : Int → Bool) (v : V) : Option V := match v with
 | .int i => if p i = true then some v else none
 | _ => none
theorem filter_ints (p : Int → Bool) : ∀ is : List Int, (is.map V.int).filterMap (keepI p) = (is.filter p).map V.int
 | [] => rfl
 | i :: r => by
  rw [List.map_cons, List.filterMap_cons]
  cases h : p i with
  | true => simp [keepI, h, filter_ints p r]
  | false => simp [keepI, h, filter_ints p r]
theorem keepI_ok {p : Int → Bool} {i : Int} {σ : Store} {m : M V} (e : m σ = .ok (.int i) σ) : if p i = true then ∃ y, m σ = .ok y σ ∧ keepI p (.int i) = some y else keepI p (.int i) = none := by
 unfold keepI
 dsimp only
 cases p i with
 | true => exact ⟨_, e, rfl⟩
 | false => exact rfl
theorem ints_data (f : Nat → Option PyData) : ∀ is : List Int, toPyTs f (is.map V.int) = some (is.map PyData.int)
 | [] => rfl
 | i :: is => by
  show (match toPyT f (.int i), toPyTs f (is.map V.int) with | some d, some ds => some (d :: ds) | _, _ => none) = _
  rw [ints_data f is]; rfl
theorem nil_veq {σ : Store} {a b : Nat} {is : List Int} (ha : σ[a]? = some (.list (is.map V.int))) (hb : σ[b]? = some (.list [])) : veq σ (.ref a) (.ref b) = some (decide (is = [])) := by
 have h1 : toPy σ (.ref a) = some (.list (is.map PyData.int)) := by
  show (match σ[a]? with | some (.list l) => (toPyTs (toPyF σ 3) l).map PyData.list | _ => none) = _
  rw [ha]; dsimp only; rw [ints_data]; rfl
 have h2 : toPy σ (.ref b) = some (.list []) := by
  show (match σ[b]? with | some (.list l) => (toPyTs (toPyF σ 3) l).map PyData.list | _ => none) = _
  rw [hb]; rfl
 unfold veq
 rw [h1, h2]
 show (if min (PyData.list (is.map PyData.int)).depth (PyData.list []).depth ≤ 200 then some (PyData.eqv (.list (is.map PyData.int)) (.list [])) else none) = _
 rw [if_pos (Nat.le_trans (Nat.min_le_right ..) (by simp [PyData.depth, PyData.depthAll]))]
 cases is <;> simp [PyData.eqv, PyData.eqvAll]
noncomputable def isKnd (evs : Evs) (i : Int) : Bool := decide (look evs i = some none)
theorem r_blank {lo bk ver : Nat} {σ : Store} {evs : Evs} {T : Tab} (h : TabE false lo σ bk evs ver T) {i : Int} (hi : i ∈ keysI T) : ∃ x, item (.ref bk) (.int i) σ = .ok x σ ∧ isNoneV x = isKnd evs i ∧ ∃ L, look evs i = some L ∧ Enc false lo σ L x := by
 obtain ⟨L, hL⟩ := key_look h hi
 obtain ⟨x, e, hE⟩ := h.yes i L hL
 refine ⟨x, r_itemD h.cell rfl e, ?_, L, hL, hE⟩
 rw [enc_none hE]; unfold isKnd; rw [hL]; simp
theorem vin58 {σ : Store} {a : Int} : ∃ b, vin σ (.int a) [.int 5, .int 8] = some b ∧ (b = true → a = 5 ∨ a = 8) := by
 refine ⟨_, rfl, fun h => ?_⟩
 have h : ((5 == a) || ((8 == a) || false)) = true := h
 simp at h
 rcases h with h | h
 ·exact .inl h.symm
 ·exact .inr h.symm
theorem keys_len {b : Bool} {lo k ver : Nat} {σ : Store} {w : Nat} {v : V} {T : Tab} (h : TabE b lo σ k (ev2 12 v) ver T) (hv : Fm w 12 v) (hk : kn 12 v ≤ 200) : (keysI T).length ≤ 200 := by
 have := h.len
 have := ev_len hv
 rw [List.length_map]; lia
theorem upd_all {F : Int → Option V} {evs : Evs} {i : Int} {x : V} (h : AllOk F evs) (hx : ∀ L, (i, L) ∈ evs → FillOk L x) : AllOk (upd F i x) evs := fun e he y hy => by
 unfold upd at hy
 by_cases hi : e.1 = i
 ·rw [if_pos hi] at hy; cases hy
  subst hi; exact hx e.2 he
 ·rw [if_neg hi] at hy; exact h e he y hy
theorem upd_dat {σ : Store} {F : Int → Option V} {i : Int} {x : V} (h : ∀ i x, F i = some x → Dat σ x) (hx : Dat σ x) : ∀ j y, upd F i x j = some y → Dat σ y := fun j y e => by
 unfold upd at e
 by_cases hj : j = i
 ·rw [if_pos hj] at e; cases e; exact hx
 ·rw [if_neg hj] at e; exact h j y e
theorem fillOk_dat {σ : Store} : ∀ {L : Lb} {x : V}, FillOk L x → Dat σ x
 | none, x, h => Fm.dat h
 | some ls, x, h => by
  obtain ⟨qs, t, rfl, _, _, _, hF, ht, _⟩ := h
  have ht : Dat σ t := by
   rcases ht with rfl | ⟨i, _, rfl⟩
   ·exact .none
   ·exact .int i
  refine datT ⟨.tup fun y hy => ?_, ht, trivial⟩
  obtain ⟨q, hq, rfl⟩ := List.mem_map.mp hy
  exact datT ⟨.str _, (hF q hq).dat, trivial⟩
theorem fm_num {w n : Nat} {v : V} (h : Fm w n v) : ∀ {e : Int × Lb}, e ∈ ev2 n v → 0 ≤ e.1 := by
 induction h with
 | num => intro e he; cases he
 | blank hi => intro e he; rw [List.mem_singleton.mp he]; exact hi
 | rcd _ _ _ _ _ ht ih =>
  intro e he
  rw [ev_rec] at he
  rcases List.mem_append.mp he with he | he
  ·obtain ⟨p, hp, he⟩ := List.mem_flatMap.mp he
   exact ih p hp he
  ·rcases ht with rfl | ⟨i, hi, rfl⟩
   ·cases he
   ·rw [List.mem_singleton.mp he]; exact hi
section
variable {bk fl lo ver n d : Nat} {v : V} {T : Tab} {σ₀ σ : Store} {F : Int → Option V} {odd : Bool} {way : Int} {v1 v2 v3 v4 v5 v6 v7 v8 v9 va vb : V} {o1 o2 : Option V}
theorem keys_sz (h : Rs σ₀ bk fl lo v ver T σ F n) : ((keysI T).map V.int).length ≤ sizeLine := len24 (by rw [List.length_map]; exact Nat.le_trans (keys_len h.tab h.fm h.kn) (by decide))
theorem kinds_ok {f : V → M V} {Q : V → Store → Prop} (h : Rs σ₀ bk fl lo v ver T σ F n) (k : ∀ (kd : Nat) (ks : List Int) (τ : Store), Le σ τ → τ[kd]? = some (.list (ks.map V.int)) → (∀ i ∈ ks, look (ev2 12 v) i = some none) → Wp (f (.ref kd)) τ Q) :
  Wp (srcV (.ref bk) >>= fun s582 => (compAll (cf03 d) (cElt L_round_c1) (cTgt L_round_c1) (cIfs L_round_c1) (cScope L_round_c1) s582 L_round_F.names [some v1, some v2, some v3, some v4, some v5, some v6, some v7, some v8, some (.ref bk), some v9, some va, o1, o2, none, none, none, none, none, none, none, none, none, none, none, none, none, none, none, none, none] >>= f)) σ Q := by
 refine Wp_step (r_srcD h.tab.cell) ?_
 rw [keys_int h.tab]
 refine Wp_compPure (calm _) (walks_keys fun τ' e => e ▸ h.tab.cell) L_round_c1_ok (L_round_c1_in ..) (keys_sz h) (fun loc => ∃ o, loc = [none, o, some (.ref bk)]) ⟨_, rfl⟩ (keepI (isKnd (ev2 12 v))) (fun x loc hv hS => ?_) ?_
 ·obtain ⟨o, rfl⟩ := hS
  obtain ⟨i, hi, rfl⟩ := List.mem_map.mp hv
  obtain ⟨x, e1, e2, _⟩ := r_blank h.tab hi
  rw [L_round_c1_bind]
  refine ⟨_, rfl, ⟨_, rfl⟩, isKnd (ev2 12 v) i, ?_, ?_⟩
  ·rw [L_round_c1_tst, ← e2]
   exact (bind_ok e1).trans (bind_ok r_isNone)
  ·rw [L_round_c1_elt]; exact keepI_ok rfl
 ·rw [filter_ints]
  exact k _ _ _ .push get_new fun i hi => of_decide_eq_true (List.mem_filter.mp hi).2
theorem rests_ok {f : V → M V} {Q : V → Store → Prop} (h : Rs σ₀ bk fl lo v ver T σ F n) (k : ∀ (rs : Nat) (rss : List Int) (τ : Store), Le σ τ → τ[rs]? = some (.list (rss.map V.int)) → (∀ i ∈ rss, ∃ L, look (ev2 12 v) i = some L) → Wp (f (.ref rs)) τ Q) :
  Wp (srcV (.ref bk) >>= fun s587 => (compAll (cf03 d) (cElt L_round_c2) (cTgt L_round_c2) (cIfs L_round_c2) (cScope L_round_c2) s587 L_round_F.names [some v1, some v2, some v3, some v4, some v5, some v6, some v7, some v8, some (.ref bk), some v9, some va, o1, o2, some vb, none, none, none, none, none, none, none, none, none, none, none, none, none, none, none, none] >>= f)) σ Q := by
 refine Wp_step (r_srcD h.tab.cell) ?_
 rw [keys_int h.tab]
 refine Wp_compPure (calm _) (walks_keys fun τ' e => e ▸ h.tab.cell) L_round_c2_ok (L_round_c2_in ..) (keys_sz h) (fun loc => ∃ o, loc = [none, o, some (.ref bk)]) ⟨_, rfl⟩ (keepI fun i => !isKnd (ev2 12 v) i) (fun x loc hv hS => ?_) ?_
 ·obtain ⟨o, rfl⟩ := hS
  obtain ⟨i, hi, rfl⟩ := List.mem_map.mp hv
  obtain ⟨x, e1, e2, _⟩ := r_blank h.tab hi
  rw [L_round_c2_bind]
  refine ⟨_, rfl, ⟨_, rfl⟩, !isKnd (ev2 12 v) i, ?_, ?_⟩
  ·rw [L_round_c2_tst, ← e2]
   exact (bind_ok e1).trans (bind_ok r_notNone)
  ·rw [L_round_c2_elt]; exact keepI_ok (p := fun i => !isKnd (ev2 12 v) i) rfl
 ·rw [filter_ints fun i => !isKnd (ev2 12 v) i]
  exact k _ _ _ .push get_new fun i hi => key_look h.tab (List.mem_filter.mp hi).1
theorem both_ok {kd rs : Nat} {ks rss : List Int} (e2 : σ[kd]? = some (.list (ks.map V.int))) (e3 : σ[rs]? = some (.list (rss.map V.int))) :
  Wp (binop .Mod (.int way) (V.int 9) >>= fun t608 => (newO (.list [(V.int 5), (V.int 8)]) >>= fun t609 => (cmp .In t608 t609 >>= fun t610 => (truth t610 >>= fun b611 => (M.cond b611 (newO (.list []) >>= fun t612 => (cmp .NotEq (.ref kd) t612 >>= fun t613 => (truth t613 >>= fun b614 => (M.cond b614 (newO (.list []) >>= fun t615 => (cmp .NotEq (.ref rs) t615 >>= fun t616 => (truth t616 >>= fun b617 => (M.cond b617 (pure true : M Bool) (pure false : M Bool))))) (pure false : M Bool))))) (pure false : M Bool)))))) σ
   (fun b τ => Le σ τ ∧ (b = true → (way % 9 = 5 ∨ way % 9 = 8) ∧ ks ≠ [] ∧ rss ≠ [])) := by
 obtain ⟨b58, hb58, hway⟩ := @vin58 (σ ++ [O.list [V.int 5, V.int 8]]) (way % 9)
 refine Wp_step (r_mod (by decide)) (Wp_step rfl (Wp_step (r_in get_new hb58) (Wp_step rfl (Wp_cond (fun hb => ?_) fun ya => Wp_pure ⟨.push, fun h => nomatch h⟩))))
 refine Wp_step rfl (Wp_step (r_ne (nil_veq (push_at (push_at e2)) get_new)) (Wp_step rfl (Wp_cond (fun hk => ?_) fun ya => Wp_pure ⟨LeEx.push.new, fun h => nomatch h⟩)))
 refine Wp_step rfl (Wp_step (r_ne (nil_veq (push_at (push_at (push_at e3))) get_new)) (Wp_step rfl (Wp_cond (fun hr => Wp_pure ⟨LeEx.push.new.new, fun ya => ⟨hway hb, ?_, ?_⟩⟩) fun ya => Wp_pure ⟨LeEx.push.new.new, fun h => nomatch h⟩)))
 ·simpa using hk
 ·simpa using hr
theorem mix_fm {r0 : Int} (h0 : 0 ≤ r0) {x : V} (hx : x = blankV r0 ∨ x = recV [(Str.ofString "a", numV)] (.int r0)) : FillOk none x := by
 rcases hx with rfl | rfl
 ·exact Fm.blank h0
 ·exact Fm.rcd (by decide) (by decide) (List.pairwise_singleton _ _) (fun p hp => by rw [List.mem_singleton.mp hp]; decide +kernel) (fun p hp => by rw [List.mem_singleton.mp hp]; exact .num) (.inr ⟨r0, h0, rfl⟩)
theorem mix_pick {r0 : Int} : ∃ x, ([blankV r0, recV [(Str.ofString "a", numV)] (.int r0)])[(way / 9 % 2).toNat]? = some x ∧ (x = blankV r0 ∨ x = recV [(Str.ofString "a", numV)] (.int r0)) := by
 rcases Int.emod_two_eq (way / 9) with e | e <;> rw [e]
 ·exact ⟨_, rfl, .inl rfl⟩
 ·exact ⟨_, rfl, .inr rfl⟩
theorem swap_ok {kd rs : Nat} {k0 r0 : Int} {ks rss : List Int} {m : M V} {Q : V → Store → Prop} (R : Rs σ₀ bk fl lo v ver T σ F n) (hn : n ≤ 5000) (e2 : σ[kd]? = some (.list ((k0 :: ks).map V.int))) (e3 : σ[rs]? = some (.list ((r0 :: rss).map V.int))) (hk : look (ev2 12 v) k0 = some none) (hr : 0 ≤ r0) (h0 : AllOk F (ev2 12 v))
  (k : ∀ F' τ, Rs σ₀ bk fl lo v ver T τ F' (n + 1) → AllOk F' (ev2 12 v) → Wp m τ Q) :
  Wp (askS (mtag (.ref fl) "pop") >>= fun g618 => (item (.ref rs) (V.int 0) >>= fun t619 => (runM g618 (.ref fl) [t619, V.none] >>= fun t620 => (item (.ref rs) (V.int 0) >>= fun t621 => (item (.ref rs) (V.int 0) >>= fun t622 => (newO (.list [(V.tup [(V.str (Str.ofString "blank")), t621]), (V.tup [(V.str (Str.ofString "record")), (V.tup [(V.tup [(V.str (Str.ofString "a")), (V.tup [(V.str (Str.ofString "number"))])])]), t622])]) >>= fun t623 => (binop .FloorDiv (.int way) (V.int 9) >>= fun t624 => (binop .Mod t624 (V.int 2) >>= fun t625 => (item t623 t625 >>= fun t626 => (item (.ref kd) (V.int 0) >>= fun t627 => (setItem (.ref fl) t627 t626 >>= fun ya => m))))))))))) σ Q := by
 obtain ⟨vf, Tf, ef, _⟩ := R.fs
 refine Wp_step (r_tagD ef tag_pop) (Wp_step (r_item e3 (by decide) rfl) ((pop_fs R.fs R.pos).step fun ya τ₁ hr' => ?_))
 obtain ⟨hle1, fs1⟩ := hr'
 have R4 : Rs σ₀ bk fl lo v ver T τ₁ (del F r0) n := R.put hle1 fs1 fun i x e => by
  unfold del at e
  by_cases hi : i = r0
  ·rw [if_pos hi] at e; cases e
  ·rw [if_neg hi] at e; exact R.dat i x e
 have nf : ∀ {q : Nat} {l : List V}, σ[q]? = some (.list l) → q ∉ [fl] := fun e hm => by rw [List.mem_singleton.mp hm, ef] at e; cases e
 have e7 := hle1 _ _ (nf e3) e3
 have R5 := R4.le (LeEx.push (X := []) (σ := τ₁) (o := O.list [blankV r0, recV [(Str.ofString "a", numV)] (.int r0)]))
 obtain ⟨x, hx1, hx2⟩ := mix_pick (way := way) (r0 := r0)
 have hfm := mix_fm hr hx2
 refine Wp_step (r_item e7 (by decide) rfl) (Wp_step (r_item e7 (by decide) rfl) (Wp_step rfl (Wp_step (r_div (by decide)) (Wp_step (r_mod (by decide)) (Wp_step (r_item get_new (Int.emod_nonneg _ (by decide)) hx1) (Wp_step (r_item (push_at (hle1 _ _ (nf e2) e2)) (by decide) rfl) ((set_fs R5.fs R5.pos (Nat.le_trans hn (by decide))).step fun ya τ₂ hr' => ?_)))))))
 obtain ⟨hle2, _, fs2⟩ := hr'
 refine k _ _ (R5.put hle2 fs2 (upd_dat R5.dat (fillOk_dat hfm))) (upd_all (fun e he y hy => ?_) fun L hL => ?_)
 ·unfold del at hy
  by_cases hi : e.1 = r0
  ·rw [if_pos hi] at hy; cases hy
  ·rw [if_neg hi] at hy; exact h0 e he y hy
 ·have := good_look R.good hL
  rw [hk] at this
  cases this; exact hfm
theorem mix_ok (h : Rs σ₀ bk fl lo v ver T σ F n) (hn : n ≤ 5000)
  (hx : ∀ e ∈ ev2 12 v, ∀ x, F e.1 = some x → fillB e.2 x = true → FillOk e.2 x) (h1 : odd = true → BadAt F (ev2 12 v) ∧ (way % 3 = 1 ∨ way % 9 = 2)) (h0 : odd = false → AllOk F (ev2 12 v)) :
  Wp (L_round_t2 (d + 41) v1 v2 v3 (.int way) v4 v5 v6 v (.ref bk) (.ref fl) (.bool odd) o1 o2) σ (True' σ₀) := by
 unfold L_round_t2
 refine kinds_ok h fun kd ks σ₁ l1 e1 hks => rests_ok (h.le l1) fun rs rss σ₂ l2 e3 hrk => (both_ok (l2.at e1) e3).step fun b τ hb => ?_
 obtain ⟨hle, hb⟩ := hb
 have R3 := h.le ((l1.trans l2).trans hle)
 refine Wp_cond (fun ht => ?_) fun ya => end_ok (R3.ready hx (fun e => (h1 e).1) h0) R3.pos R3.base R3.flb
 obtain ⟨h58, hks0, hrs0⟩ := hb ht
 have hodd : odd = false := by
  cases odd with
  | false => rfl
  | true => have := (h1 rfl).2; lia
 subst hodd
 cases ks with
 | nil => exact absurd rfl hks0
 | cons k0 ks => cases rss with
  | nil => exact absurd rfl hrs0
  | cons r0 rss =>
   obtain ⟨L, hL⟩ := hrk r0 (List.mem_cons_self ..)
   exact swap_ok R3 hn (hle.at (l2.at e1)) (hle.at e3) (hks k0 (List.mem_cons_self ..)) (fm_num h.fm (look_mem hL)) (h0 rfl) fun F' τ' R6 hall => end_ok (R6.ready (fun e he y hy ya => hall e he y hy) (fun e => nomatch e) fun ya => hall) R6.pos R6.base R6.flb
end
end Mine.Internal

set_option backward.match.sparseCases false
namespace Mine.Internal
open PySem PyProof.Rows
noncomputable def Wr (evs : Evs) (k : Nat) (dn : List Int) (F : Int → Option V) : Prop :=
 (∀ i ls x, look evs i = some (some ls) → F i = some x → FillOk (some ls) x) ∧ (∀ i x, look evs i = some none → F i = some x → Fm 20 (12 + k + (if i ∈ dn then 1 else 0)) x) ∧ ∀ i, look evs i = some none → 0 < k ∨ i ∈ dn → (F i).isSome = true
theorem Wr.skip {evs : Evs} {k : Nat} {dn : List Int} {F : Int → Option V} {i : Int} (h : Wr evs k dn F) (hi : look evs i ≠ some none) : Wr evs k (dn ++ [i]) F := by
 have hm : ∀ j, look evs j = some none → (j ∈ dn ++ [i] ↔ j ∈ dn) := fun j hj => ⟨fun hm => (List.mem_append.mp hm).elim id fun e => absurd (by rw [← List.mem_singleton.mp e]; exact hj) hi, List.mem_append_left _⟩
 refine ⟨h.1, fun j x hj e => ?_, fun j hj ho => h.2.2 j hj (ho.imp_right (hm j hj).mp)⟩
 have := h.2.1 j x hj e
 by_cases hd : j ∈ dn
 ·rw [if_pos hd] at this; rw [if_pos ((hm j hj).mpr hd)]; exact this
 ·rw [if_neg hd] at this; rw [if_neg fun h => hd ((hm j hj).mp h)]; exact this
noncomputable abbrev wrapV (x : V) : V := recV [(Str.ofString "a", x)] .none
theorem wrap_fm {n : Nat} {x : V} (h : Fm 20 n x) : Fm 20 (n + 1) (wrapV x) := Fm.rcd (show 1 ≤ 20 by decide) (by decide) (List.pairwise_singleton _ _) (fun p hp => by rw [List.mem_singleton.mp hp]; exact (by decide +kernel : wordB (V.str (Str.ofString "a")) = true)) (fun p hp => by rw [List.mem_singleton.mp hp]; exact h) (.inl rfl)
theorem Wr.wrap {evs : Evs} {k : Nat} {dn : List Int} {F : Int → Option V} {i : Int} (h : Wr evs k dn F) (hi : look evs i = some none) (hd : i ∉ dn) : Fm 20 (12 + k) ((F i).getD numV) ∧ Wr evs k (dn ++ [i]) (upd F i (wrapV ((F i).getD numV))) := by
 have h0 : Fm 20 (12 + k) ((F i).getD numV) := by
  cases e : F i with
  | none => exact Fm.up (n := 1) (w := 20) .num (by lia) (Nat.le_refl _) (by decide)
  | some x =>
   have := h.2.1 i x hi e
   rw [if_neg hd] at this; exact this
 refine ⟨h0, fun j ls x hj e => ?_, fun j x hj e => ?_, fun j hj ho => ?_⟩
 ·unfold upd at e
  by_cases hji : j = i
  ·subst hji; rw [hi] at hj; cases hj
  ·rw [if_neg hji] at e; exact h.1 j ls x hj e
 ·unfold upd at e
  by_cases hji : j = i
  ·subst hji
   rw [if_pos rfl] at e; cases e
   rw [if_pos (List.mem_append_right _ (List.mem_singleton.mpr rfl))]
   exact wrap_fm h0
  ·rw [if_neg hji] at e
   have := h.2.1 j x hj e
   have hm : j ∈ dn ++ [i] ↔ j ∈ dn := ⟨fun hm => (List.mem_append.mp hm).elim id fun e => absurd (List.mem_singleton.mp e) hji, List.mem_append_left _⟩
   by_cases hdj : j ∈ dn
   ·rw [if_pos hdj] at this; rw [if_pos (hm.mpr hdj)]; exact this
   ·rw [if_neg hdj] at this; rw [if_neg fun h => hdj (hm.mp h)]; exact this
 ·unfold upd
  by_cases hji : j = i
  ·rw [if_pos hji]; rfl
  ·rw [if_neg hji]
   exact h.2.2 j hj (ho.imp_right fun hm => (List.mem_append.mp hm).elim id fun e => absurd (List.mem_singleton.mp e) hji)
theorem keysI_nodup {b : Bool} {lo k ver : Nat} {σ : Store} {evs : Evs} {T : Tab} (h : TabE b lo σ k evs ver T) : (keysI T).Nodup := by
 have h1 := h.nd
 have h2 := h.keys
 refine List.pairwise_map.mpr (List.Pairwise.imp_of_mem ?_ (List.pairwise_map.mp h1))
 intro p q hp hq hne e
 obtain ⟨i, _, e1, _⟩ := h2 p hp
 obtain ⟨j, _, e2, _⟩ := h2 q hq
 rw [e1, e2] at e
 exact hne (by rw [e1, e2, show i = j from e])
theorem not_ahead {l : List Int} {j : Nat} {i : Int} (h : l.Nodup) (hi : l[j]? = some i) : i ∉ l.take j := fun hm => by
 rw [take_drop hi] at h
 exact (List.nodup_append.mp h).2.2 i hm i (List.mem_cons_self ..) rfl
section
variable {bk fl lo ver n d : Nat} {v : V} {T : Tab} {σ₀ σ : Store} {F : Int → Option V} {way : Int} {v1 v2 v3 v5 v6 ov : V}
noncomputable def LocR (v1 v2 v3 : V) (way : Int) (v5 v6 v : V) (bk fl : Nat) (ov : V) (loc : Loc) : Prop := ∃ v4 ok, loc = [some v1, some v2, some v3, some (.int way), some v4, some v5, some v6, some v, some (.ref bk), some (.ref fl), some ov, ok, none, none, none, none, none, none, none, none, none, none, none, none, none, none, none, none, none, none]
inductive TI (σ₀ σ : Store) (bk fl lo : Nat) (v : V) (ver : Nat) (T : Tab) (n k : Nat) (v1 v2 v3 : V) (way : Int) (v5 v6 ov vk : V) (j : Nat) (loc : Loc) (τ : Store) : Prop
 | mk (v4 : V) (F : Int → Option V) (h1 : loc = [some v1, some v2, some v3, some (.int way), some v4, some v5, some v6, some v, some (.ref bk), some (.ref fl), some ov, some vk, none, none, none, none, none, none, none, none, none, none, none, none, none, none, none, none, none, none]) (h2 : LeEx [fl] σ τ) (h3 : Rs σ₀ bk fl lo v ver T τ F (n + j)) (h4 : Wr (ev2 12 v) k ((keysI T).take j) F) : TI σ₀ σ bk fl lo v ver T n k v1 v2 v3 way v5 v6 ov vk j loc τ
theorem Rs.more {m : Nat} (R : Rs σ₀ bk fl lo v ver T σ F n) (h : n ≤ m) : Rs σ₀ bk fl lo v ver T σ F m :=
 ⟨R.fm, R.kn, R.good, let ⟨a, b, c, d, e⟩ := R.fs; ⟨a, b, c, Nat.le_trans d h, e⟩, R.dat, R.tab, R.pos, R.ne, R.base, R.flb⟩
theorem turn_one {j k : Nat} {vk : V} {i : Int} {loc : Loc} {τ : Store} {Q : Fl × Loc → Store → Prop} (hn : n ≤ 4000) (hj : j ≤ 200) (hi : (keysI T)[j]? = some i) (h : TI σ₀ σ bk fl lo v ver T n k v1 v2 v3 way v5 v6 ov vk j loc τ) :
  Wp (bindTo (stLoc L_round_F.names) (sTgt L_round_l3) (.int i) loc >>= exs (cf03 d) (sBody L_round_l3) L_round_F.names) τ (Turn (TI σ₀ σ bk fl lo v ver T n k v1 v2 v3 way v5 v6 ov vk) Q j) := by
 obtain ⟨v4, F', rfl, hle, R, W⟩ := h
 obtain ⟨x, e1, e2, L, hL, _⟩ := r_blank R.tab (List.mem_of_getElem? hi)
 rw [L_round_l3_step]
 refine Wp_step e1 (Wp_step r_isNone (Wp_step rfl ?_))
 rw [e2]
 by_cases hk : look (ev2 12 v) i = some none
 ·obtain ⟨h0, W'⟩ := W.wrap hk (not_ahead (keysI_nodup R.tab) hi)
  obtain ⟨vf, Tf, ef, _, gf⟩ := R.fs
  refine Wp_yes (decide_eq_true hk) (Wp_step (r_tagD ef tag_get) (Wp_step (r_get ef rfl) ?_))
  rw [gf i]
  exact (set_fs R.fs R.pos (Nat.le_trans (Nat.add_le_add hn hj) (by decide))).step fun ya τ₁ hr => Wp_pure (TI.mk _ _ rfl (hle.trans hr.1) (R.put hr.1 hr.2.2 (upd_dat R.dat (wrap_fm h0).dat)) (by rw [take_snoc hi]; exact W'))
 ·exact Wp_no (decide_eq_false hk) (Wp_pure (TI.mk _ F' rfl hle (R.more (Nat.le_succ _)) (by rw [take_snoc hi]; exact W.skip hk)))
theorem turn_ok {k : Nat} {v4 : V} {vk : V} {Q : Fl × Loc → Store → Prop} (h : Rs σ₀ bk fl lo v ver T σ F n) (hw : Wr (ev2 12 v) k [] F) (hn : n ≤ 4000)
  (fin : ∀ loc τ F', LocR v1 v2 v3 way v5 v6 v bk fl ov loc → LeEx [fl] σ τ → Rs σ₀ bk fl lo v ver T τ F' (n + 200) → Wr (ev2 12 v) (k + 1) [] F' → Q (.next, loc) τ) :
  Wp (srcV (.ref bk) >>= fun s636 => (forAll (cf03 d) (sTgt L_round_l3) (sBody L_round_l3) s636 L_round_F.names [some v1, some v2, some v3, some (.int way), some v4, some v5, some v6, some v, some (.ref bk), some (.ref fl), some ov, some vk, none, none, none, none, none, none, none, none, none, none, none, none, none, none, none, none, none, none] >>= flK (fun x => pure x) (L_round_a2 d))) σ Q := by
 have hk200 := keys_len h.tab h.fm h.kn
 refine Wp_step (r_srcD h.tab.cell) ?_
 rw [keys_int h.tab]
 refine Wp_for (J := fun τ => τ[bk]? = some (.dict ver T)) (calm d) (walks_keys fun ya h => h) (TI σ₀ σ bk fl lo v ver T n k v1 v2 v3 way v5 v6 ov vk) (fun j loc τ h => by obtain ⟨_, _, _, _, R, _⟩ := h; exact R.tab.cell) ⟨_, F, rfl, .refl, h, hw⟩ (fun j x loc τ hx hp => ?_) fun loc τ hp => ?_
 ·rw [List.getElem?_map] at hx
  obtain ⟨i, hi, rfl⟩ := Option.map_eq_some_iff.mp hx
  exact turn_one hn (Nat.le_trans (Nat.le_of_lt (lt_of_get hi)) hk200) hi hp
 ·obtain ⟨v4, F', rfl, hle, R, W⟩ := hp
  rw [List.length_map] at R W
  rw [List.take_length] at W
  rw [L_round_a2_eq]
  refine Wp_pure (fin _ τ F' ⟨_, _, rfl⟩ hle (R.more (Nat.add_le_add_left hk200 n)) ⟨W.1, fun i x hi e => ?_, fun i hi ya => W.2.2 i hi (.inr (look_key R.tab hi))⟩)
  have := W.2.1 i x hi e
  rw [if_pos (look_key R.tab hi)] at this
  exact this
noncomputable def deepB (evs : Evs) (F : Int → Option V) (i : Int) : Bool := isKnd evs i && decide (12 < dp 23 ((F i).getD numV))
theorem deep_ok {v4 : V} {ok : Option V} (h : Rs σ₀ bk fl lo v ver T σ F n) (hw : Wr (ev2 12 v) 11 [] F) (hn : n ≤ 5000) (hway : way % 9 = 2) :
  Wp (L_round_a3 (d + 41) [some v1, some v2, some v3, some (.int way), some v4, some v5, some v6, some v, some (.ref bk), some (.ref fl), some ov, ok, none, none, none, none, none, none, none, none, none, none, none, none, none, none, none, none, none, none]) σ (True' σ₀) := by
 have hk200 := keys_len h.tab h.fm h.kn
 have hf : ∀ i, look (ev2 12 v) i = some none → ∃ x, F i = some x ∧ Fm 20 23 x := fun i hi => by
  obtain ⟨x, hx⟩ := Option.isSome_iff_exists.mp (hw.2.2 i hi (.inl (by decide)))
  have := hw.2.1 i x hi hx
  exact ⟨x, hx, this⟩
 rw [L_round_a3_eq]
 refine Wp_step (r_srcD h.tab.cell) ?_
 rw [keys_int h.tab]
 refine Wp_comp (J := fun τ => τ[bk]? = some (.dict ver T)) (calm _) (walks_keys fun ya h => h) L_round_c3_ok (L_round_c3_in ..) (len24 (by rw [List.length_map]; lia)) (fun j acc loc τ => Le σ τ ∧ (∃ o, loc = [none, o, none, some (.ref bk), some (.ref fl)]) ∧ acc = (((keysI T).take j).filter (deepB (ev2 12 v) F)).map V.int) (fun j acc loc τ hp => hp.1.at h.tab.cell) ⟨.refl, ⟨_, rfl⟩, rfl⟩ (fun j x acc loc τ hx hp => ?_) fun out loc τ hp => ?_
 ·obtain ⟨hle, ⟨o, rfl⟩, rfl⟩ := hp
  rw [List.getElem?_map] at hx
  obtain ⟨i, hi, rfl⟩ := Option.map_eq_some_iff.mp hx
  have R := h.le hle
  obtain ⟨x, e1, e2, _⟩ := r_blank R.tab (List.mem_of_getElem? hi)
  rw [L_round_c3_bind]
  refine Wp_pure ?_
  rw [L_round_c3_tst]
  refine Wp.mono (Q := fun b τ' => Le τ τ' ∧ b = deepB (ev2 12 v) F i) (Wp_step e1 (Wp_step r_isNone (Wp_step rfl ?_))) fun b τ' hb => ?_
  ·rw [e2]
   unfold deepB
   cases hk : isKnd (ev2 12 v) i with
   | false => exact Wp_pure ⟨.refl, rfl⟩
   | true =>
    obtain ⟨y, hy, hfm⟩ := hf i (of_decide_eq_true hk)
    obtain ⟨vf, Tf, ef, _, gf⟩ := R.fs
    refine Wp_yes rfl (Wp_step (r_itemD ef rfl ((gf i).trans hy)) ((ldeep_ok hfm _ τ (by lia)).step fun r τ' hr => ?_))
    obtain ⟨hle', rfl⟩ := hr
    rw [hy]
    refine Wp_step rfl (Wp_step (a := decide (12 < dp 23 y)) rfl ?_)
    show Wp _ τ' fun b τ' => Le τ τ' ∧ b = decide (12 < dp 23 y)
    cases decide (12 < dp 23 y) with
    | true => exact Wp_pure ⟨hle', rfl⟩
    | false => exact Wp_pure ⟨hle', rfl⟩
  ·obtain ⟨hle', rfl⟩ := hb
   rw [take_snoc hi, List.filter_append, List.map_append]
   cases hb : deepB (ev2 12 v) F i with
   | false =>
    rw [if_neg (by decide)]
    exact ⟨hle.trans hle', ⟨_, rfl⟩, by simp [hb]⟩
   | true =>
    rw [if_pos rfl, L_round_c3_elt]
    exact Wp_pure ⟨hle.trans hle', ⟨_, rfl⟩, by simp [hb]⟩
 ·obtain ⟨hle, _, rfl⟩ := hp
  rw [List.length_map, List.take_length]
  refine Wp_step rfl (Wp_step (r_ne (nil_veq (push_at get_new) get_new)) ?_)
  have R := h.le ((hle.new (o := O.list (((keysI T).filter (deepB (ev2 12 v) F)).map V.int))).new (o := O.list []))
  have hnone : ∀ x, Fm 20 23 x → formB 12 x = true → FillOk none x := fun x hx hb => fm_cut hx (form_dp hx hb)
  refine mix_ok R hn (fun e he x hx hb => ?_) (fun ho => ⟨?_, .inr hway⟩) fun ho e he x hx => ?_
  ·have hl := good_look h.good he
   obtain ⟨i, L⟩ := e
   cases L with
   | none =>
    obtain ⟨y, hy, hfm⟩ := hf i hl
    rw [hx] at hy; cases hy
    exact hnone x hfm hb
   | some ls => exact hw.1 i ls x hl hx
  ·have hne : (keysI T).filter (deepB (ev2 12 v) F) ≠ [] := by simpa using ho
   obtain ⟨i, l, hil⟩ : ∃ a l, (keysI T).filter (deepB (ev2 12 v) F) = a :: l := by
    cases hc : (keysI T).filter (deepB (ev2 12 v) F) with
    | nil => exact absurd hc hne
    | cons a l => exact ⟨a, l, rfl⟩
   have hi : deepB (ev2 12 v) F i = true := (List.mem_filter.mp (by rw [hil]; exact List.mem_cons_self ..)).2
   unfold deepB at hi
   rw [Bool.and_eq_true] at hi
   have hl : look (ev2 12 v) i = some none := of_decide_eq_true hi.1
   obtain ⟨y, hy, hfm⟩ := hf i hl
   rw [hy] at hi
   have hd : 12 < dp 23 y := of_decide_eq_true hi.2
   refine ⟨(i, none), look_mem hl, y, hy, ?_⟩
   show formB 12 y = false
   cases hb : formB 12 y with
   | false => rfl
   | true => have := form_dp hfm hb; lia
  ·have hnil : (keysI T).filter (deepB (ev2 12 v) F) = [] := by simpa using ho
   have hl := good_look h.good he
   obtain ⟨i, L⟩ := e
   cases L with
   | some ls => exact hw.1 i ls x hl hx
   | none =>
    obtain ⟨y, hy, hfm⟩ := hf i hl
    rw [hx] at hy; cases hy
    refine fm_cut hfm ?_
    have hi := List.filter_eq_nil_iff.mp hnil i (look_key h.tab hl)
    unfold deepB at hi
    have hl : look (ev2 12 v) i = some none := hl
    have hx : F i = some x := hx
    rw [hx, show isKnd (ev2 12 v) i = true from decide_eq_true hl, Bool.true_and, decide_eq_true_eq] at hi
    have hi : ¬ 12 < dp 23 x := hi
    lia
theorem way_ok {v4 : V} {odd : Bool} (h : Rs σ₀ bk fl lo v ver T σ F n) (hn : n ≤ 1000) (hd : ∀ i x, look (ev2 12 v) i = some none → F i = some x → odd = false → Fm 20 12 x)
  (hx : ∀ e ∈ ev2 12 v, ∀ x, F e.1 = some x → fillB e.2 x = true → FillOk e.2 x) (h1 : odd = true → BadAt F (ev2 12 v) ∧ way % 3 = 1) (h0 : odd = false → AllOk F (ev2 12 v)) :
  Wp (L_round_t1 (d + 41) v1 v2 v3 (.int way) v4 v5 v6 v (.ref bk) (.ref fl) (.bool odd)) σ (True' σ₀) := by
 unfold L_round_t1
 refine Wp_step (r_mod (by decide)) (Wp_step r_eqI (Wp_step rfl (Wp_cond (fun e => ?_) fun ya => mix_ok h (by lia) hx (fun e => ⟨(h1 e).1, .inl (h1 e).2⟩) h0)))
 have hway : way % 9 = 2 := eq_of_beq e
 have hodd : odd = false := by
  cases odd with
  | false => rfl
  | true => have := (h1 rfl).2; lia
 have hA := h0 hodd
 have hW0 : Wr (ev2 12 v) 0 [] F := ⟨fun i ls x hi e => hA (i, some ls) (look_mem hi) x e, fun i x hi e => hd i x hi e hodd, fun i ya ho => ho.elim (fun h => absurd h (by decide)) fun h => nomatch h⟩
 refine Wp_step (r_range (by decide)) (Wp_for (J := fun ya => True) (calm _) walks_vals (fun k loc τ => LocR v1 v2 v3 way v5 v6 v bk fl (.bool odd) loc ∧ LeEx [fl] σ τ ∧ k ≤ 11 ∧ ∃ F', Rs σ₀ bk fl lo v ver T τ F' (n + 200 * k) ∧ Wr (ev2 12 v) k [] F') (fun ya yb yc yd => trivial) ⟨⟨_, _, rfl⟩, .refl, by decide, F, h, hW0⟩ (fun k x loc τ hx' hp => ?_) fun loc τ hp => ?_)
 ·obtain ⟨⟨v4, ok, rfl⟩, hle, hk, F', R, W⟩ := hp
  obtain ⟨rfl, hk11⟩ := range_val hx'
  rw [L_round_l2_step]
  refine turn_ok R W (by lia) fun loc τ₁ F'' hloc hle1 R1 W1 => ?_
  exact ⟨hloc, hle.trans hle1, by lia, F'', R1, W1⟩
 ·obtain ⟨⟨v4, ok, rfl⟩, hle, hk, F', R, W⟩ := hp
  rw [range_len] at R W
  exact deep_ok R W (by have : (11 : Int).toNat = 11 := rfl; lia) hway
end
end Mine.Internal

set_option backward.match.sparseCases false
namespace Mine.Internal
open PySem PyProof.Rows
theorem said_one {b : Int} {W : List (List Str)} (hb : 1 ≤ b) {i : Int} {L L' : Lb} (h : EvOk b W (i, L)) (h' : EvOk b W (i, L')) : L = L' := by
 have cancel : ∀ {x y : Int}, b * x = b * y → x = y := fun h => Int.eq_of_mul_eq_mul_left (by lia) h
 rcases h with ⟨j, _, e⟩ | ⟨k, ws, hk, e⟩
 ·obtain ⟨e1, rfl⟩ := Prod.mk.inj e
  rcases h' with ⟨j', _, e'⟩ | ⟨k', ws', hk', e'⟩
  ·exact (Prod.mk.inj e').2.symm
  ·obtain ⟨e2, rfl⟩ := Prod.mk.inj e'
   have := cancel (x := 2 * j) (y := 1 + 2 * (k' : Int)) (by rw [← Int.mul_assoc, ← e1, e2])
   lia
 ·obtain ⟨e1, rfl⟩ := Prod.mk.inj e
  rcases h' with ⟨j', _, e'⟩ | ⟨k', ws', hk', e'⟩
  ·obtain ⟨e2, rfl⟩ := Prod.mk.inj e'
   have := cancel (x := 2 * j') (y := 1 + 2 * (k : Int)) (by rw [← Int.mul_assoc, ← e2, e1])
   lia
  ·obtain ⟨e2, rfl⟩ := Prod.mk.inj e'
   have := cancel (x := 1 + 2 * (k : Int)) (y := 1 + 2 * (k' : Int)) (by rw [← e1, e2])
   have : k = k' := by lia
   subst this
   rw [hk] at hk'; cases hk'; rfl
theorem said_look {b : Int} {W : List (List Str)} {evs : Evs} (hb : 1 ≤ b) (h : Said b W evs) {e : Int × Lb} (he : e ∈ evs) : look evs e.1 = some e.2 := by
 obtain ⟨L, hL⟩ := look_some he
 rw [hL, said_one hb (h (e.1, L) (look_mem hL)) (h e he)]
theorem said_good {b : Int} {W : List (List Str)} {evs : Evs} (hb : 1 ≤ b) (h : Said b W evs) : goodB [] evs = true := List.all_eq_true.mpr fun e he => decide_eq_true (said_look hb h he)
theorem said_not {b : Int} {W : List (List Str)} {evs : Evs} (hb : 1 ≤ b) (h : Said b W evs) (hW : W.length < 50) {L : Lb} : (b * 100 + 1, L) ∉ evs := fun hm => by
 have h1 : ∀ x : Int, b * 100 + 1 = b * x → b = 1 := fun x e => by
  have h2 : b * (x - 100) = 1 := by rw [Int.mul_sub]; lia
  exact Int.eq_one_of_dvd_one (by lia) ⟨x - 100, h2.symm⟩
 rcases h _ hm with ⟨j, _, e⟩ | ⟨k, ws, hk, e⟩
 ·have e1 := (Prod.mk.inj e).1
  have := h1 (2 * j) (by rw [e1, Int.mul_assoc])
  subst this
  lia
 ·have e1 := (Prod.mk.inj e).1
  have := h1 _ e1
  subst this
  have := lt_of_get hk
  lia
theorem fm_labs {w n : Nat} {v : V} (h : Fm w n v) : ∀ {e : Int × Lb} {ls : List Str}, e ∈ ev2 n v → e.2 = some ls → ls.length ≤ w := by
 induction h with
 | num => intro e ls he; cases he
 | blank hi => intro e ls he hl; rw [List.mem_singleton.mp he] at hl; cases hl
 | @rcd n ps t hl _ _ _ _ ht ih =>
  intro e ls he hls
  rw [ev_rec] at he
  rcases List.mem_append.mp he with he | he
  ·obtain ⟨p, hp, he⟩ := List.mem_flatMap.mp he
   exact ih p hp he hls
  ·rcases ht with rfl | ⟨i, hi, rfl⟩
   ·cases he
   ·rw [List.mem_singleton.mp he] at hls
    cases hls
    rw [List.length_map]; exact hl
noncomputable def noKind : V := .tup [.str (Str.ofString "no"), .str (Str.ofString "kind")]
section
variable {bk fl lo ver n d : Nat} {v : V} {T : Tab} {σ₀ σ : Store} {F : Int → Option V} {way b : Int} {v1 v2 v3 v4 v5 : V} {mt ml : Nat}
theorem odds_ok (h : Rs σ₀ bk fl lo v ver T σ F n) (hn : n ≤ 300) (hm : σ[mt]? = some (.list [.int b, .ref ml])) (hb : 1 ≤ b ∧ b ≤ 1000000) (hno : ∀ L, (b * 100 + 1, L) ∉ ev2 12 v) (hA : AllOk F (ev2 12 v)) :
  Wp (L_round_a1 (d + 41) [some v1, some v2, some v3, some (.int way), some v4, some v5, some (.ref mt), some v, some (.ref bk), some (.ref fl), none, none, none, none, none, none, none, none, none, none, none, none, none, none, none, none, none, none, none, none]) σ (True' σ₀) := by
 rw [L_round_a1_eq]
 refine Wp_step (r_item hm (by decide) rfl) (Wp_step (r_mulR (by decide)) (Wp_step rfl ((set_fs (x := noKind) h.fs h.pos (by lia)).step fun ya σ₁ hr => ?_)))
 obtain ⟨hle1, _, fs1⟩ := hr
 have R1 := h.put hle1 fs1 (upd_dat h.dat (datT ⟨.str _, .str _, trivial⟩))
 have hA1 : AllOk (upd F (b * 100 + 1) noKind) (ev2 12 v) := upd_all hA fun L hL => absurd hL (hno L)
 generalize upd F (b * 100 + 1) noKind = F₁ at R1 hA1
 have hk200 := keys_len R1.tab R1.fm R1.kn
 refine Wp.step (P := fun r τ => Le σ₁ τ ∧ ∃ ob, r = .bool ob ∧ (ob = true → way % 3 = 1 ∧ keysI T ≠ [])) (Wp_step (r_mod (by decide)) (Wp_step r_eqI (Wp_step rfl (Wp_cond (fun e => ?_) fun e => Wp_pure ⟨.refl, _, rfl, fun h => by rw [e] at h; cases h⟩)))) fun r τ hr => ?_
 ·refine Wp_step (r_listD R1.tab.cell) ?_
  rw [keys_int R1.tab]
  refine Wp_step rfl (Wp_step (r_ne (nil_veq (push_at get_new) get_new)) (Wp_pure ⟨LeEx.push.new, _, rfl, fun hne => ⟨eq_of_beq e, ?_⟩⟩))
  simpa using hne
 ·obtain ⟨hle2, ob, rfl, hob⟩ := hr
  have R2 := R1.le hle2
  refine Wp_step rfl (Wp_cond (fun e => ?_) fun e => ?_)
  ·have e : ob = true := e
   obtain ⟨hway, hne⟩ := hob e
   subst e
   have hpos : 0 < (keysI T).length := List.length_pos_iff.mpr hne
   have hTl : T.length = (keysI T).length := (List.length_map ..).symm
   refine Wp_step (r_listD R2.tab.cell) ?_
   rw [keys_int R2.tab]
   have R3 := R2.le (LeEx.push (X := []) (σ := τ) (o := O.list ((keysI T).map V.int)))
   have ek : (τ ++ [O.list ((keysI T).map V.int)])[τ.length]? = some (.list ((keysI T).map V.int)) := get_new
   generalize (τ ++ [O.list ((keysI T).map V.int)]) = τ₁ at R3 ek
   have hi0 : 0 ≤ way / 9 % (T.length : Int) := Int.emod_nonneg _ (by lia)
   have hi1 : way / 9 % (T.length : Int) < T.length := Int.emod_lt_of_pos _ (by lia)
   have hj : (way / 9 % (T.length : Int)).toNat < (keysI T).length := by lia
   have hx : ((keysI T).map V.int)[(way / 9 % (T.length : Int)).toNat]? = some (.int ((keysI T)[(way / 9 % (T.length : Int)).toNat]'hj)) := by rw [List.getElem?_map, List.getElem?_eq_getElem hj]; rfl
   have hmem : (keysI T)[(way / 9 % (T.length : Int)).toNat]'hj ∈ keysI T := List.getElem_mem _
   refine Wp_step (r_div (by decide)) (Wp_step (r_lenD R3.tab.cell) (Wp_step (r_mod ⟨by lia (splits := 9), by lia (splits := 9)⟩) (Wp_step (r_item ek hi0 hx) (Wp_step (r_div (by decide)) ?_))))
   generalize (keysI T)[(way / 9 % (T.length : Int)).toNat]'hj = i at hmem
   obtain ⟨x, e1, _, L, hL, hE⟩ := r_blank R3.tab hmem
   refine Wp_step e1 ((odd_ok hE fun aws ha => fm_labs R3.fm (look_mem hL) ha).step fun y τ₂ hy => ?_)
   obtain ⟨hle3, hdat, hfb⟩ := hy
   have R4 := R3.le hle3
   refine (set_fs (x := y) R4.fs R4.pos (by lia)).step fun ya τ₃ hr => ?_
   obtain ⟨hle4, _, fs4⟩ := hr
   have R5 := R4.put hle4 fs4 (upd_dat R4.dat hdat)
   refine way_ok R5 (by lia) (fun ya yb yc yd e => nomatch e) (fun e he x hx hb => ?_) (fun ya => ⟨⟨(i, L), look_mem hL, y, if_pos rfl, hfb⟩, hway⟩) fun e => nomatch e
   unfold upd at hx
   by_cases hi : e.1 = i
   ·rw [if_pos hi] at hx; cases hx
    have := good_look R5.good he
    rw [hi, hL] at this
    cases this
    rw [hfb] at hb; cases hb
   ·rw [if_neg hi] at hx; exact hA1 e he x hx
  ·have e : ob = false := e
   subst e
   exact way_ok R2 (by lia) (fun i x hi hx ya => hA1 (i, none) (look_mem hi) x hx) (fun e he x hx ya => hA1 e he x hx) (fun e => nomatch e) fun ya => hA1
end
noncomputable def ga (n lb : Nat) (ls : List Str) (b : Int) : Ga := ⟨n, lb, n + 2, n + 1, n + 3, ls, b⟩
noncomputable def st3 (σ : Store) (s c b : Int) : Store := σ ++ [O.list [V.int s, V.int c]] ++ [O.list []] ++ [O.list [V.int b, V.ref (σ.length + 1)]]
theorem ga_ok {n lb : Nat} {ls : List Str} {b : Int} (h : lb < n) (hl : Labs ls) (hb : 1 ≤ b ∧ b ≤ 1000000) : GaOk (ga n lb ls b) :=
 ⟨Nat.zero_lt_of_lt h, Nat.succ_pos _, Nat.ne_of_lt (Nat.lt_succ_self n), Nat.ne_of_lt h, Nat.ne_of_lt (Nat.lt_succ_of_lt h), Nat.ne_of_gt (Nat.lt_add_of_pos_right (k := 2) (by decide)), Nat.succ_ne_self (n + 1), Nat.lt_add_of_pos_right (k := 3) (by decide), Nat.lt_succ_of_lt (Nat.lt_succ_self (n + 1)), hl, hb.1, hb.2⟩
theorem st3_le {σ : Store} {s c b : Int} : Le σ (st3 σ s c b) := (LeEx.push.new).new
theorem st3_gk {σ : Store} {lb : Nat} {ls : List Str} {s c b : Int} (hlb : σ[lb]? = some (.list (ls.map V.str))) : Gk (ga σ.length lb ls b) (st3 σ s c b) [] c := by
 have e1 : (σ ++ [O.list [V.int s, V.int c]])[σ.length]? = some (.list [.int s, .int c]) := get_new
 have e2 : (σ ++ [O.list [V.int s, V.int c]] ++ [O.list []])[σ.length + 1]? = some (.list []) := by
  have := get_new (σ := σ ++ [O.list [V.int s, V.int c]]) (o := O.list [])
  rw [List.length_append] at this; exact this
 have e3 : (st3 σ s c b)[σ.length + 2]? = some (.list [.int b, .ref (σ.length + 1)]) := by
  have := get_new (σ := σ ++ [O.list [V.int s, V.int c]] ++ [O.list []]) (o := O.list [V.int b, V.ref (σ.length + 1)])
  rw [List.length_append, List.length_append] at this; exact this
 exact ⟨⟨s, push_at (push_at e1)⟩, st3_le.at hlb, e3, ⟨[], push_at e2, .nil⟩, List.nodup_nil, Nat.le_of_eq (by unfold st3; rw [List.length_append, List.length_append, List.length_append]; rfl)⟩
inductive RoI (G : Ga) (σ : Store) (r : V) (bk fl ver : Nat) (T : Tab) (v1 v2 v3 : V) (j : Nat) (loc : Loc) (τ : Store) : Prop
 | mk (v4 : V) (W : List (List Str)) (c : Int) (F : Int → Option V) (h1 : loc = [some (.ref G.lb), some v1, some v2, some v3, some v4, some (.ref G.st), some (.ref G.mt), some r, some (.ref bk), some (.ref fl), none, none, none, none, none, none, none, none, none, none, none, none, none, none, none, none, none, none, none, none]) (h2 : Gk G τ W c) (h3 : (W.length : Int) + rr c ≤ 53 + j) (h4 : Rs σ bk fl (bk + 1) r ver T τ F j) (h5 : ∀ i x, F i = some x → ∃ L, look (ev2 12 r) i = some L ∧ FillOk L x) : RoI G σ r bk fl ver T v1 v2 v3 j loc τ
structure RG (G : Ga) (σ : Store) (bk fl : Nat) : Prop where
 ok : GaOk G
 h0 : σ.length ≤ G.st
 h1 : σ.length ≤ G.ml
 bk : G.lo ≤ bk
 fl : G.lo ≤ fl
section
variable {G : Ga} {bk fl ver j d : Nat} {r v1 v2 v3 v4 : V} {T : Tab} {σ τ τ' : Store} {F : Int → Option V} {way : Int} {W : List (List Str)} {c : Int}
theorem RG.move (g : RG G σ bk fl) (hF : ∀ i x, F i = some x → ∃ L, look (ev2 12 r) i = some L ∧ FillOk L x) (R : Rs σ bk fl (bk + 1) r ver T τ F j) (hle : LeEx [G.st, G.ml] τ τ') : Rs σ bk fl (bk + 1) r ver T τ' F j := by
 have a1 := Nat.lt_of_lt_of_le g.ok.l1 g.bk
 have a2 := Nat.lt_of_lt_of_le g.ok.l2 g.bk
 exact ⟨R.fm, R.kn, R.good, R.fs.le hle (not2 (Nat.ne_of_gt (Nat.lt_of_lt_of_le g.ok.l1 g.fl)) (Nat.ne_of_gt (Nat.lt_of_lt_of_le g.ok.l2 g.fl))), fun i x e => let ⟨L, _, hf⟩ := hF i x e; fillOk_dat hf, R.tab.le2 hle (inTwo (.inl (Nat.lt_succ_of_lt a1)) (.inl (Nat.lt_succ_of_lt a2))) (not2 (Nat.ne_of_gt a1) (Nat.ne_of_gt a2)), R.pos, R.ne, R.base.after hle (inTwo (.inr g.h0) (.inr g.h1)), R.flb⟩
theorem round_set {i : Int} {y : V} {L : Lb} (g : Gk G τ W c) (hb : (W.length : Int) + rr c ≤ 53 + (j + 1 : Nat)) (R : Rs σ bk fl (bk + 1) r ver T τ F j) (hF : ∀ i x, F i = some x → ∃ L, look (ev2 12 r) i = some L ∧ FillOk L x) (hj : j < 200) (hL : look (ev2 12 r) i = some L) (hfo : FillOk L y) :
  Wp (setItem (.ref fl) (.int i) y) τ fun ya τ' => RoI G σ r bk fl ver T v1 v2 v3 (j + 1) [some (.ref G.lb), some v1, some v2, some v3, some (.int i), some (.ref G.st), some (.ref G.mt), some r, some (.ref bk), some (.ref fl), none, none, none, none, none, none, none, none, none, none, none, none, none, none, none, none, none, none, none, none] τ' := by
 refine (set_fs (x := y) R.fs R.pos (Nat.le_trans (Nat.le_of_lt hj) (by decide))).mono fun ya τ₃ hr => ?_
 obtain ⟨hle3, hlen, fs3⟩ := hr
 have nf : ∀ (q : Nat) (l : List V), τ[q]? = some (O.list l) → q ∉ [fl] := fun q l e => not1 fun eq => by
  obtain ⟨_, _, ef, _⟩ := R.fs
  rw [eq, ef] at e; cases e
 refine ⟨_, W, c, _, rfl, g.to (fun q l e => hle3 _ _ (nf q l e) e) (Nat.le_of_eq hlen.symm), hb, R.put hle3 fs3 (upd_dat R.dat (fillOk_dat hfo)), fun i' x' e => ?_⟩
 unfold upd at e
 by_cases hii : i' = i
 ·rw [if_pos hii] at e; cases e
  rw [hii]; exact ⟨L, hL, hfo⟩
 ·rw [if_neg hii] at e; exact hF i' x' e
theorem round_turn {i : Int} {loc : Loc} {Q : Fl × Loc → Store → Prop} (H : RG G σ bk fl) (hi : i ∈ keysI T) (hj : j < 200) (h : RoI G σ r bk fl ver T v1 v2 (.int way) j loc τ) : Wp (bindTo (stLoc L_round_F.names) (sTgt L_round_l1) (.int i) loc >>= exs (cf03 (d + 41)) (sBody L_round_l1) L_round_F.names) τ (Turn (RoI G σ r bk fl ver T v1 v2 (.int way)) Q j) := by
 obtain ⟨v4, W', c', F, rfl, g, hbd, R, hF⟩ := h
 rw [L_round_l1_step]
 refine Wp.step (P := fun b τ' => ∃ c'', LeEx [G.st, G.ml] τ τ' ∧ Gk G τ' W' c'' ∧ c'' ≤ c') (Wp_step (r_div (by decide)) (Wp_step (r_mod (by decide)) (Wp_step rfl (Wp_step rfl (Wp_cond (fun ya => Wp_pure ⟨c', .refl, g, Int.le_refl _⟩) fun ya => (next_gk H.ok g).step fun r' τ' hr => ?_))))) fun b τ₁ hb => ?_
 ·obtain ⟨z, rfl, _, go⟩ := hr
  exact Wp_step (r_mod (by decide)) (Wp_step rfl (Wp_step rfl (Wp_cond (fun ya => Wp_pure ⟨_, go.le, go.gk, go.cc⟩) fun ya => Wp_pure ⟨_, go.le, go.gk, go.cc⟩)))
 ·obtain ⟨c'', hle1, g1, hcc⟩ := hb
  have R1 := H.move hF R hle1
  have hrr := rr_le hcc
  refine Wp_cond (fun ya => ?_) fun ya => Wp_pure (RoI.mk _ W' c'' F rfl g1 (by show _ ≤ 53 + (((j + 1 : Nat)) : Int); lia) ⟨R1.fm, R1.kn, R1.good, let ⟨a, b, c, d, e⟩ := R1.fs; ⟨a, b, c, Nat.le_succ_of_le d, e⟩, R1.dat, R1.tab, R1.pos, R1.ne, R1.base, R1.flb⟩ hF)
  obtain ⟨x, e1, _, L, hL, hE⟩ := r_blank R1.tab hi
  refine Wp_step e1 ((lfill_ok (d := d + 35) H.ok g1 (by lia) hE (Nat.le_succ_of_le H.bk) fun aws ha => fm_labs R1.fm (look_mem hL) ha).step fun y τ₂ hy => ?_)
  obtain ⟨W'', c3, hle2, g2, hW2, hc3, hfo⟩ := hy
  exact (round_set (v1 := v1) (v2 := v2) (v3 := .int way) g2 (by lia) (H.move hF R (hle1.trans hle2)) hF hj hL hfo).step fun ya yb h => Wp_pure h
theorem round_loop (H : RG G σ bk fl) (g : Gk G τ W 25) (hW : W.length ≤ 29) (R : Rs σ bk fl (bk + 1) r ver T τ (fun ya => none) 0) (said : Said G.b W (ev2 12 r)) :
  Wp (srcV (.ref bk) >>= fun s659 => (forAll (cf03 (d + 41)) (sTgt L_round_l1) (sBody L_round_l1) s659 L_round_F.names [some (.ref G.lb), some v1, some v2, some (.int way), some v4, some (.ref G.st), some (.ref G.mt), some r, some (.ref bk), some (.ref fl), none, none, none, none, none, none, none, none, none, none, none, none, none, none, none, none, none, none, none, none] >>= flK retK (L_round_a1 (d + 41)))) τ (True' σ) := by
 have hk200 := keys_len R.tab R.fm R.kn
 refine Wp_step (r_srcD R.tab.cell) ?_
 rw [keys_int R.tab]
 have hr25 : (W.length : Int) + rr 25 ≤ 53 + (0 : Nat) := by have : rr 25 = 24 := rfl; lia
 refine Wp_for (J := fun τ => τ[bk]? = some (.dict ver T)) (calm _) (walks_keys fun ya h => h) (RoI G σ r bk fl ver T v1 v2 (.int way)) (fun j loc τ h => by obtain ⟨_, _, _, _, _, _, _, R, _⟩ := h; exact R.tab.cell) ⟨_, W, 25, fun ya => none, rfl, g, hr25, R, fun ya yb e => (nomatch e)⟩ (fun j x loc τ hx hp => ?_) fun loc τ hp => ?_
 ·rw [List.getElem?_map] at hx
  obtain ⟨i, hi, rfl⟩ := Option.map_eq_some_iff.mp hx
  exact round_turn H (List.mem_of_getElem? hi) (Nat.lt_of_lt_of_le (lt_of_get hi) hk200) hp
 ·obtain ⟨v4, W', c', F, rfl, g, _, R, hF⟩ := hp
  rw [List.length_map] at R
  exact odds_ok R (Nat.le_trans hk200 (by decide)) g.mt ⟨H.ok.b1, H.ok.b2⟩ (fun L => said_not H.ok.b1 said (Nat.lt_of_le_of_lt hW (by decide))) fun e he x hx => by
   obtain ⟨L, hL, hf⟩ := hF e.1 x hx
   rw [good_look R.good he] at hL
   cases hL; exact hf
theorem round_mid (ok : GaOk G) (h0 : σ.length ≤ G.st) (h1 : σ.length ≤ G.ml) (hbk : G.lo ≤ bk) (hlt : bk < τ.length) (g : Gk G τ W 25) (tab : TabE false (bk + 1) τ bk (ev2 12 r) ver T) (l : Le σ τ) (hW : W.length ≤ 29) (fm : Fm 10 12 r) (said : Said G.b W (ev2 12 r)) (h200 : kn 12 r ≤ 200) :
  Wp (newO (.dict 0 []) >>= fun t556 => (srcV (.ref bk) >>= fun s659 => (forAll (cf03 (d + 41)) (sTgt L_round_l1) (sBody L_round_l1) s659 L_round_F.names [some (.ref G.lb), some v1, some v2, some (.int way), some v4, some (.ref G.st), some (.ref G.mt), some r, some (.ref bk), some t556, none, none, none, none, none, none, none, none, none, none, none, none, none, none, none, none, none, none, none, none] >>= flK retK (L_round_a1 (d + 41))))) τ (True' σ) :=
 Wp_step rfl (round_loop (fl := τ.length) ⟨ok, h0, h1, hbk, g.len⟩ (g.le .push) hW ⟨fm, h200, said_good ok.b1 said, ⟨0, [], get_new, Nat.le_refl _, fun ya => rfl⟩, fun ya yb e => (nomatch e), tab.le2 (LeEx.push (X := []) (σ := τ) (o := O.dict 0 [])) (fun ya hm => (nomatch hm)) List.not_mem_nil, Nat.zero_lt_of_lt hlt, Nat.ne_of_gt hlt, LeEx.new l, LeEx.len (X := []) l⟩ said)
theorem round_rest (ok : GaOk G) (h0 : σ.length ≤ G.st) (h1 : σ.length ≤ G.ml) (g : Gk G τ W c) (l : Le σ τ) (hW : W.length ≤ 29) (fm : Fm 10 12 r) (said : Said G.b W (ev2 12 r)) (h200 : kn 12 r ≤ 200) :
  Wp (newO (.dict 0 []) >>= fun t554 => (cl03 (d + 41) "_law_blanks" [r, t554] >>= fun t555 => (setItem (.ref G.st) (V.int 1) (V.int 25) >>= fun ya => (newO (.dict 0 []) >>= fun t556 => (srcV t555 >>= fun s659 => (forAll (cf03 (d + 41)) (sTgt L_round_l1) (sBody L_round_l1) s659 L_round_F.names [some (.ref G.lb), some v1, some v2, some (.int way), some v4, some (.ref G.st), some (.ref G.mt), some r, some t555, some t556, none, none, none, none, none, none, none, none, none, none, none, none, none, none, none, none, none, none, none, none] >>= flK retK (L_round_a1 (d + 41)))))))) τ (True' σ) := by
 have good := said_good ok.b1 said
 have a1 := Nat.lt_of_lt_of_le ok.l1 g.len
 refine Wp_step rfl ((lblanks_ok (k := τ.length) (lo := τ.length + 1) (m := fun i => (look (ev2 12 r) i).getD none) (Nat.zero_lt_of_lt a1) (Nat.lt_succ_self _) fm (d + 41) [] _ (Nat.le_add_left_of_le (by decide)) (by rw [List.length_append]; exact Nat.le_refl _) ⟨0, [], TabE.empty get_new⟩ (fun e he => by
  have := good_look good (show e ∈ ev2 12 r from he)
  show (look (ev2 12 r) e.1).getD none = e.2
  rw [this]; rfl) (by show (0 : Int) + _ ≤ _; lia)).step fun r' σ₃ hr => ?_)
 obtain ⟨l3, hl3, rfl, ver, T, tab⟩ := hr
 have g3 : Gk G σ₃ W c := (g.le (LeEx.push (X := []) (o := O.dict 0 []))).to (fun q l e => l3 _ _ (not1 fun eq => by rw [eq, get_new] at e; cases e) e) hl3
 rw [List.length_append] at hl3
 obtain ⟨s3, es3⟩ := g3.st
 have l4 : LeEx [G.st] σ₃ (σ₃.set G.st (.list [V.int s3, .int 25])) := LeEx.refl.set (List.mem_singleton.mpr rfl)
 exact Wp_step (r_setItem es3 ok.st0 (by decide) (by simp)) (round_mid ok h0 h1 g.len (by rw [len_set]; exact hl3) (g3.set ok s3 25) (tab.le2 l4 (inOne (.inl (Nat.lt_succ_of_lt a1))) (not1 (Nat.ne_of_gt a1))) ((LeEx.after (LeEx.new l) l3 (inOne (.inr (LeEx.len (X := []) l)))).after l4 (inOne (.inr h0))) hW fm said h200)
end
theorem round_ok {d lb : Nat} {ls : List Str} {σ : Store} {seed size way num : Int} (hlb : σ[lb]? = some (.list (ls.map V.str))) (hl : Labs ls) : Wp (cl03 (d + 42) "_law_round" [.ref lb, .int seed, .int size, .int way, .int num]) σ (True' σ) := by
 rw [L_round_sh]
 have hb : 1 ≤ 1 + num % 1000000 ∧ 1 + num % 1000000 ≤ 1000000 := by lia
 have hc : 8 ≤ 8 + size % 23 ∧ 8 + size % 23 ≤ 30 := by lia
 obtain ⟨n, hn, hn5⟩ : ∃ n : Nat, 3 + size / 23 % 4 = (n : Int) + 1 ∧ n ≤ 5 := ⟨(2 + size / 23 % 4).toNat, by lia, by lia⟩
 refine Wp_step (r_mod (by decide)) (Wp_step rfl (Wp_step (r_mod (by decide)) (Wp_step rfl (Wp_step rfl (Wp_step (a := .int 1000000) rfl (Wp_step (r_mod (by decide)) (Wp_step rfl (Wp_step rfl (Wp_step rfl (Wp_step (r_div (by decide)) (Wp_step (r_mod (by decide)) (Wp_step rfl ?_))))))))))))
 rw [hn]
 generalize 1 + num % 1000000 = b at hb
 generalize 8 + size % 23 = c at hc
 generalize 1 + seed % 2147483645 = s
 have hml : (σ ++ [O.list [V.int s, V.int c]]).length = σ.length + 1 := List.length_append
 have hmt : (σ ++ [O.list [V.int s, V.int c]] ++ [O.list []]).length = σ.length + 2 := List.length_append.trans (congrArg (· + 1) hml)
 rw [hmt, hml]
 have ok := ga_ok (lt_of_get hlb) hl hb
 have hr0 : rr c ≤ 29 := by unfold rr; lia
 refine (kind_ok ok n (d + 41) (st3 σ s c b) [] c (by lia) (st3_gk hlb) (by show (0 : Int) + _ ≤ _; lia)).step fun r σ₂ hr => ?_
 obtain ⟨W, c2, go, ko, hkn⟩ := hr
 have hr2 : 0 ≤ rr c2 := by unfold rr; lia
 have hW : W.length ≤ 29 := by have := go.met; have : (([] : List (List Str)).length : Int) = 0 := rfl; lia
 have fm : Fm 10 12 r := ko.fm.up (by lia) (Nat.le_refl _) (by decide)
 have said : Said b W (ev2 12 r) := by rw [show ev2 12 r = ev2 (n + 1) r from ev_up ko.fm (by lia)]; exact ko.said
 have h200 : kn 12 r ≤ 200 := by rw [show kn 12 r = kn (n + 1) r from fold_up ko.fm (by lia)]; lia
 have l2 : Le σ σ₂ := LeEx.after st3_le go.le (inTwo (.inr (Nat.le_refl σ.length)) (.inr (Nat.le_succ σ.length)))
 exact round_rest (G := ga σ.length lb ls b) ok (Nat.le_refl σ.length) (Nat.le_succ σ.length) go.gk l2 hW fm said h200
end Mine.Internal

set_option backward.match.sparseCases false
namespace Mine.Internal
open PySem PyProof.Rows
theorem law03_wp (zs : List Int) : Wp (cl03 60 "law" [.ref 0]) [.list (zs.map .int)] (fun r ya => r = .bool true) := by
 have h0 : ([O.list (zs.map .int)] : Store)[0]? = some (.list (zs.map .int)) := rfl
 generalize ([O.list (zs.map .int)] : Store) = σ at h0
 rw [L_law_sh]
 refine (cell_ok (d := 58) h0 (by decide)).step fun r σ₁ hr => ?_
 obtain ⟨rfl, c0, rfl, _, _⟩ := hr
 refine (labels_ok (d := 58)).step fun r σ₂ hr => ?_
 obtain ⟨hle, lb, ls, rfl, _, hlb, labs⟩ := hr
 have h2 := hle.at h0
 refine Wp_step (r_range (by decide)) (Wp_for (J := fun ya => True) (calm _) walks_vals (fun i loc τ => Le σ₂ τ ∧ ∃ o1 o2, loc = [some (.ref 0), some (.ref lb), o1, o2, none, none, none, none]) (fun ya yb yc yd => trivial) ⟨.refl, _, _, rfl⟩ (fun i x loc τ hx hp => ?_) fun loc τ hp => ?_)
 ·obtain ⟨hle1, o1, o2, rfl⟩ := hp
  obtain ⟨rfl, hi⟩ := range_val hx
  rw [L_law_l1_step]
  have hτ := hle1.at h2
  refine Wp_step (r_range (by decide)) (Wp_comp (J := fun ya => True) (calm _) walks_vals L_law_c1_ok (L_law_c1_in ..) (by rw [range_len]; decide) (fun j acc loc τ' => τ' = τ ∧ (∃ o, loc = [none, o, none, some (.int i), some (.ref 0)]) ∧ ∃ cs : List Int, acc = cs.map V.int ∧ cs.length = j) (fun ya yb yc yd ye => trivial) ⟨rfl, ⟨_, rfl⟩, [], rfl, rfl⟩ (fun j x acc loc τ' hx hp => ?_) fun out loc τ' hp => ?_)
  ·obtain ⟨rfl, ⟨o, rfl⟩, cs, rfl, hl⟩ := hp
   obtain ⟨rfl, hj⟩ := range_val hx
   rw [L_law_c1_bind]
   refine Wp_pure ?_
   rw [L_law_c1_tst]
   refine Wp_pure ?_
   rw [if_pos rfl, L_law_c1_elt]
   refine Wp_step (r_mulL (by decide)) (Wp_step rfl (Wp_step rfl ((cell_ok (d := 58) hτ (by lia)).step fun r τ₁ hr => ?_)))
   obtain ⟨rfl, c, rfl, _⟩ := hr
   exact Wp_pure ⟨rfl, ⟨_, rfl⟩, cs ++ [c], by rw [List.map_append]; rfl, by rw [List.length_append, hl]; rfl⟩
  ·obtain ⟨rfl, _, cs, rfl, hl⟩ := hp
   have hl : cs.length = 4 := hl.trans (by rw [range_len]; rfl)
   match cs, hl with
   | [a, b, c, e], _ =>
    have ec : (τ' ++ [O.list ([a, b, c, e].map V.int)])[τ'.length]? = some (.list [.int a, .int b, .int c, .int e]) := get_new
    refine Wp_step (r_item ec (by decide) rfl) (Wp_step (r_item ec (by decide) rfl) (Wp_step (r_item ec (by decide) rfl) (Wp_step (r_item ec (by decide) rfl) ((round_ok (d := 17) (push_at (hle1.at hlb)) labs).step fun r τ₂ hr => ?_))))
    obtain ⟨rfl, hle2⟩ := hr
    exact Wp_step rfl (Wp_no rfl (Wp_pure ⟨hle1.new.trans hle2, _, _, rfl⟩))
 ·obtain ⟨_, o1, o2, rfl⟩ := hp
  rw [L_law_a1_eq]
  exact Wp_pure rfl
theorem law03 : LawOk tab03 gl03 up03 60 := fun zs ya => by
 obtain ⟨r, σ, e, rfl⟩ := law03_wp zs
 exact ⟨σ, e⟩
end Mine.Internal

open PySem PySem.W PyProof.Rows
set_option tactic.hygienic true in
set_option maxHeartbeats 8000000 in
theorem PySem.Challenge.cw_uf010004_03_holds : PySem.Challenge.rw_uf010004_03.Holds := by
  w_on; refine holds_law (by decide +kernel) fun said => ?_; o_head (Mine.Internal.upsHook Mine.Internal.us03); (case hw => w_witness2)
  intro w s₀ s₁ mg mb G Y fa o pm cd doc dV kV ho hd hcd hD hmg hg args vals as hpre hlay hrd hwl hlo
  have Y : Mine.Internal.UpsSay Mine.Internal.us03 s₁.heap := Y
  refine Ground.open G ?_
  intro T B D TE TW
  have hmg' : mg "law" = some (.ref fa) := hmg
  clear hmg
  clear hd hcd hD
  wrow_args hpre hlay hrd hwl hlo
  rename_i zs _ _ _ _ _ _ _ la vs _ hL _ hw _ hI _ hlen _
  have hB := Mine.Internal.base_of (tab := Mine.Internal.tab03) (gs := Mine.Internal.gs03) Y T (by decide +kernel) (by kernel_rfl) (by decide +kernel) (by decide +kernel)
  refine wpAny_mono (Mine.Internal.law_run hB (by decide +kernel) hmg' (by decide +kernel) (Mine.Internal.list_at hL hw) hI (by omega) Mine.Internal.law03 (Mine.Internal.room_caller (by decide))) (fun v s' hp => ?_) fun _ _ f => f.elim
  obtain ⟨rfl, h1, h2, h3⟩ := hp
  exact GoodW.toG ⟨.inl ⟨_, .bool true, [], rfl, fun _ => by kernel_rfl, .bool true, by kernel_rfl, fun _ => ⟨List.nodup_nil, fun _ hm => absurd hm List.not_mem_nil⟩⟩, h1, h2, h3.trans hg⟩
