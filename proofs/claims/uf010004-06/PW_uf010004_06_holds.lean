import PyProof.Rows.All
import KE.KDictLaws
import KE.KDictOf
import PyProof.ExcAttrAll.ValueError
import Wide.All
import Open.Line
import Wide.FinOn
import PySem.Challenge.RW_uf010004_06
set_option Elab.async false
set_option maxRecDepth 100000
set_option genSizeOfSpec false
set_option genInjectivity false
set_option linter.unusedVariables false
set_option linter.unusedSimpArgs false
set_option tactic.hygienic false
local macro_rules | `(tactic| lia) => `(tactic| first
  | assumption
  | exact Nat.le_of_succ_le_succ ‹_›
  | exact Nat.le_of_succ_le ‹_›
  | exact Nat.le_of_lt ‹_›
  | exact Nat.lt_succ_of_le ‹_›
  | exact Nat.le_succ_of_le ‹_›
  | exact Nat.le_add_left_of_le (Nat.le_of_ble_eq_true rfl)
  | exact Nat.le_trans ‹_ ≤ _› (Nat.le_of_ble_eq_true rfl)
  | exact Nat.lt_of_lt_of_le ‹_ < _› ‹_›
  | exact Nat.lt_of_le_of_lt ‹_ ≤ _› ‹_›
  | exact Nat.le_trans ‹_ ≤ _› ‹_›
  | exact Nat.ne_of_lt ‹_›
  | exact Nat.ne_of_gt ‹_›
  | exact Int.le_trans ‹_ ≤ _› ‹_›
  | exact Int.le_of_lt ‹_›
  | fail)


set_option backward.match.sparseCases false
namespace Mine.Internal
open PySem
inductive V where
 | none
 | bool (b : Bool)
 | int (i : Int)
 | str (s : Str)
 | tup (l : List V)
 | ref (n : Nat)
 deriving Inhabited
noncomputable abbrev Key := Int ⊕ Str
inductive O where
 | list (l : List V)
 | dict (v : Nat) (l : List (Key × V))
 | inst (c : Str) (k : Nat)
 | flds (l : List (Str × V))
 | exc (c : Str) (fs : List (Str × V))
 deriving Inhabited
noncomputable abbrev Store := List O
inductive Res (α : Type) where
 | ok (a : α) (σ : Store)
 | exc (e : V) (σ : Store)
 | bad
noncomputable def Res.bind {α β : Type} (r : Res α) (k : α → Store → Res β) : Res β := match r with
 | .ok a σ => k a σ
 | .exc e σ => .exc e σ
 | .bad => .bad
structure M (α : Type) where
 go : {β : Type} → (α → Store → Res β) → Store → Res β
 nat : ∀ {β : Type} (k : α → Store → Res β) (σ : Store), go k σ = (go Res.ok σ).bind k
noncomputable def M.run {α : Type} (m : M α) (σ : Store) : Res α := m.go Res.ok σ
noncomputable instance {α : Type} : CoeFun (M α) fun ya => Store → Res α := ⟨M.run⟩
namespace M
noncomputable def pure {α : Type} (a : α) : M α := ⟨fun k σ => k a σ, fun ya yb => rfl⟩
noncomputable def bind {α β : Type} (m : M α) (f : α → M β) : M β := ⟨fun k σ => m.go (fun a σ => (f a).go k σ) σ, fun k σ => by
 rw [m.nat, m.nat fun a σ => (f a).go Res.ok σ]
 cases m.go Res.ok σ with
 | ok a σ' => exact (f a).nat k σ'
 | exc e σ' => rfl
 | bad => rfl⟩
noncomputable def bad {α : Type} : M α := ⟨fun ya yb => .bad, fun ya yb => rfl⟩
noncomputable def throw {α : Type} (e : V) : M α := ⟨fun ya σ => .exc e σ, fun ya yb => rfl⟩
noncomputable def tryd {α β : Type} (m : M α) (f : α → M β) (h : V → M β) : M β := ⟨fun k σ => match m.run σ with
 | .ok a σ' => (f a).go k σ'
 | .exc e σ' => (h e).go k σ'
 | .bad => .bad, fun k σ => by
 cases m.run σ with
 | ok a σ' => exact (f a).nat k σ'
 | exc e σ' => exact (h e).nat k σ'
 | bad => rfl⟩
noncomputable def safe {α : Type} (m : M α) : M α := ⟨fun k σ => match m.run σ with
 | .ok a σ' => k a σ'
 | .exc _ _ => .bad
 | .bad => .bad, fun k σ => by cases m.run σ <;> rfl⟩
noncomputable def cond {α : Type} (b : Bool) (m n : M α) : M α := ⟨fun k σ => _root_.cond b (m.go k σ) (n.go k σ), fun k σ => by
 cases b with
 | true => exact m.nat k σ
 | false => exact n.nat k σ⟩
end M
noncomputable instance : Monad M where
 pure := M.pure
 bind := M.bind
noncomputable def getO (n : Nat) : M O := ⟨fun k σ => match σ[n]? with
 | some o => k o σ
 | none => .bad, fun k σ => by cases σ[n]? <;> rfl⟩
noncomputable def setO (n : Nat) (o : O) : M Unit := ⟨fun k σ => if 0 < n ∧ n < σ.length then k () (σ.set n o) else .bad, fun k σ => by
 by_cases h : 0 < n ∧ n < σ.length
 ·rw [if_pos h, if_pos h]; rfl
 ·rw [if_neg h, if_neg h]; rfl⟩
noncomputable def newO (o : O) : M V := ⟨fun k σ => k (.ref σ.length) (σ ++ [o]), fun ya yb => rfl⟩
noncomputable def putD (n : Nat) (l : List (Key × V)) : M Unit := ⟨fun k σ => match σ[n]? with
 | some (.dict v _) => if 0 < n then k () (σ.set n (.dict (v + 1) l)) else .bad
 | _ => .bad, fun k σ => by
 cases σ[n]? with
 | none => rfl
 | some o => cases o with
  | dict v m =>
   dsimp only
   by_cases h : 0 < n
   ·rw [if_pos h, if_pos h]; rfl
   ·rw [if_neg h, if_neg h]; rfl
  | _ => rfl⟩
noncomputable def askS {α : Type} (f : Store → Option α) : M α := ⟨fun k σ => match f σ with
 | some a => k a σ
 | none => .bad, fun k σ => by cases f σ <;> rfl⟩
noncomputable def SOk (x : Str) : Prop := x.length ≤ sizeLine ∧ PyData.strOk x = true
noncomputable instance (x : Str) : Decidable (SOk x) := inferInstanceAs (Decidable (_ ∧ _))
theorem no_some {α : Type} {q : α} {P : Prop} (h : (none : Option α) = some q) : P := nomatch h
theorem bad_ok {α : Type} {a : α} {σ : Store} {P : Prop} (h : (Res.bad : Res α) = .ok a σ) : P := nomatch h
theorem bad_exc {α : Type} {e : V} {σ : Store} {P : Prop} (h : (Res.bad : Res α) = .exc e σ) : P := nomatch h
theorem ok_exc {α : Type} {a : α} {e : V} {σ σ' : Store} {P : Prop} (h : Res.ok a σ = .exc e σ') : P := nomatch h
section
variable {σ : Store}
theorem run_bind {α β : Type} {m : M α} {f : α → M β} : (m >>= f) σ = (m σ).bind fun a σ => f a σ := m.nat _ σ
theorem bind_ok {α β : Type} {m : M α} {f : α → M β} {a : α} {σ' : Store} (h : m σ = .ok a σ') : (m >>= f) σ = f a σ' := by rw [run_bind, h]; rfl
theorem bind_bad {α β : Type} {m : M α} {f : α → M β} (h : m σ = .bad) : (m >>= f) σ = .bad := by rw [run_bind, h]; rfl
theorem bind_exc {α β : Type} {m : M α} {f : α → M β} {e : V} {σ' : Store} (h : m σ = .exc e σ') : (m >>= f) σ = .exc e σ' := by rw [run_bind, h]; rfl
theorem bind_cases {α β : Type} {m : M α} {f : α → M β} (h : (m >>= f) σ ≠ .bad) : (∃ a σ₁, m σ = .ok a σ₁ ∧ (m >>= f) σ = f a σ₁) ∨ ∃ e σ₁, m σ = .exc e σ₁ ∧ (m >>= f) σ = .exc e σ₁ := by
 cases e : m σ with
 | bad => rw [bind_bad e] at h; exact absurd rfl h
 | exc v σ₁ => exact .inr ⟨v, σ₁, rfl, bind_exc e⟩
 | ok a σ₁ => exact .inl ⟨a, σ₁, rfl, bind_ok e⟩
theorem getO_eq (n : Nat) : getO n σ = (match σ[n]? with | some o => .ok o σ | none => .bad) := rfl
theorem setO_eq (n : Nat) (o : O) : setO n o σ = (if 0 < n ∧ n < σ.length then .ok () (σ.set n o) else .bad) := rfl
theorem askS_eq {α : Type} (f : Store → Option α) : askS f σ = (match f σ with | some a => .ok a σ | none => .bad) := rfl
theorem safe_eq {α : Type} (m : M α) : M.safe m σ = (match m σ with | .ok a σ' => .ok a σ' | .exc _ _ => .bad | .bad => .bad) := rfl
theorem tryd_eq {α β : Type} (m : M α) (f : α → M β) (h : V → M β) : M.tryd m f h σ = (match m σ with | .ok a σ' => f a σ' | .exc e σ' => h e σ' | .bad => .bad) := rfl
theorem M.assoc {α β γ : Type} (m : M α) (f : α → M β) (g : β → M γ) : (m >>= f) >>= g = m >>= fun a => f a >>= g := rfl
end
noncomputable def isCompE : Expr → Bool
 | .ListComp _ _ _ _ => true
 | _ => false
noncomputable def isSliceE : Expr → Bool
 | .Slice _ _ _ _ => true
 | _ => false
noncomputable def isAttrE : Expr → Bool
 | .Attribute _ _ _ => true
 | _ => false
theorem keep {G : Prop} (h : ∀ P : Prop, (G → P) → P) : G := h G id
end Mine.Internal

set_option backward.match.sparseCases false
namespace Mine.Internal
open PySem
noncomputable abbrev Loc := List (Option V)
noncomputable abbrev Names := List (Str × NameKind)
noncomputable def slotGo : Names → Str → Nat → Option (Nat × NameKind)
 | [], _, _ => none
 | (y, k) :: r, x, i => match x == y with
  | true => some (i, k)
  | false => slotGo r x (i + 1)
noncomputable def slot (ns : Names) (x : Str) : Option (Nat × NameKind) := slotGo ns x 0
noncomputable def ofOpt {α : Type} : Option α → M α
 | some a => pure a
 | none => M.bad
noncomputable def ldLoc (loc : Loc) (i : Nat) : M V := ofOpt (loc[i]?.join)
noncomputable def stLoc (ns : Names) (x : Str) (v : V) (loc : Loc) : M Loc := match slot ns x with
 | some (i, .local) => pure (loc.set i (some v))
 | some (i, .cell) => pure (loc.set i (some v))
 | _ => M.bad
noncomputable def stLocL (ns : Names) (x : Str) (v : V) (loc : Loc) : M Loc := match slot ns x with
 | some (i, .local) => pure (loc.set i (some v))
 | _ => M.bad
structure Cfg where
 isFn : Str → Bool
 call : Str → List V → M V
 glob : Str → Option V
 calm : Bool
 quiet : Str → List V → M V
 ups : Str → Option (List Str)
 cls : Str → Option (List Str × List Str)
noncomputable def Cfg.hush (C : Cfg) : Cfg := ⟨C.isFn, C.quiet, C.glob, false, C.quiet, C.ups, C.cls⟩
noncomputable def constV : Const → M V
 | .none => pure .none
 | .bool b => pure (.bool b)
 | .int i => pure (.int i)
 | .str s => if SOk s then pure (.str s) else M.bad
 | _ => M.bad
noncomputable def truth : V → M Bool
 | .bool b => pure b
 | _ => M.bad
noncomputable def Small (a : Int) : Prop := -18446744073709551616 < a ∧ a < 18446744073709551616
noncomputable instance (a : Int) : Decidable (Small a) := inferInstanceAs (Decidable (_ ∧ _))
noncomputable def getList (n : Nat) : M (List V) := do
 match ← getO n with
 | .list l => pure l
 | _ => M.bad
noncomputable def keyOf : V → Option Key
 | .int i => some (.inl i)
 | .str s => some (.inr s)
 | _ => none
noncomputable def keyV : Key → V
 | .inl i => .int i
 | .inr s => .str s
noncomputable abbrev Tab := List (Key × V)
noncomputable def dGet (l : Tab) (k : Key) : Option V := (l.find? fun p => p.1 = k).map (·.2)
noncomputable def dSet (l : Tab) (k : Key) (v : V) : Tab := if l.any (fun p => p.1 = k) then l.map (fun p => if p.1 = k then (p.1, v) else p) else l ++ [(k, v)]
noncomputable def intOp (op : Operator) (a b : Int) : M V := match op with
 | .Add => pure (.int (a + b))
 | .Sub => pure (.int (a - b))
 | .Mult => if Small a ∨ Small b then pure (.int (a * b)) else M.bad
 | .FloorDiv => if b ≠ 0 ∧ Small b then pure (.int (a.fdiv b)) else M.bad
 | .Mod => if b ≠ 0 ∧ Small b then pure (.int (a.fmod b)) else M.bad
 | .Pow => if 0 ≤ b ∧ b ≤ 1000 ∧ a.natAbs < 1000 then pure (.int (a ^ b.toNat)) else M.bad
 | _ => M.bad
noncomputable def isAdd : Operator → Bool
 | .Add => true
 | _ => false
noncomputable def addV (a b : V) : M V := match a with
 | .str x => (match b with
  | .str y => if x.length + y.length ≤ sizeLine then pure (.str (x ++ y)) else M.bad
  | _ => M.bad)
 | .tup l => (match b with
  | .tup m => if l.length + m.length ≤ sizeLine then pure (.tup (l ++ m)) else M.bad
  | _ => M.bad)
 | .ref x => (match b with
  | .ref y => do
   let l ← getList x
   let m ← getList y
   if l.length + m.length ≤ sizeLine then newO (.list (l ++ m)) else M.bad
  | _ => M.bad)
 | _ => M.bad
noncomputable def isMul : Operator → Bool
 | .Mult => true
 | _ => false
noncomputable def timesS (x : Str) (n : Nat) : Str := ⟨(List.replicate n x.cps).foldl (· ++ ·) #[]⟩
noncomputable def mulV (a b : V) : M V := match a with
 | .str x => (match b with
  | .int k => if 1 ≤ k ∧ k ≤ 1000 ∧ x.length = 1 then pure (.str (timesS x k.toNat)) else M.bad
  | _ => M.bad)
 | _ => M.bad
noncomputable def binop (op : Operator) (a b : V) : M V := match a with
 | .int x => (match b with
  | .int y => intOp op x y
  | _ => M.bad)
 | _ => cond (isAdd op) (addV a b) (cond (isMul op) (mulV a b) M.bad)
mutual
noncomputable def toPyT (f : Nat → Option PyData) : V → Option PyData
 | .none => some .none
 | .bool b => some (.bool b)
 | .int i => some (.int i)
 | .str s => some (.str s)
 | .tup l => (toPyTs f l).map .tuple
 | .ref n => f n
noncomputable def toPyTs (f : Nat → Option PyData) : List V → Option (List PyData)
 | [] => some []
 | x :: r => match toPyT f x, toPyTs f r with
  | some d, some ds => some (d :: ds)
  | _, _ => none
end
noncomputable def toPyF (σ : Store) : Nat → Nat → Option PyData
 | 0, _ => none
 | k + 1, n => match σ[n]? with
  | some (.list l) => (toPyTs (toPyF σ k) l).map .list
  | _ => none
noncomputable def toPy (σ : Store) (v : V) : Option PyData := toPyT (toPyF σ 4) v
noncomputable def veq (σ : Store) (a b : V) : Option Bool := match toPy σ a, toPy σ b with
 | some x, some y => if min x.depth y.depth ≤ 200 then some (PyData.eqv x y) else none
 | _, _ => none
noncomputable def vin (σ : Store) (x : V) : List V → Option Bool
 | [] => some false
 | y :: r => match veq σ y x, vin σ x r with
  | some e, some t => some (e || t)
  | _, _ => none
noncomputable def strLt (a b : Str) : Bool := decide (a.cps.toList < b.cps.toList)
noncomputable def among (a : V) (n : Nat) : M Bool := do
 match ← getO n with
 | .list l => askS fun σ => vin σ a l
 | .dict _ l => ofOpt ((keyOf a).map fun k => (dGet l k).isSome)
 | _ => M.bad
noncomputable def inV (a b : V) : M Bool := match b with
 | .ref n => among a n
 | _ => M.bad
noncomputable def ordV (f : Int → Int → Bool) (a b : V) : M V := match a with
 | .int x => (match b with
  | .int y => pure (.bool (f x y))
  | _ => M.bad)
 | _ => M.bad
noncomputable def cmp (op : CmpOp) (a b : V) : M V := match op with
 | .Eq => askS fun σ => (veq σ a b).map V.bool
 | .NotEq => askS fun σ => (veq σ a b).map fun e => V.bool (!e)
 | .Lt => ordV (fun x y => decide (x < y)) a b
 | .LtE => ordV (fun x y => decide (x ≤ y)) a b
 | .Gt => ordV (fun x y => decide (y < x)) a b
 | .GtE => ordV (fun x y => decide (y ≤ x)) a b
 | .Is => M.bad
 | .IsNot => M.bad
 | .In => inV a b >>= fun c => pure (V.bool c)
 | .NotIn => inV a b >>= fun c => pure (V.bool (!c))
noncomputable def place (i : Int) (n : Nat) : Option Nat :=
 if 0 ≤ i then (if i < n then some i.toNat else none) else if 0 ≤ i + n then some (i + n).toNat else none
noncomputable def chr1 (c : Nat) : Str := ⟨#[c]⟩
noncomputable def itemL (l : List V) : V → M V
 | .int i => ofOpt ((place i l.length).bind fun k => l[k]?)
 | _ => M.bad
noncomputable def item : V → V → M V
 | .tup l, .int i => ofOpt ((place i l.length).bind fun k => l[k]?)
 | .str s, .int i => ofOpt ((place i s.length).bind fun k => (s.cps[k]?).map fun c => V.str (chr1 c))
 | .ref n, b => do
  match ← getO n with
  | .list l => itemL l b
  | .dict _ l => ofOpt ((keyOf b).bind (dGet l))
  | _ => M.bad
 | _, _ => M.bad
noncomputable def setL (n : Nat) (l : List V) (b v : V) : M Unit := match b with
 | .int i => if 0 ≤ i ∧ i < l.length then setO n (.list (l.set i.toNat v)) else M.bad
 | _ => M.bad
noncomputable def setD (n : Nat) (l : Tab) (b v : V) : M Unit := match keyOf b with
 | some k => if l.length + 1 ≤ sizeLine then putD n (dSet l k v) else M.bad
 | none => M.bad
noncomputable def setItem : V → V → V → M Unit
 | .ref n, b, v => do
  match ← getO n with
  | .list l => setL n l b v
  | .dict _ l => setD n l b v
  | _ => M.bad
 | _, _, _ => M.bad
noncomputable def cut {α : Type} (l : List α) (lo hi : Option Int) : List α :=
 (l.drop (lo.elim 0 (clipAt l.length))).take (hi.elim l.length (clipAt l.length) - lo.elim 0 (clipAt l.length))
noncomputable def cutStr (s : Str) (lo hi : Option Int) : Str := ⟨(cut s.cps.toList lo hi).toArray⟩
noncomputable def sliceV (lo hi : Option Int) : V → M V
 | .str s => pure (.str (cutStr s lo hi))
 | .tup l => pure (.tup (cut l lo hi))
 | .ref n => do
  let l ← getList n
  newO (.list (cut l lo hi))
 | _ => M.bad
noncomputable def bound : V → M (Option Int)
 | .none => pure none
 | .int i => pure (some i)
 | _ => M.bad
inductive Src where
 | vals (l : List V)
 | lst (n : Nat)
noncomputable def listAt (σ : Store) (n : Nat) : Option (List V) := match σ[n]? with
 | some (.list l) => some l
 | _ => none
noncomputable def Src.at (σ : Store) : Src → Nat → Option (Option V)
 | .vals l, i => some l[i]?
 | .lst n, i => (listAt σ n).map fun l => l[i]?
noncomputable def Src.get (s : Src) (i : Nat) : M (Option V) := askS fun σ => s.at σ i
noncomputable def Src.size (σ : Store) : Src → Option Nat
 | .vals l => some l.length
 | .lst n => (listAt σ n).map (·.length)
noncomputable def Src.count (s : Src) : M Nat := askS s.size
noncomputable def srcV : V → M Src
 | .tup l => pure (.vals l)
 | .ref n => do
  match ← getO n with
  | .list _ => pure (.lst n)
  | _ => M.bad
 | _ => M.bad
noncomputable def rangeV (a b : Int) : List V := (List.range (b - a).toNat).map fun (k : Nat) => V.int (a + k)
noncomputable def allStrs : List V → Option (List Str)
 | [] => some []
 | .str s :: r => (allStrs r).map (s :: ·)
 | _ :: _ => none
noncomputable def itemsOf : V → M (List V)
 | .tup l => pure l
 | .ref n => getList n
 | _ => M.bad
noncomputable def bLen : V → M V
 | .tup l => pure (.int l.length)
 | .ref n => do
  let l ← getList n
  pure (.int l.length)
 | _ => M.bad
noncomputable def bList (a : V) : M V := match a with
 | .ref n => do
  let l ← getList n
  newO (.list l)
 | _ => M.bad
noncomputable def putS (x : Str) : List Str → List Str
 | [] => [x]
 | y :: r => if strLt y x then y :: putS x r else x :: y :: r
noncomputable def sortS : List Str → List Str
 | [] => []
 | x :: r => putS x (sortS r)
noncomputable def pairV (p : Str × V) : V := .tup [.str p.1, p.2]
noncomputable def vTup : V → Option (List V)
 | .tup l => some l
 | _ => none
noncomputable def vStr : V → Option Str
 | .str s => some s
 | _ => none
noncomputable def labOf (x : V) : Option (Str × V) := (vTup x).bind fun l => match l with
 | [a, q] => (vStr a).map fun k => (k, q)
 | _ => none
noncomputable def allLabs : List V → Option (List (Str × V))
 | [] => some []
 | x :: r => (labOf x).bind fun p => (allLabs r).map (p :: ·)
noncomputable def putP (x : Str × V) : List (Str × V) → List (Str × V)
 | [] => [x]
 | y :: r => if strLt y.1 x.1 then y :: putP x r else x :: y :: r
noncomputable def sortP : List (Str × V) → List (Str × V)
 | [] => []
 | x :: r => putP x (sortP r)
noncomputable def sortL (l : List V) : Option (List V) := match allStrs l with
 | some ss => some ((sortS ss).map V.str)
 | none => (match allLabs l with
  | some ps => if (ps.map (·.1)).Nodup then some ((sortP ps).map pairV) else none
  | none => none)
noncomputable def bSorted : V → M V
 | .ref n => do
  let l ← getList n
  if l.length < 64 then do
   let r ← ofOpt (sortL l)
   newO (.list r)
  else M.bad
 | _ => M.bad
noncomputable def allBools : List V → Option (List Bool)
 | [] => some []
 | .bool b :: r => (allBools r).map (b :: ·)
 | _ :: _ => none
noncomputable def bAll : V → M V
 | .ref n => do
  let l ← getList n
  let bs ← ofOpt (allBools l)
  pure (.bool (bs.all id))
 | _ => M.bad
noncomputable def pairsOf : List V → Option Tab
 | [] => some []
 | .tup [k, v] :: r => match keyOf k, pairsOf r with
  | some k, some t => some ((k, v) :: t)
  | _, _ => none
 | _ :: _ => none
noncomputable def dMerge (l : Tab) : Tab → Tab
 | [] => l
 | (k, v) :: r => dMerge (dSet l k v) r
noncomputable def bDict : V → M V
 | .tup l => do
  let t ← ofOpt (pairsOf l)
  newO (.dict 0 (dMerge [] t))
 | _ => M.bad
noncomputable def bInt : V → M V
 | .bool b => pure (.int (cond b 1 0))
 | _ => M.bad
noncomputable def bTuple (a : V) : M V := do
 let l ← itemsOf a
 pure (.tup l)
noncomputable def blt (f : Str) : List V → M V
 | [a] =>
  if f = ("len" : Str) then bLen a
  else if f = ("list" : Str) then bList a
  else if f = ("tuple" : Str) then bTuple a
  else if f = ("sorted" : Str) then bSorted a
  else if f = ("dict" : Str) then bDict a
  else if f = ("all" : Str) then bAll a
  else if f = ("int" : Str) then bInt a
  else M.bad
 | _ => M.bad
noncomputable def bltQ (f : Str) : List V → M V
 | [a] => if f = ("int" : Str) then bInt a else M.bad
 | _ => M.bad
inductive Kd where
 | bool | int | str | tuple | list
noncomputable def kdOf (t : Str) : Option Kd :=
 if t = ("bool" : Str) then some .bool
 else if t = ("int" : Str) then some .int
 else if t = ("str" : Str) then some .str
 else if t = ("tuple" : Str) then some .tuple
 else if t = ("list" : Str) then some .list
 else none
noncomputable def isKd : Kd → V → M V
 | _, .none => pure (.bool false)
 | k, .bool _ => pure (.bool (match k with | .bool | .int => true | _ => false))
 | k, .int _ => pure (.bool (match k with | .int => true | _ => false))
 | k, .str _ => pure (.bool (match k with | .str => true | _ => false))
 | k, .tup _ => pure (.bool (match k with | .tuple => true | _ => false))
 | k, .ref n => do
  let _ ← getList n
  pure (.bool (match k with | .list => true | _ => false))
noncomputable def isUp (C : Cfg) (t : Str) : V → M V
 | .ref n => do
  match ← getO n with
  | .exc c _ => ofOpt ((C.ups c).map fun us => V.bool (us.contains t))
  | _ => M.bad
 | _ => M.bad
noncomputable def isiV (C : Cfg) (t : Str) (v : V) : M V := match kdOf t with
 | some k => isKd k v
 | none => if (C.ups t).isSome || t == ("ValueError" : Str) then isUp C t v else M.bad
noncomputable def mAppend : V → V → M V
 | .ref n, a => do
  let l ← getList n
  if l.length + 1 ≤ sizeLine then do
   setO n (.list (l ++ [a]))
   pure .none
  else M.bad
 | _, _ => M.bad
noncomputable def mJoin : V → V → M V
 | .str sep, a => do
  let l ← itemsOf a
  let ss ← ofOpt (allStrs l)
  if (ss.map (·.length)).sum + ss.length * sep.length ≤ 16777216 then pure (.str (Txt.join sep ss)) else M.bad
 | _, _ => M.bad
noncomputable def vidx (σ : Store) (x : V) : List V → Nat → Option Nat
 | [], _ => none
 | y :: r, i => match veq σ y x with
  | some true => some i
  | some false => vidx σ x r (i + 1)
  | none => none
noncomputable def mIndex : V → V → M V
 | .ref n, a => do
  let l ← getList n
  askS fun σ => match vin σ a l with
   | some true => (vidx σ a l 0).map fun (k : Nat) => V.int (k : Int)
   | _ => none
 | _, _ => M.bad
inductive MTag where
 | append | join | index
 | own (c : Str)
noncomputable def instAt (σ : Store) (n : Nat) : Option Str := match σ[n]? with
 | some (.inst c _) => some c
 | _ => none
noncomputable def isListAt (σ : Store) (n : Nat) : Bool := match σ[n]? with
 | some (.list _) => true
 | _ => false
noncomputable def fldsAt (σ : Store) (n : Nat) : Option (List (Str × V)) := match σ[n]? with
 | some (.inst _ k) => (match σ[k]? with
  | some (.flds l) => some l
  | _ => none)
 | _ => none
noncomputable def methName (c m : Str) : Str := c ++ ("." ++ m)
noncomputable def ownM (C : Cfg) (m : Str) (σ : Store) (n : Nat) : Option Str := (instAt σ n).bind fun c => (C.cls c).bind fun ms => (fldsAt σ n).bind fun l =>
 if ms.1.contains m && (l.lookup m).isNone then some c else none
noncomputable def mtag (C : Cfg) (v : V) (m : Str) (σ : Store) : Option MTag := match v with
 | .str _ => if m = ("join" : Str) then some .join else none
 | .ref n => if isListAt σ n then (if m = ("append" : Str) then some .append else if m = ("index" : Str) then some .index else none)
  else (ownM C m σ n).map .own
 | _ => none
noncomputable def runM (C : Cfg) (m : Str) : MTag → V → List V → M V
 | .own c, o, as => C.call (methName c m) (o :: as)
 | .append, o, [a] => mAppend o a
 | .join, o, [a] => mJoin o a
 | .index, o, [a] => mIndex o a
 | _, _, _ => M.bad
noncomputable def newI (c : Str) : M V := ⟨fun k σ => k (.ref (σ.length + 1)) (σ ++ [.flds [], .inst c σ.length]), fun ya yb => rfl⟩
noncomputable def ifNone {α : Type} (r : V) (m : M α) : M α := ⟨fun k σ => match r with
 | .none => m.go k σ
 | _ => .bad, fun k σ => by
 cases r with
 | none => exact m.nat k σ
 | _ => rfl⟩
noncomputable def mkI (C : Cfg) (c : Str) (vs : List V) : M V := do
 let o ← newI c
 let r ← C.call (methName c "__init__") (o :: vs)
 ifNone r (pure o)
noncomputable def putF (n : Nat) (m : Str) (v : V) : M Unit := ⟨fun k σ => match σ[n]? with
 | some (.inst _ j) => (match σ[j]? with
  | some (.flds l) => if 0 < j ∧ l.length + 1 ≤ sizeLine then k () (σ.set j (.flds ((m, v) :: l))) else .bad
  | _ => .bad)
 | _ => .bad, fun k σ => by
 cases σ[n]? with
 | none => rfl
 | some o => cases o with
  | inst c j =>
   dsimp only
   cases σ[j]? with
   | none => rfl
   | some o => cases o with
    | flds l =>
     dsimp only
     by_cases h : 0 < j ∧ l.length + 1 ≤ sizeLine
     ·rw [if_pos h, if_pos h]; rfl
     ·rw [if_neg h, if_neg h]; rfl
    | _ => rfl
  | _ => rfl⟩
noncomputable def setAttrV (C : Cfg) (m : Str) (v : V) : V → M Unit
 | .ref n => do
  let _ ← askS fun σ => (instAt σ n).bind fun c => (C.cls c).bind fun ms => if ms.2.contains m then some () else none
  putF n m v
 | _ => M.bad
noncomputable def attrV (C : Cfg) (m : Str) : V → M V
 | .ref n => askS fun σ => (instAt σ n).bind fun c => (C.cls c).bind fun ms => if ms.2.contains m then (fldsAt σ n).bind fun l => l.lookup m else none
 | _ => M.bad
inductive Fl where
 | next | brk | cont
 | ret (v : V)
noncomputable def relab (ns : Names) (names : Names) : Names := names.map fun (x, k) => if k == .free && ns.lookup x == some .cell then (x, .cell) else (x, k)
noncomputable def innerLoc (ns : Names) (loc : Loc) : Names → M Loc
 | [] => pure []
 | (x, .free) :: r => (match slot ns x with
  | some (i, .cell) => do
   let t ← innerLoc ns loc r
   pure (((loc[i]?).getD none) :: t)
  | _ => M.bad)
 | (_, .cell) :: _ => M.bad
 | (_, _) :: r => do
  let t ← innerLoc ns loc r
  pure (none :: t)
noncomputable def isGlob (ns : Names) (x : Str) : Bool := match slot ns x with
 | some (_, .globalImplicit) => !(x == ("__debug__" : Str))
 | _ => false
noncomputable def compLoop (s : Src) (bindT : V → Loc → M Loc) (tests : Loc → M Bool) (elt : Loc → M V) : Nat → Nat → Loc → M (List V)
 | 0, _, _ => M.bad
 | k + 1, i, loc => do
  match ← s.get i with
  | none => pure []
  | some v => do
   let loc' ← bindT v loc
   if ← tests loc' then do
    let x ← elt loc'
    let r ← compLoop s bindT tests elt k (i + 1) loc'
    pure (x :: r)
   else compLoop s bindT tests elt k (i + 1) loc'
noncomputable def nm1 : Expr → Option (Str × Pos)
 | .Name x p => some (x, p)
 | _ => none
noncomputable def nms : List Expr → Option (List (Str × Pos))
 | [] => some []
 | t :: ts => (nm1 t).bind fun q => (nms ts).map fun qs => q :: qs
noncomputable def bindX (st : Str → V → Loc → M Loc) : List (Str × Pos) → List V → Loc → M Loc
 | [], [], loc => pure loc
 | q :: qs, v :: vs, loc => do
  let loc' ← st q.1 v loc
  bindX st qs vs loc'
 | _, _, _ => M.bad
noncomputable def bindNames (st : Str → V → Loc → M Loc) (ts : List Expr) (l : List V) (loc : Loc) : M Loc := match nms ts with
 | some qs => bindX st qs l loc
 | none => M.bad
noncomputable def tgt1 : Expr → Option (List Expr × Nat × Pos)
 | .Tuple ts k p => some (ts, k, p)
 | _ => none
noncomputable def bindTo (st : Str → V → Loc → M Loc) (t : Expr) (v : V) (loc : Loc) : M Loc := match nm1 t with
 | some q => st q.1 v loc
 | none => match tgt1 t with
  | some q => (match v with
   | .tup l => bindNames st q.1 l loc
   | _ => M.bad)
  | none => M.bad
noncomputable def ldName (C : Cfg) (ns : Names) (x : Str) (loc : Loc) : M V := match slot ns x with
 | some (i, .local) => ldLoc loc i
 | some (i, .cell) => ldLoc loc i
 | some (_, .globalImplicit) => ofOpt (C.glob x)
 | _ => M.bad
noncomputable def isSuper : Expr → Bool
 | .Call (.Name _ _) [] [] _ => true
 | _ => false
noncomputable def isStarE : Expr → Bool
 | .Starred _ _ => true
 | _ => false
noncomputable def noStars (es : List Expr) : Bool := es.all fun e => !isStarE e
noncomputable def bltTab : List Str := ["isinstance", "len", "list", "tuple", "sorted", "dict", "all", "int"]
noncomputable def callOk (C : Cfg) (ns : Names) (f : Str) (es : List Expr) : Bool := isGlob ns f && (noStars es && (C.isFn f || ((C.cls f).isSome || bltTab.contains f)))
noncomputable def nameIn (e : Expr) : Option {t : Str // ∃ p, e = .Name t p} := match e with
 | .Name t p => some ⟨t, p, rfl⟩
 | _ => none
noncomputable def intIn (e : Expr) : Option {i : Int // ∃ k p, e = .Constant (.int i) k p} := match e with
 | .Constant c k p => (match c with
  | .int i => some ⟨i, k, p, rfl⟩
  | _ => none)
 | _ => none
noncomputable def subIn (e : Expr) : Option {q : Expr × Expr × Pos // e = .Subscript q.1 q.2.1 q.2.2} := match e with
 | .Subscript o i p => some ⟨(o, i, p), rfl⟩
 | _ => none
noncomputable def callIn (e : Expr) : Option {q : Expr × List Expr × Pos // e = .Call q.1 q.2.1 [] q.2.2} := match e with
 | .Call f as ks p => (match ks with
  | [] => some ⟨(f, as, p), rfl⟩
  | _ :: _ => none)
 | _ => none
noncomputable def oneIn (l : List Expr) : Option {t : Expr // l = [t]} := match l with
 | [t] => some ⟨t, rfl⟩
 | _ => none
noncomputable def attrIn (e : Expr) : Option {q : Expr × Str × Pos // e = .Attribute q.1 q.2.1 q.2.2} := match e with
 | .Attribute o m p => some ⟨(o, m, p), rfl⟩
 | _ => none
noncomputable def tupIn (e : Expr) : Option {q : List Expr × Nat × Pos // e = .Tuple q.1 q.2.1 q.2.2} := match e with
 | .Tuple ts k p => some ⟨(ts, k, p), rfl⟩
 | _ => none
noncomputable def nameOf (e : Expr) : Option Str := (nameIn e).map (·.1)
noncomputable def callGlob (C : Cfg) (f : Str) (vs : List V) : M V := if C.isFn f then C.call f vs else if (C.cls f).isSome then mkI C f vs else if C.calm then blt f vs else bltQ f vs
noncomputable def rangeOf : V → M Src
 | .int n => if -1000000 ≤ n ∧ n ≤ 1000000 then pure (.vals (rangeV 0 n)) else M.bad
 | _ => M.bad
noncomputable def tgtOk (_ : Src) (_ : Expr) : Bool := true
noncomputable def compOk (k : ScopeKind) (names : Names) : Bool := (match k with | .function => true | _ => false) &&
 names.all fun p => match p.2 with
  | .local => (match names.lookup p.1 with | some .local => true | _ => false)
  | _ => true
noncomputable def srcTag (C : Cfg) (ns : Names) (f : Str) : Nat := if isGlob ns f && !C.isFn f then (if f = ("range" : Str) then 1 else 0) else 0
noncomputable def boolK {α : Type} (x : V) (yes no : M α) : M α := ⟨fun k σ => match x with
 | .bool b => cond b (yes.go k σ) (no.go k σ)
 | _ => .bad, fun k σ => by
 cases x with
 | bool b => cases b with
  | true => exact yes.nat k σ
  | false => exact no.nat k σ
 | _ => rfl⟩
mutual
noncomputable def ev (C : Cfg) : Expr → Names → Loc → M V
 | .Constant c _ _, _, _ => constV c
 | .Name x _, ns, loc => if x = ("__debug__" : Str) then M.bad else ldName C ns x loc
 | .BinOp l op r _, ns, loc => do
  let a ← ev C l ns loc
  let b ← ev C r ns loc
  binop op a b
 | .UnaryOp op x _, ns, loc => (match op with
  | .Not => do
   let a ← ev C x ns loc
   let t ← truth a
   pure (.bool (!t))
  | .USub => (match intIn x with
   | some i => pure (.int (-i.1))
   | none => M.bad)
  | _ => M.bad)
 | .BoolOp op vs _, ns, loc => evBool C vs op ns loc
 | .Compare l [op] [r] _, ns, loc => do
  let a ← ev C l ns loc
  let b ← ev C r ns loc
  cmp op a b
 | .Compare l [op, op2] [m, r] _, ns, loc => do
  let a ← ev C l ns loc
  let b ← ev C m ns loc
  let x ← cmp op a b
  boolK x (do
   let c ← ev C r ns loc
   cmp op2 b c) (pure (.bool false))
 | .Dict [] [] _, _, _ => newO (.dict 0 [])
 | .IfExp t a b _, ns, loc => do
  let c ← tst C t ns loc (ev C t ns loc)
  M.cond c (ev C a ns loc) (ev C b ns loc)
 | .Subscript o (.Slice lo hi none _) _, ns, loc => do
  let a ← ev C o ns loc
  let l ← evOpt C lo ns loc
  let h ← evOpt C hi ns loc
  let l' ← bound l
  let h' ← bound h
  sliceV l' h' a
 | .Subscript o i _, ns, loc => do
  let a ← ev C o ns loc
  let b ← ev C i ns loc
  item a b
 | .List es _, ns, loc => do
  let vs ← evs C es ns loc
  if vs.length ≤ sizeLine then newO (.list vs) else M.bad
 | .Tuple es _ _, ns, loc => do
  let vs ← evs C es ns loc
  if vs.length ≤ sizeLine then pure (.tup vs) else M.bad
 | .Call (.Name f _) as [] _, ns, loc =>
  if callOk C ns f as then
   (if f = ("isinstance" : Str) then evIsi C as ns loc
   else do
    let vs ← evs C as ns loc
    callGlob C f vs)
  else M.bad
 | .Call (.Attribute o m ap) as [] p, ns, loc =>
  if ap.endLine = p.line ∧ as.length < 30 ∧ isSuper o = false ∧ noStars as = true then do
   let v ← ev C o ns loc
   let tg ← askS (mtag C v m)
   let vs ← evs C as ns loc
   runM C m tg v vs
  else M.bad
 | .Attribute o m _, ns, loc => if isSuper o = false then do
   let v ← ev C o ns loc
   attrV C m v
  else M.bad
 | .ListComp elt [⟨target, iter, ifs, 0⟩] scope _, ns, loc => do
  let s ← src C iter ns loc (ev C iter ns loc)
  if C.calm && (tgtOk s target && compOk scope.kind scope.names) then do
   let n ← s.count
   if n ≤ sizeLine then do
    let loc' ← innerLoc ns loc scope.names
    let l ← compLoop s (bindTo (stLocL (relab ns scope.names)) target) (tests C ifs (relab ns scope.names)) (ev C elt (relab ns scope.names)) (n + 1) 0 loc'
    newO (.list l)
   else M.bad
  else M.bad
 | _, _, _ => M.bad
noncomputable def evOpt (C : Cfg) : Option Expr → Names → Loc → M V
 | none, _, _ => pure .none
 | some e, ns, loc => ev C e ns loc
noncomputable def evs (C : Cfg) : List Expr → Names → Loc → M (List V)
 | [], _, _ => pure []
 | e :: r, ns, loc => do
  let v ← ev C e ns loc
  let vs ← evs C r ns loc
  pure (v :: vs)
noncomputable def evIsi (C : Cfg) : List Expr → Names → Loc → M V
 | [a, b], ns, loc => match nameOf b with
  | some t => if isGlob ns t then do
    let v ← ev C a ns loc
    isiV C t v
   else M.bad
  | none => M.bad
 | _, _, _ => M.bad
noncomputable def evBool (C : Cfg) : List Expr → BoolOp → Names → Loc → M V
 | [], _, _, _ => M.bad
 | e :: r, op, ns, loc => do
  let v ← ev C e ns loc
  match r with
  | [] => pure v
  | _ :: _ => do
   let t ← truth v
   match op with
   | .And => M.cond t (evBool C r op ns loc) (pure v)
   | .Or => M.cond t (pure v) (evBool C r op ns loc)
noncomputable def tst (C : Cfg) : Expr → Names → Loc → M V → M Bool
 | .UnaryOp .Not x _, ns, loc, _ => do
  let b ← tst C x ns loc (ev C x ns loc)
  pure (!b)
 | .BoolOp op vs _, ns, loc, _ => tstAll C vs op ns loc
 | .IfExp t a b _, ns, loc, _ => do
  let c ← tst C t ns loc (ev C t ns loc)
  M.cond c (tst C a ns loc (ev C a ns loc)) (tst C b ns loc (ev C b ns loc))
 | _, _, _, whole => do
  let v ← whole
  truth v
noncomputable def tstAll (C : Cfg) : List Expr → BoolOp → Names → Loc → M Bool
 | [], op, _, _ => pure (op == .And)
 | e :: r, op, ns, loc => do
  let b ← tst C e ns loc (ev C e ns loc)
  match op with
  | .And => M.cond b (tstAll C r op ns loc) (pure false)
  | .Or => M.cond b (pure true) (tstAll C r op ns loc)
noncomputable def tests (C : Cfg) : List Expr → Names → Loc → M Bool
 | [], _, _ => pure true
 | e :: r, ns, loc => match r with
  | [] => tst C e ns loc (ev C e ns loc)
  | _ :: _ => M.bad
noncomputable def src (C : Cfg) : Expr → Names → Loc → M V → M Src
 | .Call (.Name f _) as [] _, ns, loc, whole =>
  (match as with
  | [a] => if srcTag C ns f = 1 then (do
    let v ← ev C a ns loc
    rangeOf v)
   else (do
    let v ← whole
    srcV v)
  | _ => do
   let v ← whole
   srcV v)
 | _, _, _, whole => do
  let v ← whole
  srcV v
end
noncomputable def raiseV (C : Cfg) (c : Str) : M (Fl × Loc) := match C.ups c with
 | some _ => do
  let e ← newO (.exc c [])
  M.throw e
 | none => M.bad
noncomputable def excIs (C : Cfg) (t : Str) : V → M Bool
 | .ref n => do
  match ← getO n with
  | .exc c _ => ofOpt ((C.ups c).map fun us => us.contains t)
  | _ => M.bad
 | _ => M.bad
noncomputable def dropLoc (loc : Loc) : Loc := loc.map fun ya => none
noncomputable def clause (C : Cfg) (ns : Names) (loc : Loc) (t : Str) (nm : Option Str) (body : Loc → M (Fl × Loc)) (e : V) : M (Fl × Loc) := do
 if ← excIs C t e then (match nm with
  | none => M.safe (body loc)
  | some x => do
   let loc' ← stLocL ns x e loc
   let r ← M.safe (body loc')
   pure (r.1, dropLoc r.2))
 else M.bad
noncomputable def textOf (e : Expr) : Option {x : Str // ∃ k p, e = .Constant (.str x) k p} := match e with
 | .Constant (.str x) k p => some ⟨x, k, p, rfl⟩
 | _ => none
noncomputable def madeOf (e : Expr) : Option {q : Str × Expr // ∃ p r, e = .Call (.Name q.1 p) [q.2] [] r} := match e with
 | .Call (.Name c p) [a] [] r => some ⟨(c, a), p, r, rfl⟩
 | _ => none
noncomputable def raiseOf (C : Cfg) (ns : Names) (c : Str) (a : Expr) : M (Fl × Loc) := match textOf a with
 | some x => if C.calm && (isGlob ns c && decide (SOk x.1)) then raiseV C c else M.bad
 | none => M.bad
noncomputable def exRaise (C : Cfg) (ns : Names) : Option Expr → Option Expr → M (Fl × Loc)
 | some e, none => (match madeOf e with
  | some q => raiseOf C ns q.1.1 q.1.2
  | none => M.bad)
 | _, _ => M.bad
inductive TryF where
 | ret (e : Expr)
 | run (e : Expr)
noncomputable def TryF.expr : TryF → Expr
 | .ret e => e
 | .run e => e
inductive TryIs : Stmt → TryF → Prop
 | ret (e : Expr) (p : Pos) : TryIs (.Return (some e) p) (.ret e)
 | run (f : Expr) (as : List Expr) (p q : Pos) : TryIs (.Expr (.Call f as [] p) q) (.run (.Call f as [] p))
noncomputable def tryOne (st : Stmt) : Option {f : TryF // TryIs st f} := match st with
 | .Return (some e) p => some ⟨.ret e, .ret e p⟩
 | .Expr (.Call f as [] p) q => some ⟨.run (.Call f as [] p), .run f as p q⟩
 | _ => none
noncomputable def tryOf : List Stmt → Option TryF
 | [st] => (tryOne st).map (·.1)
 | _ => none
noncomputable def tryEnd (loc : Loc) : TryF → V → M (Fl × Loc)
 | .ret _, v => pure (.ret v, loc)
 | .run _, _ => pure (.next, loc)
noncomputable def flK {α : Type} (K : Fl × Loc → M α) (next : Loc → M α) (r : Fl × Loc) : M α := ⟨fun k σ => match r.1 with
 | .next => (next r.2).go k σ
 | f => (K (f, r.2)).go k σ, fun k σ => by
 obtain ⟨f, loc⟩ := r
 cases f with
 | next => exact (next loc).nat k σ
 | brk => exact (K (.brk, loc)).nat k σ
 | cont => exact (K (.cont, loc)).nat k σ
 | ret v => exact (K (.ret v, loc)).nat k σ⟩
noncomputable def andThen (r : Fl × Loc) (k : Loc → M (Fl × Loc)) : M (Fl × Loc) := flK (fun x => pure x) k r
noncomputable def forLoop (s : Src) (bindT : V → Loc → M Loc) (body : Loc → M (Fl × Loc)) : Nat → Nat → Loc → M (Fl × Loc)
 | 0, _, _ => M.bad
 | k + 1, i, loc => do
  match ← s.get i with
  | none => pure (.next, loc)
  | some v => do
   let loc' ← bindT v loc
   let r ← body loc'
   match r.1 with
   | .next => forLoop s bindT body k (i + 1) r.2
   | .cont => forLoop s bindT body k (i + 1) r.2
   | .brk => pure (.next, r.2)
   | .ret v => pure (.ret v, r.2)
noncomputable def exAsg (C : Cfg) (t value : Expr) (ns : Names) (loc : Loc) : M (Fl × Loc) := match nameIn t with
 | some x => do
  let v ← ev C value ns loc
  let loc' ← stLoc ns x.1 v loc
  pure (.next, loc')
 | none => match subIn t with
  | some q => do
   let v ← ev C value ns loc
   let a ← ev C q.1.1 ns loc
   let b ← ev C q.1.2.1 ns loc
   setItem a b v
   pure (.next, loc)
  | none => match attrIn t with
   | some q => do
    let v ← ev C value ns loc
    let a ← ev C q.1.1 ns loc
    setAttrV C q.1.2.1 v a
    pure (.next, loc)
   | none => match tupIn t with
    | some _ => if C.calm && (tupIn value).isNone then do
      let v ← ev C value ns loc
      let loc' ← bindTo (stLoc ns) t v loc
      pure (.next, loc')
     else M.bad
    | none => M.bad
mutual
noncomputable def ex (C : Cfg) : Stmt → Names → Loc → M (Fl × Loc)
 | .Expr e _, ns, loc => (match callIn e with
  | some _ => do
   let _ ← ev C e ns loc
   pure (.next, loc)
  | none => M.bad)
 | .Pass _, _, loc => pure (.next, loc)
 | .Return none _, _, loc => pure (.ret .none, loc)
 | .Return (some e) _, ns, loc => do
  let v ← ev C e ns loc
  pure (.ret v, loc)
 | .Assign ts value _, ns, loc => (match oneIn ts with
  | some t => exAsg C t.1 value ns loc
  | none => M.bad)
 | .If t a b _, ns, loc => do
  let c ← tst C t ns loc (ev C t ns loc)
  M.cond c (exs C a ns loc) (exs C b ns loc)
 | .For target iter body [] _, ns, loc => do
  let s ← src C iter ns loc (ev C iter ns loc)
  if C.calm && tgtOk s target then do
   let n ← s.count
   forLoop s (bindTo (stLoc ns) target) (exs C body ns) (n + 1) 0 loc
  else M.bad
 | .Raise e c _, ns, _ => exRaise C ns e c
 | .Try body hs els fin _, ns, loc => if C.calm && (els.isEmpty && (fin.isEmpty && !hs.isEmpty)) then (match tryOf body with
  | some f => M.tryd (ev C f.expr ns loc) (tryEnd loc f) (exH C hs ns loc)
  | none => M.bad) else M.bad
 | _, _, _ => M.bad
noncomputable def exs (C : Cfg) : List Stmt → Names → Loc → M (Fl × Loc)
 | [], _, loc => pure (.next, loc)
 | s :: r, ns, loc => do
  let x ← ex C s ns loc
  andThen x (exs C r ns)
noncomputable def exH (C : Cfg) : List ExceptHandler → Names → Loc → V → M (Fl × Loc)
 | [.ExceptHandler (some ty) nm (b :: bs) _], ns, loc, e => (match nameIn ty with
  | some t => if isGlob ns t.1 && (C.ups t.1).isSome then clause C ns loc t.1 nm (exs C.hush (b :: bs) ns) e else M.bad
  | none => M.bad)
 | _, _, _, _ => M.bad
end
structure Fn where
 params : List Str
 names : Names
 body : List Stmt
noncomputable def initLoc (params : List Str) (args : List V) : Names → Loc
 | [] => []
 | (x, _) :: r => ((params.zip args).lookup x) :: initLoc params args r
noncomputable def callFn (C : Cfg) (f : Fn) (args : List V) : M V :=
 if args.length = f.params.length then do
  let r ← exs C f.body f.names (initLoc f.params args f.names)
  pure (match r.1 with | .ret v => v | _ => .none)
 else M.bad
structure Tabs where
 fns : Str → Option Fn
 ms : Str → Option Fn
 glob : Str → Option V
 ups : Str → Option (List Str)
 cls : Str → Option (List Str × List Str)
noncomputable def Tabs.at (T : Tabs) (f : Str) : Option Fn := (T.fns f).or (T.ms f)
noncomputable def callN (T : Tabs) : Nat → Bool → Str → List V → M V
 | 0, _, _, _ => M.bad
 | n + 1, q, f, args => match T.at f with
  | some fn => callFn ⟨fun x => (T.fns x).isSome, callN T n q, T.glob, q, callN T n false, T.ups, T.cls⟩ fn args
  | none => M.bad
end Mine.Internal

set_option backward.match.sparseCases false
namespace Mine.Internal
open PySem
section
variable {σ : Store} {loc : Loc}
theorem rangeV_get (a b : Int) (i : Nat) : (rangeV a b)[i]? = if i < (b - a).toNat then some (.int (a + i)) else none := by
 unfold rangeV
 rw [List.getElem?_map]
 by_cases h : i < (b - a).toNat
 ·rw [if_pos h, List.getElem?_range h]; rfl
 ·rw [if_neg h, List.getElem?_eq_none (by simpa using h)]; rfl
theorem bind_inv {α β : Type} {m : M α} {f : α → M β} {b : β} {σ₂ : Store} (h : (m >>= f) σ = .ok b σ₂) : ∃ a σ₁, m σ = .ok a σ₁ ∧ f a σ₁ = .ok b σ₂ := by
 cases e : m σ with
 | bad => rw [bind_bad e] at h; cases h
 | exc _ _ => rw [bind_exc e] at h; cases h
 | ok a σ₁ => rw [bind_ok e] at h; exact ⟨a, σ₁, rfl, h⟩
theorem compLoop_step {sr : Src} {bt : V → Loc → M Loc} {tt : Loc → M Bool} {et : Loc → M V} {k i : Nat} {o : Option V} (h : sr.at σ i = some o) : compLoop sr bt tt et (k + 1) i loc σ =
  (match o with | none => (pure [] : M (List V)) | some v => (bt v loc >>= fun loc' => tt loc' >>= fun c => if c = true then (et loc' >>= fun x => compLoop sr bt tt et k (i + 1) loc' >>= fun r => pure (x :: r)) else compLoop sr bt tt et k (i + 1) loc')) σ := by
 show (sr.get i >>= _) σ = _
 refine (bind_ok (a := o) (σ' := σ) (by unfold Src.get; rw [askS_eq, h])).trans ?_
 cases o <;> rfl
theorem compLoop_bad {sr : Src} {bt : V → Loc → M Loc} {tt : Loc → M Bool} {et : Loc → M V} {k i : Nat} (h : sr.at σ i = none) : compLoop sr bt tt et (k + 1) i loc σ = .bad := by
 show (sr.get i >>= _) σ = _
 rw [bind_bad (by unfold Src.get; rw [askS_eq, h])]
theorem forLoop_step {sr : Src} {bt : V → Loc → M Loc} {body : Loc → M (Fl × Loc)} {k i : Nat} {o : Option V} (h : sr.at σ i = some o) : forLoop sr bt body (k + 1) i loc σ =
  (match o with | none => (pure (.next, loc) : M (Fl × Loc)) | some v => (bt v loc >>= fun loc' => body loc' >>= fun r => match r.1 with
   | .next => forLoop sr bt body k (i + 1) r.2
   | .cont => forLoop sr bt body k (i + 1) r.2
   | .brk => pure (.next, r.2)
   | .ret v => pure (.ret v, r.2))) σ := by
 show (sr.get i >>= _) σ = _
 refine (bind_ok (a := o) (σ' := σ) (by unfold Src.get; rw [askS_eq, h])).trans ?_
 cases o <;> rfl
theorem getList_eq (n : Nat) : getList n σ = (match σ[n]? with | some (.list l) => .ok l σ | _ => .bad) := by
 unfold getList
 cases e : σ[n]? with
 | none => rw [bind_bad (by rw [getO_eq, e])]
 | some o =>
  rw [bind_ok (a := o) (σ' := σ) (by rw [getO_eq, e])]
  cases o <;> rfl
theorem length_append (x y : Str) : (x ++ y).length = x.length + y.length := by
 show (x.cps ++ y.cps).size = _
 exact Array.size_append ..
theorem cut_length_le {α : Type} (l : List α) (lo hi : Option Int) : (Mine.Internal.cut l lo hi).length ≤ l.length := by
 unfold Mine.Internal.cut
 rw [List.length_take, List.length_drop]; exact Nat.le_trans (Nat.min_le_right _ _) (Nat.sub_le _ _)
theorem setO_ok {n : Nat} {o : O} (hpos : 0 < n) (hn : n < σ.length) : setO n o σ = .ok () (σ.set n o) := by rw [setO_eq, if_pos ⟨hpos, hn⟩]
theorem sub_step {i j : Nat} (h : i + 1 ≤ j) : j - i = (j - (i + 1)) + 1 := by (first | lia | omega)
theorem up1 {n d : Nat} (h : n < d) : ∃ e, d = e + 1 := by
 cases d with
 | zero => exact absurd h (Nat.not_lt_zero _)
 | succ e => exact ⟨e, rfl⟩
theorem lt_of_get {α : Type} {l : List α} {n : Nat} {a : α} (h : l[n]? = some a) : n < l.length := by
 rcases Nat.lt_or_ge n l.length with hl | hl
 ·exact hl
 ·rw [List.getElem?_eq_none hl] at h; cases h
theorem putD_ok {n v : Nat} {l m : Tab} (hpos : 0 < n) (h : σ[n]? = some (.dict v l)) : putD n m σ = .ok () (σ.set n (.dict (v + 1) m)) := by
 show (match σ[n]? with | some (.dict v _) => if 0 < n then Res.ok () (σ.set n (.dict (v + 1) m)) else .bad | _ => .bad) = _
 rw [h]; exact if_pos hpos
theorem putD_bad {n : Nat} {m : Tab} (hpos : ¬0 < n) : putD n m σ = .bad := by
 show (match σ[n]? with | some (.dict v _) => if 0 < n then Res.ok () (σ.set n (.dict (v + 1) m)) else .bad | _ => .bad) = _
 cases σ[n]? with
 | none => rfl
 | some o => cases o with
  | dict v l => exact if_neg hpos
  | _ => rfl
theorem setO_bad {n : Nat} {o : O} (hpos : ¬ 0 < n) : setO n o σ = .bad := by rw [setO_eq, if_neg fun h => hpos h.1]
end
end Mine.Internal

set_option backward.match.sparseCases false
namespace Mine.Internal
open PySem PyProof.Rows
noncomputable abbrev Map := List (Addr × Nat)
noncomputable def tupO (vs : List Value) (n : Nat) : Obj := { cls := .type "tuple", data := .seq vs.toArray n }
noncomputable def listO (vs : List Value) (n : Nat) : Obj := { cls := .type "list", data := .seq vs.toArray n }
mutual
inductive Rel (ρ : Map) (h : Heap) : Value → V → Prop
 | none : Rel ρ h .none .none
 | bool (b : Bool) : Rel ρ h (.bool b) (.bool b)
 | int (i : Int) (t : Tok) : Rel ρ h (.int i t) (.int i)
 | str (x : Str) (t : Tok) : SOk x → Rel ρ h (.str x t) (.str x)
 | tup {a : Addr} {vs : List Value} {n : Nat} {l : List V} : h.get? a = some (tupO vs n) → vs.length ≤ sizeLine → RelAll ρ h vs l → Rel ρ h (.ref a) (.tup l)
 | ref {a : Addr} {d n : Nat} : ρ[n]? = some (a, d) → Rel ρ h (.ref a) (.ref n)
inductive RelAll (ρ : Map) (h : Heap) : List Value → List V → Prop
 | nil : RelAll ρ h [] []
 | cons {v : Value} {vs : List Value} {x : V} {l : List V} : Rel ρ h v x → RelAll ρ h vs l → RelAll ρ h (v :: vs) (x :: l)
end
noncomputable def keyIs : Key → Value → Bool
 | .inl i, v => Value.isInt i v
 | .inr x, v => Value.isStrOf x v
noncomputable def keyHash (w : World) : Key → Int
 | .inl i => hashInt i
 | .inr x => hashStr w x
theorem keyIs_shape : ∀ {k : Key} {v : Value}, keyIs k v = true → (∃ i t, k = .inl i ∧ v = .int i t) ∨ ∃ x t, k = .inr x ∧ v = .str x t
 | .inl i, v, h => let ⟨t, e⟩ := Value.isInt_shape (k := i) h; .inl ⟨i, t, rfl, e⟩
 | .inr x, v, h => let ⟨t, e⟩ := Value.isStrOf_shape (x := x) h; .inr ⟨x, t, rfl, e⟩
theorem isInt_same (i : Int) (t : Tok) : Value.isInt i (.int i t) = true := by simp [Value.isInt]
theorem isStrOf_same (x : Str) (t : Tok) : Value.isStrOf x (.str x t) = true := by simp [Value.isStrOf]
theorem eqBool_int_str {prog : Program} {w : World} {A : Around} {E : Value → Shared → Prop} {s : Shared} {a : Int} {t : Tok} {b : Str} {u : Tok} {Q : Bool → Shared → Prop} (h : Q false s) : wpAny (model prog w) A (eqBool (.int a t) (.str b u)) Q E s := by
 unfold eqBool
 refine wpAny_holding ?_
 have e : (Value.int a t == Value.str b u) = false := rfl
 rw [if_neg (by rw [e]; decide)]
 show wpAny _ _ (compareOp .Eq (Value.int a t) (Value.str b u) >>= _) Q E s
 exact wpAny_bind (EqMixed.eq_int_str (wpAny_truthy_bool h))
theorem eqBool_str_int {prog : Program} {w : World} {A : Around} {E : Value → Shared → Prop} {s : Shared} {a : Int} {t : Tok} {b : Str} {u : Tok} {Q : Bool → Shared → Prop} (h : Q false s) : wpAny (model prog w) A (eqBool (.str b u) (.int a t)) Q E s := by
 unfold eqBool
 refine wpAny_holding ?_
 have e : (Value.str b u == Value.int a t) = false := rfl
 rw [if_neg (by rw [e]; decide)]
 show wpAny _ _ (compareOp .Eq (Value.str b u) (Value.int a t) >>= _) Q E s
 exact wpAny_bind (EqMixed.eq_str_int (wpAny_truthy_bool h))
noncomputable def keyKind (prog : Program) (w : World) : KeyKind prog w Key where
 is := keyIs
 hash := keyHash w
 inj := fun v a b ha hb => by
  rcases keyIs_shape ha with ⟨i, t, rfl, rfl⟩ | ⟨x, t, rfl, rfl⟩
  ·rcases keyIs_shape hb with ⟨j, u, rfl, e⟩ | ⟨y, u, rfl, e⟩
   ·cases e; rfl
   ·cases e
  ·rcases keyIs_shape hb with ⟨j, u, rfl, e⟩ | ⟨y, u, rfl, e⟩
   ·cases e
   ·cases e; rfl
 byValue := fun k v h => by rcases keyIs_shape h with ⟨i, t, _, rfl⟩ | ⟨x, t, _, rfl⟩ <;> rfl
 pyHash := fun hv h => by
  rcases keyIs_shape hv with ⟨i, t, rfl, rfl⟩ | ⟨x, t, rfl, rfl⟩
  ·exact wpAny_pyHash_int h
  ·exact wpAny_pyHash_str h
 eqBool := fun {A E s a b u v Q} hu hv h => by
  rcases keyIs_shape hu with ⟨i, t, rfl, rfl⟩ | ⟨x, t, rfl, rfl⟩
  ·rcases keyIs_shape hv with ⟨j, t', rfl, rfl⟩ | ⟨y, t', rfl, rfl⟩
   ·refine wpAny_eqBool_int ?_
    have e : (i == j) = decide ((Sum.inl i : Key) = .inl j) := by
     by_cases hij : i = j
     ·subst hij; simp
     ·rw [decide_eq_false (fun e => hij (Sum.inl.inj e))]; exact beq_false_of_ne hij
    rw [e]; exact h
   ·exact eqBool_int_str h
  ·rcases keyIs_shape hv with ⟨j, t', rfl, rfl⟩ | ⟨y, t', rfl, rfl⟩
   ·exact eqBool_str_int h
   ·refine wpAny_eqBool_str ?_
    have e : decide (x = y) = decide ((Sum.inr x : Key) = .inr y) := by
     by_cases hxy : x = y
     ·subst hxy; simp
     ·rw [decide_eq_false hxy, decide_eq_false (fun e => hxy (Sum.inr.inj e))]
    rw [e]; exact h
 «strs» := fun k x t v h => by
  rcases keyIs_shape h with ⟨i, t', rfl, e⟩ | ⟨y, t', rfl, e⟩
  ·cases e
  ·cases e; exact (strKind prog w).«strs» x x t v (isStrOf_same x t)
inductive Ents (ρ : Map) (h : Heap) : List (Key × Value) → List (Key × V) → Prop
 | nil : Ents ρ h [] []
 | cons {k : Key} {v : Value} {x : V} {kvs : List (Key × Value)} {l : List (Key × V)} : (∀ s, k = .inr s → SOk s) → Rel ρ h v x → Ents ρ h kvs l → Ents ρ h ((k, v) :: kvs) ((k, x) :: l)
structure Bse where
 prog : Program
 w : World
 heap : Heap
 frs : List Env
noncomputable abbrev Bse.get? (K : Bse) (b : Addr) : Option Obj := K.heap.get? b
noncomputable def ClsIs (K : Bse) (c : Str) (C : Addr) : Prop := ∃ mg, K.heap.Ns mainGlobals mg ∧ mg c = some (.ref C)
theorem ClsIs.at {K : Bse} {c : Str} {C : Addr} {mg : Str → Option Value} (k : ClsIs K c C) (g : K.heap.Ns mainGlobals mg) : mg c = some (.ref C) := by
 obtain ⟨m, ⟨o, es, ep, h1, h2, _, h3⟩, e⟩ := k
 obtain ⟨o', es', ep', h1', h2', _, h3'⟩ := g
 rw [h1] at h1'; cases h1'
 rw [h2] at h2'; cases h2'
 rw [← h3', h3]; exact e
noncomputable def IsD (o : Obj) : Prop := ∃ es ep, o.data = .dict es ep
noncomputable def TbO (o : Obj) : Prop := o.cls = .type "traceback" ∧ ∃ tvs, o.data = .fields tvs ∧ 3 < tvs.size
noncomputable def TbOk (K : Bse) (h : Heap) (vs : Array Value) : Prop := 1 < vs.size ∧ (vs[1]? = some .none ∨ ∃ tb o, vs[1]? = some (.ref tb) ∧ h.get? tb = some o ∧ TbO o ∧ K.get? tb = none)
structure FldR (ρ : Map) (h : Heap) (mA : Str → Option Value) (l : List (Str × V)) : Prop where
 has : ∀ x a, l.lookup x = some a → ∃ v, mA x = some v ∧ Rel ρ h v a
 no : ∀ x, l.lookup x = none → mA x = none
noncomputable def ORel (K : Bse) (ρ : Map) (h : Heap) (p : Addr × Nat) : O → Prop
 | .list l => ∃ vs n, h.get? p.1 = some (listO vs n) ∧ vs.length ≤ sizeLine ∧ RelAll ρ h vs l
 | .dict v l => p.2 = v ∧ (p.1 == sysModules) = false ∧ ∃ kvs, h.DictOf (keyKind K.prog K.w) p.1 kvs ∧ kvs.length ≤ sizeLine ∧ Ents ρ h kvs l
 | .inst c k => ∃ C o dx d, ClsIs K c C ∧ h.get? p.1 = some o ∧ o.cls = .ref C ∧ (∀ cd, o.data ≠ .cls cd) ∧ o.dict = some dx ∧ dx ≠ p.1 ∧ ρ[k]? = some (dx, d)
 | .flds l => l.length ≤ sizeLine ∧ ∃ mA, h.Ns1 p.1 mA ∧ FldR ρ h mA l
 | .exc c fs => fs = [] ∧ ∃ C o vs, ClsIs K c C ∧ h.get? p.1 = some o ∧ o.cls = .ref C ∧ o.dict = none ∧ o.data = .fields vs ∧ TbOk K h vs ∧ K.get? p.1 = none
noncomputable def offMap (ρ : Map) (b : Addr) : Prop := ∀ p ∈ ρ, b ≠ p.1
noncomputable def FrAt (K : Bse) (ρ : Map) (h : Heap) (e : Env) : Prop := e.scope.kind ≠ .module ∧ ∃ L o, e.frame = some L ∧ h.get? L = some o ∧ IsD o ∧ offMap ρ L ∧ K.get? L = none
structure Inv (h₀ : Bse) (σ : Store) (ρ : Map) (h : Heap) : Prop where
 base : ∀ b o, h₀.get? b = some o → h.get? b = some o
 len : ρ.length = σ.length
 objs : ∀ (n : Nat) (o : O) (p : Addr × Nat), σ[n]? = some o → ρ[n]? = some p → ORel h₀ ρ h p o
 fresh : ∀ (n : Nat) (p : Addr × Nat), ρ[n]? = some p → 0 < n → h₀.get? p.1 = none
 apart : ∀ (i j : Nat) (p q : Addr × Nat), ρ[i]? = some p → ρ[j]? = some q → i ≠ j → p.1 ≠ q.1
 up : ∀ e ∈ h₀.frs, FrAt h₀ ρ h e
noncomputable def Soft (o o' : Obj) : Prop := o' = o ∨ (IsD o ∧ ∃ sl, o' = { o with slots := sl }) ∨ (TbO o ∧ TbO o')
theorem Soft.refl {o : Obj} : Soft o o := .inl rfl
theorem tb_not_d {o : Obj} (h : TbO o) (d : IsD o) : False := by
 obtain ⟨_, tvs, e, _⟩ := h
 obtain ⟨es, ep, e'⟩ := d
 rw [e] at e'; cases e'
theorem Soft.trans {o o' o'' : Obj} (x : Soft o o') (y : Soft o' o'') : Soft o o'' := by
 rcases x with rfl | ⟨d, sl, rfl⟩ | ⟨t, t'⟩
 ·exact y
 ·rcases y with rfl | ⟨_, sl', rfl⟩ | ⟨t, _⟩
  ·exact .inr (.inl ⟨d, sl, rfl⟩)
  ·exact .inr (.inl ⟨d, sl', rfl⟩)
  ·exact (tb_not_d t d).elim
 ·rcases y with rfl | ⟨d, _⟩ | ⟨_, t''⟩
  ·exact .inr (.inr ⟨t, t'⟩)
  ·exact (tb_not_d t' d).elim
  ·exact .inr (.inr ⟨t, t''⟩)
noncomputable def Firm (o : Obj) : Prop := ¬IsD o ∧ ¬TbO o
theorem Soft.firm {o o' : Obj} (x : Soft o o') (f : Firm o) : o' = o := by
 rcases x with e | ⟨d, _⟩ | ⟨t, _⟩
 ·exact e
 ·exact (f.1 d).elim
 ·exact (f.2 t).elim
structure Kin (o o' : Obj) : Prop where
 tup : ∀ vs n, o = tupO vs n → o' = o
 dict : IsD o → IsD o'
 tb : TbO o → TbO o'
theorem Kin.refl {o : Obj} : Kin o o := ⟨fun ya yb yc => rfl, id, id⟩
theorem Kin.trans {o o' o'' : Obj} (x : Kin o o') (y : Kin o' o'') : Kin o o'' where
 tup := fun vs n e => (y.tup vs n ((x.tup vs n e).trans e)).trans (x.tup vs n e)
 dict := fun d => y.dict (x.dict d)
 tb := fun d => y.tb (x.tb d)
structure Ext (W : List Addr) (ρ : Map) (h : Heap) (ρ' : Map) (h' : Heap) : Prop where
 pre : ∀ (n : Nat) (a : Addr) (v : Nat), ρ[n]? = some (a, v) → ∃ v', ρ'[n]? = some (a, v') ∧ v ≤ v' ∧ (v' = v → ∀ o, h.get? a = some o → IsD o → h'.get? a = some o)
 keep : ∀ b o, h.get? b = some o → b ∉ W → offMap ρ b → ∃ o', h'.get? b = some o' ∧ Soft o o'
 kin : ∀ b o, h.get? b = some o → ∃ o', h'.get? b = some o' ∧ Kin o o'
 new : ∀ (i : Nat) (p : Addr × Nat), ρ'[i]? = some p → ρ.length ≤ i → h.get? p.1 = none
section
variable {W : List Addr} {ρ ρ' ρ'' : Map} {h h' h'' : Heap}
theorem Ext.alive (x : Ext W ρ h ρ' h') : ∀ b o, h.get? b = some o → ∃ o', h'.get? b = some o' := fun b o e => let ⟨o', e', _⟩ := x.kin b o e; ⟨o', e'⟩
theorem Ext.tups (x : Ext W ρ h ρ' h') : ∀ b vs n, h.get? b = some (tupO vs n) → h'.get? b = some (tupO vs n) := fun b vs n e => by
 obtain ⟨o', e', k⟩ := x.kin b _ e
 rw [e', k.tup vs n rfl]
theorem Ext.tbs (x : Ext W ρ h ρ' h') : ∀ b o, h.get? b = some o → TbO o → ∃ o', h'.get? b = some o' ∧ TbO o' := fun b o e t => let ⟨o', e', k⟩ := x.kin b o e; ⟨o', e', k.tb t⟩
theorem Ext.firm (x : Ext W ρ h ρ' h') {b : Addr} {o : Obj} (e : h.get? b = some o) (f : Firm o) (hW : b ∉ W) (off : offMap ρ b) : h'.get? b = some o := by
 obtain ⟨o', e', s⟩ := x.keep b o e hW off
 rw [e', s.firm f]
theorem Ext.refl : Ext W ρ h ρ h where
 pre := fun ya yb v e => ⟨v, e, Nat.le_refl _, fun ya yb g yc => g⟩
 keep := fun ya o e yb yc => ⟨o, e, .refl⟩
 kin := fun ya o e => ⟨o, e, .refl⟩
 new := fun i p e hi => by rw [List.getElem?_eq_none hi] at e; cases e
theorem Ext.len_le (x : Ext W ρ h ρ' h') : ρ.length ≤ ρ'.length := by
 rcases Nat.lt_or_ge ρ'.length ρ.length with hl | hl
 ·obtain ⟨_, e, _⟩ := x.pre ρ'.length _ _ (List.getElem?_eq_getElem hl)
  rw [List.getElem?_eq_none (Nat.le_refl _)] at e; cases e
 ·exact hl
theorem offMap.ext (x : Ext W ρ h ρ' h') {b : Addr} {o : Obj} (hb : h.get? b = some o) (off : offMap ρ b) : offMap ρ' b := fun p hp => by
 obtain ⟨i, hi⟩ := List.getElem?_of_mem hp
 rcases Nat.lt_or_ge i ρ.length with hl | hl
 ·obtain ⟨_, h1, _⟩ := x.pre i _ _ (List.getElem?_eq_getElem hl)
  rw [hi] at h1; cases h1
  exact off ρ[i] (List.getElem_mem hl)
 ·have n1 := x.new i p hi hl
  exact fun eq => (by rw [← eq, hb] at n1; cases n1)
theorem Ext.trans (x : Ext W ρ h ρ' h') (y : Ext W ρ' h' ρ'' h'') : Ext W ρ h ρ'' h'' where
 pre := fun n a v e => by
  obtain ⟨v', e', l, k⟩ := x.pre n a v e
  obtain ⟨v'', e'', l', k'⟩ := y.pre n a v' e'
  refine ⟨v'', e'', Nat.le_trans l l', fun q o g d => ?_⟩
  have q1 : v' = v := Nat.le_antisymm (q ▸ l') l
  exact k' (q.trans q1.symm) o (k q1 o g d) d
 keep := fun b o e hW hρ => by
  obtain ⟨o', e', s⟩ := x.keep b o e hW hρ
  obtain ⟨o'', e'', s'⟩ := y.keep b o' e' hW (offMap.ext x e hρ)
  exact ⟨o'', e'', s.trans s'⟩
 kin := fun b o e => by
  obtain ⟨o', e', s⟩ := x.kin b o e
  obtain ⟨o'', e'', s'⟩ := y.kin b o' e'
  exact ⟨o'', e'', s.trans s'⟩
 new := fun i p e hi => by
  rcases Nat.lt_or_ge i ρ'.length with hl | hl
  ·obtain ⟨_, h1, _⟩ := y.pre i _ _ (List.getElem?_eq_getElem hl)
   rw [e] at h1; cases h1
   exact x.new i ρ'[i] (List.getElem?_eq_getElem hl) hi
  ·have n1 := y.new i p e hl
   cases e1 : h.get? p.1 with
   | none => rfl
   | some o => obtain ⟨o', e'⟩ := x.alive _ _ e1; rw [n1] at e'; cases e'
theorem Ext.weak {W' : List Addr} (x : Ext W ρ h ρ' h') (hw : ∀ b ∈ W, b ∈ W' ∨ h.get? b = none) : Ext W' ρ h ρ' h' where
 pre := x.pre
 keep := fun b o e hW hρ => x.keep b o e (fun hm => (hw b hm).elim hW fun e' => by rw [e] at e'; cases e') hρ
 kin := x.kin
 new := x.new
theorem Ext.of_keep (hoff : ∀ b ∈ W, offMap ρ b) (hk : ∀ b o, h.get? b = some o → b ∉ W → h'.get? b = some o) (ht : ∀ b o, h.get? b = some o → b ∈ W → ∃ o', h'.get? b = some o' ∧ Kin o o') : Ext W ρ h ρ h' where
 pre := fun n a v e => ⟨v, e, Nat.le_refl _, fun ya o g yb => hk a o g fun hm => hoff a hm _ (List.mem_of_getElem? e) rfl⟩
 keep := fun b o e hW ya => ⟨o, hk b o e hW, .refl⟩
 kin := fun b o e => by
  by_cases hm : b ∈ W
  ·exact ht b o e hm
  ·exact ⟨o, hk b o e hm, .refl⟩
 new := fun i p e hi => by rw [List.getElem?_eq_none hi] at e; cases e
theorem Ext.of_keeps (hk : ∀ b o, h.get? b = some o → h'.get? b = some o) : Ext W ρ h ρ h' where
 pre := fun n a v e => ⟨v, e, Nat.le_refl _, fun ya o g yb => hk a o g⟩
 keep := fun b o e ya yb => ⟨o, hk b o e, .refl⟩
 kin := fun b o e => ⟨o, hk b o e, .refl⟩
 new := fun i p e hi => by rw [List.getElem?_eq_none hi] at e; cases e
noncomputable def Sub (ρ : Map) (h : Heap) (ρ' : Map) (h' : Heap) : Prop :=
 (∀ (n : Nat) (a : Addr) (v : Nat), ρ[n]? = some (a, v) → ∃ v', ρ'[n]? = some (a, v')) ∧ (∀ b vs n, h.get? b = some (tupO vs n) → h'.get? b = some (tupO vs n)) ∧ ∀ b o, h.get? b = some o → TbO o → ∃ o', h'.get? b = some o' ∧ TbO o'
theorem Ext.sub (x : Ext W ρ h ρ' h') : Sub ρ h ρ' h' := ⟨fun n a v e => let ⟨v', e', _⟩ := x.pre n a v e; ⟨v', e'⟩, x.tups, x.tbs⟩
theorem Sub.snoc {p : Addr × Nat} : Sub ρ h (ρ ++ [p]) h := ⟨fun n a v e => ⟨v, by
 rw [List.getElem?_append_left (by rcases Nat.lt_or_ge n ρ.length with hl | hl; exact hl; rw [List.getElem?_eq_none hl] at e; cases e)]; exact e⟩, fun ya yb yc e => e, fun ya o e t => ⟨o, e, t⟩⟩
theorem Sub.trans (x : Sub ρ h ρ' h') (y : Sub ρ' h' ρ'' h'') : Sub ρ h ρ'' h'' := ⟨fun n a v e => let ⟨v', e'⟩ := x.1 n a v e; y.1 n a v' e', fun b vs n e => y.2.1 b vs n (x.2.1 b vs n e), fun b o e t => let ⟨o', e', t'⟩ := x.2.2 b o e t; y.2.2 b o' e' t'⟩
theorem Sub.keeps (hk : ∀ b o, h.get? b = some o → h'.get? b = some o) : Sub ρ h ρ h' := ⟨fun ya yb v e => ⟨v, e⟩, fun b ya yb e => hk b _ e, fun b o e t => ⟨o, hk b o e, t⟩⟩
theorem TbOk.sub {K : Bse} {vs : Array Value} (t : TbOk K h vs) (x : Sub ρ h ρ' h') : TbOk K h' vs := ⟨t.1, t.2.imp id fun ⟨tb, o, e, g, b, z⟩ => let ⟨o', g', b'⟩ := x.2.2 tb o g b; ⟨tb, o', e, g', b', z⟩⟩
theorem RelAll.ind {P : ∀ (vs : List Value) (l : List V), RelAll ρ h vs l → Prop} (h0 : P [] [] .nil) (h1 : ∀ {v : Value} {vs : List Value} {x : V} {l : List V} (a : Rel ρ h v x) (r : RelAll ρ h vs l), P vs l r → P (v :: vs) (x :: l) (.cons a r)) {vs : List Value} {l : List V} (r : RelAll ρ h vs l) : P vs l r :=
 RelAll.rec (motive_1 := fun ya yb yc => True) (motive_2 := fun vs l r => P vs l r) trivial (fun ya => trivial) (fun ya yb => trivial) (fun ya yb yc => trivial) (fun ya yb yc yd => trivial) (fun ya => trivial) h0 (fun a r ya ih => h1 a r ih) r
theorem Rel.sub (x : Sub ρ h ρ' h') {v : Value} {a : V} (r : Rel ρ h v a) : Rel ρ' h' v a :=
 Rel.rec (motive_1 := fun v a ya => Rel ρ' h' v a) (motive_2 := fun vs l ya => RelAll ρ' h' vs l) .none (fun b => .bool b) (fun i t => .int i t) (fun s t hs => .str s t hs) (fun e hl ya ih => .tup (x.2.1 _ _ _ e) hl ih) (fun e => (x.1 _ _ _ e).elim fun ya e' => .ref e') .nil (fun ya yb a b => .cons a b) r
theorem RelAll.sub (x : Sub ρ h ρ' h') {vs : List Value} {l : List V} (r : RelAll ρ h vs l) : RelAll ρ' h' vs l := RelAll.ind (P := fun vs l ya => RelAll ρ' h' vs l) .nil (fun a ya ih => .cons (a.sub x) ih) r
theorem Rel.ext (x : Ext W ρ h ρ' h') {v : Value} {a : V} (r : Rel ρ h v a) : Rel ρ' h' v a := r.sub x.sub
theorem RelAll.ext (x : Ext W ρ h ρ' h') {vs : List Value} {l : List V} (r : RelAll ρ h vs l) : RelAll ρ' h' vs l := r.sub x.sub
theorem Ents.sub (x : Sub ρ h ρ' h') {kvs : List (Key × Value)} {l : List (Key × V)} (r : Ents ρ h kvs l) : Ents ρ' h' kvs l := by
 induction r with
 | nil => exact .nil
 | cons hs r _ ih => exact .cons hs (r.sub x) ih
theorem Ents.length {kvs : List (Key × Value)} {l : List (Key × V)} (r : Ents ρ h kvs l) : kvs.length = l.length := by
 induction r with
 | nil => rfl
 | cons _ _ _ ih => rw [List.length_cons, List.length_cons, ih]
theorem Ents.keys {kvs : List (Key × Value)} {l : List (Key × V)} (r : Ents ρ h kvs l) : kvs.map (·.1) = l.map (·.1) := by
 induction r with
 | nil => rfl
 | cons _ _ _ ih => rw [List.map_cons, List.map_cons, ih]
theorem RelAll.length {vs : List Value} {l : List V} (r : RelAll ρ h vs l) : vs.length = l.length := RelAll.ind (P := fun vs l ya => vs.length = l.length) rfl (fun ya yb ih => by rw [List.length_cons, List.length_cons, ih]) r
theorem RelAll.append {vs ws : List Value} {l m : List V} (r : RelAll ρ h vs l) (s : RelAll ρ h ws m) : RelAll ρ h (vs ++ ws) (l ++ m) := RelAll.ind (P := fun vs l ya => RelAll ρ h (vs ++ ws) (l ++ m)) s (fun a ya ih => .cons a ih) r
theorem RelAll.get {vs : List Value} {l : List V} {k : Nat} {x : V} (r : RelAll ρ h vs l) : l[k]? = some x → ∃ v, vs[k]? = some v ∧ Rel ρ h v x := by
 induction r using RelAll.ind generalizing k with
 | h0 => intro e; cases e
 | h1 a r ih =>
  intro e
  cases k with
  | zero => cases e; exact ⟨_, rfl, a⟩
  | succ k => exact ih e
theorem RelAll.get_none {vs : List Value} {l : List V} {k : Nat} (r : RelAll ρ h vs l) (e : l[k]? = none) : vs[k]? = none := by
 rw [List.getElem?_eq_none_iff] at e ⊢
 rw [r.length]; exact e
end
noncomputable abbrev At (s : Shared) (H : Heap) (tk : Nat) : Shared := { s with heap := H, toks := tk }
section
variable (h₀ : Bse)
inductive Post (W : List Addr) (ρ : Map) (s : Shared) (σ' : Store) (R : Map → Heap → Prop) (s' : Shared) : Prop
 | mk (ρ' : Map) (h' : Heap) (tk : Nat) (e : s' = (At s h' tk)) (i : Inv h₀ σ' ρ' h') (x : Ext W ρ s.heap ρ' h') (r : R ρ' h') : Post W ρ s σ' R s'
noncomputable def RE (σ : Store) (e : V) (ev : Value) (ρ : Map) (_ : Heap) : Prop := ∃ n c fs a d, e = .ref n ∧ σ[n]? = some (.exc c fs) ∧ ev = .ref a ∧ ρ[n]? = some (a, d)
noncomputable def Sim (A : Around) (W : List Addr) {α β : Type} (t : Sem β) (r : Res α) (R : α → Map → Heap → β → Prop) (ρ : Map) (s : Shared) : Prop :=
 match r with
 | .bad => True
 | .exc e σ' => wpAny (model h₀.prog h₀.w) A t (fun ya yb => False) (fun ev s' => Post h₀ W ρ s σ' (RE σ' e ev) s') s
 | .ok a σ' => wpAny (model h₀.prog h₀.w) A t (fun b s' => Post h₀ W ρ s σ' (fun ρ' h' => R a ρ' h' b) s') (fun ya yb => False) s
end
section
variable {h₀ : Bse} {A : Around} {W : List Addr} {ρ : Map} {s : Shared} {α β γ δ : Type} {σ : Store}
theorem Post.mono {σ' : Store} {R R' : Map → Heap → Prop} {s' : Shared} (h : ∀ ρ' h', R ρ' h' → R' ρ' h') : Post h₀ W ρ s σ' R s' → Post h₀ W ρ s σ' R' s' :=
 fun ⟨ρ', h', tk, e, i, x, r⟩ => ⟨ρ', h', tk, e, i, x, h _ _ r⟩
theorem Post.after {ρ₁ : Map} {H : Heap} {tk : Nat} {σ' : Store} {R : Map → Heap → Prop} {s' : Shared} (x : Ext W ρ s.heap ρ₁ H) : Post h₀ W ρ₁ (At s H tk) σ' R s' → Post h₀ W ρ s σ' R s' :=
 fun ⟨ρ', h', tk, e, i, x', r⟩ => ⟨ρ', h', tk, e, i, x.trans x', r⟩
theorem Sim.bind {t : Sem β} {f : β → Sem γ} {m : M α} {k : α → M δ} {R : α → Map → Heap → β → Prop} {R' : δ → Map → Heap → γ → Prop}
  (h1 : Sim h₀ A W t (m σ) R ρ s)
  (h2 : ∀ a σ₁ ρ₁ H tk b, Inv h₀ σ₁ ρ₁ H → Ext W ρ s.heap ρ₁ H → R a ρ₁ H b → Sim h₀ A W (f b) (k a σ₁) R' ρ₁ (At s H tk)) :
  Sim h₀ A W (t >>= f) ((m >>= k) σ) R' ρ s := by
 rw [run_bind]
 cases e : m σ with
 | bad => exact trivial
 | exc _ _ => rw [e] at h1; exact wpAny_bind (wpAny_mono h1 (fun ya yb f => f.elim) fun ya yb x => x)
 | ok a σ₁ =>
  rw [e] at h1
  change Sim h₀ A W (t >>= f) (k a σ₁) R' ρ s
  have go : ∀ (Q : γ → Shared → Prop) (E : Value → Shared → Prop), (∀ b ρ₁ H tk, Ext W ρ s.heap ρ₁ H → Sim h₀ A W (f b) (k a σ₁) R' ρ₁ (At s H tk) → wpAny (model h₀.prog h₀.w) A (f b) Q E (At s H tk)) → wpAny (model h₀.prog h₀.w) A (t >>= f) Q E s := fun Q E hq =>
   wpAny_bind (wpAny_mono h1 (fun b s' hp => by
    obtain ⟨ρ₁, H, tk, rfl, i, x, r⟩ := hp
    exact hq b ρ₁ H tk x (h2 a σ₁ ρ₁ H tk b i x r)) fun ya yb h' => h'.elim)
  cases e2 : k a σ₁ with
  | bad => exact trivial
  | exc _ _ =>
   refine go _ _ fun b ρ₁ H tk x hs => ?_
   rw [e2] at hs
   exact wpAny_mono hs (fun ya yb f => f) fun ya yb hp => hp.after x
  | ok d σ₂ =>
   refine go _ _ fun b ρ₁ H tk x hs => ?_
   rw [e2] at hs
   exact wpAny_mono hs (fun ya yb hp => hp.after x) fun ya yb f => f
theorem Sim.ret {b : β} {a : α} {R : α → Map → Heap → β → Prop} (i : Inv h₀ σ ρ s.heap) (r : R a ρ s.heap b) :
  Sim h₀ A W (Pure.pure b : Sem β) ((Pure.pure a : M α) σ) R ρ s :=
 wpAny_pure ⟨ρ, s.heap, s.toks, rfl, i, Ext.refl, r⟩
theorem Sim.bad {t : Sem β} {R : α → Map → Heap → β → Prop} : Sim h₀ A W t (M.bad (α := α) σ) R ρ s := trivial
theorem Sim.mono {t : Sem β} {r : Res α} {R R' : α → Map → Heap → β → Prop} (h : Sim h₀ A W t r R ρ s) (hr : ∀ a ρ' h' b, R a ρ' h' b → R' a ρ' h' b) :
  Sim h₀ A W t r R' ρ s := by
 cases r with
 | bad => exact trivial
 | exc _ _ => exact h
 | ok a σ' => exact wpAny_mono h (fun b s' hp => hp.mono fun ya yb => hr a _ _ b) fun ya yb x => x
theorem Sim.weak {W' : List Addr} {t : Sem β} {r : Res α} {R : α → Map → Heap → β → Prop} (h : Sim h₀ A W t r R ρ s) (hw : ∀ b ∈ W, b ∈ W' ∨ s.heap.get? b = none) :
  Sim h₀ A W' t r R ρ s := by
 cases r with
 | bad => exact trivial
 | exc _ _ => exact wpAny_mono h (fun ya yb f => f) fun b s' ⟨ρ', h', tk, e, i, x, r⟩ => ⟨ρ', h', tk, e, i, x.weak hw, r⟩
 | ok a σ' => exact wpAny_mono h (fun b s' ⟨ρ', h', tk, e, i, x, r⟩ => ⟨ρ', h', tk, e, i, x.weak hw, r⟩) fun ya yb x => x
theorem Sim.ahead {t : Sem PUnit} {f : PUnit → Sem β} {r : Res α} {R : α → Map → Heap → β → Prop} (ht : ∀ (Q : PUnit → Shared → Prop) (E : Value → Shared → Prop), Q ⟨⟩ s → wpAny (model h₀.prog h₀.w) A t Q E s)
  (h : Sim h₀ A W (f ⟨⟩) r R ρ s) : Sim h₀ A W (t >>= f) r R ρ s := by
 cases r with
 | bad => exact trivial
 | exc _ _ => exact wpAny_bind (ht _ _ h)
 | ok a σ' => exact wpAny_bind (ht _ _ h)
theorem Sim.first {γ : Type} {t : Sem γ} {f : γ → Sem β} {c : γ} {r : Res α} {R : α → Map → Heap → β → Prop} (ht : ∀ (Q : γ → Shared → Prop) (E : Value → Shared → Prop), Q c s → wpAny (model h₀.prog h₀.w) A t Q E s)
  (h : Sim h₀ A W (f c) r R ρ s) : Sim h₀ A W (t >>= f) r R ρ s := by
 cases r with
 | bad => exact trivial
 | exc _ _ => exact wpAny_bind (ht _ _ h)
 | ok a σ' => exact wpAny_bind (ht _ _ h)
theorem Sim.standAt {p : Pos} {f : PUnit → Sem β} {r : Res α} {R : α → Map → Heap → β → Prop} (h : Sim h₀ A W (f ⟨⟩) r R ρ s) :
  Sim h₀ A W (PySem.standAt p >>= f) r R ρ s := Sim.ahead (fun ya yb hq => wpAny_standAt hq) h
theorem Sim.holding {vs : List Value} {t : Sem β} {r : Res α} {R : α → Map → Heap → β → Prop} (h : Sim h₀ A W t r R ρ s) :
  Sim h₀ A W (PySem.holding vs t) r R ρ s := by
 cases r with
 | bad => exact trivial
 | exc _ _ => exact wpAny_holding h
 | ok a σ' => exact wpAny_holding h
theorem Sim.of_wp {t : Sem β} {a : α} {σ' : Store} {R : α → Map → Heap → β → Prop}
  (h : wpAny (model h₀.prog h₀.w) A t (fun b s' => Post h₀ W ρ s σ' (fun ρ' h' => R a ρ' h' b) s') (fun ya yb => False) s) : Sim h₀ A W t (.ok a σ') R ρ s := h
end
end Mine.Internal

set_option backward.match.sparseCases false
namespace Mine.Internal
open PySem
noncomputable def compAll (C : Cfg) (elt target : Expr) (ifs : List Expr) (scope : Scope) (s : Src) (ns : Names) (loc : Loc) : M V :=
 if C.calm && (tgtOk s target && compOk scope.kind scope.names) then
  s.count >>= fun n => (if n ≤ sizeLine then (innerLoc ns loc scope.names >>= fun loc' =>
  compLoop s (bindTo (stLocL (relab ns scope.names)) target) (tests C ifs (relab ns scope.names)) (ev C elt (relab ns scope.names)) (n + 1) 0 loc' >>= fun l =>
  newO (.list l)) else M.bad)
 else M.bad
noncomputable def forAll (C : Cfg) (target : Expr) (body : List Stmt) (s : Src) (ns : Names) (loc : Loc) : M (Fl × Loc) :=
 if C.calm && tgtOk s target then s.count >>= fun n => forLoop s (bindTo (stLoc ns) target) (exs C body ns) (n + 1) 0 loc else M.bad
noncomputable def exsK {α : Type} (C : Cfg) (sts : List Stmt) (ns : Names) (loc : Loc) (K : Fl × Loc → M α) : M α := exs C sts ns loc >>= K
noncomputable def retK (r : Fl × Loc) : M V := pure (match r.1 with | .ret v => v | _ => .none)
theorem M.pure_bind {α β : Type} (a : α) (f : α → M β) : ((Pure.pure a : M α) >>= f) = f a := rfl
theorem M.bad_bind {α β : Type} (f : α → M β) : ((M.bad : M α) >>= f) = M.bad := rfl
theorem M.ite_bind {α β : Type} {c : Prop} [Decidable c] (m n : M α) (f : α → M β) : ((if c then m else n) >>= f) = if c then m >>= f else n >>= f := by
 by_cases h : c
 ·rw [if_pos h, if_pos h]
 ·rw [if_neg h, if_neg h]
noncomputable def nthS (l : List Stmt) (i : Nat) : Stmt := (l[i]?).getD (.Pass ⟨0, 0, 0, 0⟩)
noncomputable def noE : Expr := .Constant .none 0 ⟨0, 0, 0, 0⟩
noncomputable def nthE (l : List Expr) (i : Nat) : Expr := (l[i]?).getD noE
noncomputable def sVal : Stmt → Expr
 | .Assign _ v _ => v
 | .Return (some v) _ => v
 | .Expr v _ => v
 | .For _ i _ _ _ => i
 | .If t _ _ _ => t
 | _ => noE
noncomputable def sTgt : Stmt → Expr
 | .For t _ _ _ _ => t
 | .Assign ts _ _ => nthE ts 0
 | _ => noE
noncomputable def sBody : Stmt → List Stmt
 | .For _ _ b _ _ => b
 | .If _ b _ _ => b
 | _ => []
noncomputable def sElse : Stmt → List Stmt
 | .If _ _ b _ => b
 | _ => []
noncomputable def ePart (e : Expr) (i : Nat) : Expr := match e with
 | .BoolOp _ vs _ => nthE vs i
 | .BinOp l _ r _ => nthE [l, r] i
 | .UnaryOp _ x _ => x
 | .IfExp t a b _ => nthE [t, a, b] i
 | .Compare l _ rs _ => nthE (l :: rs) i
 | .Call f as _ _ => nthE (f :: as) i
 | .Attribute o _ _ => o
 | .Subscript o j _ => nthE [o, j] i
 | .Slice lo hi st _ => nthE [lo.getD noE, hi.getD noE, st.getD noE] i
 | .List es _ => nthE es i
 | .Dict ks vs _ => nthE (ks.map (·.getD noE) ++ vs) i
 | .Tuple es _ _ => nthE es i
 | .ListComp elt gs _ _ => nthE (elt :: gs.flatMap fun g => g.iter :: g.target :: g.ifs) i
 | _ => noE
noncomputable def cElt (e : Expr) : Expr := ePart e 0
noncomputable def cIter (e : Expr) : Expr := ePart e 1
noncomputable def cTgt (e : Expr) : Expr := ePart e 2
noncomputable def cIfs : Expr → List Expr
 | .ListComp _ [g] _ _ => g.ifs
 | _ => []
noncomputable def cScope : Expr → Scope
 | .ListComp _ _ s _ => s
 | _ => default
end Mine.Internal

set_option backward.match.sparseCases false
namespace Mine.Internal
open PySem PyProof.Rows
noncomputable def defOf (d : DefRec) : Str × Fn := (d.name, ⟨d.params.args.map (·.arg), d.scope.names, d.body⟩)
noncomputable def defsV (q : Program) : List (Str × Fn) := (recsOf q).map defOf
noncomputable def pairsM (q : Program) (loose : List Str) : List (ClsRec × MethRec) := (plainsOf q loose).flatMap fun c => c.meths.map fun m => (c, m)
noncomputable def methFn (m : MethRec) : Fn := ⟨m.params.args.map (·.arg), m.scope.names, m.body⟩
noncomputable def methsV (q : Program) (loose : List Str) : List (Str × Fn) := (pairsM q loose).map fun p => (methName p.1.name p.2.name, methFn p.2)
noncomputable def clsT (cs : List (Str × List Str × List Str)) : Str → Option (List Str × List Str) := fun x => cs.lookup x
noncomputable def fnsT (tab : List (Str × Fn)) : Str → Option Fn := fun x => tab.lookup x
noncomputable def cfgN (T : Tabs) (d : Nat) (q : Bool) : Cfg := ⟨fun x => (T.fns x).isSome, callN T d q, T.glob, q, callN T d false, T.ups, T.cls⟩
noncomputable def litV : PyData → Option V
 | .none => some .none
 | .bool b => some (.bool b)
 | .int i => some (.int i)
 | .str s => if SOk s then some (.str s) else none
 | _ => none
noncomputable def globV (q : Program) : Str → Option V := fun x => (valOf q x).bind litV
noncomputable def globT (gs : List (Str × V)) : Str → Option V := fun x => gs.lookup x
noncomputable def intOf : V → Option Int
 | .int a => some a
 | _ => none
noncomputable def strOf : V → Option Str
 | .str a => some a
 | _ => none
noncomputable def sameV (o : Option V) (v : V) : Bool := ((intOf v).isSome && (o.bind intOf == intOf v)) || ((strOf v).isSome && (o.bind strOf == strOf v))
noncomputable def globOk (q : Program) (gs : List (Str × V)) : Bool := gs.all fun p => sameV (globV q p.1) p.2
noncomputable def upsT (us : List (Str × List Str)) : Str → Option (List Str) := fun x => us.lookup x
noncomputable def tabsOf (tab mtab : List (Str × Fn)) (gs : List (Str × V)) (us : List (Str × List Str)) (cs : List (Str × List Str × List Str)) : Tabs := ⟨fnsT tab, fnsT mtab, globT gs, upsT us, clsT cs⟩
noncomputable def LawOk (T : Tabs) (d : Nat) : Prop := ∀ zs : List Int, zs.length ≤ 63 → ∃ σ, callN T d true "law" [.ref 0] [.list (zs.map .int)] = .ok (.bool true) σ
end Mine.Internal

set_option backward.match.sparseCases false
namespace Mine.Internal
open PySem PyProof.Rows
theorem slotGo_lookup {x : Str} : ∀ {ns : Names} {i j : Nat} {k : NameKind}, slotGo ns x i = some (j, k) → ns.lookup x = some k
 | [], _, _, _, h => by cases h
 | (y, k') :: r, i, j, k, h => by
  unfold slotGo at h
  rw [List.lookup_cons]
  split at h
  ·rename_i he; rw [he]; cases h; rfl
  ·rename_i he; rw [he]; exact slotGo_lookup h
theorem slot_lookup {x : Str} {ns : Names} {j : Nat} {k : NameKind} (h : slot ns x = some (j, k)) : ns.lookup x = some k := slotGo_lookup h
theorem slotGo_ge {x : Str} : ∀ {ns : Names} {i j : Nat} {k : NameKind}, slotGo ns x i = some (j, k) → i ≤ j
 | [], _, _, _, h => by cases h
 | (y, k') :: r, i, j, k, h => by
  unfold slotGo at h
  split at h
  ·cases h; exact Nat.le_refl _
  ·exact Nat.le_of_succ_le (slotGo_ge h)
set_option tactic.hygienic true in
theorem slotGo_inj {x y : Str} : ∀ {ns : Names} {i j : Nat} {k k' : NameKind}, slotGo ns x i = some (j, k) → slotGo ns y i = some (j, k') → x = y
 | [], _, _, _, _, h, _ => by cases h
 | (z, k₀) :: r, i, j, k, k', h, h' => by
  unfold slotGo at h h'
  split at h <;> split at h'
  ·rename_i e1 _ e2; exact (beq_iff_eq.mp e1).trans (beq_iff_eq.mp e2).symm
  ·cases h; exact absurd (slotGo_ge h') (Nat.not_succ_le_self _)
  ·cases h'; exact absurd (slotGo_ge h) (Nat.not_succ_le_self _)
  ·exact slotGo_inj h h'
theorem slot_inj {x y : Str} {ns : Names} {j : Nat} {k k' : NameKind} (h : slot ns x = some (j, k)) (h' : slot ns y = some (j, k')) : x = y := slotGo_inj h h'
structure Frm (h₀ : Bse) (env : Env) (ns : Names) (loc : Loc) (ρ : Map) (h : Heap) : Prop where
 names : env.scope.names = ns
 kind : env.scope.kind = .function
 globals : env.globals = mainGlobals
 blts : env.builtins = builtinsNs
 vars : ∃ m, h.Ns env.locals m ∧ ∀ x i v, slot ns x = some (i, .local) → loc[i]? = some (some v) → ∃ val, m x = some val ∧ Rel ρ h val v
 cell : ∀ x i, slot ns x = some (i, .cell) → ∃ c o, env.cells.lookup x = some c ∧ h.IsCell c o ∧ ∀ v, loc[i]? = some (some v) → ∃ val, o = some val ∧ Rel ρ h val v
 live : ∀ x c, env.cells.lookup x = some c → ∃ o, h.IsCell c o
 offL : offMap ρ env.locals
 offC : ∀ x c, env.cells.lookup x = some c → c ≠ env.locals ∧ offMap ρ c
 apart : ∀ x y c, env.cells.lookup x = some c → env.cells.lookup y = some c → x = y
 top : ∃ e ∈ h₀.frs, e.frame = env.frame
noncomputable def frameW (env : Env) : List Addr := env.locals :: env.scope.names.filterMap fun p => env.cells.lookup p.1
noncomputable def offFrame (env : Env) (b : Addr) : Prop := b ≠ env.locals ∧ ∀ y c, env.cells.lookup y = some c → b ≠ c
section
variable {h₀ : Bse} {W : List Addr} {ρ ρ' : Map} {h h' : Heap} {env : Env} {ns : Names} {loc : Loc}
theorem mem_of_lookup {α : Type} : ∀ {l : List (Str × α)} {n : Str} {c : α}, l.lookup n = some c → (n, c) ∈ l
 | [], _, _, h => by cases h
 | (k, v) :: r, n, c, h => by
  rw [List.lookup_cons] at h
  split at h
  ·rename_i e
   cases h; rw [beq_iff_eq.mp e]; exact List.mem_cons_self ..
  ·exact List.mem_cons_of_mem _ (mem_of_lookup h)
theorem frameW_cell {x : Str} {k : NameKind} {c : Addr} (hm : (x, k) ∈ env.scope.names) (hc : env.cells.lookup x = some c) : c ∈ frameW env := List.mem_cons_of_mem _ (List.mem_filterMap.mpr ⟨(x, k), hm, hc⟩)
theorem offFrame.notin {b : Addr} (h : offFrame env b) : b ∉ frameW env := fun hm => by
 rcases List.mem_cons.mp hm with rfl | hm
 ·exact h.1 rfl
 ·obtain ⟨⟨x, k⟩, _, hc⟩ := List.mem_filterMap.mp hm
  exact h.2 x b hc rfl
theorem Frm.alive (F : Frm h₀ env ns loc ρ h) {b : Addr} (hm : b ∈ frameW env) : ∃ o, h.get? b = some o := by
 rcases List.mem_cons.mp hm with rfl | hm
 ·obtain ⟨m, ⟨o, es, ep, ho, r⟩, hv⟩ := F.vars
  exact ⟨o, ho⟩
 ·obtain ⟨⟨x, k⟩, _, hc⟩ := List.mem_filterMap.mp hm
  obtain ⟨_, o, ho, _⟩ := F.live x b hc
  exact ⟨o, ho⟩
theorem Frm.offDead (F : Frm h₀ env ns loc ρ h) {b : Addr} (hd : h.get? b = none) : offFrame env b := by
 refine ⟨fun e => ?_, fun y c hc e => ?_⟩
 ·obtain ⟨m, ⟨o, es, ep, ho, r⟩, hv⟩ := F.vars
  rw [← e, hd] at ho; cases ho
 ·obtain ⟨_, o, ho, _⟩ := F.live y c hc
  rw [← e, hd] at ho; cases ho
theorem Ext.nsAt (x : Ext W ρ h ρ' h') {a : Addr} {m : Str → Option Value} (hn : h.Ns a m) (hW : a ∉ W) (off : offMap ρ a) : h'.Ns a m := by
 obtain ⟨o, es, ep, ho, hd, r⟩ := hn
 obtain ⟨o', ho', hs⟩ := x.keep _ _ ho hW off
 refine ⟨o', es, ep, ho', ?_, r⟩
 rcases hs with rfl | ⟨_, sl, rfl⟩ | ⟨t, _⟩
 ·exact hd
 ·exact hd
 ·exact (tb_not_d t ⟨es, ep, hd⟩).elim
theorem Ext.cell (x : Ext W ρ h ρ' h') {a : Addr} {v : Option Value} (hn : h.IsCell a v) (hW : a ∉ W) (off : offMap ρ a) : h'.IsCell a v := by
 obtain ⟨o, ho, hd⟩ := hn
 exact ⟨o, x.firm ho ⟨fun ⟨es, ep, e⟩ => (by rw [hd] at e; cases e), fun ⟨_, tvs, e, _⟩ => (by rw [hd] at e; cases e)⟩ hW off, hd⟩
theorem Frm.ext (F : Frm h₀ env ns loc ρ h) (x : Ext W ρ h ρ' h') (hW : ∀ b ∈ W, offFrame env b) : Frm h₀ env ns loc ρ' h' where
 names := F.names
 kind := F.kind
 globals := F.globals
 blts := F.blts
 vars := by
  obtain ⟨m, hn, hv⟩ := F.vars
  refine ⟨m, x.nsAt hn (fun hm => (hW _ hm).1 rfl) F.offL, fun y i v h1 h2 => ?_⟩
  obtain ⟨val, e, hr⟩ := hv y i v h1 h2
  exact ⟨val, e, hr.ext x⟩
 cell := fun y i h1 => by
  obtain ⟨c, o, e, hc, hv⟩ := F.cell y i h1
  refine ⟨c, o, e, x.cell hc (fun hm => (hW _ hm).2 y c e rfl) (F.offC y c e).2, fun v hl => ?_⟩
  obtain ⟨val, e', hr⟩ := hv v hl
  exact ⟨val, e', hr.ext x⟩
 live := fun y c e => by
  obtain ⟨o, hc⟩ := F.live y c e
  exact ⟨o, x.cell hc (fun hm => (hW _ hm).2 y c e rfl) (F.offC y c e).2⟩
 offL := by
  obtain ⟨m, ⟨o, es, ep, ho, r⟩, hv⟩ := F.vars
  exact offMap.ext x ho F.offL
 offC := fun y c e => by
  obtain ⟨_, o, ho, _⟩ := F.live y c e
  exact ⟨(F.offC y c e).1, offMap.ext x ho (F.offC y c e).2⟩
 apart := F.apart
 top := F.top
end
structure Rm (h₀ : Bse) (A : Around) (n : Nat) (q : Bool) : Prop where
 handled : q = true → A.handled = none
 depth : A.depth + 2 * n < recursionLimit
 units : A.units + 16 * n + 300 < cLine
 frames : A.frames = some h₀.frs
structure RmW (h₀ : Bse) (A : Around) (n : Nat) (q : Bool) : Prop where
 handled : q = true → A.handled = none
 depth : A.depth + 2 * n ≤ recursionLimit
 units : A.units + 16 * n + 290 < cLine
 frames : A.frames = some h₀.frs
end Mine.Internal

set_option backward.match.sparseCases false
namespace Mine.Internal
open PySem PyProof.Rows
section
variable {h₀ : Bse} {W : List Addr} {ρ ρ' : Map} {h h' : Heap} {σ : Store}
theorem ORel.sub {p : Addr × Nat} {o : O} (r : ORel h₀ ρ h p o) (x : Sub ρ h ρ' h') (h1 : ∀ ob, h.get? p.1 = some ob → h'.get? p.1 = some ob) : ORel h₀ ρ' h' p o := by
 cases o with
 | list l =>
  obtain ⟨vs, n, g, hl, ra⟩ := r
  exact ⟨vs, n, h1 _ g, hl, ra.sub x⟩
 | dict v l =>
  obtain ⟨e, hs, kvs, ⟨ob, es, ep, g, rest⟩, hl, ra⟩ := r
  exact ⟨e, hs, kvs, ⟨ob, es, ep, h1 _ g, rest⟩, hl, ra.sub x⟩
 | inst c k =>
  obtain ⟨C, ob, dx, d, hc, g, h3, h4, h5, h6, e⟩ := r
  obtain ⟨d', e'⟩ := x.1 _ _ _ e
  exact ⟨C, ob, dx, d', hc, h1 _ g, h3, h4, h5, h6, e'⟩
 | flds l =>
  obtain ⟨hl, mA, ⟨ob, es, ep, g, rest⟩, f⟩ := r
  exact ⟨hl, mA, ⟨ob, es, ep, h1 _ g, rest⟩, fun y a e => let ⟨v, e', rv⟩ := f.has y a e; ⟨v, e', rv.sub x⟩, f.no⟩
 | exc c fs =>
  obtain ⟨hf, C, ob, vs, hc, g, h3, h4, h5, t, z⟩ := r
  exact ⟨hf, C, ob, vs, hc, h1 _ g, h3, h4, h5, t.sub x, z⟩
theorem ORel.ext {p : Addr × Nat} {o : O} (r : ORel h₀ ρ h p o) (x : Ext W ρ h ρ' h') (h1 : ∀ ob, h.get? p.1 = some ob → h'.get? p.1 = some ob) : ORel h₀ ρ' h' p o := r.sub x.sub h1
theorem ORel.live {p : Addr × Nat} {o : O} (r : ORel h₀ ρ h p o) : ∃ ob, h.get? p.1 = some ob := by
 cases o with
 | list l =>
  obtain ⟨vs, n, g, hl, ra⟩ := r
  exact ⟨_, g⟩
 | dict v l =>
  obtain ⟨e, hs, kvs, ⟨ob, es, ep, g, rest⟩, hl, ra⟩ := r
  exact ⟨_, g⟩
 | inst c k =>
  obtain ⟨C, ob, dx, d, hc, g, _⟩ := r
  exact ⟨_, g⟩
 | flds l =>
  obtain ⟨hl, mA, ⟨ob, es, ep, g, rest⟩, f⟩ := r
  exact ⟨_, g⟩
 | exc c fs =>
  obtain ⟨hf, C, ob, vs, hc, g, h3, h4, h5, t⟩ := r
  exact ⟨_, g⟩
theorem FrAt.ext {e : Env} (f : FrAt h₀ ρ h e) (x : Ext W ρ h ρ' h') : FrAt h₀ ρ' h' e := by
 obtain ⟨hk, L, o, hL, ho, hd, off, h0⟩ := f
 obtain ⟨o', ho', k⟩ := x.kin _ _ ho
 exact ⟨hk, L, o', hL, ho', k.dict hd, offMap.ext x ho off, h0⟩
theorem Inv.lt (i : Inv h₀ σ ρ h) {n : Nat} {p : Addr × Nat} (e : ρ[n]? = some p) : ∃ o, σ[n]? = some o := by
 have hl : n < ρ.length := by
  rcases Nat.lt_or_ge n ρ.length with hl | hl
  ·exact hl
  ·rw [List.getElem?_eq_none hl] at e; cases e
 exact ⟨_, List.getElem?_eq_getElem (i.len ▸ hl)⟩
theorem Inv.gt (i : Inv h₀ σ ρ h) {n : Nat} {o : O} (e : σ[n]? = some o) : ∃ p, ρ[n]? = some p := by
 have hl : n < σ.length := by
  rcases Nat.lt_or_ge n σ.length with hl | hl
  ·exact hl
  ·rw [List.getElem?_eq_none hl] at e; cases e
 exact ⟨_, List.getElem?_eq_getElem (i.len.symm ▸ hl)⟩
theorem Inv.alive (i : Inv h₀ σ ρ h) {p : Addr × Nat} (hp : p ∈ ρ) : ∃ ob, h.get? p.1 = some ob := by
 obtain ⟨n, hn⟩ := List.getElem?_of_mem hp
 obtain ⟨o, ho⟩ := i.lt hn
 exact (i.objs n o p ho hn).live
theorem Inv.keep (i : Inv h₀ σ ρ h) (x : Ext W ρ h ρ h') (hW : ∀ b ∈ W, offMap ρ b ∧ h₀.get? b = none) (hk : ∀ b o, h.get? b = some o → b ∉ W → h'.get? b = some o) : Inv h₀ σ ρ h' where
 base := fun b o e => hk b o (i.base b o e) fun hm => by rw [(hW b hm).2] at e; cases e
 len := i.len
 objs := fun n o p e1 e2 => (i.objs n o p e1 e2).ext x (fun ob g => hk _ _ g fun hm => (hW _ hm).1 p (List.mem_of_getElem? e2) rfl)
 fresh := i.fresh
 apart := i.apart
 up := fun e he => (i.up e he).ext x
theorem Inv.keeps (i : Inv h₀ σ ρ h) (hk : ∀ b o, h.get? b = some o → h'.get? b = some o) : Inv h₀ σ ρ h' :=
 i.keep (W := []) (Ext.of_keeps hk) (fun ya hm => nomatch hm) fun b o e ya => hk b o e
theorem Inv.push (i : Inv h₀ σ ρ h) (o : Obj) : Inv h₀ σ ρ (h.push o) := i.keeps fun ya yb e => Heap.get?_push_of_some o e
theorem fresh_none : h.get? h.objs.size = none := by
 cases e : h.get? h.objs.size with
 | none => rfl
 | some o => exact absurd (Heap.lt_size e) (Nat.lt_irrefl _)
theorem Inv.off_size (i : Inv h₀ σ ρ h) : offMap ρ h.objs.size := fun p hp => by
 obtain ⟨o1, e1⟩ := i.alive hp
 exact fun e => absurd (Heap.lt_size e1) (e ▸ Nat.lt_irrefl _)
theorem snoc_case {p q : Addr × Nat} {n : Nat} (e : (ρ ++ [q])[n]? = some p) : ρ[n]? = some p ∨ (n = ρ.length ∧ p = q) := by
 rcases Nat.lt_or_ge n ρ.length with hl | hl
 ·rw [List.getElem?_append_left hl] at e; exact .inl e
 ·rw [List.getElem?_append_right hl] at e
  rcases Nat.eq_zero_or_pos (n - ρ.length) with hz | hz
  ·rw [hz] at e; cases e; exact .inr ⟨Nat.le_antisymm (Nat.le_of_sub_eq_zero hz) hl, rfl⟩
  ·rw [List.getElem?_eq_none (by simp; exact hz)] at e; cases e
theorem snoc_old {p q : Addr × Nat} {n : Nat} (e : ρ[n]? = some p) : (ρ ++ [q])[n]? = some p := by
 rw [List.getElem?_append_left (by rcases Nat.lt_or_ge n ρ.length with hl | hl; exact hl; rw [List.getElem?_eq_none hl] at e; cases e)]; exact e
theorem Inv.more {h₁ : Heap} {ρ₁ : Map} (i : Inv h₀ σ ρ₁ h') (x : Ext W ρ h₁ ρ₁ h') {a : Addr} {o : O} (ha : h₁.get? a = none) (hoff : offMap ρ₁ a) (h0 : h₀.get? a = none) (hfr : ∀ e ∈ h₀.frs, e.frame ≠ some a) (ho : ORel h₀ (ρ₁ ++ [(a, 0)]) h' (a, 0) o) :
  Inv h₀ (σ ++ [o]) (ρ₁ ++ [(a, 0)]) h' ∧ Ext W ρ h₁ (ρ₁ ++ [(a, 0)]) h' := by
 refine ⟨⟨i.base, by simp [i.len], fun n o' p e1 e2 => ?_, fun n p hp hn => ?_, fun j k p q e1 e2 hjk => ?_, fun e he => ?_⟩, fun n b v e => ?_, x.keep, x.kin, fun j p e hj => ?_⟩
 ·rcases snoc_case e2 with e2 | ⟨rfl, rfl⟩
  ·have hl : n < σ.length := by
    rcases Nat.lt_or_ge n ρ₁.length with hl | hl
    ·rw [← i.len]; exact hl
    ·rw [List.getElem?_eq_none hl] at e2; cases e2
   rw [List.getElem?_append_left hl] at e1
   exact (i.objs n o' p e1 e2).sub Sub.snoc (fun ob g => g)
  ·rw [i.len, List.getElem?_append_right (Nat.le_refl _), Nat.sub_self] at e1
   cases e1; exact ho
 ·rcases snoc_case hp with hp | ⟨_, rfl⟩
  ·exact i.fresh n p hp hn
  ·exact h0
 ·rcases snoc_case e1 with e1 | ⟨rfl, rfl⟩ <;> rcases snoc_case e2 with e2 | ⟨rfl, rfl⟩
  ·exact i.apart j k p q e1 e2 hjk
  ·exact (hoff p (List.mem_of_getElem? e1)).symm
  ·exact hoff q (List.mem_of_getElem? e2)
  ·exact absurd rfl hjk
 ·obtain ⟨hk, L, ob, hL, g, hd, off, hz⟩ := i.up e he
  refine ⟨hk, L, ob, hL, g, hd, fun p hp => ?_, hz⟩
  rcases List.mem_append.mp hp with hp | hp
  ·exact off p hp
  ·rw [List.mem_singleton.mp hp]; exact fun q => hfr e he (hL.trans (congrArg some q))
 ·obtain ⟨v', e', r⟩ := x.pre n b v e
  exact ⟨v', snoc_old e', r⟩
 ·rcases snoc_case e with e | ⟨_, rfl⟩
  ·exact x.new j p e hj
  ·exact ha
theorem Inv.new (i : Inv h₀ σ ρ h) {a : Addr} {o : O} (hk : ∀ b o, h.get? b = some o → h'.get? b = some o) (ha : h.get? a = none) (ho : ORel h₀ (ρ ++ [(a, 0)]) h' (a, 0) o) :
  Inv h₀ (σ ++ [o]) (ρ ++ [(a, 0)]) h' ∧ Ext W ρ h (ρ ++ [(a, 0)]) h' :=
 (i.keeps hk).more (Ext.of_keeps hk) ha (fun p hp e => by obtain ⟨o1, e1⟩ := i.alive hp; rw [← e, ha] at e1; cases e1)
  (by cases e : h₀.get? a with | none => rfl | some o => rw [i.base _ _ e] at ha; cases ha)
  (fun e he q => by obtain ⟨_, L, o, hL, g, _⟩ := i.up e he; rw [hL] at q; cases q; rw [ha] at g; cases g) ho
theorem set_case {p q : Addr × Nat} {n m : Nat} (e : (ρ.set n q)[m]? = some p) : (m = n ∧ p = q) ∨ (m ≠ n ∧ ρ[m]? = some p) := by
 by_cases hm : m = n
 ·subst hm
  rcases Nat.lt_or_ge m ρ.length with hl | hl
  ·rw [List.getElem?_set_self hl] at e; cases e; exact .inl ⟨rfl, rfl⟩
  ·rw [List.getElem?_eq_none (by simpa using hl)] at e; cases e
 ·rw [List.getElem?_set_ne (Ne.symm hm)] at e; exact .inr ⟨hm, e⟩
theorem Inv.put (i : Inv h₀ σ ρ h) {n v v' : Nat} {a : Addr} {o : O} (hpos : 0 < n) (hn : ρ[n]? = some (a, v)) (hv : v ≤ v') (hnd : v' = v → ∀ ob, h.get? a = some ob → ¬IsD ob) (hk : ∀ b ob, b ≠ a → h.get? b = some ob → h'.get? b = some ob) (hlive : ∀ ob, h.get? a = some ob → ∃ ob', h'.get? a = some ob' ∧ Kin ob ob')
  (ho : Ext W ρ h (ρ.set n (a, v')) h' → ORel h₀ (ρ.set n (a, v')) h' (a, v') o) : Inv h₀ (σ.set n o) (ρ.set n (a, v')) h' ∧ Ext W ρ h (ρ.set n (a, v')) h' := by
 have hlt : n < ρ.length := by
  rcases Nat.lt_or_ge n ρ.length with hl | hl
  ·exact hl
  ·rw [List.getElem?_eq_none hl] at hn; cases hn
 have hx : Ext W ρ h (ρ.set n (a, v')) h' :=
  {pre := fun m b u e => by
    by_cases hm : m = n
    ·subst hm
     rw [hn] at e; cases e
     exact ⟨v', List.getElem?_set_self hlt, hv, fun q o g d => absurd d (hnd q o g)⟩
    ·exact ⟨u, by rw [List.getElem?_set_ne (Ne.symm hm)]; exact e, Nat.le_refl _, fun ya o g yb => hk b o (i.apart m n _ _ e hn hm) g⟩
   keep := fun b ob e ya hb => ⟨ob, hk b ob (fun eq => hb _ (List.mem_of_getElem? hn) eq) e, .refl⟩
   kin := fun b ob e => by
    by_cases hb : b = a
    ·rw [hb] at e ⊢; exact hlive ob e
    ·exact ⟨ob, hk b ob hb e, .refl⟩
   new := fun j p e hj => by rw [List.getElem?_eq_none (by simpa using hj)] at e; cases e }
 refine ⟨⟨fun b ob e => hk b ob (fun eq => ?_) (i.base b ob e), by simp [i.len], fun m o' p e1 e2 => ?_, fun m p hp hm => ?_, fun j k p q e1 e2 hjk => ?_, fun e he => (i.up e he).ext hx⟩, hx⟩
 ·have := i.fresh _ _ hn hpos
  rw [eq] at e
  rw [e] at this; cases this
 ·rcases set_case e2 with ⟨rfl, rfl⟩ | ⟨hm, e2⟩
  ·rw [List.getElem?_set_self (i.len ▸ hlt)] at e1
   cases e1; exact ho hx
  ·rw [List.getElem?_set_ne (Ne.symm hm)] at e1
   exact (i.objs m o' p e1 e2).ext hx (fun ob g => hk _ _ (i.apart m n p (a, v) e2 hn hm) g)
 ·rcases set_case hp with ⟨rfl, rfl⟩ | ⟨_, hp⟩
  ·exact i.fresh m (a, v) hn hm
  ·exact i.fresh m p hp hm
 ·rcases set_case e1 with ⟨rfl, rfl⟩ | ⟨h1, d1⟩
  ·rcases set_case e2 with ⟨rfl, rfl⟩ | ⟨h2, d2⟩
   ·exact absurd rfl hjk
   ·exact i.apart j k (a, v) q hn d2 hjk
  ·rcases set_case e2 with ⟨rfl, rfl⟩ | ⟨h2, d2⟩
   ·exact i.apart j k p (a, v) d1 hn hjk
   ·exact i.apart j k p q d1 d2 hjk
theorem Inv.set (i : Inv h₀ σ ρ h) {n v : Nat} {a : Addr} {o : O} (hpos : 0 < n) (hn : ρ[n]? = some (a, v)) (hnd : ∀ ob, h.get? a = some ob → ¬IsD ob) (hk : ∀ b ob, b ≠ a → h.get? b = some ob → h'.get? b = some ob) (hlive : ∀ ob, h.get? a = some ob → ∃ ob', h'.get? a = some ob' ∧ Kin ob ob')
  (ho : Ext W ρ h ρ h' → ORel h₀ ρ h' (a, v) o) : Inv h₀ (σ.set n o) ρ h' ∧ Ext W ρ h ρ h' := by
 have e : ρ.set n (a, v) = ρ := by
  apply List.ext_getElem?
  intro m
  by_cases hm : m = n
  ·subst hm
   rw [hn, List.getElem?_set_self (by rcases Nat.lt_or_ge m ρ.length with hl | hl; exact hl; rw [List.getElem?_eq_none hl] at hn; cases hn)]
  ·rw [List.getElem?_set_ne (Ne.symm hm)]
 have := i.put (W := W) (v' := v) (o := o) hpos hn (Nat.le_refl _) (fun ya => hnd) hk hlive (by rw [e]; exact ho)
 rw [e] at this
 exact this
end
theorem kin_list {vs : List Value} {n : Nat} {o' : Obj} : Kin (listO vs n) o' where
 tup := fun ws m e => by simp [listO, tupO] at e
 dict := fun ⟨_, _, e⟩ => by cases e
 tb := fun ⟨e, _⟩ => absurd (Value.type.inj e) (by decide)
theorem kin_dict {o o' : Obj} (h : IsD o) (h' : IsD o') : Kin o o' where
 tup := fun vs n e => by
  obtain ⟨_, _, h⟩ := h
  rw [e] at h; cases h
 dict := fun ya => h'
 tb := fun t => (tb_not_d t h).elim
theorem kin_dictOf {prog : Program} {w : World} {h h' : Heap} {a : Addr} {kvs kvs' : List (Key × Value)} (g : h.DictOf (keyKind prog w) a kvs) (g' : h'.DictOf (keyKind prog w) a kvs') : ∀ ob, h.get? a = some ob → ∃ ob', h'.get? a = some ob' ∧ Kin ob ob' := fun ob e => by
 obtain ⟨o, es, ep, ho, _, hd, _⟩ := g
 obtain ⟨o', es', ep', ho', _, hd', _⟩ := g'
 rw [e] at ho; cases ho
 exact ⟨o', ho', kin_dict ⟨_, _, hd⟩ ⟨_, _, hd'⟩⟩
noncomputable def RV : V → Map → Heap → Value → Prop := fun v ρ h b => Rel ρ h b v
noncomputable def RB : Bool → Map → Heap → Bool → Prop := fun v ya yb b => b = v
noncomputable def RL : List V → Map → Heap → List Value → Prop := fun l ρ h vs => RelAll ρ h vs l
section
variable {h₀ : Bse} {A : Around} {W : List Addr} {ρ : Map} {s : Shared} {α β : Type} {σ : Store}
theorem Sim.same {t : Sem β} {a : α} {R : α → Map → Heap → β → Prop} (i : Inv h₀ σ ρ s.heap)
  (h : ∀ (Q : β → Shared → Prop) (E : Value → Shared → Prop), (∀ b tk, R a ρ s.heap b → Q b { s with toks := tk }) → wpAny (model h₀.prog h₀.w) A t Q E s) : Sim h₀ A W t (.ok a σ) R ρ s :=
 h _ _ fun b tk r => ⟨ρ, s.heap, tk, rfl, i, Ext.refl, r⟩
theorem Sim.grown {t : Sem β} {a : α} {R : α → Map → Heap → β → Prop} (i : Inv h₀ σ ρ s.heap)
  (h : ∀ (Q : β → Shared → Prop) (E : Value → Shared → Prop), (∀ b h' tk, (∀ c o, s.heap.get? c = some o → h'.get? c = some o) → R a ρ h' b → Q b (At s h' tk)) → wpAny (model h₀.prog h₀.w) A t Q E s) :
  Sim h₀ A W t (.ok a σ) R ρ s :=
 h _ _ fun b h' tk hk r => ⟨ρ, h', tk, rfl, i.keeps hk, Ext.of_keeps hk, r⟩
theorem Sim.newTuple {vs : List Value} {l : List V} (i : Inv h₀ σ ρ s.heap) (r : RelAll ρ s.heap vs l) (hl : l.length ≤ sizeLine) : Sim h₀ A W (PySem.newTuple vs) (.ok (.tup l) σ) RV ρ s := by
 have hlen := r.length
 have hk : ∀ b o, s.heap.get? b = some o → (s.heap.push (tupO vs 0)).get? b = some o := fun b o e => Heap.get?_push_of_some _ e
 refine Sim.grown i fun Q E hQ => ?_
 refine wpAny_newObj_type (T := "tuple") (hQ _ (s.heap.push (tupO vs 0)) s.toks hk ?_) (by show vs.toArray.size ≤ sizeLine; rw [List.size_toArray]; (first | lia | omega))
 exact Rel.tup (n := 0) (Heap.get?_push_size _ rfl) (by (first | lia | omega)) (r.ext (W := []) (Ext.of_keeps hk))
theorem Sim.newList {vs : List Value} {l : List V} (i : Inv h₀ σ ρ s.heap) (r : RelAll ρ s.heap vs l) (hl : l.length ≤ sizeLine) : Sim h₀ A W (PySem.newList vs) (newO (.list l) σ) RV ρ s := by
 have hlen := r.length
 have hk : ∀ b o, s.heap.get? b = some o → (s.heap.push (listO vs 0)).get? b = some o := fun b o e => Heap.get?_push_of_some _ e
 have hN := i.new (W := W) (o := .list l) hk fresh_none ⟨vs, 0, Heap.get?_push_size _ rfl, by (first | lia | omega), ?_⟩
 ·refine wpAny_newObj_type (T := "list") ⟨ρ ++ [(s.heap.objs.size, 0)], s.heap.push (listO vs 0), s.toks, rfl, hN.1, hN.2, ?_⟩ (by show vs.toArray.size ≤ sizeLine; rw [List.size_toArray]; (first | lia | omega))
  refine Rel.ref (d := 0) ?_
  rw [← i.len, List.getElem?_append_right (Nat.le_refl _), Nat.sub_self]; rfl
 ·exact r.sub ((Sub.keeps hk).trans Sub.snoc)
theorem Sim.newListAt {t : Sem Value} {l : List V} (i : Inv h₀ σ ρ s.heap)
  (h : ∀ (Q : Value → Shared → Prop) (E : Value → Shared → Prop), (∀ a vs n h' tk, (∀ c o, s.heap.get? c = some o → h'.get? c = some o) → s.heap.get? a = none → h'.get? a = some (listO vs n) → vs.length ≤ sizeLine →
   RelAll ρ h' vs l → Q (.ref a) (At s h' tk)) → wpAny (model h₀.prog h₀.w) A t Q E s) : Sim h₀ A W t (newO (.list l) σ) RV ρ s := by
 refine h _ _ fun a vs n h' tk hk ha hg hl r => ?_
 have hN := i.new (W := W) (o := .list l) (h' := h') hk ha ⟨vs, n, hg, hl, ?_⟩
 ·exact ⟨ρ ++ [(a, 0)], h', tk, rfl, hN.1, hN.2, Rel.ref (d := 0) (by rw [← i.len, List.getElem?_append_right (Nat.le_refl _), Nat.sub_self]; rfl)⟩
 ·exact r.sub Sub.snoc
theorem Sim.newDictAt {t : Sem Value} {l : Tab} (i : Inv h₀ σ ρ s.heap)
  (h : ∀ (Q : Value → Shared → Prop) (E : Value → Shared → Prop), (∀ a kvs h' tk, (∀ c o, s.heap.get? c = some o → h'.get? c = some o) → s.heap.get? a = none → (a == sysModules) = false → h'.DictOf (keyKind h₀.prog h₀.w) a kvs → kvs.length ≤ sizeLine →
   Ents ρ h' kvs l → Q (.ref a) (At s h' tk)) → wpAny (model h₀.prog h₀.w) A t Q E s) : Sim h₀ A W t (newO (.dict 0 l) σ) RV ρ s := by
 refine h _ _ fun a kvs h' tk hk ha hs hg hl r => ?_
 have hN := i.new (W := W) (o := .dict 0 l) (h' := h') hk ha ⟨rfl, hs, kvs, hg, hl, r.sub Sub.snoc⟩
 exact ⟨ρ ++ [(a, 0)], h', tk, rfl, hN.1, hN.2, Rel.ref (d := 0) (by rw [← i.len, List.getElem?_append_right (Nat.le_refl _), Nat.sub_self]; rfl)⟩
end
end Mine.Internal

set_option backward.match.sparseCases false
namespace Mine.Internal
open PySem PyProof.Rows
noncomputable def bmV : List Value := [.type "ValueError", .type "Exception", .type "BaseException", .type "object"]
noncomputable def xNames : List Str := ["__init__", "__getattribute__", "__getattr__", "args", "__class__"]
theorem lk_VE_class : typeLookup (.type "ValueError") "__class__" = pure (some (.builtin "object.__class__")) := by rw [typeLookup_type, builtinLookup_eq_fast]; kernel_rfl
inductive XTail (h : Heap) : List Value → Prop
 | base : XTail h bmV
 | own {A : Addr} {c0 : Value} {dd : Option Addr} {cd : ClassData} {sl : Array (Option Value)} {mA : Str → Option Value} {tl : List Value} :
   h.get? A = some { cls := c0, dict := dd, data := .cls cd, slots := sl } → h.Ns cd.ns mA → (∀ n ∈ xNames, mA n = none) → XTail h tl → XTail h (.ref A :: tl)
theorem XTail.keeps {h h' : Heap} {tl : List Value} (T : XTail h tl) (hk : ∀ b o, h.get? b = some o → h'.get? b = some o) : XTail h' tl := by
 induction T with
 | base => exact .base
 | own hA hN hq _ ih => exact .own (hk _ _ hA) (hN.keeps hk) hq ih
theorem XTail.tail {h : Heap} {tl : List Value} (T : XTail h tl) : OwnTail h bmV tl := by
 induction T with
 | base => exact .base
 | own hA hN hq _ ih => exact .own hA hN (hq _ (.head _)) ih
structure XF where
 nm : Str
 q : Str
 N : Addr
 bs : List Value
 hdct : Bool
 sn : List Str
 sub : List Value
 ab : Bool
 col : Option Bool
 dd : Option Addr
 k0 : Option Value
 k1 : Option Value
 k2 : Option Value
 k3 : Option Value
 k5 : Option Value
noncomputable abbrev XF.obj (f : XF) (C : Addr) (bm : List Value) : Obj := excClassObj f.nm f.q C f.N f.bs bm f.hdct f.sn f.sub f.ab f.col f.dd f.k0 f.k1 f.k2 f.k3 f.k5 "ValueError.__new__"
structure XCls (h : Heap) (C : Addr) (bm : List Value) : Prop where
 tail : XTail h bm
 obj : ∃ f : XF, h.get? C = some (f.obj C bm) ∧ ∃ mN, h.Ns f.N mN ∧ ∀ n ∈ xNames, mN n = none
theorem XCls.keeps {h h' : Heap} {C : Addr} {bm : List Value} (x : XCls h C bm) (hk : ∀ b o, h.get? b = some o → h'.get? b = some o) : XCls h' C bm where
 tail := x.tail.keeps hk
 obj := by
  obtain ⟨f, hC, mN, hN, hm⟩ := x.obj
  exact ⟨f, hk _ _ hC, mN, hN.keeps hk, hm⟩
section
variable {prog : Program} {w : World} {M : Model} {A : Around} {E : Value → Shared → Prop} {h : Heap} {g : Array GenState} {d : Drawn} {t : Nat} {os : OsState} {a C : Addr} {o : Obj} {bm : List Value}
theorem lookupAlong_x {tl : List Value} {n : Str} {y : Option Value} {Q : Option Value → Shared → Prop} (hn : n ∈ xNames) (T : XTail h tl) (hrest : lookupAlong bmV n = pure y) (hq : Q y ⟨h, g, d, t, os⟩) :
  wpAny M A (lookupAlong tl n) Q E ⟨h, g, d, t, os⟩ := by
 induction T with
 | base => rw [hrest]; exact wpAny_pure hq
 | own hA hN hni _ ih =>
  rw [lookupAlong_cons]
  refine wpAny_bind (wpAny_classOwn_cls hA hN ?_)
  rw [hni n hn]
  exact ih
theorem XCls.lookup {n : Str} {y : Option Value} {Q : Option Value → Shared → Prop} (x : XCls h C bm) (hn : n ∈ xNames) (hB : typeLookup (.type "ValueError") n = pure y) (hq : Q y ⟨h, g, d, t, os⟩) : wpAny M A (typeLookup (.ref C) n) Q E ⟨h, g, d, t, os⟩ := by
 obtain ⟨f, hC, mN, hN, hm⟩ := x.obj
 have hrest : lookupAlong bmV n = pure y := by rw [typeLookup_eq, F.excBase_ValueError.mroIs] at hB; exact hB
 rw [typeLookup_eq]
 refine wpAny_bind (wpAny_mroOf_exc hC ?_)
 rw [lookupAlong_cons]
 refine wpAny_bind (wpAny_classOwn_exc hC hN ?_)
 rw [hm n hn]
 exact lookupAlong_x hn x.tail hrest hq
theorem XCls.sub {base : Value} {Q : Bool → Shared → Prop} (x : XCls h C bm) (hq : Q ((Value.ref C :: bm).contains base) ⟨h, g, d, t, os⟩) : wpAny M A (isSubtype (.ref C) base) Q E ⟨h, g, d, t, os⟩ := by
 obtain ⟨f, hC, mN, hN, hm⟩ := x.obj
 exact wpAny_isSubtype_exc hC hq
theorem XCls.has {X : String} {b : Bool} (x : XCls h C bm) (hb : bmV.contains (.type X) = b) : (Value.ref C :: bm).contains (.type X) = b := by
 rw [List.contains_cons, x.tail.tail.hasType hb]; rfl
theorem XCls.type (x : XCls h C bm) : (⟨h, g, d, t, os⟩ : Shared).TypeIs (.ref C) "type" := by
 obtain ⟨f, hC, mN, hN, hm⟩ := x.obj
 exact ⟨_, hC, rfl⟩
theorem XCls.isType {Q : Bool → Shared → Prop} (x : XCls h C bm) (hq : Q true ⟨h, g, d, t, os⟩) : wpAny M A (PySem.isType (.ref C)) Q E ⟨h, g, d, t, os⟩ := by
 obtain ⟨f, hC, mN, hN, hm⟩ := x.obj
 unfold PySem.isType
 repeat (first | with_reducible refine wpAny_loadPart_at hC ?_ | wp_step)
 exact hq
theorem xclass_get {R : Result → Shared → Prop} (x : XCls h C bm) (hx : h.get? a = some o) (hc : o.cls = .ref C) (hq : R (.ok (.ret (.ref C))) ⟨h, g, d, t, os⟩) :
  codeAny (model prog w) A (.call (.builtin "getset_descriptor.__get__") ⟨[.builtin "object.__class__", .ref a, .ref C], []⟩) R ⟨h, g, d, t, os⟩ := by
 have hT5 : (⟨h, g, d, t, os⟩ : Shared).TypeIs (.builtin "object.__class__") "getset_descriptor" := F.typeOf_object_class
 have hcB : (Value.ref C :: bm).contains (.type (".".intercalate ("object.__class__".cutAt '.').dropLast)) = true := by rw [F.owner_object_class]; exact x.has (by decide +kernel)
 refine codeAny_call_builtin F.slot_gs_get.plain F.entry_gs_get (F.slot_gs_get.check _ _ _ _ _ _ _ _ hT5 (F.args_gs_get _ _ _) ?_)
 repeat (any_goals (first | assumption | (with_reducible refine wpAny_loadPart_at hx ?_; rw [hc]) | (with_reducible refine XCls.sub x ?_; rw [hcB]) | wp_step))
 refine ⟨Code.quiet_builtin _ (by decide +kernel), codeAny_builtin F.entry_object_class ?_⟩
 repeat (any_goals (first | assumption | (with_reducible refine wpAny_loadPart_at hx ?_; rw [hc]) | wp_step))
theorem xclass_entry {tk : Tok} {Q : Fin → Shared → Prop} (x : XCls h C bm) (hx : h.get? a = some o) (hc : o.cls = .ref C) (hq : Q (.done (.ret (.ref C))) ⟨h, g, d, t, os⟩) :
  wpAny (model prog w) A (Builtin.«object.__getattribute__» ⟨[.ref a, .str "__class__" tk], []⟩) Q E ⟨h, g, d, t, os⟩ := by
 have hT5 : (⟨h, g, d, t, os⟩ : Shared).TypeIs (.builtin "object.__class__") "getset_descriptor" := F.typeOf_object_class
 have f5 := F.typeOf_object_class
 have f6 := F.slot_gs_get.lookup
 have f7 := F.slot_gs_set.lookup
 have hmA : ("__class__" : Str) ∈ xNames := by decide +kernel
 repeat (any_goals (first | assumption | (with_reducible refine wpAny_loadPart_at hx ?_; rw [hc]) | with_reducible refine XCls.lookup x hmA lk_VE_class ?_ | wp_step))
 refine xclass_get x hx hc ?_
 repeat (any_goals (first | assumption | wp_step))
theorem xcheck_ga {nameV : Value} {Q : Unit → Shared → Prop} (x : XCls h C bm) (hx : h.get? a = some o) (hc : o.cls = .ref C) (hq : Q () ⟨h, g, d, t, os⟩) : wpAny M A (checkBuiltinCall "BaseException.__getattribute__" ⟨[.ref a, nameV], []⟩) Q E ⟨h, g, d, t, os⟩ := by
 have hk : builtinKind "BaseException.__getattribute__" = some .slot := by decide +kernel
 have hsplit : splitId "BaseException.__getattribute__" = some ("BaseException", "__getattribute__") := by decide +kernel
 have hcB : (Value.ref C :: bm).contains (.type "BaseException") = true := x.has (by decide +kernel)
 have ha := F.args_bexc_ga (.ref a) nameV
 simp only [checkBuiltinCall, hk, hsplit]
 refine wpAny_bind ?_
 unfold isInstance
 repeat (first | (with_reducible refine wpAny_loadPart_at hx ?_; rw [hc]) | (with_reducible refine XCls.sub x ?_; rw [hcB]) | wp_step)
 exact hq
theorem xclass_attr {Q : Option Value → Shared → Prop} (x : XCls h C bm) (hx : h.get? a = some o) (hc : o.cls = .ref C) (hq : Q (some (.ref C)) ⟨h, g, d, t + 1, os⟩) : wpAny (model prog w) A (getAttr? (.ref a) "__class__") Q E ⟨h, g, d, t, os⟩ := by
 have by_ : ∀ {tk : Tok} {t : Nat} {E : Value → Shared → Prop} {Q : Value → Shared → Prop}, Q (.ref C) ⟨h, g, d, t, os⟩ → wpAny (model prog w) A (getAttrBy (.ref a) (.str "__class__" tk) false) Q E ⟨h, g, d, t, os⟩ := by
  intro tk t E Q hq
  have f3 := F.attr_ValueError.ga.bind (.ref a)
  have hx2 : (Value.builtin "BaseException.__getattribute__" == Value.builtin "object.__getattribute__") = false := by decide +kernel
  have hx1 : (onTheHeap (Value.ref C) && Value.builtin "BaseException.__getattribute__" == Value.builtin "object.__getattribute__") = false := by rw [hx2]; rfl
  have hm1 : ("__getattribute__" : Str) ∈ xNames := by decide +kernel
  have hm2 : ("__getattr__" : Str) ∈ xNames := by decide +kernel
  repeat (any_goals (first | assumption | (with_reducible refine wpAny_loadPart_at hx ?_; rw [hc]) | with_reducible refine XCls.lookup x hm1 F.attr_ValueError.ga.lookup ?_ | with_reducible refine XCls.lookup x hm2 F.attrBase_ValueError.noGetattr ?_ | wp_step))
  refine codeAny_call_builtin F.attr_ValueError.ga.plain F.entry_bexc_ga (xcheck_ga x hx hc (xclass_entry x hx hc ?_))
  repeat (any_goals (first | assumption | wp_step))
 unfold getAttr? getAttrBy?
 repeat (any_goals (first | assumption | with_reducible apply by_ | wp_step))
noncomputable def AskCls (h : Heap) (c : Value) : Prop := (∃ D bm', c = .ref D ∧ XCls h D bm') ∨ c = .type "ValueError"
theorem AskCls.typeOf {c : Value} {Q : Value → Shared → Prop} (k : AskCls h c) (hq : Q (.type "type") ⟨h, g, d, t, os⟩) : wpAny M A (PySem.typeOf c) Q E ⟨h, g, d, t, os⟩ := by
 rcases k with ⟨D, bm', rfl, x⟩ | rfl
 ·exact wpAny_typeOf x.type hq
 ·exact wpAny_of_eq (by kernel_rfl) hq
theorem AskCls.isType {c : Value} {Q : Bool → Shared → Prop} (k : AskCls h c) (hq : Q true ⟨h, g, d, t, os⟩) : wpAny M A (PySem.isType c) Q E ⟨h, g, d, t, os⟩ := by
 rcases k with ⟨D, bm', rfl, x⟩ | rfl
 ·exact x.isType hq
 ·exact wpAny_pure hq
theorem isi_exc {c : Value} {Q : Value → Shared → Prop} (x : XCls h C bm) (hx : h.get? a = some o) (hc : o.cls = .ref C) (k : AskCls h c) (hq : ∀ tk, Q (.bool ((Value.ref C :: bm).contains c)) ⟨h, g, d, tk, os⟩) :
  wpAny (model prog w) A (call (.builtin "isinstance") [.ref a, c]) Q E ⟨h, g, d, t, os⟩ := by
 have hsub : ∀ {t : Nat} {A : Around} {E : Value → Shared → Prop} {Q : Bool → Shared → Prop}, Q ((Value.ref C :: bm).contains c) ⟨h, g, d, t, os⟩ → wpAny (model prog w) A (isInstance (.ref a) c) Q E ⟨h, g, d, t, os⟩ := by
  intro t A E Q hq
  unfold isInstance
  repeat (first | (with_reducible refine wpAny_loadPart_at hx ?_; rw [hc]) | wp_step)
  exact x.sub hq
 refine call_isinstance_of ?_ (by intro e; cases e)
 unfold Builtin.«isinstance.nested»
 have ht : ∀ {t : Nat} {A : Around} {E : Value → Shared → Prop} {Q : Value → Shared → Prop}, Q (.ref C) ⟨h, g, d, t, os⟩ → wpAny (model prog w) A (typeOf (.ref a)) Q E ⟨h, g, d, t, os⟩ := by
  intro t A E Q hq
  repeat (first | (with_reducible refine wpAny_loadPart_at hx ?_; rw [hc]) | wp_step)
  exact hq
 refine wpAny_bind (m := typeOf (.ref a)) (ht ?_)
 show wpAny _ _ (if (Value.ref C == c) = true then _ else _) _ _ _
 by_cases he : (Value.ref C == c) = true
 ·rw [if_pos he]
  have hb : (Value.ref C :: bm).contains c = true := by rw [List.contains_cons, show (c == Value.ref C) = true by rw [beq_iff_eq] at he ⊢; exact he.symm]; rfl
  rw [hb] at hq
  repeat (first | refine wpAny_pure ?_ | refine wpAny_rule ?_ | refine wpAny_bind ?_)
  exact hq _
 ·rw [if_neg he]
  refine wpAny_bind (m := typeOf c) (k.typeOf ?_)
  show wpAny _ _ (if (Value.type "type" == Value.type "type") = true then _ else _) _ _ _
  rw [if_pos (by decide)]
  refine wpAny_bind (wpAny_bind (m := isType c) (k.isType ?_))
  refine wpAny_bind (m := isInstance (.ref a) c) (hsub ?_)
  cases hb : (Value.ref C :: bm).contains c with
  | true =>
   rw [hb] at hq
   exact wpAny_pure (a := true) (wpAny_pure (hq _))
  | false =>
   rw [hb] at hq
   refine wpAny_bind (m := getAttr? (.ref a) "__class__") (xclass_attr x hx hc ?_)
   refine wpAny_bind (m := isType (.ref C)) (x.isType ?_)
   refine wpAny_bind (wpAny_rule (x.sub ?_))
   rw [hb]
   exact wpAny_pure (hq _)
end
end Mine.Internal

set_option backward.match.sparseCases false
namespace Mine.Internal
open PySem PyProof.Rows
section
variable {h₀ : Bse} {A : Around} {W : List Addr} {ρ : Map} {h h' : Heap} {s : Shared} {σ : Store} {E : Value → Shared → Prop}
theorem ORel.notTb {p : Addr × Nat} {o : O} (r : ORel h₀ ρ h p o) : ∀ ob, h.get? p.1 = some ob → ¬TbO ob := by
 cases o with
 | list l =>
  obtain ⟨vs, n, g, _, _⟩ := r
  exact fun ob hb t => by rw [g] at hb; cases hb; exact absurd (Value.type.inj t.1) (by decide)
 | dict v l =>
  obtain ⟨e, hs, kvs, ⟨ob, es, ep, g, _, hd, _⟩, _, _⟩ := r
  exact fun ob hb t => by rw [g] at hb; cases hb; exact tb_not_d t ⟨_, _, hd⟩
 | inst c k =>
  obtain ⟨C, ob, dx, d, hc, g, h3, _⟩ := r
  exact fun ob hb t => by rw [g] at hb; cases hb; exact (nomatch h3.symm.trans t.1)
 | flds l =>
  obtain ⟨_, mA, ⟨ob, es, ep, g, hd, _⟩, _⟩ := r
  exact fun ob hb t => by rw [g] at hb; cases hb; exact tb_not_d t ⟨_, _, hd⟩
 | exc c fs =>
  obtain ⟨hf, C, ob, vs, hc, g, h3, _⟩ := r
  exact fun ob hb t => by rw [g] at hb; cases hb; exact (nomatch h3.symm.trans t.1)
theorem Inv.chg (i : Inv h₀ σ ρ h) {n : Nat} {c : Str} {fs : List (Str × V)} {e : Addr} {d : Nat} (hσ : σ[n]? = some (.exc c fs)) (hρ : ρ[n]? = some (e, d))
  (hk : ∀ b o, h.get? b = some o → b ≠ e → (∀ f ∈ h₀.frs, f.frame ≠ some b) → (∀ oe vs, h.get? e = some oe → oe.data = .fields vs → vs[1]? ≠ some (.ref b)) → h'.get? b = some o)
  (hf : ∀ b o, h.get? b = some o → IsD o → ∃ sl, h'.get? b = some { o with slots := sl })
  (ht : ∀ b o, h.get? b = some o → TbO o → ∃ o', h'.get? b = some o' ∧ TbO o')
  (he : ∀ o vs, h.get? e = some o → o.data = .fields vs → TbOk h₀ h vs → ∃ o' vs', h'.get? e = some o' ∧ o'.cls = o.cls ∧ o'.dict = o.dict ∧ o'.data = .fields vs' ∧ TbOk h₀ h' vs') : Inv h₀ σ ρ h' ∧ Ext W ρ h ρ h' := by
 obtain ⟨hfs, C, oe, vs, hc, g, h3, h4, h5, tk, z⟩ := i.objs n _ _ hσ hρ
 have g : h.get? e = some oe := g
 have z : h₀.get? e = none := z
 obtain ⟨oe', vs', g', c1, c2, c3, c4⟩ := he oe vs g h5 tk
 have tbOf : ∀ b, vs[1]? = some (.ref b) → ∃ o, h.get? b = some o ∧ TbO o ∧ h₀.get? b = none := fun b eb => by
  rcases tk.2 with e0 | ⟨tb, o, e1, e3, e4, e5⟩
  ·rw [e0] at eb; cases eb
  ·rw [e1] at eb; cases eb; exact ⟨o, e3, e4, e5⟩
 have notTb : ∀ b o, h.get? b = some o → ¬TbO o → ∀ oe' vs', h.get? e = some oe' → oe'.data = .fields vs' → vs'[1]? ≠ some (.ref b) := fun b o hb nt oe' vs' q1 q2 q3 => by
  rw [g] at q1; cases q1; rw [h5] at q2; cases q2
  obtain ⟨o', e1, e3, _⟩ := tbOf b q3
  rw [hb] at e1; cases e1; exact nt e3
 have isFr : ∀ b o, h.get? b = some o → (∃ f ∈ h₀.frs, f.frame = some b) → IsD o ∧ offMap ρ b ∧ h₀.get? b = none := fun b o hb ⟨f, hf, ef⟩ => by
  obtain ⟨_, L, o', q1, q2, q3, q4, q5⟩ := i.up f hf
  rw [ef] at q1; cases q1
  rw [hb] at q2; cases q2
  exact ⟨q3, q4, q5⟩
 have hx : Ext W ρ h ρ h' :=
  {pre := fun m b v q => ⟨v, q, Nat.le_refl _, fun ya o hb hD => hk b o hb (fun q' => by
    rw [q', g] at hb; cases hb
    obtain ⟨_, _, hD⟩ := hD
    rw [h5] at hD; cases hD) (fun f hf q' => (isFr b o hb ⟨f, hf, q'⟩).2.1 _ (List.mem_of_getElem? q) rfl) (notTb b o hb fun t => tb_not_d t hD)⟩
   keep := fun b o hb ya off => by
    have hbe : b ≠ e := fun q => off _ (List.mem_of_getElem? hρ) q
    by_cases hfr : ∃ f ∈ h₀.frs, f.frame = some b
    ·obtain ⟨q1, _, _⟩ := isFr b o hb hfr
     obtain ⟨sl, q⟩ := hf b o hb q1
     exact ⟨_, q, .inr (.inl ⟨q1, sl, rfl⟩)⟩
    ·by_cases htb : TbO o
     ·obtain ⟨o', q1, q2⟩ := ht b o hb htb
      exact ⟨o', q1, .inr (.inr ⟨htb, q2⟩)⟩
     ·exact ⟨o, hk b o hb hbe (fun f hf q => hfr ⟨f, hf, q⟩) (notTb b o hb htb), .refl⟩
   kin := fun b o hb => by
    by_cases hbe : b = e
    ·subst hbe
     rw [g] at hb; cases hb
     refine ⟨oe', g', ⟨fun ws m q => ?_, fun ⟨es, ep, q⟩ => ?_, fun q => ?_⟩⟩
     ·rw [q] at h5; cases h5
     ·rw [h5] at q; cases q
     ·have q := q.1; rw [h3] at q; cases q
    ·by_cases hD : IsD o
     ·obtain ⟨sl, q⟩ := hf b o hb hD
      exact ⟨_, q, kin_dict hD hD⟩
     ·by_cases htb : TbO o
      ·obtain ⟨o', q1, q2⟩ := ht b o hb htb
       refine ⟨o', q1, ⟨fun ws m q => ?_, fun q => (hD q).elim, fun ya => q2⟩⟩
       rw [q] at htb; exact absurd (Value.type.inj htb.1) (by decide)
      ·exact ⟨o, hk b o hb hbe (fun f hf q => hD (isFr b o hb ⟨f, hf, q⟩).1) (notTb b o hb htb), .refl⟩
   new := fun j p q hj => by rw [List.getElem?_eq_none hj] at q; cases q }
 refine ⟨⟨fun b o hb => ?_, i.len, fun m o p e1 e3 => ?_, i.fresh, i.apart, fun f hf => (i.up f hf).ext hx⟩, hx⟩
 ·have hb' := i.base b o hb
  refine hk b o hb' (fun q => by rw [q, z] at hb; cases hb) (fun f hf q => ?_) fun oe' vs' q1 q2 q3 => ?_
  ·have := (isFr b o hb' ⟨f, hf, q⟩).2.2
   rw [hb] at this; cases this
  ·rw [g] at q1; cases q1; rw [h5] at q2; cases q2
   obtain ⟨_, _, _, q⟩ := tbOf b q3
   rw [hb] at q; cases q
 ·by_cases hm : m = n
  ·subst hm
   rw [hρ] at e3; cases e3
   rw [hσ] at e1; cases e1
   exact ⟨hfs, C, oe', vs', hc, g', c1.trans h3, c2.trans h4, c3, c4, z⟩
  ·have r := i.objs m o p e1 e3
   have nt := r.notTb
   exact r.ext hx fun ob hb => hk _ _ hb (i.apart m n p (e, d) e3 hρ hm) (fun f hf q => (isFr _ _ hb ⟨f, hf, q⟩).2.1 p (List.mem_of_getElem? e3) rfl) (notTb _ _ hb (nt ob hb))
noncomputable def Slots (l : List Env) (h h' : Heap) : Prop := ∀ b o, h.get? b = some o → (h'.get? b = some o ∨ ((∃ f ∈ l, f.frame = some b) ∧ ∃ sl, h'.get? b = some { o with slots := sl }))
theorem readyFrames_ok {Q : Unit → Shared → Prop} : ∀ (l : List Env) (s : Shared), (∀ f ∈ l, f.scope.kind ≠ .module ∧ ∃ L o, f.frame = some L ∧ s.heap.get? L = some o) → (∀ h', Slots l s.heap h' → Q () { s with heap := h' }) → wpAny (model h₀.prog h₀.w) A (readyFrames l) Q E s := by
 intro l
 induction l with
 | nil =>
  intro s _ hq
  exact wpAny_pure (hq _ fun b o e => .inl e)
 | cons f r ih =>
  intro s hl hq
  obtain ⟨hk, L, o, hf, ho⟩ := hl f (List.mem_cons_self ..)
  simp only [readyFrames, hf]
  refine wpAny_bind (wpAny_load ho ?_)
  by_cases hr : ((o.slots.getD 3 none).isSome) = true
  ·rw [if_pos hr]; exact wpAny_pure (hq _ fun b o e => .inl e)
  ·rw [if_neg hr]
   refine wpAny_bind (wpAny_of_eq (a := false) (by simp [behindIsImport, hk]) ?_)
   have go : ∀ back : Value, wpAny (model h₀.prog h₀.w) A (do
     update L fun o => { o with slots := #[some f.code, some (.ref f.globals), o.slots.getD 2 none, some back, o.slots.getD 4 none, f.func.map Value.ref, some (.ref f.builtins)] ++ (f.cells.map fun c => some (.ref c.2)).toArray }
     readyFrames r) Q E s := fun back => by
    refine wpAny_bind (wpAny_update ho ?_)
    have hself := Heap.get?_update_self (fun o : Obj => { o with slots := #[some f.code, some (.ref f.globals), o.slots.getD 2 none, some back, o.slots.getD 4 none, f.func.map Value.ref, some (.ref f.builtins)] ++ (f.cells.map fun c => some (.ref c.2)).toArray }) ho (by
     have hfr := (Heap.get?_some_iff.mp ho).2
     obtain ⟨oc, od, odt, osl⟩ := o
     cases odt <;> first | rfl | exact hfr)
    refine ih _ (fun f' hf' => ?_) fun h' hs => hq h' fun b ob e => ?_
    ·obtain ⟨hk', L', o', e1, e2⟩ := hl f' (List.mem_cons_of_mem _ hf')
     refine ⟨hk', L', ?_⟩
     by_cases hL : L' = L
     ·subst hL; exact ⟨_, e1, hself⟩
     ·exact ⟨o', e1, (Heap.get?_update_ne _ _ _ _ hL).trans e2⟩
    ·by_cases hb : b = L
     ·subst hb
      rw [ho] at e; cases e
      rcases hs b _ hself with q | ⟨_, sl, q⟩
      ·exact .inr ⟨⟨f, List.mem_cons_self .., hf⟩, _, q⟩
      ·exact .inr ⟨⟨f, List.mem_cons_self .., hf⟩, _, q⟩
     ·rcases hs b ob ((Heap.get?_update_ne _ _ _ _ hb).trans e) with q | ⟨⟨f', hf', ef⟩, q⟩
      ·exact .inl q
      ·exact .inr ⟨⟨f', List.mem_cons_of_mem _ hf', ef⟩, q⟩
   cases r with
   | nil => exact wpAny_bind (wpAny_keptBack_nil fun v => go v)
   | cons c r => exact wpAny_bind (m := keptBack f false (c :: r)) (wpAny_pure (go _))
noncomputable def Noted (ev : Value) (h : Heap) : Prop := ∃ a o vs tb, ev = .ref a ∧ h.get? a = some o ∧ o.data = .fields vs ∧ vs[1]? = some (.ref tb)
theorem mapFields_dict (o : Obj) (f : Array Value → Array Value) : (o.mapFields f).dict = o.dict := by
 obtain ⟨oc, od, odt, osl⟩ := o
 cases odt <;> rfl
theorem size_get {a : Addr} {o : Obj} (e : h.get? a = some o) : a ≠ h.objs.size := Nat.ne_of_lt (Heap.lt_size e)
theorem RE.at {e : V} {ev : Value} (r : RE σ e ev ρ s.heap) (i : Inv h₀ σ ρ s.heap) : ∃ n c fs a oe vs C, σ[n]? = some (.exc c fs) ∧ (∃ d, ρ[n]? = some (a, d)) ∧ e = .ref n ∧ ev = .ref a ∧ s.heap.get? a = some oe ∧ oe.cls = .ref C ∧ ClsIs h₀ c C ∧ oe.data = .fields vs ∧ TbOk h₀ s.heap vs ∧ h₀.get? a = none := by
 obtain ⟨n, c, fs, a, d, h1, h2, h3, h4⟩ := r
 obtain ⟨hfs, C, oe, vs, hc, g, h5, h6, h7, tk, z⟩ := i.objs n _ _ h2 h4
 exact ⟨n, c, fs, a, oe, vs, C, h2, ⟨d, h4⟩, h1, h3, g, h5, hc, h7, tk, z⟩
theorem tbSet {e : V} {ev v : Value} {a tb : Addr} {oe : Obj} {vs : Array Value} {Q : Unit → Shared → Prop} (i : Inv h₀ σ ρ s.heap) (r : RE σ e ev ρ s.heap) (hev : ev = .ref a) (ha : s.heap.get? a = some oe) (hd : oe.data = .fields vs) (h1 : vs[1]? = some (.ref tb))
  (hq : ∀ h', Inv h₀ σ ρ h' → Ext [] ρ s.heap ρ h' → h'.get? a = some oe → Q () { s with heap := h' }) : wpAny (model h₀.prog h₀.w) A (setField (.ref tb) 3 v) Q E s := by
 obtain ⟨n, c, fs, a', oe', vs', C, q1, ⟨dv, q2⟩, _, q4, q5, q6, _, q8, tk, z⟩ := r.at i
 rw [hev] at q4; cases q4
 rw [ha] at q5; cases q5
 rw [hd] at q8; cases q8
 have htb : ∃ o tvs, s.heap.get? tb = some o ∧ o.cls = .type "traceback" ∧ o.data = .fields tvs ∧ 3 < tvs.size ∧ h₀.get? tb = none := by
  rcases tk.2 with e0 | ⟨tb', o, e1, e3, ⟨e4, tvs, e6, e7⟩, e5⟩
  ·rw [e0] at h1; cases h1
  ·rw [e1] at h1; cases h1; exact ⟨o, tvs, e3, e4, e6, e7, e5⟩
 obtain ⟨o, tvs, e3, e4, e6, e7, e5⟩ := htb
 refine wpAny_setField e3 e6 e7 ?_
 have hne : a ≠ tb := fun q => by
  rw [q, e3] at ha; cases ha
  rw [q6] at e4; cases e4
 have hd3 := Obj.data_mapFields e6 (·.setIfInBounds 3 v)
 have hself := Heap.get?_update_self (Obj.mapFields (·.setIfInBounds 3 v)) e3 (Obj.isFreed_of_fields hd3)
 have hTb : TbO (Obj.mapFields (·.setIfInBounds 3 v) o) := ⟨(Obj.cls_mapFields _ _).trans e4, _, hd3, by simpa using e7⟩
 have hoth : ∀ b ob, b ≠ tb → s.heap.get? b = some ob → (s.heap.update tb (Obj.mapFields (·.setIfInBounds 3 v))).get? b = some ob := fun b ob hb e => (Heap.get?_update_ne _ _ _ _ hb).trans e
 obtain ⟨i', x'⟩ := i.chg (W := []) (h' := s.heap.update tb (Obj.mapFields (·.setIfInBounds 3 v))) q1 q2 (fun b ob e ya yb hnt => hoth b ob (fun q => hnt oe vs ha hd (q ▸ h1)) e)
  (fun b ob e hD => ⟨ob.slots, hoth b ob (fun q => by rw [q, e3] at e; cases e; exact tb_not_d ⟨e4, tvs, e6, e7⟩ hD) e⟩)
  (fun b ob e hT => by
   by_cases hb : b = tb
   ·subst hb; exact ⟨_, hself, hTb⟩
   ·exact ⟨ob, hoth b ob hb e, hT⟩)
  fun o' ws p1 p2 p3 => by
   rw [ha] at p1; cases p1
   rw [hd] at p2; cases p2
   exact ⟨oe, vs, hoth a oe hne ha, rfl, rfl, hd, p3.1, .inr ⟨tb, _, h1, hself, hTb, e5⟩⟩
 exact hq _ i' x' (hoth a oe hne ha)
theorem setFlight_ok {e : V} {ev : Value} {fr : Option Addr} {Q : Unit → Shared → Prop} (i : Inv h₀ σ ρ s.heap) (r : RE σ e ev ρ s.heap)
  (hq : ∀ h', Inv h₀ σ ρ h' → Ext [] ρ s.heap ρ h' → (Noted ev s.heap → Noted ev h') → Q () { s with heap := h' }) : wpAny (model h₀.prog h₀.w) A (setFlight ev fr) Q E s := by
 obtain ⟨n, c, fs, a, oe, vs, C, q1, ⟨dv, q2⟩, _, rfl, q5, q6, _, q8, tk, z⟩ := r.at i
 unfold setFlight
 rcases tk.2 with e0 | ⟨tb, o, e1, _⟩
 ·refine wpAny_bind (wpAny_field q5 q8 e0 ?_)
  rw [if_neg (by decide)]
  exact wpAny_pure (hq _ i .refl id)
 ·refine wpAny_bind (wpAny_field q5 q8 e1 ?_)
  rw [if_pos (show (Value.ref tb != Value.none) = true from by simp)]
  exact tbSet i r rfl q5 q8 e1 fun h' i' x' g' => hq h' i' x' fun ya => ⟨a, oe, vs, tb, rfl, g', q8, e1⟩
theorem drop_found {α : Type} [BEq α] [LawfulBEq α] {x : α} {f : Env → α} : ∀ {l : List Env}, (∃ e ∈ l, f e = x) → ∃ e r, (l.dropWhile fun y => f y != x) = e :: r ∧ f e = x ∧ e ∈ l ∧ ∀ y ∈ r, y ∈ l
 | [], ⟨_, h, _⟩ => nomatch h
 | y :: l, ⟨e, he, hx⟩ => by
  by_cases hy : f y = x
  ·refine ⟨y, l, ?_, hy, List.mem_cons_self .., fun z hz => List.mem_cons_of_mem _ hz⟩
   rw [List.dropWhile_cons, show (f y != x) = false by simp [hy]]; rfl
  ·have hm : e ∈ l := by
    rcases List.mem_cons.mp he with rfl | h
    ·exact absurd hx hy
    ·exact h
   obtain ⟨e', r, h1, h2, h3, h4⟩ := drop_found (l := l) ⟨e, hm, hx⟩
   refine ⟨e', r, ?_, h2, List.mem_cons_of_mem _ h3, fun z hz => List.mem_cons_of_mem _ (h4 z hz)⟩
   rw [List.dropWhile_cons, show (f y != x) = true by simp [hy]]; exact h1
theorem tbNew {env : Env} {L : Addr} {e : V} {ev head : Value} {b : Bool} {n : Nat} {q : Bool} {Q : Unit → Shared → Prop} (hA : Rm h₀ A n q) (htop : ∃ f ∈ h₀.frs, f.frame = env.frame) (i : Inv h₀ σ ρ s.heap) (r : RE σ e ev ρ s.heap)
  (hq : ∀ h', Inv h₀ σ ρ h' → Ext [] ρ s.heap ρ h' → Noted ev h' → Q () { s with heap := h' }) :
  wpAny (model h₀.prog h₀.w) A (do setField ev 1 (← EntryCells.newEntry head (← PySem.frameOf env) .none (rawInt L) .none (← entryPlaceOf L b))) Q E s := by
 obtain ⟨k, c, fs, a, oe, vs, C, q1, ⟨dv, q2⟩, _, rfl, q5, q6, _, q8, tk, z⟩ := r.at i
 unfold PySem.frameOf
 refine wpAny_bind (wpAny_bind (wpAny_frameEnvs hA.frames ?_))
 obtain ⟨f, fr, h1, h2, h3, h4⟩ := drop_found (f := fun y : Env => y.frame) htop
 rw [h1]
 unfold frameObject
 have hsub : ∀ y ∈ f :: fr, y ∈ h₀.frs := fun y hy => (List.mem_cons.mp hy).elim (fun q => q ▸ h3) (h4 y)
 refine wpAny_bind (wpAny_bind (readyFrames_ok (f :: fr) s (fun y hy => ?_) fun H hs => wpAny_pure ?_))
 ·obtain ⟨p1, L', o', p2, p3, _⟩ := i.up y (hsub y hy)
  exact ⟨p1, L', o', p2, p3⟩
 obtain ⟨_, L', o', p2, p3, _⟩ := i.up f h3
 rw [p2]
 refine wpAny_pure (wpAny_bind (wpAny_entryPlaceOf fun pl hpl => ?_))
 unfold EntryCells.newEntry newFields
 refine wpAny_bind (wpAny_newObj_type ?_ (hpl.sizeOk5 _ _ _ _ _))
 have hTb : TbO { cls := .type "traceback", dict := none, data := .fields ([head, Value.ref L', .none, rawInt L, .none] ++ (if pl.isEmpty then List.replicate 6 Value.none else pl)).toArray } := ⟨rfl, _, rfl, by simp only [List.size_toArray, List.length_append, List.length_cons, List.length_nil]; (first | lia | omega)⟩
 generalize hTo : ({ cls := .type "traceback", dict := none, data := .fields ([head, Value.ref L', .none, rawInt L, .none] ++ (if pl.isEmpty then List.replicate 6 Value.none else pl)).toArray } : Obj) = T at hTb ⊢
 have old : ∀ y ob, s.heap.get? y = some ob → ∃ ob', H.get? y = some ob' := fun y ob hy => (hs y ob hy).elim (fun q => ⟨ob, q⟩) fun ⟨_, sl, q⟩ => ⟨_, q⟩
 obtain ⟨oe1, g1, c1, d1, t1⟩ : ∃ o1, H.get? a = some o1 ∧ o1.cls = oe.cls ∧ o1.dict = oe.dict ∧ o1.data = .fields vs := by
  rcases hs a oe q5 with q | ⟨_, sl, q⟩
  ·exact ⟨oe, q, rfl, rfl, q8⟩
  ·exact ⟨_, q, rfl, rfl, q8⟩
 have g2 := Heap.get?_push_of_some (h := H) T g1
 have hd3 := Obj.data_mapFields t1 (·.setIfInBounds 1 (Value.ref H.objs.size))
 refine wpAny_setField g2 t1 tk.1 ?_
 have hself := Heap.get?_update_self (Obj.mapFields (·.setIfInBounds 1 (Value.ref H.objs.size))) g2 (Obj.isFreed_of_fields hd3)
 have hTe : H.objs.size ≠ a := (size_get g1).symm
 have hT3 : ((H.push T).update a (Obj.mapFields (·.setIfInBounds 1 (Value.ref H.objs.size)))).get? H.objs.size = some T := (Heap.get?_update_ne _ _ _ _ hTe).trans (Heap.get?_push_size H (by rw [← hTo]; rfl))
 have hoth : ∀ y ob, y ≠ a → H.get? y = some ob → ((H.push T).update a (Obj.mapFields (·.setIfInBounds 1 (Value.ref H.objs.size)))).get? y = some ob := fun y ob hy e => (Heap.get?_update_ne _ _ _ _ hy).trans (Heap.get?_push_of_some T e)
 have h1' : (vs.setIfInBounds 1 (Value.ref H.objs.size))[1]? = some (.ref H.objs.size) := by simp [tk.1]
 obtain ⟨i', x'⟩ := i.chg (W := []) (h' := (H.push T).update a (Obj.mapFields (·.setIfInBounds 1 (Value.ref H.objs.size)))) q1 q2
  (fun y ob e hya hnf ya => hoth y ob hya ((hs y ob e).elim id fun ⟨⟨f', hf', ef⟩, _⟩ => absurd ef (hnf f' (hsub f' hf'))))
  (fun y ob e hD => by
   have hya : y ≠ a := fun q => by rw [q, q5] at e; cases e; obtain ⟨_, _, q⟩ := hD; rw [q8] at q; cases q
   rcases hs y ob e with q | ⟨_, sl, q⟩
   ·exact ⟨ob.slots, hoth y ob hya q⟩
   ·exact ⟨sl, hoth y _ hya q⟩)
  (fun y ob e hT => by
   have hya : y ≠ a := fun q => by rw [q, q5] at e; cases e; exact nomatch q6.symm.trans hT.1
   rcases hs y ob e with q | ⟨_, sl, q⟩
   ·exact ⟨ob, hoth y ob hya q, hT⟩
   ·exact ⟨_, hoth y _ hya q, hT⟩)
  fun o' ws p1 p4 p5 => by
   rw [q5] at p1; cases p1
   rw [q8] at p4; cases p4
   refine ⟨_, _, hself, (Obj.cls_mapFields _ _).trans c1, (mapFields_dict _ _).trans d1, hd3, by simpa using tk.1, .inr ⟨H.objs.size, T, h1', hT3, hTb, ?_⟩⟩
   cases e0 : h₀.get? H.objs.size with
   | none => rfl
   | some o =>
    obtain ⟨o1, e1⟩ := old _ _ (i.base _ _ e0)
    exact absurd rfl (size_get e1)
 exact hq _ i' x' ⟨a, _, _, H.objs.size, rfl, hself, hd3, h1'⟩
theorem note_ok {env : Env} {e : V} {ev : Value} {n : Nat} {q : Bool} {Q : Unit → Shared → Prop} (hA : Rm h₀ A n q) (htop : ∃ f ∈ h₀.frs, f.frame = env.frame) (i : Inv h₀ σ ρ s.heap) (r : RE σ e ev ρ s.heap)
  (hq : ∀ h', Inv h₀ σ ρ h' → Ext [] ρ s.heap ρ h' → Noted ev h' → Q () { s with heap := h' }) : wpAny (model h₀.prog h₀.w) A (noteFrame ev env) Q E s := by
 obtain ⟨k, c, fs, a, oe, vs, C, q1, ⟨dv, q2⟩, _, q4, q5, q6, _, q8, tk, z⟩ := r.at i
 obtain ⟨f, hf, ef⟩ := htop
 obtain ⟨_, L, o', p2, p3, _⟩ := i.up f hf
 rw [p2] at ef
 unfold noteFrame
 rw [← ef]
 subst q4
 rcases tk.2 with e0 | ⟨tb, ot, e1, e3, ⟨_, tvs, e5, e6⟩, _⟩
 ·refine wpAny_bind (wpAny_field q5 q8 e0 ?_)
  rw [if_neg (by decide)]
  exact tbNew hA ⟨f, hf, p2.trans ef⟩ i r hq
 ·refine wpAny_bind (wpAny_field q5 q8 e1 ?_)
  rw [if_pos (show (Value.ref tb != Value.none) = true from by simp)]
  refine wpAny_bind (wpAny_field e3 e5 (Array.getElem?_eq_getElem e6) ?_)
  by_cases hfl : (tvs[3] == rawInt L) = true
  ·rw [if_pos hfl]
   exact wpAny_pure (hq _ i .refl ⟨a, oe, vs, tb, rfl, q5, q8, e1⟩)
  ·rw [if_neg hfl]
   refine wpAny_bind (tbSet i r rfl q5 q8 e1 fun h' i' x' g' => ?_)
   exact tbNew (s := { s with heap := h' }) hA ⟨f, hf, p2.trans ef⟩ i' r fun h'' i'' x'' nt => hq h'' i'' (x'.trans x'') nt
end
end Mine.Internal

set_option backward.match.sparseCases false
namespace Mine.Internal
open PySem PyProof.Rows
section
variable {h₀ : Bse} {A : Around} {W : List Addr} {ρ : Map} {s : Shared} {σ : Store}
theorem Inv.list (i : Inv h₀ σ ρ s.heap) {n : Nat} {l : List V} {a : Addr} {d : Nat} (hσ : σ[n]? = some (.list l)) (hρ : ρ[n]? = some (a, d)) :
  ∃ vs k, s.heap.get? a = some (listO vs k) ∧ vs.length ≤ sizeLine ∧ RelAll ρ s.heap vs l := i.objs n _ _ hσ hρ
theorem isList_of {h : Heap} {a : Addr} {vs : List Value} {k : Nat} (e : h.get? a = some (listO vs k)) : h.IsList a vs.toArray := ⟨_, e, rfl, k, rfl⟩
theorem isTuple_of {h : Heap} {a : Addr} {vs : List Value} {k : Nat} (e : h.get? a = some (tupO vs k)) : h.IsTuple a vs.toArray := ⟨_, e, rfl, k, rfl⟩
theorem sizeLine_lt : sizeLine < 2 ^ 63 := by decide
theorem getO_ok {n : Nat} {o : O} {σ' : Store} (h : getO n σ = .ok o σ') : σ' = σ ∧ σ[n]? = some o := by
 rw [getO_eq] at h
 cases e : σ[n]? with
 | none => rw [e] at h; cases h
 | some x => rw [e] at h; cases h; exact ⟨rfl, rfl⟩
theorem getO_exc {n : Nat} {e : V} {σ' : Store} (h : getO n σ = .exc e σ') : False := by
 rw [getO_eq] at h
 cases e : σ[n]? with
 | none => rw [e] at h; cases h
 | some x => rw [e] at h; cases h
theorem Sim.getList {β γ : Type} {t : Sem β} {n : Nat} {k : List V → M γ} {R : γ → Map → Heap → β → Prop} (h : ∀ l, σ[n]? = some (.list l) → Sim h₀ A W t (k l σ) R ρ s) :
  Sim h₀ A W t ((getList n >>= k) σ) R ρ s := by
 cases e : σ[n]? with
 | none => rw [bind_bad (by rw [getList_eq, e])]; exact trivial
 | some o =>
  cases o with
  | list l => rw [bind_ok (by rw [getList_eq, e])]; exact h l e
  | dict _ _ => rw [bind_bad (by rw [getList_eq, e])]; exact trivial
  | inst _ _ => rw [bind_bad (by rw [getList_eq, e])]; exact trivial
  | flds _ => rw [bind_bad (by rw [getList_eq, e])]; exact trivial
  | exc _ _ => rw [bind_bad (by rw [getList_eq, e])]; exact trivial
theorem strOk_append {x y : Str} (hx : PyData.strOk x = true) (hy : PyData.strOk y = true) : PyData.strOk (x ++ y) = true := by
 unfold PyData.strOk at *
 show (x.cps ++ y.cps).all _ = true
 rw [Array.all_append, hx, hy]; rfl
theorem mulOk_fits {a b : Int} (h : Small a ∨ Small b) : IntMulOk a b :=
 h.elim (fun h => IntMulOk.of_left (intBits_le_64 h.1 h.2)) fun h => IntMulOk.of_right (intBits_le_64 h.1 h.2)
theorem Small.noPylong {a b : Int} (h : Small b) : Builtin.divisionGoesByPylong a b = false := PyProof.noPylong_of_log2 (by
 have h1 : b.natAbs < 2 ^ 64 := by have := h.1; have := h.2; (first | lia | omega)
 by_cases hz : b.natAbs = 0
 ·rw [hz]; decide
 ·exact (Nat.log2_lt hz).mpr (Nat.lt_of_lt_of_le h1 (Nat.pow_le_pow_right (by decide) (by decide))))
theorem Sim.ite {α β : Type} {t : Sem β} {c : Prop} [Decidable c] {m : M α} {R : α → Map → Heap → β → Prop} (h : c → Sim h₀ A W t (m σ) R ρ s) : Sim h₀ A W t ((if c then m else M.bad) σ) R ρ s := by
 by_cases hc : c
 ·rw [if_pos hc]; exact h hc
 ·rw [if_neg hc]; exact trivial
theorem Sim.intOp {op : Operator} {a b : Int} {t u : Tok} (i : Inv h₀ σ ρ s.heap) : Sim h₀ A W (binaryOp op (.int a t) (.int b u)) (Mine.Internal.intOp op a b σ) RV ρ s := by
 cases op with
 | Add => exact Sim.same i fun Q E hQ => add_int (hQ _ _ (.int _ _))
 | Sub => exact Sim.same i fun Q E hQ => sub_int (hQ _ _ (.int _ _))
 | Mult => exact Sim.ite fun hc => Sim.same i fun Q E hQ => PyProof.Rows.mul_int (hQ _ _ (.int _ _)) (mulOk_fits hc)
 | FloorDiv => exact Sim.ite fun hc => Sim.same i fun Q E hQ => floordiv_int hc.1 (hQ _ _ (.int _ _)) (.inl hc.2.noPylong)
 | Mod => exact Sim.ite fun hc => Sim.same i fun Q E hQ => mod_int hc.1 (hQ _ _ (.int _ _))
 | Pow =>
  refine Sim.ite fun hc => Sim.same i fun Q E hQ => pow_int_small hc.1 (by (first | lia | omega)) ?_ (hQ _ _ (.int _ _))
  exact Nat.lt_of_lt_of_le hc.2.2 (by decide)
 | _ => exact trivial
theorem Sim.addV {a b : Value} {x y : V} (i : Inv h₀ σ ρ s.heap) (ra : Rel ρ s.heap a x) (rb : Rel ρ s.heap b y) :
  Sim h₀ A W (binaryOp .Add a b) (Mine.Internal.addV x y σ) RV ρ s := by
 cases ra with
 | str _ _ hx =>
  cases rb with
  | str _ _ hy => exact Sim.ite fun hc => Sim.same i fun Q E hQ => add_str (fun t' tk => hQ _ _ (.str _ _ ⟨by rw [length_append]; exact hc, strOk_append hx.2 hy.2⟩)) hc
  | _ => exact trivial
 | @tup ad vs n l ga la r1 =>
  cases rb with
  | @tup bd ws k m gb lb r2 =>
   refine Sim.ite fun hc => ?_
   have h1 := r1.length
   have h2 := r2.length
   by_cases hv : vs = []
   ·subst hv
    cases r1
    refine Sim.same i fun Q E hQ => ?_
    exact concat_meets ⟨_, ga, rfl⟩ ⟨_, gb, rfl⟩ noFill_tuple_add seq_tuple_add PySem.F.slot_tuple_add PySem.F.entry_tuple_add (PySem.F.args_tuple_add_2 _ _)
     (tuple_addW0 ad bd ([] : List Value).toArray ws.toArray n k none none #[] #[] rfl) ⟨ga, gb, hQ _ _ (.tup gb lb r2)⟩
   ·by_cases hw : ws = []
    ·subst hw
     cases r2
     refine Sim.same i fun Q E hQ => ?_
     rw [List.append_nil] at hQ
     exact concat_meets ⟨_, ga, rfl⟩ ⟨_, gb, rfl⟩ noFill_tuple_add seq_tuple_add PySem.F.slot_tuple_add PySem.F.entry_tuple_add (PySem.F.args_tuple_add_2 _ _)
      (tuple_addW1 ad bd vs.toArray ([] : List Value).toArray n k none none #[] #[] (by simpa using hv) rfl) ⟨ga, gb, hQ _ _ (.tup ga la r1)⟩
    ·have hk : ∀ b o, s.heap.get? b = some o → (s.heap.push (tupO (vs ++ ws) 0)).get? b = some o := fun b o e => Heap.get?_push_of_some _ e
     refine Sim.grown i fun Q E hQ => P.add_tuple (n := n) (n2 := k) ga gb (by simpa using hv) (by simpa using hw) ?_ (by simp; (first | lia | omega))
     have := hQ (.ref s.heap.objs.size) (s.heap.push (tupO (vs ++ ws) 0)) s.toks hk (.tup (n := 0) (Heap.get?_push_size _ rfl) (by simp; (first | lia | omega)) ((r1.append r2).sub (Sub.keeps hk)))
     simpa [tupO] using this
  | _ => exact trivial
 | ref ea =>
  cases rb with
  | ref eb =>
   refine Sim.getList fun l hl => Sim.getList fun m hm => Sim.ite fun hc => ?_
   obtain ⟨vs, k, ga, la, r1⟩ := i.list hl ea
   obtain ⟨ws, k', gb, lb, r2⟩ := i.list hm eb
   have h1 := r1.length
   have h2 := r2.length
   refine Sim.newListAt i fun Q E hQ => P.add_list (n := k) (n2 := k') ga gb ?_ (by simp; (first | lia | omega))
   have hk : ∀ b o, s.heap.get? b = some o → (s.heap.push (listO (vs ++ ws) 0)).get? b = some o := fun b o e => Heap.get?_push_of_some _ e
   have := hQ s.heap.objs.size (vs ++ ws) 0 (s.heap.push (listO (vs ++ ws) 0)) s.toks hk fresh_none (Heap.get?_push_size _ rfl) (by simp; (first | lia | omega)) ((r1.append r2).sub (Sub.keeps hk))
   simpa [listO] using this
  | _ => exact trivial
 | _ => exact trivial
theorem times_all {x : Array Nat} {p : Nat → Bool} (hx : x.all p = true) : ∀ (n : Nat) (acc : Array Nat), acc.all p = true → ((List.replicate n x).foldl (· ++ ·) acc).all p = true ∧ ((List.replicate n x).foldl (· ++ ·) acc).size = acc.size + n * x.size
 | 0, acc, h => ⟨h, by rw [Nat.zero_mul]; rfl⟩
 | n + 1, acc, h => by
  rw [List.replicate_succ, List.foldl_cons]
  obtain ⟨h1, h2⟩ := times_all hx n (acc ++ x) (by rw [Array.all_append, h, hx]; rfl)
  exact ⟨h1, by rw [h2, Array.size_append, Nat.succ_mul, Nat.add_comm (n * x.size), Nat.add_assoc]⟩
theorem times_one {x : Str} : timesS x 1 = x := by
 show (⟨#[] ++ x.cps⟩ : Str) = x
 rw [Array.empty_append]
theorem Sim.mulV {a b : Value} {x y : V} (i : Inv h₀ σ ρ s.heap) (ra : Rel ρ s.heap a x) (rb : Rel ρ s.heap b y) :
  Sim h₀ A W (binaryOp .Mult a b) (Mine.Internal.mulV x y σ) RV ρ s := by
 cases ra with
 | str x t hx =>
  cases rb with
  | int k u =>
   refine Sim.ite fun hc => ?_
   obtain ⟨h1, h2, h3⟩ := hc
   obtain ⟨j, rfl⟩ := Int.eq_ofNat_of_zero_le (Int.le_trans (by decide) h1)
   have hj : j ≤ 1000 := Int.ofNat_le.mp h2
   have hok : SOk (timesS x j) := by
    obtain ⟨e1, e2⟩ := times_all (p := _) hx.2 j #[] (by simp)
    refine ⟨?_, e1⟩
    show ((List.replicate j x.cps).foldl (· ++ ·) #[]).size ≤ sizeLine
    rw [e2, show x.cps.size = 1 from h3, Nat.mul_one, Array.size_empty, Nat.zero_add]
    exact Nat.le_trans hj (by decide)
   have no : ¬ ((j : Int) < 1) := Int.not_lt.mpr h1
   refine Sim.same i fun Q E hQ => P.mul_str ?_ (fun ya yb => ?_) (fun ya yb => ?_) ?_
   ·rw [decide_eq_false (by (first | lia | omega)), decide_eq_false (by (first | lia | omega))]; rfl
   ·rw [h3]
    refine Int.not_lt.mpr ((Int.le_ediv_iff_mul_le (Int.lt_of_lt_of_le (by decide) h1)).mpr ?_)
    show (1 : Int) * (j : Int) ≤ _
    rw [Int.one_mul]
    exact Int.le_trans h2 (by decide)
   ·rw [h3, Nat.one_mul]
    show decide (j > sizeLine) = false
    exact decide_eq_false (Nat.not_lt.mpr (Nat.le_trans hj (by decide)))
   ·rw [if_neg no]
    by_cases h4 : ((j : Int) == 1 || x.length == 0) = true
    ·rw [if_pos h4]
     have : j = 1 := by
      rw [h3] at h4
      have h5 : (j : Int) = 1 := by simpa using h4
      (first | lia | omega)
     subst this
     refine hQ _ s.toks ?_
     show Rel ρ s.heap _ (V.str (timesS x 1))
     rw [times_one]; exact .str _ _ hx
    ·rw [if_neg h4]
     exact ⟨hok.1, hQ _ _ (.str _ _ hok)⟩
  | _ => exact trivial
 | _ => exact trivial
theorem Sim.binop {op : Operator} {a b : Value} {x y : V} (i : Inv h₀ σ ρ s.heap) (ra : Rel ρ s.heap a x) (rb : Rel ρ s.heap b y) :
  Sim h₀ A W (binaryOp op a b) (binop op x y σ) RV ρ s := by
 have other : Sim h₀ A W (binaryOp op a b) ((cond (isAdd op) (Mine.Internal.addV x y) (cond (isMul op) (Mine.Internal.mulV x y) M.bad)) σ) RV ρ s := by
  cases op with
  | Add => exact Sim.addV i ra rb
  | Mult => exact Sim.mulV i ra rb
  | _ => exact trivial
 cases ra with
 | int p t =>
  cases rb with
  | int q u => exact Sim.intOp i
  | _ => exact trivial
 | none => exact other
 | bool _ => exact other
 | str _ _ _ => exact other
 | tup _ _ _ => exact other
 | ref _ => exact other
end
end Mine.Internal

set_option backward.match.sparseCases false
namespace Mine.Internal
open PySem PyProof.Rows
section
variable {h₀ : Bse} {ρ : Map} {h : Heap} {σ : Store}
noncomputable def RdQ (h : Heap) (v : Value) (d : PyData) : Prop := ∃ as, Reads h v d as ∧ d.canLay0 = true
noncomputable def RdsQ (h : Heap) (vs : List Value) (ds : List PyData) : Prop := ∃ as, ReadsAll h vs ds as ∧ PyData.canLayAll0 ds = true
theorem reads_cons {f : Nat → Option PyData} {v : Value} {vs : List Value} {x : V} {l : List V} {ds : List PyData} (h1 : ∀ d, toPyT f x = some d → RdQ h v d) (h2 : ∀ ds, toPyTs f l = some ds → RdsQ h vs ds) (e : toPyTs f (x :: l) = some ds) : RdsQ h (v :: vs) ds := by
 have e : (match toPyT f x, toPyTs f l with | some d, some ds => some (d :: ds) | _, _ => none) = some ds := e
 cases e1 : toPyT f x with
 | none => rw [e1] at e; cases e
 | some d =>
  cases e2 : toPyTs f l with
  | none => rw [e1, e2] at e; cases e
  | some ds' =>
   rw [e1, e2] at e; cases e
   obtain ⟨as, hr, hc⟩ := h1 d e1
   obtain ⟨bs, hrs, hcs⟩ := h2 ds' e2
   exact ⟨as ++ bs, .cons hr hrs, by show (d.canLay0 && PyData.canLayAll0 ds') = true; rw [hc, hcs]; rfl⟩
theorem toPyT_reads {f : Nat → Option PyData} (hf : ∀ n d a b, f n = some d → ρ[n]? = some (a, b) → RdQ h (.ref a) d) {v : Value} {x : V} {d : PyData} (r : Rel ρ h v x) (e : toPyT f x = some d) : RdQ h v d := by
 refine Rel.rec (motive_1 := fun v x ya => ∀ d, toPyT f x = some d → RdQ h v d) (motive_2 := fun vs l ya => ∀ ds, toPyTs f l = some ds → RdsQ h vs ds) ?_ ?_ ?_ ?_ ?_ ?_ ?_ ?_ r d e
 ·intro d e; cases e; exact ⟨_, .none, rfl⟩
 ·intro b d e; cases e; exact ⟨_, .bool b, rfl⟩
 ·intro i t d e; cases e; exact ⟨_, .int i t, rfl⟩
 ·intro x t hx d e; cases e; exact ⟨_, .str x t, hx.2⟩
 ·intro a vs n l g _ r ih d e
  obtain ⟨ds, e1, rfl⟩ := Option.map_eq_some_iff.mp (show (toPyTs f l).map PyData.tuple = some d from e)
  obtain ⟨as, hr, hc⟩ := ih ds e1
  exact ⟨as, .tuple (vs := vs.toArray) (n := n) g rfl rfl (by simpa using hr), hc⟩
 ·intro a b n hn d e; exact hf _ _ _ _ e hn
 ·intro ds e; cases e; exact ⟨_, .nil, rfl⟩
 ·intro v vs x l _ _ h1 h2 ds e; exact reads_cons h1 h2 e
theorem toPyTs_reads {f : Nat → Option PyData} (hf : ∀ n d a b, f n = some d → ρ[n]? = some (a, b) → RdQ h (.ref a) d) {vs : List Value} {l : List V} {ds : List PyData} (r : RelAll ρ h vs l) (e : toPyTs f l = some ds) : RdsQ h vs ds :=
 RelAll.ind (P := fun vs l ya => ∀ ds, toPyTs f l = some ds → RdsQ h vs ds) (fun ds e => by cases e; exact ⟨_, .nil, rfl⟩) (fun r ya ih ds e => reads_cons (fun d => toPyT_reads hf r) ih e) r ds e
theorem toPyF_reads (i : Inv h₀ σ ρ h) : ∀ (k n : Nat) (d : PyData) (a b : Addr), toPyF σ k n = some d → ρ[n]? = some (a, b) → RdQ h (.ref a) d
 | 0, _, _, _, _, e, _ => by cases e
 | k + 1, n, d, a, b, e, hn => by
  have e : (match σ[n]? with | some (.list l) => (toPyTs (toPyF σ k) l).map PyData.list | _ => none) = some d := e
  cases e1 : σ[n]? with
  | none => rw [e1] at e; cases e
  | some o =>
   rw [e1] at e
   cases o with
   | dict _ _ => cases e
   | inst _ _ => cases e
   | flds _ => cases e
   | exc _ _ => cases e
   | list l =>
    obtain ⟨ds, e2, rfl⟩ := Option.map_eq_some_iff.mp e
    obtain ⟨vs, m, g, hl, r⟩ := i.objs n _ _ e1 hn
    obtain ⟨as, hr, hc⟩ := toPyTs_reads (fun n d a b => toPyF_reads i k n d a b) r e2
    exact ⟨a :: as, .list (vs := vs.toArray) (n := m) g rfl rfl (by simpa using hr), hc⟩
theorem toPy_reads (i : Inv h₀ σ ρ h) {v : Value} {x : V} {d : PyData} (r : Rel ρ h v x) (e : toPy σ x = some d) : RdQ h v d :=
 toPyT_reads (fun n d a b => toPyF_reads i 4 n d a b) r e
end
section
variable {h₀ : Bse} {A : Around} {W : List Addr} {ρ : Map} {s : Shared} {σ : Store}
theorem veq_some {x y : V} {b : Bool} (h : veq σ x y = some b) : ∃ dx dy, toPy σ x = some dx ∧ toPy σ y = some dy ∧ min dx.depth dy.depth ≤ 200 ∧ b = PyData.eqv dx dy := by
 unfold veq at h
 cases e1 : toPy σ x with
 | none => rw [e1] at h; cases h
 | some dx =>
  cases e2 : toPy σ y with
  | none => rw [e1, e2] at h; cases h
  | some dy =>
   rw [e1, e2] at h
   dsimp only at h
   split at h
   ·rename_i hd; cases h; exact ⟨dx, dy, rfl, rfl, hd, rfl⟩
   ·cases h
theorem Sim.ask {α β : Type} {t : Sem β} {f : Store → Option α} {R : α → Map → Heap → β → Prop} (h : ∀ a, f σ = some a → Sim h₀ A W t (.ok a σ) R ρ s) : Sim h₀ A W t (askS f σ) R ρ s := by
 rw [askS_eq]
 cases e : f σ with
 | none => exact trivial
 | some a => exact h a e
theorem eqAt_of (i : Inv h₀ σ ρ s.heap) {a b : Value} {x y : V} {dx dy : PyData} (ra : Rel ρ s.heap a x) (rb : Rel ρ s.heap b y) (ex : toPy σ x = some dx) (ey : toPy σ y = some dy)
  (hd : min dx.depth dy.depth ≤ 200) (hu : A.units + 200 < cLine) : SeqAt.EqAt A s a b (PyData.eqv dx dy) := by
 obtain ⟨as, r1, c1⟩ := toPy_reads i ra ex
 obtain ⟨bs, r2, c2⟩ := toPy_reads i rb ey
 exact SeqAt.eqAt_reads dx dy A s a b as bs r1 r2 c1 c2 (by (first | lia | omega))
noncomputable def Ans (σ : Store) (ρ : Map) (h : Heap) (y : V) (v : Value) : Prop := ∃ dx dy, (∃ x, Rel ρ h v x ∧ toPy σ x = some dx) ∧ toPy σ y = some dy ∧ PyData.eqv dx dy = true
open Classical in
noncomputable def ansB (σ : Store) (ρ : Map) (h : Heap) (y : V) (v : Value) : Bool := decide (Ans σ ρ h y v)
open Classical in
theorem ansB_is (i : Inv h₀ σ ρ s.heap) {v : Value} {x y : V} {e : Bool} (r : Rel ρ s.heap v x) (h : veq σ x y = some e) : ansB σ ρ s.heap y v = e := by
 obtain ⟨dx, dy, ex, ey, _, rfl⟩ := veq_some h
 unfold ansB
 cases hq : PyData.eqv dx dy with
 | true => exact decide_eq_true ⟨dx, dy, ⟨x, r, ex⟩, ey, hq⟩
 | false =>
  refine decide_eq_false ?_
  rintro ⟨dx', dy', ⟨x', r', ex'⟩, ey', hq'⟩
  rw [ey] at ey'; cases ey'
  obtain ⟨as, r1, c1⟩ := toPy_reads i r ex
  obtain ⟨as', r2, c2⟩ := toPy_reads i r' ex'
  rw [SeqAt.Reads.unique _ _ _ _ _ c1 r1 r2, hq'] at hq; cases hq
theorem vin_any (i : Inv h₀ σ ρ s.heap) {b : Value} {y : V} (rb : Rel ρ s.heap b y) (hu : A.units + 200 < cLine) : ∀ {vs : List Value} {l : List V} {k : Bool}, RelAll ρ s.heap vs l → vin σ y l = some k →
  k = vs.any (ansB σ ρ s.heap y) ∧ ∀ v ∈ vs, SeqAt.EqAt A s v b (ansB σ ρ s.heap y v) := by
 intro vs l k r h
 induction l generalizing vs k with
 | nil => cases r; cases h; exact ⟨rfl, fun ya hv => nomatch hv⟩
 | cons x l ih =>
  cases r with
  | cons r rs =>
  have h : (match veq σ x y, vin σ y l with | some e, some t => some (e || t) | _, _ => none) = some k := h
  cases e1 : veq σ x y with
  | none => rw [e1] at h; cases h
  | some e =>
   cases e2 : vin σ y l with
   | none => rw [e1, e2] at h; cases h
   | some t =>
    rw [e1, e2] at h; cases h
    obtain ⟨h1, h2⟩ := ih rs e2
    have hb := ansB_is i r e1
    refine ⟨by rw [List.any_cons, hb, ← h1], fun u hm => ?_⟩
    rcases List.mem_cons.mp hm with rfl | hm
    ·obtain ⟨dx, dy, ex, ey, hd, rfl⟩ := veq_some e1
     rw [hb]; exact eqAt_of i r rb ex ey hd hu
    ·exact h2 u hm
theorem Inv.dict (i : Inv h₀ σ ρ s.heap) {n v : Nat} {l : Tab} {p : Addr × Nat} (hσ : σ[n]? = some (.dict v l)) (er : ρ[n]? = some p) :
  p.2 = v ∧ (p.1 == sysModules) = false ∧ ∃ kvs, s.heap.DictOf (keyKind h₀.prog h₀.w) p.1 kvs ∧ kvs.length ≤ sizeLine ∧ Ents ρ s.heap kvs l := i.objs n _ p hσ er
theorem keyOf_is {a : Value} {x : V} {k : Key} {h : Heap} (ra : Rel ρ h a x) (e : keyOf x = some k) : keyIs k a = true ∧ ∀ s, k = .inr s → SOk s := by
 cases ra with
 | int i t => cases e; exact ⟨isInt_same i t, fun s e => by cases e⟩
 | str x t hx => cases e; exact ⟨isStrOf_same x t, fun s e => by cases e; exact hx⟩
 | _ => cases e
theorem Ents.at {h : Heap} {k : Key} {kvs : List (Key × Value)} {l : Tab} (r : Ents ρ h kvs l) : (dGet l k = none → valueAt kvs k = none) ∧ ∀ x, dGet l k = some x → ∃ v, valueAt kvs k = some v ∧ Rel ρ h v x := by
 induction r with
 | nil => exact ⟨fun ya => rfl, fun ya e => by cases e⟩
 | @cons k' v x kvs l hs r rs ih =>
  unfold dGet valueAt at ih ⊢
  rw [List.find?_cons, List.find?_cons]
  by_cases hk : k' = k
  ·simp only [hk, decide_true]
   exact ⟨fun e => (by cases e), fun y e => (by cases e; exact ⟨v, rfl, r⟩)⟩
  ·simp only [hk, decide_false]
   exact ih
theorem Ents.isSome {h : Heap} {k : Key} {kvs : List (Key × Value)} {l : Tab} (r : Ents ρ h kvs l) : (valueAt kvs k).isSome = (dGet l k).isSome := by
 have := r.at (k := k)
 cases e : dGet l k with
 | none => rw [this.1 e]; rfl
 | some x => obtain ⟨v, hv, _⟩ := this.2 x e; rw [hv]; rfl
theorem Sim.getO {β γ : Type} {t : Sem β} {n : Nat} {k : O → M γ} {R : γ → Map → Heap → β → Prop} (h : ∀ o, σ[n]? = some o → Sim h₀ A W t (k o σ) R ρ s) :
  Sim h₀ A W t ((getO n >>= k) σ) R ρ s := by
 cases e : σ[n]? with
 | none => rw [bind_bad (by rw [getO_eq, e])]; exact trivial
 | some o => rw [bind_ok (a := o) (σ' := σ) (by rw [getO_eq, e])]; exact h o e
theorem Sim.optThen {α β γ : Type} {t : Sem β} {o : Option α} {k : α → M γ} {R : γ → Map → Heap → β → Prop} (h : ∀ a, o = some a → Sim h₀ A W t (k a σ) R ρ s) : Sim h₀ A W t ((ofOpt o >>= k) σ) R ρ s := by
 cases o with
 | none => exact trivial
 | some a => exact h a rfl
theorem Sim.askThen {α β γ : Type} {t : Sem β} {f : Store → Option α} {k : α → M γ} {R : γ → Map → Heap → β → Prop} (h : ∀ a, f σ = some a → Sim h₀ A W t (k a σ) R ρ s) : Sim h₀ A W t ((askS f >>= k) σ) R ρ s := by
 cases e : f σ with
 | none => rw [bind_bad (by rw [askS_eq, e])]; exact trivial
 | some a => rw [bind_ok (a := a) (σ' := σ) (by rw [askS_eq, e])]; exact h a e
theorem Sim.inV {a b : Value} {x y : V} {f : Bool → Bool} {op : CmpOp} (i : Inv h₀ σ ρ s.heap) (hu : A.units + 201 < cLine) (ra : Rel ρ s.heap a x) (rb : Rel ρ s.heap b y) (hop : (op = .In ∧ f = id) ∨ (op = .NotIn ∧ f = not)) :
  Sim h₀ A W (compareOp op a b) ((Mine.Internal.inV x y >>= fun c => (Pure.pure (V.bool (f c)) : M V)) σ) RV ρ s := by
 have hu1 : A.in1.units + 200 < cLine := by show A.units + 1 + 200 < cLine; (first | lia | omega)
 cases rb with
 | @ref ad d n er =>
  show Sim h₀ A W _ ((Mine.Internal.among x n >>= fun b => (Pure.pure (V.bool (f b)) : M V)) σ) _ _ _
  unfold Mine.Internal.among
  rw [M.assoc]
  refine Sim.getO fun o ho => ?_
  cases o with
  | list l =>
   refine Sim.askThen fun k hk => ?_
   obtain ⟨vs, m, g, hl, r⟩ := i.list ho er
   obtain ⟨rfl, he⟩ := vin_any (A := A.in1) i ra hu1 r hk
   rcases hop with ⟨rfl, rfl⟩ | ⟨rfl, rfl⟩
   ·refine Sim.same i fun Q E hQ => SeqAt.in_listAt _ (isList_of g) (fun y hy => he y (by simpa using hy)) ?_
    have := hQ _ s.toks (.bool _)
    simpa using this
   ·refine Sim.same i fun Q E hQ => SeqAt.notIn_listAt _ (isList_of g) (fun y hy => he y (by simpa using hy)) ?_
    have := hQ _ s.toks (.bool _)
    simpa using this
  | dict dv l =>
   refine Sim.optThen fun k hk => ?_
   obtain ⟨kk, ek, rfl⟩ := Option.map_eq_some_iff.mp hk
   obtain ⟨_, hs, kvs, hd, hl, r⟩ := i.dict ho er
   rcases hop with ⟨rfl, rfl⟩ | ⟨rfl, rfl⟩
   ·exact Sim.same i fun Q E hQ => wpAny_in_of (keyOf_is ra ek).1 hs hd.mapOf (hQ _ _ (by rw [r.isSome]; exact .bool _))
   ·exact Sim.same i fun Q E hQ => wpAny_notIn_of (keyOf_is ra ek).1 hs hd.mapOf (hQ _ _ (by rw [r.isSome]; exact .bool _))
  | inst _ _ => exact trivial
  | flds _ => exact trivial
  | exc _ _ => exact trivial
 | _ => exact trivial
theorem Sim.ordV {a b : Value} {x y : V} {f : Int → Int → Bool} {t : Sem Value} (i : Inv h₀ σ ρ s.heap) (ra : Rel ρ s.heap a x) (rb : Rel ρ s.heap b y)
  (h1 : ∀ (m n : Int) (p q : Tok) (Q E : Value → Shared → Prop), a = .int m p → b = .int n q → Q (.bool (f m n)) s → wpAny (model h₀.prog h₀.w) A t Q E s) : Sim h₀ A W t (Mine.Internal.ordV f x y σ) RV ρ s := by
 cases ra with
 | int m p => cases rb with
  | int n q => exact Sim.same i fun Q E hQ => h1 m n p q Q E rfl rfl (hQ _ s.toks (.bool _))
  | _ => exact trivial
 | _ => exact trivial
theorem Sim.cmp {op : CmpOp} {a b : Value} {x y : V} (i : Inv h₀ σ ρ s.heap) (hu : A.units + 201 < cLine) (ra : Rel ρ s.heap a x) (rb : Rel ρ s.heap b y) :
  Sim h₀ A W (compareOp op a b) (cmp op x y σ) RV ρ s := by
 have hu1 : A.in1.units + 200 < cLine := by show A.units + 1 + 200 < cLine; (first | lia | omega)
 cases op with
 | Eq =>
  show Sim h₀ A W _ (askS (fun σ => (veq σ x y).map V.bool) σ) RV ρ s
  refine Sim.ask fun c hc => ?_
  obtain ⟨k, hk, rfl⟩ := Option.map_eq_some_iff.mp hc
  obtain ⟨dx, dy, ex, ey, hd, rfl⟩ := veq_some hk
  obtain ⟨as, r1, c1⟩ := toPy_reads i ra ex
  obtain ⟨bs, r2, c2⟩ := toPy_reads i rb ey
  exact Sim.same i fun Q E hQ => SeqAt.compareEq_reads r1 r2 c1 c2 (by (first | lia | omega)) (hQ _ s.toks (.bool _))
 | NotEq =>
  show Sim h₀ A W _ (askS (fun σ => (veq σ x y).map fun e => V.bool (!e)) σ) RV ρ s
  refine Sim.ask fun c hc => ?_
  obtain ⟨k, hk, rfl⟩ := Option.map_eq_some_iff.mp hc
  obtain ⟨dx, dy, ex, ey, hd, rfl⟩ := veq_some hk
  obtain ⟨as, r1, c1⟩ := toPy_reads i ra ex
  obtain ⟨bs, r2, c2⟩ := toPy_reads i rb ey
  exact Sim.same i fun Q E hQ => SeqAt.compareNe_reads r1 r2 c1 c2 (by (first | lia | omega)) (hQ _ s.toks (.bool _))
 | Lt => exact Sim.ordV i ra rb (fun m n p q Q E ea eb h => by subst ea eb; exact lt_int h)
 | LtE => exact Sim.ordV i ra rb (fun m n p q Q E ea eb h => by subst ea eb; exact le_int h)
 | Gt => exact Sim.ordV i ra rb (fun m n p q Q E ea eb h => by subst ea eb; exact gt_int h)
 | GtE => exact Sim.ordV i ra rb (fun m n p q Q E ea eb h => by subst ea eb; exact ge_int h)
 | Is => exact trivial
 | IsNot => exact trivial
 | In => exact Sim.inV (f := id) i hu ra rb (.inl ⟨rfl, rfl⟩)
 | NotIn => exact Sim.inV (f := not) i hu ra rb (.inr ⟨rfl, rfl⟩)
set_option tactic.hygienic true in
theorem Sim.truth {a : Value} {x : V} (i : Inv h₀ σ ρ s.heap) (ra : Rel ρ s.heap a x) : Sim h₀ A W (truthy a) (truth x σ) RB ρ s := by
 cases ra with
 | bool _ => exact Sim.same i fun Q E hQ => wpAny_truthy_bool (hQ _ s.toks rfl)
 | _ => exact trivial
end
end Mine.Internal

set_option backward.match.sparseCases false
namespace Mine.Internal
open PySem PyProof.Rows
section
variable {h₀ : Bse} {A : Around} {W : List Addr} {ρ : Map} {s : Shared} {σ : Store}
theorem place_seqIndex {i : Int} {n k : Nat} (h : place i n = some k) (hn : n ≤ sizeLine) : seqIndex? i n = some k ∧ -(2 ^ 63) ≤ i ∧ i < 2 ^ 63 := by
 have hs := sizeLine_lt
 unfold place at h
 split at h
 ·split at h
  ·cases h
   exact ⟨seqIndex_of (by (first | lia | omega)) (by (first | lia | omega)), by (first | lia | omega), by (first | lia | omega)⟩
  ·cases h
 ·split at h
  ·cases h
   exact ⟨seqIndex_neg (by (first | lia | omega)) (by (first | lia | omega)), by (first | lia | omega), by (first | lia | omega)⟩
  ·cases h
theorem place_lt {i : Int} {n k : Nat} (h : place i n = some k) : k < n := by
 unfold place at h
 split at h
 ·split at h
  ·cases h; (first | lia | omega)
  ·cases h
 ·split at h
  ·cases h; (first | lia | omega)
  ·cases h
theorem getItem_listAny {l : Addr} {vs : List Value} {n k : Nat} {i : Int} {t : Tok} {x : Value} {Q : Value → Shared → Prop} {E : Value → Shared → Prop} (g : s.heap.get? l = some (listO vs n)) (hl : vs.length ≤ sizeLine)
  (hk : place i vs.length = some k) (hx : vs[k]? = some x) (h : Q x s) : wpAny (model h₀.prog h₀.w) A (getItem (.ref l) (.int i t)) Q E s := by
 have hs := sizeLine_lt
 unfold place at hk
 split at hk
 ·rename_i h0
  split at hk
  ·cases hk
   exact wpAny_getItem_list (isList_of g) h0 (by (first | lia | omega)) (by simpa using hx) h
  ·cases hk
 ·rename_i h0
  split at hk
  ·cases hk
   exact wpAny_getItem_list_neg (isList_of g) (by (first | lia | omega)) (by simp; (first | lia | omega)) (by (first | lia | omega)) (by simpa using hx) h
  ·cases hk
theorem Sim.ofOpt {α β : Type} {t : Sem β} {o : Option α} {R : α → Map → Heap → β → Prop} (h : ∀ a, o = some a → Sim h₀ A W t (.ok a σ) R ρ s) : Sim h₀ A W t (ofOpt o σ) R ρ s := by
 cases o with
 | none => exact trivial
 | some a => exact h a rfl
theorem Sim.ofOptBind {α β γ : Type} {t : Sem β} {o : Option α} {k : α → M γ} {R : γ → Map → Heap → β → Prop} (h : ∀ a, o = some a → Sim h₀ A W t (k a σ) R ρ s) : Sim h₀ A W t ((Mine.Internal.ofOpt o >>= k) σ) R ρ s := by
 cases o with
 | none => exact trivial
 | some a => exact h a rfl
theorem Sim.item {a b : Value} {x y : V} (i : Inv h₀ σ ρ s.heap) (ra : Rel ρ s.heap a x) (rb : Rel ρ s.heap b y) :
  Sim h₀ A W (getItem a b) (item x y σ) RV ρ s := by
 have hs := sizeLine_lt
 cases ra with
 | tup g hl r =>
  cases rb with
  | int k t =>
   have hlen := r.length
   refine Sim.ofOpt fun v hv => ?_
   obtain ⟨j, hj, hv⟩ := Option.bind_eq_some_iff.mp hv
   obtain ⟨val, e, hr⟩ := r.get hv
   obtain ⟨h1, h2, h3⟩ := place_seqIndex hj (by (first | lia | omega))
   exact Sim.same i fun Q E hQ => P.getItem_tuple g h2 h3 (by simpa [hlen] using h1) (by simpa using e) (hQ _ s.toks hr)
  | _ => exact trivial
 | str x t hx =>
  cases rb with
  | int k u =>
   refine Sim.ofOpt fun v hv => ?_
   obtain ⟨j, hj, hv⟩ := Option.bind_eq_some_iff.mp hv
   obtain ⟨c, hc, rfl⟩ := Option.map_eq_some_iff.mp hv
   obtain ⟨h1, h2, h3⟩ := place_seqIndex hj hx.1
   refine Sim.same i fun Q E hQ => P.getItem_str (c := c) ?_ (by rw [h1]; simpa using hc) (hQ _ _ (.str _ _ ⟨by show 1 ≤ sizeLine; decide, ?_⟩))
   ·simp only [Bool.or_eq_false_iff, decide_eq_false_iff_not]; (first | lia | omega)
   ·have h4 := hx.2
    unfold PyData.strOk at h4 ⊢
    rw [Array.all_eq_true] at h4
    have hlt : j < (_ : Str).cps.size := place_lt hj
    have := h4 j hlt
    rw [Array.getElem?_eq_getElem hlt] at hc
    cases hc
    simpa [chr1] using this
  | _ => exact trivial
 | ref er =>
  refine Sim.getO fun o ho => ?_
  cases o with
  | list l =>
   cases rb with
   | int k t =>
    refine Sim.ofOpt fun v hv => ?_
    obtain ⟨vs, m, g, hl, r⟩ := i.list ho er
    have hlen := r.length
    obtain ⟨j, hj, hv⟩ := Option.bind_eq_some_iff.mp hv
    obtain ⟨val, e, hr⟩ := r.get hv
    exact Sim.same i fun Q E hQ => getItem_listAny g hl (by rw [hlen]; exact hj) e (hQ _ s.toks hr)
   | _ => exact trivial
  | dict dv l =>
   refine Sim.ofOpt fun v hv => ?_
   obtain ⟨kk, ek, hv⟩ := Option.bind_eq_some_iff.mp hv
   obtain ⟨_, hs, kvs, hd, hl, r⟩ := i.dict ho er
   obtain ⟨val, e, hr⟩ := r.at.2 v hv
   exact Sim.same i fun Q E hQ => wpAny_getItem_of (keyOf_is rb ek).1 hd.mapOf e (hQ _ _ hr)
  | inst _ _ => exact trivial
  | flds _ => exact trivial
  | exc _ _ => exact trivial
 | _ => exact trivial
theorem RelAll.cut {h : Heap} {vs : List Value} {l : List V} (r : RelAll ρ h vs l) (lo hi : Option Int) : RelAll ρ h (Mine.Internal.cut vs lo hi) (Mine.Internal.cut l lo hi) := by
 have hd : ∀ (n : Nat) {vs : List Value} {l : List V}, RelAll ρ h vs l → RelAll ρ h (vs.drop n) (l.drop n) := by
  intro n
  induction n with
  | zero => intro vs l r; exact r
  | succ n ih => intro vs l r; cases r with
   | nil => exact .nil
   | cons _ r => exact ih r
 have ht : ∀ (n : Nat) {vs : List Value} {l : List V}, RelAll ρ h vs l → RelAll ρ h (vs.take n) (l.take n) := by
  intro n
  induction n with
  | zero => intro vs l r; exact .nil
  | succ n ih => intro vs l r; cases r with
   | nil => exact .nil
   | cons a r => exact .cons a (ih r)
 unfold Mine.Internal.cut
 rw [r.length]
 exact ht _ (hd _ r)
theorem slicePick_cut (vs : List Value) (lo hi : Option Int) : slicePick vs.toArray lo hi none = (Mine.Internal.cut vs lo hi).toArray := by
 rw [slicePick_plain]; simp [Mine.Internal.cut]
theorem Sim.bound {β γ : Type} {t : Sem β} {v : Value} {x : V} {k : Option Int → M γ} {R : γ → Map → Heap → β → Prop} (r : Rel ρ s.heap v x) (h : ∀ o, IsPart v o → Sim h₀ A W t (k o σ) R ρ s) :
  Sim h₀ A W t ((Mine.Internal.bound x >>= k) σ) R ρ s := by
 cases r with
 | none => exact h _ .none
 | int _ _ => exact h _ (.int _ _)
 | _ => exact trivial
theorem slicePartIndex_of {v : Value} {o : Option Int} {Q : Option Int → Shared → Prop} {E : Value → Shared → Prop} (p : IsPart v o) (h : Q o s) : wpAny (model h₀.prog h₀.w) A (Builtin.Slice.slicePartIndex v) Q E s := by
 cases p with
 | none => exact slicePart_none h
 | int i t => exact slicePart_int h
theorem adjust_places (lo hi : Option Int) (n : Nat) : Builtin.Slice.sliceAdjust lo hi 1 (n : Int) = (((lo.elim 0 (clipAt n) : Nat) : Int), ((hi.elim n (clipAt n) : Nat) : Int)) ∧
  Builtin.Slice.slicePlaces ((lo.elim 0 (clipAt n) : Nat) : Int) ((hi.elim n (clipAt n) : Nat) : Int) 1 = hi.elim n (clipAt n) - lo.elim 0 (clipAt n) := by
 constructor
 ·unfold Builtin.Slice.sliceAdjust
  have h1 : ¬ ((1 : Int) < 0) := by (first | lia | omega)
  simp only [h1, if_false]
  congr 1
  ·cases lo with
   | none => rfl
   | some i =>
    have := clipAt_cast n i
    simp only [Option.elim]
    rw [this]
    split <;> (first | lia | omega)
  ·cases hi with
   | none => rfl
   | some i =>
    have := clipAt_cast n i
    simp only [Option.elim]
    rw [this]
    split <;> (first | lia | omega)
 ·unfold Builtin.Slice.slicePlaces
  have h1 : (1 : Int) > 0 := by (first | lia | omega)
  simp only [h1, if_true, Int.ediv_one]
  split <;> (first | lia | omega)
theorem pick_cut (vs : List Value) (a k : Nat) : ((List.range k).filterMap fun (j : Nat) => vs.toArray[((a : Int) + (j : Int) * 1).toNat]?) = (vs.drop a).take k := by
 have e : (fun (j : Nat) => vs.toArray[((a : Int) + (j : Int) * 1).toNat]?) = fun j => vs.toArray[a + j]? := by
  funext j
  have : ((a : Int) + (j : Int) * 1).toNat = a + j := by (first | lia | omega)
  rw [this]
 rw [e]
 have := pick_run vs.toArray a k
 rw [List.filterMap_map] at this
 exact this
theorem getItem_tuple_slice {t sl : Addr} {vs : List Value} {n : Nat} {vl vu : Value} {lo hi : Option Int} {Q : Value → Shared → Prop} {E : Value → Shared → Prop} (g : s.heap.get? t = some (tupO vs n)) (hs : s.heap.IsSliceOf sl vl vu .none)
  (pl : IsPart vl lo) (pu : IsPart vu hi) (hsz : vs.length ≤ sizeLine)
  (h1 : Mine.Internal.cut vs lo hi = vs → Q (.ref t) s) (h2 : Q (.ref s.heap.objs.size) { s with heap := s.heap.push (tupO (Mine.Internal.cut vs lo hi) 0) }) : wpAny (model h₀.prog h₀.w) A (getItem (.ref t) (.ref sl)) Q E s := by
 obtain ⟨os, hos, hcs, hds⟩ := id hs
 have ht : IsTup s.heap t vs.toArray := isTuple_of g
 have hTs : s.TypeIs (.ref sl) "slice" := ⟨os, hos, hcs⟩
 unfold getItem
 refine wpAny_holding ?_
 refine wpAny_bind (wpAny_sequenceKey ht.typeIs (by decide) ?_)
 refine wpAny_bind (wpAny_callSpecial?_slot (name := Str.ofString "__getitem__") ht.typeIs slot_tuple_getitem
  (wpAny_call_entry slot_tuple_getitem ht.typeIs entry_tuple_getitem ?_ (args_tuple_getitem _ _)))
 show wpAny _ _ (Builtin.Tuple.tupleItemsOf (.ref t) >>= _) _ _ s
 refine wpAny_bind (tupleItemsOf_ ht ?_)
 refine wpAny_bind (wpAny_typeOf hTs ?_)
 rw [if_pos (by decide)]
 obtain ⟨ha, hp⟩ := adjust_places lo hi vs.length
 have happ : ∀ (Q' : Int × Int × Nat → Shared → Prop) (E' : Value → Shared → Prop), Q' (((lo.elim 0 (clipAt vs.length) : Nat) : Int), 1, hi.elim vs.length (clipAt vs.length) - lo.elim 0 (clipAt vs.length)) s →
   wpAny (model h₀.prog h₀.w) A.in1 (Builtin.Slice.sliceApplied (.ref sl) (pure ((vs.toArray.size : Nat) : Int))) Q' E' s := by
  intro Q' E' hq
  unfold Builtin.Slice.sliceApplied Builtin.Slice.sliceFields
  refine wpAny_bind (wpAny_bind (wpAny_field hos hds (x := vl) rfl (wpAny_bind (wpAny_field hos hds (x := vu) rfl (wpAny_bind (wpAny_field hos hds (x := .none) rfl (wpAny_pure ?_)))))))
  refine wpAny_bind (slicePart_none ?_)
  show wpAny _ _ (if ((1 : Int) == 0) = true then _ else _) _ _ s
  rw [if_neg (by decide)]
  refine wpAny_bind (slicePartIndex_of pl (wpAny_bind (slicePartIndex_of pu (wpAny_bind (wpAny_pure ?_)))))
  rw [List.size_toArray]
  show wpAny _ _ (match Builtin.Slice.sliceAdjust lo hi 1 (vs.length : Int) with | (lo, hi) => pure (lo, (1 : Int), Builtin.Slice.slicePlaces lo hi 1)) _ _ s
  rw [ha]
  show wpAny _ _ (pure (_, (1 : Int), Builtin.Slice.slicePlaces _ _ 1)) _ _ s
  rw [hp]
  exact wpAny_pure hq
 refine wpAny_bind (happ _ _ ?_)
 have hsz2 : sizeOk (.seq (Mine.Internal.cut vs lo hi).toArray) := by
  show (Mine.Internal.cut vs lo hi).toArray.size ≤ sizeLine
  rw [List.size_toArray]
  exact Nat.le_trans (cut_length_le vs lo hi) hsz
 dsimp only
 rw [pick_cut]
 split
 ·rename_i hc
  simp only [Bool.and_eq_true, beq_iff_eq, List.size_toArray] at hc
  have e : Mine.Internal.cut vs lo hi = vs := by
   unfold Mine.Internal.cut
   have h0 : lo.elim 0 (clipAt vs.length) = 0 := Int.ofNat.inj hc.1.1
   rw [h0] at hc ⊢
   rw [List.drop_zero, hc.2, List.take_length]
  refine wpAny_bind (m := Builtin.Tuple.tupleIsExact (.ref t)) (wpAny_bind (wpAny_typeOf ht.typeIs (wpAny_pure ?_)))
  rw [if_pos (by decide)]
  exact wpAny_bind (wpAny_rule (wpAny_pure ⟨_, rfl, wpAny_pure (h1 e)⟩))
 ·exact wpAny_bind (m := Builtin.Tuple.tupleExact _) (wpAny_newObj_type (wpAny_pure ⟨_, rfl, wpAny_pure h2⟩) hsz2)
theorem sub_full {a b n : Nat} (h : b - a = n) (hle : b ≤ n) : a = 0 ∨ n = 0 := by
 rcases Nat.eq_zero_or_pos n with e | e
 ·exact .inr e
 ·subst h
  exact .inl (Nat.eq_zero_of_not_pos fun ha => absurd (Nat.sub_lt (Nat.lt_of_lt_of_le e (Nat.sub_le _ _)) ha) (Nat.not_lt.mpr hle))
theorem elim_le (hi : Option Int) (n : Nat) : hi.elim n (clipAt n) ≤ n := by
 cases hi with
 | none => exact Nat.le_refl _
 | some i =>
  have := clipAt_cast n i
  simp only [Option.elim]
  (first | lia | omega)
theorem strSlice_cut (x : Str) (lo hi : Option Int) : (Builtin.Str.strSliceIndices lo hi 1 x.length).filterMap (x.cps[·]?) = Mine.Internal.cut x.cps.toList lo hi ∧
  ((Builtin.Str.strSliceIndices lo hi 1 x.length).length = x.length → Mine.Internal.cut x.cps.toList lo hi = x.cps.toList) := by
 have e : Builtin.Str.strSliceIndices lo hi 1 x.length = sliceRange ((lo.elim 0 (clipAt x.length) : Nat) : Int) ((hi.elim x.length (clipAt x.length) : Nat) : Int) 1 := by
  unfold Builtin.Str.strSliceIndices
  have h1 : (1 : Int) > 0 := by (first | lia | omega)
  simp only [h1, if_true]
  congr 1
  ·cases lo with
   | none => rfl
   | some i => simp only [Option.elim]; rw [clipAt_cast]
  ·cases hi with
   | none => rfl
   | some i => simp only [Option.elim]; rw [clipAt_cast]
 have hl : x.cps.toList.length = x.length := by simp [Str.length]
 have hcut : Mine.Internal.cut x.cps.toList lo hi = (x.cps.toList.drop (lo.elim 0 (clipAt x.length))).take (hi.elim x.length (clipAt x.length) - lo.elim 0 (clipAt x.length)) := by
  unfold Mine.Internal.cut; rw [hl]
 rw [e, sliceRange_one]
 constructor
 ·rw [pick_run, hcut]
 ·intro h
  rw [List.length_map, List.length_range] at h
  have h0 := sub_full h (elim_le hi x.length)
  rw [hcut]
  rcases h0 with h0 | h0
  ·rw [h0] at h ⊢
   rw [List.drop_zero, h, ← hl, List.take_length]
  ·have : x.cps.toList = [] := List.eq_nil_of_length_eq_zero (hl.trans h0)
   rw [this]; simp
theorem strOk_sub {x y : Str} (hx : SOk x) (h : ∀ c ∈ y.cps.toList, c ∈ x.cps.toList) (hl : y.length ≤ x.length) : SOk y := by
 refine ⟨Nat.le_trans hl hx.1, ?_⟩
 have h4 := hx.2
 unfold PyData.strOk at h4 ⊢
 rw [Array.all_eq_true_iff_forall_mem] at h4 ⊢
 intro c hc
 exact h4 c (Array.mem_toList_iff.mp (h c (Array.mem_toList_iff.mpr hc)))
theorem SOk.cut {x : Str} (hx : SOk x) (lo hi : Option Int) : SOk (cutStr x lo hi) := by
 refine strOk_sub hx ?_ ?_
 ·intro c hc
  simp only [cutStr, Mine.Internal.cut] at hc
  exact List.mem_of_mem_drop (List.mem_of_mem_take hc)
 ·have := cut_length_le x.cps.toList lo hi
  simpa [cutStr, Str.length] using this
set_option tactic.hygienic true in
theorem Sim.slice {a vl vu : Value} {sl : Addr} {x : V} {lo hi : Option Int} (i : Inv h₀ σ ρ s.heap) (ra : Rel ρ s.heap a x) (hs : s.heap.IsSliceOf sl vl vu .none) (pl : IsPart vl lo) (pu : IsPart vu hi) :
  Sim h₀ A W (getItem a (.ref sl)) (sliceV lo hi x σ) RV ρ s := by
 cases ra with
 | @tup _ vs n l g hl r =>
  refine Sim.grown i fun Q E hQ => getItem_tuple_slice g hs pl pu hl (fun e => ?_) ?_
  ·refine hQ _ s.heap s.toks (fun ya yb e => e) (.tup (n := n) g hl ?_)
   have := r.cut lo hi
   rw [e] at this; exact this
  ·have hk : ∀ b o, s.heap.get? b = some o → (s.heap.push (tupO (Mine.Internal.cut vs lo hi) 0)).get? b = some o := fun b o e => Heap.get?_push_of_some _ e
   exact hQ _ _ s.toks hk (.tup (n := 0) (Heap.get?_push_size _ rfl) (Nat.le_trans (cut_length_le vs lo hi) hl) ((r.cut lo hi).sub (Sub.keeps hk)))
 | str y t hy =>
  obtain ⟨p, hp⟩ : ∃ p : Option (Int × Tok), vl = partValue p ∧ p.map (·.1) = lo := by
   cases pl with
   | none => exact ⟨none, rfl, rfl⟩
   | int k u => exact ⟨some (k, u), rfl, rfl⟩
  obtain ⟨q, hq⟩ : ∃ p : Option (Int × Tok), vu = partValue p ∧ p.map (·.1) = hi := by
   cases pu with
   | none => exact ⟨none, rfl, rfl⟩
   | int k u => exact ⟨some (k, u), rfl, rfl⟩
  obtain ⟨os, hos, hcs, hds⟩ := hs
  refine Sim.same i fun Q E hQ => wpAny_getItem_str_slice (l := p) (u := q) (st := none) ⟨os, hos, hcs, by rw [hds, hp.1, hq.1]; rfl⟩ rfl ?_
  have e1 : slicePicked y p q none = Builtin.Str.strSliceIndices lo hi 1 y.length := by unfold slicePicked; rw [hp.2, hq.2]; rfl
  unfold sliceMade
  rw [e1]
  split
  ·rename_i hc
   simp only [Bool.and_eq_true, beq_iff_eq] at hc
   have := (strSlice_cut _ lo hi).2 hc.2
   refine hQ _ s.toks ?_
   have e2 : ∀ x : Str, Mine.Internal.cut x.cps.toList lo hi = x.cps.toList → cutStr x lo hi = x := fun x e => by unfold cutStr; rw [e]
   show Rel _ _ _ (V.str _)
   rw [e2 _ this]
   exact .str _ _ hy
  ·rw [(strSlice_cut _ lo hi).1]
   exact ⟨(hy.cut lo hi).1, hQ _ _ (.str _ _ (hy.cut lo hi))⟩
 | ref er =>
  refine Sim.getList fun l hσ => ?_
  obtain ⟨vs, m, g, hl, r⟩ := i.list hσ er
  refine Sim.newListAt i fun Q E hQ => wpAny_getItem_list_slice (isList_of g) hs pl pu .none (by simp) ?_ (by simpa using hl)
  rw [slicePick_cut]
  have hk : ∀ b o, s.heap.get? b = some o → (s.heap.push (listO (Mine.Internal.cut vs lo hi) 0)).get? b = some o := fun b o e => Heap.get?_push_of_some _ e
  exact hQ _ (Mine.Internal.cut vs lo hi) 0 _ s.toks hk fresh_none (Heap.get?_push_size _ rfl) (Nat.le_trans (cut_length_le vs lo hi) hl) ((r.cut lo hi).sub (Sub.keeps hk))
 | _ => exact trivial
end
end Mine.Internal

set_option backward.match.sparseCases false
namespace Mine.Internal
open PySem PyProof.Rows
section
variable {h₀ : Bse} {A : Around} {W : List Addr} {ρ : Map} {s : Shared} {σ : Store}
theorem setItem_listAt {l : Addr} {vs : List Value} {n : Nat} {k : Int} {t : Tok} {v : Value} {Q : Unit → Shared → Prop} {E : Value → Shared → Prop} (g : s.heap.get? l = some (listO vs n)) (h0 : 0 ≤ k) (hk : k < vs.length) (hfit : k < 2 ^ 63)
  (h : Q () { s with heap := s.heap.update l (Obj.mapSeq (·.setIfInBounds k.toNat v)) }) : wpAny (model h₀.prog h₀.w) A (PySem.setItem (.ref l) (.int k t) v) Q E s := by
 have hT : s.heap.IsList l vs.toArray := isList_of g
 unfold PySem.setItem
 refine wpAny_holding ?_
 refine wpAny_bind (wpAny_sequenceKey hT.typeIs (by decide) ?_)
 refine wpAny_bind (wpAny_callSpecial?_slot (name := Str.ofString "__setitem__") hT.typeIs slot_list_setitem
  (wpAny_call_entry slot_list_setitem hT.typeIs entry_list_setitem ?_ (args_list_setitem _ _ _)))
 show wpAny _ _ (Builtin.List.listSubscript? (.int k t) >>= _) _ _ s
 refine wpAny_bind (wpAny_listSubscript_int (fitsIndex_of h0 hfit) ?_)
 clear hfit
 obtain ⟨j, rfl⟩ := Int.eq_ofNat_of_zero_le h0
 have hj : j < vs.length := by (first | lia | omega)
 have hx : vs.toArray[j]? = some vs[j] := by simp [hj]
 show wpAny _ _ ((seqItemAt l j >>= fun r => pure (r.map (j, ·))) >>= _) _ _ s
 refine wpAny_bind (wpAny_bind (wpAny_seqItemAt g rfl (wpAny_pure ?_)))
 rw [hx]
 show wpAny _ _ (setSeqItemAt l j v >>= _) _ _ s
 refine wpAny_bind (wpAny_setSeqItemAt g rfl ?_)
 exact wpAny_pure ⟨.none, rfl, wpAny_pure h⟩
theorem update_list {l : Addr} {vs ws : List Value} {n : Nat} {f : Array Value → Array Value} (g : s.heap.get? l = some (listO vs n)) (hf : f vs.toArray = ws.toArray) :
  ∃ m, (s.heap.update l (Obj.mapSeq f)).get? l = some (listO ws m) := by
 have e : Obj.mapSeq f (listO vs n) = listO ws (if ws.length = vs.length then n else n + 1) := by
  unfold Obj.mapSeq listO
  simp only [hf]
  congr 2
  simp
 have := Heap.get?_update_self (Obj.mapSeq f) g (by rw [e]; rfl)
 rw [e] at this
 exact ⟨_, this⟩
theorem RelAll.set {h : Heap} {vs : List Value} {l : List V} {k : Nat} {v : Value} {x : V} (r : RelAll ρ h vs l) (q : Rel ρ h v x) : RelAll ρ h (vs.set k v) (l.set k x) := by
 induction r using RelAll.ind generalizing k with
 | h0 => exact .nil
 | h1 a r ih =>
  cases k with
  | zero => exact .cons q r
  | succ k => exact .cons a ih
theorem list_not_d {vs : List Value} {k : Nat} : ¬IsD (listO vs k) := fun ⟨_, _, e⟩ => by cases e
theorem Sim.turnList {t : Sem Unit} {n : Nat} {l m : List V} {a : Addr} {d : Nat} {vs : List Value} {k : Nat} (i : Inv h₀ σ ρ s.heap) (hσ : σ[n]? = some (.list l)) (hρ : ρ[n]? = some (a, d)) (g : s.heap.get? a = some (listO vs k))
  (hm : ∃ ws, RelAll ρ s.heap ws m ∧ ws.length ≤ sizeLine ∧ ∀ (Q : Unit → Shared → Prop) (E : Value → Shared → Prop), (∀ h', (∃ j, h'.get? a = some (listO ws j)) → (∀ b o, b ≠ a → s.heap.get? b = some o → h'.get? b = some o) → Q () { s with heap := h' }) → wpAny (model h₀.prog h₀.w) A t Q E s) :
  Sim h₀ A W t (setO n (.list m) σ) (fun ya yb yc yd => True) ρ s := by
 obtain ⟨ws, r, hl, hwp⟩ := hm
 by_cases hpos : 0 < n
 case neg => rw [setO_bad hpos]; exact trivial
 rw [setO_ok hpos (lt_of_get hσ)]
 refine hwp _ _ fun h' hg hk => ?_
 obtain ⟨j, hg⟩ := hg
 have hN := i.set (W := W) (n := n) (a := a) (o := .list m) (h' := h') hpos hρ (fun ob e => by rw [g] at e; cases e; exact list_not_d) hk (fun ob e => ⟨_, hg, by rw [g] at e; cases e; exact kin_list⟩) fun x => ⟨ws, j, hg, hl, r.ext x⟩
 exact ⟨ρ, h', s.toks, rfl, hN.1, hN.2, trivial⟩
theorem Ents.stored {h : Heap} {k : Key} {v : Value} {x : V} (hs : ∀ s, k = .inr s → SOk s) (rv : Rel ρ h v x) {kvs : List (Key × Value)} {l : Tab} (r : Ents ρ h kvs l) : Ents ρ h (PySem.stored kvs k v) (dSet l k x) := by
 have hany : ∀ {kvs : List (Key × Value)} {l : Tab}, Ents ρ h kvs l → (kvs.any fun kv => decide (kv.1 = k)) = (l.any fun p => decide (p.1 = k)) := by
  intro kvs l r
  induction r with
  | nil => rfl
  | cons _ _ _ ih => rw [List.any_cons, List.any_cons, ih]
 have hmap : ∀ {kvs : List (Key × Value)} {l : Tab}, Ents ρ h kvs l → Ents ρ h (kvs.map fun kv => if kv.1 = k then (kv.1, v) else kv) (l.map fun p => if p.1 = k then (p.1, x) else p) := by
  intro kvs l r
  induction r with
  | nil => exact .nil
  | @cons k' v' x' kvs l hs' r' _ ih =>
   rw [List.map_cons, List.map_cons]
   by_cases hk : k' = k
   ·rw [if_pos hk, if_pos hk]; exact .cons hs' rv ih
   ·rw [if_neg hk, if_neg hk]; exact .cons hs' r' ih
 have happ : ∀ {kvs : List (Key × Value)} {l : Tab}, Ents ρ h kvs l → Ents ρ h (kvs ++ [(k, v)]) (l ++ [(k, x)]) := by
  intro kvs l r
  induction r with
  | nil => exact .cons hs rv .nil
  | cons hs' r' _ ih => exact .cons hs' r' ih
 unfold PySem.stored dSet
 rw [hany r]
 by_cases hc : (l.any fun p => decide (p.1 = k)) = true
 ·rw [if_pos hc, if_pos hc]; exact hmap r
 ·rw [if_neg hc, if_neg hc]; exact happ r
theorem dSet_length (l : Tab) (k : Key) (x : V) : (dSet l k x).length ≤ l.length + 1 := by
 unfold dSet
 split
 ·rw [List.length_map]; exact Nat.le_succ _
 ·rw [List.length_append]; exact Nat.le_refl _
theorem Inv.putD {n v : Nat} {l m : Tab} {a : Addr} {d : Nat} {h' : Heap} {kvs' : List (Key × Value)} (i : Inv h₀ σ ρ s.heap) (hpos : 0 < n) (hσ : σ[n]? = some (.dict v l)) (hρ : ρ[n]? = some (a, d)) (hg : h'.DictOf (keyKind h₀.prog h₀.w) a kvs') (hk : ∀ b o, b ≠ a → s.heap.get? b = some o → h'.get? b = some o) (r : Ents ρ s.heap kvs' m) (hl : kvs'.length ≤ sizeLine) :
  Inv h₀ (σ.set n (.dict (v + 1) m)) (ρ.set n (a, v + 1)) h' ∧ Ext W ρ s.heap (ρ.set n (a, v + 1)) h' ∧ True := by
 obtain ⟨e1, hs, kvs, hdk, _, _⟩ := i.dict hσ hρ
 have e1 : d = v := e1
 subst e1
 have := i.put (W := W) (v' := d + 1) (o := .dict (d + 1) m) hpos hρ (Nat.le_succ _) (fun e => absurd e (Nat.succ_ne_self _)) hk (kin_dictOf hdk hg) fun x => ⟨rfl, hs, kvs', hg, hl, r.sub x.sub⟩
 exact ⟨this.1, this.2, trivial⟩
theorem Sim.turnDict {t : Sem Unit} {n v : Nat} {l m : Tab} {a : Addr} {d : Nat} (i : Inv h₀ σ ρ s.heap) (hσ : σ[n]? = some (.dict v l)) (hρ : ρ[n]? = some (a, d))
  (hm : ∃ kvs', Ents ρ s.heap kvs' m ∧ kvs'.length ≤ sizeLine ∧ ∀ (Q : Unit → Shared → Prop) (E : Value → Shared → Prop), (∀ h' tk, h'.DictOf (keyKind h₀.prog h₀.w) a kvs' → (∀ b o, b ≠ a → s.heap.get? b = some o → h'.get? b = some o) → Q () (At s h' tk)) → wpAny (model h₀.prog h₀.w) A t Q E s) :
  Sim h₀ A W t (putD n m σ) (fun ya yb yc yd => True) ρ s := by
 obtain ⟨kvs', r, hl, hwp⟩ := hm
 by_cases hpos : 0 < n
 case neg => rw [putD_bad hpos]; exact trivial
 rw [putD_ok hpos hσ]
 refine hwp _ _ fun h' tk hg hk => ?_
 obtain ⟨i', x', _⟩ := i.putD (W := W) hpos hσ hρ hg hk r hl
 exact ⟨_, h', tk, rfl, i', x', trivial⟩
theorem Sim.setItem {a b c : Value} {x y z : V} (i : Inv h₀ σ ρ s.heap) (ra : Rel ρ s.heap a x) (rb : Rel ρ s.heap b y) (rc : Rel ρ s.heap c z) :
  Sim h₀ A W (PySem.setItem a b c) (setItem x y z σ) (fun ya yb yc yd => True) ρ s := by
 cases ra with
 | ref er =>
  refine Sim.getO fun o hσ => ?_
  cases o with
  | list l =>
   cases rb with
   | int k t =>
    refine Sim.ite fun hc => ?_
    obtain ⟨vs, m, g, hl, r⟩ := i.list hσ er
    have hlen := r.length
    obtain ⟨h0, h1⟩ := hc
    have hs := sizeLine_lt
    refine Sim.turnList i hσ er g ⟨vs.set (Int.toNat _) c, r.set rc, by simpa using hl, fun Q E hQ => setItem_listAt g h0 (by (first | lia | omega)) (by (first | lia | omega)) (hQ _ (update_list g (by simp)) fun b o hb e => ?_)⟩
    rw [Heap.get?_update_other _ _ (Ne.symm hb)]; exact e
   | _ => exact trivial
  | dict dv l =>
   show Sim h₀ A W _ (setD _ l y z σ) _ ρ s
   unfold setD
   cases ek : keyOf y with
   | none => exact trivial
   | some kk =>
    refine Sim.ite fun hc => ?_
    obtain ⟨_, hs, kvs, hd, hl, r⟩ := i.dict hσ er
    obtain ⟨h1, h2⟩ := keyOf_is rb ek
    have hlen := r.length
    exact Sim.turnDict i hσ er ⟨_, r.stored h2 rc, by rw [(r.stored h2 rc).length]; exact Nat.le_trans (dSet_length ..) hc, fun Q E hQ => wpAny_setItem_pairs h1 hd (fun h' hd' hk => hQ h' _ hd' fun b o hb e => (hk.2 b hb).trans e) hl⟩
  | inst _ _ => exact trivial
  | flds _ => exact trivial
  | exc _ _ => exact trivial
 | _ => exact trivial
theorem Sim.itemsOf {β γ : Type} {t : Sem β} {x : V} {k : List V → M γ} {R : γ → Map → Heap → β → Prop} (h1 : ∀ l, x = .tup l → Sim h₀ A W t (k l σ) R ρ s) (h2 : ∀ n l, x = .ref n → σ[n]? = some (.list l) → Sim h₀ A W t (k l σ) R ρ s) :
  Sim h₀ A W t ((Mine.Internal.itemsOf x >>= k) σ) R ρ s := by
 cases x with
 | tup l => exact h1 l rfl
 | ref n => exact Sim.getList fun l hl => h2 n l rfl hl
 | none => exact trivial
 | bool _ => exact trivial
 | int _ => exact trivial
 | str _ => exact trivial
theorem Sim.bLen {a : Value} {x : V} (i : Inv h₀ σ ρ s.heap) (ra : Rel ρ s.heap a x) : Sim h₀ A W (call (.builtin "len") [a]) (bLen x σ) RV ρ s := by
 have hs := sizeLine_lt
 cases ra with
 | tup g hl r =>
  have hlen := r.length
  refine Sim.same i fun Q E hQ => P.len_tuple g (by simp; (first | lia | omega)) ?_
  have := hQ _ (s.toks + 1 + 1) (.int _ (s.toks + 1))
  simpa [hlen] using this
 | ref er =>
  refine Sim.getList fun l hσ => ?_
  obtain ⟨vs, m, g, hl, r⟩ := i.list hσ er
  have hlen := r.length
  refine Sim.same i fun Q E hQ => Calls.call_len_list (isList_of g) (by simp; (first | lia | omega)) ?_
  have := hQ _ (s.toks + 1 + 1) (.int _ (s.toks + 1))
  simpa [hlen] using this
 | _ => exact trivial
theorem Sim.bList {a : Value} {x : V} (i : Inv h₀ σ ρ s.heap) (ra : Rel ρ s.heap a x) : Sim h₀ A W (call (.type "list") [a]) (bList x σ) RV ρ s := by
 cases ra with
 | ref er =>
  refine Sim.getList fun l hσ => ?_
  obtain ⟨vs, m, g, hl, r⟩ := i.list hσ er
  refine Sim.newListAt i fun Q E hQ => call_list_seq _ (.inl rfl) g rfl rfl (fun h' c' hk hg => ?_) (by simpa using hl)
  exact hQ _ vs c' h' s.toks hk fresh_none hg hl (r.sub (Sub.keeps hk))
 | _ => exact trivial
theorem Sim.bTuple {a : Value} {x : V} (i : Inv h₀ σ ρ s.heap) (ra : Rel ρ s.heap a x) : Sim h₀ A W (call (.type "tuple") [a]) (bTuple x σ) RV ρ s := by
 refine Sim.itemsOf (fun l e => ?_) fun n l e hσ => ?_
 ·subst e
  cases ra with
  | tup g hl r => exact Sim.same i fun Q E hQ => call_tuple_same (isTuple_of g) (hQ _ s.toks (.tup g hl r))
 ·subst e
  cases ra with
  | ref er =>
   obtain ⟨vs, m, g, hl, r⟩ := i.list hσ er
   refine Sim.grown i fun Q E hQ => call_tuple_list (isList_of g) (fun h' hk => ?_) (by simpa using hl)
   have hk' : ∀ b o, s.heap.get? b = some o → (h'.push (tupO vs 0)).get? b = some o := fun b o e => Heap.get?_push_of_some _ (hk b o e)
   exact hQ _ (h'.push (tupO vs 0)) s.toks hk' (.tup (n := 0) (Heap.get?_push_size _ rfl) hl (r.sub (Sub.keeps hk')))
noncomputable def kdName : Kd → String
 | .bool => "bool"
 | .int => "int"
 | .str => "str"
 | .tuple => "tuple"
 | .list => "list"
theorem Sim.isKd {a : Value} {x : V} {k : Kd} (i : Inv h₀ σ ρ s.heap) (ra : Rel ρ s.heap a x) : Sim h₀ A W (call (.builtin "isinstance") [a, .type (kdName k)]) (isKd k x σ) RV ρ s := by
 cases ra with
 | none =>
  refine Sim.same i fun Q E hQ => ?_
  cases k
  ·exact IsiPair.NoneType_bool (hQ _ _ (.bool _))
  ·exact IsiPair.NoneType_int (hQ _ _ (.bool _))
  ·exact IsiPair.NoneType_str (hQ _ _ (.bool _))
  ·exact IsiPair.NoneType_tuple (hQ _ _ (.bool _))
  ·exact IsiPair.NoneType_list (hQ _ _ (.bool _))
 | bool _ =>
  refine Sim.same i fun Q E hQ => ?_
  cases k
  ·exact IsiPair.bool_bool (hQ _ _ (.bool _))
  ·exact IsiPair.bool_int (hQ _ _ (.bool _))
  ·exact IsiPair.bool_str (hQ _ _ (.bool _))
  ·exact IsiPair.bool_tuple (hQ _ _ (.bool _))
  ·exact IsiPair.bool_list (hQ _ _ (.bool _))
 | int _ _ =>
  refine Sim.same i fun Q E hQ => ?_
  cases k
  ·exact IsiPair.int_bool (hQ _ _ (.bool _))
  ·exact IsiPair.int_int (hQ _ _ (.bool _))
  ·exact IsiPair.int_str (hQ _ _ (.bool _))
  ·exact IsiPair.int_tuple (hQ _ _ (.bool _))
  ·exact IsiPair.int_list (hQ _ _ (.bool _))
 | str _ _ _ =>
  refine Sim.same i fun Q E hQ => ?_
  cases k
  ·exact IsiPair.str_bool (hQ _ _ (.bool _))
  ·exact IsiPair.str_int (hQ _ _ (.bool _))
  ·exact IsiPair.str_str (hQ _ _ (.bool _))
  ·exact IsiPair.str_tuple (hQ _ _ (.bool _))
  ·exact IsiPair.str_list (hQ _ _ (.bool _))
 | tup g hl r =>
  refine Sim.same i fun Q E hQ => ?_
  cases k
  ·exact IsiPair.tuple_bool g rfl (hQ _ _ (.bool _))
  ·exact IsiPair.tuple_int g rfl (hQ _ _ (.bool _))
  ·exact IsiPair.tuple_str g rfl (hQ _ _ (.bool _))
  ·exact IsiPair.tuple_tuple g rfl (hQ _ _ (.bool _))
  ·exact IsiPair.tuple_list g rfl (hQ _ _ (.bool _))
 | ref er =>
  refine Sim.getList fun l hσ => ?_
  obtain ⟨vs, m, g, hl, r⟩ := i.list hσ er
  refine Sim.same i fun Q E hQ => ?_
  cases k
  ·exact IsiPair.list_bool g rfl (hQ _ _ (.bool _))
  ·exact IsiPair.list_int g rfl (hQ _ _ (.bool _))
  ·exact IsiPair.list_str g rfl (hQ _ _ (.bool _))
  ·exact IsiPair.list_tuple g rfl (hQ _ _ (.bool _))
  ·exact IsiPair.list_list g rfl (hQ _ _ (.bool _))
set_option tactic.hygienic true in
theorem Sim.mAppend {a b : Value} {x y : V} (i : Inv h₀ σ ρ s.heap) (ra : Rel ρ s.heap a x) (rb : Rel ρ s.heap b y) : Sim h₀ A W (call (.builtin "list.append") [a, b]) (mAppend x y σ) RV ρ s := by
 cases ra with
 | @ref a d n er =>
  refine Sim.getList fun l hσ => Sim.ite fun hc => ?_
  obtain ⟨vs, m, g, hl, r⟩ := i.list hσ er
  have hlen := r.length
  by_cases hpos : 0 < n
  case neg => rw [bind_bad (setO_bad hpos)]; exact trivial
  rw [bind_ok (setO_ok hpos (lt_of_get hσ))]
  refine wpAny_list_append_plain ⟨m, g⟩ (fun h' hg hk => ?_) (by simpa using hl)
  obtain ⟨m', hg⟩ := hg
  have hg : h'.get? a = some (listO (vs ++ [b]) m') := by simpa [listO] using hg
  have hN := i.set (W := W) (n := n) (a := a) (o := .list (l ++ [y])) (h' := h') hpos er (fun ob e => by rw [g] at e; cases e; exact list_not_d) (fun c o hb e => hk.extBut c o hb e) (fun ob e => ⟨_, hg, by rw [g] at e; cases e; exact kin_list⟩)
   fun z => ⟨vs ++ [b], m', hg, by simp; (first | lia | omega), (r.append (.cons rb .nil)).ext z⟩
  exact ⟨ρ, h', s.toks, rfl, hN.1, hN.2, .none⟩
 | _ => exact trivial
theorem strsAre_of {h : Heap} {vs : List Value} {l : List V} {ss : List Str} (r : RelAll ρ h vs l) : allStrs l = some ss → StrsAre vs ss ∧ ∀ x ∈ ss, SOk x := by
 induction r using RelAll.ind generalizing ss with
 | h0 => intro e; cases e; exact ⟨.nil, fun ya h => nomatch h⟩
 | @h1 v vs x l r rs ih =>
  intro e
  cases r with
  | str y t hy =>
   obtain ⟨ts, e1, rfl⟩ := Option.map_eq_some_iff.mp (show (allStrs l).map (y :: ·) = some ss from e)
   obtain ⟨h1, h2⟩ := ih e1
   exact ⟨.cons y t h1, fun z hz => (List.mem_cons.mp hz).elim (fun e => e ▸ hy) (h2 z)⟩
  | _ => cases e
theorem strOk_join {sep : Str} (hs : PyData.strOk sep = true) : ∀ {ss : List Str}, (∀ x ∈ ss, SOk x) → PyData.strOk (Str.join sep ss) = true
 | [], _ => by show PyData.strOk Str.empty = true; simp [PyData.strOk, Str.empty]
 | [x], h => (h x (by simp)).2
 | x :: y :: r, h => by
  show PyData.strOk (x ++ sep ++ Str.join sep (y :: r)) = true
  exact strOk_append (strOk_append (h x (by simp)).2 hs) (strOk_join hs fun z hz => h z (List.mem_cons_of_mem _ hz))
set_option tactic.hygienic true in
theorem Sim.mJoin {a b : Value} {x y : V} (i : Inv h₀ σ ρ s.heap) (ra : Rel ρ s.heap a x) (rb : Rel ρ s.heap b y) : Sim h₀ A W (call (.builtin "str.join") [a, b]) (mJoin x y σ) RV ρ s := by
 cases ra with
 | str sep t hx =>
  have key : ∀ ss, (ss.map (·.length)).sum + ss.length * sep.length ≤ 16777216 → (∀ x ∈ ss, SOk x) → SOk (Txt.join sep ss) := fun ss h1 h2 => by
   refine ⟨?_, ?_⟩
   ·show (Builtin.Str.glued sep ss).length ≤ sizeLine
    rw [size_glued]
    have h3 : (ss.length - 1) * sep.length ≤ ss.length * sep.length := Nat.mul_le_mul_right _ (Nat.sub_le _ _)
    show _ ≤ 16777216
    (first | lia | omega)
   ·show PyData.strOk (Builtin.Str.glued sep ss) = true
    rw [StrLaws.glued_eq_join]
    exact strOk_join hx.2 h2
  refine Sim.itemsOf (fun l e => ?_) fun n l e hσ => ?_
  ·subst e
   cases rb with
   | tup g hl r =>
    refine Sim.ofOptBind fun ss hss => Sim.ite fun hc => ?_
    obtain ⟨h1, h2⟩ := strsAre_of r hss
    exact Sim.same i fun Q E hQ => join_tuple (isTuple_of g) (by simpa using h1) hc fun t' k => hQ _ _ (.str _ _ (key ss hc h2))
  ·subst e
   cases rb with
   | ref er =>
    obtain ⟨vs, m, g, hl, r⟩ := i.list hσ er
    refine Sim.ofOptBind fun ss hss => Sim.ite fun hc => ?_
    obtain ⟨h1, h2⟩ := strsAre_of r hss
    exact Sim.same i fun Q E hQ => join_list (isList_of g) (by simpa using h1) hc fun t' k => hQ _ _ (.str _ _ (key ss hc h2))
 | _ => exact trivial
end
end Mine.Internal

set_option backward.match.sparseCases false
namespace Mine.Internal
open PySem PyProof.Rows PySem.Calls
section
variable {prog : Program} {w : World} {A : Around} {E : Value → Shared → Prop} {s : Shared}
theorem keys_miss_tuple {a : Addr} {o : Obj} {xs : Array Value} {k : Nat} {Q : Option Value → Shared → Prop}
  (hx : s.heap.get? a = some o) (hc : o.cls = .type "tuple") (hdat : o.data = .seq xs k) (hd : o.dict = none) (hA : A.handled = none)
  (h : ∀ h' tk, (∀ b o, s.heap.get? b = some o → h'.get? b = some o) → Q none (At s h' tk)) :
  wpAny (model prog w) A (getAttr? (.ref a) "keys") Q E s := by
 have hmiss : typeLookup (.type "tuple") "keys" = pure none := by rw [typeLookup_type, builtinLookup_eq_fast]; kernel_rfl
 obtain ⟨c, dct, dat, sl⟩ := o
 simp only at hc hdat hd
 subst hc hdat hd
 obtain ⟨hp, g, d, tk, os⟩ := s
 have hT : ∀ tk', (⟨hp, g, d, tk', os⟩ : Shared).TypeIs (.ref a) "tuple" := fun ya => ⟨_, hx, rfl⟩
 have f1 := sub_AttributeError
 have f3 := F.slot_tuple_getattribute.lookup
 have f4 := F.slot_tuple_getattribute.bind (.ref a)
 have f5 := am_tuple_getattr_none
 unfold getAttr? getAttrBy? getAttrBy
 repeat (any_goals (first | assumption | exact hT _ | ((with_reducible show wpAny _ _ (call (Value.builtin "tuple.__getattribute__") _ _) _ _ _); refine call_meets F.slot_tuple_getattribute (hT _) am_entry_tuple_getattribute (F.args_tuple_getattribute_2 _ _) (meets_getattribute_miss_tuple a xs k sl "keys" _ hmiss (by decide +kernel) (by decide +kernel)) ⟨hx, hA, fun h' tk' e hx' => ?_⟩) | wp_step))
 obtain ⟨t', u', he⟩ := hx'.there
 show wpAny _ _ (getattributeRaised _ _ _ _ _ _ _) _ _ _
 unfold getattributeRaised
 repeat (any_goals (first | assumption | wp_step))
 exact h h' tk' hx'.of.keeps
theorem entry_dict_loop : entryFor table "dict.update.loop" = some Builtin.«dict.update.loop» := entryFor_of_tree (by kernel_rfl)
theorem plain_dict_loop : plainId "dict.update.loop" = true := by decide +kernel
theorem codeAny_dict_loop {R : Result → Shared → Prop} {I S : Addr} {fp wr : List Addr} {n : Nat} {P : Nat → Value → Prop} {St : Nat → Heap → Prop} (W : Walks prog w A.in1 I fp wr n P St) (hSf : S ∉ fp) {pairs : List (Key × Value)} (hz : n ≤ sizeLine) (hlen : pairs.length = n) (H₀ : Heap) (res : Value)
  (hP : ∀ i v, P i v → ∃ a kv vv k m, v = .ref a ∧ pairs[i]? = some (k, vv) ∧ keyIs k kv = true ∧ H₀.get? a = some (tupO [kv, vv] m) ∧ a ≠ S ∧ a ∉ wr) :
  ∀ (j i : Nat) (s : Shared) (kvs : List (Key × Value)), n - i = j → i ≤ n → St i s.heap → s.heap.DictOf (keyKind prog w) S kvs → kvs.length ≤ i → (∀ b o, b ≠ S → b ∉ wr → H₀.get? b = some o → s.heap.get? b = some o) →
  (∀ h' tk, h'.DictOf (keyKind prog w) S (merged kvs (pairs.drop i)) → (∀ b o, b ≠ S → b ∉ wr → H₀.get? b = some o → h'.get? b = some o) → R (.ok (.ret res)) (At s h' tk)) →
  codeAny (model prog w) A (.builtin "dict.update.loop" ⟨[.ref S, .ref I, rawInt i, res], []⟩) R s := by
 have hSw : S ∉ wr := fun h => hSf (W.sub _ h)
 intro j
 induction j with
 | zero =>
  intro i s kvs hk hi hst hd hkl hold hR
  have hin : i = n := by (first | lia | omega)
  subst hin
  refine codeAny_builtin entry_dict_loop ?_
  rw [Around.under_plainId plain_dict_loop _]
  show wpAny _ A.in1 (pyNext (.ref I) >>= _) _ _ s
  refine wpAny_bind (W.done s _ _ hst fun h' tk hk' => ?_)
  show wpAny _ _ (Builtin.Dict.addKeywords S [] >>= _) _ _ _
  refine wpAny_bind (wpAny_pure (wpAny_pure (hR h' tk ?_ fun b o h1 h2 e => hk' b o h2 (hold b o h1 h2 e))))
  rw [List.drop_eq_nil_of_le (by (first | lia | omega))]
  exact (let ⟨o, es, ep, ho, r⟩ := hd; ⟨o, es, ep, hk' S o hSw ho, r⟩)
 | succ j ih =>
  intro i s kvs hk hi hst hd hkl hold hR
  have hlt : i < n := by (first | lia | omega)
  refine codeAny_builtin entry_dict_loop ?_
  rw [Around.under_plainId plain_dict_loop _]
  show wpAny _ A.in1 (pyNext (.ref I) >>= _) _ _ s
  refine wpAny_bind (W.item i s _ _ hlt hst fun v h' tk hPv hst' hk' => ?_)
  obtain ⟨a, kv, vv, k, m, rfl, hp, hkey, hg, hne, hnw⟩ := hP i v hPv
  have hd' : h'.DictOf (keyKind prog w) S kvs := let ⟨o, es, ep, ho, r⟩ := hd; ⟨o, es, ep, hk' S o hSw ho, r⟩
  have hg' : h'.get? a = some (tupO [kv, vv] m) := hk' a _ hnw (hold a _ hne hnw hg)
  refine wpAny_bind (wpAny_holding (wpAny_bind (wpAny_tryCatch ?_)))
  unfold Builtin.Dict.pairItems
  refine wpAny_bind (wpAny_typeOf (T := "tuple") ⟨_, hg', rfl⟩ ?_)
  rw [if_pos (by decide)]
  refine wpAny_bind (wpAny_seqItems hg' rfl (wpAny_pure ?_))
  show wpAny _ _ (holding [kv, vv] (dictSet S kv vv)) _ _ _
  refine wpAny_holding (wpAny_dictSet_pairs hkey hd' (fun h'' hd'' hs'' => ?_) (by (first | lia | omega)))
  refine wpAny_pure ⟨plainId_quiet plain_dict_loop _, ?_⟩
  have hc : ((i : Int) + 1) = ((i + 1 : Nat) : Int) := by push_cast; rfl
  rw [hc]
  refine ih (i + 1) _ _ (by (first | lia | omega)) hlt (W.frame _ h' _ hst' fun b hb o e => (hs''.2 b (fun e => hSf (e ▸ hb))).trans e) hd'' (Nat.le_trans (stored_length_le ..) (by (first | lia | omega))) (fun b o h1 h2 e => (hs''.2 b h1).trans (hk' b o h2 (hold b o h1 h2 e))) fun h₃ tk₃ hd₃ hold₃ => hR h₃ tk₃ ?_ hold₃
  rw [show pairs.drop i = (k, vv) :: pairs.drop (i + 1) from by
   rw [List.drop_eq_getElem_cons (by (first | lia | omega))]; congr 1
   rw [List.getElem?_eq_getElem (by (first | lia | omega))] at hp; exact Option.some.inj hp]
  exact hd₃
theorem call_dict_tuple {ad : Addr} {vs : List Value} {n : Nat} {pairs : List (Key × Value)} {Q : Value → Shared → Prop} (hh : A.handled = none) (g : s.heap.get? ad = some (tupO vs n)) (hz : vs.length ≤ sizeLine) (hlen : pairs.length = vs.length)
  (hP : ∀ (i : Nat) (v : Value), vs[i]? = some v → ∃ a kv vv k m, v = .ref a ∧ pairs[i]? = some (k, vv) ∧ keyIs k kv = true ∧ s.heap.get? a = some (tupO [kv, vv] m))
  (h : ∀ h' tk, h'.DictOf (keyKind prog w) s.heap.objs.size (merged [] pairs) → (∀ b o, s.heap.get? b = some o → h'.get? b = some o) → Q (.ref s.heap.objs.size) (At s h' tk)) :
  wpAny (model prog w) A (call (.type "dict") [.ref ad]) Q E s := by
 refine callType_codes (Q₁ := fun obj s₁ => obj = .ref s.heap.objs.size ∧ s₁ = { s with heap := s.heap.push { cls := .type "dict", data := .dict #[] } }) F.kt_called_dict (F.kt_typeCall_dict_1 _) F.entry_dict_init (kt_code_dict_new _ ⟨rfl, rfl⟩) ?_
 rintro obj s₁ ⟨rfl, rfl⟩
 have hnew : (s.heap.push { cls := .type "dict", data := .dict #[] }).DictOf (keyKind prog w) s.heap.objs.size [] := Heap.DictOf.new s.heap
 have g' : (s.heap.push { cls := .type "dict", data := .dict #[] }).get? ad = some (tupO vs n) := Heap.get?_push_of_some _ g
 refine ⟨hnew.typeIs, F.args_dict_init_2 _ _, ?_⟩
 unfold Builtin.«dict.__init__»
 refine wpAny_bind ?_
 unfold Builtin.Dict.selfAndRest
 refine wpAny_bind (wpAny_notOrdered_dict hnew.typeIs ?_)
 show wpAny _ _ (pure (s.heap.objs.size, [Value.ref ad])) _ _ _
 refine wpAny_pure ?_
 show wpAny _ _ (Builtin.Dict.updateFrom "dict.__init__" s.heap.objs.size (.ref ad) [] .none) _ _ _
 unfold Builtin.Dict.updateFrom
 refine wpAny_bind (wpAny_typeOf (T := "tuple") ⟨_, g', rfl⟩ ?_)
 rw [if_pos (by decide)]
 refine wpAny_bind (keys_miss_tuple g' rfl rfl rfl hh fun h₁ tk₁ hk₁ => ?_)
 rw [if_pos (show (none : Option Value).isNone = true from rfl)]
 refine wpAny_bind (wpAny_rule ?_)
 have g₁ : h₁.get? ad = some (tupO vs n) := hk₁ _ _ g'
 refine wpAny_bind (wpAny_pyIter_tuple (isTuple_of g₁) ?_)
 have hI : ad ≠ h₁.objs.size := Nat.ne_of_lt (Heap.lt_size g₁)
 have hS : s.heap.objs.size ≠ h₁.objs.size := let ⟨_, _, _, ho, _⟩ := hnew; Nat.ne_of_lt (Heap.lt_size (hk₁ _ _ ho))
 have hSa : s.heap.objs.size ≠ ad := Nat.ne_of_gt (Heap.lt_size g)
 refine wpAny_pure ⟨plainId_quiet plain_dict_loop _, codeAny_dict_loop (n := vs.toArray.size) (pairs := pairs) (Walks.tuple (A := A.in1.in1) hh h₁.objs.size ad hI vs.toArray) (by simp [hS, hSa]) (by simpa using hz) (by simpa using hlen) s.heap .none (fun i v hv => ?_) _ 0 _ [] rfl (Nat.zero_le _) ⟨⟨_, Heap.get?_push_size _ rfl, rfl, rfl⟩, isTuple_of (Heap.get?_push_of_some _ g₁)⟩ ?_ (Nat.le_refl _) (fun b o h1 h2 e => Heap.get?_push_of_some _ (hk₁ _ _ (Heap.get?_push_of_some _ e))) fun h' tk hd hold => ?_⟩
 ·obtain ⟨a, kv, vv, k, m, rfl, h1, h2, h3⟩ := hP i v (by simpa using hv)
  refine ⟨a, kv, vv, k, m, rfl, h1, h2, h3, Nat.ne_of_lt (Heap.lt_size h3), ?_⟩
  rw [List.mem_singleton]
  exact Nat.ne_of_lt (Heap.lt_size (hk₁ _ _ (Heap.get?_push_of_some _ h3)))
 ·exact let ⟨o, es, ep, ho, r⟩ := hnew; ⟨o, es, ep, Heap.get?_push_of_some _ (hk₁ _ _ ho), r⟩
 ·refine ⟨rfl, h h' tk hd fun b o e => hold b o (Nat.ne_of_lt (Heap.lt_size e)) ?_ e⟩
  rw [List.mem_singleton]
  exact Nat.ne_of_lt (Heap.lt_size (hk₁ _ _ (Heap.get?_push_of_some _ e)))
end
section
variable {h₀ : Bse} {A : Around} {W : List Addr} {ρ : Map} {s : Shared} {σ : Store}
theorem pairs_rel {h : Heap} : ∀ {l : List V} {vs : List Value} {t : Tab}, RelAll ρ h vs l → pairsOf l = some t → ∃ pairs : List (Key × Value), pairs.length = vs.length ∧ Ents ρ h pairs t ∧
  ∀ (i : Nat) (v : Value), vs[i]? = some v → ∃ a kv vv k m, v = .ref a ∧ pairs[i]? = some (k, vv) ∧ keyIs k kv = true ∧ h.get? a = some (tupO [kv, vv] m) := by
 intro l
 induction l with
 | nil =>
  intro vs t r e
  cases r; cases e
  exact ⟨[], rfl, .nil, fun i v e => by cases e⟩
 | cons x l ih =>
  intro vs t r e
  cases r with
  | cons r rs =>
   cases r with
   | tup g hl ra =>
    cases ra with
    | nil => cases e
    | @cons kv _ p _ rk ra =>
     cases ra with
     | nil => cases e
     | @cons vv _ q _ rv ra =>
      cases ra with
      | cons _ _ => cases e
      | nil =>
       have e : (match keyOf p, pairsOf l with | some k, some t => some ((k, q) :: t) | _, _ => none) = some t := e
       cases ek : keyOf p with
       | none => rw [ek] at e; cases e
       | some k =>
        cases er : pairsOf l with
        | none => rw [ek, er] at e; cases e
        | some t' =>
         rw [ek, er] at e; cases e
         obtain ⟨ps, h1, h2, h3⟩ := ih rs er
         obtain ⟨k1, k2⟩ := keyOf_is rk ek
         refine ⟨(k, _) :: ps, by rw [List.length_cons, List.length_cons, h1], .cons k2 rv h2, fun i v hv => ?_⟩
         cases i with
         | zero => cases hv; exact ⟨_, _, _, k, _, rfl, rfl, k1, g⟩
         | succ i => exact h3 i v hv
   | none => cases e
   | bool _ => cases e
   | int _ _ => cases e
   | str _ _ _ => cases e
   | ref _ => cases e
theorem Ents.merged {h : Heap} {ps : List (Key × Value)} {t : Tab} (q : Ents ρ h ps t) : ∀ {kvs : List (Key × Value)} {l : Tab}, Ents ρ h kvs l → Ents ρ h (PySem.merged kvs ps) (dMerge l t) := by
 induction q with
 | nil => exact fun r => r
 | cons hs rv _ ih => exact fun r => ih (r.stored hs rv)
theorem big (hN : h₀.heap.NoLimit) (i : Inv h₀ σ ρ s.heap) : (s.heap.objs.size == sysModules) = false := by
 have := modules_low (hN.keeps i.base)
 exact beq_false_of_ne (Nat.ne_of_gt this)
theorem Sim.bDict {a : Value} {x : V} (hN : h₀.heap.NoLimit) (hh : A.handled = none) (i : Inv h₀ σ ρ s.heap) (ra : Rel ρ s.heap a x) : Sim h₀ A W (call (.type "dict") [a]) (bDict x σ) RV ρ s := by
 cases ra with
 | tup g hl r =>
  refine Sim.optThen fun u hu => ?_
  obtain ⟨ps, h1, h2, h3⟩ := pairs_rel r hu
  have hm := h2.merged (.nil (ρ := ρ) (h := s.heap))
  refine Sim.newDictAt i fun Q E hQ => call_dict_tuple hh g hl h1 h3 fun h' tk hd hk => hQ _ _ h' tk hk fresh_none (big hN i) hd ?_ (hm.sub (Sub.keeps hk))
  exact Nat.le_trans (merged_length_le ..) (by rw [h1]; simpa using hl)
 | _ => exact trivial
theorem strLt_trans {a b c : Str} (h1 : strLt b a = false) (h2 : strLt c b = false) : strLt c a = false := by
 unfold strLt at *
 rw [decide_eq_false_iff_not] at *
 exact List.le_trans h1 h2
theorem strLt_total {a b : Str} (h : strLt a b = true) : strLt b a = false := by
 unfold strLt at *
 rw [decide_eq_false_iff_not]
 exact List.lt_asymm (of_decide_eq_true h)
theorem strLt_anti {a b : Str} (h1 : strLt b a = false) (h2 : strLt a b = false) : a = b := by
 unfold strLt at *
 rw [decide_eq_false_iff_not] at *
 have : a.cps.toList = b.cps.toList := List.le_antisymm h1 h2
 cases a; cases b
 simpa using Array.toList_inj.mp this
noncomputable abbrev Rising (l : List Str) : Prop := l.Pairwise fun a b => strLt b a = false
theorem putS_mem {x y : Str} : ∀ {l : List Str}, y ∈ putS x l ↔ y = x ∨ y ∈ l
 | [] => by simp [putS]
 | z :: r => by
  unfold putS
  split
  ·rw [List.mem_cons, putS_mem, List.mem_cons]; exact ⟨fun h => by rcases h with h | h | h <;> simp [h], fun h => by rcases h with h | h | h <;> simp [h]⟩
  ·rw [List.mem_cons]
theorem putS_perm {x : Str} : ∀ {l : List Str}, (putS x l).Perm (x :: l)
 | [] => .refl _
 | z :: r => by
  unfold putS
  split
  ·exact (List.Perm.cons z putS_perm).trans (.swap x z r)
  ·exact .refl _
theorem putS_rising {x : Str} : ∀ {l : List Str}, Rising l → Rising (putS x l)
 | [], _ => List.pairwise_singleton _ _
 | z :: r, h => by
  have h := List.pairwise_cons.mp h
  unfold putS
  split
  ·rename_i hz
   refine List.pairwise_cons.mpr ⟨fun y hy => ?_, putS_rising h.2⟩
   rcases putS_mem.mp hy with rfl | hy
   ·exact strLt_total hz
   ·exact h.1 y hy
  ·rename_i hz
   have hz : strLt z x = false := by simpa using hz
   refine List.pairwise_cons.mpr ⟨fun y hy => ?_, List.pairwise_cons.mpr h⟩
   rcases List.mem_cons.mp hy with rfl | hy
   ·exact hz
   ·exact strLt_trans hz (h.1 y hy)
theorem sortS_perm : ∀ {l : List Str}, (sortS l).Perm l
 | [] => .refl _
 | x :: r => (putS_perm).trans (.cons x sortS_perm)
theorem sortS_rising : ∀ {l : List Str}, Rising (sortS l)
 | [] => .nil
 | _ :: _ => putS_rising sortS_rising
theorem rising_of : ∀ (p : Str) (l : List Str), risingS p l = true → Rising (p :: l)
 | p, [], _ => List.pairwise_singleton _ _
 | p, x :: r, h => by
  have h : (!PySem.Spec.ltCps x.cps.toList p.cps.toList && risingS x r) = true := h
  rw [Bool.and_eq_true, PyProof.Rows.ltCps_eq] at h
  have h1 : strLt x p = false := by unfold strLt; simpa using h.1
  have ih := rising_of x r h.2
  refine List.pairwise_cons.mpr ⟨fun y hy => ?_, ih⟩
  rcases List.mem_cons.mp hy with rfl | hy
  ·exact h1
  ·exact strLt_trans h1 ((List.pairwise_cons.mp ih).1 y hy)
theorem sorted_is {l m : List Str} (hp : l.Perm m) (hs : sortedS l = true) : l = sortS m := by
 refine List.Perm.eq_of_pairwise (le := fun a b => strLt b a = false) (fun a b ya yb h1 h2 => strLt_anti h1 h2) ?_ sortS_rising (hp.trans sortS_perm.symm)
 cases l with
 | nil => exact .nil
 | cons x r => exact rising_of x r hs
theorem strs_rel {h : Heap} {vs : List Value} {ss : List Str} (q : StrsAre vs ss) : (∀ x ∈ ss, SOk x) → RelAll ρ h vs (ss.map V.str) := by
 induction q with
 | nil => exact fun ya => .nil
 | cons y t _ ih => exact fun hs => .cons (.str y t (hs y (List.mem_cons_self ..))) (ih fun x hx => hs x (List.mem_cons_of_mem _ hx))
theorem Sim.bSortedS {a : Addr} {vs : List Value} {m : Nat} {l : List V} {ss : List Str} (i : Inv h₀ σ ρ s.heap) (g : s.heap.get? a = some (listO vs m)) (r : RelAll ρ s.heap vs l) (hc : l.length < 64) (hss : allStrs l = some ss) : Sim h₀ A W (call (.builtin "sorted") [.ref a]) (newO (.list ((sortS ss).map V.str)) σ) RV ρ s := by
 obtain ⟨h1, h2⟩ := strsAre_of r hss
 have hlen := h1.length
 have hlen2 := r.length
 refine Sim.newListAt i fun Q E hQ => sorted_strs (isList_of g) h1 (by (first | lia | omega)) fun out ss' a1 a2 a3 => ?_
 obtain ⟨e, he⟩ := sortedAll_at s.heap vs out
 have hl' : out.toList.length = ss.length := by rw [a1.length, a2.length_eq]
 have hs' := sorted_is a2 a3
 subst hs'
 have h24 : (16777216 : Nat) = sizeLine := rfl
 refine hQ _ out.toList e _ s.toks (fun ya yb => sortedAll_old) ?_ (by simpa [listO, seqObj] using he) (by (first | lia | omega)) (strs_rel a1 fun x hx => h2 x (a2.mem_iff.mp hx))
 cases e1 : s.heap.get? (s.heap.objs.size + 1) with
 | none => rfl
 | some o => exact absurd (Heap.lt_size e1) (Nat.not_lt.mpr (Nat.le_succ _))
theorem vidx_is {y : V} : ∀ {l : List V} {k j : Nat}, vidx σ y l k = some j → ∃ m, j = k + m ∧ (∃ x, l[m]? = some x ∧ veq σ x y = some true) ∧ ∀ p, p < m → ∃ x, l[p]? = some x ∧ veq σ x y = some false := by
 intro l
 induction l with
 | nil =>
  intro k j h
  cases h
 | cons x r ih =>
  intro k j h
  have h : (match veq σ x y with | some true => some k | some false => vidx σ y r (k + 1) | none => none) = some j := h
  cases e : veq σ x y with
  | none => rw [e] at h; cases h
  | some b =>
   rw [e] at h
   cases b with
   | true => cases h; exact ⟨0, rfl, ⟨x, rfl, e⟩, fun p hp => absurd hp (Nat.not_lt_zero _)⟩
   | false =>
    obtain ⟨m, h1, h2, h3⟩ := ih h
    refine ⟨m + 1, by (first | lia | omega), h2, fun p hp => ?_⟩
    cases p with
    | zero => exact ⟨x, rfl, e⟩
    | succ p => exact h3 p (by (first | lia | omega))
theorem Sim.mIndex {a b : Value} {x y : V} (hu : A.units + 201 < cLine) (i : Inv h₀ σ ρ s.heap) (ra : Rel ρ s.heap a x) (rb : Rel ρ s.heap b y) : Sim h₀ A W (call (.builtin "list.index") [a, b]) (mIndex x y σ) RV ρ s := by
 have hu1 : A.in1.units + 200 < cLine := by show A.units + 1 + 200 < cLine; (first | lia | omega)
 have hsl := sizeLine_lt
 cases ra with
 | ref er =>
  refine Sim.getList fun l hσ => Sim.ask fun c hc => ?_
  obtain ⟨vs, m, g, hl, r⟩ := i.list hσ er
  cases hv : vin σ y l with
  | none => rw [hv] at hc; cases hc
  | some t =>
   cases t with
   | false => rw [hv] at hc; cases hc
   | true =>
    rw [hv] at hc
    obtain ⟨j, hj, rfl⟩ := Option.map_eq_some_iff.mp hc
    obtain ⟨m', rfl, ⟨z, hz, ez⟩, hno⟩ := vidx_is hj
    rw [Nat.zero_add]
    obtain ⟨_, he⟩ := vin_any (A := A.in1) i rb hu1 r hv
    have hlen := r.length
    have hm' := lt_of_get hz
    have hat : ∀ (p : Nat) (q : V) (e : Bool) (hp : p < vs.length), l[p]? = some q → veq σ q y = some e → ansB σ ρ s.heap y vs[p] = e := fun p q e hp h1 h2 => by
     obtain ⟨v, hv, rv⟩ := r.get h1
     rw [List.getElem?_eq_getElem hp] at hv; cases hv
     exact ansB_is i rv h2
    refine Sim.same i fun Q E hQ => call_meets PySem.F.slot_list_index ⟨_, g, rfl⟩ PySem.F.entry_list_index (PySem.F.args_list_index_2 _ _)
     (SeqAt.list_indexAt _ vs.toArray m none #[] b (ansB σ ρ s.heap y) m' (by simp; (first | lia | omega)) (by (first | lia | omega)) ?_ ?_) ⟨g, fun v hv => he v (by simpa using hv), hQ _ _ (.int _ _)⟩
    ·simpa using hat m' z true (by (first | lia | omega)) hz ez
    ·intro p hp hlt
     obtain ⟨q, h1, h2⟩ := hno p hlt
     simpa using hat p q false (by simpa using hp) h1 h2
 | _ => exact trivial
theorem boolsAre_of {h : Heap} {vs : List Value} {l : List V} {bs : List Bool} (r : RelAll ρ h vs l) : allBools l = some bs → vs = bs.map Value.bool := by
 induction r using RelAll.ind generalizing bs with
 | h0 => intro e; cases e; rfl
 | @h1 v vs x l r rs ih =>
  intro e
  cases r with
  | bool b =>
   obtain ⟨ts, e1, rfl⟩ := Option.map_eq_some_iff.mp (show (allBools l).map (b :: ·) = some bs from e)
   rw [ih e1]; rfl
  | _ => cases e
theorem range_all (bs : List Bool) : (List.range bs.length).all (fun i => bs[i]?.getD true) = bs.all id := by
 rw [Bool.eq_iff_iff, List.all_eq_true, List.all_eq_true]
 constructor
 ·intro h b hb
  obtain ⟨i, hi⟩ := List.getElem?_of_mem hb
  have := h i (List.mem_range.mpr (lt_of_get hi))
  rw [hi] at this; exact this
 ·intro h i hi
  have hi := List.mem_range.mp hi
  rw [List.getElem?_eq_getElem hi]
  exact h _ (List.getElem_mem hi)
theorem Sim.bAll {a : Value} {x : V} (hh : A.handled = none) (i : Inv h₀ σ ρ s.heap) (ra : Rel ρ s.heap a x) : Sim h₀ A W (call (.builtin "all") [a]) (bAll x σ) RV ρ s := by
 cases ra with
 | @ref ad d n er =>
  refine Sim.getList fun l hσ => Sim.optThen fun bs hbs => ?_
  obtain ⟨vs, m, g, hl, r⟩ := i.list hσ er
  have hb := boolsAre_of r hbs
  have hI : ad ≠ s.heap.objs.size := Nat.ne_of_lt (Heap.lt_size g)
  refine Sim.grown i fun Q E hQ => call_all_walk (wpAny_pyIter_list (isList_of g) ⟨_, _, _, _, _, _, fun i => bs[i]?.getD true, rfl, Walks.list (A := A.in1) hh s.heap.objs.size ad hI vs.toArray, ⟨⟨_, Heap.get?_push_size _ rfl, rfl, rfl⟩, isList_of (Heap.get?_push_of_some _ g)⟩, fun i v s' Q' E' hv hq => ?_, fun h' tk hk => ?_⟩)
  ·have hv : vs[i]? = some v := by simpa using hv
   rw [hb, List.getElem?_map] at hv
   obtain ⟨b, hb', rfl⟩ := Option.map_eq_some_iff.mp hv
   have hq : Q' (bs[i]?.getD true) s' := hq
   rw [hb'] at hq
   exact wpAny_truthy_bool hq
  ·have hsz : vs.toArray.size = bs.length := by rw [hb]; simp
   rw [hsz, range_all]
   exact hQ _ h' tk (fun b o e => hk b o (fun hm => by rw [List.mem_singleton.mp hm] at e; exact absurd (Heap.lt_size e) (Nat.lt_irrefl _)) (Heap.get?_push_of_some _ e)) (.bool _)
 | _ => exact trivial
end
end Mine.Internal

set_option backward.match.sparseCases false
namespace Mine.Internal
open PySem PyProof.Rows
noncomputable def Tup (h : Heap) (v : Value) (x : Str) : Prop := ∃ b o xs m t, v = .ref b ∧ h.get? b = some o ∧ o.cls = .type "tuple" ∧ o.data = .seq xs m ∧ xs[0]? = some (.str x t)
theorem Tup.uniq {h : Heap} {v : Value} {x y : Str} (a : Tup h v x) (b : Tup h v y) : x = y := by
 obtain ⟨b1, o, xs, m, t, rfl, g, _, hd, hx⟩ := a
 obtain ⟨b2, o', xs', m', t', e, g', _, hd', hx'⟩ := b
 cases e
 cases g.symm.trans g'
 cases hd.symm.trans hd'
 cases hx.symm.trans hx'
 rfl
open Classical in
noncomputable def headS (h : Heap) (v : Value) : Option (List Nat) := if k : ∃ x, Tup h v x then some k.choose.cps.toList else none
theorem Tup.head {h : Heap} {v : Value} {x : Str} (k : Tup h v x) : headS h v = some x.cps.toList := by
 have q : ∃ x, Tup h v x := ⟨x, k⟩
 unfold headS
 rw [dif_pos q, q.choose_spec.uniq k]
theorem headS_is {h : Heap} {v : Value} {c : List Nat} (e : headS h v = some c) : ∃ x, Tup h v x ∧ c = x.cps.toList := by
 unfold headS at e
 by_cases k : ∃ x, Tup h v x
 ·rw [dif_pos k] at e; exact ⟨_, k.choose_spec, (Option.some.inj e).symm⟩
 ·rw [dif_neg k] at e; exact no_some e
@[reducible] noncomputable def tupKind (h : Heap) : PyProof.Rows.KeyKind := { PyProof.Rows.strKind with keyOf := headS h }
theorem keyLt_eq (b : Bool) (x y : Value) : keyLt' (tuples' b) x y = (do
  let xs ← Builtin.List.listItems x; let ys ← Builtin.List.listItems y
  for ((p, q), i) in (xs.toList.zip ys.toList).zipIdx do
   if !(← eqBool p q) then return ← oneLt' (b && i == 0) p q
  return xs.size < ys.size) := rfl
section
variable {prog : Program} {w : World} {A : Around} {E : Value → Shared → Prop} {s : Shared}
theorem head_list {xs : Array Value} {v : Value} (h : xs[0]? = some v) : ∃ r, xs.toList = v :: r := by
 rw [← Array.getElem?_toList] at h
 cases e : xs.toList with
 | nil => rw [e] at h; cases h
 | cons a r => rw [e] at h; cases h; exact ⟨r, rfl⟩
theorem keyLt_head {a b : Addr} {oa ob : Obj} {xs ys : Array Value} {m n : Nat} {x y : Str} {t u : Tok} {Q : Bool → Shared → Prop} (ga : s.heap.get? a = some oa) (da : oa.data = .seq xs m) (gb : s.heap.get? b = some ob) (db : ob.data = .seq ys n)
  (hx : xs[0]? = some (.str x t)) (hy : ys[0]? = some (.str y u)) (hne : x ≠ y) (h : Q (decide (x.cps.toList < y.cps.toList)) s) : wpAny (model prog w) A (keyLt' (tuples' true) (.ref a) (.ref b)) Q E s := by
 rw [keyLt_eq]
 refine wpAny_bind (listItems_at ga da (wpAny_bind (listItems_at gb db ?_)))
 obtain ⟨xr, hxr⟩ := head_list hx
 obtain ⟨yr, hyr⟩ := head_list hy
 rw [hxr, hyr, List.zip_cons_cons, List.zipIdx_cons, List.forIn_cons]
 refine wpAny_bind (wpAny_bind ?_)
 dsimp only
 refine wpAny_bind (eqBool_str ?_)
 rw [beq_false_of_ne hne]
 simp only [Bool.not_false, if_true]
 refine wpAny_bind (oneLt_str (wpAny_pure (wpAny_pure ?_)))
 show wpAny _ _ (pure _) _ _ _
 exact wpAny_pure h
structure SB (a₀ : Array Keyed) (st : SortSt) : Prop where
 perm : (arrOf st).Perm a₀
 kind : kindOf st = tuples' true
 failed : failedOf st = none
 pend : pendingOf st = #[]
structure Srt (prog : Program) (w : World) (A : Around) (s : Shared) (κ : PyProof.Rows.KeyKind) (a₀ : Array Keyed) : Prop where
 keys : KeysOf κ a₀
 nodup : (a₀.toList.map fun p => (κ.keyOf p.1).getD κ.dflt).Nodup
 lt : ∀ (x y : Value) (a b : κ.α) (Q : Bool → Shared → Prop) (E : Value → Shared → Prop), κ.keyOf x = some a → κ.keyOf y = some b → a ≠ b → Q (κ.blt a b) s → wpAny (model prog w) A (keyLt' (tuples' true) x y) Q E s
variable {a₀ : Array Keyed} {κ : PyProof.Rows.KeyKind} {st : SortSt}
theorem SB.size (h : SB a₀ st) : (arrOf st).size = a₀.size := h.perm.size_eq
theorem SB.arr (h : SB a₀ st) {xs : Array Keyed} (hp : xs.Perm (arrOf st)) : SB a₀ (setArr st xs) := ⟨hp.trans h.perm, h.kind, h.failed, h.pend⟩
theorem Srt.at (S : Srt prog w A s κ a₀) (hB : SB a₀ st) {i : Nat} (hi : i < a₀.size) : ∃ x p, (arrOf st)[i]? = some (x, p) ∧ κ.keyOf x = some (KK κ (arrOf st) i) := by
 have hi' : i < (arrOf st).size := by rw [hB.size]; exact hi
 have e : (arrOf st)[i]? = some (arrOf st)[i] := getElem?_pos _ i hi'
 obtain ⟨a, ha⟩ := S.keys _ ((Array.perm_iff_toList_perm.mp hB.perm).mem_iff.mp (Array.getElem_mem_toList hi'))
 refine ⟨_, _, e, ?_⟩
 unfold KK; rw [e]; simp [ha]
theorem Srt.ne (S : Srt prog w A s κ a₀) (hB : SB a₀ st) {i j : Nat} (hi : i < a₀.size) (hij : i ≠ j) (hj : j < a₀.size) : KK κ (arrOf st) i ≠ KK κ (arrOf st) j := fun e => by
 have hn := (((Array.perm_iff_toList_perm.mp hB.perm).map fun p => (κ.keyOf p.1).getD κ.dflt)).nodup_iff.mpr S.nodup
 have h : ∀ {k : Nat}, k < a₀.size → ((arrOf st).toList.map fun p => (κ.keyOf p.1).getD κ.dflt)[k]? = some (KK κ (arrOf st) k) := fun {k} hk => by
  obtain ⟨x, p, e1, e2⟩ := S.at hB hk
  rw [List.getElem?_map, Array.getElem?_toList, e1]
  show some ((κ.keyOf x).getD κ.dflt) = _
  rw [e2]; rfl
 exact hij ((List.getElem?_inj (by rw [List.length_map, Array.length_toList, hB.size]; exact hi) hn).mp ((h hi).trans ((congrArg some e).trans (h hj).symm)))
theorem lt_at (S : Srt prog w A s κ a₀) (hB : SB a₀ st) {i j : Nat} {Q : Option Bool → SortSt → Prop} (hi : i < a₀.size) (hij : i ≠ j) (hj : j < a₀.size) (h : Q (some (κ.blt (KK κ (arrOf st) i) (KK κ (arrOf st) j))) st) : wpS (model prog w) A E s (ltAt' i j) Q st := by
 obtain ⟨x, p, e1, k1⟩ := S.at hB hi
 obtain ⟨y, q, e2, k2⟩ := S.at hB hj
 rw [ltAt'_eq]
 refine wpS_bind (wpS_get ?_)
 show wpS _ _ _ _ (do let x ← elem' (arrOf st) i; let y ← elem' (arrOf st) j; lt' x y) Q st
 rw [elem'_eq, elem'_eq, e1, e2]
 refine wpS_bind (wpS_pure (wpS_bind (wpS_pure ?_)))
 rw [lt'_eq]
 refine wpS_bind (wpS_get ?_)
 rw [hB.kind]
 exact wpS_bind (wpS_lift (wpAny_attempt (S.lt x y _ _ _ _ k1 k2 (S.ne hB hi hij hj) ⟨rfl, wpS_pure h⟩)))
theorem blt_of {a b : κ.α} (h : κ.blt a b = false) (hne : a ≠ b) : κ.blt b a = true := by
 cases e : κ.blt b a with
 | true => rfl
 | false => exact absurd (κ.total a b h e) hne
noncomputable def Up (f : Nat → κ.α) (k : Nat) : Prop := ∀ i j, i < j → j < k → κ.blt (f i) (f j) = true
noncomputable def Down (f : Nat → κ.α) (k : Nat) : Prop := ∀ i j, i < j → j < k → κ.blt (f j) (f i) = true
theorem Up.more {f : Nat → κ.α} {x : Nat} (h : Up f x) (hl : κ.blt (f (x - 1)) (f x) = true) : Up f (x + 1) := fun i j hij hj => by
 rcases Nat.lt_or_ge j x with hj' | hj'
 ·exact h i j hij hj'
 ·have : j = x := by (first | lia | omega)
  subst this
  rcases Nat.lt_or_ge i (j - 1) with hi | hi
  ·exact κ.trans _ _ _ (h i (j - 1) hi (by (first | lia | omega))) hl
  ·have : i = j - 1 := by (first | lia | omega)
   subst this; exact hl
theorem Down.more {f : Nat → κ.α} {x : Nat} (h : Down f x) (hl : κ.blt (f x) (f (x - 1)) = true) : Down f (x + 1) := fun i j hij hj => by
 rcases Nat.lt_or_ge j x with hj' | hj'
 ·exact h i j hij hj'
 ·have : j = x := by (first | lia | omega)
  subst this
  rcases Nat.lt_or_ge i (j - 1) with hi | hi
  ·exact κ.trans _ _ _ hl (h i (j - 1) hi (by (first | lia | omega)))
  ·have : i = j - 1 := by (first | lia | omega)
   subst this; exact hl
theorem asc_ok (S : Srt prog w A s κ a₀) {a nrem : Nat} {Q : AscSt → SortSt → Prop} (hn : nrem ≤ a₀.size) (ha : 1 ≤ a) (han : a ≤ nrem) (hB : SB a₀ st) (hs : Up (KK κ (arrOf st)) a)
  (h : ∀ n, a ≤ n → n ≤ nrem → Up (KK κ (arrOf st)) n → (n < nrem → κ.blt (KK κ (arrOf st) n) (KK κ (arrOf st) (n - 1)) = true) → Q (none, n) st) : wpS (model prog w) A E s (ascLoop a nrem) Q st := by
 unfold ascLoop
 refine wpS_forRange (I := fun x c st' => st' = st ∧ c = (none, x) ∧ Up (KK κ (arrOf st)) x) (fun x c st' h1 h2 hI => ?_) (fun c st' hI => ?_) ⟨rfl, rfl, hs⟩
 ·obtain ⟨rfl, rfl, hu⟩ := hI
  dsimp only
  refine wpS_bind (lt_at S hB (by (first | lia | omega)) (by (first | lia | omega)) (by (first | lia | omega)) ?_)
  cases e : κ.blt (KK κ (arrOf st') x) (KK κ (arrOf st') (x - 1)) with
  | true => exact wpS_pure (h x h1 (Nat.le_of_lt h2) hu fun ya => e)
  | false => exact wpS_pure ⟨rfl, rfl, hu.more (blt_of e (S.ne hB (by (first | lia | omega)) (by (first | lia | omega)) (by (first | lia | omega))))⟩
 ·obtain ⟨rfl, rfl, hu⟩ := hI
  rw [show max a nrem = nrem by (first | lia | omega)] at hu ⊢
  exact h nrem han (Nat.le_refl _) hu fun hlt => absurd hlt (Nat.lt_irrefl _)
theorem desc_ok (S : Srt prog w A s κ a₀) {n nrem : Nat} {Q : DescSt → SortSt → Prop} (hn : nrem ≤ a₀.size) (h1 : 1 ≤ n) (hnn : n ≤ nrem) (hB : SB a₀ st) (hs : Down (KK κ (arrOf st)) n)
  (h : ∀ m, n ≤ m → m ≤ nrem → Down (KK κ (arrOf st)) m → Q (none, m, 0) st) : wpS (model prog w) A E s (descLoop n nrem) Q st := by
 unfold descLoop
 refine wpS_forRange (I := fun x c st' => st' = st ∧ c = (none, x, 0) ∧ Down (KK κ (arrOf st)) x) (fun x c st' h2 h3 hI => ?_) (fun c st' hI => ?_) ⟨rfl, rfl, hs⟩
 ·obtain ⟨rfl, rfl, hu⟩ := hI
  dsimp only
  refine wpS_bind (lt_at S hB (by (first | lia | omega)) (by (first | lia | omega)) (by (first | lia | omega)) ?_)
  cases e : κ.blt (KK κ (arrOf st') x) (KK κ (arrOf st') (x - 1)) with
  | true =>
   simp only [if_true]
   rw [if_neg (Nat.lt_irrefl 0)]
   exact wpS_pure ⟨rfl, rfl, hu.more e⟩
  | false =>
   simp only [Bool.false_eq_true, if_false]
   refine wpS_bind (lt_at S hB (by (first | lia | omega)) (by (first | lia | omega)) (by (first | lia | omega)) ?_)
   rw [blt_of e (S.ne hB (by (first | lia | omega)) (by (first | lia | omega)) (by (first | lia | omega)))]
   simp only [if_true]
   exact wpS_pure (h x h2 (Nat.le_of_lt h3) hu)
 ·obtain ⟨rfl, rfl, hu⟩ := hI
  rw [show max n nrem = nrem by (first | lia | omega)] at hu ⊢
  exact h nrem hnn (Nat.le_refl _) hu
noncomputable def RunEnd (κ : PyProof.Rows.KeyKind) (a₀ : Array Keyed) (nrem : Nat) (Q : Option Nat → SortSt → Prop) : Prop := ∀ m st', SB a₀ st' → 1 ≤ m → m ≤ nrem → Up (KK κ (arrOf st')) m → Q (some m) st'
theorem descPart_ok (S : Srt prog w A s κ a₀) {nrem : Nat} {Q : Option Nat → SortSt → Prop} (hn : nrem ≤ a₀.size) (h2 : 2 ≤ nrem) (hB : SB a₀ st) (hs : κ.blt (KK κ (arrOf st) 1) (KK κ (arrOf st) 0) = true)
  (h : RunEnd κ a₀ nrem Q) : wpS (model prog w) A E s (descPart 1 nrem) Q st := by
 unfold descPart
 refine wpS_bind (wpS_lift (wpAny_rule ⟨rfl, ?_⟩))
 refine wpS_bind (desc_ok S hn (by (first | lia | omega)) h2 hB (fun i j hij hj => ?_) fun m hm1 hm2 hd => ?_)
 ·have : i = 0 := by (first | lia | omega)
  have : j = 1 := by (first | lia | omega)
  subst i; subst j; exact hs
 ·dsimp only
  rw [if_neg (Nat.lt_irrefl 0)]
  unfold tail3
  have hsz : m ≤ (arrOf st).size := by rw [hB.size]; (first | lia | omega)
  refine wpS_bind (wpS_reverse ?_)
  have hB' : SB a₀ (setArr st (mirror (arrOf st) 0 m ((m - 0) / 2))) := hB.arr (mirror_perm _ _ _ _)
  refine wpS_bind (asc_ok S hn (by (first | lia | omega)) hm2 hB' (fun i j hij hj => ?_) fun k hk1 hk2 hu ya => wpS_pure (h k _ hB' (by (first | lia | omega)) hk2 hu))
  show κ.blt (KK κ (mirror (arrOf st) 0 m ((m - 0) / 2)) i) (KK κ (mirror (arrOf st) 0 m ((m - 0) / 2)) j) = true
  rw [KK_mirror hsz, KK_mirror hsz, if_pos (by (first | lia | omega)), if_pos (by (first | lia | omega))]
  exact hd _ _ (by (first | lia | omega)) (by (first | lia | omega))
theorem count_ok (S : Srt prog w A s κ a₀) {nrem : Nat} {Q : Option Nat → SortSt → Prop} (hn : nrem ≤ a₀.size) (h1 : 1 ≤ nrem) (hB : SB a₀ st) (h : RunEnd κ a₀ nrem Q) : wpS (model prog w) A E s (countRun' 0 nrem) Q st := by
 rw [countRun0_eq]
 refine wpS_bind (asc_ok S hn (Nat.le_refl 1) h1 hB (fun i j hij hj => by (first | lia | omega)) fun n hn1 hn2 hu hd => ?_)
 dsimp only
 by_cases hnn : n = nrem
 ·rw [if_pos (by simpa using hnn)]
  exact wpS_pure (h n st hB hn1 hn2 hu)
 ·rw [if_neg (by simpa using hnn)]
  by_cases hgt : n > 1
  ·rw [if_pos hgt]
   refine wpS_bind (lt_at S hB (by (first | lia | omega)) (by (first | lia | omega)) (by (first | lia | omega)) ?_)
   rw [hu 0 (n - 1) (by (first | lia | omega)) (by (first | lia | omega))]
   simp only [if_true]
   exact wpS_pure (h n st hB hn1 hn2 hu)
  ·rw [if_neg hgt]
   have : n = 1 := by (first | lia | omega)
   subst this
   exact descPart_ok S hn (by (first | lia | omega)) hB (hd (by (first | lia | omega))) h
noncomputable def Gap (f : Nat → κ.α) (k l r : Nat) : Prop := l ≤ r ∧ r ≤ k ∧ (∀ i, i < l → κ.blt (f i) (f k) = true) ∧ ∀ i, r ≤ i → i < k → κ.blt (f k) (f i) = true
theorem mid_lt {l r : Nat} (h : ¬l ≥ r) : (l + r) / 2 < r := Nat.div_lt_of_lt_mul (by rw [Nat.two_mul]; exact Nat.add_lt_add_right (Nat.not_le.mp h) r)
theorem mid_ge {l r : Nat} (h : ¬l ≥ r) : l ≤ (l + r) / 2 := (Nat.le_div_iff_mul_le Nat.two_pos).mpr (by rw [Nat.mul_two]; exact Nat.add_le_add_left (Nat.le_of_lt (Nat.not_le.mp h)) l)
theorem mid_low {l r k x : Nat} (h : ¬l ≥ r) (hm : r - l ≤ k - x) : (l + r) / 2 - l ≤ k - (x + 1) := Nat.le_sub_one_of_lt (Nat.lt_of_lt_of_le (Nat.sub_lt_sub_right (mid_ge h) (mid_lt h)) hm)
theorem mid_high {l r k x : Nat} (h : ¬l ≥ r) (hm : r - l ≤ k - x) : r - ((l + r) / 2 + 1) ≤ k - (x + 1) := Nat.sub_le_sub_right (Nat.le_trans (Nat.sub_le_sub_left (mid_ge h) r) hm) 1
theorem Gap.low {f : Nat → κ.α} {k l r m : Nat} (g : Gap f k l r) (hu : Up f k) (hl : l ≤ m) (hr : m < r) (e : κ.blt (f k) (f m) = true) : Gap f k l m :=
 ⟨hl, Nat.le_of_lt (Nat.lt_of_lt_of_le hr g.2.1), g.2.2.1, fun i h2 h3 => by
  rcases Nat.lt_or_eq_of_le h2 with hi | rfl
  ·exact κ.trans _ _ _ e (hu _ _ hi h3)
  ·exact e⟩
theorem Gap.high {f : Nat → κ.α} {k l r m : Nat} (g : Gap f k l r) (hu : Up f k) (hr : m < r) (e : κ.blt (f m) (f k) = true) : Gap f k (m + 1) r :=
 ⟨hr, g.2.1, fun i h2 => by
  rcases Nat.lt_or_eq_of_le (Nat.le_of_lt_succ h2) with hi | rfl
  ·exact κ.trans _ _ _ (hu _ _ hi (Nat.lt_of_lt_of_le hr g.2.1)) e
  ·exact e, g.2.2.2⟩
theorem Up.put {f g : Nat → κ.α} {k l : Nat} (hu : Up f k) (G : Gap f k l l) (hg : ∀ i, g i = if i = l then f k else if l < i ∧ i ≤ k then f (i - 1) else f i) : Up g (k + 1) := fun i j hij hj => by
 have hj' : j ≤ k := Nat.le_of_lt_succ hj
 have hlo : ∀ i, i < l → g i = f i := fun i h => by rw [hg, if_neg (Nat.ne_of_lt h), if_neg fun q => Nat.lt_asymm h q.1]
 have hat : g l = f k := by rw [hg, if_pos rfl]
 have hhi : ∀ i, l < i → i ≤ k → g i = f (i - 1) := fun i h h' => by rw [hg, if_neg (Nat.ne_of_gt h), if_pos ⟨h, h'⟩]
 rcases Nat.lt_trichotomy j l with h | rfl | h
 ·rw [hlo j h, hlo i (Nat.lt_trans hij h)]; exact hu i j hij (Nat.lt_of_lt_of_le h G.2.1)
 ·rw [hat, hlo i hij]; exact G.2.2.1 i hij
 ·have hj1 : j - 1 < k := Nat.lt_of_lt_of_le (Nat.sub_lt (Nat.zero_lt_of_lt h) Nat.one_pos) hj'
  rw [hhi j h hj']
  rcases Nat.lt_trichotomy i l with h' | rfl | h'
  ·rw [hlo i h']; exact hu i (j - 1) (Nat.lt_of_lt_of_le h' (Nat.le_sub_one_of_lt h)) hj1
  ·rw [hat]; exact G.2.2.2 (j - 1) (Nat.le_sub_one_of_lt h) hj1
  ·rw [hhi i h' (Nat.le_trans (Nat.le_of_lt hij) hj')]
   exact hu _ _ (Nat.sub_lt_sub_right (Nat.lt_of_le_of_lt (Nat.zero_le _) h') hij) hj1
noncomputable def BI (κ : PyProof.Rows.KeyKind) (a₀ : Array Keyed) (k : Nat) (c : Option Bool × Unit) (st' : SortSt) : Prop := c = (none, ()) ∧ SB a₀ st' ∧ Up (KK κ (arrOf st')) k
noncomputable def BJ (κ : PyProof.Rows.KeyKind) (k : Nat) (st' : SortSt) (x : Nat) (c : Option Bool × Nat × Nat) (st'' : SortSt) : Prop := st'' = st' ∧ ∃ l r, c = (none, l, r) ∧ Gap (KK κ (arrOf st')) k l r ∧ r - l ≤ k - x
noncomputable def BK (κ : PyProof.Rows.KeyKind) (k : Nat) (st' : SortSt) (c : Option Bool × Nat × Nat) (st'' : SortSt) : Prop := st'' = st' ∧ ∃ l, c = (none, l, l) ∧ Gap (KK κ (arrOf st')) k l l
theorem BJ.zero {k : Nat} {st' : SortSt} : BJ κ k st' 0 (none, 0, k) st' := ⟨rfl, 0, k, rfl, ⟨Nat.zero_le _, Nat.le_refl _, fun i hi => absurd hi (Nat.not_lt_zero _), fun i h2 h3 => absurd h3 (Nat.not_lt.mpr h2)⟩, Nat.le_refl _⟩
theorem BJ.end {k : Nat} {st' st'' : SortSt} {c : Option Bool × Nat × Nat} (h : BJ κ k st' (max 0 k) c st'') : BK κ k st' c st'' := by
 obtain ⟨e, l, r, ec, g, hm⟩ := h
 have : l = r := Nat.le_antisymm g.1 (Nat.le_of_sub_eq_zero (Nat.le_zero.mp (Nat.le_trans hm (Nat.le_of_eq (by rw [Nat.zero_max, Nat.sub_self])))))
 subst this
 exact ⟨e, l, ec, g⟩
theorem lt_at0 (S : Srt prog w A s κ a₀) (hB : SB a₀ st) {i j : Nat} {Q : Option Bool → SortSt → Prop} (hi : i < a₀.size) (hij : i ≠ j) (hj : j < a₀.size) (h : Q (some (κ.blt (KK κ (arrOf st) i) (KK κ (arrOf st) j))) st) : wpS (model prog w) A E s (ltAt' (0 + i) (0 + j)) Q st := by
 rw [Nat.zero_add, Nat.zero_add]; exact lt_at S hB hi hij hj h
theorem move_at (hB : SB a₀ st) {k l : Nat} {Q : Unit → SortSt → Prop} (hk : k < a₀.size) (hu : Up (KK κ (arrOf st)) k) (g : Gap (KK κ (arrOf st)) k l l) (h : ∀ st', BI κ a₀ (k + 1) (none, ()) st' → Q () st') : wpS (model prog w) A E s (moveDown' (0 + k) (0 + l)) Q st := by
 rw [Nat.zero_add, Nat.zero_add, moveDown'_eq]
 refine wpS_modify (h _ ⟨rfl, hB.arr (bubble_perm _ _ _), hu.put g fun i => ?_⟩)
 have e := KK_bubble (κ := κ) (xs := arrOf st) (src := k) (d := k - l) (by rw [hB.size]; exact hk) (Nat.sub_le _ _) i
 rw [Nat.sub_sub_self g.2.1] at e
 exact e
theorem bin_ok (S : Srt prog w A s κ a₀) {n ok : Nat} {Q : Bool → SortSt → Prop} (hn : n ≤ a₀.size) (h1 : 1 ≤ ok) (hok : ok ≤ n) (hB : SB a₀ st) (hs : Up (KK κ (arrOf st)) ok)
  (h : ∀ st', SB a₀ st' → Up (KK κ (arrOf st')) n → Q true st') : wpS (model prog w) A E s (binarySort' 0 n ok) Q st := by
 rw [binarySort'_eq]
 refine wpS_bind (wpS_mono (wpS_forRange (I := BI κ a₀) (Q := BI κ a₀ n) (fun k c st' hk1 hk2 hI => ?_) (fun c st' hI => ?_) ⟨rfl, hB, (Nat.max_eq_left h1).symm ▸ hs⟩) fun c st' hI => ?_)
 ·obtain ⟨rfl, hB', hu⟩ := hI
  have hka : k < a₀.size := Nat.lt_of_lt_of_le hk2 hn
  refine wpS_bind (wpS_mono (wpS_forRange (I := BJ κ k st') (Q := BK κ k st') (fun x c st'' ya hx hI => ?_) (fun c st'' hI => hI.end) .zero) fun c st'' hI => ?_)
  ·obtain ⟨rfl, l, r, rfl, g, hm⟩ := hI
   dsimp only
   by_cases hge : l ≥ r
   ·rw [if_pos hge]
    have := Nat.le_antisymm g.1 hge
    subst this
    exact wpS_pure ⟨rfl, l, rfl, g⟩
   ·rw [if_neg hge]
    have hmk := Nat.lt_of_lt_of_le (mid_lt hge) g.2.1
    refine wpS_bind (lt_at0 S hB' hka (Nat.ne_of_gt hmk) (Nat.lt_trans hmk hka) ?_)
    cases e : κ.blt (KK κ (arrOf st'') k) (KK κ (arrOf st'') ((l + r) / 2)) with
    | true => exact wpS_pure ⟨rfl, l, (l + r) / 2, rfl, g.low hu (mid_ge hge) (mid_lt hge) e, mid_low hge hm⟩
    | false => exact wpS_pure ⟨rfl, (l + r) / 2 + 1, r, rfl, g.high hu (mid_lt hge) (blt_of e (S.ne hB' hka (Nat.ne_of_gt hmk) (Nat.lt_trans hmk hka))), mid_high hge hm⟩
  ·obtain ⟨rfl, l, rfl, g⟩ := hI
   exact wpS_bind (move_at hB' hka hu g fun ya k => wpS_pure k)
 ·rw [Nat.max_eq_right (Nat.max_le.mpr ⟨hok, Nat.le_trans h1 hok⟩)] at hI
  exact hI
 ·obtain ⟨rfl, hB', hu⟩ := hI
  exact wpS_pure (h st' hB' hu)
noncomputable def SEnd (κ : PyProof.Rows.KeyKind) (a₀ : Array Keyed) (st : SortSt) : Prop := (arrOf st).Perm a₀ ∧ failedOf st = none ∧ pendingOf st = #[(0, a₀.size, 0)] ∧ Up (KK κ (arrOf st)) a₀.size
theorem SB.done {m : Nat} (hB : SB a₀ st) (hm : m = a₀.size) (hs : Up (KK κ (arrOf st)) m) : SEnd κ a₀ (setPending st ((pendingOf st).push (0, m, 0))) := by
 subst hm
 exact ⟨hB.perm, hB.failed, by show (pendingOf st).push _ = _; rw [hB.pend]; rfl, hs⟩
theorem SB.back (hB : SB a₀ st) : (pendingOf st).back? = none := by rw [hB.pend]; rfl
noncomputable def RI (κ : PyProof.Rows.KeyKind) (a₀ : Array Keyed) (x : Nat) (c : Option Unit × Nat) (st' : SortSt) : Prop := (x = 0 ∧ c = (none, 0) ∧ SB a₀ st') ∨ (1 ≤ x ∧ c = (none, a₀.size) ∧ SEnd κ a₀ st')
noncomputable def RQ (κ : PyProof.Rows.KeyKind) (a₀ : Array Keyed) (c : Option Unit × Nat) (st' : SortSt) : Prop := c = (none, a₀.size) ∧ SEnd κ a₀ st'
theorem RI.end {c : Option Unit × Nat} {st' : SortSt} {n : Nat} (h2 : 2 ≤ n) (h : RI κ a₀ (max 0 n) c st') : RQ κ a₀ c st' := by
 rcases h with ⟨hx, _, _⟩ | ⟨_, hc⟩
 ·rw [Nat.zero_max] at hx; rw [hx] at h2; exact absurd h2 (by decide)
 ·exact hc
theorem RI.one {m lo : Nat} (hB : SB a₀ st) (hm : m = a₀.size) (hlo : lo = a₀.size) (hs : Up (KK κ (arrOf st)) m) : RI κ a₀ (0 + 1) (none, lo) (setPending st ((pendingOf st).push (0, m, 0))) := .inr ⟨Nat.le_refl _, by rw [hlo], hB.done hm hs⟩
theorem runs_ok (S : Srt prog w A s κ a₀) {Q : Unit → SortSt → Prop} (hB : SB a₀ st) (h2 : 2 ≤ a₀.size) (h64 : a₀.size < 64) (h : ∀ st', SEnd κ a₀ st' → Q () st') : wpS (model prog w) A E s sortRuns' Q st := by
 have hmr : minRun' a₀.size a₀.size 0 = a₀.size := by
  obtain ⟨f, hf⟩ : ∃ f, a₀.size = f + 1 := ⟨a₀.size - 1, (Nat.sub_add_cancel (Nat.le_of_lt h2)).symm⟩
  have : minRun' (f + 1) a₀.size 0 = a₀.size := by rw [minRun'_succ, if_pos h64]; rfl
  rwa [← hf] at this
 rw [sortRuns'_eq]
 refine wpS_bind (wpS_get ?_)
 dsimp only
 have hz := hB.size
 generalize (arrOf st).size = N at hz ⊢
 subst hz
 generalize minRun' a₀.size a₀.size 0 = mr at hmr ⊢
 refine wpS_bind (wpS_mono (wpS_forRange (I := RI κ a₀) (Q := RQ κ a₀) (fun x c st' ya hx hI => ?_) (fun c st' hI => hI.end h2) (.inl ⟨rfl, rfl, hB⟩)) fun c st' hI => ?_)
 ·rcases hI with ⟨rfl, rfl, hB'⟩ | ⟨hx1, rfl, hD⟩
  ·dsimp only
   rw [if_neg (Nat.not_le.mpr hx)]
   refine wpS_bind (count_ok S (nrem := a₀.size - 0) (Nat.le_refl _) (Nat.le_of_lt h2) hB' fun m st2 hB2 hm1 hm2 hs2 => ?_)
   dsimp only
   by_cases hlt : m < mr
   ·rw [if_pos hlt]
    have hf : min (a₀.size - 0) mr = a₀.size := by rw [hmr]; exact Nat.min_self _
    refine wpS_bind (wpS_lift (wpAny_rule ⟨rfl, ?_⟩))
    refine wpS_bind (bin_ok S (Nat.le_of_eq hf) hm1 (Nat.le_trans hm2 (Nat.le_of_eq hf.symm)) hB2 hs2 fun st3 hB3 hs3 => ?_)
    rw [if_neg (show ¬(!true) = true from Bool.false_ne_true)]
    refine wpS_bind (wpS_get ?_)
    rw [hB3.back]
    exact wpS_bind (wpS_modify (wpS_pure (.one hB3 hf ((Nat.zero_add _).trans hf) hs3)))
   ·rw [if_neg hlt]
    have hm : m = a₀.size := Nat.le_antisymm hm2 (hmr ▸ Nat.not_lt.mp hlt)
    refine wpS_bind (wpS_get ?_)
    rw [hB2.back]
    exact wpS_bind (wpS_modify (wpS_pure (.one hB2 hm ((Nat.zero_add _).trans hm) hs2)))
  ·dsimp only
   rw [if_pos (Nat.le_refl _)]
   exact wpS_pure ⟨rfl, hD⟩
 ·obtain ⟨rfl, hD⟩ := hI
  refine wpS_bind (wpS_mono (wpS_forRange (I := fun ya c st'' => st'' = st' ∧ c = (none, ())) (Q := fun c st'' => st'' = st' ∧ c = (none, ())) (fun x c st'' ya yb hI => ?_) (fun ya yb hh => hh) ⟨rfl, rfl⟩) fun c st'' hI => ?_)
  ·obtain ⟨rfl, rfl⟩ := hI
   refine wpS_bind (wpS_get ?_)
   rw [if_pos (by rw [hD.2.2.1]; exact Nat.le_refl 1)]
   exact wpS_pure ⟨rfl, rfl⟩
  ·obtain ⟨rfl, rfl⟩ := hI
   exact wpS_pure (h _ hD)
theorem first_eq (v : Value) : firstOfTuple' v = (do
  if (← typeOf v) != .type "tuple" then return none
  return (← Builtin.List.listItems v)[0]?) := rfl
variable {h₀ : Heap}
theorem mapM_first (keep : ∀ b o, h₀.get? b = some o → s.heap.get? b = some o) : ∀ (T : List (Value × Str)) {Q : List (Option Value) → Shared → Prop}, (∀ p ∈ T, Tup h₀ p.1 p.2) → (∀ fs, StrsAre fs (T.map (·.2)) → Q (fs.map some) s) →
  wpAny (model prog w) A ((T.map (·.1)).mapM firstOfTuple') Q E s
 | [], Q, _, h => by rw [List.map_nil, List.mapM_nil]; exact wpAny_pure (h [] .nil)
 | p :: T, Q, ht, h => by
  obtain ⟨b, o, xs, m, t, e, g, hc, hd, hx⟩ := ht p (List.mem_cons_self ..)
  rw [List.map_cons, List.mapM_cons, e]
  refine wpAny_bind ?_
  rw [first_eq]
  refine wpAny_bind (wpAny_typeOf (T := "tuple") ⟨o, keep _ _ g, hc⟩ ?_)
  rw [if_neg (by decide)]
  refine wpAny_bind (listItems_at (keep _ _ g) hd (wpAny_pure ?_))
  rw [hx]
  exact wpAny_bind (mapM_first keep T (fun q hq => ht q (List.mem_cons_of_mem _ hq)) fun fs hfs => wpAny_pure (h (.str p.2 t :: fs) (.cons p.2 t hfs)))
theorem kind_pairs (keep : ∀ b o, h₀.get? b = some o → s.heap.get? b = some o) {T : List (Value × Str)} {Q : SortKind → Shared → Prop} (ht : ∀ p ∈ T, Tup h₀ p.1 p.2) (hne : 0 < T.length) (h : Q (tuples' true) s) : wpAny (model prog w) A (keyKind' (T.map (·.1)).toArray) Q E s := by
 rw [keyKind'_eq, List.mapM_toArray, map_eq_pure_bind]
 refine wpAny_bind (wpAny_bind (mapM_first keep T ht fun fs hfs => wpAny_pure ?_))
 rw [if_pos (by simp)]
 refine wpAny_bind (wpAny_rule ?_)
 rw [show (fs.map some).toArray.filterMap id = fs.toArray by simp, oneTypeOnly'_eq, List.mapM_toArray, mapM_typeOf_strs hfs]
 simp only [map_pure, pure_bind]
 have hl : 0 < fs.length := by rw [hfs.length, List.length_map]; exact hne
 obtain ⟨f, r, rfl⟩ : ∃ f r, fs = f :: r := by
  cases fs with
  | nil => cases hl
  | cons f r => exact ⟨f, r, rfl⟩
 have hall : ((List.map (fun ya => Value.type "str") (f :: r)).toArray.all fun x => x == Value.type "str") = true := by
  simp only [List.all_toArray, List.all_map, List.all_eq_true]
  intro _ _
  rfl
 rw [show (List.map (fun ya => Value.type "str") (f :: r)).toArray[0]? = some (Value.type "str") by simp]
 simp only [hall, if_true, pure_bind]
 exact wpAny_pure h
theorem perm_lift {α β : Type} {f : α → β} {out m : List β} (h : out.Perm m) : ∀ {L : List α}, m = L.map f → ∃ L' : List α, L'.Perm L ∧ L'.map f = out := by
 induction h with
 | nil => exact fun {L} e => ⟨L, .refl _, e.symm⟩
 | cons x _ ih =>
  intro L e
  cases L with
  | nil => cases e
  | cons a L =>
   obtain ⟨h1, h2⟩ := List.cons.inj e
   obtain ⟨L', p, e'⟩ := ih h2
   exact ⟨a :: L', p.cons a, by rw [List.map_cons, e', h1]⟩
 | swap x y l =>
  intro L e
  cases L with
  | nil => cases e
  | cons a L =>
   cases L with
   | nil => cases (List.cons.inj e).2
   | cons b L =>
    obtain ⟨h1, h2⟩ := List.cons.inj e
    obtain ⟨h3, h4⟩ := List.cons.inj h2
    exact ⟨b :: a :: L, .swap .., by rw [List.map_cons, List.map_cons, ← h4, h1, h3]⟩
 | trans _ _ ih1 ih2 =>
  intro L e
  obtain ⟨L2, p2, e2⟩ := ih2 e
  obtain ⟨L1, p1, e1⟩ := ih1 e2.symm
  exact ⟨L1, p1.trans p2, e1⟩
noncomputable def UpT (T : List (Value × Str)) : Prop := T.Pairwise fun p q => strLt p.2 q.2 = true
theorem upT_of {T : List (Value × Str)} {xs : Array Keyed} (ht : ∀ p ∈ T, Tup h₀ p.1 p.2) (e : xs.toList = T.map fun p => (p.1, p.1)) (hu : Up (KK (tupKind h₀) xs) T.length) : UpT T := by
 have hk : ∀ (i : Nat) (hi : i < T.length), KK (tupKind h₀) xs i = T[i].2.cps.toList := fun i hi => by
  have e1 : xs[i]? = some (T[i].1, T[i].1) := by rw [← Array.getElem?_toList, e, List.getElem?_map, List.getElem?_eq_getElem hi]; rfl
  unfold KK
  rw [e1]
  show (headS h₀ T[i].1).getD [] = _
  rw [(ht _ (List.getElem_mem hi)).head]; rfl
 unfold UpT
 rw [List.pairwise_iff_getElem]
 intro i j hi hj hij
 have := hu i j hij hj
 rw [hk i hi, hk j hj] at this
 exact this
theorem sort_pairs {a : Addr} {T : List (Value × Str)} {n : Nat} {P : PySem.Fin → Shared → Prop} (ho : s.heap.get? a = some (seqObj "list" (T.map (·.1)).toArray n)) (keep : ∀ b o, h₀.get? b = some o → s.heap.get? b = some o ∧ b ≠ a) (ht : ∀ p ∈ T, Tup h₀ p.1 p.2) (hn : (T.map (·.2)).Nodup) (h64 : T.length < 64)
  (h : ∀ T', T'.Perm T → UpT T' → P (.done (.ret .none)) { s with heap := sortedHeap s.heap a (T.map (·.1)) (T'.map (·.1)).toArray }) : wpAny (model prog w) A (Builtin.«list.sort» ⟨[.ref a], []⟩) P E s := by
 rw [list_sort_plain]
 have ha : a < s.heap.objs.size := Heap.lt_size ho
 have hlen : (T.map (·.1)).length = T.length := List.length_map ..
 have hvs : (T.map (·.1)).toArray.size = T.length := by simp
 have h24 : (16777216 : Nat) = sizeLine := rfl
 refine wpAny_bind (listItems_at ho rfl ?_)
 refine wpAny_bind (listUpdate_at ho rfl ?_ (by rw [hvs]; (first | lia | omega)) (Nat.zero_le _))
 obtain ⟨e1, ho1⟩ : ∃ e1, (s.heap.update a (Obj.mapSeq fun ya => #[])).get? a = some (seqObj "list" #[] e1) := ⟨_, get?_update_seq ho (fun ya => #[])⟩
 refine wpAny_bind (seqEpoch_at ho1 rfl ?_)
 refine wpAny_bind (wpAny_newTuple ?_)
 refine wpAny_bind (wpAny_newList ?_)
 refine wpAny_holding ?_
 have ho6 : (((s.heap.update a (Obj.mapSeq fun ya => #[])).push (seqObj "tuple" (T.map (·.1)).toArray 0)).push (seqObj "list" #[] 0)).get? a = some (seqObj "list" #[] e1) := Heap.get?_push_of_some _ (Heap.get?_push_of_some _ ho1)
 have keep6 : ∀ b o, h₀.get? b = some o → (((s.heap.update a (Obj.mapSeq fun ya => #[])).push (seqObj "tuple" (T.map (·.1)).toArray 0)).push (seqObj "list" #[] 0)).get? b = some o := fun b o e => by
  obtain ⟨k1, k2⟩ := keep b o e
  exact Heap.get?_push_of_some _ (Heap.get?_push_of_some _ ((Heap.get?_update_other _ _ (Ne.symm k2)).trans k1))
 show wpAny (model prog w) A _ P E { s with heap := ((s.heap.update a (Obj.mapSeq fun ya => #[])).push (seqObj "tuple" (T.map (·.1)).toArray 0)).push (seqObj "list" #[] 0) }
 have fin : ∀ st' : SortSt, (∃ T', T'.Perm T ∧ UpT T' ∧ (arrOf st').toList = T'.map fun p => (p.1, p.1)) → (arrOf st').size = T.length ∧ P (.done (.ret .none)) { s with heap := sortedHeap s.heap a (T.map (·.1)) ((arrOf st').map (·.2)) } := fun st' ⟨T', p, u, e⟩ => by
  have e2 : (arrOf st').map (·.2) = (T'.map (·.1)).toArray := by
   apply Array.toList_inj.mp
   rw [Array.toList_map, e, List.map_map]; rfl
  rw [e2]
  refine ⟨?_, h T' p u⟩
  rw [← Array.length_toList, e, List.length_map, p.length_eq]
 dsimp only
 by_cases h2 : (T.map (·.1)).toArray.size < 2
 ·rw [if_pos h2, if_pos h2]
  refine wpAny_bind (wpAny_pure ?_)
  rw [StateT.run_pure]
  refine wpAny_bind (wpAny_pure ?_)
  dsimp only
  obtain ⟨hz, hf⟩ := fin (SortSt.mk' general' ((T.map (·.1)).toArray.zip (T.map (·.1)).toArray) #[] 7 none) ⟨T, .refl _, by
   rw [hvs] at h2
   cases T with
   | nil => exact .nil
   | cons p T =>
    cases T with
    | nil => exact List.pairwise_singleton _ _
    | cons q T => exact absurd h2 (by simp), by
   show ((T.map (·.1)).toArray.zip (T.map (·.1)).toArray).toList = _
   rw [Array.toList_zip]; exact List.zip_map' ..⟩
  refine wpAny_bind (seqEpoch_at ho6 rfl ?_)
  refine wpAny_bind (listUpdate_at ho6 rfl ?_ (Nat.zero_le _) (by rw [Array.size_map]; exact Nat.le_trans (Nat.le_of_eq hz) (by (first | lia | omega))))
  simp only [bne_self_eq_false, Bool.false_eq_true, if_false]
  exact wpAny_pure hf
 ·rw [if_neg h2, if_neg h2]
  rw [hvs] at h2
  refine wpAny_bind (kind_pairs keep6 ht (by (first | lia | omega)) ?_)
  have hz : (PyProof.Rows.pairsOf (T.map (·.1))).toList = T.map fun p => (p.1, p.1) := by rw [pairsOf_toList]; exact List.zip_map' ..
  have hsz : (PyProof.Rows.pairsOf (T.map (·.1))).size = T.length := by rw [pairsOf_size, hlen]
  have S : Srt prog w A { s with heap := ((s.heap.update a (Obj.mapSeq fun ya => #[])).push (seqObj "tuple" (T.map (·.1)).toArray 0)).push (seqObj "list" #[] 0) } (tupKind h₀) (PyProof.Rows.pairsOf (T.map (·.1))) := {
   keys := fun p hp => by
    rw [hz] at hp
    obtain ⟨q, hq, rfl⟩ := List.mem_map.mp hp
    exact ⟨_, (ht q hq).head⟩
   nodup := by
    rw [hz, List.map_map]
    have e : (T.map ((fun p : Keyed => ((tupKind h₀).keyOf p.1).getD (tupKind h₀).dflt) ∘ fun p => (p.1, p.1))) = (T.map (·.2)).map fun x : Str => x.cps.toList := by
     rw [List.map_map]
     refine List.map_congr_left fun p hp => ?_
     show (headS h₀ p.1).getD [] = _
     rw [(ht p hp).head]; rfl
    rw [e]
    exact List.Pairwise.map _ (fun x y hxy e => hxy (by cases x; cases y; simpa using Array.toList_inj.mp e)) hn
   lt := fun x y c d Q E e1 e2 hne hq => by
    obtain ⟨x', ⟨b, o, xs, m, t, rfl, g1, _, d1, f1⟩, rfl⟩ := headS_is e1
    obtain ⟨y', ⟨b', o', ys, m', t', rfl, g2, _, d2, f2⟩, rfl⟩ := headS_is e2
    exact keyLt_head (keep6 _ _ g1) d1 (keep6 _ _ g2) d2 f1 f2 (fun e => hne (by rw [e])) hq }
  refine wpAny_bind (wpAny_mono (runs_ok S (st := SortSt.mk' (tuples' true) ((T.map fun p : Value × Str => p.1).toArray.zip (T.map fun p : Value × Str => p.1).toArray) #[] 7 none) (Q := fun ya st' => SEnd (tupKind h₀) (PyProof.Rows.pairsOf (T.map fun p : Value × Str => p.1)) st') ⟨Array.Perm.refl _, rfl, rfl, rfl⟩ (by rw [hsz]; (first | lia | omega)) (by rw [hsz]; exact h64) fun ya k => k) ?_ fun ya yb e => e)
  rintro ⟨⟨⟩, st'⟩ s' ⟨rfl, hp, hf, _, hu⟩
  dsimp only
  obtain ⟨T', p, e⟩ := perm_lift (Array.perm_iff_toList_perm.mp hp) hz
  rw [hsz, ← p.length_eq] at hu
  obtain ⟨hz', hF⟩ := fin st' ⟨T', p, upT_of (fun q hq => ht q (p.mem_iff.mp hq)) e.symm hu, e.symm⟩
  refine wpAny_bind (seqEpoch_at ho6 rfl ?_)
  refine wpAny_bind (listUpdate_at ho6 rfl ?_ (Nat.zero_le _) (by rw [Array.size_map]; exact Nat.le_trans (Nat.le_of_eq hz') (by (first | lia | omega))))
  rw [hf]
  simp only [bne_self_eq_false, Bool.false_eq_true, if_false]
  exact wpAny_pure hF
theorem sorted_pairs {l : Addr} {T : List (Value × Str)} {Q : Value → Shared → Prop} (hl : s.heap.IsList l (T.map (·.1)).toArray) (ht : ∀ p ∈ T, Tup s.heap p.1 p.2) (hn : (T.map (·.2)).Nodup) (h64 : T.length < 64)
  (h : ∀ T', T'.Perm T → UpT T' → Q (.ref (s.heap.objs.size + 1)) { s with heap := sortedAll s.heap (T.map (·.1)) (T'.map (·.1)).toArray }) : wpAny (model prog w) A (call (.builtin "sorted") [.ref l]) Q E s := by
 refine Calls.call_function_entry kind_sorted plain_sorted entry_sorted (args_sorted1 _) ?_
 unfold Builtin.«sorted»
 refine wpAny_bind (m := checkCount "sorted" 1 1 _) (wpAny_pure ?_)
 have hlen : (T.map (·.1)).length = T.length := List.length_map ..
 have h24 : (16777216 : Nat) = sizeLine := rfl
 refine wpAny_bind (collect_list hl ?_ (by (first | lia | omega)))
 refine wpAny_bind (wpAny_newList ?_)
 have hsz : ((s.heap.push (seqObj "list" #[] 0)).update s.heap.objs.size (Obj.mapSeq (· ++ (T.map (·.1)).toArray))).objs.size = s.heap.objs.size + 1 := by
  rw [Heap.size_update, size_push']
 have hoL : (((s.heap.push (seqObj "list" #[] 0)).update s.heap.objs.size (Obj.mapSeq (· ++ (T.map (·.1)).toArray))).push (seqObj "list" (T.map (·.1)).toArray 0)).get? (s.heap.objs.size + 1) = some (seqObj "list" (T.map (·.1)).toArray 0) := by
  rw [← hsz]; exact Heap.get?_push_size _ rfl
 show wpAny _ _ _ _ _ { s with heap := ((s.heap.push (seqObj "list" #[] 0)).update s.heap.objs.size (Obj.mapSeq (· ++ (T.map (·.1)).toArray))).push (seqObj "list" (T.map (·.1)).toArray 0) }
 rw [hsz]
 refine wpAny_bind (wpAny_holding (wpAny_call_entry slot_list_sort ⟨_, hoL, rfl⟩ entry_list_sort (sort_pairs (h₀ := s.heap) hoL (fun b o e => ?_) ht hn h64 fun T' p u => ⟨_, rfl, wpAny_pure ⟨_, rfl, h T' p u⟩⟩) (args_list_sort _)))
 have hb := Heap.lt_size e
 exact ⟨Heap.get?_push_of_some _ ((Heap.get?_update_other _ _ (Nat.ne_of_gt hb)).trans (Heap.get?_push_of_some _ e)), Nat.ne_of_lt (Nat.lt_succ_of_lt hb)⟩
end
section
variable {h₀ : Bse} {A : Around} {W : List Addr} {ρ : Map} {s : Shared} {σ : Store}
theorem labOf_eq {x : V} {p : Str × V} (h : labOf x = some p) : x = pairV p := by
 obtain ⟨l, h1, h2⟩ := Option.bind_eq_some_iff.mp h
 have e : x = .tup l := by
  cases x with
  | tup l' => exact congrArg V.tup (Option.some.inj h1)
  | _ => exact no_some h1
 subst e
 match l, h2 with
 | [a, q], h2 =>
  obtain ⟨k, h3, rfl⟩ := Option.map_eq_some_iff.mp h2
  cases a with
  | str a => rw [Option.some.inj h3]; rfl
  | _ => exact no_some h3
theorem Rel.pair {h : Heap} {v : Value} {p : Str × V} (r : Rel ρ h v (pairV p)) : Tup h v p.1 := by
 cases r with
 | tup g hl ra => cases ra with
  | cons rk ra => cases rk with
   | str k t hs => exact ⟨_, _, _, _, t, rfl, g, rfl, rfl, rfl⟩
theorem labs_rel {h : Heap} {l : List V} {vs : List Value} (r : RelAll ρ h vs l) : ∀ {ps : List (Str × V)}, allLabs l = some ps → ∃ L : List (Value × (Str × V)), L.map (·.1) = vs ∧ L.map (·.2) = ps ∧ ∀ q ∈ L, Tup h q.1 q.2.1 ∧ Rel ρ h q.1 (pairV q.2) := by
 induction l generalizing vs with
 | nil => intro ps e; cases r; cases e; exact ⟨[], rfl, rfl, fun q hq => absurd hq List.not_mem_nil⟩
 | cons x l ih =>
  intro ps e
  obtain ⟨p, h1, h2⟩ := Option.bind_eq_some_iff.mp e
  obtain ⟨ps', e', rfl⟩ := Option.map_eq_some_iff.mp h2
  have := labOf_eq h1
  subst this
  cases r with
  | @cons v vs _ _ r rs =>
   obtain ⟨L, h1, h2, h3⟩ := ih rs e'
   exact ⟨(v, p) :: L, by rw [List.map_cons, h1], by rw [List.map_cons, h2], List.forall_mem_cons.mpr ⟨⟨r.pair, r⟩, h3⟩⟩
noncomputable def LtP (a b : Str × V) : Prop := strLt a.1 b.1 = true
theorem strLt_chain {a b c : Str} (h1 : strLt a b = true) (h2 : strLt b c = true) : strLt a c = true := by
 unfold strLt at *
 exact decide_eq_true (List.lt_trans (of_decide_eq_true h1) (of_decide_eq_true h2))
theorem putP_perm {x : Str × V} : ∀ {l : List (Str × V)}, (putP x l).Perm (x :: l)
 | [] => .refl _
 | y :: r => by
  unfold putP
  by_cases h : strLt y.1 x.1 = true
  ·rw [if_pos h]; exact (putP_perm.cons y).trans (.swap ..)
  ·rw [if_neg h]
theorem sortP_perm : ∀ {l : List (Str × V)}, (sortP l).Perm l
 | [] => .refl _
 | x :: r => putP_perm.trans (sortP_perm.cons x)
theorem putP_up {x : Str × V} : ∀ {l : List (Str × V)}, l.Pairwise LtP → (∀ y ∈ l, y.1 ≠ x.1) → (putP x l).Pairwise LtP
 | [], _, _ => List.pairwise_singleton _ _
 | y :: r, h, hn => by
  unfold putP
  obtain ⟨h1, h2⟩ := List.pairwise_cons.mp h
  by_cases hl : strLt y.1 x.1 = true
  ·rw [if_pos hl]
   refine List.pairwise_cons.mpr ⟨fun z hz => ?_, putP_up h2 fun z hz => hn z (List.mem_cons_of_mem _ hz)⟩
   rcases List.mem_cons.mp (putP_perm.mem_iff.mp hz) with rfl | hz
   ·exact hl
   ·exact h1 z hz
  ·rw [if_neg hl]
   have hx : strLt x.1 y.1 = true := by
    cases e : strLt x.1 y.1 with
    | true => rfl
    | false => exact absurd (strLt_anti e (by simpa using hl)) (hn y (List.mem_cons_self ..))
   refine List.pairwise_cons.mpr ⟨fun z hz => ?_, h⟩
   rcases List.mem_cons.mp hz with rfl | hz
   ·exact hx
   ·exact strLt_chain hx (h1 z hz)
theorem sortP_up : ∀ {l : List (Str × V)}, (l.map (·.1)).Nodup → (sortP l).Pairwise LtP
 | [], _ => .nil
 | x :: r, h => by
  obtain ⟨h1, h2⟩ := List.nodup_cons.mp h
  exact putP_up (sortP_up h2) fun y hy e => h1 (List.mem_map.mpr ⟨y, sortP_perm.mem_iff.mp hy, e⟩)
theorem relAll_of {h : Heap} : ∀ {L : List (Value × (Str × V))}, (∀ q ∈ L, Rel ρ h q.1 (pairV q.2)) → RelAll ρ h (L.map (·.1)) (L.map fun q => pairV q.2)
 | [], _ => .nil
 | q :: L, hq => .cons (hq q (List.mem_cons_self ..)) (relAll_of fun z hz => hq z (List.mem_cons_of_mem _ hz))
theorem Sim.bSortedP {a : Addr} {vs : List Value} {m : Nat} {l : List V} {ps : List (Str × V)} (i : Inv h₀ σ ρ s.heap) (g : s.heap.get? a = some (listO vs m)) (r : RelAll ρ s.heap vs l) (h64 : l.length < 64) (hp : allLabs l = some ps) (hn : (ps.map (·.1)).Nodup) :
  Sim h₀ A W (call (.builtin "sorted") [.ref a]) (newO (.list ((sortP ps).map pairV)) σ) RV ρ s := by
 obtain ⟨L, rfl, rfl, hL⟩ := labs_rel r hp
 have hmm : ∀ K : List (Value × (Str × V)), (K.map fun q => (q.1, q.2.1)).map (·.1) = K.map (·.1) := fun K => by rw [List.map_map]; rfl
 have hlen := r.length
 rw [List.length_map] at hlen
 refine Sim.newListAt i fun Q E hQ => sorted_pairs (T := L.map fun q => (q.1, q.2.1)) (by rw [hmm]; exact isList_of g) (fun p hp => ?_) (by rw [List.map_map] at hn ⊢; exact hn) (by rw [List.length_map]; (first | lia | omega)) fun T' p u => ?_
 ·obtain ⟨q, hq, rfl⟩ := List.mem_map.mp hp
  exact (hL q hq).1
 ·obtain ⟨L', p', e'⟩ := perm_lift p rfl
  subst e'
  rw [hmm, hmm]
  have hL' : ∀ q ∈ L', Rel ρ s.heap q.1 (pairV q.2) := fun q hq => (hL q (p'.mem_iff.mp hq)).2
  obtain ⟨e, he⟩ := sortedAll_at s.heap (L.map (·.1)) (L'.map (·.1)).toArray
  have hs : L'.map (·.2) = sortP (L.map (·.2)) := by
   refine List.Perm.eq_of_pairwise (le := LtP) (fun a b ya yb h1 h2 => ?_) (List.pairwise_map.mpr ((List.pairwise_map (f := fun q : Value × (Str × V) => (q.1, q.2.1)) (R := fun p q : Value × Str => strLt p.2 q.2 = true)).mp u)) (sortP_up hn) ((p'.map _).trans sortP_perm.symm)
   exact absurd (strLt_total h1) (by rw [show strLt b.1 a.1 = true from h2]; decide)
  have rr : RelAll ρ s.heap (L'.map (·.1)) ((sortP (L.map (·.2))).map pairV) := by
   rw [← hs, List.map_map]; exact relAll_of hL'
  refine hQ _ (L'.map (·.1)) e _ s.toks (fun ya yb => sortedAll_old) ?_ (by simpa [listO, seqObj] using he) (by rw [List.length_map, p'.length_eq]; have : (16777216 : Nat) = sizeLine := rfl; (first | lia | omega)) (rr.sub (Sub.keeps fun ya yb => sortedAll_old))
  cases e1 : s.heap.get? (s.heap.objs.size + 1) with
  | none => rfl
  | some o => exact absurd (Heap.lt_size e1) (Nat.not_lt.mpr (Nat.le_succ _))
theorem Sim.bSorted {a : Value} {x : V} (i : Inv h₀ σ ρ s.heap) (ra : Rel ρ s.heap a x) : Sim h₀ A W (call (.builtin "sorted") [a]) (bSorted x σ) RV ρ s := by
 cases ra with
 | ref er =>
  refine Sim.getList fun l hσ => Sim.ite fun hc => Sim.optThen fun o ho => ?_
  obtain ⟨vs, m, g, hl, r⟩ := i.list hσ er
  unfold sortL at ho
  cases e1 : allStrs l with
  | some ss =>
   rw [e1] at ho
   cases ho
   exact Sim.bSortedS i g r hc e1
  | none =>
   rw [e1] at ho
   dsimp only at ho
   cases e2 : allLabs l with
   | none => rw [e2] at ho; cases ho
   | some ps =>
    rw [e2] at ho
    dsimp only at ho
    by_cases hn : (ps.map (·.1)).Nodup
    ·rw [if_pos hn] at ho
     cases ho
     exact Sim.bSortedP i g r hc e2 hn
    ·rw [if_neg hn] at ho; cases ho
 | _ => exact trivial
end
end Mine.Internal

set_option backward.match.sparseCases false
namespace Mine.Internal
open PySem PyProof.Rows
structure FdOk (fd : FuncData) (f : Fn) : Prop where
 body : fd.body = .stmts f.body
 names : fd.scope.names = f.names
 kind : fd.scope.kind = .function
 co : fd.scope.isCoroutine = false
 gen : fd.scope.isGenerator = false
 clo : fd.closure = []
 globals : fd.globals = mainGlobals
 blts : fd.builtins = builtinsNs
 binds : ∀ vals : List Value, vals.length = f.params.length → bindArgs fd ⟨vals, []⟩ = pure (f.params.zip vals)
 pkind : ∀ x ∈ f.params, f.names.lookup x = some .local ∨ f.names.lookup x = some .cell
 nodup : f.params.Nodup
noncomputable def bltNames : List Str := ["len", "list", "tuple", "isinstance", "bool", "int", "str", "range", "enumerate", "sorted", "sum", "all", "max", "min", "dict", "zip", "reversed", "set", "ValueError"]
noncomputable def FnIs (h : Heap) (fn : Fn) (a : Addr) : Prop := ∃ o fd, h.get? a = some o ∧ o.data = .func fd ∧ FdOk fd fn ∧ h.CodeRec fd.code fd.qualname
structure OwnCls (tx : Tabs) (h : Heap) (c : Str) (ms : List Str × List Str) (C N : Addr) (mN : Str → Option Value) : Prop where
 cls : ClsAt h C N mN
 sa : mN "__setattr__" = none
 ga : mN "__getattribute__" = none
 gh : mN "__getattr__" = none
 fld : ∀ f ∈ ms.2, mN f = none ∧ typeLookup (.type "object") f = pure none
 init : ("__init__" : Str) ∈ ms.1
 meth : ∀ m ∈ ms.1, ∃ a fn o, mN m = some (.ref a) ∧ tx.at (methName c m) = some fn ∧ FnIs h fn a ∧ h.get? a = some o ∧ o.cls = .type "function"
structure Base (tx : Tabs) (mg mb : Str → Option Value) (h₀ : Heap) : Prop where
 g : h₀.Ns mainGlobals mg
 b : h₀.Ns builtinsNs mb
 nolimit : h₀.NoLimit
 fn : ∀ f fn, tx.fns f = some fn → ∃ a, mg f = some (.ref a) ∧ FnIs h₀ fn a
 own : ∀ c ms, tx.cls c = some ms → ∃ C N mN, mg c = some (.ref C) ∧ OwnCls tx h₀ c ms C N mN
 blt : ∀ f ∈ bltNames, tx.fns f = none → mg f = none ∧ mb f = bootBuiltins f
 const : ∀ x v, tx.glob x = some v → ∃ val, mg x = some val ∧ ∀ ρ h, Rel ρ h val v
 cls : ∀ c us, tx.ups c = some us → ∃ C bm, mg c = some (.ref C) ∧ XCls h₀ C bm ∧ (Value.ref C :: bm).contains (.type "ValueError") = us.contains "ValueError" ∧ ∀ t ut D, tx.ups t = some ut → mg t = some (.ref D) → (Value.ref C :: bm).contains (.ref D) = us.contains t
section
variable {h₀ : Bse} {A : Around} {W : List Addr} {ρ : Map} {s : Shared} {σ : Store} {tx : Tabs} {mg mb : Str → Option Value}
variable {env : Env} {ns : Names} {loc : Loc} {C : Cfg} {n : Nat}
theorem Frm.kindOf (F : Frm h₀ env ns loc ρ s.heap) {x : Str} {i : Nat} {k : NameKind} (h : slot ns x = some (i, k)) : env.kindOf x = some k := by
 show env.scope.names.lookup x = some k
 rw [F.names]; exact slot_lookup h
theorem Frm.ext0 {ρ' : Map} {h h' : Heap} (F : Frm h₀ env ns loc ρ h) (x : Ext [] ρ h ρ' h') : Frm h₀ env ns loc ρ' h' := F.ext x fun ya hm => nomatch hm
theorem isGlob_slot {x : Str} (h : isGlob ns x = true) : (∃ i, slot ns x = some (i, .globalImplicit)) ∧ (x == ("__debug__" : Str)) = false := by
 unfold isGlob at h
 split at h
 ·exact ⟨⟨_, by assumption⟩, by simpa using h⟩
 ·cases h
theorem Sim.ldLoc {i : Nat} {t : Sem Value} (h : ∀ v, loc[i]? = some (some v) → Sim h₀ A W t (.ok v σ) RV ρ s) : Sim h₀ A W t (ldLoc loc i σ) RV ρ s := by
 refine Sim.ofOpt fun v hv => h v ?_
 cases e : loc[i]? with
 | none => rw [e] at hv; cases hv
 | some o => rw [e] at hv; cases o with
  | none => cases hv
  | some u => cases hv; rfl
theorem Sim.name {x : Str} {pos : Pos} (B : Base tx mg mb h₀.heap) (hg : C.glob = tx.glob) (F : Frm h₀ env ns loc ρ s.heap) (i : Inv h₀ σ ρ s.heap) :
  Sim h₀ A W (eval (.Name x pos) env) (ev C (.Name x pos) ns loc σ) RV ρ s := by
 show Sim h₀ A W _ ((if x = ("__debug__" : Str) then M.bad else ldName C ns x loc) σ) RV ρ s
 by_cases hx : x = ("__debug__" : Str)
 ·rw [if_pos hx]; exact trivial
 ·rw [if_neg hx]
  have hd : (x == ("__debug__" : Str)) = false := by simpa using hx
  cases hs : slot ns x with
  | none => unfold ldName; rw [hs]; exact trivial
  | some p =>
   obtain ⟨j, k⟩ := p
   cases k with
   | «local» =>
    have e : ldName C ns x loc = Mine.Internal.ldLoc loc j := by unfold ldName; rw [hs]
    rw [e]
    refine Sim.ldLoc fun v hv => ?_
    obtain ⟨m, hn, hl⟩ := F.vars
    obtain ⟨val, hm, r⟩ := hl x j v hs hv
    exact Sim.same i fun Q E hQ => wpAny_Name (wpAny_loadName_local F.kind (F.kindOf hs) hn hm (hQ _ s.toks r)) hd
   | cell =>
    have e : ldName C ns x loc = Mine.Internal.ldLoc loc j := by unfold ldName; rw [hs]
    rw [e]
    refine Sim.ldLoc fun v hv => ?_
    obtain ⟨c, o, hc, hcell, hl⟩ := F.cell x j hs
    obtain ⟨val, rfl, r⟩ := hl v hv
    exact Sim.same i fun Q E hQ => wpAny_Name (wpAny_loadName_cell F.kind (F.kindOf hs) hc hcell (hQ _ s.toks r)) hd
   | free => unfold ldName; rw [hs]; exact trivial
   | globalImplicit =>
    have e : ldName C ns x loc = Mine.Internal.ofOpt (C.glob x) := by unfold ldName; rw [hs]
    rw [e, hg]
    refine Sim.ofOpt fun v hv => ?_
    obtain ⟨val, hm, r⟩ := B.const x v hv
    exact Sim.same i fun Q E hQ => Calls.Name_function_global F.kind (F.kindOf hs) (Calls.loadGlobal_global (by rw [F.globals]; exact B.g.keeps i.base) hm (hQ _ s.toks (r _ _))) hd
   | globalExplicit => unfold ldName; rw [hs]; exact trivial
theorem wp_global {x : Str} {pos : Pos} {v : Value} {Q : Value → Shared → Prop} {E : Value → Shared → Prop} (B : Base tx mg mb h₀.heap) (F : Frm h₀ env ns loc ρ s.heap) (i : Inv h₀ σ ρ s.heap) (hx : isGlob ns x = true) (hv : mg x = some v) (h : Q v s) :
  wpAny (model h₀.prog h₀.w) A (eval (.Name x pos) env) Q E s := by
 obtain ⟨⟨j, hs⟩, hd⟩ := isGlob_slot hx
 exact Calls.Name_function_global F.kind (F.kindOf hs) (Calls.loadGlobal_global (by rw [F.globals]; exact B.g.keeps i.base) hv h) hd
theorem wp_builtin {x : Str} {pos : Pos} {v : Value} {Q : Value → Shared → Prop} {E : Value → Shared → Prop} (B : Base tx mg mb h₀.heap) (F : Frm h₀ env ns loc ρ s.heap) (i : Inv h₀ σ ρ s.heap) (hx : isGlob ns x = true) (hn : x ∈ bltNames) (hf : tx.fns x = none)
  (hv : bootBuiltins x = some v) (h : Q v s) : wpAny (model h₀.prog h₀.w) A (eval (.Name x pos) env) Q E s := by
 obtain ⟨⟨j, hs⟩, hd⟩ := isGlob_slot hx
 obtain ⟨h1, h2⟩ := B.blt x hn hf
 exact Calls.Name_function_global F.kind (F.kindOf hs) (Calls.loadGlobal_builtin (by rw [F.globals]; exact B.g.keeps i.base) h1 (by rw [F.blts]; exact B.b.keeps i.base) (h2.trans hv) h) hd
theorem Sim.wrap {α β : Type} {t t' : Sem β} {r : Res α} {R : α → Map → Heap → β → Prop} (hw : ∀ (Q : β → Shared → Prop) (E : Value → Shared → Prop), wpAny (model h₀.prog h₀.w) A t Q E s → wpAny (model h₀.prog h₀.w) A t' Q E s)
  (h : Sim h₀ A W t r R ρ s) : Sim h₀ A W t' r R ρ s := by
 cases r with
 | bad => exact trivial
 | exc _ _ => exact hw _ _ h
 | ok a σ' => exact hw _ _ h
theorem Sim.operate {vs : List Value} {t : Sem Value} {r : Res V} {R : V → Map → Heap → Value → Prop} (h : Sim h₀ A W t r R ρ s) : Sim h₀ A W (PySem.operate vs t) r R ρ s :=
 Sim.wrap (fun ya yb => wpAny_operating) h
theorem Sim.behind {α : Type} {t : Sem Value} {f : Value → Sem PUnit} {r : Res α} {R : α → Map → Heap → Value → Prop} (hf : ∀ v (s' : Shared) (Q : PUnit → Shared → Prop) (E : Value → Shared → Prop), Q ⟨⟩ s' → wpAny (model h₀.prog h₀.w) A (f v) Q E s')
  (h : Sim h₀ A W t r R ρ s) : Sim h₀ A W (t >>= fun v => f v >>= fun ya => Pure.pure v) r R ρ s := by
 cases r with
 | bad => exact trivial
 | exc _ _ => exact wpAny_bind (wpAny_mono h (fun ya yb f => f.elim) fun ya yb x => x)
 | ok a σ' => exact wpAny_bind (wpAny_mono h (fun v s' hp => wpAny_bind (hf v s' _ _ (wpAny_pure hp))) fun ya yb x => x)
variable (h₀ C n) in
noncomputable def EvS (e : Expr) : Prop := ∀ (env : Env) (ns : Names) (loc : Loc) (σ : Store) (ρ : Map) (s : Shared) (A : Around), Rm h₀ A n C.calm → Frm h₀ env ns loc ρ s.heap → Inv h₀ σ ρ s.heap →
 Sim h₀ A [] (eval e env) (ev C e ns loc σ) RV ρ s
variable (h₀ C n) in
noncomputable def TstS (e : Expr) : Prop := ∀ (env : Env) (ns : Names) (loc : Loc) (σ : Store) (ρ : Map) (s : Shared) (A : Around), Rm h₀ A n C.calm → Frm h₀ env ns loc ρ s.heap → Inv h₀ σ ρ s.heap →
 Sim h₀ A [] (isTrue e env (eval e env)) (tst C e ns loc (ev C e ns loc) σ) RB ρ s
variable (h₀ C n) in
noncomputable def EvsS (es : List Expr) : Prop := ∀ (env : Env) (ns : Names) (loc : Loc) (σ : Store) (ρ : Map) (s : Shared) (A : Around) (pos : Pos), Rm h₀ A n C.calm → Frm h₀ env ns loc ρ s.heap → Inv h₀ σ ρ s.heap →
 Sim h₀ A [] (spliced (backTo pos (starEach es env))) (evs C es ns loc σ) RL ρ s
theorem Rm.u {A : Around} {q : Bool} (h : Rm h₀ A n q) : A.units + 201 < cLine := by have := h.units; (first | lia | omega)
theorem ev_const {c : Const} {k : Nat} {pos : Pos} : EvS h₀ C n (.Constant c k pos) := fun env ns loc σ ρ s A hA F i => by
 show Sim h₀ A [] (constValue env c) (constV c σ) RV ρ s
 cases c with
 | none => exact Sim.ret i .none
 | bool b => exact Sim.ret i (.bool b)
 | int z => exact Sim.same i fun Q E hQ => wpAny_mkInt (hQ _ _ (.int _ _))
 | str x => exact Sim.ite fun hc => Sim.same i fun Q E hQ => wpAny_mkText (hQ _ _ (.str _ _ hc))
 | float _ => exact trivial
 | complex _ _ => exact trivial
 | bytes _ => exact trivial
 | ellipsis => exact trivial
theorem ev_binop {l r : Expr} {op : Operator} {pos : Pos} (hl : EvS h₀ C n l) (hr : EvS h₀ C n r) : EvS h₀ C n (.BinOp l op r pos) := fun env ns loc σ ρ s A hA F i => by
 rw [arm_eval_BinOp]
 show Sim h₀ A [] _ ((ev C l ns loc >>= fun a => ev C r ns loc >>= fun b => binop op a b) σ) RV ρ s
 refine Sim.bind (hl env ns loc σ ρ s A hA F i) fun a σ₁ ρ₁ H₁ tk₁ va i₁ x₁ r₁ => ?_
 refine Sim.bind (Sim.holding (hr env ns loc σ₁ ρ₁ _ A hA (F.ext0 x₁) i₁)) fun b σ₂ ρ₂ H₂ tk₂ vb i₂ x₂ r₂ => ?_
 exact Sim.standAt (Sim.operate (Sim.binop i₂ (r₁.ext x₂) r₂))
theorem ev_not {x : Expr} {pos : Pos} (hx : EvS h₀ C n x) : EvS h₀ C n (.UnaryOp .Not x pos) := fun env ns loc σ ρ s A hA F i => by
 rw [arm_eval_UnaryOp]
 show Sim h₀ A [] _ ((ev C x ns loc >>= fun a => truth a >>= fun t => pure (V.bool (!t))) σ) RV ρ s
 refine Sim.bind (hx env ns loc σ ρ s A hA F i) fun a σ₁ ρ₁ H₁ tk₁ va i₁ x₁ r₁ => ?_
 refine Sim.standAt (Sim.holding ?_)
 have := Sim.truth (h₀ := h₀) (A := A) (W := []) (s := (At s H₁ tk₁)) i₁ r₁
 cases e : truth a σ₁ with
 | bad => rw [bind_bad e]; exact trivial
 | exc v σ' => rw [bind_exc e]; rw [e] at this; exact not_value (wpAny_mono this (fun ya yb f => f.elim) fun ya yb x => x)
 | ok b σ' =>
  rw [bind_ok e]
  rw [e] at this
  refine not_value (wpAny_mono this (fun b' s' hp => ?_) fun ya yb x => x)
  exact hp.mono fun ρ' h' e => by cases e; exact .bool _
theorem ev_usub {z : Int} {k : Nat} {p pos : Pos} : EvS h₀ C n (.UnaryOp .USub (.Constant (.int z) k p) pos) := fun env ns loc σ ρ s A hA F i => by
 show Sim h₀ A [] _ ((pure (V.int (-z)) : M V) σ) RV ρ s
 exact Sim.same i fun Q E hQ => wpAny_UnaryOp (wpAny_Constant_int (neg_int (hQ _ _ (.int _ _))))
theorem markedBehindIn_sim {op : CmpOp} {r : Expr} {t : Sem Value} {res : Res V} (hr : ∀ es k p, r ≠ .Set es k p) (h : Sim h₀ A W t res RV ρ s) : Sim h₀ A W (markedBehindIn op r t) res RV ρ s := by
 have e : behindInMarks op r = false := by cases r <;> first | rfl | exact absurd rfl (hr _ _ _)
 rw [markedBehindIn_of_false e]; exact h
theorem ev_set {es : List Expr} {k : Nat} {p : Pos} : ev C (.Set es k p) ns loc = M.bad := rfl
theorem ev_compare {l r : Expr} {op : CmpOp} {pos : Pos} (hl : EvS h₀ C n l) (hr : EvS h₀ C n r) : EvS h₀ C n (.Compare l [op] [r] pos) := fun env ns loc σ ρ s A hA F i => by
 rw [eval_Compare1]
 show Sim h₀ A [] _ ((ev C l ns loc >>= fun a => ev C r ns loc >>= fun b => cmp op a b) σ) RV ρ s
 refine Sim.bind (hl env ns loc σ ρ s A hA F i) fun a σ₁ ρ₁ H₁ tk₁ va i₁ x₁ r₁ => ?_
 by_cases hset : ∃ es k p, r = .Set es k p
 ·obtain ⟨es, k, p, rfl⟩ := hset
  rw [ev_set, bind_bad rfl]; exact trivial
 ·refine Sim.bind (Sim.holding (markedBehindIn_sim (fun es k p e => hset ⟨es, k, p, e⟩) (hr env ns loc σ₁ ρ₁ _ A hA (F.ext0 x₁) i₁))) fun b σ₂ ρ₂ H₂ tk₂ vb i₂ x₂ r₂ => ?_
  exact Sim.standAt (Sim.operate (Sim.cmp i₂ hA.u (r₁.ext x₂) r₂))
theorem tst_value {e : Expr} (he : EvS h₀ C n e) (h1 : ∀ (ns : Names) (loc : Loc) (whole : M V), tst C e ns loc whole = (whole >>= fun v => truth v)) (h2 : ∀ (env : Env) (whole : Sem Value), isTrue e env whole = (do let v ← whole; standAt e.pos; holding [v] (truthy v))) :
  TstS h₀ C n e := fun env ns loc σ ρ s A hA F i => by
 rw [h1, h2]
 refine Sim.bind (he env ns loc σ ρ s A hA F i) fun a σ₁ ρ₁ H₁ tk₁ va i₁ x₁ r₁ => ?_
 exact Sim.standAt (Sim.holding (Sim.truth i₁ r₁))
theorem tst_compare {l r : Expr} {op : CmpOp} {pos : Pos} (hl : EvS h₀ C n l) (hr : EvS h₀ C n r) : TstS h₀ C n (.Compare l [op] [r] pos) := fun env ns loc σ ρ s A hA F i => by
 rw [isTrue_Compare1]
 show Sim h₀ A [] _ (((ev C l ns loc >>= fun a => ev C r ns loc >>= fun b => cmp op a b) >>= fun v => truth v) σ) RB ρ s
 rw [M.assoc]
 refine Sim.bind (hl env ns loc σ ρ s A hA F i) fun a σ₁ ρ₁ H₁ tk₁ va i₁ x₁ r₁ => ?_
 rw [M.assoc]
 by_cases hset : ∃ es k p, r = .Set es k p
 ·obtain ⟨es, k, p, rfl⟩ := hset
  rw [ev_set, bind_bad rfl]; exact trivial
 ·refine Sim.bind (Sim.holding (markedBehindIn_sim (fun es k p e => hset ⟨es, k, p, e⟩) (hr env ns loc σ₁ ρ₁ _ A hA (F.ext0 x₁) i₁))) fun b σ₂ ρ₂ H₂ tk₂ vb i₂ x₂ r₂ => ?_
  refine Sim.standAt (Sim.bind (Sim.operate (Sim.cmp i₂ hA.u (r₁.ext x₂) r₂)) fun c σ₃ ρ₃ H₃ tk₃ vc i₃ x₃ r₃ => ?_)
  exact Sim.holding (Sim.truth i₃ r₃)
theorem ev_chain {l m r : Expr} {op op2 : CmpOp} {pos : Pos} (hl : EvS h₀ C n l) (hm : EvS h₀ C n m) (hr : EvS h₀ C n r) : EvS h₀ C n (.Compare l [op, op2] [m, r] pos) := fun env ns loc σ ρ s A hA F i => by
 have e : eval (.Compare l [op, op2] [m, r] pos) env = (eval l env >>= fun va => holding [va] (eval m env) >>= fun vb => PySem.standAt pos >>= fun ya => holding [va, vb] (compareOp op va vb) >>= fun c => release [va, vb] [c] >>= fun ya => holding [c, vb] (truthy c) >>= fun t =>
  if t = true then (holding [vb] (markedBehindIn op2 r (eval r env)) >>= fun vc => PySem.standAt pos >>= fun ya => operate [vb, vc] (compareOp op2 vb vc)) else Pure.pure c) := rfl
 rw [e]
 show Sim h₀ A [] _ ((ev C l ns loc >>= fun a => ev C m ns loc >>= fun b => cmp op a b >>= fun x => boolK x (ev C r ns loc >>= fun c => cmp op2 b c) (pure (.bool false))) σ) RV ρ s
 refine Sim.bind (hl env ns loc σ ρ s A hA F i) fun a σ₁ ρ₁ H₁ tk₁ va i₁ x₁ r₁ => ?_
 refine Sim.bind (Sim.holding (hm env ns loc σ₁ ρ₁ _ A hA (F.ext0 x₁) i₁)) fun b σ₂ ρ₂ H₂ tk₂ vb i₂ x₂ r₂ => Sim.standAt ?_
 refine Sim.bind (Sim.holding (Sim.cmp i₂ hA.u (r₁.ext x₂) r₂)) fun c σ₃ ρ₃ H₃ tk₃ vc i₃ x₃ r₃ => ?_
 refine Sim.ahead (fun Q E hq => wpAny_release hq) ?_
 cases r₃ with
 | bool t =>
  refine Sim.first (fun Q E hq => wpAny_holding (wpAny_truthy_bool hq)) ?_
  cases t with
  | false => exact Sim.ret i₃ (.bool _)
  | true =>
   show Sim h₀ A [] _ ((ev C r ns loc >>= fun c => cmp op2 b c) σ₃) RV ρ₃ _
   by_cases hset : ∃ es k p, r = .Set es k p
   ·obtain ⟨es, k, p, rfl⟩ := hset
    rw [ev_set, bind_bad rfl]; exact trivial
   ·refine Sim.bind (Sim.holding (markedBehindIn_sim (fun es k p e => hset ⟨es, k, p, e⟩) (hr env ns loc σ₃ ρ₃ _ A hA (((F.ext0 x₁).ext0 x₂).ext0 x₃) i₃))) fun d σ₅ ρ₅ H₅ tk₅ vd i₅ x₅ r₅ => ?_
    exact Sim.standAt (Sim.operate (Sim.cmp i₅ hA.u ((r₂.ext x₃).ext x₅) r₅))
 | _ => exact trivial
theorem tst_chain {l m r : Expr} {op op2 : CmpOp} {pos : Pos} (hl : EvS h₀ C n l) (hm : EvS h₀ C n m) (hr : EvS h₀ C n r) : TstS h₀ C n (.Compare l [op, op2] [m, r] pos) := fun env ns loc σ ρ s A hA F i => by
 have e : ∀ whole, isTrue (.Compare l [op, op2] [m, r] pos) env whole = (eval l env >>= fun va => holding [va] (eval m env) >>= fun vb => PySem.standAt pos >>= fun ya => holding [va, vb] (compareOp op va vb) >>= fun c => release [va, vb] [c] >>= fun ya => holding [c, vb] (truthy c) >>= fun t =>
  if t = true then (holding [vb] (markedBehindIn op2 r (eval r env)) >>= fun vc => PySem.standAt pos >>= fun ya => operate [vb, vc] (compareOp op2 vb vc) >>= fun c => holding [c] (truthy c)) else Pure.pure false) := fun ya => rfl
 rw [e]
 show Sim h₀ A [] _ (((ev C l ns loc >>= fun a => ev C m ns loc >>= fun b => cmp op a b >>= fun x => boolK x (ev C r ns loc >>= fun c => cmp op2 b c) (pure (.bool false))) >>= fun v => truth v) σ) RB ρ s
 rw [M.assoc]
 refine Sim.bind (hl env ns loc σ ρ s A hA F i) fun a σ₁ ρ₁ H₁ tk₁ va i₁ x₁ r₁ => ?_
 rw [M.assoc]
 refine Sim.bind (Sim.holding (hm env ns loc σ₁ ρ₁ _ A hA (F.ext0 x₁) i₁)) fun b σ₂ ρ₂ H₂ tk₂ vb i₂ x₂ r₂ => Sim.standAt ?_
 rw [M.assoc]
 refine Sim.bind (Sim.holding (Sim.cmp i₂ hA.u (r₁.ext x₂) r₂)) fun c σ₃ ρ₃ H₃ tk₃ vc i₃ x₃ r₃ => ?_
 refine Sim.ahead (fun Q E hq => wpAny_release hq) ?_
 cases r₃ with
 | bool t =>
  refine Sim.first (fun Q E hq => wpAny_holding (wpAny_truthy_bool hq)) ?_
  cases t with
  | false => exact Sim.ret i₃ rfl
  | true =>
   show Sim h₀ A [] _ (((ev C r ns loc >>= fun c => cmp op2 b c) >>= fun v => truth v) σ₃) RB ρ₃ _
   rw [M.assoc]
   by_cases hset : ∃ es k p, r = .Set es k p
   ·obtain ⟨es, k, p, rfl⟩ := hset
    rw [ev_set, bind_bad rfl]; exact trivial
   ·refine Sim.bind (Sim.holding (markedBehindIn_sim (fun es k p e => hset ⟨es, k, p, e⟩) (hr env ns loc σ₃ ρ₃ _ A hA (((F.ext0 x₁).ext0 x₂).ext0 x₃) i₃))) fun d σ₅ ρ₅ H₅ tk₅ vd i₅ x₅ r₅ => Sim.standAt ?_
    refine Sim.bind (Sim.operate (Sim.cmp i₅ hA.u ((r₂.ext x₃).ext x₅) r₅)) fun c σ₆ ρ₆ H₆ tk₆ vc i₆ x₆ r₆ => ?_
    exact Sim.holding (Sim.truth i₆ r₆)
 | _ => exact trivial
theorem ev_dict0 {pos : Pos} (hN : h₀.heap.NoLimit) : EvS h₀ C n (.Dict [] [] pos) := fun env ns loc σ ρ s A hA F i => by
 rw [eval_Dict_empty]
 refine Sim.standAt (Sim.newDictAt i fun Q E hQ => wpAny_newObj_type (T := "dict") (hQ _ [] _ _ (fun ya yb e => Heap.get?_push_of_some _ e) fresh_none (big hN i) (Heap.DictOf.new s.heap) (Nat.zero_le _) .nil) ?_)
 exact Nat.zero_le _
end
end Mine.Internal

set_option backward.match.sparseCases false
namespace Mine.Internal
open PySem PyProof.Rows
section
variable {h₀ : Bse} {A : Around} {W : List Addr} {ρ : Map} {s : Shared} {σ : Store} {tx : Tabs} {mg mb : Str → Option Value}
variable {env : Env} {ns : Names} {loc : Loc} {C : Cfg} {n : Nat}
theorem Sim.cond {α β : Type} {t : Sem Bool} {f g : Sem β} {m : M Bool} {k l : M α} {R : α → Map → Heap → β → Prop} (h : Sim h₀ A W t (m σ) RB ρ s)
  (h1 : ∀ σ₁ ρ₁ H tk, Inv h₀ σ₁ ρ₁ H → Ext W ρ s.heap ρ₁ H → Sim h₀ A W f (k σ₁) R ρ₁ (At s H tk))
  (h2 : ∀ σ₁ ρ₁ H tk, Inv h₀ σ₁ ρ₁ H → Ext W ρ s.heap ρ₁ H → Sim h₀ A W g (l σ₁) R ρ₁ (At s H tk)) :
  Sim h₀ A W (t >>= fun b => if b = true then f else g) ((m >>= fun b => M.cond b k l) σ) R ρ s := by
 refine Sim.bind h fun b σ₁ ρ₁ H tk b' i x r => ?_
 cases r
 cases b with
 | true => exact h1 σ₁ ρ₁ H tk i x
 | false => exact h2 σ₁ ρ₁ H tk i x
theorem ev_ifexp {t a b : Expr} {pos : Pos} (ht : TstS h₀ C n t) (ha : EvS h₀ C n a) (hb : EvS h₀ C n b) : EvS h₀ C n (.IfExp t a b pos) := fun env ns loc σ ρ s A hA F i => by
 rw [arm_eval_IfExp]
 exact Sim.cond (ht env ns loc σ ρ s A hA F i) (fun σ₁ ρ₁ H tk i₁ x₁ => ha env ns loc σ₁ ρ₁ _ A hA (F.ext0 x₁) i₁) (fun σ₁ ρ₁ H tk i₁ x₁ => hb env ns loc σ₁ ρ₁ _ A hA (F.ext0 x₁) i₁)
theorem tst_ifexp {t a b : Expr} {pos : Pos} (ht : TstS h₀ C n t) (ha : TstS h₀ C n a) (hb : TstS h₀ C n b) : TstS h₀ C n (.IfExp t a b pos) := fun env ns loc σ ρ s A hA F i => by
 rw [arm_isTrue_IfExp]
 exact Sim.cond (ht env ns loc σ ρ s A hA F i) (fun σ₁ ρ₁ H tk i₁ x₁ => ha env ns loc σ₁ ρ₁ _ A hA (F.ext0 x₁) i₁) (fun σ₁ ρ₁ H tk i₁ x₁ => hb env ns loc σ₁ ρ₁ _ A hA (F.ext0 x₁) i₁)
theorem tst_not {x : Expr} {pos : Pos} (hx : TstS h₀ C n x) : TstS h₀ C n (.UnaryOp .Not x pos) := fun env ns loc σ ρ s A hA F i => by
 rw [arm_isTrue_UnaryOp]
 refine Sim.bind (hx env ns loc σ ρ s A hA F i) fun b σ₁ ρ₁ H tk b' i₁ x₁ r => ?_
 cases r
 exact Sim.ret i₁ rfl
variable (h₀ C n) in
noncomputable def TstAllS (es : List Expr) : Prop := ∀ (op : BoolOp) (env : Env) (ns : Names) (loc : Loc) (σ : Store) (ρ : Map) (s : Shared) (A : Around), Rm h₀ A n C.calm → Frm h₀ env ns loc ρ s.heap → Inv h₀ σ ρ s.heap →
 Sim h₀ A [] (allTrue op es env) (tstAll C es op ns loc σ) RB ρ s
variable (h₀ C n) in
noncomputable def EvBoolS (es : List Expr) : Prop := ∀ (op : BoolOp) (pos : Pos) (env : Env) (ns : Names) (loc : Loc) (σ : Store) (ρ : Map) (s : Shared) (A : Around), Rm h₀ A n C.calm → Frm h₀ env ns loc ρ s.heap → Inv h₀ σ ρ s.heap →
 Sim h₀ A [] (boolOp pos op (evalEach es env)) (evBool C es op ns loc σ) RV ρ s
theorem tstAll_nil : TstAllS h₀ C n [] := fun op env ns loc σ ρ s A hA F i => Sim.ret i rfl
theorem tstAll_cons {e : Expr} {r : List Expr} (he : TstS h₀ C n e) (hr : TstAllS h₀ C n r) : TstAllS h₀ C n (e :: r) := fun op env ns loc σ ρ s A hA F i => by
 rw [arm_allTrue_cons]
 refine Sim.bind (he env ns loc σ ρ s A hA F i) fun b σ₁ ρ₁ H tk b' i₁ x₁ e => ?_
 cases e
 cases op <;> cases b
 ·exact Sim.ret i₁ rfl
 ·exact hr _ env ns loc σ₁ ρ₁ _ A hA (F.ext0 x₁) i₁
 ·exact hr _ env ns loc σ₁ ρ₁ _ A hA (F.ext0 x₁) i₁
 ·exact Sim.ret i₁ rfl
theorem tst_boolop {op : BoolOp} {es : List Expr} {pos : Pos} (h : TstAllS h₀ C n es) : TstS h₀ C n (.BoolOp op es pos) := fun env ns loc σ ρ s A hA F i => by
 rw [arm_isTrue_BoolOp]; exact h op env ns loc σ ρ s A hA F i
theorem evBool_nil : EvBoolS h₀ C n [] := fun op pos env ns loc σ ρ s A hA F i => trivial
theorem evBool_cons {e : Expr} {r : List Expr} (he : EvS h₀ C n e) (hr : EvBoolS h₀ C n r) : EvBoolS h₀ C n (e :: r) := fun op pos env ns loc σ ρ s A hA F i => by
 cases r with
 | nil =>
  exact he env ns loc σ ρ s A hA F i
 | cons e2 r =>
  rw [arm_evalEach_cons, arm_evalEach_cons]
  refine Sim.bind (he env ns loc σ ρ s A hA F i) fun a σ₁ ρ₁ H₁ tk₁ va i₁ x₁ r₁ => ?_
  refine Sim.standAt (Sim.bind (Sim.holding (Sim.truth i₁ r₁)) fun b σ₂ ρ₂ H₂ tk₂ b' i₂ x₂ e => ?_)
  cases e
  have hh := hr op pos env ns loc σ₂ ρ₂ (At s H₂ tk₂) A hA ((F.ext0 x₁).ext0 x₂) i₂
  rw [arm_evalEach_cons] at hh
  cases op <;> cases b
  ·exact Sim.ret i₂ (r₁.ext x₂)
  ·exact hh
  ·exact hh
  ·exact Sim.ret i₂ (r₁.ext x₂)
theorem ev_boolop {op : BoolOp} {es : List Expr} {pos : Pos} (h : EvBoolS h₀ C n es) : EvS h₀ C n (.BoolOp op es pos) := fun env ns loc σ ρ s A hA F i => by
 rw [arm_eval_BoolOp]; exact h op pos env ns loc σ ρ s A hA F i
theorem starEach_cons {e : Expr} {r : List Expr} (h : ∀ v p, e ≠ .Starred v p) : starEach (e :: r) env = (false, eval e env) :: starEach r env := by
 cases e <;> first | rfl | exact absurd rfl (h _ _)
theorem evs_nil : EvsS h₀ C n [] := fun env ns loc σ ρ s A pos hA F i => Sim.ret i .nil
theorem evs_cons {e : Expr} {r : List Expr} (he : EvS h₀ C n e) (hr : EvsS h₀ C n r) : EvsS h₀ C n (e :: r) := fun env ns loc σ ρ s A pos hA F i => by
 show Sim h₀ A [] _ ((ev C e ns loc >>= fun v => evs C r ns loc >>= fun vs => pure (v :: vs)) σ) RL ρ s
 by_cases hst : ∃ v p, e = .Starred v p
 ·obtain ⟨v, p, rfl⟩ := hst
  have : ev C (.Starred v p) ns loc σ = .bad := rfl
  rw [bind_bad this]; exact trivial
 ·rw [starEach_cons (fun v p e' => hst ⟨v, p, e'⟩)]
  show Sim h₀ A [] (spliced ((false, eval e env) :: backTo pos (starEach r env))) _ RL ρ s
  have e : spliced ((false, eval e env) :: backTo pos (starEach r env)) = (eval e env >>= fun v => holding [v] (spliced (backTo pos (starEach r env))) >>= fun vs => Pure.pure (v :: vs)) := rfl
  rw [e]
  refine Sim.bind (he env ns loc σ ρ s A hA F i) fun a σ₁ ρ₁ H₁ tk₁ va i₁ x₁ r₁ => ?_
  refine Sim.bind (Sim.holding (hr env ns loc σ₁ ρ₁ _ A pos hA (F.ext0 x₁) i₁)) fun b σ₂ ρ₂ H₂ tk₂ vb i₂ x₂ r₂ => ?_
  exact Sim.ret i₂ (.cons (r₁.ext x₂) r₂)
theorem ev_list {es : List Expr} {pos : Pos} (h : EvsS h₀ C n es) : EvS h₀ C n (.List es pos) := fun env ns loc σ ρ s A hA F i => by
 rw [arm_eval_List]
 refine Sim.standAt (Sim.bind (h env ns loc σ ρ s A pos hA F i) fun l σ₁ ρ₁ H₁ tk₁ vs i₁ x₁ r₁ => ?_)
 exact Sim.ite fun hc => Sim.newList i₁ r₁ hc
theorem ev_tuple {es : List Expr} {k : Nat} {pos : Pos} (h : EvsS h₀ C n es) : EvS h₀ C n (.Tuple es k pos) := fun env ns loc σ ρ s A hA F i => by
 rw [arm_eval_Tuple]
 refine Sim.standAt (Sim.bind (h env ns loc σ ρ s A pos hA F i) fun l σ₁ ρ₁ H₁ tk₁ vs i₁ x₁ r₁ => ?_)
 exact Sim.ite fun hc => Sim.newTuple i₁ r₁ hc
noncomputable def CanGet (σ : Store) (x : V) : Prop := (∃ l, x = .tup l) ∨ (∃ t, x = .str t) ∨ ∃ m, x = .ref m ∧ ((∃ l, σ[m]? = some (.list l)) ∨ ∃ v l, σ[m]? = some (.dict v l))
theorem getitem_plain {v : Value} {x : V} {Q : Bool → Shared → Prop} {E : Value → Shared → Prop} (i : Inv h₀ σ ρ s.heap) (r : Rel ρ s.heap v x) (hx : CanGet σ x) (h : Q false s) :
  wpAny (model h₀.prog h₀.w) A (getitemInPython v) Q E s := by
 have key : ∀ (T id : String), s.TypeIs v T → typeLookup (.type T) "__getitem__" = pure (some (.builtin id)) → wpAny (model h₀.prog h₀.w) A (getitemInPython v) Q E s := by
  intro T id hT hl
  rw [getitemInPython_of_ne hT.not_modules]
  exact wpAny_bind (wpAny_specialOf hT hl (wpAny_pure h))
 rcases hx with ⟨l, rfl⟩ | ⟨t, rfl⟩ | ⟨m, rfl, ⟨l, hσ⟩ | ⟨_, l, hσ⟩⟩
 ·cases r with
  | tup g _ _ => exact key "tuple" _ (isTuple_of g).typeIs slot_tuple_getitem.lookup
 ·cases r with
  | str _ t _ => exact key "str" _ (typeIs_str s _ t) F.slot_str_getitem.lookup
 ·cases r with
  | ref er =>
   obtain ⟨vs, k, g, _, _⟩ := i.list hσ er
   exact key "list" _ (isList_of g).typeIs slot_list_getitem.lookup
 ·cases r with
  | ref er =>
   obtain ⟨_, _, kvs, hd, _, _⟩ := i.dict hσ er
   exact key "dict" _ hd.typeIs slot_dict_getitem.lookup
theorem item_kind {x y : V} (h : item x y σ ≠ .bad) : CanGet σ x := by
 cases x with
 | tup l => exact .inl ⟨_, rfl⟩
 | str t => exact .inr (.inl ⟨_, rfl⟩)
 | ref m =>
  refine .inr (.inr ⟨m, rfl, ?_⟩)
  have h : (getO m >>= fun o => match o with | .list l => itemL l y | .dict _ l => ofOpt ((keyOf y).bind (dGet l)) | _ => M.bad) σ ≠ .bad := h
  cases e : σ[m]? with
  | none => exact absurd (bind_bad (by rw [getO_eq, e])) h
  | some o =>
   rw [bind_ok (a := o) (σ' := σ) (by rw [getO_eq, e])] at h
   cases o with
   | list l => exact .inl ⟨l, rfl⟩
   | dict v l => exact .inr ⟨v, l, rfl⟩
   | inst _ _ => exact absurd rfl h
   | flds _ => exact absurd rfl h
   | exc _ _ => exact absurd rfl h
 | none => exact absurd rfl h
 | bool _ => exact absurd rfl h
 | int _ => exact absurd rfl h
theorem slice_kind {lo hi : Option Int} {x : V} (h : sliceV lo hi x σ ≠ .bad) : CanGet σ x := by
 cases x with
 | tup l => exact .inl ⟨_, rfl⟩
 | str t => exact .inr (.inl ⟨_, rfl⟩)
 | ref m =>
  refine .inr (.inr ⟨m, rfl, .inl ?_⟩)
  have h : (getList m >>= fun l => newO (.list (cut l lo hi))) σ ≠ .bad := h
  cases e : σ[m]? with
  | none => exact absurd (bind_bad (by rw [getList_eq, e])) h
  | some o => cases o with
   | list l => exact ⟨l, rfl⟩
   | dict _ _ => exact absurd (bind_bad (by rw [getList_eq, e])) h
   | inst _ _ => exact absurd (bind_bad (by rw [getList_eq, e])) h
   | flds _ => exact absurd (bind_bad (by rw [getList_eq, e])) h
   | exc _ _ => exact absurd (bind_bad (by rw [getList_eq, e])) h
 | none => exact absurd rfl h
 | bool _ => exact absurd rfl h
 | int _ => exact absurd rfl h
theorem Sim.subTail {value slice : Expr} {o i : Value} {x : V} {r : Res V} {ops : List Value} (iv : Inv h₀ σ ρ s.heap) (ro : Rel ρ s.heap o x) (hk : r ≠ .bad → CanGet σ x)
  (hs : subscripted slice false o i = PySem.operate ops (getItem o i)) (h : Sim h₀ A W (getItem o i) r RV ρ s) :
  Sim h₀ A W (getitemInPython o >>= fun b => subscripted slice b o i >>= fun r => letTemporaryGo value o r >>= fun ya => Pure.pure r) r RV ρ s := by
 have go : ∀ (Q : Value → Shared → Prop) (E : Value → Shared → Prop), r ≠ .bad → wpAny (model h₀.prog h₀.w) A (getItem o i) Q E s → wpAny (model h₀.prog h₀.w) A (getitemInPython o >>= fun b => subscripted slice b o i >>= fun r => letTemporaryGo value o r >>= fun ya => Pure.pure r) Q E s := fun Q E hr h => by
  refine wpAny_bind (getitem_plain iv ro (hk hr) ?_)
  rw [hs]
  exact wpAny_bind (wpAny_operating (wpAny_mono h (fun b s' hp => wpAny_bind (wpAny_letTemporaryGo (wpAny_pure hp))) fun ya yb x => x))
 cases r with
 | bad => exact trivial
 | exc _ _ => exact go _ _ nofun h
 | ok v σ' => exact go _ _ nofun h
theorem ev_slice_bad {lo hi st : Option Expr} {p : Pos} : ev C (.Slice lo hi st p) ns loc = M.bad := rfl
theorem ev_sub {o i : Expr} {pos : Pos} (ho : EvS h₀ C n o) (hi : EvS h₀ C n i) (he : ∀ (ns : Names) (loc : Loc), ev C (.Subscript o i pos) ns loc = (ev C o ns loc >>= fun a => ev C i ns loc >>= fun b => item a b)) : EvS h₀ C n (.Subscript o i pos) := fun env ns loc σ ρ s A hA F iv => by
 rw [arm_eval_Subscript, he]
 refine Sim.bind (ho env ns loc σ ρ s A hA F iv) fun a σ₁ ρ₁ H₁ tk₁ va i₁ x₁ r₁ => ?_
 by_cases hsl : ∃ lo hi st p, i = .Slice lo hi st p
 ·obtain ⟨lo, hi', st, p, rfl⟩ := hsl
  rw [ev_slice_bad, bind_bad rfl]; exact trivial
 ·refine Sim.bind (Sim.holding (hi env ns loc σ₁ ρ₁ _ A hA (F.ext0 x₁) i₁)) fun b σ₂ ρ₂ H₂ tk₂ vb i₂ x₂ r₂ => ?_
  refine Sim.standAt (Sim.subTail (ops := [va, vb]) i₂ (r₁.ext x₂) item_kind ?_ (Sim.item i₂ (r₁.ext x₂) r₂))
  cases i <;> first | rfl | exact absurd ⟨_, _, _, _, rfl⟩ hsl
variable (h₀ C n) in
noncomputable def EvOptS (o : Option Expr) : Prop := ∀ (env : Env) (ns : Names) (loc : Loc) (σ : Store) (ρ : Map) (s : Shared) (A : Around), Rm h₀ A n C.calm → Frm h₀ env ns loc ρ s.heap → Inv h₀ σ ρ s.heap →
 Sim h₀ A [] (valueOrNone (evalOpt o env)) (evOpt C o ns loc σ) RV ρ s
theorem evOpt_none : EvOptS h₀ C n none := fun env ns loc σ ρ s A hA F i => Sim.ret i .none
theorem evOpt_some {e : Expr} (h : EvS h₀ C n e) : EvOptS h₀ C n (some e) := fun env ns loc σ ρ s A hA F i => h env ns loc σ ρ s A hA F i
noncomputable def RS : V × V → Map → Heap → Value → Prop := fun q ρ h iv => ∃ sl vl vu, iv = .ref sl ∧ h.IsSliceOf sl vl vu .none ∧ Rel ρ h vl q.1 ∧ Rel ρ h vu q.2
theorem slice_obj {lo hi : Option Expr} {p : Pos} (hlo : EvOptS h₀ C n lo) (hhi : EvOptS h₀ C n hi) (hA : Rm h₀ A n C.calm) (F : Frm h₀ env ns loc ρ s.heap) (iv : Inv h₀ σ ρ s.heap) :
  Sim h₀ A [] (eval (.Slice lo hi none p) env) ((evOpt C lo ns loc >>= fun l => evOpt C hi ns loc >>= fun h => (Pure.pure (l, h) : M (V × V))) σ) RS ρ s := by
 rw [arm_eval_Slice]
 refine Sim.bind (hlo env ns loc σ ρ s A hA F iv) fun a σ₁ ρ₁ H₁ tk₁ va i₁ x₁ r₁ => ?_
 refine Sim.bind (Sim.holding (hhi env ns loc σ₁ ρ₁ _ A hA (F.ext0 x₁) i₁)) fun b σ₂ ρ₂ H₂ tk₂ vb i₂ x₂ r₂ => ?_
 refine Sim.grown (s := (At s H₂ tk₂)) i₂ fun Q E hQ => ?_
 refine wpAny_bind (wpAny_holding (wpAny_pure (wpAny_newObj_type (T := "slice") ?_ (by show (3 : Nat) ≤ sizeLine + 2; decide))))
 have hk : ∀ b o, H₂.get? b = some o → (H₂.push { cls := .type "slice", data := .fields #[va, vb, .none] }).get? b = some o := fun b o e => Heap.get?_push_of_some _ e
 exact hQ _ _ tk₂ hk ⟨_, va, vb, rfl, Heap.IsSliceOf.new .., (r₁.ext x₂).sub (Sub.keeps hk), r₂.sub (Sub.keeps hk)⟩
theorem ev_slice {o : Expr} {lo hi : Option Expr} {p pos : Pos} (ho : EvS h₀ C n o) (hlo : EvOptS h₀ C n lo) (hhi : EvOptS h₀ C n hi) : EvS h₀ C n (.Subscript o (.Slice lo hi none p) pos) := fun env ns loc σ ρ s A hA F iv => by
 rw [arm_eval_Subscript]
 show Sim h₀ A [] _ ((ev C o ns loc >>= fun a => (evOpt C lo ns loc >>= fun l => evOpt C hi ns loc >>= fun h => (Pure.pure (l, h) : M (V × V))) >>= fun q => bound q.1 >>= fun l' => bound q.2 >>= fun h' => sliceV l' h' a) σ) RV ρ s
 refine Sim.bind (ho env ns loc σ ρ s A hA F iv) fun a σ₁ ρ₁ H₁ tk₁ va i₁ x₁ r₁ => ?_
 refine Sim.bind (Sim.holding (slice_obj hlo hhi hA (F.ext0 x₁) i₁)) fun q σ₂ ρ₂ H₂ tk₂ vb i₂ x₂ r₂ => ?_
 obtain ⟨sl, vl, vu, rfl, hs, rl, ru⟩ := r₂
 refine Sim.standAt (Sim.bound (s := (At s H₂ tk₂)) rl fun l' pl => Sim.bound (s := (At s H₂ tk₂)) ru fun h' pu => ?_)
 exact Sim.subTail (ops := [.ref sl, va]) i₂ (r₁.ext x₂) slice_kind rfl (Sim.slice (s := (At s H₂ tk₂)) i₂ (r₁.ext x₂) hs pl pu)
variable (h₀ tx C n) in
noncomputable def CallS : Prop := ∀ (f : Str) (fn : Fn) (a : Addr) (args : List V) (vals : List Value) (σ : Store) (ρ : Map) (s : Shared) (A : Around), RmW h₀ A n C.calm → tx.at f = some fn → FnIs h₀.heap fn a → RelAll ρ s.heap vals args → Inv h₀ σ ρ s.heap →
 Sim h₀ A [] (call (.ref a) vals) (C.call f args σ) RV ρ s
theorem noStar {es : List Expr} {pos : Pos} : (∀ e ∈ es, ∀ v p, e ≠ .Starred v p) → (backTo pos (starEach es env)).any (·.1) = false ∧ (backTo pos (starEach es env)).all (fun x => !x.1) = true := by
 induction es with
 | nil => intro _; exact ⟨rfl, rfl⟩
 | cons e r ih =>
  intro h
  rw [starEach_cons (h e (by simp))]
  obtain ⟨h1, h2⟩ := ih fun e' he' => h e' (by simp [he'])
  refine ⟨?_, ?_⟩
  ·show (false || (backTo pos (starEach r env)).any (·.1)) = false
   rw [h1]; rfl
  ·show (true && (backTo pos (starEach r env)).all _) = true
   rw [h2]; rfl
theorem noStars_of {es : List Expr} (h : noStars es = true) : ∀ e ∈ es, ∀ v p, e ≠ .Starred v p := fun e he v p eq => by
 have := List.all_eq_true.mp h e he
 rw [eq] at this; cases this
theorem Sim.args {α : Type} {f : Value} {first : List Value} {es : List Expr} {pos : Pos} {k : List V → M α} {R : α → Map → Heap → Value → Prop} (hst : noStars es = true) (hes : EvsS h₀ C n es) (hA : Rm h₀ A n C.calm) (F : Frm h₀ env ns loc ρ s.heap) (i : Inv h₀ σ ρ s.heap)
  (hcw : ∀ (Q : Value → Shared → Prop) (E : Value → Shared → Prop), (∀ e ∈ es, ∀ v p, e ≠ .Starred v p) →
   wpAny (model h₀.prog h₀.w) A (spliced (backTo pos (starEach es env))) (fun vs s₁ => (∀ b o, h₀.get? b = some o → s₁.heap.get? b = some o) ∧ wpAny (model h₀.prog h₀.w) A (call f (first ++ vs)) Q E s₁) E s → wpAny (model h₀.prog h₀.w) A (callWith pos f first (backTo pos (starEach es env)) []) Q E s)
  (hk : ∀ l σ₁ ρ₁ H tk vs, Inv h₀ σ₁ ρ₁ H → Ext [] ρ s.heap ρ₁ H → RelAll ρ₁ H vs l → Sim h₀ A [] (call f (first ++ vs)) (k l σ₁) R ρ₁ (At s H tk)) :
  Sim h₀ A [] (callWith pos f first (backTo pos (starEach es env)) []) ((evs C es ns loc >>= k) σ) R ρ s := by
 have this := hes env ns loc σ ρ s A pos hA F i
 cases h1 : evs C es ns loc σ with
 | bad => rw [bind_bad h1]; exact trivial
 | exc _ _ =>
  rw [bind_exc h1]
  rw [h1] at this
  exact hcw _ _ (noStars_of hst) (wpAny_mono this (fun ya yb f => f.elim) fun ya yb x => x)
 | ok l σ₁ =>
  rw [bind_ok h1]
  rw [h1] at this
  have go : ∀ (Q : Value → Shared → Prop) (E : Value → Shared → Prop), (∀ vs ρ₁ H tk, Ext [] ρ s.heap ρ₁ H → Sim h₀ A [] (call f (first ++ vs)) (k l σ₁) R ρ₁ (At s H tk) → wpAny (model h₀.prog h₀.w) A (call f (first ++ vs)) Q E (At s H tk)) →
    wpAny (model h₀.prog h₀.w) A (callWith pos f first (backTo pos (starEach es env)) []) Q E s := fun Q E hq => by
   refine hcw _ _ (noStars_of hst) (wpAny_mono this (fun vs s₁ hp => ?_) fun ya yb x => x.elim)
   obtain ⟨ρ₁, H, tk, rfl, i₁, x₁, r₁⟩ := hp
   exact ⟨i₁.base, hq vs ρ₁ H tk x₁ (hk l σ₁ ρ₁ H tk vs i₁ x₁ r₁)⟩
  cases h2 : k l σ₁ with
  | bad => exact trivial
  | exc _ _ => exact go _ _ fun vs ρ₁ H tk x hs => by rw [h2] at hs; exact wpAny_mono hs (fun ya yb f => f) fun ya yb hp => hp.after x
  | ok v σ₂ => exact go _ _ fun vs ρ₁ H tk x hs => by rw [h2] at hs; exact wpAny_mono hs (fun ya yb hp => hp.after x) fun ya yb f => f
end
end Mine.Internal

set_option backward.match.sparseCases false
namespace Mine.Internal
open PySem PyProof.Rows
section
variable {h₀ : Bse} {A : Around} {W : List Addr} {ρ : Map} {h h' : Heap} {s : Shared} {σ : Store} {tx : Tabs} {mg mb : Str → Option Value} {C : Cfg} {n : Nat}
theorem Rm.weak {q : Bool} (r : Rm h₀ A n q) : RmW h₀ A n q := ⟨r.handled, Nat.le_of_lt r.depth, Nat.lt_of_le_of_lt (Nat.add_le_add_left (by decide) _) r.units, r.frames⟩
theorem Rm.make {q : Bool} {K : Addr} {vals : List Value} (r : Rm h₀ A n q) : RmW h₀ (A.under (.builtin "type.__call__" ⟨.ref K :: vals, []⟩)) n q where
 handled := r.handled
 depth := by show A.depth + 1 + 2 * n ≤ recursionLimit; have := r.depth; (first | lia | omega)
 units := by
  have e : (Code.builtin "type.__call__" ⟨.ref K :: vals, []⟩).cUnits ≤ 10 := by show 1 ≤ 10; decide
  show A.units + (Code.builtin "type.__call__" ⟨.ref K :: vals, []⟩).cUnits + 16 * n + 290 < cLine
  have := r.units; (first | lia | omega)
 frames := r.frames
theorem instAt_is {k : Nat} {c : Str} (e : instAt σ k = some c) : ∃ j, σ[k]? = some (.inst c j) := by
 unfold instAt at e
 cases q : σ[k]? with
 | none => rw [q] at e; cases e
 | some o =>
  rw [q] at e
  cases o with
  | inst c' j => cases e; exact ⟨j, rfl⟩
  | _ => cases e
theorem fldsAt_is {k j : Nat} {c : Str} {l : List (Str × V)} (q : σ[k]? = some (.inst c j)) (e : fldsAt σ k = some l) : σ[j]? = some (.flds l) := by
 unfold fldsAt at e
 rw [q] at e
 dsimp only at e
 cases q' : σ[j]? with
 | none => rw [q'] at e; cases e
 | some o =>
  rw [q'] at e
  cases o with
  | flds l' => cases e; rfl
  | _ => cases e
structure InstQ (h₀ : Bse) (ρ : Map) (h : Heap) (c : Str) (j : Nat) (l : List (Str × V)) (a : Addr) (K dx : Addr) (d : Nat) (mA : Str → Option Value) : Prop where
 cls : ClsIs h₀ c K
 inst : h.Inst a K mA
 dict : ∀ o, h.get? a = some o → o.dict = some dx
 at_ : ρ[j]? = some (dx, d)
 ns : h.Ns1 dx mA
 ne : dx ≠ a
 flds : FldR ρ h mA l
 len : l.length ≤ sizeLine
theorem Inv.instQ (i : Inv h₀ σ ρ h) {k j d : Nat} {c : Str} {l : List (Str × V)} {a : Addr} (e1 : σ[k]? = some (.inst c j)) (e2 : σ[j]? = some (.flds l)) (er : ρ[k]? = some (a, d)) : ∃ K dx d' mA, InstQ h₀ ρ h c j l a K dx d' mA := by
 obtain ⟨K, o, dx, d', hc, g, h1, h2, h3, h4, h5⟩ := i.objs k _ _ e1 er
 obtain ⟨hl, mA, hn, f⟩ := i.objs j _ _ e2 h5
 exact ⟨K, dx, d', mA, hc, ⟨o, g, h1, h2, .inr ⟨dx, h3, h4, hn⟩⟩, fun o' g' => by rw [g] at g'; cases g'; exact h3, h5, hn, h4, f, hl⟩
theorem handed {v : Value} {x : V} (r : Rel ρ h v x) : handedOut v = pure v := by cases r <;> rfl
theorem Sim.attrV {m : Str} {v : Value} {x : V} (B : Base tx mg mb h₀.heap) (hcl : C.cls = tx.cls) (i : Inv h₀ σ ρ s.heap) (r : Rel ρ s.heap v x) : Sim h₀ A W (getAttr v m true) (attrV C m x σ) RV ρ s := by
 cases r with
 | @ref a d k er =>
  refine Sim.ask fun y hy => ?_
  obtain ⟨c, h1, hy⟩ := Option.bind_eq_some_iff.mp hy
  obtain ⟨ms, h2, hy⟩ := Option.bind_eq_some_iff.mp hy
  by_cases hm : ms.2.contains m = true
  case neg => rw [if_neg hm] at hy; cases hy
  rw [if_pos hm] at hy
  obtain ⟨l, h3, hy⟩ := Option.bind_eq_some_iff.mp hy
  obtain ⟨j, e1⟩ := instAt_is h1
  obtain ⟨K, dx, d', mA, q⟩ := i.instQ e1 (fldsAt_is e1 h3) er
  rw [hcl] at h2
  obtain ⟨K', N, mN, hg, O⟩ := B.own c ms h2
  rw [q.cls.at B.g] at hg; cases hg
  obtain ⟨f1, f2⟩ := O.fld m (List.contains_iff_mem.mp hm)
  obtain ⟨w, hw, rw'⟩ := q.flds.has m y hy
  have X := O.cls.keeps i.base
  obtain ⟨nm, qn, bs, sn, sub, col, dd, k0, k1, k2, k3, k5, hC⟩ := X.obj
  obtain ⟨hh, g, dr, t, os⟩ := s
  exact Sim.same i fun Q E hQ => load_attr hC X.ns O.ga f1 f2 q.inst hw (handed rw') (hQ _ _ rw')
 | _ => exact trivial
theorem putF_is {k j : Nat} {c m : Str} {v : V} {l : List (Str × V)} (e1 : σ[k]? = some (.inst c j)) (e2 : σ[j]? = some (.flds l)) : putF k m v σ = (if 0 < j ∧ l.length + 1 ≤ sizeLine then .ok () (σ.set j (.flds ((m, v) :: l))) else .bad) := by
 show (match σ[k]? with
 | some (.inst _ j) => (match σ[j]? with
  | some (.flds l) => if 0 < j ∧ l.length + 1 ≤ sizeLine then Res.ok () (σ.set j (.flds ((m, v) :: l))) else .bad
  | _ => .bad)
 | _ => .bad) = _
 rw [e1]
 dsimp only
 rw [e2]
theorem putF_bad {k j : Nat} {c m : Str} {v : V} (e1 : σ[k]? = some (.inst c j)) (e2 : ∀ l, σ[j]? ≠ some (.flds l)) : putF k m v σ = .bad := by
 show (match σ[k]? with
 | some (.inst _ j) => (match σ[j]? with
  | some (.flds l) => if 0 < j ∧ l.length + 1 ≤ sizeLine then Res.ok () (σ.set j (.flds ((m, v) :: l))) else .bad
  | _ => .bad)
 | _ => .bad) = _
 rw [e1]
 dsimp only
 cases q : σ[j]? with
 | none => rfl
 | some o => cases o with
  | flds l => exact absurd q (e2 l)
  | _ => rfl
theorem FldR.put {mA : Str → Option Value} {l : List (Str × V)} {m : Str} {v : Value} {x : V} (f : FldR ρ h mA l) (r : Rel ρ h v x) : FldR ρ h (fun y => if y = m then some v else mA y) ((m, x) :: l) where
 has := fun y a e => by
  rw [List.lookup_cons] at e
  cases q : y == m with
  | true =>
   rw [q] at e; cases e
   rw [if_pos (eq_of_beq q)]; exact ⟨v, rfl, r⟩
  | false =>
   rw [q] at e
   rw [if_neg (fun he => by rw [he, beq_self_eq_true] at q; cases q)]
   exact f.has y a e
 no := fun y e => by
  rw [List.lookup_cons] at e
  cases q : y == m with
  | true => rw [q] at e; cases e
  | false =>
   rw [q] at e
   rw [if_neg (fun he => by rw [he, beq_self_eq_true] at q; cases q)]
   exact f.no y e
theorem FldR.sub {ρ' : Map} {mA : Str → Option Value} {l : List (Str × V)} (f : FldR ρ h mA l) (x : Sub ρ h ρ' h') : FldR ρ' h' mA l := ⟨fun y a e => let ⟨v, e', rv⟩ := f.has y a e; ⟨v, e', rv.sub x⟩, f.no⟩
theorem FldR.within {mA : Str → Option Value} {l : List (Str × V)} (f : FldR ρ h mA l) : Within mA (l.map (·.1)) := fun y hy => by
 cases e : l.lookup y with
 | none => exact absurd (f.no y e) hy
 | some a => exact List.mem_map.mpr ⟨_, mem_of_lookup e, rfl⟩
theorem ns1_dict {a : Addr} {mA : Str → Option Value} (n : h.Ns1 a mA) {o : Obj} (e : h.get? a = some o) : IsD o := by
 obtain ⟨o', es, ep, g, hd, _⟩ := n
 rw [e] at g; cases g
 exact ⟨es, ep, hd⟩
theorem Sim.setAttrV {m : Str} {v w : Value} {x y : V} (B : Base tx mg mb h₀.heap) (hcl : C.cls = tx.cls) (i : Inv h₀ σ ρ s.heap) (r : Rel ρ s.heap v x) (rw' : Rel ρ s.heap w y) : Sim h₀ A W (setAttr v m w) (setAttrV C m y x σ) (fun ya yb yc yd => True) ρ s := by
 cases r with
 | @ref a d k er =>
  refine Sim.askThen fun ya hy => ?_
  obtain ⟨c, h1, hy⟩ := Option.bind_eq_some_iff.mp hy
  obtain ⟨ms, h2, hy⟩ := Option.bind_eq_some_iff.mp hy
  by_cases hm : ms.2.contains m = true
  case neg => rw [if_neg hm] at hy; cases hy
  obtain ⟨j, e1⟩ := instAt_is h1
  by_cases hl : ∃ l, σ[j]? = some (.flds l)
  case neg => rw [putF_bad e1 fun l e => hl ⟨l, e⟩]; exact trivial
  obtain ⟨l, e2⟩ := hl
  rw [putF_is e1 e2]
  by_cases hj : 0 < j ∧ l.length + 1 ≤ sizeLine
  case neg => rw [if_neg hj]; exact trivial
  rw [if_pos hj]
  obtain ⟨K, dx, d', mA, q⟩ := i.instQ e1 e2 er
  rw [hcl] at h2
  obtain ⟨K', N, mN, hg, O⟩ := B.own c ms h2
  rw [q.cls.at B.g] at hg; cases hg
  obtain ⟨f1, f2⟩ := O.fld m (List.contains_iff_mem.mp hm)
  have X := O.cls.keeps i.base
  obtain ⟨nm, qn, bs, sn, sub, col, dd, k0, k1, k2, k3, k5, hC⟩ := X.obj
  obtain ⟨ob, g, hoc, _⟩ := id q.inst
  have hxK : a ≠ K := fun e => by rw [e, hC] at g; cases g; cases hoc
  obtain ⟨hh, gg, dr, t, os⟩ := s
  refine store_attr PySem.F.store_object hC X.ns O.sa f1 f2 hxK q.inst (fun h' tk' I' hk hsame => ?_) q.flds.within (by rw [List.length_map]; exact q.len)
  have hko : ∀ b o, b ≠ dx → hh.get? b = some o → h'.get? b = some o := fun b o hb e => by
   by_cases hba : b = a
   ·subst hba
    obtain ⟨o₁, g₁, c1, c2, c3, c4⟩ := hsame o e
    have c6 := c4 dx (q.dict o e)
    have c5 := q.dict o e
    obtain ⟨p1, p2, p3, p4⟩ := o
    obtain ⟨q1, q2, q3, q4⟩ := o₁
    cases c1; cases c2; cases c3
    have c6 : q2 = some dx := c6
    have c5 : p2 = some dx := c5
    rw [g₁, c6, c5]
   ·exact hk b o hba (fun o₀ dx' e₀ ed => by rw [q.dict o₀ e₀] at ed; cases ed; exact hb) e
  have hn' : h'.Ns1 dx (fun y => if y = m then some w else mA y) := by
   obtain ⟨o', e', _, _, hd'⟩ := I'
   obtain ⟨o₁, g₁, _, _, _, c4⟩ := hsame ob g
   have c4 := c4 dx (q.dict ob g)
   rw [g₁] at e'; cases e'
   rcases hd' with ⟨hn0, _⟩ | ⟨d'', hd'', _, hns'⟩
   ·rw [c4] at hn0; cases hn0
   ·rw [c4] at hd''; cases hd''; exact hns'
  have hN := i.put (W := W) (v' := d' + 1) (o := .flds ((m, y) :: l)) (h' := h') hj.1 q.at_ (Nat.le_succ _) (fun e => absurd e (Nat.succ_ne_self _)) hko
   (fun ob e => let ⟨o', _, _, g', _⟩ := id hn'; ⟨o', g', kin_dict (ns1_dict q.ns e) (ns1_dict hn' g')⟩) fun x => ⟨hj.2, _, hn', (q.flds.put rw').sub x.sub⟩
  exact ⟨_, h', tk', rfl, hN.1, hN.2, trivial⟩
 | _ => exact trivial
theorem Inv.newI {c : Str} {K x dx : Addr} (i : Inv h₀ σ ρ h) (hc : ClsIs h₀ c K) (M : Heap.MadeObj h h' x dx K) :
  Inv h₀ (σ ++ [.flds [], .inst c σ.length]) (ρ ++ [(dx, 0), (x, 0)]) h' ∧ Ext W ρ h (ρ ++ [(dx, 0), (x, 0)]) h' := by
 obtain ⟨o, g, h1, h2, h3⟩ := M.inst
 have hd := M.dict o g
 have hn : h'.Ns1 dx fun ya => none := by
  rcases h3 with ⟨h3, _⟩ | ⟨d, h3, _, hn⟩
  ·rw [hd] at h3; cases h3
  ·rw [hd] at h3; cases h3; exact hn
 have hne : dx ≠ x := by
  rcases h3 with ⟨h3, _⟩ | ⟨d, h3, hne, _⟩
  ·rw [hd] at h3; cases h3
  ·rw [hd] at h3; cases h3; exact hne
 have dead : ∀ b, h.get? b = none → h₀.get? b = none ∧ (∀ e ∈ h₀.frs, e.frame ≠ some b) ∧ offMap ρ b := fun b hb => by
  refine ⟨?_, fun e he q => ?_, fun p hp e => ?_⟩
  ·cases e : h₀.get? b with
   | none => rfl
   | some o => rw [i.base _ _ e] at hb; cases hb
  ·obtain ⟨_, L, o, hL, g, _⟩ := i.up e he
   rw [hL] at q; cases q; rw [hb] at g; cases g
  ·obtain ⟨o1, e1⟩ := i.alive hp
   rw [← e, hb] at e1; cases e1
 obtain ⟨i₁, x₁⟩ := i.new (W := W) (o := .flds []) M.keeps M.newD ⟨Nat.zero_le _, _, hn, ⟨fun ya yb e => (by cases e), fun ya yb => rfl⟩⟩
 obtain ⟨d1, d2, d3⟩ := dead x M.newX
 have e : ρ ++ [(dx, 0), (x, 0)] = ρ ++ [(dx, 0)] ++ [(x, 0)] := by rw [List.append_assoc]; rfl
 have e' : σ ++ [.flds [], .inst c σ.length] = σ ++ [.flds []] ++ [.inst c σ.length] := by rw [List.append_assoc]; rfl
 rw [e, e']
 refine i₁.more x₁ M.newX (fun p hp => ?_) d1 d2 ⟨K, o, dx, 0, hc, g, h1, h2, hd, hne, ?_⟩
 ·rcases List.mem_append.mp hp with hp | hp
  ·exact d3 p hp
  ·rw [List.mem_singleton.mp hp]; exact hne.symm
 ·rw [← i.len, List.append_assoc, List.getElem?_append_right (Nat.le_refl _), Nat.sub_self]; rfl
theorem at_two {α : Type} {l : List α} {a b : α} : (l ++ [a, b])[l.length + 1]? = some b := by
 rw [List.getElem?_append_right (Nat.le_succ _), show l.length + 1 - l.length = 1 from Nat.add_sub_cancel_left ..]; rfl
theorem Sim.mkI {c : Str} {ms : List Str × List Str} {K N : Addr} {mN : Str → Option Value} {vals : List Value} {vs : List V} (B : Base tx mg mb h₀.heap) (O : OwnCls tx h₀.heap c ms K N mN) (hg : mg c = some (.ref K)) (hC : CallS h₀ tx C n) (hA : Rm h₀ A n C.calm) (i : Inv h₀ σ ρ s.heap) (r : RelAll ρ s.heap vals vs) :
  Sim h₀ A [] (call (.ref K) vals) (Mine.Internal.mkI C c vs σ) RV ρ s := by
 obtain ⟨fI, fn, oI, hi, hf, ok, ho, hoc⟩ := O.meth _ O.init
 have X := O.cls.keeps i.base
 obtain ⟨nm, qn, bs, sn, sub, col, dd, k0, k1, k2, k3, k5, hK⟩ := X.obj
 have hc : ClsIs h₀ c K := ⟨mg, B.g, hg⟩
 show Sim h₀ A [] _ ((C.call (methName c "__init__") (.ref (σ.length + 1) :: vs) >>= fun r => ifNone r (Pure.pure (V.ref (σ.length + 1)))) (σ ++ [.flds [], .inst c σ.length])) RV ρ s
 obtain ⟨hh, gg, dr, t, os⟩ := s
 have go : ∀ {Q : Value → Shared → Prop} {E : Value → Shared → Prop}, (∀ h' x dx, Ext [] ρ hh (ρ ++ [(dx, 0), (x, 0)]) h' → Sim h₀ (A.under (.builtin "type.__call__" ⟨.ref K :: vals, []⟩)) [] (call (.ref fI) (.ref x :: vals)) (C.call (methName c "__init__") (.ref (σ.length + 1) :: vs) (σ ++ [.flds [], .inst c σ.length])) RV (ρ ++ [(dx, 0), (x, 0)]) ⟨h', gg, dr, t, os⟩ →
   wpAny (model h₀.prog h₀.w) (A.under (.builtin "type.__call__" ⟨.ref K :: vals, []⟩)) (call (.ref fI) (.ref x :: vals)) (fun r s' => r = .none ∧ Q (.ref x) s') E ⟨h', gg, dr, t, os⟩) → wpAny (model h₀.prog h₀.w) A (call (.ref K) vals) Q E ⟨hh, gg, dr, t, os⟩ := fun hq =>
  wpAny_call_obj_init PySem.F.objNew hK X.ns hi (i.base _ _ ho) hoc fun h' x dx M => by
   obtain ⟨i₁, x₁⟩ := i.newI (W := []) hc M
   refine hq h' x dx x₁ (hC _ fn fI _ _ _ _ ⟨h', gg, dr, t, os⟩ _ hA.make hf ok (.cons (.ref (d := 0) ?_) (r.ext x₁)) i₁)
   rw [← i.len]; exact at_two
 cases e : C.call (methName c "__init__") (.ref (σ.length + 1) :: vs) (σ ++ [.flds [], .inst c σ.length]) with
 | bad => rw [bind_bad e]; exact trivial
 | exc ev σ' =>
  rw [bind_exc e]
  refine go fun h' x dx x₁ hs => ?_
  rw [e] at hs
  exact wpAny_mono hs (fun ya yb f => f.elim) fun ya yb hp => hp.after (s := ⟨hh, gg, dr, t, os⟩) x₁
 | ok v σ' =>
  rw [bind_ok e]
  cases v with
  | none =>
   refine go fun h' x dx x₁ hs => ?_
   rw [e] at hs
   refine wpAny_mono hs (fun b s' hp => ?_) fun ya yb f => f.elim
   obtain ⟨ρ', H', tk', rfl, i', x', r'⟩ := hp
   cases r'
   refine ⟨rfl, ρ', H', tk', rfl, i', x₁.trans x', Rel.ext x' (.ref (d := 0) ?_)⟩
   rw [← i.len]; exact at_two
  | _ => exact trivial
end
end Mine.Internal

set_option backward.match.sparseCases false
namespace Mine.Internal
open PySem PyProof.Rows
theorem bb_len : bootBuiltins ("len" : Str) = some (.builtin "len") := by decide +kernel
theorem bb_list : bootBuiltins ("list" : Str) = some (.type "list") := by decide +kernel
theorem bb_tuple : bootBuiltins ("tuple" : Str) = some (.type "tuple") := by decide +kernel
theorem bb_sorted : bootBuiltins ("sorted" : Str) = some (.builtin "sorted") := by decide +kernel
theorem bb_dict : bootBuiltins ("dict" : Str) = some (.type "dict") := by decide +kernel
theorem bb_all : bootBuiltins ("all" : Str) = some (.builtin "all") := by decide +kernel
theorem bb_isinstance : bootBuiltins ("isinstance" : Str) = some (.builtin "isinstance") := by decide +kernel
theorem bb_bool : bootBuiltins ("bool" : Str) = some (.type "bool") := by decide +kernel
theorem bb_int : bootBuiltins ("int" : Str) = some (.type "int") := by decide +kernel
theorem bb_str : bootBuiltins ("str" : Str) = some (.type "str") := by decide +kernel
theorem bb_range : bootBuiltins ("range" : Str) = some (.type "range") := by decide +kernel
theorem bb_enumerate : bootBuiltins ("enumerate" : Str) = some (.type "enumerate") := by decide +kernel
section
variable {h₀ : Bse} {A : Around} {W : List Addr} {ρ : Map} {s : Shared} {σ : Store} {tx : Tabs} {mg mb : Str → Option Value}
variable {env : Env} {ns : Names} {loc : Loc} {C : Cfg} {n : Nat}
theorem evalArgs_any {f : Value} {es : List Expr} {pos : Pos} {Q : Args → Shared → Prop} {E : Value → Shared → Prop} (hst : ∀ e ∈ es, ∀ v p, e ≠ .Starred v p)
  (h : wpAny (model h₀.prog h₀.w) A (spliced (backTo pos (starEach es env))) (fun vs s' => Q ⟨vs, []⟩ s') E s) : wpAny (model h₀.prog h₀.w) A (evalArgs f true (backTo pos (starEach es env)) []) Q E s := by
 cases es with
 | nil =>
  unfold evalArgs
  show wpAny _ A (spliced [] >>= _) Q E s
  refine wpAny_bind (wpAny_mono h (fun vs s' h' => ?_) fun ya yb x => x)
  exact wpAny_bind (wpAny_pure (wpAny_holding (wpAny_bind (wpAny_pure (wpAny_bind (wpAny_pure (wpAny_pure h')))))))
 | cons e r =>
  rw [starEach_cons (hst e (by simp))] at h ⊢
  exact Calls.evalArgs_plain h
theorem cw_function {pos : Pos} {a : Addr} {o : Obj} {fd : FuncData} {first : List Value} {es : List Expr} {Q : Value → Shared → Prop} {E : Value → Shared → Prop} (ho : h₀.get? a = some o) (hd : o.data = .func fd) (hst : ∀ e ∈ es, ∀ v p, e ≠ .Starred v p)
  (h : wpAny (model h₀.prog h₀.w) A (spliced (backTo pos (starEach es env))) (fun vs s₁ => (∀ b o, h₀.get? b = some o → s₁.heap.get? b = some o) ∧ wpAny (model h₀.prog h₀.w) A (call (.ref a) (first ++ vs)) Q E s₁) E s) :
  wpAny (model h₀.prog h₀.w) A (callWith pos (.ref a) first (backTo pos (starEach es env)) []) Q E s :=
 Calls.callWith_function (o := o) (fd := fd) (evalArgs_any hst (wpAny_mono h (fun vs s₁ h₁ => ⟨⟨h₁.1 _ _ ho, hd⟩, h₁.2⟩) fun ya yb x => x))
theorem cw_builtin {pos : Pos} {id : String} {first : List Value} {es : List Expr} {Q : Value → Shared → Prop} {E : Value → Shared → Prop} (hst : ∀ e ∈ es, ∀ v p, e ≠ .Starred v p)
  (h : wpAny (model h₀.prog h₀.w) A (spliced (backTo pos (starEach es env))) (fun vs s₁ => (∀ b o, h₀.get? b = some o → s₁.heap.get? b = some o) ∧ wpAny (model h₀.prog h₀.w) A (call (.builtin id) (first ++ vs)) Q E s₁) E s) :
  wpAny (model h₀.prog h₀.w) A (callWith pos (.builtin id) first (backTo pos (starEach es env)) []) Q E s :=
 Calls.callWith_builtin (noStar hst).1 (evalArgs_any hst (wpAny_mono h (fun vs s₁ h₁ => h₁.2) fun ya yb x => x))
theorem cw_type {pos : Pos} {T : String} {first : List Value} {es : List Expr} {Q : Value → Shared → Prop} {E : Value → Shared → Prop} (hst : ∀ e ∈ es, ∀ v p, e ≠ .Starred v p)
  (h : wpAny (model h₀.prog h₀.w) A (spliced (backTo pos (starEach es env))) (fun vs s₁ => (∀ b o, h₀.get? b = some o → s₁.heap.get? b = some o) ∧ wpAny (model h₀.prog h₀.w) A (call (.type T) (first ++ vs)) Q E s₁) E s) :
  wpAny (model h₀.prog h₀.w) A (callWith pos (.type T) first (backTo pos (starEach es env)) []) Q E s :=
 PyProof.Rows.callWith_type (noStar hst).1 (evalArgs_any hst (wpAny_mono h (fun vs s₁ h₁ => h₁.2) fun ya yb x => x))
theorem Sim.bInt {a : Value} {x : V} (i : Inv h₀ σ ρ s.heap) (ra : Rel ρ s.heap a x) : Sim h₀ A W (call (.type "int") [a]) (bInt x σ) RV ρ s := by
 cases ra with
 | bool b => exact Sim.same i fun Q E hQ => call_int_bool (by cases b <;> exact hQ _ _ (.int _ _))
 | _ => exact trivial
theorem Sim.blt {f : Str} {fv : Value} {vals : List Value} {vs : List V} (hN : h₀.heap.NoLimit) (hh : A.handled = none) (hb : bootBuiltins f = some fv) (i : Inv h₀ σ ρ s.heap) (r : RelAll ρ s.heap vals vs) :
  Sim h₀ A W (call fv vals) (blt f vs σ) RV ρ s := by
 unfold Mine.Internal.blt
 split
 ·cases r with
  | cons ra rn =>
  cases rn
  by_cases h0 : f = ("len" : Str)
  ·rw [if_pos h0]; subst h0; rw [bb_len] at hb; cases hb; exact Sim.bLen i ra
  ·rw [if_neg h0]
   by_cases h1 : f = ("list" : Str)
   ·rw [if_pos h1]; subst h1; rw [bb_list] at hb; cases hb; exact Sim.bList i ra
   ·rw [if_neg h1]
    by_cases h2 : f = ("tuple" : Str)
    ·rw [if_pos h2]; subst h2; rw [bb_tuple] at hb; cases hb; exact Sim.bTuple i ra
    ·rw [if_neg h2]
     by_cases h3 : f = ("sorted" : Str)
     ·rw [if_pos h3]; subst h3; rw [bb_sorted] at hb; cases hb; exact Sim.bSorted i ra
     ·rw [if_neg h3]
      by_cases h4 : f = ("dict" : Str)
      ·rw [if_pos h4]; subst h4; rw [bb_dict] at hb; cases hb; exact Sim.bDict hN hh i ra
      ·rw [if_neg h4]
       by_cases h6 : f = ("all" : Str)
       ·rw [if_pos h6]; subst h6; rw [bb_all] at hb; cases hb; exact Sim.bAll hh i ra
       ·rw [if_neg h6]
        by_cases h7 : f = ("int" : Str)
        ·rw [if_pos h7]; subst h7; rw [bb_int] at hb; cases hb; exact Sim.bInt i ra
        ·rw [if_neg h7]
         exact trivial
 ·exact trivial
theorem bltTab_is {f : Str} (h : bltTab.contains f = true) : f ∈ bltNames ∧ ((∃ id, bootBuiltins f = some (.builtin id)) ∨ ∃ T, bootBuiltins f = some (.type T)) := by
 have key : ∀ g ∈ bltTab, g ∈ bltNames ∧ ((∃ id, bootBuiltins g = some (.builtin id)) ∨ ∃ T, bootBuiltins g = some (.type T)) := by
  intro g hg
  simp only [bltTab, List.mem_cons, List.not_mem_nil, or_false] at hg
  rcases hg with rfl | rfl | rfl | rfl | rfl | rfl | rfl | rfl
  ·exact ⟨by decide +kernel, .inl ⟨_, bb_isinstance⟩⟩
  ·exact ⟨by decide +kernel, .inl ⟨_, bb_len⟩⟩
  ·exact ⟨by decide +kernel, .inr ⟨_, bb_list⟩⟩
  ·exact ⟨by decide +kernel, .inr ⟨_, bb_tuple⟩⟩
  ·exact ⟨by decide +kernel, .inl ⟨_, bb_sorted⟩⟩
  ·exact ⟨by decide +kernel, .inr ⟨_, bb_dict⟩⟩
  ·exact ⟨by decide +kernel, .inl ⟨_, bb_all⟩⟩
  ·exact ⟨by decide +kernel, .inr ⟨_, bb_int⟩⟩
 exact key f (List.contains_iff_mem.mp h)
theorem Sim.ite2 {α β : Type} {t : Sem β} {c : Prop} [Decidable c] {m k : M α} {R : α → Map → Heap → β → Prop} (h : c → Sim h₀ A W t (m σ) R ρ s) (h' : ¬ c → Sim h₀ A W t (k σ) R ρ s) : Sim h₀ A W t ((if c then m else k) σ) R ρ s := by
 by_cases hc : c
 ·rw [if_pos hc]; exact h hc
 ·rw [if_neg hc]; exact h' hc
theorem Call_name (f : Str) (p pos : Pos) (es : List Expr) : eval (.Call (.Name f p) es [] pos) env = (eval (.Name f p) env >>= fun fv => callWith pos fv [] (backTo pos (starEach es env)) []) := rfl
theorem Sim.head {α β : Type} {t : Sem Value} {v : Value} {f : Value → Sem β} {r : Res α} {R : α → Map → Heap → β → Prop} (ht : ∀ (Q : Value → Shared → Prop) (E : Value → Shared → Prop), Q v s → wpAny (model h₀.prog h₀.w) A t Q E s)
  (h : Sim h₀ A W (f v) r R ρ s) : Sim h₀ A W (t >>= f) r R ρ s := by
 cases r with
 | bad => exact trivial
 | exc _ _ => exact wpAny_bind (ht _ _ h)
 | ok a σ' => exact wpAny_bind (ht _ _ h)
theorem kd_names {t : Str} {k : Kd} (h : kdOf t = some k) : t ∈ bltNames ∧ bootBuiltins t = some (.type (kdName k)) := by
 unfold kdOf at h
 by_cases h1 : t = ("bool" : Str)
 ·rw [if_pos h1] at h; cases h; subst h1; exact ⟨by decide +kernel, bb_bool⟩
 ·rw [if_neg h1] at h
  by_cases h1 : t = ("int" : Str)
  ·rw [if_pos h1] at h; cases h; subst h1; exact ⟨by decide +kernel, bb_int⟩
  ·rw [if_neg h1] at h
   by_cases h1 : t = ("str" : Str)
   ·rw [if_pos h1] at h; cases h; subst h1; exact ⟨by decide +kernel, bb_str⟩
   ·rw [if_neg h1] at h
    by_cases h1 : t = ("tuple" : Str)
    ·rw [if_pos h1] at h; cases h; subst h1; exact ⟨by decide +kernel, bb_tuple⟩
    ·rw [if_neg h1] at h
     by_cases h1 : t = ("list" : Str)
     ·rw [if_pos h1] at h; cases h; subst h1; exact ⟨by decide +kernel, bb_list⟩
     ·rw [if_neg h1] at h; cases h
noncomputable def NoShadow (tx : Tabs) : Prop := ∀ f ∈ bltNames, tx.fns f = none
theorem ask_name {t : Str} {q : Pos} {Q : Value → Shared → Prop} {E : Value → Shared → Prop} (B : Base tx mg mb h₀.heap) (hns : NoShadow tx) (F : Frm h₀ env ns loc ρ s.heap) (i : Inv h₀ σ ρ s.heap) (ht : isGlob ns t = true) (hu : ((tx.ups t).isSome || t == ("ValueError" : Str)) = true)
  (hq : ∀ c, ((∃ us D, tx.ups t = some us ∧ mg t = some (.ref D) ∧ c = .ref D) ∨ (t = ("ValueError" : Str) ∧ c = .type "ValueError")) → Q c s) : wpAny (model h₀.prog h₀.w) A (eval (.Name t q) env) Q E s := by
 cases hut : tx.ups t with
 | some us =>
  obtain ⟨D, bm, h1, _⟩ := B.cls t us hut
  exact wp_global B F i ht h1 (hq _ (.inl ⟨us, D, hut, h1, rfl⟩))
 | none =>
  rw [hut] at hu
  have hu : t = ("ValueError" : Str) := by simpa using hu
  subst hu
  exact wp_builtin B F i ht (by decide +kernel) (hns _ (by decide +kernel)) (by decide +kernel) (hq _ (.inr ⟨rfl, rfl⟩))
theorem Sim.isUp {t : Str} {v c : Value} {x : V} (B : Base tx mg mb h₀.heap) (hups : C.ups = tx.ups) (i : Inv h₀ σ ρ s.heap) (r : Rel ρ s.heap v x) (hc : (∃ us D, tx.ups t = some us ∧ mg t = some (.ref D) ∧ c = .ref D) ∨ (t = ("ValueError" : Str) ∧ c = .type "ValueError")) :
  Sim h₀ A W (call (.builtin "isinstance") [v, c]) (Mine.Internal.isUp C t x σ) RV ρ s := by
 cases r with
 | @ref a d n er =>
  show Sim h₀ A W _ ((Mine.Internal.getO n >>= fun o => match o with | .exc c _ => Mine.Internal.ofOpt ((C.ups c).map fun us => V.bool (us.contains t)) | _ => M.bad) σ) RV ρ s
  refine Sim.getO fun o hσ => ?_
  cases o with
  | exc k fs =>
   refine Sim.ofOpt fun y hy => ?_
   obtain ⟨us, hus, rfl⟩ := Option.map_eq_some_iff.mp hy
   rw [hups] at hus
   obtain ⟨hf, D, ob, vs, hk, g, h3, _⟩ := i.objs n _ _ hσ er
   obtain ⟨D', bm, h1, X, h2, h4⟩ := B.cls k us hus
   rw [hk.at B.g] at h1; cases h1
   have X' := X.keeps i.base
   obtain ⟨hh, gg, dd, tt, os⟩ := s
   refine Sim.same i fun Q E hQ => isi_exc X' g h3 ?_ fun tk => ?_
   ·rcases hc with ⟨ut, D2, q1, q2, rfl⟩ | ⟨_, rfl⟩
    ·obtain ⟨D3, bm', p1, p2, _⟩ := B.cls t ut q1
     rw [q2] at p1; cases p1
     exact .inl ⟨D2, bm', rfl, p2.keeps i.base⟩
    ·exact .inr rfl
   ·have e : (Value.ref D :: bm).contains c = us.contains t := by
     rcases hc with ⟨ut, D2, q1, q2, rfl⟩ | ⟨rfl, rfl⟩
     ·exact h4 t ut D2 q1 q2
     ·exact h2
    rw [e]
    exact hQ _ tk (.bool _)
  | _ => exact trivial
 | _ => exact trivial
theorem ev_isinstance {f t : Str} {a : Expr} {p q pos : Pos} (B : Base tx mg mb h₀.heap) (hups : C.ups = tx.ups) (hns : NoShadow tx) (ha : EvS h₀ C n a) (hA : Rm h₀ A n C.calm) (F : Frm h₀ env ns loc ρ s.heap) (i : Inv h₀ σ ρ s.heap) (hf : isGlob ns f = true) (hfi : f = ("isinstance" : Str)) (hst : isStarE a = false) (ht : isGlob ns t = true) :
  Sim h₀ A [] (eval (.Call (.Name f p) [a, .Name t q] [] pos) env) ((ev C a ns loc >>= fun v => isiV C t v) σ) RV ρ s := by
 rw [Call_name]
 subst hfi
 refine Sim.head (v := .builtin "isinstance") (fun Q E h => wp_builtin B F i hf (by decide +kernel) (hns _ (by decide +kernel)) bb_isinstance h) ?_
 rw [starEach_cons (fun v p e' => by rw [e'] at hst; cases hst)]
 have go : ∀ (Q : Value → Shared → Prop) (E : Value → Shared → Prop), wpAny (model h₀.prog h₀.w) A (eval a env) (fun v s₁ => wpAny (model h₀.prog h₀.w) A (eval (.Name t q) env) (fun c s₂ => wpAny (model h₀.prog h₀.w) A (call (.builtin "isinstance") [v, c]) Q E s₂) E s₁) E s →
   wpAny (model h₀.prog h₀.w) A (callWith pos (.builtin "isinstance") [] (backTo pos ((false, eval a env) :: starEach [.Name t q] env)) []) Q E s := fun Q E h =>
  Calls.callWith_builtin (by rfl) (Calls.evalArgs_plain (Calls.spliced_cons (wpAny_mono h (fun v s₁ h₁ => Calls.spliced_cons (wpAny_mono h₁ (fun c s₂ h₂ => Calls.spliced_nil h₂) fun ya yb x => x)) fun ya yb x => x)))
 have this := ha env ns loc σ ρ s A hA F i
 cases h1 : ev C a ns loc σ with
 | bad => rw [bind_bad h1]; exact trivial
 | exc _ _ => rw [bind_exc h1]; rw [h1] at this; exact go _ _ (wpAny_mono this (fun ya yb f => f.elim) fun ya yb x => x)
 | ok v σ₁ =>
  rw [bind_ok h1]
  rw [h1] at this
  have go2 : ∀ (Q : Value → Shared → Prop) (E : Value → Shared → Prop), isiV C t v σ₁ ≠ .bad → (∀ val c ρ₁ H tk, Ext [] ρ s.heap ρ₁ H → Sim h₀ A [] (call (.builtin "isinstance") [val, c]) (isiV C t v σ₁) RV ρ₁ (At s H tk) → wpAny (model h₀.prog h₀.w) A (call (.builtin "isinstance") [val, c]) Q E (At s H tk)) →
    wpAny (model h₀.prog h₀.w) A (callWith pos (.builtin "isinstance") [] (backTo pos ((false, eval a env) :: starEach [.Name t q] env)) []) Q E s := fun Q E hb hq => by
   refine go _ _ (wpAny_mono this (fun val s₁ hp => ?_) fun ya yb x => x.elim)
   obtain ⟨ρ₁, H, tk, rfl, i₁, x₁, r₁⟩ := hp
   have e0 : isiV C t v σ₁ = isiV C t v σ₁ := rfl
   unfold isiV at hb e0
   cases hk : kdOf t with
   | some k =>
    obtain ⟨hn, hbb⟩ := kd_names hk
    refine wp_builtin B (F.ext0 x₁) i₁ ht hn (hns _ hn) hbb (hq _ _ ρ₁ H tk x₁ ?_)
    rw [show isiV C t v = isKd k v by unfold isiV; rw [hk]]
    exact Sim.isKd i₁ r₁
   | none =>
    rw [hk] at hb
    by_cases hu : ((C.ups t).isSome || t == ("ValueError" : Str)) = true
    ·refine ask_name (s := (At s H tk)) B hns (F.ext0 x₁) i₁ ht (by rw [← hups]; exact hu) fun c hc => hq _ _ ρ₁ H tk x₁ ?_
     rw [show isiV C t v = Mine.Internal.isUp C t v by unfold isiV; rw [hk]; dsimp only; rw [if_pos hu]]
     exact Sim.isUp B hups i₁ r₁ hc
    ·dsimp only at hb; rw [if_neg hu] at hb; exact absurd rfl hb
  cases h2 : isiV C t v σ₁ with
  | bad => exact trivial
  | exc _ _ => exact go2 _ _ (by rw [h2]; exact nofun) fun val c ρ₁ H tk x hs => by rw [h2] at hs; exact wpAny_mono hs (fun ya yb f => f) fun ya yb hp => hp.after x
  | ok u σ₂ => exact go2 _ _ (by rw [h2]; exact nofun) fun val c ρ₁ H tk x hs => by rw [h2] at hs; exact wpAny_mono hs (fun ya yb hp => hp.after x) fun ya yb f => f
variable (h₀ C n) in
noncomputable def IsiS (es : List Expr) : Prop := ∀ (f : Str) (p pos : Pos) (env : Env) (ns : Names) (loc : Loc) (σ : Store) (ρ : Map) (s : Shared) (A : Around), Rm h₀ A n C.calm → Frm h₀ env ns loc ρ s.heap → Inv h₀ σ ρ s.heap → isGlob ns f = true → f = ("isinstance" : Str) → noStars es = true →
 Sim h₀ A [] (eval (.Call (.Name f p) es [] pos) env) (evIsi C es ns loc σ) RV ρ s
theorem Sim.bltQ {f : Str} {fv : Value} {vals : List Value} {vs : List V} (hb : bootBuiltins f = some fv) (i : Inv h₀ σ ρ s.heap) (r : RelAll ρ s.heap vals vs) :
  Sim h₀ A W (call fv vals) (Mine.Internal.bltQ f vs σ) RV ρ s := by
 cases r with
 | nil => exact trivial
 | cons ra rn => cases rn with
  | cons _ _ => exact trivial
  | nil =>
   refine Sim.ite fun hf => ?_
   subst hf; rw [bb_int] at hb; cases hb
   exact Sim.bInt i ra
theorem cw_cls {pos : Pos} {K N : Addr} {mN : Str → Option Value} {es : List Expr} {Q : Value → Shared → Prop} {E : Value → Shared → Prop} (X : ClsAt h₀.heap K N mN) (hst : ∀ e ∈ es, ∀ v p, e ≠ .Starred v p)
  (h : wpAny (model h₀.prog h₀.w) A (spliced (backTo pos (starEach es env))) (fun vs s₁ => (∀ b o, h₀.get? b = some o → s₁.heap.get? b = some o) ∧ wpAny (model h₀.prog h₀.w) A (call (.ref K) ([] ++ vs)) Q E s₁) E s) :
  wpAny (model h₀.prog h₀.w) A (callWith pos (.ref K) [] (backTo pos (starEach es env)) []) Q E s := by
 have hno := (noStar (env := env) (pos := pos) hst).1
 have hst' : ((backTo pos (starEach es env)).any (fun x => x.fst) || ([] : List (Option Str × Sem Value)).any fun x => x.fst.isNone) = false := by rw [hno]; rfl
 unfold callWith
 refine wpAny_bind (wpAny_holding (evalArgs_any hst (wpAny_mono h (fun vs s₁ h₁ => ?_) fun ya yb x => x)))
 obtain ⟨hh, g, d, t, os⟩ := s₁
 obtain ⟨nm, q, bs, sn, sub, col, dd, k0, k1, k2, k3, k5, hC⟩ := (X.keeps h₁.1).obj
 have f1 := tc_lookup
 have hT : (⟨hh, g, d, t, os⟩ : Shared).TypeIs (.ref K) "type" := ⟨_, hC, rfl⟩
 refine wpAny_bind (wpAny_standAt ?_)
 show wpAny _ _ (keeperOf (.ref K) >>= _) _ _ _
 unfold keeperOf specialOf
 repeat (any_goals (first | assumption | with_reducible refine wpAny_loadPart_at hC ?_ | with_reducible refine wpAny_load' hC ?_ | wp_step))
 rw [if_pos (by rfl), hst']
 show wpAny _ _ (call (.ref K) vs [] >>= fun r => do holding [r] point; pure r) _ _ _
 exact wpAny_bind (wpAny_mono h₁.2 (fun r s' hr => wpAny_bind (wpAny_holding (wpAny_point (wpAny_pure hr)))) fun ya yb x => x)
theorem ev_callName {f : Str} {es : List Expr} {p pos : Pos} (B : Base tx mg mb h₀.heap) (hfn : ∀ f, C.isFn f = (tx.fns f).isSome) (hcl : C.cls = tx.cls) (hC : CallS h₀ tx C n) (hes : EvsS h₀ C n es)
  (hisi : IsiS h₀ C n es) : EvS h₀ C n (.Call (.Name f p) es [] pos) := fun env ns loc σ ρ s A hA F i => by
 show Sim h₀ A [] _ ((if callOk C ns f es = true then
   (if f = ("isinstance" : Str) then evIsi C es ns loc
   else (evs C es ns loc >>= fun vs => callGlob C f vs)) else M.bad) σ) RV ρ s
 refine Sim.ite fun hc => ?_
 unfold callOk at hc
 rw [Bool.and_eq_true, Bool.and_eq_true] at hc
 obtain ⟨hf, hst, hfb⟩ := hc
 refine Sim.ite2 (fun hi => hisi f p pos env ns loc σ ρ s A hA F i hf hi hst) fun hi => ?_
 rw [Call_name]
 cases hfun : tx.fns f with
 | some fn =>
  obtain ⟨a, hm, ok⟩ := B.fn f fn hfun
  obtain ⟨o, fd, ho, hd, _⟩ := id ok
  have hisf : C.isFn f = true := by rw [hfn, hfun]; rfl
  refine Sim.head (v := .ref a) (fun Q E h => wp_global B F i hf hm h) ?_
  refine Sim.args hst hes hA F i (fun Q E hst h => cw_function ho hd hst h) fun l σ₁ ρ₁ H tk vs i₁ x₁ r₁ => ?_
  show Sim h₀ A [] _ ((if C.isFn f = true then C.call f l else _) σ₁) RV ρ₁ _
  rw [if_pos hisf]
  exact hC f fn a l vs σ₁ ρ₁ _ A hA.weak (by unfold Tabs.at; rw [hfun]; rfl) ok r₁ i₁
 | none =>
  have hisf : C.isFn f = false := by rw [hfn, hfun]; rfl
  cases hcf : tx.cls f with
  | some ms =>
   obtain ⟨K, N, mN, hm, O⟩ := B.own f ms hcf
   have e : callGlob C f = fun vs => Mine.Internal.mkI C f vs := by funext l; unfold callGlob; rw [hisf, hcl, hcf]; rfl
   rw [e]
   refine Sim.head (v := .ref K) (fun Q E h => wp_global B F i hf hm h) ?_
   exact Sim.args hst hes hA F i (fun Q E hst h => cw_cls O.cls hst h) fun l σ₁ ρ₁ H tk vs i₁ x₁ r₁ => Sim.mkI B O hm hC hA i₁ r₁
  | none =>
   have e : callGlob C f = fun vs => if C.calm = true then blt f vs else Mine.Internal.bltQ f vs := by funext l; unfold callGlob; rw [hisf, hcl, hcf]; rfl
   rw [e]
   obtain ⟨hn, hb⟩ := bltTab_is (by rw [hisf, hcl, hcf] at hfb; exact hfb)
   have k : ∀ {fv : Value}, bootBuiltins f = some fv → ∀ l σ₁ ρ₁ H tk vs, Inv h₀ σ₁ ρ₁ H → Ext [] ρ s.heap ρ₁ H → RelAll ρ₁ H vs l → Sim h₀ A [] (call fv vs) ((if C.calm = true then blt f l else Mine.Internal.bltQ f l) σ₁) RV ρ₁ (At s H tk) := fun hb l σ₁ ρ₁ H tk vs i₁ x₁ r₁ =>
    Sim.ite2 (fun hq => Sim.blt B.nolimit (hA.handled hq) hb i₁ r₁) fun ya => Sim.bltQ hb i₁ r₁
   rcases hb with ⟨id, hb⟩ | ⟨T, hb⟩
   ·refine Sim.head (v := .builtin id) (fun Q E h => wp_builtin B F i hf hn hfun hb h) ?_
    exact Sim.args hst hes hA F i (fun Q E hst h => cw_builtin hst h) (k hb)
   ·refine Sim.head (v := .type T) (fun Q E h => wp_builtin B F i hf hn hfun hb h) ?_
    exact Sim.args hst hes hA F i (fun Q E hst h => cw_type hst h) (k hb)
end
end Mine.Internal

set_option backward.match.sparseCases false
namespace Mine.Internal
open PySem PyProof.Rows
section
variable {h₀ : Bse} {A : Around} {W : List Addr} {ρ : Map} {s : Shared} {σ : Store} {tx : Tabs} {mg mb : Str → Option Value}
variable {env : Env} {ns : Names} {loc : Loc} {C : Cfg} {n : Nat}
theorem attributeBase_plain {o : Expr} {m : Str} {whole : Sem Value} (h : isSuper o = false) : attributeBase o m env whole = whole := by
 cases o with
 | Call f as ks p =>
  cases f <;> first | rfl | (cases as <;> first | rfl | (cases ks <;> first | rfl | cases h))
 | _ => rfl
inductive BTag where
 | append | join | index
noncomputable def BTag.tag : BTag → MTag
 | .append => .append
 | .join => .join
 | .index => .index
noncomputable def BTag.T : BTag → String
 | .append => "list"
 | .join => "str"
 | .index => "list"
noncomputable def BTag.name : BTag → Str
 | .append => "append"
 | .join => "join"
 | .index => "index"
noncomputable def BTag.id : BTag → String
 | .append => "list.append"
 | .join => "str.join"
 | .index => "list.index"
theorem BTag.attrs (t : BTag) : PlainAttrs t.T := by
 cases t with
 | append => exact F.plainAttrs_list
 | join => exact F.plainAttrs_str
 | index => exact F.plainAttrs_list
theorem BTag.slot (t : BTag) : Slot t.T t.name t.id := by
 cases t with
 | append => exact F.slot_list_append
 | join => exact F.slot_str_join
 | index => exact F.slot_list_index
theorem BTag.type (t : BTag) : typeOf (.builtin t.id) = pure (.type "method_descriptor") := by
 cases t with
 | append => exact F.type_list_append
 | join => exact F.type_str_join
 | index => exact F.type_list_index
inductive TagQ (h₀ : Bse) (tx : Tabs) (mg : Str → Option Value) (ρ : Map) (s : Shared) (v : Value) (m : Str) : MTag → Prop
 | blt (t : BTag) : m = t.name → s.TypeIs v t.T → (∀ a, v = .ref a → ∃ o, s.heap.get? a = some o ∧ o.dict = none) → TagQ h₀ tx mg ρ s v m t.tag
 | own {c : Str} {ms : List Str × List Str} {a K N : Addr} {mN mA : Str → Option Value} : v = .ref a → s.heap.Inst a K mA → OwnCls tx h₀.heap c ms K N mN → m ∈ ms.1 → mA m = none → TagQ h₀ tx mg ρ s v m (.own c)
theorem mtag_is {v : Value} {x : V} {m : Str} {t : MTag} (B : Base tx mg mb h₀.heap) (hcl : C.cls = tx.cls) (i : Inv h₀ σ ρ s.heap) (r : Rel ρ s.heap v x) (h : mtag C x m σ = some t) : TagQ h₀ tx mg ρ s v m t := by
 cases r with
 | str _ tk _ =>
  have h : (if m = ("join" : Str) then some MTag.join else none) = some t := h
  by_cases e : m = ("join" : Str)
  ·rw [if_pos e] at h; cases h
   exact .blt .join e (typeIs_str s _ tk) fun ya e => nomatch e
  ·rw [if_neg e] at h; cases h
 | @ref a d k er =>
  have h : (if isListAt σ k = true then (if m = ("append" : Str) then some MTag.append else if m = ("index" : Str) then some MTag.index else none) else (ownM C m σ k).map MTag.own) = some t := h
  by_cases hl : isListAt σ k = true
  ·rw [if_pos hl] at h
   have hl : ∃ l, σ[k]? = some (.list l) := by
    unfold isListAt at hl
    cases e : σ[k]? with
    | none => rw [e] at hl; cases hl
    | some o =>
     rw [e] at hl
     cases o with
     | list l => exact ⟨l, rfl⟩
     | _ => cases hl
   obtain ⟨l, e⟩ := hl
   obtain ⟨vs, j, g, _, _⟩ := i.list e er
   have hd : ∀ b, Value.ref a = .ref b → ∃ o, s.heap.get? b = some o ∧ o.dict = none := fun b e => by cases e; exact ⟨_, g, rfl⟩
   by_cases e1 : m = ("append" : Str)
   ·rw [if_pos e1] at h; cases h
    exact .blt .append e1 (isList_of g).typeIs hd
   ·rw [if_neg e1] at h
    by_cases e2 : m = ("index" : Str)
    ·rw [if_pos e2] at h; cases h
     exact .blt .index e2 (isList_of g).typeIs hd
    ·rw [if_neg e2] at h; cases h
  ·rw [if_neg hl] at h
   obtain ⟨c, hc, rfl⟩ := Option.map_eq_some_iff.mp h
   unfold ownM at hc
   obtain ⟨c', h1, hc⟩ := Option.bind_eq_some_iff.mp hc
   obtain ⟨ms, h2, hc⟩ := Option.bind_eq_some_iff.mp hc
   obtain ⟨l, h3, hc⟩ := Option.bind_eq_some_iff.mp hc
   by_cases hm : (ms.1.contains m && (l.lookup m).isNone) = true
   case neg => rw [if_neg hm] at hc; cases hc
   rw [if_pos hm] at hc; cases hc
   rw [Bool.and_eq_true] at hm
   obtain ⟨j, e1⟩ := instAt_is h1
   obtain ⟨K, dx, d', mA, q⟩ := i.instQ e1 (fldsAt_is e1 h3) er
   rw [hcl] at h2
   obtain ⟨K', N, mN, hg, O⟩ := B.own c ms h2
   rw [q.cls.at B.g] at hg; cases hg
   exact .own rfl q.inst O (List.contains_iff_mem.mp hm.1) (q.flds.no m (Option.isNone_iff_eq_none.mp hm.2))
 | _ => cases h
theorem Sim.runM {t : BTag} {v : Value} {x : V} {m : Str} {vals : List Value} {vs : List V} (hu : A.units + 201 < cLine) (i : Inv h₀ σ ρ s.heap) (r : Rel ρ s.heap v x) (rs : RelAll ρ s.heap vals vs) : Sim h₀ A W (call (.builtin t.id) (v :: vals)) (runM C m t.tag x vs σ) RV ρ s := by
 cases rs with
 | nil => cases t <;> exact trivial
 | cons ra rn => cases rn with
  | nil => cases t with
   | append => exact Sim.mAppend i r ra
   | join => exact Sim.mJoin i r ra
   | index => exact Sim.mIndex hu i r ra
  | cons _ _ => cases t <;> exact trivial
theorem lookup_object (m : Str) : ∃ y, typeLookup (.type "object") m = pure y := by
 rw [typeLookup_type]
 have : (builtinLookup "object" m).isSome = true := by
  unfold builtinLookup
  rw [show builtinMro "object" = some [.type "object"] by kernel_rfl]
  rfl
 cases e : builtinLookup "object" m with
 | none => rw [e] at this; cases this
 | some y => exact ⟨y, rfl⟩
theorem ev_callMeth {o : Expr} {m : Str} {ap pos : Pos} {es : List Expr} (B : Base tx mg mb h₀.heap) (hcl : C.cls = tx.cls) (hC : CallS h₀ tx C n) (ho : EvS h₀ C n o) (hes : EvsS h₀ C n es) : EvS h₀ C n (.Call (.Attribute o m ap) es [] pos) := fun env ns loc σ ρ s A hA F i => by
 show Sim h₀ A [] _ ((if ap.endLine = pos.line ∧ es.length < 30 ∧ isSuper o = false ∧ noStars es = true then (ev C o ns loc >>= fun v => askS (mtag C v m) >>= fun tg => evs C es ns loc >>= fun vs => runM C m tg v vs) else M.bad) σ) RV ρ s
 refine Sim.ite fun hc => ?_
 obtain ⟨h1, h2, h3, hst⟩ := hc
 rw [arm_eval_Call, attributeBase_plain h3]
 refine Sim.bind (ho env ns loc σ ρ s A hA F i) fun a σ₁ ρ₁ H₁ tk₁ va i₁ x₁ r₁ => Sim.standAt ?_
 refine Sim.askThen fun t ht => ?_
 have hform : methodCallForm (es.length + ([] : List Keyword).length) (backTo pos (starEach es env)) (backToKw pos (keywordEach [] env)) = true := by
  show ((backTo pos (starEach es env)).all (fun x => !x.1) && true && decide (es.length + 0 + 0 < 30)) = true
  rw [(noStar (noStars_of hst)).2]; simpa using h2
 have hpos : methodCallPos true o env ap pos = pure pos := by
  unfold methodCallPos
  rw [if_pos (by simp [h1])]
 cases mtag_is (s := (At s H₁ tk₁)) B hcl i₁ r₁ ht with
 | blt t hm hT hd =>
  subst hm
  refine Sim.wrap (t := callWith pos (.builtin t.id) [va] (backTo pos (starEach es env)) []) (fun Q E h => ?_) ?_
  ·unfold methodCall
   rw [hform]
   refine wpAny_bind (wpAny_holding (getMethod_builtin hT t.attrs t.slot t.type hd ?_))
   exact wpAny_bind (wpAny_of_eq hpos h)
  ·exact Sim.args hst hes hA (F.ext0 x₁) i₁ (fun Q E hst h => cw_builtin hst h) fun l σ₁ ρ₁ H tk vs i₁ x₁ r => Sim.runM hA.u i₁ (r₁.ext x₁) r
 | @own c ms b K N mN mA hv hI O hm hno =>
  subst hv
  obtain ⟨fa, fn, of, hf, hfn, ok, hof, hfc⟩ := O.meth m hm
  obtain ⟨o', fd, ho', hd', _⟩ := id ok
  have X := O.cls.keeps i₁.base
  obtain ⟨nm, qn, bs, sn, sub, col, dd, k0, k1, k2, k3, k5, hK⟩ := X.obj
  obtain ⟨y, hy⟩ := lookup_object m
  refine Sim.wrap (t := callWith pos (.ref fa) [.ref b] (backTo pos (starEach es env)) []) (fun Q E h => ?_) ?_
  ·unfold methodCall
   rw [hform]
   obtain ⟨hh, g, d, tk, os⟩ := s
   refine wpAny_bind (wpAny_holding (method_of hK X.ns O.ga O.gh hf (i₁.base _ _ hof) hfc hy hI hno ?_))
   exact wpAny_bind (wpAny_of_eq hpos h)
  ·exact Sim.args hst hes hA (F.ext0 x₁) i₁ (fun Q E hst h => cw_function ho' hd' hst h) fun l σ₁ ρ₁ H tk vs i₁ x₁ r => hC _ fn fa _ _ _ _ _ A hA.weak hfn ok (.cons (r₁.ext x₁) r) i₁
theorem ev_attr {o : Expr} {m : Str} {pos : Pos} (B : Base tx mg mb h₀.heap) (hcl : C.cls = tx.cls) (ho : EvS h₀ C n o) : EvS h₀ C n (.Attribute o m pos) := fun env ns loc σ ρ s A hA F i => by
 show Sim h₀ A [] _ ((if isSuper o = false then (ev C o ns loc >>= fun v => attrV C m v) else M.bad) σ) RV ρ s
 refine Sim.ite fun hc => ?_
 rw [arm_eval_Attribute, attributeBase_plain hc]
 refine Sim.bind (ho env ns loc σ ρ s A hA F i) fun a σ₁ ρ₁ H₁ tk₁ va i₁ x₁ r₁ => Sim.standAt ?_
 exact Sim.behind (fun v s' Q E hq => wpAny_letTemporaryGo hq) (Sim.holding (Sim.attrV B hcl i₁ r₁))
end
end Mine.Internal

set_option backward.match.sparseCases false
namespace Mine.Internal
open PySem PyProof.Rows
noncomputable def KeepBut (wr : List Addr) (h h' : Heap) : Prop := ∀ b o, b ∉ wr → h.get? b = some o → h'.get? b = some o
section
variable {h₀ : Bse} {hb : Heap} {A : Around} {W wr : List Addr} {ρ ρ' ρb : Map} {h h' : Heap} {s : Shared} {σ : Store}
theorem KeepBut.refl : KeepBut wr h h := fun ya yb yc e => e
theorem KeepBut.trans {h'' : Heap} (x : KeepBut wr h h') (y : KeepBut wr h' h'') : KeepBut wr h h'' := fun b o hb e => y b o hb (x b o hb e)
theorem KeepBut.of_but {a : Addr} (x : Heap.ExtBut a h h') (ha : a ∈ wr) : KeepBut wr h h' := fun b o hb e => x b o (fun eq => hb (eq ▸ ha)) e
theorem Ext.but (x : Ext W ρb hb ρ h) (hk : KeepBut wr h h') (hd : ∀ b ∈ wr, hb.get? b = none) : Ext W ρb hb ρ h' := by
 have out : ∀ b o, hb.get? b = some o → b ∉ wr := fun b o e hm => by rw [hd b hm] at e; cases e
 exact {
  pre := fun n a v e => let ⟨v', e', l, k⟩ := x.pre n a v e; ⟨v', e', l, fun q o g d => hk a o (out a o g) (k q o g d)⟩
  keep := fun b o e hW hρ => let ⟨o', e', s'⟩ := x.keep b o e hW hρ; ⟨o', hk b o' (out b o e) e', s'⟩
  kin := fun b o e => let ⟨o', e', k⟩ := x.kin b o e; ⟨o', hk b o' (out b o e) e', k⟩
  new := x.new }
noncomputable def Own (wr : List Addr) (ρ : Map) (h : Heap) : Prop := ∀ b ∈ wr, offMap ρ b ∧ ∃ o, h.get? b = some o ∧ (∀ vs n, o ≠ tupO vs n) ∧ ¬TbO o
noncomputable def NoFr (h₀ : Bse) (wr : List Addr) : Prop := ∀ b ∈ wr, ∀ e ∈ h₀.frs, e.frame ≠ some b
theorem Inv.noFr (i : Inv h₀ σ ρ h) (hd : ∀ b ∈ wr, h.get? b = none) : NoFr h₀ wr := fun b hb e he q => by
 obtain ⟨_, L, o, hL, ho, _⟩ := i.up e he
 rw [hL] at q; cases q
 rw [hd b hb] at ho; cases ho
theorem KeepBut.sub (hk : KeepBut wr h h') (ho : Own wr ρ h) : Sub ρ h ρ h' := ⟨fun ya yb v e => ⟨v, e⟩, fun b vs n e => hk b _ (fun hm => by
 obtain ⟨_, o, e', hn, _⟩ := ho b hm
 rw [e] at e'; cases e'; exact hn vs n rfl) e, fun b o e t => ⟨o, hk b o (fun hm => by
 obtain ⟨_, o', e', _, hn⟩ := ho b hm
 rw [e] at e'; cases e'; exact hn t) e, t⟩⟩
theorem Inv.but (i : Inv h₀ σ ρ h) (hk : KeepBut wr h h') (ho : Own wr ρ h) (h0 : ∀ b ∈ wr, h₀.get? b = none) (hfr : NoFr h₀ wr) : Inv h₀ σ ρ h' where
 base := fun b o e => hk b o (fun hm => by rw [h0 b hm] at e; cases e) (i.base b o e)
 len := i.len
 objs := fun n o p e1 e2 => (i.objs n o p e1 e2).sub (hk.sub ho) (fun ob g => hk _ _ (fun hm => (ho _ hm).1 p (List.mem_of_getElem? e2) rfl) g)
 fresh := i.fresh
 apart := i.apart
 up := fun e he => by
  obtain ⟨hkd, L, o, hL, g, r⟩ := i.up e he
  exact ⟨hkd, L, o, hL, hk _ _ (fun hm => hfr L hm e he hL) g, r⟩
theorem Frm.but {env : Env} {ns : Names} {loc : Loc} (F : Frm h₀ env ns loc ρ h) (hk : KeepBut wr h h') (ho : Own wr ρ h) (hf : ∀ b ∈ wr, offFrame env b) : Frm h₀ env ns loc ρ h' := by
 have hloc : env.locals ∉ wr := fun hm => (hf _ hm).1 rfl
 have hcell : ∀ x c, env.cells.lookup x = some c → c ∉ wr := fun x c e hm => (hf _ hm).2 x c e rfl
 have hs := hk.sub ho
 exact {
  names := F.names
  kind := F.kind
  globals := F.globals
  blts := F.blts
  vars := by
   obtain ⟨m, hn, hv⟩ := F.vars
   obtain ⟨o, es, ep, ho, r⟩ := hn
   refine ⟨m, ⟨o, es, ep, hk _ _ hloc ho, r⟩, fun y i v h1 h2 => ?_⟩
   obtain ⟨val, e, hr⟩ := hv y i v h1 h2
   exact ⟨val, e, hr.sub hs⟩
  cell := fun y i h1 => by
   obtain ⟨c, o, e, ⟨ob, hob, hd⟩, hv⟩ := F.cell y i h1
   refine ⟨c, o, e, ⟨ob, hk _ _ (hcell _ _ e) hob, hd⟩, fun v hl => ?_⟩
   obtain ⟨val, e', hr⟩ := hv v hl
   exact ⟨val, e', hr.sub hs⟩
  live := fun y c e => by
   obtain ⟨o, ob, hob, hd⟩ := F.live y c e
   exact ⟨o, ob, hk _ _ (hcell _ _ e) hob, hd⟩
  offL := F.offL
  offC := F.offC
  apart := F.apart
  top := F.top }
inductive ItAt (h₀ : Bse) : Src → Value → List Addr → Nat → Map → Heap → Prop
 | tup {l : List V} {I t : Addr} {vs : List Value} {n i : Nat} {ρ : Map} {h : Heap} : h.IsTupleIter I t i → h.get? t = some (tupO vs n) → RelAll ρ h vs l → offMap ρ I → ItAt h₀ (.vals l) (.ref I) [I] i ρ h
 | range {a b : Int} {I : Addr} {i : Nat} {ρ : Map} {h : Heap} : IsRangeIter h I (a + i) (((b - a).toNat : Int) - i) 1 → offMap ρ I → ItAt h₀ (.vals (rangeV a b)) (.ref I) [I] i ρ h
 | lst {n d : Nat} {I l : Addr} {i : Nat} {ρ : Map} {h : Heap} : h.IsListIter I l i → ρ[n]? = some (l, d) → offMap ρ I → ItAt h₀ (.lst n) (.ref I) [I] i ρ h
theorem IsTupleIter.keep {I t : Addr} {i : Nat} (x : h.IsTupleIter I t i) (e : ∀ o, h.get? I = some o → h'.get? I = some o) : h'.IsTupleIter I t i := let ⟨o, ho, r⟩ := x; ⟨o, e _ ho, r⟩
theorem firm_fields {o : Obj} {T : String} {vs : Array Value} (hc : o.cls = .type T) (hT : T ≠ "traceback") (ht : T ≠ "tuple") (hd : o.data = .fields vs) : (∀ ws n, o ≠ tupO ws n) ∧ Firm o :=
 ⟨fun ws n e => (by rw [e] at hc; exact ht (Value.type.inj hc).symm), fun ⟨_, _, e⟩ => (by rw [hd] at e; cases e), fun ⟨e, _⟩ => (by rw [hc] at e; exact hT (Value.type.inj e))⟩
theorem ItAt.firm {sr : Src} {it : Value} {i : Nat} (x : ItAt h₀ sr it wr i ρ h) : ∀ b ∈ wr, offMap ρ b ∧ ∃ o, h.get? b = some o ∧ (∀ vs n, o ≠ tupO vs n) ∧ Firm o := by
 cases x with
 | tup hit _ _ off =>
  obtain ⟨o, ho, hc, hd⟩ := hit
  intro b hb
  rw [List.mem_singleton.mp hb]
  exact ⟨off, o, ho, firm_fields hc (by decide) (by decide) hd⟩
 | range hit off =>
  intro b hb
  rw [List.mem_singleton.mp hb]
  exact ⟨off, _, hit, firm_fields rfl (by decide) (by decide) rfl⟩
 | lst hit _ off =>
  obtain ⟨o, ho, hc, hd⟩ := hit
  intro b hb
  rw [List.mem_singleton.mp hb]
  exact ⟨off, o, ho, firm_fields hc (by decide) (by decide) hd⟩
theorem ItAt.own {sr : Src} {it : Value} {i : Nat} (x : ItAt h₀ sr it wr i ρ h) : Own wr ρ h := fun b hb => let ⟨h1, o, h2, h3, h4⟩ := x.firm b hb; ⟨h1, o, h2, h3, h4.2⟩
theorem ItAt.ext {sr : Src} {it : Value} {i : Nat} (x : Ext W ρ h ρ' h') (hW : ∀ b ∈ wr, b ∉ W) (r : ItAt h₀ sr it wr i ρ h) : ItAt h₀ sr it wr i ρ' h' := by
 have ho := r.firm
 have hk : ∀ b ∈ wr, ∀ o, h.get? b = some o → h'.get? b = some o := fun b hb o e => by
  obtain ⟨off, o', e', _, f⟩ := ho b hb
  rw [e] at e'; cases e'
  exact x.firm e f (hW b hb) off
 have hoff : ∀ b ∈ wr, offMap ρ' b := fun b hb => by
  obtain ⟨off, o, e, _⟩ := ho b hb
  exact offMap.ext x e off
 cases r with
 | tup hit g ra off => exact .tup (IsTupleIter.keep hit (hk _ (List.mem_singleton.mpr rfl))) (x.tups _ _ _ g) (ra.ext x) (hoff _ (List.mem_singleton.mpr rfl))
 | range hit off => exact .range (hk _ (List.mem_singleton.mpr rfl) _ hit) (hoff _ (List.mem_singleton.mpr rfl))
 | lst hit e off => obtain ⟨_, e', _⟩ := x.pre _ _ _ e; exact .lst (hit.at (hk _ (List.mem_singleton.mpr rfl))) e' (hoff _ (List.mem_singleton.mpr rfl))
set_option backward.match.sparseCases true in
theorem letGo_plain {target : Expr} {I : Addr} {v : Value} {o : Obj} {T : String} {Q : Unit → Shared → Prop} {E : Value → Shared → Prop} (ho : s.heap.get? I = some o) (hc : o.cls = .type T)
  (hT : ["enumerate", "zip", "dict_itemiterator", "dict_reverseitemiterator", "odict_iterator", "itertools.zip_longest", "itertools.pairwise"].contains T = false) (h : Q () s) : wpAny (model h₀.prog h₀.w) A (letOwnedTupleGo target (.ref I) v) Q E s := by
 have key : ∀ f : Expr, (letOwnedTupleGo f (.ref I) v = Pure.pure () ∨ letOwnedTupleGo f (.ref I) v = (match v with
   | .ref a => (load I >>= fun o => match o.cls, o.data with
    | .type n, .fields vs => if (["enumerate", "zip", "dict_itemiterator", "dict_reverseitemiterator", "odict_iterator", "itertools.zip_longest", "itertools.pairwise"].contains n && vs[0]? == some (rawInt a)) = true then
      (rule "for.unpacks-the-owned-tuple" >>= fun ya => updateField I 0 .none) else Pure.pure ()
    | _, _ => Pure.pure ())
   | _ => Pure.pure ())) := by
  intro f
  cases f <;> first | exact .inl rfl | (right; cases v <;> rfl)
 rcases key target with e | e
 ·rw [e]; exact wpAny_pure h
 ·rw [e]
  cases v with
  | ref a =>
   refine wpAny_bind (wpAny_load ho ?_)
   rw [hc]
   cases o.data with
   | fields vs =>
    show wpAny _ _ (if (["enumerate", "zip", "dict_itemiterator", "dict_reverseitemiterator", "odict_iterator", "itertools.zip_longest", "itertools.pairwise"].contains T && _) = true then _ else _) _ _ _
    rw [hT]
    exact wpAny_pure h
   | _ => exact wpAny_pure h
  | _ => exact wpAny_pure h
theorem listAt_some {n : Nat} {o : Option (Option V)} {f : List V → Option V} {r : Option V} (h : (listAt σ n).map f = some r) : ∃ l, σ[n]? = some (.list l) ∧ f l = r := by
 unfold listAt at h
 cases e : σ[n]? with
 | none => rw [e] at h; cases h
 | some ob =>
  rw [e] at h
  cases ob with
  | list l => exact ⟨l, rfl, Option.some.inj h⟩
  | dict _ _ => cases h
  | inst _ _ => cases h
  | flds _ => cases h
  | exc _ _ => cases h
noncomputable def NextNo (s : Shared) (wr : List Addr) (Q : Option Value → Shared → Prop) (o : Option V) : Prop := ∀ h', o = none → KeepBut wr s.heap h' → Q none { s with heap := h' }
noncomputable def LetGoes (h₀ : Bse) (A : Around) (s : Shared) (ρ : Map) (target : Expr) (wr : List Addr) (sr : Src) (it : Value) (i : Nat) (val : Value) (v : V) (h' : Heap) (tk : Nat) : Prop :=
 ∀ (Q' : Unit → Shared → Prop) (E' : Value → Shared → Prop), (∀ h'', KeepBut wr s.heap h'' → Rel ρ h'' val v → ItAt h₀ sr it wr (i + 1) ρ h'' → Q' () (At s h'' tk)) → wpAny (model h₀.prog h₀.w) A (letOwnedTupleGo target it val) Q' E' (At s h' tk)
noncomputable def NextYes (h₀ : Bse) (A : Around) (s : Shared) (ρ : Map) (target : Expr) (Q : Option Value → Shared → Prop) (wr : List Addr) (sr : Src) (it : Value) (i : Nat) (o : Option V) : Prop :=
 ∀ v val h' tk, o = some v → KeepBut wr s.heap h' → LetGoes h₀ A s ρ target wr sr it i val v h' tk → Q (some val) (At s h' tk)
theorem ItAt.next {sr : Src} {it : Value} {i : Nat} {o : Option V} {target : Expr} {Q : Option Value → Shared → Prop} {E : Value → Shared → Prop} (hA : A.handled = none) (x : ItAt h₀ sr it wr i ρ s.heap) (iv : Inv h₀ σ ρ s.heap) (e : sr.at σ i = some o)
  (htg : tgtOk sr target = true) (h1 : NextNo s wr Q o) (h2 : NextYes h₀ A s ρ target Q wr sr it i o) :
  wpAny (model h₀.prog h₀.w) A (pyNext it) Q E s := by
 have own := x.own
 cases x with
 | @tup l I t vs n _ _ _ hit g ra off =>
  cases e
  have hne : t ≠ I := fun eq => by
   obtain ⟨o, ho, hc, _⟩ := hit
   rw [← eq, g] at ho; cases ho; exact absurd (Value.type.inj hc) (by decide)
  cases hl : l[i]? with
  | none =>
   exact wpAny_pyNext_tuple_end hA hit (isTuple_of g) (by simpa using ra.get_none hl) fun h' hx => h1 h' hl (KeepBut.of_but hx (List.mem_singleton.mpr rfl))
  | some v =>
   obtain ⟨val, hv, r⟩ := ra.get hl
   refine wpAny_pyNext_tuple_item hit (isTuple_of g) (x := val) (by simpa using hv) fun h' hit' hx => ?_
   have hk := KeepBut.of_but (wr := [I]) hx.extBut (List.mem_singleton.mpr rfl)
   have hs := hk.sub own
   refine h2 v val h' s.toks hl hk fun Q' E' hq => ?_
   obtain ⟨ob, hob, hc, _⟩ := id hit'
   exact letGo_plain (s := { s with heap := h' }) hob hc (by decide) (hq h' hk (r.sub hs) (.tup hit' (hs.2.1 _ _ _ g) (ra.sub hs) off))
 | @range a b I _ _ _ hit off =>
  cases e
  rw [rangeV_get] at h1 h2
  by_cases hlt : i < (b - a).toNat
  ·rw [if_pos hlt] at h2
   refine wpAny_pyNext_range_item hit (by (first | lia | omega)) fun h' hit' hx => ?_
   have hk := KeepBut.of_but (wr := [I]) hx.extBut (List.mem_singleton.mpr rfl)
   refine h2 _ _ h' (s.toks + 1) rfl hk fun Q' E' hq => ?_
   refine letGo_plain (s := (At s h' (s.toks + 1))) hit' rfl (by decide) (hq h' hk (.int _ _) (.range ?_ off))
   have e1 : a + (i : Int) + 1 = a + ((i + 1 : Nat) : Int) := by (first | lia | omega)
   have e2 : ((b - a).toNat : Int) - (i : Int) - 1 = ((b - a).toNat : Int) - ((i + 1 : Nat) : Int) := by (first | lia | omega)
   rw [e1, e2] at hit'; exact hit'
  ·rw [if_neg hlt] at h1
   exact wpAny_pyNext_range_end hA hit (by (first | lia | omega)) fun h' hx => h1 h' rfl (KeepBut.of_but hx (List.mem_singleton.mpr rfl))
 | @lst n d I l _ _ _ hit er off =>
  obtain ⟨m, hσ, rfl⟩ := listAt_some (o := some o) e
  obtain ⟨vs, k, g, hl, ra⟩ := iv.list hσ er
  cases hm : m[i]? with
  | none =>
   exact wpAny_pyNext_list_end hA hit (isList_of g) (by simpa using ra.get_none hm) fun h' hx => h1 h' hm (KeepBut.of_but hx (List.mem_singleton.mpr rfl))
  | some v =>
   obtain ⟨val, hv, r⟩ := ra.get hm
   refine wpAny_pyNext_list_item hit (isList_of g) (x := val) (by simpa using hv) fun h' hit' hx => ?_
   have hk := KeepBut.of_but (wr := [I]) hx.extBut (List.mem_singleton.mpr rfl)
   have hs := hk.sub own
   refine h2 v val h' s.toks hm hk fun Q' E' hq => ?_
   obtain ⟨ob, hob, hc, _⟩ := id hit'
   exact letGo_plain (s := { s with heap := h' }) hob hc (by decide) (hq h' hk (r.sub hs) (.lst hit' er off))
noncomputable def RSrc (h₀ : Bse) (hb : Heap) : Src → Map → Heap → Value → Prop
 | .vals l, ρ, h, v => (∃ t vs n, v = .ref t ∧ h.get? t = some (tupO vs n) ∧ RelAll ρ h vs l) ∨
   ∃ r a b t u w, v = .ref r ∧ IsRange h r a b 1 t u w ∧ Builtin.Range.small a b 1 = true ∧ l = rangeV a b
 | .lst n, ρ, h, v => ∃ a d vs k, v = .ref a ∧ ρ[n]? = some (a, d) ∧ h.get? a = some (listO vs k)
theorem size_dead {h h' : Heap} (hk : ∀ b o, h.get? b = some o → ∃ o', h'.get? b = some o') : h.get? h'.objs.size = none := by
 cases e : h.get? h'.objs.size with
 | none => rfl
 | some o => obtain ⟨o', e'⟩ := hk _ _ e; exact absurd (Heap.lt_size e') (Nat.lt_irrefl _)
theorem RSrc.iter {sr : Src} {v : Value} {Q : Value → Shared → Prop} {E : Value → Shared → Prop} (iv : Inv h₀ σ ρ s.heap) (x : Ext W ρb hb ρ s.heap) (r : RSrc h₀ hb sr ρ s.heap v)
  (h : ∀ it wr h', (∀ b o, s.heap.get? b = some o → h'.get? b = some o) → ItAt h₀ sr it wr 0 ρ h' → (∀ b ∈ wr, hb.get? b = none) → Q it { s with heap := h' }) : wpAny (model h₀.prog h₀.w) A (pyIter v) Q E s := by
 have hd' := size_dead x.alive
 have off := iv.off_size
 have hnew : ∀ ob b o, s.heap.get? b = some o → (s.heap.push ob).get? b = some o := fun ob b o e => Heap.get?_push_of_some _ e
 cases sr with
 | vals l =>
  rcases r with ⟨t, vs, n, rfl, g, ra⟩ | ⟨r, a, b, t, u, w, rfl, hr, hsm, rfl⟩
  ·refine wpAny_pyIter_tuple (isTuple_of g) (h _ [s.heap.objs.size] _ (hnew _) (.tup ⟨_, Heap.get?_push_size _ rfl, rfl, rfl⟩ (hnew _ _ _ g) (ra.sub (Sub.keeps (hnew _))) off) fun b hb => by rw [List.mem_singleton.mp hb]; exact hd')
  ·refine wpAny_pyIter_range hr hsm (h _ [s.heap.objs.size] _ (hnew _) (.range ?_ off) fun b hb => by rw [List.mem_singleton.mp hb]; exact hd')
   have e : Builtin.Range.rangeSize a b 1 = ((b - a).toNat : Int) - ((0 : Nat) : Int) := by rw [rangeSize_one]; split <;> (first | lia | omega)
   have e2 : a + ((0 : Nat) : Int) = a := by (first | lia | omega)
   rw [← e, e2]
   exact Heap.get?_push_size _ rfl
 | lst n =>
  obtain ⟨a, d, vs, k, rfl, er, g⟩ := r
  exact wpAny_pyIter_list (isList_of g) (h _ [s.heap.objs.size] _ (hnew _) (.lst ⟨_, Heap.get?_push_size _ rfl, rfl, rfl⟩ er off) fun b hb => by rw [List.mem_singleton.mp hb]; exact hd')
theorem ItAt.self {sr : Src} {it : Value} {i : Nat} {Q : Value → Shared → Prop} {E : Value → Shared → Prop} (x : ItAt h₀ sr it wr i ρ s.heap) (h : Q it s) : wpAny (model h₀.prog h₀.w) A (pyIter it) Q E s := by
 cases x with
 | tup hit _ _ _ => exact wpAny_pyIter_tupleiter hit h
 | range hit _ => exact wpAny_pyIter_rangeiter hit h
 | lst hit _ _ => exact wpAny_pyIter_listiter hit h
end
end Mine.Internal

set_option backward.match.sparseCases false
namespace Mine.Internal
open PySem PyProof.Rows
section
variable {h₀ : Bse} {hb : Heap} {A : Around} {W wr : List Addr} {ρ ρ' ρb : Map} {s : Shared} {σ : Store} {tx : Tabs} {mg mb : Str → Option Value}
variable {env : Env} {ns : Names} {loc : Loc} {C : Cfg} {n : Nat}
noncomputable def RFrm (h₀ : Bse) (env : Env) (ns : Names) : Loc → Map → Heap → Unit → Prop := fun loc ρ h ya => Frm h₀ env ns loc ρ h
theorem get_set_some {α : Type} {l : List α} {i j : Nat} {a b : α} (h : (l.set i a)[j]? = some b) : (i = j ∧ b = a) ∨ (i ≠ j ∧ l[j]? = some b) := by
 by_cases hij : i = j
 ·subst hij
  left
  rcases Nat.lt_or_ge i l.length with hl | hl
  ·rw [List.getElem?_set_self hl] at h; cases h; exact ⟨rfl, rfl⟩
  ·rw [List.getElem?_eq_none (by simpa using hl)] at h; cases h
 ·rw [List.getElem?_set_ne hij] at h; exact .inr ⟨hij, h⟩
theorem ns_dict {h : Heap} {a : Addr} {m : Str → Option Value} (hn : h.Ns a m) : ∃ o, h.get? a = some o ∧ IsD o := by
 obtain ⟨o', es, ep, ho, hd, r⟩ := hn
 exact ⟨o', ho, es, ep, hd⟩
theorem kin_cell {o o' : Obj} {v : Option Value} (hd : o.data = .cell v) : Kin o o' where
 tup := fun vs n e => by rw [e] at hd; cases hd
 dict := fun ⟨_, _, e⟩ => by rw [hd] at e; cases e
 tb := fun ⟨_, _, e, _⟩ => by rw [hd] at e; cases e
theorem function_not_class (F : Frm h₀ env ns loc ρ s.heap) : (env.scope.kind == .class || (env.scope.kind == .module && env.locals != env.globals)) = false := by rw [F.kind]; rfl
theorem Sim.storeLocal {x : Str} {i : Nat} {v : Value} {a : V} (F : Frm h₀ env ns loc ρ s.heap) (iv : Inv h₀ σ ρ s.heap) (hf : h₀.get? env.locals = none) (hs : slot ns x = some (i, .local)) (r : Rel ρ s.heap v a) :
  Sim h₀ A [env.locals] (storeName env x v) (.ok (loc.set i (some a)) σ) (RFrm h₀ env ns) ρ s := by
 obtain ⟨m, hn, hv⟩ := F.vars
 refine wpAny_storeName_local (F.kindOf hs) hn (fun h' hn' hsb => ?_) (function_not_class F)
 have hk : ∀ b o, s.heap.get? b = some o → b ∉ [env.locals] → h'.get? b = some o := fun b o e hb => hsb.extBut b o (fun eq => hb (List.mem_singleton.mpr eq)) e
 have hx : Ext [env.locals] ρ s.heap ρ h' := Ext.of_keep (fun b hm => by rw [List.mem_singleton.mp hm]; exact F.offL) hk fun b o e hm => by
  rw [List.mem_singleton.mp hm] at e ⊢
  obtain ⟨o', e', d'⟩ := ns_dict hn'
  obtain ⟨o₁, e₁, d₁⟩ := ns_dict hn
  rw [e] at e₁; cases e₁
  exact ⟨o', e', kin_dict d₁ d'⟩
 refine ⟨ρ, h', s.toks + 1, rfl, iv.keep hx (fun b hm => by rw [List.mem_singleton.mp hm]; exact ⟨F.offL, hf⟩) hk, hx, ?_⟩
 exact {
  names := F.names
  kind := F.kind
  globals := F.globals
  blts := F.blts
  vars := by
   refine ⟨_, hn', fun y j u h1 h2 => ?_⟩
   rcases get_set_some h2 with ⟨rfl, e⟩ | ⟨hne, h2⟩
   ·cases e
    rw [slot_inj h1 hs]
    exact ⟨v, if_pos rfl, r.ext hx⟩
   ·obtain ⟨val, e, hr⟩ := hv y j u h1 h2
    refine ⟨val, ?_, hr.ext hx⟩
    rw [if_neg (fun eq => by rw [eq, hs] at h1; cases h1; exact hne rfl)]; exact e
  cell := fun y j h1 => by
   obtain ⟨c, o, e, ⟨ob, hob, hd⟩, hv⟩ := F.cell y j h1
   refine ⟨c, o, e, ⟨ob, hk _ _ hob (fun hm => (F.offC y c e).1 (List.mem_singleton.mp hm)), hd⟩, fun u h2 => ?_⟩
   rcases get_set_some h2 with ⟨rfl, _⟩ | ⟨hne, h2⟩
   ·rw [slot_inj h1 hs, hs] at h1; cases h1
   ·obtain ⟨val, e', hr⟩ := hv u h2
    exact ⟨val, e', hr.ext hx⟩
  live := fun y c e => by
   obtain ⟨o, ob, hob, hd⟩ := F.live y c e
   exact ⟨o, ob, hk _ _ hob (fun hm => (F.offC y c e).1 (List.mem_singleton.mp hm)), hd⟩
  offL := F.offL
  offC := F.offC
  apart := F.apart
  top := F.top }
theorem Sim.storeCell {x : Str} {i : Nat} {v : Value} {a : V} (F : Frm h₀ env ns loc ρ s.heap) (iv : Inv h₀ σ ρ s.heap) (hf : ∀ b ∈ frameW env, h₀.get? b = none) (hs : slot ns x = some (i, .cell)) (r : Rel ρ s.heap v a) :
  Sim h₀ A (frameW env) (storeName env x v) (.ok (loc.set i (some a)) σ) (RFrm h₀ env ns) ρ s := by
 obtain ⟨c, o₀, hc, hcell, hv₀⟩ := F.cell x i hs
 have hcW : c ∈ frameW env := frameW_cell (k := .cell) (by rw [F.names]; exact mem_of_lookup (slot_lookup hs)) hc
 refine wpAny_storeName_cell F.kind (F.kindOf hs) hc hcell fun h' hn' hsb => ?_
 have hk : ∀ b o, s.heap.get? b = some o → b ∉ [c] → h'.get? b = some o := fun b o e hb => hsb.extBut b o (fun eq => hb (List.mem_singleton.mpr eq)) e
 have hx : Ext [c] ρ s.heap ρ h' := Ext.of_keep (fun b hm => by rw [List.mem_singleton.mp hm]; exact (F.offC x c hc).2) hk fun b o e hm => by
  rw [List.mem_singleton.mp hm] at e ⊢
  obtain ⟨o', e', _⟩ := hn'
  obtain ⟨o₁, e₁, d₁⟩ := hcell
  rw [e] at e₁; cases e₁
  exact ⟨o', e', kin_cell d₁⟩
 refine ⟨ρ, h', s.toks, rfl, iv.keep hx (fun b hm => by rw [List.mem_singleton.mp hm]; exact ⟨(F.offC x c hc).2, hf c hcW⟩) hk, hx.weak fun b hm => .inl (by rw [List.mem_singleton.mp hm]; exact hcW), ?_⟩
 exact {
  names := F.names
  kind := F.kind
  globals := F.globals
  blts := F.blts
  vars := by
   obtain ⟨m, ⟨o, es, ep, ho, rr⟩, hv⟩ := F.vars
   refine ⟨m, ⟨o, es, ep, hk _ _ ho (fun hm => (F.offC x c hc).1 (List.mem_singleton.mp hm).symm), rr⟩, fun y j u h1 h2 => ?_⟩
   rcases get_set_some h2 with ⟨rfl, _⟩ | ⟨hne, h2⟩
   ·rw [slot_inj h1 hs, hs] at h1; cases h1
   ·obtain ⟨val, e, hr⟩ := hv y j u h1 h2
    exact ⟨val, e, hr.ext hx⟩
  cell := fun y j h1 => by
   obtain ⟨d, o, e, ⟨ob, hob, hd⟩, hv⟩ := F.cell y j h1
   by_cases hdc : d = c
   ·subst hdc
    have hyx := F.apart y x d e hc
    subst hyx
    rw [hs] at h1; cases h1
    refine ⟨d, some v, e, hn', fun u h2 => ?_⟩
    rcases get_set_some h2 with ⟨_, e⟩ | ⟨hne, h2⟩
    ·cases e; exact ⟨v, rfl, r.ext hx⟩
    ·exact absurd rfl hne
   ·refine ⟨d, o, e, ⟨ob, hk _ _ hob (fun hm => hdc (List.mem_singleton.mp hm)), hd⟩, fun u h2 => ?_⟩
    rcases get_set_some h2 with ⟨rfl, _⟩ | ⟨hne, h2⟩
    ·rw [slot_inj h1 hs, hc] at e; cases e; exact absurd rfl hdc
    ·obtain ⟨val, e', hr⟩ := hv u h2
     exact ⟨val, e', hr.ext hx⟩
  live := fun y d e => by
   obtain ⟨o, ob, hob, hd⟩ := F.live y d e
   by_cases hdc : d = c
   ·subst hdc; exact ⟨_, hn'⟩
   ·exact ⟨o, ob, hk _ _ hob (fun hm => hdc (List.mem_singleton.mp hm)), hd⟩
  offL := F.offL
  offC := F.offC
  apart := F.apart
  top := F.top }
structure StS (h₀ : Bse) (env : Env) (ns : Names) (W : List Addr) (st : Str → V → Loc → M Loc) : Prop where
 store : ∀ (x : Str) (v : Value) (a : V) (loc : Loc) (σ : Store) (ρ : Map) (s : Shared) (A : Around), Frm h₀ env ns loc ρ s.heap → Inv h₀ σ ρ s.heap → Rel ρ s.heap v a → Sim h₀ A W (storeName env x v) (st x a loc σ) (RFrm h₀ env ns) ρ s
 quiet : ∀ (x : Str) (a : V) (loc : Loc) (σ : Store) (e : V) (σ' : Store), st x a loc σ ≠ .exc e σ'
theorem stLocL_ok (hf : h₀.get? env.locals = none) : StS h₀ env ns [env.locals] (stLocL ns) where
 store := fun x v a loc σ ρ s A F iv r => by
  unfold stLocL
  cases hs : slot ns x with
  | none => exact trivial
  | some p =>
   obtain ⟨i, k⟩ := p
   cases k <;> first | exact trivial | exact Sim.storeLocal F iv hf hs r
 quiet := fun x a loc σ e σ' => by
  unfold stLocL
  cases slot ns x with
  | none => exact nofun
  | some p =>
   obtain ⟨i, k⟩ := p
   cases k <;> exact nofun
theorem stLoc_ok (hf : ∀ b ∈ frameW env, h₀.get? b = none) : StS h₀ env ns (frameW env) (stLoc ns) where
 store := fun x v a loc σ ρ s A F iv r => by
  unfold stLoc
  cases hs : slot ns x with
  | none => exact trivial
  | some p =>
   obtain ⟨i, k⟩ := p
   cases k <;> first
    | exact trivial
    | exact Sim.storeCell F iv hf hs r
    | exact (Sim.storeLocal F iv (hf _ (List.mem_cons_self ..)) hs r).weak fun b hm => .inl (by rw [List.mem_singleton.mp hm]; exact List.mem_cons_self ..)
 quiet := fun x a loc σ e σ' => by
  unfold stLoc
  cases slot ns x with
  | none => exact nofun
  | some p =>
   obtain ⟨i, k⟩ := p
   cases k <;> exact nofun
theorem Sim.bindName {x : Str} {v : Value} {r : Res Loc} {R : Loc → Map → Heap → Unit → Prop} (h : Sim h₀ A W (storeName env x v) r R ρ s) : Sim h₀ A W (PySem.bindName env x v) r R ρ s :=
 Sim.wrap (fun ya yb => wpAny_bindName) h
theorem nm1_eq {t : Expr} {q : Str × Pos} (h : nm1 t = some q) : t = .Name q.1 q.2 := by
 cases t <;> first
  | exact no_some h
  | (cases h; rfl)
theorem tgt1_eq {t : Expr} {q : List Expr × Nat × Pos} (h : tgt1 t = some q) : t = .Tuple q.1 q.2.1 q.2.2 := by
 cases t <;> first
  | exact no_some h
  | (cases h; rfl)
noncomputable def nameE (q : Str × Pos) : Expr := .Name q.1 q.2
theorem nms_eq : ∀ {ts : List Expr} {qs : List (Str × Pos)}, nms ts = some qs → ts = qs.map nameE := by
 intro ts
 induction ts with
 | nil => intro qs h; cases h; rfl
 | cons t ts ih =>
  intro qs h
  obtain ⟨q, h1, h⟩ := Option.bind_eq_some_iff.mp h
  obtain ⟨r, h2, rfl⟩ := Option.map_eq_some_iff.mp h
  rw [nm1_eq h1, ih h2]; rfl
theorem assignEach_name {q : Str × Pos} {r : List Expr} : assignEach (nameE q :: r) env = (false, assign (nameE q) env) :: assignEach r env := rfl
theorem assignEach_len {qs : List (Str × Pos)} : (assignEach (qs.map nameE) env).findIdx? (·.1) = none ∧ (assignEach (qs.map nameE) env).length = qs.length := by
 induction qs with
 | nil => exact ⟨rfl, rfl⟩
 | cons q qs ih => rw [List.map_cons, assignEach_name, List.findIdx?_cons, ih.1, List.length_cons, ih.2]; exact ⟨rfl, rfl⟩
theorem bindX_ok {st : Str → V → Loc → M Loc} (S : StS h₀ env ns W st) {qs : List (Str × Pos)} : ∀ (vs : List Value) (l : List V) (loc : Loc) (σ : Store) (ρ : Map) (s : Shared), Frm h₀ env ns loc ρ s.heap → Inv h₀ σ ρ s.heap → RelAll ρ s.heap vs l →
  Sim h₀ A W (assignInOrder ((assignEach (qs.map nameE) env).map (·.2)) vs) (bindX st qs l loc σ) (RFrm h₀ env ns) ρ s := by
 induction qs with
 | nil =>
  intro vs l loc σ ρ s F iv r
  cases l with
  | nil => cases r; exact Sim.ret iv F
  | cons a l => exact trivial
 | cons q qs ih =>
  intro vs l loc σ ρ s F iv r
  cases r with
  | nil => exact trivial
  | @cons v vs a l r rs =>
   rw [List.map_cons, assignEach_name]
   show Sim h₀ A W (PySem.holding vs (assign (.Name q.1 q.2) env v) >>= fun ya => assignInOrder ((assignEach (qs.map nameE) env).map (·.2)) vs) ((st q.1 a loc >>= fun loc' => bindX st qs l loc') σ) (RFrm h₀ env ns) ρ s
   refine Sim.bind (R := RFrm h₀ env ns) (Sim.holding ?_) fun loc₁ σ₁ ρ₁ H tk ya i₁ x₁ F₁ => ih vs l loc₁ σ₁ ρ₁ _ F₁ i₁ (rs.ext x₁)
   rw [arm_assign_Name]
   exact Sim.standAt (Sim.bindName (S.store q.1 v a loc σ ρ s A F iv r))
theorem bindX_len {st : Str → V → Loc → M Loc} {qs : List (Str × Pos)} : ∀ {l : List V} {loc loc' : Loc} {σ σ' : Store}, bindX st qs l loc σ = .ok loc' σ' → qs.length = l.length := by
 induction qs with
 | nil => intro l loc loc' σ σ' h; cases l with
  | nil => rfl
  | cons _ _ => exact bad_ok h
 | cons q qs ih => intro l loc loc' σ σ' h; cases l with
  | nil => exact bad_ok h
  | cons v vs =>
   rcases bind_cases (m := st q.1 v loc) (f := fun loc' => bindX st qs vs loc') (fun b => bad_ok (b.symm.trans h)) with ⟨l₁, σ₁, _, e1⟩ | ⟨_, _, _, e1⟩
   ·exact congrArg (· + 1) (ih (e1.symm.trans h))
   ·exact ok_exc (h.symm.trans e1)
theorem bindX_quiet {st : Str → V → Loc → M Loc} (S : StS h₀ env ns W st) {qs : List (Str × Pos)} : ∀ {l : List V} {loc : Loc} {σ : Store} {e : V} {σ' : Store}, bindX st qs l loc σ ≠ .exc e σ' := by
 induction qs with
 | nil => intro l loc σ e σ' h; cases l <;> first | exact ok_exc h | exact bad_exc h
 | cons q qs ih => intro l loc σ e σ' h; cases l with
  | nil => exact bad_exc h
  | cons v vs =>
   rcases bind_cases (m := st q.1 v loc) (f := fun loc' => bindX st qs vs loc') (fun b => bad_exc (b.symm.trans h)) with ⟨l₁, σ₁, _, e1⟩ | ⟨_, _, h1, _⟩
   ·exact ih (e1.symm.trans h)
   ·exact S.quiet _ _ _ _ _ _ h1
theorem bindTo_quiet {st : Str → V → Loc → M Loc} (S : StS h₀ env ns W st) {t : Expr} {a : V} {e : V} {σ' : Store} : bindTo st t a loc σ ≠ .exc e σ' := by
 unfold bindTo bindNames
 cases nm1 t with
 | some q => exact S.quiet _ _ _ _ _ _
 | none => cases tgt1 t with
  | none => exact fun h => bad_exc h
  | some q => cases a with
   | tup l => dsimp only; cases nms q.1 with
    | none => exact fun h => bad_exc h
    | some qs => exact bindX_quiet S
   | _ => exact fun h => bad_exc h
theorem Sim.bindTo {st : Str → V → Loc → M Loc} (S : StS h₀ env ns W st) {t : Expr} {v : Value} {a : V} (hA : A.handled = none) (F : Frm h₀ env ns loc ρ s.heap) (iv : Inv h₀ σ ρ s.heap) (r : Rel ρ s.heap v a) :
  Sim h₀ A W (assign t env v) (bindTo st t a loc σ) (RFrm h₀ env ns) ρ s := by
 cases hr : Mine.Internal.bindTo st t a loc σ with
 | bad => exact trivial
 | exc _ _ => exact absurd hr (bindTo_quiet S)
 | ok loc₁ σ₁ =>
  unfold Mine.Internal.bindTo Mine.Internal.bindNames at hr
  cases h1 : nm1 t with
  | some q =>
   rw [h1] at hr
   rw [nm1_eq h1, arm_assign_Name, ← hr]
   exact Sim.standAt (Sim.bindName (S.store q.1 v a loc σ ρ s A F iv r))
  | none =>
   rw [h1] at hr
   cases h2 : tgt1 t with
   | none => rw [h2] at hr; exact bad_ok hr
   | some q =>
    rw [h2] at hr
    cases r with
    | @tup ta vs nn l g hl ra =>
     dsimp only at hr
     cases h3 : nms q.1 with
     | none => rw [h3] at hr; exact bad_ok hr
     | some qs =>
      rw [h3] at hr
      rw [tgt1_eq h2, nms_eq h3, arm_assign_Tuple]
      refine Sim.standAt ?_
      have hlen : (assignEach (qs.map nameE) env).length = vs.toArray.size := by rw [assignEach_len.2, bindX_len hr, List.size_toArray, ra.length]
      unfold unpack
      refine wpAny_bind (wpAny_holding ?_)
      rw [assignEach_len.1, hlen]
      refine wpAny_unpackItems_tuple hA (isTuple_of g) fun h' hx => ?_
      have hk : ∀ b o, s.heap.get? b = some o → h'.get? b = some o := fun b o e => hx b o (Nat.ne_of_lt (Heap.lt_size e)) e
      have hs := bindX_ok (A := A) (qs := qs) S vs l loc σ ρ { s with heap := h' } (F.ext0 (Ext.of_keeps hk)) (iv.keeps hk) (ra.sub (Sub.keeps hk))
      rw [hr] at hs
      refine wpAny_mono hs (fun b s' hp => ?_) fun ya yb x => x
      obtain ⟨ρ₁, H, tk, rfl, i₁, x₁, F₁⟩ := hp
      exact ⟨ρ₁, H, tk, rfl, i₁, (Ext.of_keeps hk).trans x₁, F₁⟩
    | _ => exact bad_ok hr
end
end Mine.Internal

set_option backward.match.sparseCases false
namespace Mine.Internal
open PySem PyProof.Rows
section
variable {h₀ : Bse} {hb : Heap} {A : Around} {W wr : List Addr} {ρ ρ' ρb : Map} {s : Shared} {σ : Store} {tx : Tabs} {mg mb : Str → Option Value}
variable {env : Env} {ns : Names} {loc : Loc} {C : Cfg} {n : Nat}
variable (h₀ C n) in
noncomputable def SrcS (e : Expr) : Prop := ∀ (env : Env) (ns : Names) (loc : Loc) (σ : Store) (ρ : Map) (s : Shared) (A : Around), Rm h₀ A n C.calm → Frm h₀ env ns loc ρ s.heap → Inv h₀ σ ρ s.heap →
 Sim h₀ A [] (eval e env) (src C e ns loc (ev C e ns loc) σ) (RSrc h₀ s.heap) ρ s
theorem Sim.map {α β γ : Type} {t : Sem β} {m : M α} {k : α → M γ} {R : α → Map → Heap → β → Prop} {R' : γ → Map → Heap → β → Prop} (h : Sim h₀ A W t (m σ) R ρ s) (hq : ∀ a σ e σ', k a σ ≠ .exc e σ')
  (hk : ∀ a σ₁ ρ₁ H b c σ₂, Inv h₀ σ₁ ρ₁ H → R a ρ₁ H b → k a σ₁ = .ok c σ₂ → σ₂ = σ₁ ∧ R' c ρ₁ H b) : Sim h₀ A W t ((m >>= k) σ) R' ρ s := by
 cases e : m σ with
 | bad => rw [bind_bad e]; exact trivial
 | exc _ _ => rw [bind_exc e]; rw [e] at h; exact h
 | ok a σ₁ =>
  rw [bind_ok e]
  rw [e] at h
  cases e2 : k a σ₁ with
  | bad => exact trivial
  | exc _ _ => exact absurd e2 (hq _ _ _ _)
  | ok c σ₂ =>
   refine wpAny_mono h (fun b s' hp => ?_) fun ya yb x => x
   obtain ⟨ρ₁, H, tk, rfl, i, x, r⟩ := hp
   obtain ⟨rfl, r'⟩ := hk a σ₁ ρ₁ H b c σ₂ i r e2
   exact ⟨ρ₁, H, tk, rfl, i, x, r'⟩
theorem getList_quiet (m : Nat) (σ : Store) (e : V) (σ' : Store) : getList m σ ≠ .exc e σ' := by
 rw [getList_eq]
 cases σ[m]? with
 | none => exact nofun
 | some o => cases o <;> exact nofun
theorem getList_ok {k : List V → M α} {m : Nat} {c : α} {σ₂ : Store} (h : (getList m >>= k) σ = .ok c σ₂) : ∃ l, σ[m]? = some (.list l) ∧ k l σ = .ok c σ₂ := by
 cases e : σ[m]? with
 | none => rw [bind_bad (by rw [getList_eq, e])] at h; cases h
 | some o =>
  cases o with
  | list l => rw [bind_ok (by rw [getList_eq, e])] at h; exact ⟨l, rfl, h⟩
  | dict _ _ => rw [bind_bad (by rw [getList_eq, e])] at h; cases h
  | inst _ _ => rw [bind_bad (by rw [getList_eq, e])] at h; cases h
  | flds _ => rw [bind_bad (by rw [getList_eq, e])] at h; cases h
  | exc _ _ => rw [bind_bad (by rw [getList_eq, e])] at h; cases h
theorem srcV_quiet (a : V) (σ : Store) (e : V) (σ' : Store) : srcV a σ ≠ .exc e σ' := by
 cases a with
 | ref n =>
  show (getO n >>= fun o => match o with | .list _ => (Pure.pure (Src.lst n) : M Src) | _ => M.bad) σ ≠ _
  cases h : σ[n]? with
  | none => rw [bind_bad (by rw [getO_eq, h])]; exact nofun
  | some o =>
   rw [bind_ok (a := o) (σ' := σ) (by rw [getO_eq, h])]
   cases o <;> exact nofun
 | _ => exact nofun
set_option tactic.hygienic true in
theorem src_value {e : Expr} (he : EvS h₀ C n e) (hA : Rm h₀ A n C.calm) (F : Frm h₀ env ns loc ρ s.heap) (i : Inv h₀ σ ρ s.heap) :
  Sim h₀ A [] (eval e env) ((ev C e ns loc >>= srcV) σ) (RSrc h₀ s.heap) ρ s := by
 refine Sim.map (he env ns loc σ ρ s A hA F i) srcV_quiet fun a σ₁ ρ₁ H b c σ₂ i₁ r hk => ?_
 cases r with
 | tup g hl ra => cases hk; exact ⟨rfl, .inl ⟨_, _, _, rfl, g, ra⟩⟩
 | ref er =>
  rename_i k n d
  have hk : (getO d >>= fun o => match o with | .list _ => (Pure.pure (Src.lst d) : M Src) | _ => M.bad) σ₁ = .ok c σ₂ := hk
  cases hσ : σ₁[d]? with
  | none => rw [bind_bad (by rw [getO_eq, hσ])] at hk; cases hk
  | some o =>
   rw [bind_ok (a := o) (σ' := σ₁) (by rw [getO_eq, hσ])] at hk
   cases o with
   | list l =>
    cases hk
    obtain ⟨vs, k, g, _, _⟩ := Inv.list (s := { s with heap := H }) i₁ hσ er
    exact ⟨rfl, _, _, vs, k, rfl, er, g⟩
   | dict _ _ => cases hk
   | inst _ _ => cases hk
   | flds _ => cases hk
   | exc _ _ => cases hk
 | str _ _ _ => cases hk
 | none => cases hk
 | bool _ => cases hk
 | int _ _ => cases hk
theorem evs_one {a : Expr} {α : Type} {k : V → M α} : (ev C a ns loc >>= k) = (evs C [a] ns loc >>= fun l => match l with | [v] => k v | _ => M.bad) := rfl
theorem Sim.rangeCall {a : Value} {x : V} (i : Inv h₀ σ ρ s.heap) (ra : Rel ρ s.heap a x) : Sim h₀ A [] (call (.type "range") [a]) (rangeOf x σ) (RSrc h₀ hb) ρ s := by
 cases ra with
 | int z t =>
  refine Sim.ite fun hc => ?_
  refine Sim.grown i fun Q E hQ => call_range_1 (hQ _ _ _ (fun c o e => Heap.get?_push_of_some _ e) (.inr ⟨_, 0, z, _, _, _, rfl, IsRange.new .., ?_, rfl⟩))
  exact small_one (by decide) (by decide) (by (first | lia | omega)) (by (first | lia | omega))
 | _ => exact trivial
theorem Sim.typeOne {α : Type} {f : Str} {T : String} {a : Expr} {p pos : Pos} {k : V → M α} {R : α → Map → Heap → Value → Prop} (B : Base tx mg mb h₀.heap) (ha : EvS h₀ C n a) (hA : Rm h₀ A n C.calm) (F : Frm h₀ env ns loc ρ s.heap) (i : Inv h₀ σ ρ s.heap) (hg : isGlob ns f = true) (hf : tx.fns f = none)
  (hst : isStarE a = false) (hn : f ∈ bltNames) (hT : bootBuiltins f = some (.type T))
  (hk : ∀ x v σ₁ ρ₁ H tk, Inv h₀ σ₁ ρ₁ H → Ext [] ρ s.heap ρ₁ H → Rel ρ₁ H v x → Sim h₀ A [] (call (.type T) [v]) (k x σ₁) R ρ₁ (At s H tk)) :
  Sim h₀ A [] (eval (.Call (.Name f p) [a] [] pos) env) ((ev C a ns loc >>= k) σ) R ρ s := by
 rw [evs_one, Call_name]
 refine Sim.head (v := .type T) (fun Q E h => wp_builtin B F i hg hn hf hT h) ?_
 refine Sim.args (by simp [noStars, hst]) (evs_cons ha evs_nil) hA F i (fun Q E hst h => cw_type hst h) fun l σ₁ ρ₁ H tk vs i₁ x₁ r₁ => ?_
 cases r₁ with
 | nil => exact trivial
 | cons r rs => cases rs with
  | nil => exact hk _ _ σ₁ ρ₁ H tk i₁ x₁ r
  | cons _ _ => exact trivial
theorem src_call {f : Str} {as : List Expr} {p pos : Pos} (B : Base tx mg mb h₀.heap) (hfn : ∀ f, C.isFn f = (tx.fns f).isSome) (he : EvS h₀ C n (.Call (.Name f p) as [] pos)) (has : ∀ a ∈ as, EvS h₀ C n a) : SrcS h₀ C n (.Call (.Name f p) as [] pos) :=
 fun env ns loc σ ρ s A hA F i => by
 have whole := src_value he hA F i
 have hc : srcTag C ns f = 1 → isGlob ns f = true ∧ tx.fns f = none ∧ f = ("range" : Str) := by
  intro htag
  unfold srcTag at htag
  by_cases h1 : (isGlob ns f && !C.isFn f) = true
  ·rw [if_pos h1] at htag
   simp only [Bool.and_eq_true, Bool.not_eq_true'] at h1
   refine ⟨h1.1, ?_, ?_⟩
   ·have := h1.2; rw [hfn] at this
    cases e : tx.fns f with
    | none => rfl
    | some _ => rw [e] at this; cases this
   ·by_cases h2 : f = ("range" : Str)
    ·exact h2
    ·rw [if_neg h2] at htag; cases htag
  ·rw [if_neg h1] at htag; cases htag
 rcases as with _ | ⟨a, _ | ⟨b, r⟩⟩
 ·exact whole
 ·show Sim h₀ A [] _ ((if srcTag C ns f = 1 then (ev C a ns loc >>= fun v => rangeOf v) else (ev C (.Call (.Name f p) [a] [] pos) ns loc >>= fun v => srcV v)) σ) (RSrc h₀ s.heap) ρ s
  by_cases t1 : srcTag C ns f = 1
  ·rw [if_pos t1]
   obtain ⟨hg, hf, rfl⟩ := hc t1
   by_cases hst : isStarE a = true
   ·have : ev C a ns loc = M.bad := by cases a <;> first | rfl | cases hst
    rw [this]; exact trivial
   ·exact Sim.typeOne B (has a (List.mem_singleton.mpr rfl)) hA F i hg hf (by simpa using hst) (by decide +kernel) bb_range fun x v σ₁ ρ₁ H tk i₁ x₁ r => Sim.rangeCall i₁ r
  ·rw [if_neg t1]; exact whole
 ·exact whole
theorem isCell_of {k : NameKind} (h : (k == NameKind.free) = true) : k = .free := by simpa using h
structure CloQ (env : Env) (names : Names) (cs cl : List (Str × Addr)) : Prop where
 sub : ∀ x c, cl.lookup x = some c → env.cells.lookup x = some c
 all : ∀ x ∈ names, x.2 = .free → ∃ c, cl.lookup x.1 = some c
 old : ∀ x, (∃ c, cs.lookup x = some c) → ∃ c, cl.lookup x = some c
theorem closure_go (env : Env) (names : Names) (cs : List (Str × Addr)) (h1 : ∀ x ∈ names, x.2 = .free → ∃ c, env.cells.lookup x.1 = some c) (h2 : ∀ x c, cs.lookup x = some c → env.cells.lookup x = some c) :
  ∃ cl, (forIn names cs fun x r => if (x.2 == NameKind.free) = true then (do let c ← cellOf env x.1; pure (ForInStep.yield ((x.1, c) :: r))) else pure (ForInStep.yield r)) = (Pure.pure cl : Sem (List (Str × Addr))) ∧ CloQ env names cs cl := by
 induction names generalizing cs with
 | nil => exact ⟨cs, rfl, h2, fun ya hm => (nomatch hm), fun ya h => h⟩
 | cons p r ih =>
  obtain ⟨x, k⟩ := p
  have h1' := fun y hy => h1 y (List.mem_cons_of_mem _ hy)
  rw [List.forIn_cons]
  by_cases hk : (k == NameKind.free) = true
  ·obtain ⟨c, hc⟩ := h1 (x, k) (List.mem_cons_self ..) (isCell_of hk)
   have e : cellOf env x = Pure.pure c := by unfold cellOf; rw [show env.cells.lookup x = some c from hc]
   rw [if_pos hk, e]
   obtain ⟨cl, e1, q⟩ := ih ((x, c) :: cs) h1' fun y d hd => by
    rw [List.lookup_cons] at hd
    split at hd
    ·rename_i hy
     cases hd; rw [beq_iff_eq.mp hy]; exact hc
    ·exact h2 y d hd
   refine ⟨cl, e1, q.sub, fun y hy hf => ?_, fun y hy => q.old y ?_⟩
   ·rcases List.mem_cons.mp hy with rfl | hy
    ·exact q.old x ⟨c, by rw [List.lookup_cons, beq_self_eq_true]⟩
    ·exact q.all y hy hf
   ·obtain ⟨d, hd⟩ := hy
    rw [List.lookup_cons]
    split
    ·exact ⟨_, rfl⟩
    ·exact ⟨d, hd⟩
  ·rw [if_neg hk]
   obtain ⟨cl, e1, q⟩ := ih cs h1' h2
   refine ⟨cl, e1, q.sub, fun y hy hf => ?_, q.old⟩
   rcases List.mem_cons.mp hy with rfl | hy
   ·exact absurd (by rw [show k = NameKind.free from hf]; rfl) hk
   ·exact q.all y hy hf
theorem closure_ok {scope : Scope} (h : ∀ x ∈ scope.names, x.2 = .free → ∃ c, env.cells.lookup x.1 = some c) : ∃ cl, closureFor scope env = Pure.pure cl ∧ (∀ x c, cl.lookup x = some c → env.cells.lookup x = some c) ∧ ∀ x ∈ scope.names, x.2 = .free → ∃ c, cl.lookup x.1 = some c := by
 obtain ⟨cl, e1, e2, e3, _⟩ := closure_go env scope.names [] h fun ya yb e => by cases e
 refine ⟨cl, ?_, e2, e3⟩
 show ((forIn scope.names [] fun (x : Str × NameKind) (r : List (Str × Addr)) => if (x.2 == NameKind.free) = true then (do let c ← cellOf env x.1; pure (ForInStep.yield ((x.1, c) :: r))) else pure (ForInStep.yield r)) >>= fun r => Pure.pure r) = Pure.pure cl
 rw [e1]; rfl
structure SlotIn (ns : Names) (loc loc' : Loc) (x : Str) (i i₀ : Nat) (k : NameKind) : Prop where
 le : i₀ ≤ i
 ex : ∃ o, loc'[i - i₀]? = some o ∧ (k ≠ .free → o = none) ∧ (k = .free → ∃ j, slot ns x = some (j, .cell) ∧ o = (loc[j]?).getD none)
structure InnerQ (ns : Names) (loc : Loc) (names : Names) (loc' : Loc) (σ σ' : Store) : Prop where
 same : σ' = σ
 nc : ∀ x ∈ names, x.2 ≠ .cell
 fr : ∀ x ∈ names, x.2 = .free → ∃ j, slot ns x.1 = some (j, .cell)
 slots : ∀ (x : Str) (i i₀ : Nat) (k : NameKind), slotGo names x i₀ = some (i, k) → SlotIn ns loc loc' x i i₀ k
theorem InnerQ.cons {loc t : Loc} {x : Str} {k : NameKind} {r : Names} {o : Option V} {σ σ' : Store} (q : InnerQ ns loc r t σ σ') (hc : k ≠ .cell) (hf : k = .free → ∃ j, slot ns x = some (j, .cell) ∧ o = (loc[j]?).getD none) (hn : k ≠ .free → o = none) : InnerQ ns loc ((x, k) :: r) (o :: t) σ σ' := by
 refine ⟨q.same, fun y hy => ?_, fun y hy hfy => ?_, fun y i i₀ k' hs => ?_⟩
 ·rcases List.mem_cons.mp hy with rfl | hy
  ·exact hc
  ·exact q.nc y hy
 ·rcases List.mem_cons.mp hy with rfl | hy
  ·obtain ⟨j, hj, _⟩ := hf hfy; exact ⟨j, hj⟩
  ·exact q.fr y hy hfy
 ·unfold slotGo at hs
  split at hs
  ·rename_i hyx
   cases hs
   rw [beq_iff_eq.mp hyx]
   exact ⟨Nat.le_refl _, o, by rw [Nat.sub_self]; rfl, hn, hf⟩
  ·obtain ⟨hle, o', ho', hh⟩ := q.slots y i (i₀ + 1) k' hs
   refine ⟨Nat.le_of_succ_le hle, o', ?_, hh⟩
   rw [sub_step hle, List.getElem?_cons_succ]; exact ho'
theorem innerLoc_ok {loc : Loc} {names : Names} {loc' : Loc} {σ σ' : Store} (h : innerLoc ns loc names σ = .ok loc' σ') : InnerQ ns loc names loc' σ σ' := by
 induction names generalizing loc' with
 | nil => cases h; exact ⟨rfl, fun ya hm => (nomatch hm), fun ya hm => (nomatch hm), fun ya yb yc yd e => by cases e⟩
 | cons p r ih =>
  obtain ⟨x, k⟩ := p
  have step : ∀ (o : Option V), ((innerLoc ns loc r >>= fun t => (pure (o :: t) : M Loc)) σ = .ok loc' σ') → ∃ t, loc' = o :: t ∧ InnerQ ns loc r t σ σ' := fun o h => by
   cases e : innerLoc ns loc r σ with
   | bad => rw [bind_bad e] at h; cases h
   | exc _ _ => rw [bind_exc e] at h; cases h
   | ok t σ₁ => rw [bind_ok e] at h; cases h; exact ⟨t, rfl, ih e⟩
  have plain : k ≠ .cell → k ≠ .free → ((innerLoc ns loc r >>= fun t => (pure (none :: t) : M Loc)) σ = .ok loc' σ') → InnerQ ns loc ((x, k) :: r) loc' σ σ' := fun h1 h2 h => by
   obtain ⟨t, rfl, q⟩ := step none h
   exact q.cons h1 (fun e => absurd e h2) fun ya => rfl
  cases k with
  | free =>
   cases hs : slot ns x with
   | none => unfold innerLoc at h; rw [hs] at h; cases h
   | some p =>
    obtain ⟨j, k'⟩ := p
    cases k' with
    | cell =>
     unfold innerLoc at h; rw [hs] at h
     obtain ⟨t, rfl, q⟩ := step ((loc[j]?).getD none) h
     exact q.cons (by decide) (fun ya => ⟨j, hs, rfl⟩) fun h => absurd rfl h
    | _ => unfold innerLoc at h; rw [hs] at h; cases h
  | cell => cases h
  | «local» => exact plain (by decide) (by decide) h
  | globalImplicit => exact plain (by decide) (by decide) h
  | globalExplicit => exact plain (by decide) (by decide) h
theorem relab_slot {names : Names} : ∀ {x : Str} {i i₀ : Nat} {k : NameKind}, slotGo (relab ns names) x i₀ = some (i, k) → ∃ k₀, slotGo names x i₀ = some (i, k₀) ∧ (k = k₀ ∨ (k₀ = .free ∧ k = .cell)) := by
 induction names with
 | nil => intro x i i₀ k h; cases h
 | cons p r ih =>
  intro x i i₀ k h
  obtain ⟨y, ky⟩ := p
  have e : relab ns ((y, ky) :: r) = (y, if (ky == .free && ns.lookup y == some .cell) = true then .cell else ky) :: relab ns r := by
   unfold relab
   rw [List.map_cons]
   by_cases hc : (ky == .free && ns.lookup y == some .cell) = true
   ·dsimp only; rw [if_pos hc, if_pos hc]
   ·dsimp only; rw [if_neg hc, if_neg hc]
  rw [e] at h
  unfold slotGo at h ⊢
  cases hxy : (x == y) with
  | true =>
   rw [hxy] at h
   cases h
   refine ⟨ky, rfl, ?_⟩
   by_cases hc : (ky == .free && ns.lookup y == some .cell) = true
   ·rw [if_pos hc]; simp only [Bool.and_eq_true] at hc; exact .inr ⟨isCell_of hc.1, rfl⟩
   ·rw [if_neg hc]; exact .inl rfl
  | false =>
   rw [hxy] at h
   exact ih h
theorem slot_mem {names : Names} {x : Str} {i : Nat} {k : NameKind} (h : slot names x = some (i, k)) : (x, k) ∈ names := mem_of_lookup (slot_lookup h)
theorem compFrm {scope : Scope} {cl : List (Str × Addr)} {c : Addr} {loc' : Loc} {σ' : Store} {cenv : Env} {h : Heap} (F : Frm h₀ env ns loc ρ h) (hin : innerLoc ns loc scope.names σ = .ok loc' σ') (hk : scope.kind = .function)
  (hcl : ∀ x c, cl.lookup x = some c → env.cells.lookup x = some c) (hcl2 : ∀ x ∈ scope.names, x.2 = .free → ∃ c, cl.lookup x.1 = some c)
  (hce : cenv = { newEnv scope c env.globals cl env.qual none .none (some env) env.builtins with scope := relabel scope env }) (hn : h.Ns c fun ya => none) (hoff : offMap ρ c) (hne : ∀ x d, env.cells.lookup x = some d → d ≠ c) :
  Frm h₀ cenv (relab ns scope.names) loc' ρ h := by
 subst hce
 obtain ⟨_, hnc, hfr, hsl⟩ := innerLoc_ok hin
 exact {
  names := by
   show (relabel scope env).names = _
   unfold relabel relab
   have : env.scope.names = ns := F.names
   simp only [F.kind, Env.kindOf, this]
   congr 1
   funext p
   obtain ⟨y, k⟩ := p
   cases k <;> simp
  kind := hk
  globals := F.globals
  blts := F.blts
  vars := ⟨_, hn, fun x i v h1 h2 => by
   obtain ⟨k₀, hs, hkk⟩ := relab_slot h1
   rcases hkk with rfl | ⟨_, hc⟩
   ·obtain ⟨_, o, ho, hno, _⟩ := hsl x i 0 _ hs
    rw [Nat.sub_zero] at ho
    rw [ho, hno (by decide)] at h2; cases h2
   ·cases hc⟩
  cell := fun x i h1 => by
   obtain ⟨k₀, hs, hkk⟩ := relab_slot h1
   have hmem := slot_mem hs
   have hfree : k₀ = .free := by
    rcases hkk with rfl | ⟨h, _⟩
    ·exact absurd rfl (hnc _ hmem)
    ·exact h
   subst hfree
   obtain ⟨_, o, ho, _, hof⟩ := hsl x i 0 _ hs
   obtain ⟨j, hj, rfl⟩ := hof rfl
   rw [Nat.sub_zero] at ho
   obtain ⟨d, od, e1, e2, e3⟩ := F.cell x j hj
   obtain ⟨d', hd'⟩ := hcl2 _ hmem rfl
   have : env.cells.lookup x = some d' := hcl _ _ hd'
   rw [e1] at this; cases this
   refine ⟨d, od, hd', e2, fun v hv => e3 v ?_⟩
   rw [ho] at hv
   cases e : loc[j]? with
   | none => rw [e] at hv; cases hv
   | some u => rw [e] at hv; exact hv
  live := fun x d e => F.live x d (hcl _ _ e)
  offL := hoff
  offC := fun x d e => ⟨hne x d (hcl _ _ e), (F.offC x d (hcl _ _ e)).2⟩
  apart := fun x y d e1 e2 => F.apart x y d (hcl _ _ e1) (hcl _ _ e2)
  top := F.top }
end
theorem comp_cases : ∀ gens : List Comprehension, (∃ t it ifs, gens = [⟨t, it, ifs, 0⟩]) ∨ ∀ (C : Cfg) (elt : Expr) (scope : Scope) (p : Pos) (ns : Names) (loc : Loc), ev C (.ListComp elt gens scope p) ns loc = M.bad
 | [] => .inr fun ya yb yc yd ye yf => rfl
 | [⟨t, it, ifs, .ofNat 0⟩] => .inl ⟨t, it, ifs, rfl⟩
 | [⟨t, it, ifs, .ofNat (k + 1)⟩] => .inr fun ya yb yc yd ye yf => rfl
 | [⟨t, it, ifs, .negSucc k⟩] => .inr fun ya yb yc yd ye yf => rfl
 | ⟨_, _, _, .ofNat 0⟩ :: _ :: _ => .inr fun ya yb yc yd ye yf => rfl
 | ⟨_, _, _, .ofNat (_ + 1)⟩ :: _ :: _ => .inr fun ya yb yc yd ye yf => rfl
 | ⟨_, _, _, .negSucc _⟩ :: _ :: _ => .inr fun ya yb yc yd ye yf => rfl
end Mine.Internal

set_option backward.match.sparseCases false
namespace Mine.Internal
open PySem PyProof.Rows
section
variable {h₀ : Bse} {hb : Heap} {A : Around} {W wr : List Addr} {ρ ρ' ρb : Map} {s sb : Shared} {σ : Store} {tx : Tabs} {mg mb : Str → Option Value}
variable {env cenv : Env} {ns ns' : Names} {loc : Loc} {C : Cfg} {n : Nat}
theorem compLoop_turn {elt target iter : Expr} {ifs : List Expr} {scope : Scope} {pos : Pos} {it acc : Value} {R : Result → Shared → Prop}
  (h : wpAny (model h₀.prog h₀.w) A (pyNext it) (fun r s₁ => match r with
   | none => R (.ok .next) s₁
   | some v => wpAny (model h₀.prog h₀.w) A (letOwnedTupleGo target it v) (fun ya s₁' => wpAny (model h₀.prog h₀.w) A (assign target env v) (fun ya s₂ =>
     wpAny (model h₀.prog h₀.w) A (forIn ifs true fun c r => if r = true then do let ok ← isTrue c env (eval c env); pure (ForInStep.yield ok) else pure (ForInStep.yield r)) (fun ok s₃ =>
      if ok = true then wpAny (model h₀.prog h₀.w) A (eval elt env) (fun x s₄ =>
       wpAny (model h₀.prog h₀.w) A (call (.builtin "list.append") [acc, x]) (fun ya s₅ => codeAny (model h₀.prog h₀.w) A (.compLoop (.ListComp elt [⟨target, iter, ifs, 0⟩] scope pos) 0 it acc env) R s₅) (notedBy (model h₀.prog h₀.w) A env fun x s' => R (.error x) s') s₄) (notedBy (model h₀.prog h₀.w) A env fun x s' => R (.error x) s') s₃
      else codeAny (model h₀.prog h₀.w) A (.compLoop (.ListComp elt [⟨target, iter, ifs, 0⟩] scope pos) 0 it acc env) R s₃) (notedBy (model h₀.prog h₀.w) A env fun x s' => R (.error x) s') s₂) (notedBy (model h₀.prog h₀.w) A env fun x s' => R (.error x) s') s₁') (notedBy (model h₀.prog h₀.w) A env fun x s' => R (.error x) s') s₁) (notedBy (model h₀.prog h₀.w) A env fun x s' => R (.error x) s') s) :
  codeAny (model h₀.prog h₀.w) A (.compLoop (.ListComp elt [⟨target, iter, ifs, 0⟩] scope pos) 0 it acc env) R s := by
 refine codeAny_of_tree ?_
 show wpAny _ A ((compTurn (.ListComp elt [⟨target, iter, ifs, 0⟩] scope pos) 0 it acc env).onRaise (fun x => do noteFrame x env; theTreesLotGoes x)) _ _ s
 refine wpAny_noted ?_
 rw [compTurn_list]
 refine wpAny_bind (wpAny_standAt (wpAny_bind (wpAny_mono h (fun r s₁ h₁ => ?_) fun ya yb h' => h')))
 cases r with
 | none => exact wpAny_pure h₁
 | some v =>
  refine wpAny_bind (wpAny_mono h₁ (fun ya s₁' h₁' => ?_) fun ya yb h' => h')
  refine wpAny_bind (wpAny_mono h₁' (fun ya s₂ h₂ => wpAny_bind (wpAny_mono h₂ (fun ok s₃ h₃ => ?_) fun ya yb h' => h')) fun ya yb h' => h')
  cases ok with
  | false => exact wpAny_pure ⟨rfl, h₃⟩
  | true =>
   exact wpAny_bind (wpAny_bind (wpAny_mono h₃ (fun x s₄ h₄ => wpAny_bind (wpAny_mono h₄ (fun ya s₅ h₅ => wpAny_pure (wpAny_pure ⟨rfl, h₅⟩)) fun ya yb h' => h')) fun ya yb h' => h'))
variable (h₀ C n) in
noncomputable def TestsS (ifs : List Expr) : Prop := ∀ (env : Env) (ns : Names) (loc : Loc) (σ : Store) (ρ : Map) (s : Shared) (A : Around), Rm h₀ A n C.calm → Frm h₀ env ns loc ρ s.heap → Inv h₀ σ ρ s.heap →
 Sim h₀ A [] (forIn ifs true fun c r => if r = true then do let ok ← isTrue c env (eval c env); pure (ForInStep.yield ok) else pure (ForInStep.yield r)) (tests C ifs ns loc σ) RB ρ s
theorem tests_nil : TestsS h₀ C n [] := fun env ns loc σ ρ s A hA F i => Sim.ret i rfl
theorem tests_one {e : Expr} (h : TstS h₀ C n e) : TestsS h₀ C n [e] := fun env ns loc σ ρ s A hA F i =>
 Sim.wrap (fun ya yb => wpAny_tests_one) (h env ns loc σ ρ s A hA F i)
theorem tests_more {e f : Expr} {r : List Expr} : TestsS h₀ C n (e :: f :: r) := fun env ns loc σ ρ s A hA F i => trivial
structure CE (h₀ : Bse) (ρb : Map) (hb : Heap) (cenv : Env) (ns' : Names) (D : Addr) (loc : Loc) (l : List V) (σ : Store) (ρ : Map) (h : Heap) : Prop where
 inv : Inv h₀ σ ρ h
 frm : Frm h₀ cenv ns' loc ρ h
 ext : Ext [] ρb hb ρ h
 acc : ∃ vs k, h.get? D = some (listO vs k) ∧ RelAll ρ h vs l
 off : offMap ρ D
structure CK (h₀ : Bse) (hb : Heap) (cenv : Env) (wr : List Addr) (D : Addr) : Prop where
 deadW : ∀ b ∈ wr, hb.get? b = none
 deadD : hb.get? D = none
 deadC : hb.get? cenv.locals = none
 offW : ∀ b ∈ wr, offFrame cenv b
 offD : offFrame cenv D
 base : ∀ b o, h₀.get? b = some o → ∃ o', hb.get? b = some o'
 DW : D ∉ wr
 fr : NoFr h₀ wr
theorem firm_list {vs : List Value} {j : Nat} : Firm (listO vs j) := ⟨fun ⟨_, _, e⟩ => (by cases e), fun ⟨e, _⟩ => absurd (Value.type.inj e) (by decide)⟩
theorem CK.base0 {D : Addr} (K : CK h₀ hb cenv wr D) {b : Addr} (h : hb.get? b = none) : h₀.get? b = none := by
 cases e : h₀.get? b with
 | none => rfl
 | some o => obtain ⟨o', e'⟩ := K.base _ _ e; rw [h] at e'; cases e'
theorem CE.but {D : Addr} {l : List V} {h h' : Heap} (K : CK h₀ hb cenv wr D) (x : CE h₀ ρb hb cenv ns' D loc l σ ρ h) (hk : KeepBut wr h h') (ho : Own wr ρ h) : CE h₀ ρb hb cenv ns' D loc l σ ρ h' where
 inv := x.inv.but hk ho (fun b hb => K.base0 (K.deadW b hb)) K.fr
 frm := x.frm.but hk ho K.offW
 ext := x.ext.but hk K.deadW
 acc := by
  obtain ⟨vs, k, g, r⟩ := x.acc
  exact ⟨vs, k, hk _ _ K.DW g, r.sub (hk.sub ho)⟩
 off := x.off
theorem CE.step {D : Addr} {l : List V} {h h' : Heap} {σ' : Store} {loc' : Loc} (K : CK h₀ hb cenv wr D) (x : CE h₀ ρb hb cenv ns' D loc l σ ρ h) (hW : ∀ b ∈ W, b = cenv.locals) (i : Inv h₀ σ' ρ' h') (e : Ext W ρ h ρ' h') (F : Frm h₀ cenv ns' loc' ρ' h') :
  CE h₀ ρb hb cenv ns' D loc' l σ' ρ' h' where
 inv := i
 frm := F
 ext := ((x.ext.weak (W' := W) fun ya hm => nomatch hm).trans e).weak fun b hm => .inr (by rw [hW b hm]; exact K.deadC)
 acc := by
  obtain ⟨vs, k, g, r⟩ := x.acc
  exact ⟨vs, k, e.firm g firm_list (fun hm => K.offD.1 (hW _ hm)) x.off, r.ext e⟩
 off := by
  obtain ⟨vs, k, g, r⟩ := x.acc
  exact offMap.ext e g x.off
theorem CE.push {D : Addr} {l : List V} {v : Value} {a : V} {Q : Value → Shared → Prop} {E : Value → Shared → Prop} {sr : Src} {it : Value} {i : Nat} (K : CK h₀ hb cenv wr D) (x : CE h₀ ρb hb cenv ns' D loc l σ ρ s.heap) (wk : ItAt h₀ sr it wr i ρ s.heap) (r : Rel ρ s.heap v a) (hl : l.length ≤ sizeLine)
  (h : ∀ h', CE h₀ ρb hb cenv ns' D loc (l ++ [a]) σ ρ h' → ItAt h₀ sr it wr i ρ h' → Q .none { s with heap := h' }) : wpAny (model h₀.prog h₀.w) A (call (.builtin "list.append") [.ref D, v]) Q E s := by
 obtain ⟨vs, k, g, rv⟩ := x.acc
 have hlen := rv.length
 refine wpAny_list_append_plain ⟨k, g⟩ (fun h' hg hk => ?_) (by rw [List.size_toArray, hlen]; exact hl)
 obtain ⟨m', hg⟩ := hg
 have hg : h'.get? D = some (listO (vs ++ [v]) m') := by simpa [listO] using hg
 have hkk : ∀ b o, s.heap.get? b = some o → b ∉ [D] → h'.get? b = some o := fun b o e hb => hk.extBut b o (fun eq => hb (List.mem_singleton.mpr eq)) e
 have hx : Ext [D] ρ s.heap ρ h' := Ext.of_keep (fun b hm => by rw [List.mem_singleton.mp hm]; exact x.off) hkk fun b o e hm => by
  rw [List.mem_singleton.mp hm] at e ⊢
  rw [g] at e; cases e
  exact ⟨_, hg, kin_list⟩
 refine h h' ⟨x.inv.keep hx (fun b hm => by rw [List.mem_singleton.mp hm]; exact ⟨x.off, K.base0 K.deadD⟩) hkk, x.frm.ext hx (fun b hm => by rw [List.mem_singleton.mp hm]; exact K.offD), ?_, ⟨vs ++ [v], m', hg, (rv.append (.cons r .nil)).ext hx⟩, x.off⟩
  (wk.ext hx fun b hb hm => K.DW (List.mem_singleton.mp hm ▸ hb))
 exact ((x.ext.weak (W' := [D]) fun ya hm => nomatch hm).trans hx).weak fun b hm => .inr (by rw [List.mem_singleton.mp hm]; exact K.deadD)
noncomputable def CompR (h₀ : Bse) (ρb : Map) (hb : Heap) (sb : Shared) (cenv : Env) (ns' : Names) (D : Addr) (l₀ : List V) : Res (List V) → Result → Shared → Prop
 | .bad, _, _ => True
 | .ok l σ', r, s' => r = .ok .next ∧ ∃ loc' ρ' H' tk', s' = (At sb H' tk') ∧ CE h₀ ρb hb cenv ns' D loc' (l₀ ++ l) σ' ρ' H'
 | .exc e σ', r, s' => ∃ ev ρ' H' tk' m, r = .error ev ∧ s' = (At sb H' tk') ∧ Inv h₀ σ' ρ' H' ∧ Ext [] ρb hb ρ' H' ∧ RE σ' e ev ρ' H' ∧ Noted ev H' ∧ H'.Ns cenv.locals m ∧ offMap ρ' cenv.locals
theorem CE.fly {D : Addr} {l l₀ : List V} {H H' : Heap} {tk : Nat} {σ' : Store} {e : V} {ev : Value} {q : Bool} (hA : Rm h₀ A n q) (x : CE h₀ ρb hb cenv ns' D loc l σ ρ H) (i : Inv h₀ σ' ρ' H') (y : Ext [] ρ H ρ' H') (r : RE σ' e ev ρ' H') :
  notedBy (model h₀.prog h₀.w) A cenv (fun x s' => CompR h₀ ρb hb sb cenv ns' D l₀ (.exc e σ') (.error x) s') ev (At sb H' tk) := by
 refine note_ok (s := (At sb H' tk)) hA x.frm.top i r fun h' i' x' nt => ?_
 obtain ⟨m, hn, _⟩ := (x.frm.ext0 (y.trans x')).vars
 exact ⟨ev, ρ', h', tk, m, rfl, rfl, i', (x.ext.trans y).trans x', r, nt, hn, (x.frm.ext0 (y.trans x')).offL⟩
theorem compLoop_ok {elt target iter : Expr} {ifs : List Expr} {scope : Scope} {pos : Pos} {D : Addr} {sr : Src} {it : Value} (hq : C.calm = true) (hA : Rm h₀ A n C.calm) (K : CK h₀ hb cenv wr D) (ht : TestsS h₀ C n ifs) (he : EvS h₀ C n elt) (htg : tgtOk sr target = true) :
  ∀ (k i : Nat) (loc : Loc) (l₀ : List V) (σ : Store) (ρ : Map) (H : Heap) (tk : Nat) (r : Res (List V)), CE h₀ ρb hb cenv ns' D loc l₀ σ ρ H → ItAt h₀ sr it wr i ρ H →
   compLoop sr (bindTo (stLocL ns') target) (tests C ifs ns') (ev C elt ns') k i loc σ = r → r ≠ .bad → l₀.length + k ≤ sizeLine + 1 →
   codeAny (model h₀.prog h₀.w) A (.compLoop (.ListComp elt [⟨target, iter, ifs, 0⟩] scope pos) 0 it (.ref D) cenv) (CompR h₀ ρb hb sb cenv ns' D l₀ r) (At sb H tk) := by
 intro k
 induction k with
 | zero =>
  intro _ _ _ _ _ _ _ _ _ _ h hn _
  exact absurd h.symm hn
 | succ k ih =>
  intro i loc l₀ σ ρ H tk r x wk h hn hl
  have S := stLocL_ok (h₀ := h₀) (env := cenv) (ns := ns') (K.base0 K.deadC)
  cases hat : sr.at σ i with
  | none => rw [compLoop_bad hat] at h; exact absurd h.symm hn
  | some o =>
   rw [compLoop_step hat] at h
   refine compLoop_turn (s := (At sb H tk)) (wk.next (s := (At sb H tk)) (hA.handled hq) x.inv hat htg (fun h' ho hk => ?_) fun v val h' tk' hv hk hgo => ?_)
   ·subst ho
    subst h
    exact ⟨rfl, loc, ρ, h', tk, rfl, by rw [List.append_nil]; exact x.but K hk wk.own⟩
   ·subst hv
    refine hgo _ _ fun h'' hk'' rv wk' => ?_
    have x1 := x.but K hk'' wk.own
    have h1 := Sim.bindTo (s := (At sb h'' tk')) (t := target) S (hA.handled hq) x1.frm x1.inv rv
    cases hb1 : bindTo (stLocL ns') target v loc σ with
    | bad => exact absurd ((bind_bad hb1).symm.trans h).symm hn
    | exc _ _ => exact absurd hb1 (bindTo_quiet S)
    | ok loc₁ σ₁ =>
    replace h := (bind_ok hb1).symm.trans h
    rw [hb1] at h1
    refine wpAny_mono h1 (fun ya s' hp => ?_) fun ya yb f => f.elim
    obtain ⟨ρ₁, H₁, tk₁, rfl, i₁, e₁, F₁⟩ := hp
    have x2 := x1.step K (fun b hm => List.mem_singleton.mp hm) i₁ e₁ F₁
    have wk2 := wk'.ext e₁ fun b hb hm => (K.offW b hb).1 (List.mem_singleton.mp hm)
    have h2 := ht cenv ns' loc₁ σ₁ ρ₁ (At sb H₁ tk₁) A hA x2.frm x2.inv
    cases hb2 : tests C ifs ns' loc₁ σ₁ with
    | bad => exact absurd ((bind_bad hb2).symm.trans h).symm hn
    | exc e σ₂ =>
     have := (bind_exc hb2).symm.trans h
     subst this
     rw [hb2] at h2
     refine wpAny_mono h2 (fun ya yb f => f.elim) fun ev s' hp => ?_
     obtain ⟨ρ₂, H₂, tk₂, rfl, i₂, e₂, re⟩ := hp
     exact x2.fly hA i₂ e₂ re
    | ok ok σ₂ =>
    replace h := (bind_ok hb2).symm.trans h
    rw [hb2] at h2
    refine wpAny_mono h2 (fun ok' s' hp => ?_) fun ya yb f => f.elim
    obtain ⟨ρ₂, H₂, tk₂, rfl, i₂, e₂, hok⟩ := hp
    have hok : ok' = ok := hok
    subst hok
    have x3 := x2.step K (W := []) (fun b hm => absurd hm (List.not_mem_nil)) i₂ e₂ (x2.frm.ext0 e₂)
    have wk3 := wk2.ext e₂ fun b hb hm => absurd hm List.not_mem_nil
    cases ok' with
    | false => exact ih (i + 1) loc₁ l₀ σ₂ ρ₂ H₂ tk₂ r x3 wk3 h hn (by lia)
    | true =>
     have h : (ev C elt ns' loc₁ >>= fun x => compLoop sr (bindTo (stLocL ns') target) (tests C ifs ns') (ev C elt ns') k (i + 1) loc₁ >>= fun r => pure (x :: r)) σ₂ = r := h
     have h3 := he cenv ns' loc₁ σ₂ ρ₂ (At sb H₂ tk₂) A hA x3.frm x3.inv
     cases hb3 : ev C elt ns' loc₁ σ₂ with
     | bad => exact absurd ((bind_bad hb3).symm.trans h).symm hn
     | exc e σ₃ =>
      have := (bind_exc hb3).symm.trans h
      subst this
      rw [hb3] at h3
      refine wpAny_mono h3 (fun ya yb f => f.elim) fun ev s' hp => ?_
      obtain ⟨ρ₃, H₃, tk₃, rfl, i₃, e₃, re⟩ := hp
      exact x3.fly hA i₃ e₃ re
     | ok a σ₃ =>
     replace h := (bind_ok hb3).symm.trans h
     rw [hb3] at h3
     refine wpAny_mono h3 (fun y s' hp => ?_) fun ya yb f => f.elim
     obtain ⟨ρ₃, H₃, tk₃, rfl, i₃, e₃, ry⟩ := hp
     have x4 := x3.step K (W := []) (fun b hm => absurd hm (List.not_mem_nil)) i₃ e₃ (x3.frm.ext0 e₃)
     have wk4 := wk3.ext e₃ fun b hb hm => absurd hm List.not_mem_nil
     refine CE.push (s := (At sb H₃ tk₃)) K x4 wk4 ry (by lia) fun h' x5 wk5 => ?_
     have again := fun r' h' hn' => ih (i + 1) loc₁ (l₀ ++ [a]) σ₃ ρ₃ _ tk₃ r' x5 wk5 h' hn' (by rw [List.length_append, List.length_singleton]; lia)
     cases hb4 : compLoop sr (bindTo (stLocL ns') target) (tests C ifs ns') (ev C elt ns') k (i + 1) loc₁ σ₃ with
     | bad => exact absurd ((bind_bad hb4).symm.trans h).symm hn
     | exc e σ₄ =>
      have := (bind_exc hb4).symm.trans h
      subst this
      exact again _ hb4 nofun
     | ok l σ₄ =>
      have := (bind_ok hb4).symm.trans h
      subst this
      refine codeAny_mono (again _ hb4 nofun) fun r' s' hr => ?_
      obtain ⟨h5, loc₅, ρ₅, H₅, tk₅, h6, X⟩ := hr
      rw [List.append_assoc] at X
      exact ⟨h5, loc₅, ρ₅, H₅, tk₅, h6, X⟩
theorem compLoop_len {sr : Src} {bt : V → Loc → M Loc} {tt : Loc → M Bool} {et : Loc → M V} : ∀ {k i : Nat} {loc : Loc} {σ : Store} {l : List V} {σ' : Store}, compLoop sr bt tt et k i loc σ = .ok l σ' → l.length < k := by
 intro k
 induction k with
 | zero =>
  intro _ _ _ _ _ h
  cases h
 | succ k ih =>
  intro i loc σ l σ' h
  cases hat : sr.at σ i with
  | none => rw [compLoop_bad hat] at h; cases h
  | some o =>
   rw [compLoop_step hat] at h
   cases o with
   | none => cases h; exact Nat.succ_pos _
   | some v =>
    obtain ⟨loc₁, σ₁, _, h⟩ := bind_inv h
    obtain ⟨b, σ₂, _, h⟩ := bind_inv h
    cases b with
    | false => exact Nat.lt_succ_of_lt (ih h)
    | true =>
     obtain ⟨y, σ₃, _, h⟩ := bind_inv (m := et loc₁) h
     obtain ⟨r, σ₄, h4, h⟩ := bind_inv h
     cases h
     exact Nat.succ_lt_succ (ih h4)
theorem Inv.adopt {a : Addr} {o : O} {h : Heap} (i : Inv h₀ σ ρ h) (off : offMap ρ a) (h0 : h₀.get? a = none) (hfr : NoFr h₀ [a]) (ho : ORel h₀ (ρ ++ [(a, 0)]) h (a, 0) o) : Inv h₀ (σ ++ [o]) (ρ ++ [(a, 0)]) h := by
 refine ⟨i.base, by simp [i.len], fun n o' p e1 e2 => ?_, fun n p hp hn => ?_, fun j k p q e1 e2 hjk => ?_, fun e he => ?_⟩
 ·rcases snoc_case e2 with e2 | ⟨rfl, rfl⟩
  ·have hl : n < σ.length := by
    rcases Nat.lt_or_ge n ρ.length with hl | hl
    ·rw [← i.len]; exact hl
    ·rw [List.getElem?_eq_none hl] at e2; cases e2
   rw [List.getElem?_append_left hl] at e1
   exact (i.objs n o' p e1 e2).sub Sub.snoc (fun ob g => g)
  ·rw [i.len, List.getElem?_append_right (Nat.le_refl _), Nat.sub_self] at e1
   cases e1; exact ho
 ·rcases snoc_case hp with hp | ⟨_, rfl⟩
  ·exact i.fresh n p hp hn
  ·exact h0
 ·rcases snoc_case e1 with d1 | ⟨rfl, rfl⟩
  ·rcases snoc_case e2 with d2 | ⟨rfl, rfl⟩
   ·exact i.apart j k p q d1 d2 hjk
   ·exact (off p (List.mem_of_getElem? d1)).symm
  ·rcases snoc_case e2 with d2 | ⟨rfl, rfl⟩
   ·exact off q (List.mem_of_getElem? d2)
   ·exact absurd rfl hjk
 ·obtain ⟨hkd, L, ob, hL, g, hD, offL, z⟩ := i.up e he
  refine ⟨hkd, L, ob, hL, g, hD, fun p hp => ?_, z⟩
  rcases List.mem_append.mp hp with hp | hp
  ·exact offL p hp
  ·rw [List.mem_singleton.mp hp]
   have := hfr a (List.mem_singleton.mpr rfl) e he
   rw [hL] at this
   exact fun q => this (q ▸ rfl)
theorem Ext.adopt {a : Addr} {h : Heap} (x : Ext W ρb hb ρ h) (hd : hb.get? a = none) : Ext W ρb hb (ρ ++ [(a, 0)]) h where
 pre := fun n b v e => let ⟨v', e', r⟩ := x.pre n b v e; ⟨v', snoc_old e', r⟩
 keep := x.keep
 kin := x.kin
 new := fun j p e hj => by
  rcases snoc_case e with e | ⟨_, rfl⟩
  ·exact x.new j p e hj
  ·exact hd
end
end Mine.Internal

set_option backward.match.sparseCases false
namespace Mine.Internal
open PySem PyProof.Rows
section
variable {h₀ : Bse} {hb : Heap} {A : Around} {W wr : List Addr} {ρ ρ' ρb : Map} {s sb : Shared} {σ σ' : Store} {tx : Tabs} {mg mb : Str → Option Value}
variable {env cenv : Env} {ns ns' : Names} {loc : Loc} {C : Cfg} {n : Nat}
noncomputable def compM (C : Cfg) (elt target iter : Expr) (ifs : List Expr) (scope : Scope) (ns : Names) (loc : Loc) : M V := do
 let s ← src C iter ns loc (ev C iter ns loc)
 if C.calm && (tgtOk s target && compOk scope.kind scope.names) then do
  let n ← s.count
  if n ≤ sizeLine then do
   let loc' ← innerLoc ns loc scope.names
   let l ← compLoop s (bindTo (stLocL (relab ns scope.names)) target) (tests C ifs (relab ns scope.names)) (ev C elt (relab ns scope.names)) (n + 1) 0 loc'
   newO (.list l)
  else M.bad
 else M.bad
theorem compOk_kind {k : ScopeKind} {names : Names} (h : compOk k names = true) : k = .function ∧ ∀ x ∈ names, x.2 = .local → names.lookup x.1 = some .local := by
 unfold compOk at h
 simp only [Bool.and_eq_true, List.all_eq_true] at h
 obtain ⟨h1, h2⟩ := h
 refine ⟨?_, fun x hx hl => ?_⟩
 ·cases k <;> first | rfl | cases h1
 ·have := h2 x hx
  rw [hl] at this
  dsimp only at this
  cases e : names.lookup x.1 with
  | none => rw [e] at this; cases this
  | some k' => rw [e] at this; cases k' <;> first | rfl | cases this
theorem ask_ok {α : Type} {f : Store → Option α} {a : α} {σ' : Store} (h : askS f σ = .ok a σ') : σ' = σ ∧ f σ = some a := by
 rw [askS_eq] at h
 cases e : f σ with
 | none => rw [e] at h; cases h
 | some b => rw [e] at h; cases h; exact ⟨rfl, rfl⟩
theorem ask_quiet {α : Type} {f : Store → Option α} {e : V} {σ' : Store} : askS f σ ≠ .exc e σ' := by
 rw [askS_eq]
 cases f σ with
 | none => exact nofun
 | some b => exact nofun
theorem innerLoc_quiet {names : Names} : ∀ {σ : Store} {e : V} {σ' : Store}, innerLoc ns loc names σ ≠ .exc e σ' := by
 have step : ∀ (m : M Loc) (o : Option V), (∀ σ e σ', m σ ≠ .exc e σ') → ∀ σ e σ', (m >>= fun t => (pure (o :: t) : M Loc)) σ ≠ .exc e σ' := fun m o hm σ e σ' => by
  cases h : m σ with
  | bad => rw [bind_bad h]; exact nofun
  | exc _ _ => exact absurd h (hm _ _ _)
  | ok t σ₁ => rw [bind_ok h]; exact nofun
 induction names with
 | nil => exact nofun
 | cons p r ih =>
  intro σ e σ'
  obtain ⟨x, k⟩ := p
  cases k with
  | free =>
   unfold innerLoc
   cases slot ns x with
   | none => exact nofun
   | some p =>
    obtain ⟨j, k'⟩ := p
    cases k' with
    | cell => exact step _ _ (fun σ e σ' => ih) _ _ _
    | _ => exact nofun
  | cell => exact nofun
  | _ => exact step _ _ (fun σ e σ' => ih) _ _ _
theorem ite_bad {α : Type} {c : Prop} [Decidable c] {m : M α} (h : (if c then m else M.bad) σ ≠ .bad) : c ∧ (if c then m else M.bad) σ = m σ := by
 by_cases hc : c
 ·rw [if_pos hc]; exact ⟨hc, rfl⟩
 ·rw [if_neg hc] at h; exact absurd rfl h
theorem passOn_ok {α : Type} {what : String} {e : V} {ev : Value} {Q : α → Shared → Prop} {E : Value → Shared → Prop} (i : Inv h₀ σ ρ s.heap) (r : RE σ e ev ρ s.heap) (nt : Noted ev s.heap)
  (hq : ∀ h', Inv h₀ σ ρ h' → Ext [] ρ s.heap ρ h' → E ev { s with heap := h' }) : wpAny (model h₀.prog h₀.w) A (PySem.passOn what ev env) Q E s := by
 obtain ⟨a, o, vs, tb, rfl, g, hd, h1⟩ := id nt
 unfold PySem.passOn
 refine wpAny_bind (wpAny_field g hd h1 ?_)
 rw [if_neg (show ¬(Value.ref tb == Value.none) = true from nofun)]
 exact wpAny_bind (setFlight_ok i r fun h' i' x' ya => wpAny_throw (hq h' i' x'))
theorem cameBack_ok {e : V} {ev : Value} {E : Value → Shared → Prop} (i : Inv h₀ σ ρ s.heap) (r : RE σ e ev ρ s.heap) (nt : Noted ev s.heap)
  (hq : ∀ h', Inv h₀ σ ρ h' → Ext [] ρ s.heap ρ h' → E ev { s with heap := h' }) : cameBackBy (model h₀.prog h₀.w) A env E ev s := by
 obtain ⟨a, o, vs, tb, rfl, g, hd, h1⟩ := id nt
 refine wpAny_bind (wpAny_field g hd h1 ?_)
 rw [if_neg (show ¬(Value.ref tb == Value.none) = true from nofun)]
 exact setFlight_ok i r fun h' i' x' ya => hq h' i' x'
theorem comp_end {c : Addr} {H h' : Heap} {m : Str → Option Value} (i₀ : Inv h₀ σ' ρ hb) (i : Inv h₀ σ ρ' H) (x : Ext W ρ hb ρ' H) (hn : H.Ns c m) (off : offMap ρ' c) (hd : hb.get? c = none) (hs : Heap.SameBut c H h') :
  Inv h₀ σ ρ' h' ∧ Ext W ρ hb ρ' h' ∧ KeepBut [c] H h' ∧ Own [c] ρ' H := by
 have hk : KeepBut [c] H h' := KeepBut.of_but hs.extBut (List.mem_singleton.mpr rfl)
 have own : Own [c] ρ' H := fun b hb => by
  rw [List.mem_singleton.mp hb]
  obtain ⟨o, ho, d⟩ := ns_dict hn
  refine ⟨off, o, ho, fun vs n e => ?_, fun t => tb_not_d t d⟩
  obtain ⟨_, _, d⟩ := d
  rw [e] at d; cases d
 have dead : ∀ b ∈ [c], hb.get? b = none := fun b hb' => by rw [List.mem_singleton.mp hb']; exact hd
 refine ⟨i.but hk own (fun b hb' => ?_) (i₀.noFr dead), x.but hk dead, hk, own⟩
 cases e : h₀.get? b with
 | none => rfl
 | some o => have := i₀.base _ _ e; rw [dead b hb'] at this; cases this
theorem wpAny_comprehension_first {e : Expr} {scope : Scope} {pos : Pos} {newAcc first : Sem Value} {use : Option (Value → Sem Unit)} {Q : Value → Shared → Prop} {E : Value → Shared → Prop} (h : wpAny (model h₀.prog h₀.w) A first (fun ya yb => False) E s) :
  wpAny (model h₀.prog h₀.w) A (comprehension e scope env pos newAcc false first use) Q E s := by
 unfold comprehension
 exact wpAny_bind (wpAny_mono h (fun ya yb f => f.elim) fun ya yb x => x)
theorem ite_ok {α : Type} {c : Prop} [Decidable c] {m : M α} {a : α} {σ' : Store} (h : (if c then m else M.bad) σ = .ok a σ') : c ∧ m σ = .ok a σ' := by
 by_cases hc : c
 ·rw [if_pos hc] at h; exact ⟨hc, h⟩
 ·rw [if_neg hc] at h; cases h
theorem set_no_fold {iter : Expr} (h : ∀ es k p, iter ≠ .Set es k p) : ∀ x, foldedSetIterable iter env x = pure x := by
 intro x
 cases iter <;> first | rfl | exact absurd rfl (h _ _ _)
theorem src_set {es : List Expr} {k : Nat} {p : Pos} : src C (.Set es k p) ns loc (ev C (.Set es k p) ns loc) σ = .bad := rfl
noncomputable def CompEnd (h₀ : Bse) (A : Around) (C : Cfg) (ρ : Map) (s : Shared) (E : Value → Shared → Prop) (use : Option (Value → Sem Unit)) (Q : Value → Shared → Prop) (r : Res V) : Prop :=
 C.calm = true → ∀ v σ', r = .ok v σ' → ∀ D c f ρ' H tk m, Inv h₀ σ' ρ' H → Ext [] ρ s.heap ρ' H → Rel ρ' H (.ref D) v → H.Ns c m → offMap ρ' c → s.heap.get? c = none → compPost (model h₀.prog h₀.w) A E use Q (.ref D) c (.ok f) (At s H tk)
noncomputable def CompFly (h₀ : Bse) (ρ : Map) (s : Shared) (E : Value → Shared → Prop) (r : Res V) : Prop :=
 ∀ e σ', r = .exc e σ' → ∀ ev ρ' H tk, Inv h₀ σ' ρ' H → Ext [] ρ s.heap ρ' H → RE σ' e ev ρ' H → E ev (At s H tk)
theorem comp_core {elt target iter : Expr} {ifs : List Expr} {scope : Scope} {pos : Pos} {r : Res V} {use : Option (Value → Sem Unit)} {Q : Value → Shared → Prop} {E : Value → Shared → Prop} {pp : Pos} (hA : Rm h₀ A n C.calm) (F : Frm h₀ env ns loc ρ s.heap) (iv : Inv h₀ σ ρ s.heap)
  (hs : SrcS h₀ C n iter) (ht : TestsS h₀ C n ifs) (he : EvS h₀ C n elt) (h : compM C elt target iter ifs scope ns loc σ = r) (hr : r ≠ .bad)
  (hend : CompEnd h₀ A C ρ s E use Q r) (hfly : CompFly h₀ ρ s E r) :
  wpAny (model h₀.prog h₀.w) A (comprehension (.ListComp elt [⟨target, iter, ifs, 0⟩] scope pos) scope env pp (newList []) false (eval iter env) use) Q E s := by
 subst h
 have hsrc := hs env ns loc σ ρ s A hA F iv
 by_cases hset : ∃ es k p, iter = .Set es k p
 ·obtain ⟨es, k, p, rfl⟩ := hset
  exact absurd rfl hr
 have hset : ∀ es k p, iter ≠ .Set es k p := fun es k p e => hset ⟨es, k, p, e⟩
 rcases bind_cases hr with ⟨sr, σ₁, h1, e1⟩ | ⟨e, σ₁, h1, e1⟩
 case inr =>
  rw [h1] at hsrc
  refine wpAny_comprehension_first (wpAny_mono hsrc (fun ya yb f => f.elim) fun ev s' hp => ?_)
  obtain ⟨ρ₁, H₁, tk₁, rfl, i₁, x₁, r₁⟩ := hp
  exact hfly e σ₁ e1 ev ρ₁ H₁ tk₁ i₁ x₁ r₁
 refine keep fun P kk => ?_
 replace e1 : compM C elt target iter ifs scope ns loc σ = _ := e1
 obtain ⟨hc, e2⟩ := ite_bad fun e => hr (e1.trans e)
 replace e1 := e1.trans e2
 clear e2
 rcases bind_cases fun e => hr (e1.trans e) with ⟨N, σ₂, h2, e3⟩ | ⟨_, _, h2, _⟩
 case inr => exact absurd h2 ask_quiet
 replace e1 := e1.trans e3
 clear e3
 obtain ⟨rfl, h2'⟩ := ask_ok h2
 obtain ⟨hN, e4⟩ := ite_bad fun e => hr (e1.trans e)
 replace e1 := e1.trans e4
 clear e4
 rcases bind_cases fun e => hr (e1.trans e) with ⟨loc', σ₃, h3, e5⟩ | ⟨_, _, h3, _⟩
 case inr => exact absurd h3 innerLoc_quiet
 replace e1 := e1.trans e5
 clear e5
 replace hr := fun e => hr (e1.trans e)
 have hcomp : ∀ l σ₄, compLoop sr (bindTo (stLocL (relab ns scope.names)) target) (tests C ifs (relab ns scope.names)) (ev C elt (relab ns scope.names)) (N + 1) 0 loc' σ₃ = .ok l σ₄ → l.length ≤ sizeLine := fun l σ₄ h => by
  have := compLoop_len h
  lia
 simp only [Bool.and_eq_true] at hc
 obtain ⟨hq, htg, hco⟩ := hc
 obtain ⟨hkind, hnames⟩ := compOk_kind hco
 have hin := h3
 obtain ⟨rfl, hnc, hfr, hsl⟩ := innerLoc_ok h3
 obtain ⟨cl, hclos, hcl, hcl2⟩ := closure_ok (env := env) (scope := scope) fun x hx hf => by
  obtain ⟨j, hj⟩ := hfr x hx hf
  obtain ⟨c, o, e, _⟩ := F.cell x.1 j hj
  exact ⟨c, e⟩
 refine kk (wpAny_comprehension_free (g := ⟨target, iter, ifs, 0⟩) (gs := []) (cl := cl) rfl (set_no_fold hset) hclos hkind hnames ?_)
 rw [h1] at hsrc
 refine wpAny_mono hsrc (fun xv s₁ hp => ?_) fun ya yb f => f.elim
 obtain ⟨ρ₁, H₁, tk₁, rfl, i₁, x₁, r₁⟩ := hp
 refine RSrc.iter (s := (At s H₁ tk₁)) i₁ x₁ r₁ fun it wr h₂ hk₂ wk hdead => ?_
 have i₂ := i₁.keeps hk₂
 have x₂ : Ext [] ρ s.heap ρ₁ h₂ := x₁.trans (Ext.of_keeps hk₂)
 have F₂ : Frm h₀ env ns loc ρ₁ h₂ := F.ext0 x₂
 refine wpAny_newObj_type (T := "list") (wpAny_newFunctionEnv hnc (by intro y hy; simp at hy) (fun h₃ hns₃ hsb₃ => ?_) hkind)
 dsimp only at hns₃ hsb₃ ⊢
 have hD3 : ∀ b o, h₂.get? b = some o → h₃.get? b = some o := fun b o e => hsb₃.extBut b o (Nat.ne_of_lt (Heap.lt_size (Heap.get?_push_of_some _ e))) (Heap.get?_push_of_some _ (Heap.get?_push_of_some _ e))
 generalize hH2 : h₂.push { cls := .type "list", dict := none, data := .seq ([] : List Value).toArray } = H2 at hns₃ hsb₃ ⊢
 have hDg : h₃.get? h₂.objs.size = some (listO [] 0) := hsb₃.extBut _ _ (by rw [← hH2, Heap.size_push]; exact Nat.ne_of_lt (Nat.lt_succ_self _)) (Heap.get?_push_of_some _ (hH2 ▸ Heap.get?_push_size _ rfl))
 have hDC : h₂.objs.size ≠ H2.objs.size := by rw [← hH2, Heap.size_push]; exact Nat.ne_of_lt (Nat.lt_succ_self _)
 have deadD := size_dead x₂.alive
 have hs2 : H2.objs.size = h₂.objs.size + 1 := by rw [← hH2, Heap.size_push]
 have deadC2 : h₂.get? H2.objs.size = none := by
  cases e : h₂.get? H2.objs.size with
  | none => rfl
  | some o => exact absurd (Heap.lt_size e) (by rw [hs2]; exact Nat.not_lt.mpr (Nat.le_succ _))
 have deadC : s.heap.get? H2.objs.size = none := by
  cases e : s.heap.get? H2.objs.size with
  | none => rfl
  | some o => obtain ⟨o', e'⟩ := x₂.alive _ _ e; rw [deadC2] at e'; cases e'
 have i₃ := i₂.keeps hD3
 have offD : offMap ρ₁ h₂.objs.size := i₂.off_size
 have offC : offMap ρ₁ H2.objs.size := fun p hp => by
  obtain ⟨o1, e1⟩ := i₂.alive hp
  exact fun e => (by rw [← e, deadC2] at e1; cases e1)
 have F₃ : Frm h₀ env ns loc ρ₁ h₃ := F₂.ext0 (Ext.of_keeps hD3)
 generalize hce : ({ newEnv scope H2.objs.size env.globals cl env.qual none .none (some env) (builtinsNs) with scope := relabel scope env } : Env) = cenv
 have hcloc : cenv.locals = H2.objs.size := by rw [← hce]; rfl
 have hccell : cenv.cells = cl := by rw [← hce]; rfl
 have Fc : Frm h₀ cenv (relab ns scope.names) loc' ρ₁ h₃ := compFrm F₃ hin hkind hcl hcl2 (by rw [← hce]; rfl) hns₃ offC fun x d hd e => by
  obtain ⟨_, o, ho, _⟩ := F₂.live x d hd
  rw [e, deadC2] at ho; cases ho
 have hcl_live : ∀ y c, cenv.cells.lookup y = some c → ∃ o, s.heap.get? c = some o := fun y c hc => by
  rw [hccell] at hc
  obtain ⟨_, o, ho, _⟩ := F.live y c (hcl _ _ hc)
  exact ⟨o, ho⟩
 have K : CK h₀ s.heap cenv wr h₂.objs.size :=
  {deadW := hdead
   deadD := deadD
   deadC := by rw [hcloc]; exact deadC
   offW := fun b hb => by
    refine ⟨fun e => ?_, fun y c hc e => ?_⟩
    ·obtain ⟨_, o, ho, _⟩ := wk.own b hb
     rw [e, hcloc, deadC2] at ho; cases ho
    ·obtain ⟨o, ho⟩ := hcl_live y c hc
     rw [← e, hdead b hb] at ho; cases ho
   offD := ⟨by rw [hcloc]; exact hDC, fun y c hc e => by
     obtain ⟨o, ho⟩ := hcl_live y c hc
     rw [← e, deadD] at ho; cases ho⟩
   base := fun b o e => ⟨o, iv.base b o e⟩
   DW := fun hm => by
    obtain ⟨_, o, ho, _⟩ := wk.own _ hm
    exact absurd (Heap.lt_size ho) (Nat.lt_irrefl _)
   fr := iv.noFr hdead }
 have X : CE h₀ ρ s.heap cenv (relab ns scope.names) h₂.objs.size loc' [] σ₃ ρ₁ h₃ :=
  {inv := i₃
   frm := Fc
   ext := x₂.trans (Ext.of_keeps hD3)
   acc := ⟨[], 0, hDg, .nil⟩
   off := offD }
 have wk3 := wk.ext (Ext.of_keeps (W := []) hD3) fun b hb hm => absurd hm List.not_mem_nil
 have hloop : compLoop sr (bindTo (stLocL (relab ns scope.names)) target) (tests C ifs (relab ns scope.names)) (ev C elt (relab ns scope.names)) (N + 1) 0 loc' σ₃ ≠ .bad := fun e => hr (bind_bad e)
 have loop := fun tk => compLoop_ok (iter := iter) (scope := scope) (pos := pos) (sb := s) hq hA K ht he htg (N + 1) 0 loc' [] σ₃ ρ₁ h₃ tk _ X wk3 rfl hloop (by simpa using hN)
 have fin : ∀ tk, codeAny (model h₀.prog h₀.w) A (.compLoop (.ListComp elt [⟨target, iter, ifs, 0⟩] scope pos) 0 it (.ref h₂.objs.size) cenv) (compPost (model h₀.prog h₀.w) A E use Q (.ref h₂.objs.size) H2.objs.size) (At s h₃ tk) := fun tk => by
  refine codeAny_mono (loop tk) fun r s' hr' => ?_
  cases h4 : compLoop sr (bindTo (stLocL (relab ns scope.names)) target) (tests C ifs (relab ns scope.names)) (ev C elt (relab ns scope.names)) (N + 1) 0 loc' σ₃ with
  | bad => exact absurd h4 hloop
  | exc e σ₄ =>
   rw [h4] at hr'
   obtain ⟨ev, ρ₅, H₅, tk₅, m, rfl, rfl, i₅, x₅, re, nt, hn, off⟩ := hr'
   rw [hcloc] at hn off
   refine ⟨m, hn, fun h' hsb cenv' ya => ?_⟩
   obtain ⟨i₆, x₆, hk, _⟩ := comp_end iv i₅ x₅ hn off deadC hsb
   obtain ⟨a, o, vs, tb, ea, g, hd, h1⟩ := nt
   have hac : a ≠ H2.objs.size := fun q => by
    obtain ⟨_, _, _, a', d, _, _, q2, q3⟩ := re
    rw [ea] at q2; cases q2
    exact off _ (List.mem_of_getElem? q3) q.symm
   exact passOn_ok (s := (At s h' tk₅)) i₆ re ⟨a, o, vs, tb, ea, hk _ _ (fun hm => hac (List.mem_singleton.mp hm)) g, hd, h1⟩ fun h'' i'' x'' => hfly e σ₄ (e1.trans (bind_exc h4)) ev ρ₅ h'' tk₅ i'' (x₆.trans x'') re
  | ok l σ₄ =>
   rw [h4] at hr'
   have hl := hcomp l σ₄ h4
   obtain ⟨rfl, loc₅, ρ₅, H₅, tk₅, rfl, X₅⟩ := hr'
   obtain ⟨vs, k, g, rv⟩ := X₅.acc
   obtain ⟨m, hn, _⟩ := X₅.frm.vars
   rw [hcloc] at hn
   have offC5 := X₅.frm.offL
   rw [hcloc] at offC5
   refine hend hq _ _ (e1.trans (bind_ok h4)) _ _ _ (ρ₅ ++ [(h₂.objs.size, 0)]) H₅ tk₅ m (X₅.inv.adopt X₅.off (K.base0 deadD) (iv.noFr fun b hb => by rw [List.mem_singleton.mp hb]; exact deadD) ⟨vs, k, g, by rw [rv.length]; simpa using hl, rv.sub Sub.snoc⟩) (X₅.ext.adopt deadD) (.ref (d := 0) ?_) hn (fun p hp => ?_) deadC
   ·rw [← X₅.inv.len, List.getElem?_append_right (Nat.le_refl _), Nat.sub_self]; rfl
   ·rcases List.mem_append.mp hp with hp | hp
    ·exact offC5 p hp
    ·rw [List.mem_singleton.mp hp]; exact hDC.symm
 exact codeAny_compStart_list (fin _) (wk3.self (s := (At s h₃ _)) (fin _))
end
end Mine.Internal

set_option backward.match.sparseCases false
namespace Mine.Internal
open PySem PyProof.Rows
section
variable {h₀ : Bse} {hb : Heap} {A : Around} {W wr : List Addr} {ρ ρ' ρb : Map} {s sb : Shared} {σ : Store} {tx : Tabs} {mg mb : Str → Option Value}
variable {env cenv : Env} {ns ns' : Names} {loc : Loc} {C : Cfg} {n : Nat}
theorem ev_listcomp {elt target iter : Expr} {ifs : List Expr} {scope : Scope} {pos : Pos} (hs : SrcS h₀ C n iter) (ht : TestsS h₀ C n ifs) (he : EvS h₀ C n elt) : EvS h₀ C n (.ListComp elt [⟨target, iter, ifs, 0⟩] scope pos) :=
 fun env ns loc σ ρ s A hA F i => by
 show Sim h₀ A [] _ (compM C elt target iter ifs scope ns loc σ) RV ρ s
 cases h : compM C elt target iter ifs scope ns loc σ with
 | bad => exact trivial
 | exc e σ' =>
  refine comp_core (use := none) hA F i hs ht he h nofun (fun ya yb yc e => nomatch e) fun ya yb e ev ρ' H tk i' x' re => ?_
  cases e
  exact ⟨ρ', H, tk, rfl, i', x', re⟩
 | ok v σ' =>
  refine comp_core (use := none) hA F i hs ht he h nofun (fun ya yb yc e D c f ρ' H tk m i' x' r hn off hd => ⟨m, hn, fun h' hsb => ?_⟩) fun ya yb e => nomatch e
  cases e
  obtain ⟨i₂, x₂, hk, own⟩ := comp_end i i' x' hn off hd hsb
  exact ⟨ρ', h', tk, rfl, i₂, x₂, r.sub (hk.sub own)⟩
noncomputable def RFl (ρ : Map) (h : Heap) : Fl → Flow → Prop
 | .next, f => f = .next
 | .brk, f => f = .brk
 | .cont, f => f = .cont
 | .ret v, f => ∃ val, f = .ret val ∧ Rel ρ h val v
noncomputable def RX (h₀ : Bse) (env : Env) (ns : Names) : Fl × Loc → Map → Heap → Flow → Prop := fun r ρ h f => RFl ρ h r.1 f ∧ Frm h₀ env ns r.2 ρ h
variable (h₀ C n) in
noncomputable def ExS (st : Stmt) : Prop := ∀ (env : Env) (ns : Names) (loc : Loc) (σ : Store) (ρ : Map) (s : Shared) (A : Around), Rm h₀ A n C.calm → (∀ b ∈ frameW env, h₀.get? b = none) → Frm h₀ env ns loc ρ s.heap → Inv h₀ σ ρ s.heap →
 Sim h₀ A (frameW env) (exec st env) (ex C st ns loc σ) (RX h₀ env ns) ρ s
variable (h₀ C n) in
noncomputable def ExsS (sts : List Stmt) : Prop := ∀ (env : Env) (ns : Names) (loc : Loc) (σ : Store) (ρ : Map) (s : Shared) (A : Around), Rm h₀ A n C.calm → (∀ b ∈ frameW env, h₀.get? b = none) → Frm h₀ env ns loc ρ s.heap → Inv h₀ σ ρ s.heap →
 Sim h₀ A (frameW env) (execs sts env) (exs C sts ns loc σ) (RX h₀ env ns) ρ s
theorem Sim.frm {α β : Type} {t : Sem β} {r : Res α} {R : α → Map → Heap → β → Prop} (F : Frm h₀ env ns loc ρ s.heap) (h : Sim h₀ A [] t r R ρ s) : Sim h₀ A W t r (fun v ρ' h' b => R v ρ' h' b ∧ Frm h₀ env ns loc ρ' h') ρ s := by
 cases r with
 | bad => exact trivial
 | exc _ _ =>
  refine wpAny_mono h (fun ya yb f => f) fun b s' hp => ?_
  obtain ⟨ρ₁, H, tk, rfl, i₁, x₁, r₁⟩ := hp
  exact ⟨ρ₁, H, tk, rfl, i₁, x₁.weak fun ya hm => absurd hm List.not_mem_nil, r₁⟩
 | ok v σ' =>
  refine wpAny_mono h (fun b s' hp => ?_) fun ya yb x => x
  obtain ⟨ρ₁, H, tk, rfl, i₁, x₁, r₁⟩ := hp
  exact ⟨ρ₁, H, tk, rfl, i₁, x₁.weak fun ya hm => absurd hm List.not_mem_nil, r₁, F.ext0 x₁⟩
theorem EvS.st {e : Expr} (he : EvS h₀ C n e) (hA : Rm h₀ A n C.calm) (F : Frm h₀ env ns loc ρ s.heap) (i : Inv h₀ σ ρ s.heap) : Sim h₀ A W (eval e env) (ev C e ns loc σ) (fun v ρ' h' b => Rel ρ' h' b v ∧ Frm h₀ env ns loc ρ' h') ρ s := Sim.frm F (he env ns loc σ ρ s A hA F i)
theorem TstS.st {e : Expr} (he : TstS h₀ C n e) (hA : Rm h₀ A n C.calm) (F : Frm h₀ env ns loc ρ s.heap) (i : Inv h₀ σ ρ s.heap) : Sim h₀ A W (isTrue e env (eval e env)) (tst C e ns loc (ev C e ns loc) σ) (fun v ρ' h' b => b = v ∧ Frm h₀ env ns loc ρ' h') ρ s := Sim.frm F (he env ns loc σ ρ s A hA F i)
theorem exs_nil : ExsS h₀ C n [] := fun env ns loc σ ρ s A hA hf F i => Sim.ret i ⟨rfl, F⟩
theorem exs_cons {st : Stmt} {r : List Stmt} (h : ExS h₀ C n st) (hr : ExsS h₀ C n r) : ExsS h₀ C n (st :: r) := fun env ns loc σ ρ s A hA hf F i => by
 rw [execs_cons]
 show Sim h₀ A (frameW env) _ ((ex C st ns loc >>= fun x => andThen x (exs C r ns)) σ) (RX h₀ env ns) ρ s
 refine Sim.bind (h env ns loc σ ρ s A hA hf F i) fun a σ₁ ρ₁ H tk f i₁ x₁ r₁ => ?_
 obtain ⟨fl, loc₁⟩ := a
 obtain ⟨rf, F₁⟩ := r₁
 cases fl with
 | next => cases rf; exact hr env ns loc₁ σ₁ ρ₁ _ A hA hf F₁ i₁
 | brk => cases rf; exact Sim.ret i₁ ⟨rfl, F₁⟩
 | cont => cases rf; exact Sim.ret i₁ ⟨rfl, F₁⟩
 | ret v =>
  obtain ⟨val, rfl, rv⟩ := rf
  exact Sim.ret i₁ ⟨⟨val, rfl, rv⟩, F₁⟩
theorem ex_pass {pos : Pos} : ExS h₀ C n (.Pass pos) := fun env ns loc σ ρ s A hA hf F i => by
 rw [arm_exec_Pass]; exact Sim.standAt (Sim.ret i ⟨rfl, F⟩)
theorem ex_return0 {pos : Pos} : ExS h₀ C n (.Return none pos) := fun env ns loc σ ρ s A hA hf F i => by
 rw [arm_exec_Return]; exact Sim.standAt (Sim.ret i ⟨⟨.none, rfl, .none⟩, F⟩)
theorem ex_return {e : Expr} {pos : Pos} (he : EvS h₀ C n e) : ExS h₀ C n (.Return (some e) pos) := fun env ns loc σ ρ s A hA hf F i => by
 rw [arm_exec_Return]
 refine Sim.standAt (Sim.bind (he.st hA F i) fun a σ₁ ρ₁ H tk b i₁ x₁ r₁ => ?_)
 exact Sim.ret i₁ ⟨⟨b, rfl, r₁.1⟩, r₁.2⟩
theorem ex_if {t : Expr} {a b : List Stmt} {pos : Pos} (ht : TstS h₀ C n t) (ha : ExsS h₀ C n a) (hb : ExsS h₀ C n b) : ExS h₀ C n (.If t a b pos) := fun env ns loc σ ρ s A hA hf F i => by
 rw [arm_exec_If]
 refine Sim.standAt (Sim.bind (ht.st hA F i) fun c σ₁ ρ₁ H tk c' i₁ x₁ r₁ => ?_)
 obtain ⟨rfl, F₁⟩ := r₁
 cases c' with
 | true => exact ha env ns loc σ₁ ρ₁ _ A hA hf F₁ i₁
 | false => exact hb env ns loc σ₁ ρ₁ _ A hA hf F₁ i₁
theorem Sim.dropValue {f : Expr} {as : List Expr} {q p : Pos} {v : Value} (i : Inv h₀ σ ρ s.heap) (F : Frm h₀ env ns loc ρ s.heap) : Sim h₀ A W (PySem.dropValue (.Call f as [] q) p v) ((Pure.pure (Fl.next, loc) : M (Fl × Loc)) σ) (RX h₀ env ns) ρ s := by
 have fin : Post h₀ W ρ s σ (fun ρ' h' => RX h₀ env ns (.next, loc) ρ' h' .next) s := ⟨ρ, s.heap, s.toks, rfl, i, Ext.refl, rfl, F⟩
 cases v with
 | ref a => exact wpAny_bind (wpAny_standAt (wpAny_bind (wpAny_runValue (codeAny_builtin entry_let_go (show wpAny _ _ (PySem.ret .none) _ _ s from wpAny_pure (wpAny_pure fin))))))
 | _ => exact wpAny_pure fin
theorem ex_expr {f : Expr} {as : List Expr} {p pos : Pos} (he : EvS h₀ C n (.Call f as [] p)) : ExS h₀ C n (.Expr (.Call f as [] p) pos) := fun env ns loc σ ρ s A hA hf F i => by
 rw [arm_exec_Expr]
 have hi : interactive env = false := by unfold interactive; rw [F.kind]; rfl
 have hsw : swapsWith (.Call f as [] p) none pos.line env = Pure.pure false := rfl
 rw [hi, hsw]
 refine Sim.standAt ?_
 show Sim h₀ A (frameW env) (eval (.Call f as [] p) env >>= fun v => PySem.dropValue (.Call f as [] p) pos v) ((ev C (.Call f as [] p) ns loc >>= fun ya => (Pure.pure (Fl.next, loc) : M (Fl × Loc))) σ) (RX h₀ env ns) ρ s
 exact Sim.bind (he.st hA F i) fun a σ₁ ρ₁ H tk b i₁ x₁ r₁ => Sim.dropValue i₁ r₁.2
theorem Sim.pureNext {t : Sem Unit} {m : M Loc} (h : Sim h₀ A W t (m σ) (RFrm h₀ env ns) ρ s) : Sim h₀ A W (t >>= fun ya => Pure.pure Flow.next) ((m >>= fun l => (Pure.pure (Fl.next, l) : M (Fl × Loc))) σ) (RX h₀ env ns) ρ s :=
 Sim.bind h fun a σ₁ ρ₁ H tk b i₁ x₁ r₁ => Sim.ret i₁ ⟨rfl, r₁⟩
variable (h₀ C n) in
noncomputable def CompS (value : Expr) : Prop := ∀ elt t it ifs sc p, value = .ListComp elt [⟨t, it, ifs, 0⟩] sc p → SrcS h₀ C n it ∧ TestsS h₀ C n ifs ∧ EvS h₀ C n elt
theorem ex_assignName_plain {x : Str} {p pos : Pos} {value : Expr} (hv : EvS h₀ C n value) (hA : Rm h₀ A n C.calm) (hf : ∀ b ∈ frameW env, h₀.get? b = none) (F : Frm h₀ env ns loc ρ s.heap) (i : Inv h₀ σ ρ s.heap) (hsw : swapsWith value (some (.Name x p)) pos.line env = pure false) :
  Sim h₀ A (frameW env) (exec (.Assign [.Name x p] value pos) env) (ex C (.Assign [.Name x p] value pos) ns loc σ) (RX h₀ env ns) ρ s := by
 rw [PySem.exec_Assign_Name _ _ _ _ _ hsw]
 show Sim h₀ A (frameW env) _ ((ev C value ns loc >>= fun v => stLoc ns x v loc >>= fun l => (Pure.pure (Fl.next, l) : M (Fl × Loc))) σ) (RX h₀ env ns) ρ s
 refine Sim.standAt (Sim.bind (hv.st hA F i) fun a σ₁ ρ₁ H tk b i₁ x₁ r₁ => Sim.standAt ?_)
 exact Sim.pureNext (Sim.bindName ((stLoc_ok hf).store x b a loc σ₁ ρ₁ _ A r₁.2 i₁ r₁.1))
theorem ex_assignName_used {x : Str} {p pos cp : Pos} {elt target iter : Expr} {ifs : List Expr} {scope : Scope} (hs : SrcS h₀ C n iter) (ht : TestsS h₀ C n ifs) (he : EvS h₀ C n elt) (hA : Rm h₀ A n C.calm) (hf : ∀ b ∈ frameW env, h₀.get? b = none)
  (F : Frm h₀ env ns loc ρ s.heap) (i : Inv h₀ σ ρ s.heap) (hsw : swapsWith (.ListComp elt [⟨target, iter, ifs, 0⟩] scope cp) (some (.Name x p)) pos.line env = pure true) :
  Sim h₀ A (frameW env) (exec (.Assign [.Name x p] (.ListComp elt [⟨target, iter, ifs, 0⟩] scope cp) pos) env) (ex C (.Assign [.Name x p] (.ListComp elt [⟨target, iter, ifs, 0⟩] scope cp) pos) ns loc σ) (RX h₀ env ns) ρ s := by
 rw [exec_Assign_Name_used _ _ _ _ hsw]
 show Sim h₀ A (frameW env) _ ((compM C elt target iter ifs scope ns loc >>= fun v => stLoc ns x v loc >>= fun l => (Pure.pure (Fl.next, l) : M (Fl × Loc))) σ) (RX h₀ env ns) ρ s
 cases h : compM C elt target iter ifs scope ns loc σ with
 | bad => rw [bind_bad h]; exact trivial
 | exc e σ' =>
  rw [bind_exc h]
  refine wpAny_bind (wpAny_standAt (wpAny_bind ?_))
  rw [arm_evalThenUse_ListComp]
  refine wpAny_bind (comp_core (use := some (assign (.Name x p) env)) (Q := fun ya s' => _) hA F i hs ht he h nofun (fun ya yb yc e => nomatch e) fun ya yb e ev ρ' H tk i' x' re => ?_)
  cases e
  exact ⟨ρ', H, tk, rfl, i', x'.weak fun ya hm => absurd hm List.not_mem_nil, re⟩
 | ok v σ' =>
  rw [bind_ok h]
  cases h2 : stLoc ns x v loc σ' with
  | bad => rw [bind_bad h2]; exact trivial
  | exc _ _ => exact absurd h2 ((stLoc_ok (h₀ := h₀) (env := env) (ns := ns) hf).quiet _ _ _ _ _ _)
  | ok loc' σ'' =>
   rw [bind_ok h2]
   refine wpAny_bind (wpAny_standAt (wpAny_bind ?_))
   rw [arm_evalThenUse_ListComp]
   refine wpAny_bind (comp_core (use := some (assign (.Name x p) env)) (Q := fun ya s' => _) hA F i hs ht he h nofun (fun hq ya yb e D c f ρ' H tk m i' x' r hn off hd => ?_) fun ya yb e => nomatch e)
   cases e
   have st := Sim.bindTo (s := (At s H tk)) (t := .Name x p) (stLoc_ok (h₀ := h₀) (env := env) (ns := ns) hf) (hA.handled hq) (F.ext0 x') i' r
   rw [show bindTo (stLoc ns) (.Name x p) v loc σ' = .ok loc' σ'' from h2] at st
   refine wpAny_mono st (fun ya s' hp => ?_) fun ya yb f => f.elim
   obtain ⟨ρ₁, H₁, tk₁, rfl, i₁, x₁, F₁⟩ := hp
   have hcF : offFrame env c := F.offDead hd
   have hn1 : H₁.Ns c m := x₁.nsAt hn hcF.notin off
   refine ⟨m, hn1, fun h' hsb => wpAny_pure (wpAny_pure ?_)⟩
   have x2 : Ext (frameW env) ρ s.heap ρ₁ H₁ := (x'.weak fun ya hm => absurd hm List.not_mem_nil).trans x₁
   obtain ⟨o, ho, _⟩ := ns_dict hn
   obtain ⟨i₂, x₂, hk, own⟩ := comp_end i i₁ x2 hn1 (offMap.ext x₁ ho off) hd hsb
   exact ⟨ρ₁, h', tk₁, rfl, i₂, x₂, rfl, F₁.but hk own fun b hb => by rw [List.mem_singleton.mp hb]; exact hcF⟩
theorem ex_assignName {x : Str} {p pos : Pos} {value : Expr} (hv : EvS h₀ C n value) (hc : CompS h₀ C n value) : ExS h₀ C n (.Assign [.Name x p] value pos) := fun env ns loc σ ρ s A hA hf F i => by
 have plain := fun hsw => ex_assignName_plain (x := x) (p := p) (pos := pos) hv hA hf F i hsw
 have badv : ∀ (hb : ev C value ns loc σ = .bad), Sim h₀ A (frameW env) (exec (.Assign [.Name x p] value pos) env) (ex C (.Assign [.Name x p] value pos) ns loc σ) (RX h₀ env ns) ρ s := fun hb => by
  show Sim h₀ A (frameW env) _ ((ev C value ns loc >>= fun v => stLoc ns x v loc >>= fun l => (Pure.pure (Fl.next, l) : M (Fl × Loc))) σ) (RX h₀ env ns) ρ s
  rw [bind_bad hb]; exact trivial
 cases value with
 | ListComp elt gens scope cp =>
  have hb : ∃ b, swapsWith (.ListComp elt gens scope cp) (some (.Name x p)) pos.line env = Pure.pure b := ⟨_, rfl⟩
  obtain ⟨b, hb⟩ := hb
  cases b with
  | false => exact plain hb
  | true =>
   rcases comp_cases gens with ⟨t, it, ifs, rfl⟩ | hbad
   ·obtain ⟨h1, h2, h3⟩ := hc elt t it ifs scope cp rfl
    exact ex_assignName_used h1 h2 h3 hA hf F i hb
   ·exact badv (by rw [hbad]; rfl)
 | SetComp _ _ _ _ => exact badv rfl
 | DictComp _ _ _ _ _ => exact badv rfl
 | _ => exact plain rfl
theorem ex_assignSub {o i : Expr} {p pos : Pos} {value : Expr} (hv : EvS h₀ C n value) (ho : EvS h₀ C n o) (hi : EvS h₀ C n i) : ExS h₀ C n (.Assign [.Subscript o i p] value pos) := fun env ns loc σ ρ s A hA hf F iv => by
 rw [exec_Assign_Subscript _ _ _ _ _ (by cases value <;> rfl)]
 show Sim h₀ A (frameW env) _ ((ev C value ns loc >>= fun v => ev C o ns loc >>= fun a => ev C i ns loc >>= fun b => Mine.Internal.setItem a b v >>= fun ya => (Pure.pure (Fl.next, loc) : M (Fl × Loc))) σ) (RX h₀ env ns) ρ s
 refine Sim.standAt (Sim.bind (hv.st hA F iv) fun a σ₁ ρ₁ H₁ tk₁ va i₁ x₁ r₁ => ?_)
 show Sim h₀ A (frameW env) _ (((ev C o ns loc >>= fun b => ev C i ns loc >>= fun c => Mine.Internal.setItem b c a >>= fun ya => (Pure.pure loc : M Loc)) >>= fun l => (Pure.pure (Fl.next, l) : M (Fl × Loc))) σ₁) (RX h₀ env ns) ρ₁ _
 refine Sim.pureNext ?_
 rw [arm_assign_Subscript]
 refine Sim.bind (Sim.holding (ho.st hA r₁.2 i₁)) fun b σ₂ ρ₂ H₂ tk₂ vb i₂ x₂ r₂ => ?_
 refine Sim.bind (Sim.holding (hi.st hA r₂.2 i₂)) fun c σ₃ ρ₃ H₃ tk₃ vc i₃ x₃ r₃ => Sim.standAt ?_
 refine Sim.bind (Sim.holding (Sim.frm r₃.2 (Sim.setItem (h₀ := h₀) (A := A) (W := []) (s := (At s H₃ tk₃)) i₃ (r₂.1.ext x₃) r₃.1 ((r₁.1.ext x₂).ext x₃)))) fun ya σ₄ ρ₄ H₄ tk₄ yb i₄ x₄ F₄ => Sim.of_wp (wpAny_release ⟨ρ₄, H₄, tk₄, rfl, i₄, Ext.refl, F₄.2⟩)
theorem ex_assignAttr {o : Expr} {m : Str} {p pos : Pos} {value : Expr} (B : Base tx mg mb h₀.heap) (hcl : C.cls = tx.cls) (hv : EvS h₀ C n value) (ho : EvS h₀ C n o) : ExS h₀ C n (.Assign [.Attribute o m p] value pos) := fun env ns loc σ ρ s A hA hf F iv => by
 rw [plainObj_exec_Assign_Attribute _ _ _ _ _ (by cases value <;> rfl)]
 show Sim h₀ A (frameW env) _ ((ev C value ns loc >>= fun v => ev C o ns loc >>= fun a => setAttrV C m v a >>= fun ya => (Pure.pure (Fl.next, loc) : M (Fl × Loc))) σ) (RX h₀ env ns) ρ s
 refine Sim.standAt (Sim.bind (hv.st hA F iv) fun a σ₁ ρ₁ H₁ tk₁ va i₁ x₁ r₁ => ?_)
 show Sim h₀ A (frameW env) _ (((ev C o ns loc >>= fun b => setAttrV C m a b >>= fun ya => (Pure.pure loc : M Loc)) >>= fun l => (Pure.pure (Fl.next, l) : M (Fl × Loc))) σ₁) (RX h₀ env ns) ρ₁ _
 refine Sim.pureNext ?_
 rw [assign_Attribute]
 refine Sim.bind (Sim.holding (ho.st hA r₁.2 i₁)) fun b σ₂ ρ₂ H₂ tk₂ vb i₂ x₂ r₂ => Sim.standAt ?_
 refine Sim.bind (Sim.holding (Sim.frm r₂.2 (Sim.setAttrV (h₀ := h₀) (A := A) (W := []) (s := (At s H₂ tk₂)) B hcl i₂ r₂.1 (r₁.1.ext x₂)))) fun ya σ₄ ρ₄ H₄ tk₄ yb i₄ x₄ F₄ => Sim.of_wp (wpAny_release ⟨ρ₄, H₄, tk₄, rfl, i₄, Ext.refl, F₄.2⟩)
theorem ex_assignTup {ts : List Expr} {k : Nat} {p pos : Pos} {value : Expr} (hv : EvS h₀ C n value) : ExS h₀ C n (.Assign [.Tuple ts k p] value pos) := fun env ns loc σ ρ s A hA hf F i => by
 rw [arm_exec_Assign]
 show Sim h₀ A (frameW env) _ ((if (C.calm && (tupIn value).isNone) = true then (ev C value ns loc >>= fun v => bindTo (stLoc ns) (.Tuple ts k p) v loc >>= fun l => (Pure.pure (Fl.next, l) : M (Fl × Loc))) else M.bad) σ) (RX h₀ env ns) ρ s
 refine Sim.ite fun hc => ?_
 rw [Bool.and_eq_true] at hc
 have h1 : swapsWithSole [.Tuple ts k p] value pos.line env = Pure.pure false := by cases value <;> rfl
 have h2 : swappedStores [.Tuple ts k p] value env = Pure.pure none := by cases value <;> first | rfl | exact absurd hc.2 Bool.false_ne_true
 rw [h1, h2]
 refine Sim.standAt ?_
 show Sim h₀ A (frameW env) (eval value env >>= fun v => (assign (.Tuple ts k p) env v >>= fun ya => Pure.pure Flow.next)) _ (RX h₀ env ns) ρ s
 refine Sim.bind (hv.st hA F i) fun a σ₁ ρ₁ H₁ tk₁ va i₁ x₁ r₁ => ?_
 exact Sim.pureNext (Sim.bindTo (stLoc_ok hf) (hA.handled hc.1) r₁.2 i₁ r₁.1)
theorem exAsg_none {t value : Expr} (h1 : nameIn t = none) (h2 : subIn t = none) (h3 : attrIn t = none) (h4 : tupIn t = none) : exAsg C t value ns loc = M.bad := by
 unfold exAsg
 rw [h1]
 dsimp only
 rw [h2]
 dsimp only
 rw [h3]
 dsimp only
 rw [h4]
theorem ex_exprs {e : Expr} {pos : Pos} (he : EvS h₀ C n e) : ExS h₀ C n (.Expr e pos) := by
 cases h : callIn e with
 | some q => obtain ⟨⟨f, as, q⟩, rfl⟩ := q; exact ex_expr he
 | none =>
  intro env ns loc σ ρ s A hA hf F i
  show Sim h₀ A (frameW env) _ ((match callIn e with | some _ => (ev C e ns loc >>= fun ya => (Pure.pure (Fl.next, loc) : M (Fl × Loc))) | none => M.bad) σ) (RX h₀ env ns) ρ s
  rw [h]; exact trivial
end
end Mine.Internal

set_option backward.match.sparseCases false
namespace Mine.Internal
open PySem PyProof.Rows
section
variable {h₀ : Bse} {hb : Heap} {A : Around} {W wr : List Addr} {ρ ρ' ρb : Map} {s sb : Shared} {σ : Store} {tx : Tabs} {mg mb : Str → Option Value}
variable {env cenv : Env} {ns ns' : Names} {loc : Loc} {C : Cfg} {n : Nat}
theorem forLoop_turn {R : Result → Shared → Prop} {target : Expr} {it : Value} {body : List Stmt}
  (h : wpAny (model h₀.prog h₀.w) A (pyNext it) (fun r s₁ => match r with
   | none => R (.ok .next) s₁
   | some v => wpAny (model h₀.prog h₀.w) A (letOwnedTupleGo target it v) (fun ya s₁' =>
     wpAny (model h₀.prog h₀.w) A (assign target env v) (fun ya s₂ => wpAny (model h₀.prog h₀.w) A (execs body env) (fun f s₃ => match f with
      | .next | .cont => codeAny (model h₀.prog h₀.w) A (.forLoop target it body [] env) R s₃
      | .brk => R (.ok .next) s₃
      | .ret v => R (.ok (.ret v)) s₃) (notedBy (model h₀.prog h₀.w) A env fun x s' => R (.error x) s') s₂) (notedBy (model h₀.prog h₀.w) A env fun x s' => R (.error x) s') s₁') (notedBy (model h₀.prog h₀.w) A env fun x s' => R (.error x) s') s₁) (fun ya yb => False) s) :
  codeAny (model h₀.prog h₀.w) A (.forLoop target it body [] env) R s := by
 refine codeAny_of_tree ?_
 show wpAny _ A ((forTurn target it body [] env).onRaise (fun x => do noteFrame x env; theTreesLotGoes x)) _ _ s
 refine wpAny_noted ?_
 simp only [forTurn]
 refine wpAny_bind (wpAny_standAt (wpAny_bind (wpAny_onRaise (wpAny_mono h (fun r s₁ h₁ => ?_) fun ya yb h' => h'.elim))))
 cases r with
 | none => exact wpAny_pure ⟨rfl, codeAny_block (wpAny_execs_nil h₁)⟩
 | some v =>
  refine wpAny_bind (wpAny_mono h₁ (fun ya s₁' h₁' => ?_) fun ya yb h' => h')
  refine wpAny_bind (wpAny_mono h₁' (fun ya s₂ h₂ => wpAny_bind (wpAny_mono h₂ (fun f s₃ h₃ => ?_) fun ya yb h' => h')) fun ya yb h' => h')
  cases f with
  | next => exact wpAny_pure ⟨rfl, h₃⟩
  | cont => exact wpAny_pure ⟨rfl, h₃⟩
  | brk => exact wpAny_pure h₃
  | ret v => exact wpAny_pure h₃
structure FE (h₀ : Bse) (ρb : Map) (hb : Heap) (env : Env) (ns : Names) (loc : Loc) (σ : Store) (ρ : Map) (h : Heap) : Prop where
 inv : Inv h₀ σ ρ h
 frm : Frm h₀ env ns loc ρ h
 ext : Ext (frameW env) ρb hb ρ h
structure FK (h₀ : Bse) (hb : Heap) (env : Env) (wr : List Addr) : Prop where
 deadW : ∀ b ∈ wr, hb.get? b = none
 dead0 : ∀ b ∈ wr, h₀.get? b = none
 offW : ∀ b ∈ wr, offFrame env b
 fr : NoFr h₀ wr
theorem FE.but {h h' : Heap} (K : FK h₀ hb env wr) (x : FE h₀ ρb hb env ns loc σ ρ h) (hk : KeepBut wr h h') (ho : Own wr ρ h) : FE h₀ ρb hb env ns loc σ ρ h' where
 inv := x.inv.but hk ho K.dead0 K.fr
 frm := x.frm.but hk ho K.offW
 ext := x.ext.but hk K.deadW
theorem forLoop_bad {sr : Src} {bt : V → Loc → M Loc} {body : Loc → M (Fl × Loc)} {k i : Nat} (h : sr.at σ i = none) : forLoop sr bt body (k + 1) i loc σ = .bad := by
 show (sr.get i >>= _) σ = _
 rw [bind_bad (by unfold Src.get; rw [askS_eq, h])]
noncomputable def ForR (h₀ : Bse) (ρb : Map) (hb : Heap) (sb : Shared) (env : Env) (ns : Names) : Res (Fl × Loc) → Result → Shared → Prop
 | .bad, _, _ => True
 | .ok r σ', res, s' => ∃ f ρ' H' tk', res = .ok f ∧ s' = (At sb H' tk') ∧ RFl ρ' H' r.1 f ∧ FE h₀ ρb hb env ns r.2 σ' ρ' H'
 | .exc e σ', res, s' => ∃ ev ρ' H' tk', res = .error ev ∧ s' = (At sb H' tk') ∧ Inv h₀ σ' ρ' H' ∧ Ext (frameW env) ρb hb ρ' H' ∧ RE σ' e ev ρ' H' ∧ Noted ev H'
theorem forLoop_ok {target : Expr} {body : List Stmt} {sr : Src} {it : Value} (hq : C.calm = true) (hA : Rm h₀ A n C.calm) (K : FK h₀ hb env wr) (hf : ∀ b ∈ frameW env, h₀.get? b = none) (hbd : ExsS h₀ C n body) (htg : tgtOk sr target = true) :
  ∀ (k i : Nat) (loc : Loc) (σ : Store) (ρ : Map) (H : Heap) (tk : Nat) (r : Res (Fl × Loc)), FE h₀ ρb hb env ns loc σ ρ H → ItAt h₀ sr it wr i ρ H →
   forLoop sr (bindTo (stLoc ns) target) (exs C body ns) k i loc σ = r → r ≠ .bad →
   codeAny (model h₀.prog h₀.w) A (.forLoop target it body [] env) (ForR h₀ ρb hb sb env ns r) (At sb H tk) := by
 intro k
 induction k with
 | zero =>
  intro _ _ _ _ _ _ _ _ _ h hn
  exact absurd h.symm hn
 | succ k ih =>
  intro i loc σ ρ H tk r x wk h hn
  have S := stLoc_ok (h₀ := h₀) (env := env) (ns := ns) hf
  have offW : ∀ b ∈ wr, b ∉ frameW env := fun b hb => (K.offW b hb).notin
  cases hat : sr.at σ i with
  | none => rw [forLoop_bad hat] at h; exact absurd h.symm hn
  | some o =>
   rw [forLoop_step hat] at h
   refine forLoop_turn (s := (At sb H tk)) (wk.next (s := (At sb H tk)) (hA.handled hq) x.inv hat htg (fun h' ho hk => ?_) fun v val h' tk' hv hk hgo => ?_)
   ·subst ho
    subst h
    exact ⟨.next, ρ, h', tk, rfl, rfl, rfl, x.but K hk wk.own⟩
   ·subst hv
    refine hgo _ _ fun h'' hk'' rv wk' => ?_
    have x1 := x.but K hk'' wk.own
    have h1 := Sim.bindTo (s := (At sb h'' tk')) (t := target) S (hA.handled hq) x1.frm x1.inv rv
    cases hb1 : bindTo (stLoc ns) target v loc σ with
    | bad => exact absurd ((bind_bad hb1).symm.trans h).symm hn
    | exc _ _ => exact absurd hb1 (bindTo_quiet S)
    | ok loc₁ σ₁ =>
    replace h := (bind_ok hb1).symm.trans h
    rw [hb1] at h1
    refine wpAny_mono h1 (fun ya s' hp => ?_) fun ya yb f => f.elim
    obtain ⟨ρ₁, H₁, tk₁, rfl, i₁, e₁, F₁⟩ := hp
    have x2 : FE h₀ ρb hb env ns loc₁ σ₁ ρ₁ H₁ := ⟨i₁, F₁, x1.ext.trans e₁⟩
    have wk2 := wk'.ext e₁ offW
    have h2 := hbd env ns loc₁ σ₁ ρ₁ (At sb H₁ tk₁) A hA hf x2.frm x2.inv
    cases hb2 : exs C body ns loc₁ σ₁ with
    | bad => exact absurd ((bind_bad hb2).symm.trans h).symm hn
    | exc e σ₂ =>
     have := (bind_exc hb2).symm.trans h
     subst this
     rw [hb2] at h2
     refine wpAny_mono h2 (fun ya yb f => f.elim) fun ev s' hp => ?_
     obtain ⟨ρ₂, H₂, tk₂, rfl, i₂, e₂, re⟩ := hp
     refine note_ok (s := (At sb H₂ tk₂)) hA x2.frm.top i₂ re fun h' i' x' nt => ?_
     exact ⟨ev, ρ₂, h', tk₂, rfl, rfl, i', (x2.ext.trans e₂).trans (x'.weak fun ya hm => absurd hm List.not_mem_nil), re, nt⟩
    | ok a σ₂ =>
    replace h := (bind_ok hb2).symm.trans h
    rw [hb2] at h2
    refine wpAny_mono h2 (fun f s' hp => ?_) fun ya yb f => f.elim
    obtain ⟨ρ₂, H₂, tk₂, rfl, i₂, e₂, rf, F₂⟩ := hp
    obtain ⟨fl, loc₂⟩ := a
    have x3 : FE h₀ ρb hb env ns loc₂ σ₂ ρ₂ H₂ := ⟨i₂, F₂, x2.ext.trans e₂⟩
    have wk3 := wk2.ext e₂ offW
    cases fl with
    | next => cases rf; exact ih (i + 1) loc₂ σ₂ ρ₂ H₂ tk₂ r x3 wk3 h hn
    | cont => cases rf; exact ih (i + 1) loc₂ σ₂ ρ₂ H₂ tk₂ r x3 wk3 h hn
    | brk => cases rf; subst h; exact ⟨.next, ρ₂, H₂, tk₂, rfl, rfl, rfl, x3⟩
    | ret u =>
     obtain ⟨val, rfl, ru⟩ := rf
     subst h
     exact ⟨.ret val, ρ₂, H₂, tk₂, rfl, rfl, ⟨val, rfl, ru⟩, x3⟩
theorem for_core {target iter : Expr} {body : List Stmt} {sr : Src} {σ₁ : Store} {r : Res (Fl × Loc)} {pos : Pos} {N : Nat} {Q : Flow → Shared → Prop} {E : Value → Shared → Prop} (hq : C.calm = true) (hA : Rm h₀ A n C.calm) (hf : ∀ b ∈ frameW env, h₀.get? b = none) (F : Frm h₀ env ns loc ρ s.heap) (iv : Inv h₀ σ ρ s.heap)
  (hs : SrcS h₀ C n iter) (hbd : ExsS h₀ C n body) (htg : tgtOk sr target = true) (h1 : src C iter ns loc (ev C iter ns loc) σ = .ok sr σ₁) (h3 : forLoop sr (bindTo (stLoc ns) target) (exs C body ns) N 0 loc σ₁ = r) (hr : r ≠ .bad)
  (hend : ∀ res s', ForR h₀ ρ s.heap s env ns r res s' → match res with | .ok f => Q f s' | .error e => cameBackBy (model h₀.prog h₀.w) A env E e s') : wpAny (model h₀.prog h₀.w) A (exec (.For target iter body [] pos) env) Q E s := by
 have hset : ∀ es k p, iter ≠ .Set es k p := fun es k p e => by subst e; rw [src_set] at h1; cases h1
 have hsrc := hs env ns loc σ ρ s A hA F iv
 rw [h1] at hsrc
 refine wpAny_For (wpAny_mono hsrc (fun xv s₁ hp => ?_) fun ya yb f => f.elim) (set_no_fold hset)
 obtain ⟨ρ₁, H₁, tk₁, rfl, i₁, x₁, r₁⟩ := hp
 refine RSrc.iter (s := (At s H₁ tk₁)) i₁ x₁ r₁ fun it wr h₂ hk₂ wk hdead => ?_
 have i₂ := i₁.keeps hk₂
 have x₂ : Ext [] ρ s.heap ρ₁ h₂ := x₁.trans (Ext.of_keeps hk₂)
 have K : FK h₀ s.heap env wr :=
  {deadW := hdead
   dead0 := fun b hb => by
    cases e : h₀.get? b with
    | none => rfl
    | some o => have := iv.base _ _ e; rw [hdead b hb] at this; cases this
   offW := fun b hb => F.offDead (hdead b hb)
   fr := iv.noFr hdead }
 have X : FE h₀ ρ s.heap env ns loc σ₁ ρ₁ h₂ := ⟨i₂, F.ext0 x₂, x₂.weak fun ya hm => absurd hm List.not_mem_nil⟩
 exact codeAny_mono (forLoop_ok (sb := s) hq hA K hf hbd htg N 0 loc σ₁ ρ₁ h₂ tk₁ r X wk h3 hr) hend
theorem ex_for {target iter : Expr} {body : List Stmt} {pos : Pos} (hs : SrcS h₀ C n iter) (hbd : ExsS h₀ C n body) : ExS h₀ C n (.For target iter body [] pos) := fun env ns loc σ ρ s A hA hf F iv => by
 show Sim h₀ A (frameW env) _ ((src C iter ns loc (ev C iter ns loc) >>= fun sr => if (C.calm && tgtOk sr target) = true then (sr.count >>= fun N => forLoop sr (bindTo (stLoc ns) target) (exs C body ns) (N + 1) 0 loc) else M.bad) σ) (RX h₀ env ns) ρ s
 cases h1 : src C iter ns loc (ev C iter ns loc) σ with
 | bad => rw [bind_bad h1]; exact trivial
 | exc e σ₁ =>
  rw [bind_exc h1]
  have hset : ∀ es k p, iter ≠ .Set es k p := fun es k p e => by subst e; rw [src_set] at h1; cases h1
  have hsrc := hs env ns loc σ ρ s A hA F iv
  rw [h1] at hsrc
  refine wpAny_For (wpAny_mono hsrc (fun ya yb f => f.elim) fun ev s' hp => ?_) (set_no_fold hset)
  obtain ⟨ρ₁, H₁, tk₁, rfl, i₁, x₁, r₁⟩ := hp
  exact ⟨ρ₁, H₁, tk₁, rfl, i₁, x₁.weak fun ya hm => absurd hm List.not_mem_nil, r₁⟩
 | ok sr σ₁ =>
  rw [bind_ok h1]
  refine Sim.ite fun hc => ?_
  rw [Bool.and_eq_true] at hc
  obtain ⟨hq, htg⟩ := hc
  cases h2 : sr.count σ₁ with
  | bad => rw [bind_bad h2]; exact trivial
  | exc _ _ => exact absurd h2 ask_quiet
  | ok N σ₂ =>
   rw [bind_ok h2]
   obtain ⟨rfl, h2'⟩ := ask_ok h2
   cases h3 : forLoop sr (bindTo (stLoc ns) target) (exs C body ns) (N + 1) 0 loc σ₂ with
   | bad => exact trivial
   | exc e σ' =>
    refine for_core hq hA hf F iv hs hbd htg h1 h3 nofun fun res s' hr => ?_
    obtain ⟨ev, ρ', H', tk', rfl, rfl, i', x', re, nt⟩ := hr
    exact cameBack_ok (s := (At s H' tk')) i' re nt fun h'' i'' x'' => ⟨ρ', h'', tk', rfl, i'', x'.trans (x''.weak fun ya hm => absurd hm List.not_mem_nil), re⟩
   | ok r σ' =>
    refine for_core hq hA hf F iv hs hbd htg h1 h3 nofun fun res s' hr => ?_
    obtain ⟨f, ρ', H', tk', rfl, rfl, rf, X'⟩ := hr
    exact ⟨ρ', H', tk', rfl, X'.inv, X'.ext, rf, X'.frm⟩
end
section
variable {h₀ : Bse} {tx : Tabs} {mg mb : Str → Option Value} {C : Cfg} {n : Nat}
theorem evS_bad {e : Expr} (h : ∀ ns loc, ev C e ns loc = M.bad) : EvS h₀ C n e := fun env ns loc σ ρ s A hA F i => by rw [h]; exact trivial
theorem srcS_value {e : Expr} (he : EvS h₀ C n e) (h : ∀ ns loc whole, src C e ns loc whole = (whole >>= srcV)) : SrcS h₀ C n e := fun env ns loc σ ρ s A hA F i => by
 rw [h]; exact src_value he hA F i
end
end Mine.Internal

set_option backward.match.sparseCases false
namespace Mine.Internal
open PySem PyProof.Rows
section
variable {prog : Program} {w : World} {M : Model} {A : Around} {E : Value → Shared → Prop} {h : Heap} {g : Array GenState} {d : Drawn} {t : Nat} {os : OsState} {a C : Addr} {o : Obj} {bm : List Value}
theorem excMatches_ok {D : Addr} {bm' : List Value} {Q : Bool → Shared → Prop} (x : XCls h C bm) (hx : h.get? a = some o) (hc : o.cls = .ref C) (y : XCls h D bm') (hin : (Value.ref C :: bm).contains (.ref D) = true) (hq : Q true ⟨h, g, d, t, os⟩) :
  wpAny M A (excMatches (.ref a) (.ref D)) Q E ⟨h, g, d, t, os⟩ := by
 have f := tc_notTuple
 have hB : (Value.ref D :: bm').contains (.type "BaseException") = true := y.has (by decide +kernel)
 obtain ⟨_, hD, _⟩ := y.obj
 unfold excMatches
 repeat (first | (with_reducible refine wpAny_loadPart_at hx ?_; rw [hc]) | with_reducible refine wpAny_loadPart_at hD ?_ | (with_reducible refine XCls.sub y ?_; rw [hB]) | (with_reducible refine XCls.sub x ?_; rw [hin]) | wp_step)
 exact hq
end
section
variable {h₀ : Bse} {A : Around} {W : List Addr} {ρ : Map} {s : Shared} {σ : Store} {tx : Tabs} {mg mb : Str → Option Value}
variable {env : Env} {ns : Names} {loc : Loc} {C : Cfg} {n : Nat}
theorem raise_one {c : Str} {a : Expr} {p q pos : Pos} (B : Base tx mg mb h₀.heap) (hups : C.ups = tx.ups) (hA : Rm h₀ A n C.calm) (F : Frm h₀ env ns loc ρ s.heap) (i : Inv h₀ σ ρ s.heap) :
  Sim h₀ A (frameW env) (exec (.Raise (some (.Call (.Name c p) [a] [] q)) none pos) env) (raiseOf C ns c a σ) (RX h₀ env ns) ρ s := by
 unfold raiseOf
 cases textOf a with
 | none => exact trivial
 | some x =>
 obtain ⟨x, k, pp, rfl⟩ := x
 refine Sim.ite fun hc => ?_
 rw [Bool.and_eq_true, Bool.and_eq_true] at hc
 obtain ⟨hq, hg, hx⟩ := hc
 have hx : SOk x := of_decide_eq_true hx
 unfold raiseV
 cases hus : C.ups c with
 | none => exact trivial
 | some us =>
  rw [hups] at hus
  obtain ⟨K, bm, h1, X, _⟩ := B.cls c us hus
  obtain ⟨f, hC, mN, hN, hm⟩ := X.obj
  have T := X.tail
  refine wpAny_Raise_call_subT (C := K) (nm := f.nm) (q := f.q) (N := f.N) (bs := f.bs) (bm := bm) (hdct := f.hdct) (sn := f.sn) (sub := f.sub) (ab := f.ab) (col := f.col) (dd := f.dd) (k0 := f.k0) (k1 := f.k1) (k2 := f.k2) (k3 := f.k3) (k5 := f.k5) (mN := mN) PySem.F.excBase_ValueError (T.tail.hasType (by decide +kernel)) (hA.handled hq) (noStar (es := [.Constant (.str x) k pp]) (by intro e he v p; rw [List.mem_singleton.mp he]; exact nofun)).1 (hm _ (.head _)) (wp_global B F i hg h1 ⟨rfl, ?_⟩)
  have hev := ev_const (h₀ := h₀) (C := C) (n := n) (c := .str x) (k := k) (pos := pp) env ns loc σ ρ s A hA F i
  rw [show ev C (.Constant (.str x) k pp) ns loc σ = .ok (.str x) σ by show (if SOk x then (Pure.pure (V.str x) : M V) else M.bad) σ = _; rw [if_pos hx]; rfl] at hev
  refine Calls.evalArgs_plain (Calls.spliced_cons (wpAny_mono hev (fun v s₁ hp => Calls.spliced_nil ?_) fun ya yb f => f.elim))
  obtain ⟨ρ₁, H, tk, rfl, i₁, x₁, r₁⟩ := hp
  have kp := i₁.base
  refine ⟨rfl, by show (1 : Nat) ≤ sizeLine; decide, kp _ _ hC, hN.keeps kp, T.tail.keeps kp, fun h' e hme => ?_⟩
  obtain ⟨tt, h2, _⟩ := hme.there
  have hd0 : h₀.get? e = none := by
   cases q : h₀.get? e with
   | none => rfl
   | some ob => have := kp _ _ q; rw [hme.new] at this; cases this
  obtain ⟨i₂, x₂⟩ := i₁.new (W := frameW env) (o := .exc c []) (h' := h') hme.keeps hme.new ⟨rfl, K, _, _, ⟨mg, B.g, h1⟩, h2, rfl, rfl, rfl, ⟨by simp, .inl rfl⟩, hd0⟩
  refine ⟨_, h', tk, rfl, i₂, (x₁.weak fun ya hm => absurd hm List.not_mem_nil).trans x₂, σ.length, c, [], e, 0, rfl, ?_, rfl, ?_⟩
  ·rw [List.getElem?_append_right (Nat.le_refl _), Nat.sub_self]; rfl
  ·rw [← i₁.len, List.getElem?_append_right (Nat.le_refl _), Nat.sub_self]; rfl
theorem ex_raise {e c : Option Expr} {pos : Pos} (B : Base tx mg mb h₀.heap) (hups : C.ups = tx.ups) : ExS h₀ C n (.Raise e c pos) := fun env ns loc σ ρ s A hA hf F i => by
 show Sim h₀ A _ _ (exRaise C ns e c σ) _ _ _
 cases e with
 | none => exact trivial
 | some e => cases c with
  | some _ => exact trivial
  | none =>
   show Sim h₀ A _ _ ((match madeOf e with | some q => raiseOf C ns q.1.1 q.1.2 | none => M.bad) σ) _ _ _
   cases madeOf e with
   | none => exact trivial
   | some q =>
    obtain ⟨⟨x, a⟩, p, r, rfl⟩ := q
    exact raise_one B hups hA F i
theorem Rm.mark {q : Bool} {v : Value} (h : Rm h₀ A n q) : Rm h₀ (A.mark (some v)) n false := ⟨nofun, h.depth, h.units, h.frames⟩
theorem dropLoc_get {i : Nat} {v : V} : (dropLoc loc)[i]? ≠ some (some v) := fun e => by
 unfold dropLoc at e
 rw [List.getElem?_map] at e
 cases h : loc[i]? with
 | none => rw [h] at e; cases e
 | some _ => rw [h] at e; cases e
theorem Frm.drop {H h' : Heap} {m : Str → Option Value} (F : Frm h₀ env ns loc ρ H) (i : Inv h₀ σ ρ H) (hf : ∀ b ∈ frameW env, h₀.get? b = none) (hn : h'.Ns env.locals m) (hs : Heap.SameBut env.locals H h') :
  Inv h₀ σ ρ h' ∧ Ext [env.locals] ρ H ρ h' ∧ Frm h₀ env ns (dropLoc loc) ρ h' := by
 have hk : ∀ b o, H.get? b = some o → b ∉ [env.locals] → h'.get? b = some o := fun b o e hb => hs.extBut b o (fun eq => hb (List.mem_singleton.mpr eq)) e
 have hx : Ext [env.locals] ρ H ρ h' := Ext.of_keep (fun b hm => by rw [List.mem_singleton.mp hm]; exact F.offL) hk fun b o e hm => by
  rw [List.mem_singleton.mp hm] at e ⊢
  obtain ⟨o', e', d'⟩ := ns_dict hn
  obtain ⟨_, hn₀, _⟩ := F.vars
  obtain ⟨o₁, e₁, d₁⟩ := ns_dict hn₀
  rw [e] at e₁; cases e₁
  exact ⟨o', e', kin_dict d₁ d'⟩
 refine ⟨i.keep hx (fun b hm => by rw [List.mem_singleton.mp hm]; exact ⟨F.offL, hf _ (List.mem_cons_self ..)⟩) hk, hx, ?_⟩
 exact {
  names := F.names
  kind := F.kind
  globals := F.globals
  blts := F.blts
  vars := ⟨m, hn, fun y j u ya h2 => absurd h2 dropLoc_get⟩
  cell := fun y j h1 => by
   obtain ⟨c, o, e, ⟨ob, hob, hd⟩, hv⟩ := F.cell y j h1
   exact ⟨c, o, e, ⟨ob, hk _ _ hob (fun hm => (F.offC y c e).1 (List.mem_singleton.mp hm)), hd⟩, fun u h2 => absurd h2 dropLoc_get⟩
  live := fun y c e => by
   obtain ⟨o, ob, hob, hd⟩ := F.live y c e
   exact ⟨o, ob, hk _ _ hob (fun hm => (F.offC y c e).1 (List.mem_singleton.mp hm)), hd⟩
  offL := F.offL
  offC := F.offC
  apart := F.apart
  top := F.top }
theorem RFl.sub {ρ' : Map} {h h' : Heap} {r : Fl} {f : Flow} (k : RFl ρ h r f) (x : Sub ρ h ρ' h') : RFl ρ' h' r f := by
 cases r with
 | ret v => obtain ⟨val, e, rv⟩ := k; exact ⟨val, e, rv.sub x⟩
 | _ => exact k
theorem try_clause {t : Str} {nm : Option Str} {b : Stmt} {bs : List Stmt} {q q' : Pos} {e : V} {ev : Value} (B : Base tx mg mb h₀.heap) (hups : C.ups = tx.ups) (hns : NoShadow tx) {c : Bool} (hA : Rm h₀ A n c) (hf : ∀ b ∈ frameW env, h₀.get? b = none) (F : Frm h₀ env ns loc ρ s.heap) (i : Inv h₀ σ ρ s.heap) (re : RE σ e ev ρ s.heap)
  (hb : ExsS h₀ C.hush n (b :: bs)) (hg : isGlob ns t = true) (hut : (C.ups t).isSome = true) :
  Sim h₀ A (frameW env) (handleBy ev env [.ExceptHandler (some (.Name t q)) nm (b :: bs) q']) (clause C ns loc t nm (exs C.hush (b :: bs) ns) e σ) (RX h₀ env ns) ρ s := by
 obtain ⟨k, cl, fs, a, oe, vs, K, q1, ⟨dv, q2⟩, rfl, rfl, q5, q6, q7, _⟩ := re.at i
 rw [hups] at hut
 obtain ⟨ut, hut⟩ := Option.isSome_iff_exists.mp hut
 obtain ⟨D, bm', d1, Y, _⟩ := B.cls t ut hut
 have ex : excIs C t (.ref k) σ = Mine.Internal.ofOpt ((tx.ups cl).map fun us => us.contains t) σ := by
  show (Mine.Internal.getO k >>= fun o => match o with | .exc c _ => Mine.Internal.ofOpt ((C.ups c).map fun us => us.contains t) | _ => M.bad) σ = _
  rw [hups]
  exact bind_ok (m := Mine.Internal.getO k) (a := .exc cl fs) (σ' := σ) (by rw [getO_eq, q1])
 cases hus : tx.ups cl with
 | none =>
  rw [hus] at ex
  unfold clause
  rw [bind_bad ex]; exact trivial
 | some us =>
  rw [hus] at ex
  obtain ⟨K', bm, k1, X, _, k4⟩ := B.cls cl us hus
  rw [q7.at B.g] at k1; cases k1
  have hin := k4 t ut D hut d1
  cases hct : us.contains t with
  | false =>
   unfold clause
   rw [bind_ok (a := false) (σ' := σ) (by rw [ex, Option.map_some, hct]; rfl)]; exact trivial
  | true =>
   rw [hct] at hin
   have ec : clause C ns loc t nm (exs C.hush (b :: bs) ns) (.ref k) σ = (match nm with
     | none => M.safe (exs C.hush (b :: bs) ns loc)
     | some x => (stLocL ns x (.ref k) loc >>= fun loc' => M.safe (exs C.hush (b :: bs) ns loc') >>= fun r => pure (r.1, dropLoc r.2))) σ := by
    unfold clause
    rw [bind_ok (a := true) (σ' := σ) (by rw [ex, Option.map_some, hct]; rfl)]; rfl
   rw [ec]
   clear ec ex
   have X' := X.keeps i.base
   have Y' := Y.keeps i.base
   have go : ∀ {Q : Flow → Shared → Prop} {E : Value → Shared → Prop}, codeAny (model h₀.prog h₀.w) (A.mark (some (.ref a))) (.handlers (.ref a) [.ExceptHandler none nm (b :: bs) q'] env) (fun r s₂ => match r with
     | .ok f => (match nm with
      | none => Q f s₂
      | some n => wpAny (model h₀.prog h₀.w) A (do bindName env n .none; unbindBehindTheSuite env n q') (fun ya s₃ => Q f s₃) E s₂)
     | .error x => cameBackBy (model h₀.prog h₀.w) A env E x s₂) s → wpAny (model h₀.prog h₀.w) A (handleBy (.ref a) env [.ExceptHandler (some (.Name t q)) nm (b :: bs) q']) Q E s := fun hq => by
    refine wpAny_handleBy_cons (codeAny_handlers_test (wp_global B F i hg d1 ?_)) (by intro q; cases q)
    obtain ⟨hh, gg, dd, tt, os⟩ := s
    exact excMatches_ok X' q5 q6 Y' hin hq
   cases nm with
   | none =>
    have hbd := fun h' (x' : Ext [] ρ s.heap ρ h') i' => hb env ns loc σ ρ { s with heap := h' } (A.mark (some (.ref a))) (Rm.mark hA) hf (F.ext0 x') i'
    show Sim h₀ A (frameW env) _ (M.safe (exs C.hush (b :: bs) ns loc) σ) (RX h₀ env ns) ρ s
    rw [safe_eq]
    cases hr : exs C.hush (b :: bs) ns loc σ with
    | bad => exact trivial
    | exc _ _ => exact trivial
    | ok r σ₁ =>
     refine go (codeAny_handlers_suite (setFlight_ok i re fun h' i' x' ya => ?_))
     have h1 := hbd h' x' i'
     rw [hr] at h1
     refine wpAny_mono h1 (fun f s₂ hp => ?_) fun ya yb f => f.elim
     exact Post.after (tk := s.toks) (x'.weak fun ya hm => absurd hm List.not_mem_nil) hp
   | some x =>
    have S := stLocL_ok (h₀ := h₀) (env := env) (ns := ns) (hf _ (List.mem_cons_self ..))
    show Sim h₀ A (frameW env) _ ((stLocL ns x (.ref k) loc >>= fun loc' => M.safe (exs C.hush (b :: bs) ns loc') >>= fun r => pure (r.1, dropLoc r.2)) σ) (RX h₀ env ns) ρ s
    cases hst : stLocL ns x (.ref k) loc σ with
    | bad => rw [bind_bad hst]; exact trivial
    | exc _ _ => exact absurd hst (S.quiet _ _ _ _ _ _)
    | ok loc₁ σ₁ =>
     rw [bind_ok hst]
     have hsl : ∃ j, slot ns x = some (j, .local) := by
      unfold stLocL at hst
      cases h : slot ns x with
      | none => rw [h] at hst; cases hst
      | some p =>
       obtain ⟨j, kk⟩ := p
       rw [h] at hst
       cases kk with
       | «local» => exact ⟨j, rfl⟩
       | _ => cases hst
     obtain ⟨j, hsl⟩ := hsl
     cases hr : exs C.hush (b :: bs) ns loc₁ σ₁ with
     | bad => rw [bind_bad (by rw [safe_eq, hr])]; exact trivial
     | exc _ _ => rw [bind_bad (by rw [safe_eq, hr])]; exact trivial
     | ok r σ₂ =>
      rw [bind_ok (a := r) (σ' := σ₂) (by rw [safe_eq, hr])]
      refine go (codeAny_handlers_suite_as (setFlight_ok i re fun h' i' x' ya => ?_))
      have st := S.store x (.ref a) (.ref k) loc σ ρ { s with heap := h' } (A.mark (some (.ref a))) (F.ext0 x') i' (.ref q2)
      rw [hst] at st
      refine wpAny_mono st (fun ya s₁ hp => ?_) fun ya yb f => f.elim
      obtain ⟨ρ₁, H₁, tk₁, rfl, i₁, x₁, F₁⟩ := hp
      have h1 := hb env ns loc₁ σ₁ ρ₁ (At s H₁ tk₁) (A.mark (some (.ref a))) (Rm.mark hA) hf F₁ i₁
      rw [hr] at h1
      refine wpAny_mono h1 (fun f s₂ hp => ?_) fun ya yb f => f.elim
      obtain ⟨ρ₂, H₂, tk₂, rfl, i₂, x₂, rf, F₂⟩ := hp
      obtain ⟨m, hn, _⟩ := F₂.vars
      refine wpAny_nameGoes (F.kindOf hsl) hn (function_not_class F) fun h'' m' hn' hsb => ?_
      obtain ⟨i₃, x₃, F₃⟩ := F₂.drop i₂ hf hn' hsb
      have w1 : ∀ b ∈ [env.locals], b ∈ frameW env ∨ h''.get? b = none := fun b hm => .inl (by rw [List.mem_singleton.mp hm]; exact List.mem_cons_self ..)
      refine ⟨ρ₂, h'', tk₂ + 1, rfl, i₃, ?_, rf.sub x₃.sub, F₃⟩
      exact (((x'.weak fun ya hm => absurd hm List.not_mem_nil).trans (x₁.weak fun b hm => .inl (by rw [List.mem_singleton.mp hm]; exact List.mem_cons_self ..))).trans x₂).trans (x₃.weak fun b hm => .inl (by rw [List.mem_singleton.mp hm]; exact List.mem_cons_self ..))
structure TryOk (h₀ : Bse) (C : Cfg) (n : Nat) (body : List Stmt) (f : TryF) : Prop where
 run : ExsS h₀ C n body
 same : ∀ ns loc, exs C body ns loc = (ev C f.expr ns loc >>= tryEnd loc f)
 fly : ∀ (env : Env) (s : Shared) (A : Around) (E : Value → Shared → Prop), env.scope.kind = .function → wpAny (model h₀.prog h₀.w) A (eval f.expr env) (fun ya yb => False) E s → wpAny (model h₀.prog h₀.w) A (execs body env) (fun ya yb => False) E s
theorem tryOk_ret {e : Expr} {p : Pos} (he : EvS h₀ C n e) : TryOk h₀ C n [.Return (some e) p] (.ret e) where
 run := exs_cons (ex_return he) exs_nil
 same := fun ns loc => rfl
 fly := fun env s A E ya h => by
  rw [execs_cons, arm_exec_Return]
  exact wpAny_bind (wpAny_bind (wpAny_standAt (wpAny_bind (wpAny_mono h (fun ya yb f => f.elim) fun ya yb x => x))))
theorem tryOk_run {g : Expr} {as : List Expr} {q p : Pos} (he : EvS h₀ C n (.Call g as [] q)) : TryOk h₀ C n [.Expr (.Call g as [] q) p] (.run (.Call g as [] q)) where
 run := exs_cons (ex_expr he) exs_nil
 same := fun ns loc => rfl
 fly := fun env s A E hk h => by
  rw [execs_cons, arm_exec_Expr]
  have hi : interactive env = false := by unfold interactive; rw [hk]; rfl
  have hsw : swapsWith (.Call g as [] q) none p.line env = Pure.pure false := rfl
  rw [hi, hsw]
  refine wpAny_bind (wpAny_bind (wpAny_standAt ?_))
  show wpAny _ _ (eval (.Call g as [] q) env >>= fun v => PySem.dropValue (.Call g as [] q) p v) _ _ _
  exact wpAny_bind (wpAny_mono h (fun ya yb f => f.elim) fun ya yb x => x)
theorem tryOf_ok {body : List Stmt} {f : TryF} (h : tryOf body = some f) (he : EvS h₀ C n f.expr) : TryOk h₀ C n body f := by
 cases body with
 | nil => cases h
 | cons st r => cases r with
  | cons _ _ => cases h
  | nil =>
   obtain ⟨⟨g, k⟩, _, rfl⟩ := Option.map_eq_some_iff.mp (show (tryOne st).map (·.1) = some f from h)
   cases k with
   | ret e p => exact tryOk_ret he
   | run g as p q => exact tryOk_run he
structure OneH (C : Cfg) (hs : List ExceptHandler) (ns : Names) (loc : Loc) (e : V) (σ : Store) (t : Str) (q : Pos) (nm : Option Str) (b : Stmt) (bs : List Stmt) (q' : Pos) : Prop where
 eq : hs = [.ExceptHandler (some (.Name t q)) nm (b :: bs) q']
 glob : isGlob ns t = true
 ups : (C.ups t).isSome = true
 run : exH C hs ns loc e σ = clause C ns loc t nm (exs C.hush (b :: bs) ns) e σ
theorem exH_one {hs : List ExceptHandler} {e : V} (h : exH C hs ns loc e σ ≠ .bad) : ∃ t q nm b bs q', OneH C hs ns loc e σ t q nm b bs q' := by
 cases hs with
 | nil => exact absurd rfl h
 | cons x r =>
  obtain ⟨ty, nm, body, p⟩ := x
  cases r with
  | cons _ _ => cases ty <;> cases body <;> exact absurd rfl h
  | nil => cases ty with
   | none => exact absurd rfl h
   | some ty => cases body with
    | nil => exact absurd rfl h
    | cons b bs =>
     have e0 : exH C [.ExceptHandler (some ty) nm (b :: bs) p] ns loc e = (match nameIn ty with
      | some t => if (isGlob ns t.1 && (C.ups t.1).isSome) = true then clause C ns loc t.1 nm (exs C.hush (b :: bs) ns) e else M.bad
      | none => M.bad) := rfl
     cases hn : nameIn ty with
     | none => rw [e0, hn] at h; exact absurd rfl h
     | some t =>
      rw [hn] at e0
      rw [e0] at h
      obtain ⟨hc, e1⟩ := ite_bad h
      rw [Bool.and_eq_true] at hc
      obtain ⟨t, q, rfl⟩ := t
      exact ⟨t, q, nm, b, bs, p, rfl, hc.1, hc.2, by rw [e0]; exact e1⟩
theorem tryd_ok {α β : Type} {m : M α} {f : α → M β} {g : V → M β} {a : α} {σ' : Store} (h : m σ = .ok a σ') : M.tryd m f g σ = f a σ' := by rw [tryd_eq, h]
theorem tryd_exc {α β : Type} {m : M α} {f : α → M β} {g : V → M β} {e : V} {σ' : Store} (h : m σ = .exc e σ') : M.tryd m f g σ = g e σ' := by rw [tryd_eq, h]
theorem tryd_bad {α β : Type} {m : M α} {f : α → M β} {g : V → M β} (h : m σ = .bad) : M.tryd m f g σ = .bad := by rw [tryd_eq, h]
theorem ex_try {body els fin : List Stmt} {hs : List ExceptHandler} {pos : Pos} (B : Base tx mg mb h₀.heap) (hups : C.ups = tx.ups) (hns : NoShadow tx) (hev : ∀ f, tryOf body = some f → EvS h₀ C n f.expr) (hh : ∀ x ∈ hs, ExsS h₀ C.hush n (match x with | .ExceptHandler _ _ b _ => b)) :
  ExS h₀ C n (.Try body hs els fin pos) := fun env ns loc σ ρ s A hA hf F i => by
 show Sim h₀ A (frameW env) _ ((if (C.calm && (els.isEmpty && (fin.isEmpty && !hs.isEmpty))) = true then (match tryOf body with
  | some f => M.tryd (ev C f.expr ns loc) (tryEnd loc f) (exH C hs ns loc)
  | none => M.bad) else M.bad) σ) (RX h₀ env ns) ρ s
 refine Sim.ite fun hc => ?_
 simp only [Bool.and_eq_true, List.isEmpty_iff, Bool.not_eq_true'] at hc
 obtain ⟨hq, rfl, rfl, hne⟩ := hc
 cases hb : tryOf body with
 | none => exact trivial
 | some f =>
  have T := tryOf_ok hb (hev f hb)
  have h1 := T.run env ns loc σ ρ s A hA hf F i
  rw [T.same] at h1
  cases hs with
  | nil => cases hne
  | cons y ys =>
   show Sim h₀ A (frameW env) _ (M.tryd (ev C f.expr ns loc) (tryEnd loc f) (exH C (y :: ys) ns loc) σ) (RX h₀ env ns) ρ s
   cases hr : ev C f.expr ns loc σ with
   | bad => rw [tryd_bad hr]; exact trivial
   | ok v σ₁ =>
    rw [bind_ok hr] at h1
    rw [tryd_ok hr]
    have : ∃ r, tryEnd loc f v σ₁ = .ok r σ₁ := by cases f <;> exact ⟨_, rfl⟩
    obtain ⟨r, hr⟩ := this
    rw [hr] at h1 ⊢
    refine wpAny_Try_except (wpAny_mono h1 (fun f s₁ hp => ?_) fun ya yb f => f.elim)
    cases f with
    | next => exact wpAny_execs_nil hp
    | brk => exact hp
    | cont => exact hp
    | ret v => exact hp
   | exc e σ₁ =>
    have h1 := hev f hb env ns loc σ ρ s A hA F i
    rw [hr] at h1
    rw [tryd_exc hr]
    by_cases hbad : exH C (y :: ys) ns loc e σ₁ = .bad
    ·rw [hbad]; exact trivial
    ·obtain ⟨t, q, nm, b, bs, q', O⟩ := exH_one hbad
     rw [O.run]
     have hg := O.glob
     have hut := O.ups
     have eq := O.eq
     clear O hbad
     have hbd := hh y (List.mem_cons_self ..)
     cases eq
     have fly : ∀ {Q : Flow → Shared → Prop} {E : Value → Shared → Prop}, (∀ ev ρ₁ H tk, Ext (frameW env) ρ s.heap ρ₁ H → Sim h₀ A (frameW env) (handleBy ev env [.ExceptHandler (some (.Name t q)) nm (b :: bs) q']) (clause C ns loc t nm (exs C.hush (b :: bs) ns) e σ₁) (RX h₀ env ns) ρ₁ (At s H tk) → wpAny (model h₀.prog h₀.w) A (handleBy ev env [.ExceptHandler (some (.Name t q)) nm (b :: bs) q']) Q E (At s H tk)) →
       wpAny (model h₀.prog h₀.w) A (exec (.Try body [.ExceptHandler (some (.Name t q)) nm (b :: bs) q'] [] [] pos) env) Q E s := fun hq => by
      refine wpAny_Try_except (wpAny_mono (T.fly env s A _ F.kind h1) (fun ya yb f => f.elim) fun ev s₁ hp => ?_)
      obtain ⟨ρ₁, H, tk, rfl, i₁, x₁, re⟩ := hp
      refine note_ok (s := (At s H tk)) hA F.top i₁ re fun h' i' x' ya => ?_
      refine setFlight_ok (s := (At s h' tk)) i' re fun h'' i'' x'' ya => ?_
      have x3 := x'.trans x''
      have x4 := x₁.trans x3
      exact hq ev ρ₁ h'' tk (x4.weak fun ya hm => absurd hm List.not_mem_nil) (try_clause (s := (At s h'' tk)) B hups hns hA hf (F.ext0 x4) i'' re hbd hg hut)
     cases h2 : clause C ns loc t nm (exs C.hush (b :: bs) ns) e σ₁ with
     | bad => exact trivial
     | exc _ _ => exact fly fun ev ρ₁ H tk x hs => by rw [h2] at hs; exact wpAny_mono hs (fun ya yb f => f) fun ya yb hp => hp.after x
     | ok d σ₂ => exact fly fun ev ρ₁ H tk x hs => by rw [h2] at hs; exact wpAny_mono hs (fun ya yb hp => hp.after x) fun ya yb f => f
end
end Mine.Internal

set_option backward.match.sparseCases false
namespace Mine.Internal
open PySem PyProof.Rows
section
variable {h₀ : Bse} {tx : Tabs} {mg mb : Str → Option Value} {C : Cfg} {n : Nat}
structure Al (h₀ : Bse) (C : Cfg) (n : Nat) (e : Expr) : Prop where
 ev : EvS h₀ C n e
 tst : TstS h₀ C n e
 src : SrcS h₀ C n e
 comp : CompS h₀ C n e
 slice : ∀ lo hi q, e = .Slice lo hi none q → EvOptS h₀ C n lo ∧ EvOptS h₀ C n hi
 attr : ∀ o m q, e = .Attribute o m q → EvS h₀ C n o
structure Hyp (h₀ : Bse) (tx : Tabs) (mg mb : Str → Option Value) (C : Cfg) (n : Nat) : Prop where
 B : Base tx mg mb h₀.heap
 fn : ∀ f, C.isFn f = (tx.fns f).isSome
 glob : C.glob = tx.glob
 ns : NoShadow tx
 call : CallS h₀ tx C n
 ups : C.ups = tx.ups
 quiet : CallS h₀ tx C.hush n
 cls : C.cls = tx.cls
theorem Hyp.hush (H : Hyp h₀ tx mg mb C n) : Hyp h₀ tx mg mb C.hush n := ⟨H.B, H.fn, H.glob, H.ns, H.quiet, H.ups, H.quiet, H.cls⟩
theorem evsS_of : ∀ {es : List Expr}, (∀ e ∈ es, EvS h₀ C n e) → EvsS h₀ C n es
 | [], _ => evs_nil
 | e :: r, h => evs_cons (h e (List.mem_cons_self ..)) (evsS_of fun e he => h e (List.mem_cons_of_mem _ he))
theorem evBoolS_of : ∀ {es : List Expr}, (∀ e ∈ es, EvS h₀ C n e) → EvBoolS h₀ C n es
 | [], _ => evBool_nil
 | e :: r, h => evBool_cons (h e (List.mem_cons_self ..)) (evBoolS_of fun e he => h e (List.mem_cons_of_mem _ he))
theorem tstAllS_of : ∀ {es : List Expr}, (∀ e ∈ es, TstS h₀ C n e) → TstAllS h₀ C n es
 | [], _ => tstAll_nil
 | e :: r, h => tstAll_cons (h e (List.mem_cons_self ..)) (tstAllS_of fun e he => h e (List.mem_cons_of_mem _ he))
theorem testsS_of : ∀ {es : List Expr}, (∀ e ∈ es, TstS h₀ C n e) → TestsS h₀ C n es
 | [], _ => tests_nil
 | [e], h => tests_one (h e (List.mem_cons_self ..))
 | _ :: _ :: _, _ => tests_more
theorem nameOf_is {b : Expr} {t : Str} (h : nameOf b = some t) : ∃ q, b = .Name t q := by
 obtain ⟨⟨_, hq⟩, _, rfl⟩ := Option.map_eq_some_iff.mp h
 exact hq
theorem isiS_of (B : Base tx mg mb h₀.heap) (hups : C.ups = tx.ups) (hns : NoShadow tx) : ∀ {es : List Expr}, (∀ e ∈ es, EvS h₀ C n e) → IsiS h₀ C n es
 | [], _ => fun ya yb yc yd ye yf yg yh yi yj yk yl ym yn yo yp => trivial
 | [_], _ => fun ya yb yc yd ye yf yg yh yi yj yk yl ym yn yo yp => trivial
 | [a, b], h => by
  intro f p pos env ns loc σ ρ s A hA F i hf hi hst
  show Sim h₀ A [] _ ((match nameOf b with | some t => if isGlob ns t = true then (ev C a ns loc >>= fun v => isiV C t v) else M.bad | none => M.bad) σ) RV ρ s
  cases hb : nameOf b with
  | none => exact trivial
  | some t =>
   obtain ⟨q, rfl⟩ := nameOf_is hb
   exact Sim.ite fun ht => ev_isinstance B hups hns (h a (List.mem_cons_self ..)) hA F i hf hi (by simpa using List.all_eq_true.mp hst a (List.mem_cons_self ..)) ht
 | _ :: _ :: _ :: _, _ => fun ya yb yc yd ye yf yg yh yi yj yk yl ym yn yo yp => trivial
theorem kw_bad (f : Expr) (as : List Expr) (k : Keyword) (ks : List Keyword) (p : Pos) (C : Cfg) (ns : Names) (loc : Loc) : ev C (.Call f as (k :: ks) p) ns loc = M.bad := by cases f <;> rfl
theorem noComp {e : Expr} (h : isCompE e = false) : CompS h₀ C n e := fun elt t it ifs sc p e' => by rw [e'] at h; cases h
theorem noSlice {e : Expr} (h : isSliceE e = false) : ∀ lo hi q, e = .Slice lo hi none q → EvOptS h₀ C n lo ∧ EvOptS h₀ C n hi := fun lo hi q e' => by rw [e'] at h; cases h
theorem noAttr {e : Expr} (h : isAttrE e = false) : ∀ o m q, e = .Attribute o m q → EvS h₀ C n o := fun o m q e' => by rw [e'] at h; cases h
theorem Al.plain {e : Expr} (he : EvS h₀ C n e) (h1 : ∀ (ns : Names) (loc : Loc) (whole : M V), Mine.Internal.tst C e ns loc whole = (whole >>= fun v => truth v)) (h2 : ∀ (env : Env) (whole : Sem Value), isTrue e env whole = (do let v ← whole; standAt e.pos; holding [v] (truthy v)))
  (h3 : ∀ ns loc whole, Mine.Internal.src C e ns loc whole = (whole >>= srcV)) (h4 : isCompE e = false) (h5 : isSliceE e = false) (h6 : isAttrE e = false) : Al h₀ C n e where
 ev := he
 tst := tst_value he h1 h2
 src := srcS_value he h3
 comp := noComp h4
 slice := noSlice h5
 attr := noAttr h6
theorem tst_bad {e : Expr} (h : ∀ ns loc, Mine.Internal.ev C e ns loc = M.bad) (h1 : ∀ (ns : Names) (loc : Loc) (whole : M V), Mine.Internal.tst C e ns loc whole = (whole >>= fun v => truth v)) : TstS h₀ C n e := fun env ns loc σ ρ s A hA F i => by
 rw [h1, h]; exact trivial
theorem Al.nothing {e : Expr} (h : ∀ ns loc, Mine.Internal.ev C e ns loc = M.bad) (h1 : ∀ (ns : Names) (loc : Loc) (whole : M V), Mine.Internal.tst C e ns loc whole = (whole >>= fun v => truth v))
  (h3 : ∀ ns loc whole, Mine.Internal.src C e ns loc whole = (whole >>= srcV)) (h4 : isCompE e = false) (h5 : isSliceE e = false) (h6 : isAttrE e = false) : Al h₀ C n e where
 ev := evS_bad h
 tst := tst_bad h h1
 src := srcS_value (evS_bad h) h3
 comp := noComp h4
 slice := noSlice h5
 attr := noAttr h6
mutual
theorem al_ok (H : Hyp h₀ tx mg mb C n) : ∀ e : Expr, Al h₀ C n e
 | .Constant c k p => .plain ev_const (fun ya yb yc => rfl) (fun ya yb => rfl) (fun ya yb yc => rfl) rfl rfl rfl
 | .Name x p => .plain (fun env ns loc σ ρ s A hA F i => Sim.name H.B H.glob F i) (fun ya yb yc => rfl) (fun ya yb => rfl) (fun ya yb yc => rfl) rfl rfl rfl
 | .BinOp l op r p => .plain (ev_binop (al_ok H l).ev (al_ok H r).ev) (fun ya yb yc => rfl) (fun ya yb => rfl) (fun ya yb yc => rfl) rfl rfl rfl
 | .UnaryOp op x p => by
  have hx := al_ok H x
  cases op with
  | Not => exact ⟨ev_not hx.ev, tst_not hx.tst, srcS_value (ev_not hx.ev) (fun ya yb yc => rfl), noComp rfl, noSlice rfl, noAttr rfl⟩
  | USub =>
   cases h : intIn x with
   | some i => obtain ⟨i, c, q, rfl⟩ := i; exact .plain ev_usub (fun ya yb yc => rfl) (fun ya yb => rfl) (fun ya yb yc => rfl) rfl rfl rfl
   | none => exact .nothing (fun ya yb => by show (match intIn x with | some i => (Pure.pure (V.int (-i.1)) : M V) | none => M.bad) = M.bad; rw [h]) (fun ya yb yc => rfl) (fun ya yb yc => rfl) rfl rfl rfl
  | _ => exact .nothing (fun ya yb => rfl) (fun ya yb yc => rfl) (fun ya yb yc => rfl) rfl rfl rfl
 | .BoolOp op vs p => by
  have hv := als_ok H vs
  have he : EvS h₀ C n (.BoolOp op vs p) := ev_boolop (evBoolS_of fun e he => (hv e he).ev)
  exact ⟨he, tst_boolop (tstAllS_of fun e he => (hv e he).tst), srcS_value he (fun ya yb yc => rfl), noComp rfl, noSlice rfl, noAttr rfl⟩
 | .Compare l ops rs p => by
  have hl := al_ok H l
  have hr := als_ok H rs
  match ops, rs with
  | [op], [r] =>
   have he : EvS h₀ C n (.Compare l [op] [r] p) := ev_compare hl.ev (hr r (List.mem_cons_self ..)).ev
   exact ⟨he, tst_compare hl.ev (hr r (List.mem_cons_self ..)).ev, srcS_value he (fun ya yb yc => rfl), noComp rfl, noSlice rfl, noAttr rfl⟩
  | [], _ => exact .nothing (fun ya yb => rfl) (fun ya yb yc => rfl) (fun ya yb yc => rfl) rfl rfl rfl
  | [op, op2], [m, r] =>
   have h1 := (hr m (List.mem_cons_self ..)).ev
   have h2 := (hr r (List.mem_cons_of_mem _ (List.mem_cons_self ..))).ev
   have he : EvS h₀ C n (.Compare l [op, op2] [m, r] p) := ev_chain hl.ev h1 h2
   exact ⟨he, tst_chain hl.ev h1 h2, srcS_value he (fun ya yb yc => rfl), noComp rfl, noSlice rfl, noAttr rfl⟩
  | [_], [] | [_], _ :: _ :: _ | [_, _], [] | [_, _], [_] | [_, _], _ :: _ :: _ :: _ | _ :: _ :: _ :: _, _ => exact .nothing (fun ya yb => rfl) (fun ya yb yc => rfl) (fun ya yb yc => rfl) rfl rfl rfl
 | .IfExp t a b p => by
  have ht := al_ok H t
  have ha := al_ok H a
  have hb := al_ok H b
  have he : EvS h₀ C n (.IfExp t a b p) := ev_ifexp ht.tst ha.ev hb.ev
  exact ⟨he, tst_ifexp ht.tst ha.tst hb.tst, srcS_value he (fun ya yb yc => rfl), noComp rfl, noSlice rfl, noAttr rfl⟩
 | .Slice lo hi st p => ⟨evS_bad fun ya yb => rfl, tst_bad (fun ya yb => rfl) (fun ya yb yc => rfl), srcS_value (evS_bad fun ya yb => rfl) (fun ya yb yc => rfl), noComp rfl, by
   have hlo := opt_ok H lo
   have hhi := opt_ok H hi
   intro lo' hi' q e
   cases e
   exact ⟨hlo, hhi⟩, noAttr rfl⟩
 | .Subscript o i p => by
  have ho := al_ok H o
  have hi := al_ok H i
  have he : EvS h₀ C n (.Subscript o i p) := by
   cases i with
   | Slice lo hi' st q =>
    cases st with
    | none => obtain ⟨h1, h2⟩ := hi.slice lo hi' q rfl; exact ev_slice ho.ev h1 h2
    | some st => exact ev_sub ho.ev hi.ev (fun ya yb => rfl)
   | _ => exact ev_sub ho.ev hi.ev (fun ya yb => rfl)
  exact .plain he (fun ya yb yc => rfl) (fun ya yb => rfl) (fun ya yb yc => rfl) rfl rfl rfl
 | .List es p => .plain (ev_list (evsS_of fun e he => (als_ok H es e he).ev)) (fun ya yb yc => rfl) (fun ya yb => rfl) (fun ya yb yc => rfl) rfl rfl rfl
 | .Tuple es k p => .plain (ev_tuple (evsS_of fun e he => (als_ok H es e he).ev)) (fun ya yb yc => rfl) (fun ya yb => rfl) (fun ya yb yc => rfl) rfl rfl rfl
 | .Attribute o m p => by
  have ho := al_ok H o
  have he : EvS h₀ C n (.Attribute o m p) := ev_attr H.B H.cls ho.ev
  exact ⟨he, tst_value he (fun ya yb yc => rfl) (fun ya yb => rfl), srcS_value he (fun ya yb yc => rfl), noComp rfl, noSlice rfl, fun o' m' q e => by cases e; exact ho.ev⟩
 | .Call f as ks p => by
  have hf := al_ok H f
  have has := als_ok H as
  cases ks with
  | cons k ks =>
   have hsr : ∀ ns loc whole, Mine.Internal.src C (.Call f as (k :: ks) p) ns loc whole = (whole >>= srcV) := fun ns loc whole => by cases f <;> rfl
   exact .nothing (kw_bad f as k ks p C) (fun ya yb yc => rfl) hsr rfl rfl rfl
  | nil =>
   cases f with
   | Name x q =>
    have he : EvS h₀ C n (.Call (.Name x q) as [] p) := ev_callName H.B H.fn H.cls H.call (evsS_of fun e he => (has e he).ev) (isiS_of H.B H.ups H.ns fun e he => (has e he).ev)
    exact ⟨he, tst_value he (fun ya yb yc => rfl) (fun ya yb => rfl), src_call H.B H.fn he (fun e he => (has e he).ev), noComp rfl, noSlice rfl, noAttr rfl⟩
   | Attribute o m q =>
    have he : EvS h₀ C n (.Call (.Attribute o m q) as [] p) := ev_callMeth H.B H.cls H.call (hf.attr o m q rfl) (evsS_of fun e he => (has e he).ev)
    exact .plain he (fun ya yb yc => rfl) (fun ya yb => rfl) (fun ya yb yc => rfl) rfl rfl rfl
   | _ => exact .nothing (fun ya yb => rfl) (fun ya yb yc => rfl) (fun ya yb yc => rfl) rfl rfl rfl
 | .ListComp elt gens scope p => by
  have he := al_ok H elt
  have hg := gens_ok H gens
  have hc : CompS h₀ C n (.ListComp elt gens scope p) := fun elt' t' it' ifs' sc' p' e => by
   cases e
   obtain ⟨h1, h2⟩ := hg _ (List.mem_cons_self ..)
   exact ⟨h1, h2, he.ev⟩
  have hev : EvS h₀ C n (.ListComp elt gens scope p) := by
   rcases comp_cases gens with ⟨t, it, ifs, rfl⟩ | hbad
   ·obtain ⟨h1, h2⟩ := hg _ (List.mem_cons_self ..)
    exact ev_listcomp h1 h2 he.ev
   ·exact evS_bad fun ns loc => hbad C elt scope p ns loc
  exact ⟨hev, tst_value hev (fun ya yb yc => rfl) (fun ya yb => rfl), srcS_value hev (fun ya yb yc => rfl), hc, noSlice rfl, noAttr rfl⟩
 | .NamedExpr _ _ _ => .nothing (fun ya yb => rfl) (fun ya yb yc => rfl) (fun ya yb yc => rfl) rfl rfl rfl
 | .Lambda _ _ _ _ => .nothing (fun ya yb => rfl) (fun ya yb yc => rfl) (fun ya yb yc => rfl) rfl rfl rfl
 | .Dict ks vs p => by
  match ks, vs with
  | [], [] => exact .plain (ev_dict0 H.B.nolimit) (fun ya yb yc => rfl) (fun ya yb => rfl) (fun ya yb yc => rfl) rfl rfl rfl
  | [], _ :: _ | _ :: _, _ => exact .nothing (fun ya yb => rfl) (fun ya yb yc => rfl) (fun ya yb yc => rfl) rfl rfl rfl
 | .Set _ _ _ => .nothing (fun ya yb => rfl) (fun ya yb yc => rfl) (fun ya yb yc => rfl) rfl rfl rfl
 | .SetComp _ _ _ _ => .nothing (fun ya yb => rfl) (fun ya yb yc => rfl) (fun ya yb yc => rfl) rfl rfl rfl
 | .DictComp _ _ _ _ _ => .nothing (fun ya yb => rfl) (fun ya yb yc => rfl) (fun ya yb yc => rfl) rfl rfl rfl
 | .GeneratorExp _ _ _ _ => .nothing (fun ya yb => rfl) (fun ya yb yc => rfl) (fun ya yb yc => rfl) rfl rfl rfl
 | .Await _ _ => .nothing (fun ya yb => rfl) (fun ya yb yc => rfl) (fun ya yb yc => rfl) rfl rfl rfl
 | .Yield _ _ => .nothing (fun ya yb => rfl) (fun ya yb yc => rfl) (fun ya yb yc => rfl) rfl rfl rfl
 | .YieldFrom _ _ => .nothing (fun ya yb => rfl) (fun ya yb yc => rfl) (fun ya yb yc => rfl) rfl rfl rfl
 | .FormattedValue _ _ _ _ => .nothing (fun ya yb => rfl) (fun ya yb yc => rfl) (fun ya yb yc => rfl) rfl rfl rfl
 | .JoinedStr _ _ => .nothing (fun ya yb => rfl) (fun ya yb yc => rfl) (fun ya yb yc => rfl) rfl rfl rfl
 | .Starred _ _ => .nothing (fun ya yb => rfl) (fun ya yb yc => rfl) (fun ya yb yc => rfl) rfl rfl rfl
theorem als_ok (H : Hyp h₀ tx mg mb C n) : ∀ es : List Expr, ∀ e ∈ es, Al h₀ C n e
 | [] => fun ya hm => absurd hm List.not_mem_nil
 | e :: r => fun e' hm => by
  have h1 := al_ok H e
  have h2 := als_ok H r
  rcases List.mem_cons.mp hm with rfl | hm
  ·exact h1
  ·exact h2 e' hm
theorem opt_ok (H : Hyp h₀ tx mg mb C n) : ∀ o : Option Expr, EvOptS h₀ C n o
 | none => evOpt_none
 | some e => evOpt_some (al_ok H e).ev
theorem gens_ok (H : Hyp h₀ tx mg mb C n) : ∀ gs : List Comprehension, ∀ g ∈ gs, SrcS h₀ C n g.iter ∧ TestsS h₀ C n g.ifs
 | [] => fun ya hm => absurd hm List.not_mem_nil
 | ⟨t, it, ifs, k⟩ :: r => fun g hm => by
  have h1 := al_ok H it
  have h2 := als_ok H ifs
  have h3 := gens_ok H r
  rcases List.mem_cons.mp hm with rfl | hm
  ·exact ⟨h1.src, testsS_of fun e he => (h2 e he).tst⟩
  ·exact h3 g hm
end
theorem ex_assign {ts : List Expr} {v : Expr} {p : Pos} (H : Hyp h₀ tx mg mb C n) (hv : Al h₀ C n v) (hh : ∀ e, Al h₀ C n e) : ExS h₀ C n (.Assign ts v p) := by
 cases h : oneIn ts with
 | none =>
  intro env ns loc σ ρ s A hA hf F i
  show Sim h₀ A (frameW env) _ ((match oneIn ts with | some t => exAsg C t.1 v ns loc | none => M.bad) σ) (RX h₀ env ns) ρ s
  rw [h]; exact trivial
 | some t =>
  obtain ⟨t, rfl⟩ := t
  cases h1 : nameIn t with
  | some x => obtain ⟨x, q, rfl⟩ := x; exact ex_assignName hv.ev hv.comp
  | none =>
   cases h2 : subIn t with
   | some q => obtain ⟨⟨o, i, q⟩, rfl⟩ := q; exact ex_assignSub hv.ev (hh o).ev (hh i).ev
   | none =>
    cases h3 : attrIn t with
    | some q => obtain ⟨⟨o, m, q⟩, rfl⟩ := q; exact ex_assignAttr H.B H.cls hv.ev (hh o).ev
    | none =>
     cases h4 : tupIn t with
     | some q => obtain ⟨⟨ts, k, q⟩, rfl⟩ := q; exact ex_assignTup hv.ev
     | none =>
      intro env ns loc σ ρ s A hA hf F i
      show Sim h₀ A (frameW env) _ (exAsg C t v ns loc σ) (RX h₀ env ns) ρ s
      rw [exAsg_none h1 h2 h3 h4]; exact trivial
mutual
theorem ex_ok : ∀ (st : Stmt) {C : Cfg} (H : Hyp h₀ tx mg mb C n), ExS h₀ C n st
 | .Expr e p, _, H => ex_exprs (al_ok H e).ev
 | .Pass p, _, _ => ex_pass
 | .Return none p, _, _ => ex_return0
 | .Return (some e) p, _, H => ex_return (al_ok H e).ev
 | .Assign ts v p, _, H => ex_assign H (al_ok H v) (al_ok H)
 | .If t a b p, _, H => ex_if (al_ok H t).tst (exs_ok a H) (exs_ok b H)
 | .For t it body els p, _, H => by
  have h1 := al_ok H it
  have h2 := exs_ok body H
  cases els with
  | nil => exact ex_for h1.src h2
  | cons _ _ => exact fun env ns loc σ ρ s A hA hf F i => trivial
 | .FunctionDef .., _, _ => fun env ns loc σ ρ s A hA hf F i => trivial
 | .AsyncFunctionDef .., _, _ => fun env ns loc σ ρ s A hA hf F i => trivial
 | .ClassDef .., _, _ => fun env ns loc σ ρ s A hA hf F i => trivial
 | .Delete .., _, _ => fun env ns loc σ ρ s A hA hf F i => trivial
 | .TypeAlias .., _, _ => fun env ns loc σ ρ s A hA hf F i => trivial
 | .AugAssign .., _, _ => fun env ns loc σ ρ s A hA hf F i => trivial
 | .AnnAssign .., _, _ => fun env ns loc σ ρ s A hA hf F i => trivial
 | .AsyncFor .., _, _ => fun env ns loc σ ρ s A hA hf F i => trivial
 | .While .., _, _ => fun env ns loc σ ρ s A hA hf F i => trivial
 | .With .., _, _ => fun env ns loc σ ρ s A hA hf F i => trivial
 | .AsyncWith .., _, _ => fun env ns loc σ ρ s A hA hf F i => trivial
 | .Match .., _, _ => fun env ns loc σ ρ s A hA hf F i => trivial
 | .Raise .., _, H => ex_raise H.B H.ups
 | .Try body hs els fin p, _, H => ex_try H.B H.ups H.ns (fun f ya => (al_ok H f.expr).ev) (hands_ok hs H.hush)
 | .TryStar .., _, _ => fun env ns loc σ ρ s A hA hf F i => trivial
 | .Assert .., _, _ => fun env ns loc σ ρ s A hA hf F i => trivial
 | .Import .., _, _ => fun env ns loc σ ρ s A hA hf F i => trivial
 | .ImportFrom .., _, _ => fun env ns loc σ ρ s A hA hf F i => trivial
 | .Global .., _, _ => fun env ns loc σ ρ s A hA hf F i => trivial
 | .Nonlocal .., _, _ => fun env ns loc σ ρ s A hA hf F i => trivial
 | .Break .., _, _ => fun env ns loc σ ρ s A hA hf F i => trivial
 | .Continue .., _, _ => fun env ns loc σ ρ s A hA hf F i => trivial
theorem exs_ok : ∀ (sts : List Stmt) {C : Cfg} (H : Hyp h₀ tx mg mb C n), ExsS h₀ C n sts
 | [], _, _ => exs_nil
 | st :: r, _, H => exs_cons (ex_ok st H) (exs_ok r H)
theorem hands_ok : ∀ (hs : List ExceptHandler) {C : Cfg} (H : Hyp h₀ tx mg mb C n), ∀ x ∈ hs, ExsS h₀ C n (match x with | .ExceptHandler _ _ b _ => b)
 | [], _, _ => fun ya hm => absurd hm List.not_mem_nil
 | .ExceptHandler t nm b p :: r, _, H => fun x hm => by
  have h1 := exs_ok b H
  have h2 := hands_ok r H
  rcases List.mem_cons.mp hm with rfl | hm
  ·exact h1
  ·exact h2 x hm
end
end
end Mine.Internal

set_option backward.match.sparseCases false
namespace Mine.Internal
open PySem PyProof.Rows
theorem cellsFrom_some {x : Str} : ∀ (names : Names) (n : Nat) (acc : List (Str × Addr)), names.lookup x = some .cell ∨ (acc.lookup x).isSome = true → ((cellsFrom n names acc).lookup x).isSome = true
 | [], _, _, h => by
  rcases h with h | h
  ·cases h
  ·exact h
 | (y, k) :: r, n, acc, h => by
  unfold cellsFrom
  by_cases hk : (k == NameKind.cell) = true
  ·rw [if_pos hk]
   refine cellsFrom_some r (n + 1) _ ?_
   cases hxy : x == y with
   | true => right; rw [List.lookup_cons, hxy]; rfl
   | false =>
    rcases h with h | h
    ·left; rw [List.lookup_cons, hxy] at h; exact h
    ·right; rw [List.lookup_cons, hxy]; exact h
  ·rw [if_neg hk]
   refine cellsFrom_some r n acc ?_
   rcases h with h | h
   ·cases hxy : x == y with
    | true => rw [List.lookup_cons, hxy] at h; cases h; exact absurd rfl hk
    | false => left; rw [List.lookup_cons, hxy] at h; exact h
   ·exact .inr h
theorem initLoc_get {params : List Str} {args : List V} {x : Str} : ∀ {names : Names} {i j : Nat} {k : NameKind}, slotGo names x i = some (j, k) → i ≤ j ∧ (initLoc params args names)[j - i]? = some ((params.zip args).lookup x)
 | [], _, _, _, h => by cases h
 | (y, k') :: r, i, j, k, h => by
  unfold slotGo at h
  split at h
  ·rename_i e
   cases h
   rw [beq_iff_eq.mp e]
   exact ⟨Nat.le_refl _, by rw [Nat.sub_self]; rfl⟩
  ·obtain ⟨h1, h2⟩ := initLoc_get (params := params) (args := args) h
   refine ⟨Nat.le_of_succ_le h1, ?_⟩
   rw [sub_step h1]
   exact h2
section
variable {ρ : Map} {h : Heap}
theorem zip_lookup {x : Str} {params : List Str} {vals : List Value} {args : List V} {a : V} (r : RelAll ρ h vals args) : (params.zip args).lookup x = some a → ∃ v, (params.zip vals).lookup x = some v ∧ Rel ρ h v a := by
 induction r using RelAll.ind generalizing params with
 | h0 => intro e; rw [List.zip_nil_right] at e; cases e
 | h1 r rs ih =>
  intro e
  cases params with
  | nil => cases e
  | cons p ps =>
   rw [List.zip_cons_cons, List.lookup_cons] at e ⊢
   cases hx : x == p with
   | true => rw [hx] at e; cases e; exact ⟨_, rfl, r⟩
   | false => rw [hx] at e; exact ih e
end
theorem bindL_out {kindOf : Str → Option NameKind} {x : Str} : ∀ {binds : List (Str × Value)} {m : Str → Option Value}, (∀ p ∈ binds, p.1 ≠ x) → bindL kindOf binds m x = m x
 | [], _, _ => rfl
 | (y, v) :: r, m, h => by
  unfold bindL
  rw [bindL_out fun p hp => h p (List.mem_cons_of_mem _ hp)]
  split
  ·exact if_neg fun e => h (y, v) (List.mem_cons_self ..) e.symm
  ·rfl
theorem bindL_in {kindOf : Str → Option NameKind} {x : Str} {v : Value} (hk : kindOf x = some .local) : ∀ {binds : List (Str × Value)} {m : Str → Option Value}, (binds.map (·.1)).Nodup → binds.lookup x = some v → bindL kindOf binds m x = some v
 | [], _, _, h => by cases h
 | (y, u) :: r, m, hn, h => by
  unfold bindL
  rw [List.lookup_cons] at h
  rw [List.map_cons, List.nodup_cons] at hn
  cases hx : x == y with
  | true =>
   rw [hx] at h; cases h
   have e := beq_iff_eq.mp hx
   subst e
   rw [bindL_out fun p hp e => hn.1 (List.mem_map.mpr ⟨p, hp, e⟩), if_pos hk]
   exact if_pos rfl
  | false => rw [hx] at h; exact bindL_in hk hn.2 h
theorem bindC_out {kindOf : Str → Option NameKind} {x : Str} : ∀ {binds : List (Str × Value)} {m : Str → Option Value}, (∀ p ∈ binds, p.1 ≠ x) → bindC kindOf binds m x = m x
 | [], _, _ => rfl
 | (y, v) :: r, m, h => by
  unfold bindC
  rw [bindC_out fun p hp => h p (List.mem_cons_of_mem _ hp)]
  split
  ·rfl
  ·exact if_neg fun e => h (y, v) (List.mem_cons_self ..) e.symm
theorem bindC_in {kindOf : Str → Option NameKind} {x : Str} {v : Value} (hk : kindOf x = some .cell) : ∀ {binds : List (Str × Value)} {m : Str → Option Value}, (binds.map (·.1)).Nodup → binds.lookup x = some v → bindC kindOf binds m x = some v
 | [], _, _, h => by cases h
 | (y, u) :: r, m, hn, h => by
  unfold bindC
  rw [List.lookup_cons] at h
  rw [List.map_cons, List.nodup_cons] at hn
  cases hx : x == y with
  | true =>
   rw [hx] at h; cases h
   have e := beq_iff_eq.mp hx
   subst e
   rw [bindC_out fun p hp e => hn.1 (List.mem_map.mpr ⟨p, hp, e⟩), if_neg (by rw [hk]; decide)]
   exact if_pos rfl
  | false => rw [hx] at h; exact bindC_in hk hn.2 h
theorem zip_fst_mem {x : Str} : ∀ {params : List Str} {vals : List Value}, x ∈ (params.zip vals).map (·.1) → x ∈ params
 | [], _, h => by cases h
 | _ :: _, [], h => by cases h
 | p :: ps, v :: vs, h => by
  rw [List.zip_cons_cons, List.map_cons] at h
  rcases List.mem_cons.mp h with h | h
  ·exact h ▸ List.mem_cons_self ..
  ·exact List.mem_cons_of_mem _ (zip_fst_mem h)
theorem zip_fst_nodup : ∀ {params : List Str} {vals : List Value}, params.Nodup → ((params.zip vals).map (·.1)).Nodup
 | [], _, _ => List.nodup_nil
 | _ :: _, [], _ => List.nodup_nil
 | p :: ps, v :: vs, hn => by
  rw [List.zip_cons_cons, List.map_cons, List.nodup_cons]
  rw [List.nodup_cons] at hn
  exact ⟨fun hm => hn.1 (zip_fst_mem hm), zip_fst_nodup hn.2⟩
section
variable {prog : Program} {w : World} {hh : Heap} {frs frs' : List Env} {A : Around} {ρ : Map} {s : Shared} {σ : Store} {tx : Tabs} {mg mb : Str → Option Value}
theorem ORel.base {h : Heap} {p : Addr × Nat} {o : O} (r : ORel ⟨prog, w, hh, frs⟩ ρ h p o) : ORel ⟨prog, w, hh, frs'⟩ ρ h p o := by
 cases o with
 | list l => exact r
 | dict v l => exact r
 | inst _ _ => exact r
 | flds _ => exact r
 | exc c fs => exact r
theorem Inv.base' {h : Heap} (i : Inv ⟨prog, w, hh, frs⟩ σ ρ h) (hu : ∀ e ∈ frs', FrAt ⟨prog, w, hh, frs'⟩ ρ h e) : Inv ⟨prog, w, hh, frs'⟩ σ ρ h where
 base := i.base
 len := i.len
 objs := fun n o p e1 e2 => (i.objs n o p e1 e2).base
 fresh := i.fresh
 apart := i.apart
 up := hu
theorem Inv.pop {h : Heap} {e : Env} (i : Inv ⟨prog, w, hh, e :: frs⟩ σ ρ h) : Inv ⟨prog, w, hh, frs⟩ σ ρ h := i.base' fun f hf => i.up f (List.mem_cons_of_mem _ hf)
theorem RmW.deeper {n : Nat} {q : Bool} {env : Env} (h : RmW ⟨prog, w, hh, frs⟩ A (n + 1) q) : Rm ⟨prog, w, hh, env :: frs⟩ (A.deeper env) n q where
 handled := h.handled
 depth := by show A.depth + 1 + 2 * n < recursionLimit; have := h.depth; (first | lia | omega)
 units := by show A.units + 3 + 16 * n + 300 < cLine; have := h.units; (first | lia | omega)
 frames := by show A.frames.map _ = _; rw [h.frames]; rfl
theorem callFrm {fd : FuncData} {f : Fn} {a : Addr} {vals : List Value} {args : List V} {s₁ : Shared} (ok : FdOk fd f) (i : Inv ⟨prog, w, hh, frs⟩ σ ρ s.heap) (r : RelAll ρ s.heap vals args)
  (x : InCallC s (callEnvC fd s.heap.objs.size a).locals (bindL (callEnvC fd s.heap.objs.size a).kindOf (f.params.zip vals) fun ya => none) (callEnvC fd s.heap.objs.size a).cells (bindC (callEnvC fd s.heap.objs.size a).kindOf (f.params.zip vals) fun ya => none) s₁) :
  Frm ⟨prog, w, hh, callEnvC fd s.heap.objs.size a :: frs⟩ (callEnvC fd s.heap.objs.size a) f.names (initLoc f.params args f.names) ρ s₁.heap := by
 have hk : ∀ b o, s.heap.get? b = some o → s₁.heap.get? b = some o := x.toInCall.keep
 have hnm : (callEnvC fd s.heap.objs.size a).scope.names = f.names := ok.names
 have hkind : ∀ y i k, slot f.names y = some (i, k) → (callEnvC fd s.heap.objs.size a).kindOf y = some k := fun y i k h => by
  show (callEnvC fd s.heap.objs.size a).scope.names.lookup y = _
  rw [hnm]; exact slot_lookup h
 have hlc : ∀ y c, (callEnvC fd s.heap.objs.size a).cells.lookup y = some c → s.heap.objs.size < c := fun y c hc => x.above y c (mem_of_lookup hc)
 have off : ∀ b : Addr, s.heap.objs.size ≤ b → offMap ρ b := fun b hb p hp => by
  obtain ⟨o1, e1⟩ := i.alive hp
  exact fun e => absurd (Heap.lt_size e1) (Nat.not_lt.mpr (e ▸ hb))
 exact {
  names := hnm
  kind := ok.kind
  globals := ok.globals
  blts := ok.blts
  vars := ⟨_, x.toInCall.ns, fun y j v h1 h2 => by
   obtain ⟨_, h3⟩ := initLoc_get (params := f.params) (args := args) h1
   rw [Nat.sub_zero, h2] at h3
   obtain ⟨val, hv, rv⟩ := zip_lookup r (Option.some.inj h3).symm
   exact ⟨val, bindL_in (hkind y j _ h1) (zip_fst_nodup ok.nodup) hv, rv.sub (Sub.keeps hk)⟩⟩
  cell := fun y j h1 => by
   have hsome := cellsFrom_some f.names (s.heap.objs.size + 1) [] (.inl (slot_lookup h1))
   obtain ⟨c, hc⟩ := Option.isSome_iff_exists.mp hsome
   have hc' : (callEnvC fd s.heap.objs.size a).cells.lookup y = some c := by
    show (cellsFrom (s.heap.objs.size + 1) fd.scope.names []).lookup y = some c
    rw [ok.names]; exact hc
   refine ⟨c, _, hc', x.cell y c hc', fun v h2 => ?_⟩
   obtain ⟨_, h3⟩ := initLoc_get (params := f.params) (args := args) h1
   rw [Nat.sub_zero, h2] at h3
   obtain ⟨val, hv, rv⟩ := zip_lookup r (Option.some.inj h3).symm
   exact ⟨val, bindC_in (hkind y j _ h1) (zip_fst_nodup ok.nodup) hv, rv.sub (Sub.keeps hk)⟩
  live := fun y c hc => ⟨_, x.cell y c hc⟩
  offL := off _ (Nat.le_refl _)
  offC := fun y c hc => ⟨Nat.ne_of_gt (hlc y c hc), off _ (Nat.le_of_lt (hlc y c hc))⟩
  apart := fun y z c h1 h2 => name_of_addr x.apart (mem_of_lookup h1) (mem_of_lookup h2)
  top := ⟨_, List.mem_cons_self .., rfl⟩ }
set_option backward.match.sparseCases true in
theorem callFn_ok {n : Nat} {C : Cfg} {fn : Fn} {a : Addr} {args : List V} {vals : List Value} (H : ∀ frs, Hyp ⟨prog, w, hh, frs⟩ tx mg mb C n) (hm : FnIs hh fn a) (hA : RmW ⟨prog, w, hh, frs⟩ A (n + 1) C.calm) (r : RelAll ρ s.heap vals args) (i : Inv ⟨prog, w, hh, frs⟩ σ ρ s.heap) :
  Sim ⟨prog, w, hh, frs⟩ A [] (call (.ref a) vals) (callFn C fn args σ) RV ρ s := by
 obtain ⟨o, fd, ho, hd, ok, hcd⟩ := hm
 unfold callFn
 refine Sim.ite fun hlen => ?_
 have hvl : vals.length = fn.params.length := by rw [r.length, hlen]
 have go : ∀ {Q : Value → Shared → Prop} {E : Value → Shared → Prop}, (∀ H₁ tk₁, (∀ b ∈ frameW (callEnvC fd s.heap.objs.size a), s.heap.get? b = none) → (∀ b o, s.heap.get? b = some o → H₁.get? b = some o) →
   Sim ⟨prog, w, hh, callEnvC fd s.heap.objs.size a :: frs⟩ (A.deeper (callEnvC fd s.heap.objs.size a)) (frameW (callEnvC fd s.heap.objs.size a)) (execs fn.body (callEnvC fd s.heap.objs.size a)) (exs C fn.body fn.names (initLoc fn.params args fn.names) σ) (RX ⟨prog, w, hh, callEnvC fd s.heap.objs.size a :: frs⟩ (callEnvC fd s.heap.objs.size a) fn.names) ρ (At s H₁ tk₁) →
   wpAny (model prog w) (A.deeper (callEnvC fd s.heap.objs.size a)) (execs fn.body (callEnvC fd s.heap.objs.size a)) (fun f s' => Q (match f with | .ret v => v | _ => .none) s')
    (fun e s' => wpAny (model prog w) (A.deeper (callEnvC fd s.heap.objs.size a)) (leaving (callEnvC fd s.heap.objs.size a) e) (fun ya s'' => E e s'') (fun e' s'' => E e' s'') s') (At s H₁ tk₁)) →
   wpAny (model prog w) A (call (.ref a) vals) Q E s := fun hq => by
  refine wpAny_call (codeAny_call_cells (binds := fn.params.zip vals) (by have := hA.depth; (first | lia | omega)) (i.base _ _ ho) hd ((H frs).B.nolimit.keeps i.base) (hcd.keeps i.base) ok.body (ok.binds vals hvl) ok.clo (fun y hy => ?_) (fun s₁ x => ?_) ok.co ok.gen ok.kind)
  ·have hp : y.1 ∈ fn.params := zip_fst_mem (List.mem_map.mpr ⟨y, hy, rfl⟩)
   rw [ok.names]
   rcases ok.pkind y.1 hp with h | h
   ·exact .inl h
   ·exact .inr ⟨h, cellsFrom_some _ _ _ (.inl h)⟩
  ·have F := callFrm ok i r x
   obtain ⟨H₁, tk₁, rfl⟩ := x.toInCall.same
   have hk : ∀ b o, s.heap.get? b = some o → H₁.get? b = some o := x.toInCall.keep
   have dead : ∀ b ∈ frameW (callEnvC fd s.heap.objs.size a), s.heap.get? b = none := fun b hb => by
    have hge : s.heap.objs.size ≤ b := by
     rcases List.mem_cons.mp hb with rfl | hb
     ·exact Nat.le_refl _
     ·obtain ⟨⟨y, k⟩, _, hc⟩ := List.mem_filterMap.mp hb
      exact Nat.le_of_lt (x.above y b (mem_of_lookup hc))
    cases e : s.heap.get? b with
    | none => rfl
    | some o => exact absurd (Heap.lt_size e) (Nat.not_lt.mpr hge)
   have dead0 : ∀ b ∈ frameW (callEnvC fd s.heap.objs.size a), hh.get? b = none := fun b hb => by
    cases e : hh.get? b with
    | none => rfl
    | some o => have := i.base _ _ e; rw [dead b hb] at this; cases this
   have i₁ : Inv ⟨prog, w, hh, callEnvC fd s.heap.objs.size a :: frs⟩ σ ρ H₁ := (i.keeps hk).base' fun e he => by
    rcases List.mem_cons.mp he with rfl | he
    ·obtain ⟨ob, e1, e2⟩ := ns_dict x.toInCall.ns
     exact ⟨by show fd.scope.kind ≠ _; rw [ok.kind]; decide, _, ob, rfl, e1, e2, F.offL, dead0 _ (List.mem_cons_self ..)⟩
    ·exact (i.keeps hk).up e he
   exact hq H₁ tk₁ dead hk (exs_ok fn.body (H _) (callEnvC fd s.heap.objs.size a) fn.names (initLoc fn.params args fn.names) σ ρ (At s H₁ tk₁) (A.deeper (callEnvC fd s.heap.objs.size a)) hA.deeper dead0 F i₁)
 cases h1 : exs C fn.body fn.names (initLoc fn.params args fn.names) σ with
 | bad => rw [bind_bad h1]; exact trivial
 | exc e σ' =>
  rw [bind_exc h1]
  refine go fun H₁ tk₁ dead hk hs => ?_
  rw [h1] at hs
  refine wpAny_mono hs (fun ya yb f => f.elim) fun ev s' hp => ?_
  obtain ⟨ρ', H', tk', rfl, i', x', re⟩ := hp
  have hx : Ext [] ρ s.heap ρ' H' := ((Ext.of_keeps hk).trans x').weak fun b hb => .inr (dead b hb)
  refine wpAny_bind (note_ok (s := (At s H' tk')) hA.deeper ⟨_, List.mem_cons_self .., rfl⟩ i' re fun h₂ i₂ x₂ ya => ?_)
  exact setFlight_ok (s := (At s h₂ tk')) i₂ re fun h₃ i₃ x₃ ya => ⟨ρ', h₃, tk', rfl, i₃.pop, (hx.trans x₂).trans x₃, re⟩
 | ok res σ' =>
  rw [bind_ok h1]
  refine go fun H₁ tk₁ dead hk hs => ?_
  rw [h1] at hs
  refine wpAny_mono hs (fun fl s' hp => ?_) fun ya yb f => f.elim
  obtain ⟨ρ', H', tk', rfl, i', x', rf, F'⟩ := hp
  have hx : Ext [] ρ s.heap ρ' H' := ((Ext.of_keeps hk).trans x').weak fun b hb => .inr (dead b hb)
  obtain ⟨fl', loc'⟩ := res
  cases fl' with
  | next => cases rf; exact ⟨ρ', H', tk', rfl, i'.pop, hx, .none⟩
  | brk => cases rf; exact ⟨ρ', H', tk', rfl, i'.pop, hx, .none⟩
  | cont => cases rf; exact ⟨ρ', H', tk', rfl, i'.pop, hx, .none⟩
  | ret v =>
   obtain ⟨val, rfl, rv⟩ := rf
   exact ⟨ρ', H', tk', rfl, i'.pop, hx, rv⟩
theorem callN_ok (B : Base tx mg mb hh) (hns : NoShadow tx) : ∀ (d : Nat) (q : Bool) (frs : List Env), CallS ⟨prog, w, hh, frs⟩ tx (cfgN tx d q) d
 | 0, _, _ => fun f fn a args vals σ ρ s A hA hf hm r i => trivial
 | d + 1, q, frs => fun f fn a args vals σ ρ s A hA hf hm r i => by
  show Sim ⟨prog, w, hh, frs⟩ A [] _ (callN tx (d + 1) q f args σ) RV ρ s
  unfold callN
  rw [hf]
  exact callFn_ok (C := cfgN tx d q) (fun frs => ⟨B, fun ya => rfl, rfl, hns, callN_ok B hns d q frs, rfl, callN_ok B hns d false frs, rfl⟩) hm hA r i
end
end Mine.Internal

set_option backward.match.sparseCases false
namespace Mine.Internal
open PySem PySem.W PyProof.Rows
theorem zip_find : ∀ {ps : List Str} {vals : List Value}, ps.Nodup → vals.length = ps.length → (ps.filterMap fun n => ((ps.zip vals).lookup n).map (n, ·)) = ps.zip vals := by
 intro ps vals hn hl
 have key : ∀ (pre : List (Str × Value)) (ps : List Str) (vals : List Value), ps.Nodup → vals.length = ps.length → (∀ x ∈ ps, pre.lookup x = none) → (ps.filterMap fun n => ((pre ++ ps.zip vals).lookup n).map (n, ·)) = ps.zip vals := by
  intro pre ps
  induction ps generalizing pre with
  | nil => intro vals _ _ _; rfl
  | cons p ps ih =>
   intro vals hn hl hp
   cases vals with
   | nil => cases hl
   | cons v vs =>
    rw [List.nodup_cons] at hn
    have e1 : (pre ++ (p :: ps).zip (v :: vs)).lookup p = some v := by
     rw [List.lookup_append, hp p (List.mem_cons_self ..), List.zip_cons_cons, List.lookup_cons, beq_self_eq_true]; rfl
    rw [List.filterMap_cons, e1]
    dsimp only [Option.map]
    rw [List.zip_cons_cons]
    congr 1
    have := ih (pre ++ [(p, v)]) vs hn.2 (by simpa using hl) (fun x hx => by
     rw [List.lookup_append, hp x (List.mem_cons_of_mem _ hx), List.lookup_cons]
     have : (x == p) = false := by
      cases e : x == p with
      | false => rfl
      | true => rw [beq_iff_eq.mp e] at hx; exact absurd hx hn.1
     rw [this]; rfl)
    rw [List.append_assoc] at this
    exact this
 exact key [] ps vals hn hl (fun ya yb => rfl)
theorem bp1 {α β : Type} {x : α} {m : Sem α} {f : α → Sem β} {r : Sem β} (hm : m = pure x) (h : f x = r) : (m >>= f) = r := by rw [hm, pure_bind]; exact h
theorem bp2 {β : Type} {c : Prop} [Decidable c] {a b r : Sem β} (hc : ¬c) (h : b = r) : (if c then a else b) = r := by rw [if_neg hc]; exact h
theorem bind_plain {name qual : Str} {as : List Arg} {body : List Stmt} {scope : Scope} {pm code doc : Value} {vals : List Value} (hn : (as.map (·.arg)).Nodup) (hl : vals.length = (as.map (·.arg)).length) :
  bindArgs (methDef name qual ⟨[], as, none, [], [], none, []⟩ body scope pm code doc) ⟨vals, []⟩ = pure ((as.map (·.arg)).zip vals) := by
 have hm : ((as.map (·.arg)).filter fun n => (((as.map (·.arg)).zip vals).lookup n).isNone) = [] := by
  rw [List.filter_eq_nil_iff]
  intro n hn'
  have : ∀ (ps : List Str) (vals : List Value), n ∈ ps → vals.length = ps.length → ((ps.zip vals).lookup n).isNone = false := by
   intro ps
   induction ps with
   | nil => intro _ h; cases h
   | cons p ps ih =>
    intro vals h hl
    cases vals with
    | nil => cases hl
    | cons v vs =>
     rw [List.zip_cons_cons, List.lookup_cons]
     cases e : n == p with
     | true => rfl
     | false =>
      rcases List.mem_cons.mp h with h | h
      ·rw [h, beq_self_eq_true] at e; cases e
      ·exact ih vs h (by simpa using hl)
  rw [this _ _ hn' hl]; decide
 have hs : seqItems? .none = (Pure.pure none : Sem (Option (Array Value))) := by kernel_rfl
 have hd : ∀ k, (([] : List Value).drop k) = [] := fun k => List.drop_nil
 refine bp1 (x := ((as.map (·.arg)).zip vals, [])) rfl (bp1 hs (bp2 ?_ (bp2 ?_ (bp1 (x := (as.map (·.arg)).zip vals) ?_ (bp1 (x := ((as.map (·.arg)).zip vals, [])) rfl (bp2 ?_ ?_))))))
 ·show ¬((decide (vals.length > (as.map (·.arg)).length) && true) = true)
  rw [hl]; simp
 ·show ¬((!(((as.map fun x : Arg => x.arg).take ((as.map fun x : Arg => x.arg).length - (([] : List Value).drop (0 - (as.map fun x : Arg => x.arg).length)).length)).filter fun n => (((as.map fun x : Arg => x.arg).zip vals).lookup n).isNone).isEmpty) = true)
  rw [hd, List.length_nil, Nat.sub_zero, List.take_length, hm]; simp
 ·show (forIn (List.zip _ (([] : List Value).drop _)) _ _ : Sem (List (Str × Value))) = _
  rw [hd, List.zip_nil_right]; rfl
 ·exact nofun
 ·show pure (((as.map fun x : Arg => x.arg) ++ []).filterMap fun n => (((as.map fun x : Arg => x.arg).zip vals).lookup n).map (n, ·)) = _
  rw [List.append_nil, zip_find hn hl]
noncomputable def sigOk (params : Arguments) (scope : Scope) : Bool :=
 (params.posonlyargs.isEmpty && params.vararg.isNone && params.kwonlyargs.isEmpty && params.kw_defaults.isEmpty && params.kwarg.isNone && params.defaults.isEmpty) && (match scope.kind with | .function => true | _ => false) && !scope.isCoroutine && !scope.isGenerator &&
 decide (params.args.map (·.arg)).Nodup && (params.args.map (·.arg)).all fun x => match scope.names.lookup x with | some .local => true | some .cell => true | _ => false
noncomputable def recOk (d : DefRec) : Bool := sigOk d.params d.scope
theorem sig_fd {name qual : Str} {params : Arguments} {body : List Stmt} {scope : Scope} {pm code doc : Value} (h : sigOk params scope = true) : FdOk (methDef name qual params body scope pm code doc) ⟨params.args.map (·.arg), scope.names, body⟩ := by
 unfold sigOk at h
 simp only [Bool.and_eq_true] at h
 obtain ⟨⟨⟨⟨⟨h1, h2⟩, h3⟩, h4⟩, h5⟩, h6⟩ := h
 obtain ⟨po, as, va, ko, kd, kw, df⟩ := params
 simp only [Bool.and_eq_true, List.isEmpty_iff, Option.isNone_iff_eq_none] at h1
 obtain ⟨⟨⟨⟨⟨rfl, rfl⟩, rfl⟩, rfl⟩, rfl⟩, rfl⟩ := h1
 have hn : (as.map (·.arg)).Nodup := of_decide_eq_true h5
 exact {
  body := rfl
  names := rfl
  kind := by
   show scope.kind = .function
   split at h2
   ·assumption
   ·cases h2
  co := by show scope.isCoroutine = false; simpa using h3
  gen := by show scope.isGenerator = false; simpa using h4
  clo := rfl
  globals := rfl
  blts := rfl
  binds := fun vals hl => bind_plain hn hl
  pkind := fun x hx => by
   have := List.all_eq_true.mp h6 x hx
   show scope.names.lookup x = some .local ∨ scope.names.lookup x = some .cell
   split at this
   ·left; assumption
   ·right; assumption
   ·cases this
  nodup := hn }
noncomputable def bltFree (q : Program) (loose : List Str) : Bool := bltNames.all fun x => !startupNames.contains x && !loose.contains x && !((recsOf q).map (·.name)).contains x && !((litsOf q).map (·.1)).contains x && !((clssOf q loose).map (·.name)).contains x
theorem lookup_map {x : Str} {fn : Fn} : ∀ {ds : List DefRec}, (ds.map defOf).lookup x = some fn → ∃ d ∈ ds, d.name = x ∧ (defOf d).2 = fn
 | [], h => by cases h
 | d :: ds, h => by
  rw [List.map_cons] at h
  unfold defOf at h
  rw [List.lookup_cons] at h
  split at h
  ·rename_i e
   cases h
   exact ⟨d, List.mem_cons_self .., (beq_iff_eq.mp e).symm, rfl⟩
  ·obtain ⟨d', hd, r⟩ := lookup_map (ds := ds) h
   exact ⟨d', List.mem_cons_of_mem _ hd, r⟩
theorem intOf_is {v : V} {a : Int} (h : intOf v = some a) : v = .int a := by
 cases v with
 | int _ => cases h; rfl
 | _ => cases h
theorem strOf_is {v : V} {a : Str} (h : strOf v = some a) : v = .str a := by
 cases v with
 | str _ => cases h; rfl
 | _ => cases h
theorem sameV_is {o : Option V} {v : V} (h : sameV o v = true) : o = some v := by
 unfold sameV at h
 rw [Bool.or_eq_true, Bool.and_eq_true, Bool.and_eq_true, beq_iff_eq, beq_iff_eq] at h
 rcases h with ⟨h1, h2⟩ | ⟨h1, h2⟩
 ·obtain ⟨a, ha⟩ := Option.isSome_iff_exists.mp h1
  rw [ha] at h2
  obtain ⟨u, rfl, hu⟩ := Option.bind_eq_some_iff.mp h2
  rw [intOf_is ha, intOf_is hu]
 ·obtain ⟨a, ha⟩ := Option.isSome_iff_exists.mp h1
  rw [ha] at h2
  obtain ⟨u, rfl, hu⟩ := Option.bind_eq_some_iff.mp h2
  rw [strOf_is ha, strOf_is hu]
noncomputable def xOk (h : Heap) (name : Str) : Bool := match h.clsAt mainGlobals name with
 | some (_, _, cd) => xNames.all fun n => (h.nsMap cd.ns n).isNone
 | none => false
theorem xcls_of {h : Heap} {name : Str} {chain : List Str} (x : h.ownExcOk name chain bmV "ValueError.__new__" = true) (y : xOk h name = true) :
  ∃ C, h.nsMap mainGlobals name = some (.ref C) ∧ ∃ f : XF, h.get? C = some (f.obj C ((chain.map fun n => (h.nsMap mainGlobals n).getD .none) ++ bmV)) ∧ ∃ mN, h.Ns f.N mN ∧ ∀ n ∈ xNames, mN n = none := by
 obtain ⟨C, N, nm, q, bs, hdct, sn, sub, ab, col, dd, k0, k1, k2, k3, k5, hb, hC, hN, _⟩ := Heap.ownExc_of_ok x
 refine ⟨C, hb, ⟨nm, q, N, bs, hdct, sn, sub, ab, col, dd, k0, k1, k2, k3, k5⟩, hC, _, hN, ?_⟩
 intro n hn
 unfold xOk at y
 cases hf : h.clsAt mainGlobals name with
 | none => rw [hf] at y; cases y
 | some z =>
  obtain ⟨C', o', cd'⟩ := z
  rw [hf] at y
  obtain ⟨hn', ho', hd'⟩ := Heap.clsAt_spec hf
  rw [hb] at hn'
  obtain rfl : C = C' := by injection hn' with q1; injection q1
  rw [hC] at ho'
  obtain rfl := Option.some.inj ho'
  obtain rfl : _ = cd' := by injection hd'
  exact Option.isNone_iff_eq_none.mp (List.all_eq_true.mp y n hn)
noncomputable def chainOf (us : List Str) : List Str := us.tail.dropLast
noncomputable def clsOk (tab : List (Str × List Str)) (h : Heap) (c : Str) (us : List Str) : Bool := h.ownExcOk c (chainOf us) bmV "ValueError.__new__" && (xOk h c && ((chainOf us).all (fun n => tab.any (fun p => p.1 == n)) && (us.contains "ValueError" &&
 tab.all fun t => (((h.nsMap mainGlobals c).getD .none :: (((chainOf us).map fun n => (h.nsMap mainGlobals n).getD .none) ++ bmV)).contains ((h.nsMap mainGlobals t.1).getD .none)) == us.contains t.1)))
noncomputable def upsOk (tab : List (Str × List Str)) (h : Heap) : Bool := h.isNs mainGlobals && tab.all fun p => clsOk tab h p.1 p.2
noncomputable def UpsAt (tab : List (Str × List Str)) (mg : Str → Option Value) (h : Heap) : Prop := ∀ c us, upsT tab c = some us → ∃ C bm, mg c = some (.ref C) ∧ XCls h C bm ∧ (Value.ref C :: bm).contains (.type "ValueError") = us.contains "ValueError" ∧ ∀ t ut D, upsT tab t = some ut → mg t = some (.ref D) → (Value.ref C :: bm).contains (.ref D) = us.contains t
theorem upsAt_of {tab : List (Str × List Str)} {h : Heap} (x : upsOk tab h = true) : h.Ns mainGlobals (h.nsMap mainGlobals) ∧ UpsAt tab (h.nsMap mainGlobals) h := by
 unfold upsOk at x
 rw [Bool.and_eq_true] at x
 refine ⟨.of_isNs x.1, ?_⟩
 have all := List.all_eq_true.mp x.2
 have tail : ∀ l : List Str, (l.all fun n => tab.any (fun p => p.1 == n)) = true → XTail h ((l.map fun n => (h.nsMap mainGlobals n).getD .none) ++ bmV) := fun l => by
  induction l with
  | nil => exact fun ya => .base
  | cons n r ih =>
   intro hl
   rw [List.all_cons, Bool.and_eq_true] at hl
   obtain ⟨p, hp, e⟩ := List.any_eq_true.mp hl.1
   have hc := all p hp
   rw [beq_iff_eq.mp e] at hc
   unfold clsOk at hc
   rw [Bool.and_eq_true, Bool.and_eq_true] at hc
   obtain ⟨C, hb, f, hC, mN, hN, hm⟩ := xcls_of hc.1 hc.2.1
   rw [List.map_cons, hb]
   exact .own hC hN hm (ih hl.2)
 intro c us hus
 have hc := all (c, us) (mem_of_lookup hus)
 unfold clsOk at hc
 simp only [Bool.and_eq_true] at hc
 obtain ⟨h1, h2, h3, h4, h5⟩ := hc
 obtain ⟨C, hb, ho⟩ := xcls_of h1 h2
 have X : XCls h C (((chainOf us).map fun n => (h.nsMap mainGlobals n).getD .none) ++ bmV) := ⟨tail _ h3, ho⟩
 refine ⟨C, _, hb, X, ?_, fun t ut D ht hD => ?_⟩
 ·rw [X.has (b := true) (by decide +kernel), h4]
 ·have := beq_iff_eq.mp (List.all_eq_true.mp h5 (t, ut) (mem_of_lookup ht))
  rw [hb, hD] at this
  exact this
theorem ns_same {h : Heap} {a : Addr} {m m' : Str → Option Value} (x : h.Ns a m) (y : h.Ns a m') : m = m' := by
 obtain ⟨o, es, ep, h1, h2, _, h3⟩ := x
 obtain ⟨o', es', ep', h1', h2', _, h3'⟩ := y
 rw [h1] at h1'; cases h1'
 rw [h2] at h2'; cases h2'
 funext z
 rw [← h3, h3']
noncomputable def UpsSay (tab : List (Str × List Str)) (h : Heap) : Prop := ∃ mg, h.Ns mainGlobals mg ∧ UpsAt tab mg h
noncomputable def upsHook (tab : List (Str × List Str)) : Hook where
 α := Bool
 obs := fun s => upsOk tab s.heap
 val := fun ya => true
 says := fun ya h => UpsSay tab h
 of := fun ya s e => ⟨_, (upsAt_of e).1, (upsAt_of e).2⟩
 keeps := fun _ h h' ⟨mg, x, y⟩ hk => ⟨mg, x.keeps hk, fun c us hus => let ⟨C, bm, h1, h2, h3⟩ := y c us hus; ⟨C, bm, h1, h2.keeps hk, h3⟩⟩
noncomputable def noObj (f : Str) : Bool := match fastLookup "object" f with
 | some none => true
 | _ => false
noncomputable def ownOk (q : Program) (loose : List Str) (cs : List (Str × List Str × List Str)) : Bool := cs.all fun p => (plainsOf q loose).any fun r => (r.name == p.1 && p.2.1.contains "__init__") && (p.2.1.all fun m => r.meths.any fun mr => mr.name == m && sigOk mr.params mr.scope) && p.2.2.all fun f => r.statics.contains f && noObj f
theorem base_of {q : Program} {loose : List Str} {mean : ExcName → Option Value} {mg mb : Str → Option Value} {h : Heap} {tab mtab : List (Str × Fn)} {gs : List (Str × V)} {us : List (Str × List Str)} {cs : List (Str × List Str × List Str)} (Y : UpsSay us h) (T : Top q loose mean mg mb h) (TE : TopE q loose mg h) (hgl : globOk q gs = true) (he : defsV q = tab) (hr : (recsOf q).all recOk = true) (hb : bltFree q loose = true)
  (hc : ownOk q loose cs = true) (hm : (pairsM q loose).map (fun p => (tabsOf tab mtab gs us cs).at (methName p.1.name p.2.name)) = (pairsM q loose).map fun p => some (methFn p.2)) :
  Base (tabsOf tab mtab gs us cs) mg mb h where
 own := fun c ms hms => by
  have hc := List.all_eq_true.mp hc (c, ms) (mem_of_lookup hms)
  obtain ⟨r, hr', hc⟩ := List.any_eq_true.mp hc
  simp only [Bool.and_eq_true] at hc
  obtain ⟨⟨⟨h1, h2⟩, h3⟩, h4⟩ := hc
  have h1 : r.name = c := eq_of_beq h1
  subst h1
  obtain ⟨C, N, mN, hg, P⟩ := TE.topC r hr'
  refine ⟨C, N, mN, hg, P.cls, P.quiet _ (List.mem_append_left _ (by decide)), P.quiet _ (List.mem_append_left _ (by decide)), P.quiet _ (List.mem_append_left _ (by decide)), fun f hf => ?_, List.contains_iff_mem.mp h2, fun m hm' => ?_⟩
  ·have := List.all_eq_true.mp h4 f hf
   rw [Bool.and_eq_true] at this
   refine ⟨P.quiet f (List.mem_append_right _ (List.contains_iff_mem.mp this.1)), ?_⟩
   rw [typeLookup_type, builtinLookup_eq_fast]
   have := this.2
   unfold noObj at this
   cases e : fastLookup "object" f with
   | none => rw [e] at this; cases this
   | some y => cases y with
    | none => rfl
    | some _ => rw [e] at this; cases this
  ·obtain ⟨mr, hmr, h5⟩ := List.any_eq_true.mp (List.all_eq_true.mp h3 m hm')
   rw [Bool.and_eq_true] at h5
   have h6 : mr.name = m := eq_of_beq h5.1
   subst h6
   obtain ⟨f, o, pm, cd, doc, q1, q2, q3, q4, q5⟩ := P.meths mr hmr
   refine ⟨f, methFn mr, o, q1, ?_, ⟨o, _, q2, q4, sig_fd h5.2, q5⟩, q2, q3⟩
   exact List.map_inj_left.mp hm (r, mr) (List.mem_flatMap.mpr ⟨r, hr', List.mem_map.mpr ⟨mr, hmr, rfl⟩⟩)
 cls := fun c u hu => by
  obtain ⟨m, hn, y⟩ := Y
  rw [ns_same T.g hn]
  exact y c u hu
 g := T.g
 b := T.b
 nolimit := T.nolimit
 fn := fun f fn hf => by
  subst he
  obtain ⟨d, hd, rfl, rfl⟩ := lookup_map hf
  obtain ⟨a, o, pm, code, doc, h1, h2, h3, h4⟩ := T.fn d hd
  exact ⟨a, h1, o, _, h2, h3, sig_fd (List.all_eq_true.mp hr d hd), h4⟩
 blt := fun f hf hn => by
  have := List.all_eq_true.mp hb f hf
  simp only [Bool.and_eq_true, Bool.not_eq_true'] at this
  obtain ⟨⟨⟨⟨h1, h2⟩, h3⟩, h4⟩, h5⟩ := this
  have nc : ∀ {l : List Str}, l.contains f = false → f ∉ l := fun h hm => by
   rw [List.contains_iff_mem.mpr hm] at h; cases h
  exact ⟨T.free f (nc h1) (nc h2) (nc h3) (nc h4) (nc h5), T.builtins f (by
   intro e; subst e
   exact absurd h1 (by decide +kernel))⟩
 const := fun x v hx => by
  have hx : globV q x = some v := sameV_is (List.all_eq_true.mp hgl _ (mem_of_lookup (show gs.lookup x = some v from hx)))
  obtain ⟨d, h1, h2⟩ := Option.bind_eq_some_iff.mp hx
  obtain ⟨val, hm, hr⟩ := T.const x d h1
  refine ⟨val, hm, fun ρ h' => ?_⟩
  have hr := hr h'
  cases d with
  | none => cases h2; cases hr; exact .none
  | bool b => cases h2; cases hr; exact .bool b
  | int i => cases h2; cases hr; exact .int i _
  | str s =>
   have h2 : (if SOk s then some (V.str s) else none) = some v := h2
   split at h2
   ·rename_i hs; cases h2; cases hr; exact .str s _ hs
   ·cases h2
  | _ => cases h2
theorem ints_rel {ρ : Map} {h : Heap} {vs : List Value} {zs : List Int} (q : IntsAre vs zs) : RelAll ρ h vs (zs.map .int) := by
 induction q with
 | nil => exact .nil
 | cons i t _ ih => exact .cons (.int i t) ih
theorem law_run {prog : Program} {w : World} {mg mb : Str → Option Value} {s₁ : Shared} {fa la : Addr} {vs : List Value} {n d : Nat} {zs : List Int} {A : Around} {tx : Tabs} (B : Base tx mg mb s₁.heap) (hns : bltNames.all (fun x => (tx.fns x).isNone) = true) (hm : mg "law" = some (.ref fa))
  (hf : (tx.fns "law").isSome = true) (hl : s₁.heap.get? la = some (listO vs n)) (hI : IntsAre vs zs) (hlen : zs.length ≤ 63) (ok : LawOk tx d) (hA : Rm ⟨prog, w, s₁.heap, []⟩ A d true) :
  wpAny (model prog w) A (call (.ref fa) [.ref la]) (fun v s' => v = .bool true ∧ (∀ b o, s₁.heap.get? b = some o → s'.heap.get? b = some o) ∧ s'.os = s₁.os ∧ s'.gens = s₁.gens) (fun ya yb => False) s₁ := by
 obtain ⟨σ', hok⟩ := ok zs hlen
 have hns' : NoShadow tx := fun f hf => by
  have := List.all_eq_true.mp hns f hf
  cases e : tx.fns f with
  | none => rfl
  | some _ => rw [e] at this; cases this
 have hvl : vs.length ≤ sizeLine := by
  have h1 : ∀ {vs : List Value} {zs : List Int}, IntsAre vs zs → vs.length = zs.length := by
   intro vs zs h
   induction h with
   | nil => rfl
   | cons _ _ _ ih => simp [ih]
  rw [h1 hI]
  exact Nat.le_trans hlen (by decide)
 have hinv : Inv ⟨prog, w, s₁.heap, []⟩ [.list (zs.map .int)] [(la, 0)] s₁.heap :=
  {base := fun ya yb e => e
   len := rfl
   objs := fun k o p e1 e2 => by
    cases k with
    | zero => cases e1; cases e2; exact ⟨vs, n, hl, hvl, ints_rel hI⟩
    | succ k => cases e2
   fresh := fun k p e hk => by
    cases k with
    | zero => cases hk
    | succ k => cases e
   apart := fun i j p q e1 e2 hij => by
    cases i with
    | zero =>
     cases j with
     | zero => exact absurd rfl hij
     | succ j => cases e2
    | succ i => cases e1
   up := fun e he => absurd he List.not_mem_nil }
 obtain ⟨fn, hfn⟩ := Option.isSome_iff_exists.mp hf
 obtain ⟨fa', hm', ok'⟩ := B.fn _ fn hfn
 rw [hm] at hm'; cases hm'
 have := callN_ok (prog := prog) (w := w) B hns' d true [] "law" fn fa [.ref 0] [.ref la] _ _ s₁ A hA.weak (by unfold Tabs.at; rw [hfn]; rfl) ok' (.cons (.ref (d := 0) rfl) .nil) hinv
 rw [show (cfgN tx d true).call "law" [.ref 0] [.list (zs.map .int)] = .ok (.bool true) σ' from hok] at this
 refine wpAny_mono this (fun v s' hp => ?_) fun ya yb f => f
 obtain ⟨ρ', h', tk, rfl, i, x, r⟩ := hp
 cases r
 exact ⟨rfl, i.base, rfl, rfl⟩
theorem list_at {P : Params} {h : Heap} {la : Addr} {vs : List Value} {xs : List WData} (hL : h.IsList la vs.toArray) (hw : Well P h (.ref la) (.list xs)) : h.get? la = some (listO vs 0) := by
 cases hw with
 | list hget _ =>
  obtain ⟨ob, hob, _, nn, hdat⟩ := hL
  rw [hget] at hob
  cases hob
  have e : _ = vs.toArray := (Data.seq.inj hdat).1
  rw [hget, e]; rfl
theorem room_caller {prog : Program} {w : World} {hh : Heap} {d : Nat} (h : d ≤ 200) : Rm ⟨prog, w, hh, []⟩ callerA d true where
 handled := fun ya => rfl
 frames := rfl
 depth := by
  show 1 + claimMargin + 2 * d < recursionLimit
  have : 1 + claimMargin + 2 * 200 < recursionLimit := by decide
  (first | lia | omega)
 units := by
  show 4 + 16 * d + 300 < cLine
  have : (4 : Nat) + 16 * 200 + 300 < cLine := by decide
  (first | lia | omega)
end Mine.Internal

set_option backward.match.sparseCases false
namespace Mine.Internal
open PySem
noncomputable def Wp {α : Type} (m : M α) (σ : Store) (Q : α → Store → Prop) : Prop := ∃ a σ', m σ = .ok a σ' ∧ Q a σ'
section
variable {α β : Type} {σ σ' : Store} {m n : M α} {f : α → M β} {a : α}
theorem Wp_ok {Q : α → Store → Prop} (h : m σ = .ok a σ') (q : Q a σ') : Wp m σ Q := ⟨a, σ', h, q⟩
theorem Wp_step {Q : β → Store → Prop} (h : m σ = .ok a σ') (k : Wp (f a) σ' Q) : Wp (m >>= f) σ Q :=
 let ⟨b, τ, e, q⟩ := k; ⟨b, τ, (bind_ok h).trans e, q⟩
theorem Wp.step {P : α → Store → Prop} {Q : β → Store → Prop} (h : Wp m σ P) (k : ∀ a σ', P a σ' → Wp (f a) σ' Q) : Wp (m >>= f) σ Q :=
 let ⟨a, σ₁, e, p⟩ := h; Wp_step e (k a σ₁ p)
theorem Wp.mono {Q Q' : α → Store → Prop} (h : Wp m σ Q) (hq : ∀ a σ', Q a σ' → Q' a σ') : Wp m σ Q' := let ⟨a, σ', e, q⟩ := h; ⟨a, σ', e, hq a σ' q⟩
theorem Wp_pure {Q : α → Store → Prop} (h : Q a σ) : Wp (Pure.pure a : M α) σ Q := ⟨a, σ, rfl, h⟩
theorem Wp_cond {Q : α → Store → Prop} {b : Bool} (h1 : b = true → Wp m σ Q) (h2 : b = false → Wp n σ Q) : Wp (M.cond b m n) σ Q := by
 cases b with
 | true => exact h1 rfl
 | false => exact h2 rfl
theorem Wp_yes {Q : α → Store → Prop} {b : Bool} (h : b = true) (k : Wp m σ Q) : Wp (M.cond b m n) σ Q := by subst h; exact k
theorem Wp_no {Q : α → Store → Prop} {b : Bool} (h : b = false) (k : Wp n σ Q) : Wp (M.cond b m n) σ Q := by subst h; exact k
theorem run_cond {b : Bool} : (M.cond b m n) σ = (cond b (m σ) (n σ)) := by cases b <;> rfl
noncomputable def Wx {α : Type} (m : M α) (σ : Store) (Q : α → Store → Prop) (E : V → Store → Prop) : Prop := Wp m σ Q ∨ ∃ e σ', m σ = .exc e σ' ∧ E e σ'
theorem Wx_step {Q : β → Store → Prop} {E : V → Store → Prop} (h : m σ = .ok a σ') (k : Wx (f a) σ' Q E) : Wx (m >>= f) σ Q E :=
 k.elim (fun k => .inl (Wp_step h k)) fun ⟨e, τ, h', q⟩ => .inr ⟨e, τ, (bind_ok h).trans h', q⟩
theorem Wx.step {P : α → Store → Prop} {Q : β → Store → Prop} {E : V → Store → Prop} (h : Wx m σ P E) (k : ∀ a σ', P a σ' → Wx (f a) σ' Q E) : Wx (m >>= f) σ Q E :=
 h.elim (fun ⟨a, σ₁, e, p⟩ => Wx_step e (k a σ₁ p)) fun ⟨e, τ, h', q⟩ => .inr ⟨e, τ, bind_exc h', q⟩
theorem Wp.stepX {P : α → Store → Prop} {Q : β → Store → Prop} {E : V → Store → Prop} (h : Wp m σ P) (k : ∀ a σ', P a σ' → Wx (f a) σ' Q E) : Wx (m >>= f) σ Q E := Wx.step (.inl h) k
theorem Wx.mono {Q Q' : α → Store → Prop} {E : V → Store → Prop} (h : Wx m σ Q E) (hq : ∀ a σ', Q a σ' → Q' a σ') : Wx m σ Q' E := h.elim (fun h => .inl (h.mono hq)) .inr
theorem Wx_throw {Q : α → Store → Prop} {E : V → Store → Prop} {o : O} (h : E (.ref σ.length) (σ ++ [o])) : Wx (newO o >>= fun e => (M.throw e : M α)) σ Q E := .inr ⟨_, _, rfl, h⟩
theorem r_mul {a b : Int} (h : Small a ∨ Small b) : binop .Mult (.int a) (.int b) σ = .ok (.int (a * b)) σ := by show (if Small a ∨ Small b then pure (V.int (a * b)) else M.bad : M V) σ = _; rw [if_pos h]; rfl
theorem r_mulR {a b : Int} (h : Small b) : binop .Mult (.int a) (.int b) σ = .ok (.int (a * b)) σ := r_mul (.inr h)
theorem r_mulL {a b : Int} (h : Small a) : binop .Mult (.int a) (.int b) σ = .ok (.int (a * b)) σ := r_mul (.inl h)
noncomputable def Lit (b : Int) : Prop := 0 < b ∧ b < 18446744073709551616
noncomputable instance (b : Int) : Decidable (Lit b) := inferInstanceAs (Decidable (_ ∧ _))
theorem r_div {a b : Int} (h : Lit b) : binop .FloorDiv (.int a) (.int b) σ = .ok (.int (a / b)) σ := by
 show (if b ≠ 0 ∧ Small b then pure (V.int (a.fdiv b)) else M.bad : M V) σ = _
 have h1 := h.1
 have h2 := h.2
 rw [if_pos ⟨by lia, by unfold Small; lia⟩, Int.fdiv_eq_ediv_of_nonneg a (by lia)]; rfl
theorem r_mod {a b : Int} (h : Lit b) : binop .Mod (.int a) (.int b) σ = .ok (.int (a % b)) σ := by
 show (if b ≠ 0 ∧ Small b then pure (V.int (a.fmod b)) else M.bad : M V) σ = _
 have h1 := h.1
 have h2 := h.2
 rw [if_pos ⟨by lia, by unfold Small; lia⟩, Int.fmod_eq_emod_of_nonneg a (by lia)]; rfl
variable {k : Nat} {l : List V} {v x : V} {i : Int}
theorem r_getO {o : O} (h : σ[k]? = some o) : getO k σ = .ok o σ := by rw [getO_eq, h]
theorem r_getList (h : σ[k]? = some (.list l)) : getList k σ = .ok l σ := by rw [getList_eq, h]
theorem place_pos {m : Nat} (h0 : 0 ≤ i) (h1 : i < m) : place i m = some i.toNat := by unfold place; rw [if_pos h0, if_pos h1]
theorem at_len (h0 : 0 ≤ i) (hx : l[i.toNat]? = some x) : i < l.length := by have := lt_of_get hx; lia
theorem r_itemT (h0 : 0 ≤ i) (hx : l[i.toNat]? = some x) : item (.tup l) (.int i) σ = .ok x σ := by
 show ofOpt ((place i l.length).bind fun j => l[j]?) σ = _
 rw [place_pos h0 (at_len h0 hx)]
 show ofOpt (l[i.toNat]?) σ = _
 rw [hx]; rfl
theorem r_item (h : σ[k]? = some (.list l)) (h0 : 0 ≤ i) (hx : l[i.toNat]? = some x) : item (.ref k) (.int i) σ = .ok x σ :=
 (bind_ok (r_getO h)).trans (r_itemT (σ := σ) h0 hx)
theorem r_item0 {r : List V} : item (.tup (x :: r)) (.int 0) σ = .ok x σ := r_itemT (by decide) rfl
theorem r_item1 {y : V} {r : List V} : item (.tup (y :: x :: r)) (.int 1) σ = .ok x σ := r_itemT (by decide) rfl
theorem r_item2 {y z : V} {r : List V} : item (.tup (z :: y :: x :: r)) (.int 2) σ = .ok x σ := r_itemT (by decide) rfl
theorem r_len (h : σ[k]? = some (.list l)) : bLen (.ref k) σ = .ok (.int l.length) σ := bind_ok (r_getList h)
theorem r_setItem (h : σ[k]? = some (.list l)) (hk : 0 < k) (h0 : 0 ≤ i) (h1 : i < l.length) : setItem (.ref k) (.int i) v σ = .ok () (σ.set k (.list (l.set i.toNat v))) := by
 refine (bind_ok (r_getO h)).trans ?_
 show (if 0 ≤ i ∧ i < l.length then setO k (.list (l.set i.toNat v)) else M.bad) σ = _
 rw [if_pos ⟨h0, h1⟩, setO_ok hk (lt_of_get h)]
theorem r_src (h : σ[k]? = some (.list l)) : srcV (.ref k) σ = .ok (.lst k) σ := bind_ok (r_getO h)
theorem r_range (h : -1000000 ≤ i ∧ i ≤ 1000000) : rangeOf (.int i) σ = .ok (.vals (rangeV 0 i)) σ := by
 show (if -1000000 ≤ i ∧ i ≤ 1000000 then pure (Src.vals (rangeV 0 i)) else M.bad : M Src) σ = _
 rw [if_pos h]; rfl
theorem r_range4 {m : Nat} (h : m ≤ 4) : rangeOf (.int m) σ = .ok (.vals (rangeV 0 m)) σ := r_range ⟨Int.le_trans (by decide) (Int.natCast_nonneg m), Int.le_trans (Int.ofNat_le.mpr h) (by decide)⟩
theorem r_list (h : σ[k]? = some (.list l)) : bList (.ref k) σ = .ok (.ref σ.length) (σ ++ [.list l]) := bind_ok (r_getList h)
theorem r_tuple (h : σ[k]? = some (.list l)) : bTuple (.ref k) σ = .ok (.tup l) σ := bind_ok (r_getList h)
theorem r_tagL {C : Cfg} (h : σ[k]? = some (.list l)) {t : Str} {g : MTag} (e : (if t = ("append" : Str) then some MTag.append else if t = ("index" : Str) then some MTag.index else none) = some g) : askS (mtag C (.ref k) t) σ = .ok g σ := by
 rw [askS_eq]
 have hl : isListAt σ k = true := by unfold isListAt; rw [h]
 have : mtag C (.ref k) t σ = some g := by
  show (if isListAt σ k = true then _ else _) = _
  rw [if_pos hl]; exact e
 rw [this]
theorem r_append {C : Cfg} {nm : Str} (h : σ[k]? = some (.list l)) (hk : 0 < k) (hl : l.length < sizeLine) : runM C nm .append (.ref k) [v] σ = .ok .none (σ.set k (.list (l ++ [v]))) := by
 refine (bind_ok (r_getList h)).trans ?_
 show (if l.length + 1 ≤ sizeLine then (setO k (.list (l ++ [v])) >>= fun ya => pure V.none) else M.bad) σ = _
 rw [if_pos (show l.length + 1 ≤ sizeLine from hl), bind_ok (setO_ok hk (lt_of_get h))]; rfl
theorem r_add {j : Nat} {m : List V} (h : σ[k]? = some (.list l)) (h' : σ[j]? = some (.list m)) (hl : l.length + m.length ≤ sizeLine) : binop .Add (.ref k) (.ref j) σ = .ok (.ref σ.length) (σ ++ [.list (l ++ m)]) := by
 refine (bind_ok (r_getList h)).trans ((bind_ok (r_getList h')).trans ?_)
 show (if l.length + m.length ≤ sizeLine then newO (.list (l ++ m)) else M.bad) σ = _
 rw [if_pos hl]; rfl
theorem r_slice {lo hi : Option Int} (h : σ[k]? = some (.list l)) : sliceV lo hi (.ref k) σ = .ok (.ref σ.length) (σ ++ [.list (cut l lo hi)]) := bind_ok (r_getList h)
theorem r_in {b : Bool} (h : σ[k]? = some (.list l)) (hv : vin σ x l = some b) : cmp .In x (.ref k) σ = .ok (.bool b) σ := by
 show (among x k >>= fun b => pure (V.bool b)) σ = _
 unfold among
 rw [M.assoc]
 refine (bind_ok (r_getO h)).trans (bind_ok (a := b) (σ' := σ) (by rw [askS_eq, hv]))
theorem r_notIn {b : Bool} (h : σ[k]? = some (.list l)) (hv : vin σ x l = some b) : cmp .NotIn x (.ref k) σ = .ok (.bool (!b)) σ := by
 show (among x k >>= fun b => pure (V.bool (!b))) σ = _
 unfold among
 rw [M.assoc]
 refine (bind_ok (r_getO h)).trans (bind_ok (a := b) (σ' := σ) (by rw [askS_eq, hv]))
theorem r_eq {y : V} {b : Bool} (h : veq σ x y = some b) : cmp .Eq x y σ = .ok (.bool b) σ := by show askS (fun σ => (veq σ x y).map V.bool) σ = _; rw [askS_eq, h]; rfl
theorem r_ne {y : V} {b : Bool} (h : veq σ x y = some b) : cmp .NotEq x y σ = .ok (.bool (!b)) σ := by show askS (fun σ => (veq σ x y).map fun e => V.bool (!e)) σ = _; rw [askS_eq, h]; rfl
theorem r_index {C : Cfg} {nm : Str} {j : Nat} (h : σ[k]? = some (.list l)) (hv : vin σ x l = some true) (hj : vidx σ x l 0 = some j) : runM C nm .index (.ref k) [x] σ = .ok (.int j) σ := by
 refine (bind_ok (r_getList h)).trans ?_
 rw [askS_eq, hv, hj]; rfl
theorem r_kdRef {t : Kd} (h : σ[k]? = some (.list l)) : isKd t (.ref k) σ = .ok (.bool (match t with | .list => true | _ => false)) σ := bind_ok (r_getList h)
theorem r_sorted {o : List V} (h : σ[k]? = some (.list l)) (h64 : l.length < 64) (hs : sortL l = some o) : bSorted (.ref k) σ = .ok (.ref σ.length) (σ ++ [.list o]) := by
 refine (bind_ok (r_getList h)).trans ?_
 rw [if_pos h64]
 exact bind_ok (a := o) (σ' := σ) (by rw [hs]; rfl)
theorem r_all {bs : List Bool} (h : σ[k]? = some (.list l)) (hs : allBools l = some bs) : bAll (.ref k) σ = .ok (.bool (bs.all id)) σ := (bind_ok (r_getList h)).trans (bind_ok (a := bs) (σ' := σ) (by rw [hs]; rfl))
variable {d : Nat} {t : Tab} {key : Key}
theorem r_itemD (h : σ[k]? = some (.dict d t)) (hb : keyOf v = some key) (hx : dGet t key = some x) : item (.ref k) v σ = .ok x σ := by
 have e : item (.ref k) v = (getO k >>= fun o => match o with | .list l => itemL l v | .dict _ l => ofOpt ((keyOf v).bind (dGet l)) | _ => M.bad) := by cases v <;> rfl
 rw [e]
 refine (bind_ok (r_getO h)).trans ?_
 show ofOpt ((keyOf v).bind (dGet t)) σ = _
 rw [hb]
 show ofOpt (dGet t key) σ = _
 rw [hx]; rfl
theorem r_setD (h : σ[k]? = some (.dict d t)) (hk : 0 < k) (hb : keyOf v = some key) (hl : t.length < sizeLine) : setItem (.ref k) v x σ = .ok () (σ.set k (.dict (d + 1) (dSet t key x))) := by
 refine (bind_ok (r_getO h)).trans ?_
 show setD k t v x σ = _
 unfold setD
 rw [hb]
 show (if t.length + 1 ≤ sizeLine then putD k (dSet t key x) else M.bad) σ = _
 rw [if_pos (show t.length + 1 ≤ sizeLine from hl), putD_ok hk h]
theorem r_inD (h : σ[k]? = some (.dict d t)) (hb : keyOf v = some key) : cmp .In v (.ref k) σ = .ok (.bool (dGet t key).isSome) σ := by
 show (among v k >>= fun b => pure (V.bool b)) σ = _
 unfold among
 rw [M.assoc]
 refine (bind_ok (r_getO h)).trans ?_
 show (ofOpt ((keyOf v).map fun k => (dGet t k).isSome) >>= fun b => (pure (V.bool b) : M V)) σ = _
 rw [hb]; rfl
theorem r_notInD (h : σ[k]? = some (.dict d t)) (hb : keyOf v = some key) : cmp .NotIn v (.ref k) σ = .ok (.bool (!(dGet t key).isSome)) σ := by
 show (among v k >>= fun b => pure (V.bool (!b))) σ = _
 unfold among
 rw [M.assoc]
 refine (bind_ok (r_getO h)).trans ?_
 show (ofOpt ((keyOf v).map fun k => (dGet t k).isSome) >>= fun b => (pure (V.bool (!b)) : M V)) σ = _
 rw [hb]; rfl
theorem r_dictT (ht : pairsOf l = some t) : bDict (.tup l) σ = .ok (.ref σ.length) (σ ++ [.dict 0 (dMerge [] t)]) := bind_ok (a := t) (σ' := σ) (by rw [ht]; rfl)
variable {C : Cfg} {c nm : Str} {j : Nat} {fs : List (Str × V)} {ms : List Str × List Str}
theorem r_attr (h : σ[k]? = some (.inst c j)) (h' : σ[j]? = some (.flds fs)) (hc : C.cls c = some ms) (hm : ms.2.contains nm = true) (hv : fs.lookup nm = some v) : attrV C nm (.ref k) σ = .ok v σ := by
 show askS (fun σ => (instAt σ k).bind fun c => (C.cls c).bind fun ms => if ms.2.contains nm then (fldsAt σ k).bind fun l => l.lookup nm else none) σ = _
 have e1 : instAt σ k = some c := by unfold instAt; rw [h]
 have e2 : fldsAt σ k = some fs := by unfold fldsAt; rw [h]; dsimp only; rw [h']
 rw [askS_eq, e1, e2]
 dsimp only [Option.bind]
 rw [hc]
 dsimp only
 rw [if_pos hm, hv]
theorem r_tagO (h : σ[k]? = some (.inst c j)) (h' : σ[j]? = some (.flds fs)) (hc : C.cls c = some ms) (hm : (ms.1.contains nm && (fs.lookup nm).isNone) = true) : askS (mtag C (.ref k) nm) σ = .ok (.own c) σ := by
 have e1 : instAt σ k = some c := by unfold instAt; rw [h]
 have e2 : fldsAt σ k = some fs := by unfold fldsAt; rw [h]; dsimp only; rw [h']
 have e3 : ¬isListAt σ k = true := by unfold isListAt; rw [h]; exact Bool.false_ne_true
 have e4 : ownM C nm σ k = some c := by
  unfold ownM
  rw [e1, e2]
  dsimp only [Option.bind]
  rw [hc]
  dsimp only
  rw [if_pos hm]
 have : mtag C (.ref k) nm σ = some (.own c) := by
  show (if isListAt σ k = true then _ else (ownM C nm σ k).map MTag.own) = _
  rw [if_neg e3, e4]; rfl
 rw [askS_eq, this]
end
section
variable {C : Cfg} {target elt : Expr} {body : List Stmt} {ifs : List Expr} {scope : Scope} {ns : Names} {σ : Store}
noncomputable def Walks (sr : Src) (l : List V) (J : Store → Prop) : Prop := ∀ σ, J σ → (∀ i, sr.at σ i = some l[i]?) ∧ sr.size σ = some l.length
theorem walks_vals {l : List V} {J : Store → Prop} : Walks (.vals l) l J := fun σ ya => ⟨fun ya => rfl, rfl⟩
theorem walks_lst {n : Nat} {l : List V} {J : Store → Prop} (h : ∀ σ, J σ → σ[n]? = some (.list l)) : Walks (.lst n) l J := fun σ hj => by
 have e : listAt σ n = some l := by unfold listAt; rw [h σ hj]
 exact ⟨fun i => by show (listAt σ n).map _ = _; rw [e]; rfl, by show (listAt σ n).map _ = _; rw [e]; rfl⟩
noncomputable def Turn (P : Nat → Loc → Store → Prop) (Q : Fl × Loc → Store → Prop) (i : Nat) (r : Fl × Loc) (σ : Store) : Prop := match r.1 with
 | .next => P (i + 1) r.2 σ
 | .ret _ => Q r σ
 | _ => False
theorem forLoop_wx {sr : Src} {l : List V} {bt : V → Loc → M Loc} {bd : Loc → M (Fl × Loc)} {J : Store → Prop} (hw : Walks sr l J) (P : Nat → Loc → Store → Prop) (hJ : ∀ i loc σ, P i loc σ → J σ) {Q : Fl × Loc → Store → Prop} {E : V → Store → Prop}
  (step : ∀ i v loc σ, l[i]? = some v → P i loc σ → Wx (bt v loc >>= bd) σ (Turn P Q i) E)
  (fin : ∀ loc σ, P l.length loc σ → Q (.next, loc) σ) : ∀ (k i : Nat) (loc : Loc) (σ : Store), l.length + 1 ≤ i + k → i ≤ l.length → P i loc σ → Wx (forLoop sr bt bd k i loc) σ Q E := by
 intro k
 induction k with
 | zero =>
  intro i loc σ h1 h2 _
  (first | lia | omega)
 | succ k ih =>
  intro i loc σ h1 h2 p
  obtain ⟨hat, _⟩ := hw σ (hJ i loc σ p)
  have e2 := forLoop_step (bt := bt) (body := bd) (k := k) (loc := loc) (hat i)
  rcases Nat.lt_or_ge i l.length with hl | hl
  ·have hv : l[i]? = some l[i] := List.getElem?_eq_getElem hl
   rw [hv] at e2
   rcases step i l[i] loc σ hv p with ⟨⟨fl, loc'⟩, σ', e, hr⟩ | ⟨x, σ', e, hr⟩
   ·replace e2 := e2.trans (bind_ok (m := bt l[i] loc >>= bd) e)
    cases fl with
    | next =>
     rcases ih (i + 1) loc' σ' (by (first | lia | omega)) (by (first | lia | omega)) hr with ⟨a, τ, e3, q⟩ | ⟨a, τ, e3, q⟩
     ·exact .inl ⟨a, τ, e2.trans e3, q⟩
     ·exact .inr ⟨a, τ, e2.trans e3, q⟩
    | ret u => exact .inl ⟨_, σ', e2, hr⟩
    | brk => exact hr.elim
    | cont => exact hr.elim
   ·exact .inr ⟨x, σ', e2.trans (bind_exc (m := bt l[i] loc >>= bd) e), hr⟩
  ·have : i = l.length := by (first | lia | omega)
   subst this
   rw [List.getElem?_eq_none (Nat.le_refl _)] at e2
   exact .inl ⟨_, σ, e2, fin loc σ p⟩
theorem flK_next {α : Type} {K : Fl × Loc → M α} {nx : Loc → M α} {loc : Loc} : flK K nx (.next, loc) = nx loc := rfl
theorem flK_ret {α : Type} {K : Fl × Loc → M α} {nx : Loc → M α} {loc : Loc} {u : V} : flK K nx (.ret u, loc) = K (.ret u, loc) := rfl
theorem Wx_for {α : Type} {sr : Src} {l : List V} {J : Store → Prop} {K : Fl × Loc → M α} {nx : Loc → M α} (hC : C.calm = true) (hw : Walks sr l J) (P : Nat → Loc → Store → Prop) (hJ : ∀ i loc σ, P i loc σ → J σ) {Q : α → Store → Prop} {E : V → Store → Prop} {loc : Loc} (h0 : P 0 loc σ)
  (step : ∀ i v loc σ, l[i]? = some v → P i loc σ → Wx (bindTo (stLoc ns) target v loc >>= exs C body ns) σ (Turn P (fun r σ' => Wx (K r) σ' Q E) i) E)
  (fin : ∀ loc σ, P l.length loc σ → Wx (nx loc) σ Q E) : Wx (forAll C target body sr ns loc >>= flK K nx) σ Q E := by
 obtain ⟨_, hsz⟩ := hw σ (hJ 0 loc σ h0)
 refine Wx.step (P := fun r σ' => Wx (flK K nx r) σ' Q E) ?_ fun ya yb q => q
 unfold forAll
 rw [if_pos (by rw [hC]; rfl)]
 refine Wx_step (a := l.length) (σ' := σ) (by unfold Src.count; rw [askS_eq, hsz]) (forLoop_wx hw P hJ (fun i v loc σ hv hp => (step i v loc σ hv hp).mono fun r σ' ht => ?_) (fun loc σ hp => by rw [flK_next]; exact fin loc σ hp) (l.length + 1) 0 loc σ (by (first | lia | omega)) (by (first | lia | omega)) h0)
 obtain ⟨fl, loc'⟩ := r
 cases fl with
 | next => exact ht
 | ret u => exact ht
 | brk => exact ht
 | cont => exact ht
theorem Wp_for {α : Type} {sr : Src} {l : List V} {J : Store → Prop} {K : Fl × Loc → M α} {nx : Loc → M α} (hC : C.calm = true) (hw : Walks sr l J) (P : Nat → Loc → Store → Prop) (hJ : ∀ i loc σ, P i loc σ → J σ) {Q : α → Store → Prop} {loc : Loc} (h0 : P 0 loc σ)
  (step : ∀ i v loc σ, l[i]? = some v → P i loc σ → Wp (bindTo (stLoc ns) target v loc >>= exs C body ns) σ (Turn P (fun r σ' => Wp (K r) σ' Q) i))
  (fin : ∀ loc σ, P l.length loc σ → Wp (nx loc) σ Q) : Wp (forAll C target body sr ns loc >>= flK K nx) σ Q := by
 refine (Wx_for (E := fun ya yb => False) hC hw P hJ h0 (fun i v loc σ hv hp => .inl ((step i v loc σ hv hp).mono fun r σ' ht => ?_)) fun loc σ hp => .inl (fin loc σ hp)).elim (fun h => h) fun ⟨_, _, _, f⟩ => f.elim
 obtain ⟨fl, loc'⟩ := r
 cases fl with
 | next => exact ht
 | ret u => exact .inl ht
 | brk => exact ht
 | cont => exact ht
theorem compLoop_wx {sr : Src} {l : List V} {bt : V → Loc → M Loc} {tt : Loc → M Bool} {et : Loc → M V} {J : Store → Prop} (hw : Walks sr l J) (P : Nat → List V → Loc → Store → Prop) (hJ : ∀ i acc loc σ, P i acc loc σ → J σ) {E : V → Store → Prop}
  (step : ∀ i v acc loc σ, l[i]? = some v → P i acc loc σ → Wp (bt v loc) σ fun loc' σ₁ => Wp (tt loc') σ₁ fun b σ₂ => if b = true then Wx (et loc') σ₂ (fun y σ₃ => P (i + 1) (acc ++ [y]) loc' σ₃) E else P (i + 1) acc loc' σ₂) :
  ∀ (k i : Nat) (acc : List V) (loc : Loc) (σ : Store), l.length + 1 ≤ i + k → i ≤ l.length → P i acc loc σ → Wx (compLoop sr bt tt et k i loc) σ (fun out σ' => ∃ loc', P l.length (acc ++ out) loc' σ') E := by
 intro k
 induction k with
 | zero =>
  intro i acc loc σ h1 h2 _
  (first | lia | omega)
 | succ k ih =>
  intro i acc loc σ h1 h2 p
  obtain ⟨hat, _⟩ := hw σ (hJ i acc loc σ p)
  rcases Nat.lt_or_ge i l.length with hl | hl
  ·have hv : l[i]? = some l[i] := List.getElem?_eq_getElem hl
   have e1 : compLoop sr bt tt et (k + 1) i loc σ = (bt l[i] loc >>= fun loc' => tt loc' >>= fun c => if c = true then (et loc' >>= fun x => compLoop sr bt tt et k (i + 1) loc' >>= fun r => pure (x :: r)) else compLoop sr bt tt et k (i + 1) loc') σ := by
    rw [compLoop_step (hat i), hv]
   obtain ⟨loc', σ₁, e2, b, σ₂, e3, hb⟩ := step i l[i] acc loc σ hv p
   rw [bind_ok e2, bind_ok e3] at e1
   cases b with
   | false =>
    rcases ih (i + 1) acc loc' σ₂ (by (first | lia | omega)) (by (first | lia | omega)) hb with ⟨a, τ, e4, q⟩ | ⟨x, τ, e4, q⟩
    ·exact .inl ⟨a, τ, e1.trans e4, q⟩
    ·exact .inr ⟨x, τ, e1.trans e4, q⟩
   | true =>
    have e1 : compLoop sr bt tt et (k + 1) i loc σ = (et loc' >>= fun x => compLoop sr bt tt et k (i + 1) loc' >>= fun r => pure (x :: r)) σ₂ := e1
    rcases hb with ⟨y, σ₃, e4, p'⟩ | ⟨x, σ₃, e4, q⟩
    ·rw [bind_ok e4] at e1
     rcases ih (i + 1) (acc ++ [y]) loc' σ₃ (by (first | lia | omega)) (by (first | lia | omega)) p' with ⟨a, τ, e5, loc'', q⟩ | ⟨x, τ, e5, q⟩
     ·exact .inl ⟨y :: a, τ, by rw [e1, bind_ok e5]; rfl, loc'', by rw [List.append_assoc] at q; exact q⟩
     ·exact .inr ⟨x, τ, e1.trans (bind_exc e5), q⟩
    ·exact .inr ⟨x, σ₃, e1.trans (bind_exc e4), q⟩
  ·have : i = l.length := by (first | lia | omega)
   subst this
   have hv : l[l.length]? = none := List.getElem?_eq_none (Nat.le_refl _)
   exact .inl ⟨[], σ, by rw [compLoop_step (hat l.length), hv]; rfl, loc, by rw [List.append_nil]; exact p⟩
theorem Wx_comp {sr : Src} {l : List V} {J : Store → Prop} (hC : C.calm = true) (hw : Walks sr l J) (hok : compOk scope.kind scope.names = true) {loc loc₀ : Loc} (hin : innerLoc ns loc scope.names = pure loc₀) (hl : l.length ≤ sizeLine) (P : Nat → List V → Loc → Store → Prop)
  (hJ : ∀ i acc loc σ, P i acc loc σ → J σ) (h0 : P 0 [] loc₀ σ) {E : V → Store → Prop}
  (step : ∀ i v acc loc σ, l[i]? = some v → P i acc loc σ → Wp (bindTo (stLocL (relab ns scope.names)) target v loc) σ fun loc' σ₁ => Wp (tests C ifs (relab ns scope.names) loc') σ₁ fun b σ₂ => if b = true then Wx (ev C elt (relab ns scope.names) loc') σ₂ (fun y σ₃ => P (i + 1) (acc ++ [y]) loc' σ₃) E else P (i + 1) acc loc' σ₂)
  {α : Type} {K : V → M α} {Q : α → Store → Prop} (fin : ∀ out loc σ', P l.length out loc σ' → Wx (K (.ref σ'.length)) (σ' ++ [.list out]) Q E) : Wx (compAll C elt target ifs scope sr ns loc >>= K) σ Q E := by
 obtain ⟨_, hsz⟩ := hw σ (hJ 0 [] _ σ h0)
 refine Wx.step (P := fun r σ' => Wx (K r) σ' Q E) ?_ fun ya yb q => q
 unfold compAll
 rw [if_pos (by rw [hC, hok]; rfl)]
 refine Wx_step (σ' := σ) (a := l.length) (by unfold Src.count; rw [askS_eq, hsz]) ?_
 rw [if_pos hl, hin]
 refine Wx_step rfl ((compLoop_wx hw P hJ step (l.length + 1) 0 [] loc₀ σ (by (first | lia | omega)) (by (first | lia | omega)) h0).step fun out σ' ⟨loc', p⟩ => ?_)
 rw [List.nil_append] at p
 exact .inl (Wp_ok rfl (fin out loc' σ' p))
theorem Wp_of {α : Type} {m : M α} {Q : α → Store → Prop} (h : Wx m σ Q fun ya yb => False) : Wp m σ Q := h.elim id fun ⟨_, _, _, f⟩ => f.elim
theorem Wp_comp {sr : Src} {l : List V} {J : Store → Prop} (hC : C.calm = true) (hw : Walks sr l J) (hok : compOk scope.kind scope.names = true) {loc loc₀ : Loc} (hin : innerLoc ns loc scope.names = pure loc₀) (hl : l.length ≤ sizeLine) (P : Nat → List V → Loc → Store → Prop)
  (hJ : ∀ i acc loc σ, P i acc loc σ → J σ) (h0 : P 0 [] loc₀ σ)
  (step : ∀ i v acc loc σ, l[i]? = some v → P i acc loc σ → Wp (bindTo (stLocL (relab ns scope.names)) target v loc) σ fun loc' σ₁ => Wp (tests C ifs (relab ns scope.names) loc') σ₁ fun b σ₂ => if b = true then Wp (ev C elt (relab ns scope.names) loc') σ₂ fun y σ₃ => P (i + 1) (acc ++ [y]) loc' σ₃ else P (i + 1) acc loc' σ₂)
  {α : Type} {K : V → M α} {Q : α → Store → Prop} (fin : ∀ out loc σ', P l.length out loc σ' → Wp (K (.ref σ'.length)) (σ' ++ [.list out]) Q) : Wp (compAll C elt target ifs scope sr ns loc >>= K) σ Q :=
 Wp_of (Wx_comp hC hw hok hin hl P hJ h0 (fun i v acc loc σ hv hp => (step i v acc loc σ hv hp).mono fun loc' σ₁ h => h.mono fun b σ₂ h => by
  cases b with
  | true => exact .inl h
  | false => exact h) fun out loc σ' hp => .inl (fin out loc σ' hp))
theorem Wp_compPure {sr : Src} {l : List V} (hC : C.calm = true) (hw : Walks sr l fun τ => τ = σ) (hok : compOk scope.kind scope.names = true) {loc loc₀ : Loc} (hin : innerLoc ns loc scope.names = pure loc₀) (hl : l.length ≤ sizeLine) (S : Loc → Prop) (hS : S loc₀) (g : V → Option V)
  (step : ∀ v loc, v ∈ l → S loc → ∃ loc', bindTo (stLocL (relab ns scope.names)) target v loc σ = .ok loc' σ ∧ S loc' ∧ ∃ b, tests C ifs (relab ns scope.names) loc' σ = .ok b σ ∧ (if b = true then ∃ y, ev C elt (relab ns scope.names) loc' σ = .ok y σ ∧ g v = some y else g v = none))
  {α : Type} {K : V → M α} {Q : α → Store → Prop} (fin : Wp (K (.ref σ.length)) (σ ++ [.list (l.filterMap g)]) Q) : Wp (compAll C elt target ifs scope sr ns loc >>= K) σ Q := by
 refine Wp_comp hC hw hok hin hl (fun i acc loc τ => τ = σ ∧ S loc ∧ acc = (l.take i).filterMap g) (fun ya yb yc yd h => h.1) ⟨rfl, hS, rfl⟩ (fun i v acc loc τ hv hp => ?_) fun out loc τ hp => ?_
 ·obtain ⟨rfl, hs, rfl⟩ := hp
  have htake : l.take (i + 1) = l.take i ++ [v] := by rw [List.take_add_one, hv]; rfl
  obtain ⟨loc', e1, hs', b, e2, h⟩ := step v loc (List.mem_of_getElem? hv) hs
  refine Wp_ok e1 (Wp_ok e2 ?_)
  rw [htake, List.filterMap_append]
  cases b with
  | false =>
   have h : g v = none := h
   exact ⟨rfl, hs', by simp [h]⟩
  | true =>
   obtain ⟨y, e3, h⟩ := h
   exact Wp_ok e3 ⟨rfl, hs', by simp [h]⟩
 ·obtain ⟨rfl, _, rfl⟩ := hp
  rw [List.take_length]
  exact fin
end
noncomputable def LeEx (X : List Nat) (σ σ' : Store) : Prop := ∀ (n : Nat) (o : O), n ∉ X → σ[n]? = some o → σ'[n]? = some o
noncomputable abbrev Le (σ σ' : Store) : Prop := LeEx [] σ σ'
section
variable {X Y : List Nat} {σ σ' σ'' τ : Store}
theorem LeEx.refl : LeEx X σ σ := fun ya yb yc h => h
theorem LeEx.trans (h : LeEx X σ σ') (h' : LeEx X σ' σ'') : LeEx X σ σ'' := fun n o hn e => h' n o hn (h n o hn e)
theorem LeEx.mono (h : LeEx X σ σ') (hs : ∀ n ∈ X, n ∈ Y) : LeEx Y σ σ' := fun n o hn e => h n o (fun hm => hn (hs n hm)) e
theorem LeEx.ex (h : Le σ σ') : LeEx X σ σ' := h.mono fun ya hm => nomatch hm
theorem LeEx.at (h : Le σ σ') {n : Nat} {o : O} (e : σ[n]? = some o) : σ'[n]? = some o := h n o List.not_mem_nil e
theorem LeEx.push {o : O} : LeEx X σ (σ ++ [o]) := fun n o' ya e => by rw [List.getElem?_append_left (lt_of_get e)]; exact e
theorem LeEx.new (h : LeEx X σ τ) {o : O} : LeEx X σ (τ ++ [o]) := h.trans .push
theorem LeEx.set {k : Nat} {o : O} (hk : k ∈ X) (h : LeEx X σ τ) : LeEx X σ (τ.set k o) := fun n o' hn e => by
 rw [List.getElem?_set_ne (fun eq : k = n => hn (by rw [← eq]; exact hk))]; exact h n o' hn e
theorem LeEx.setNew {k : Nat} {o : O} (h : LeEx X σ τ) (hk : σ.length ≤ k) : LeEx X σ (τ.set k o) := fun n o' hn e => by
 rw [List.getElem?_set_ne (fun eq => by have := lt_of_get e; (first | lia | omega))]; exact h n o' hn e
theorem LeEx.after (h : LeEx Y σ σ') (h' : LeEx X σ' σ'') (hX : ∀ n ∈ X, n ∈ Y ∨ σ.length ≤ n) : LeEx Y σ σ'' := fun n o hn e =>
 h' n o (fun hm => (hX n hm).elim hn fun hl => absurd (lt_of_get e) (Nat.not_lt.mpr hl)) (h n o hn e)
theorem get_new {o : O} : (σ ++ [o])[σ.length]? = some o := by rw [List.getElem?_append_right (Nat.le_refl _), Nat.sub_self]; rfl
theorem set_get {n : Nat} {o o' : O} (h : σ[n]? = some o) : (σ.set n o')[n]? = some o' := List.getElem?_set_self (lt_of_get h)
theorem set_ne {n k : Nat} {o o' : O} (hk : k ≠ n) (h : σ[n]? = some o) : (σ.set k o')[n]? = some o := by rw [List.getElem?_set_ne hk]; exact h
theorem push_at {n : Nat} {o o' : O} (h : σ[n]? = some o) : (σ ++ [o'])[n]? = some o := by rw [List.getElem?_append_left (lt_of_get h)]; exact h
theorem len_set {k : Nat} {o : O} : (σ.set k o).length = σ.length := List.length_set ..
noncomputable def Len (σ σ' : Store) : Prop := σ.length ≤ σ'.length
end
theorem range_val {n : Int} {i : Nat} {v : V} (h : (rangeV 0 n)[i]? = some v) : v = .int i ∧ (i : Int) < n := by
 rw [rangeV_get] at h
 split at h
 ·cases h; exact ⟨by rw [Int.zero_add], by (first | lia | omega)⟩
 ·cases h
theorem range_len {n : Int} : (rangeV 0 n).length = n.toNat := by unfold rangeV; simp
end Mine.Internal

set_option backward.match.sparseCases false
namespace Mine.Internal
open PySem PyProof.Rows
noncomputable def tab06 : List (Str × Fn) := defsV PySem.Challenge.pw_uf010004_06
noncomputable def mt06 : List (Str × Fn) := methsV PySem.Challenge.pw_uf010004_06 []
noncomputable def gs06 : List (Str × V) := []
noncomputable def us06 : List (Str × List Str) := [(Str.ofString "FieldError", [Str.ofString "FieldError", Str.ofString "ValueError"]), (Str.ofString "BadKind", [Str.ofString "BadKind", Str.ofString "FieldError", Str.ofString "ValueError"]), (Str.ofString "BadFill", [Str.ofString "BadFill", Str.ofString "FieldError", Str.ofString "ValueError"]), (Str.ofString "NoDefinition", [Str.ofString "NoDefinition", Str.ofString "FieldError", Str.ofString "ValueError"]), (Str.ofString "TooGreat", [Str.ofString "TooGreat", Str.ofString "FieldError", Str.ofString "ValueError"]), (Str.ofString "Lacks", [Str.ofString "Lacks", Str.ofString "FieldError", Str.ofString "ValueError"]), (Str.ofString "NoNumber", [Str.ofString "NoNumber", Str.ofString "FieldError", Str.ofString "ValueError"]), (Str.ofString "NoRecord", [Str.ofString "NoRecord", Str.ofString "FieldError", Str.ofString "ValueError"])]
noncomputable def cs06 : List (Str × List Str × List Str) := [("Runner", ["__init__", "value", "put", "called"], ["program"])]
noncomputable def tx06 : Tabs := tabsOf tab06 mt06 gs06 us06 cs06
noncomputable def cl06 (d : Nat) (f : Str) (as : List V) : M V := callN tx06 d true f as
noncomputable def cf06 (d : Nat) : Cfg := cfgN tx06 d true
theorem cl06_succ {f : Str} {fn : Fn} (h : tx06.at f = some fn) (d : Nat) (as : List V) : cl06 (d + 1) f as = callFn (cf06 d) fn as := by
 show callN _ (d + 1) true f as = _
 unfold callN
 rw [h]; rfl
noncomputable def cq06 (d : Nat) (f : Str) (as : List V) : M V := callN tx06 d false f as
noncomputable def cfq06 (d : Nat) : Cfg := cfgN tx06 d false
theorem cq06_succ {f : Str} {fn : Fn} (h : tx06.at f = some fn) (d : Nat) (as : List V) : cq06 (d + 1) f as = callFn (cfq06 d) fn as := by
 show callN _ (d + 1) false f as = _
 unfold callN
 rw [h]; rfl
noncomputable def P_need_number_F : Fn := (tx06.at "need_number").getD ⟨[], [], []⟩
theorem P_need_number_K : tx06.at "need_number" = some P_need_number_F := by kernel_rfl
noncomputable def P_need_number_t1 (d : Nat) (va : V) : M V := (pure va : M V)
theorem P_need_number_sh (d : Nat) (va : V) : cl06 (d + 1) "need_number" [va] = (isKd Kd.tuple va >>= fun t0 => (truth t0 >>= fun b1 => (M.cond b1 (newO (.exc (Str.ofString "NoNumber") []) >>= fun e3 => (M.throw e3 : M V)) (P_need_number_t1 d va)))) :=
 (cl06_succ P_need_number_K d _).trans (by kernel_rfl)
noncomputable def P_need_field_F : Fn := (tx06.at "need_field").getD ⟨[], [], []⟩
theorem P_need_field_K : tx06.at "need_field" = some P_need_field_F := by kernel_rfl
noncomputable def P_need_field_t1 (d : Nat) (va vb : V) : M V := (bDict va >>= fun t0 => (cmp .NotIn vb t0 >>= fun t1 => (truth t1 >>= fun b2 => (M.cond b2 (newO (.exc (Str.ofString "Lacks") []) >>= fun e7 => (M.throw e7 : M V)) (pure V.none : M V)))))
theorem P_need_field_sh (d : Nat) (va vb : V) : cl06 (d + 1) "need_field" [va, vb] = (isKd Kd.tuple va >>= fun t0 => (truth t0 >>= fun b1 => (M.cond (!b1) (newO (.exc (Str.ofString "NoRecord") []) >>= fun e10 => (M.throw e10 : M V)) (P_need_field_t1 d va vb)))) :=
 (cl06_succ P_need_field_K d _).trans (by kernel_rfl)
noncomputable def P_run_F : Fn := (tx06.at "run").getD ⟨[], [], []⟩
theorem P_run_K : tx06.at "run" = some P_run_F := by kernel_rfl
noncomputable def P_run_t1 (d : Nat) (va vb vc : V) : M V := (mkI (cf06 d) "Runner" [va] >>= fun t0 => (askS (mtag (cf06 d) t0 "called") >>= fun g1 => (item va vb >>= fun t2 => (item t2 (V.int 0) >>= fun t3 => (bList vc >>= fun t4 => (runM (cf06 d) "called" g1 t0 [t3, t4] >>= fun t5 => (pure t5 : M V)))))))
theorem P_run_sh (d : Nat) (va vb vc : V) : cl06 (d + 1) "run" [va, vb, vc] = (((cmp .LtE (V.int 0) vb >>= fun t0 => boolK t0 (bLen va >>= fun t1 => (cmp .Lt vb t1 >>= fun t2 => (pure t2 : M V))) (pure (V.bool false) : M V)) >>= fun t3 => (truth t3 >>= fun b4 => (M.cond (!b4) (pure true : M Bool) (bLen vc >>= fun t5 => (item va vb >>= fun t6 => (item t6 (V.int 1) >>= fun t7 => (cmp .NotEq t5 t7 >>= fun t8 => (truth t8 >>= fun b9 => (M.cond b9 (pure true : M Bool) (pure false : M Bool)))))))))) >>= fun b10 => (M.cond b10 (newO (.exc (Str.ofString "NoDefinition") []) >>= fun e28 => (M.throw e28 : M V)) (P_run_t1 d va vb vc))) :=
 (cl06_succ P_run_K d _).trans (by kernel_rfl)
noncomputable def L_cell_F : Fn := (tx06.at "_law_cell").getD ⟨[], [], []⟩
theorem L_cell_K : tx06.at "_law_cell" = some L_cell_F := by kernel_rfl
noncomputable def L_cell_t1 (d : Nat) (va vb : V) : M V := (pure (V.int 0) : M V)
theorem L_cell_sh (d : Nat) (va vb : V) : cl06 (d + 1) "_law_cell" [va, vb] = (bLen va >>= fun t0 => (cmp .Lt vb t0 >>= fun t1 => (truth t1 >>= fun b2 => (M.cond b2 (item va vb >>= fun t3 => (binop .Mult t3 (V.int 48271) >>= fun t4 => (binop .Mod t4 (V.int 2147483647) >>= fun t5 => (pure t5 : M V)))) (L_cell_t1 d va vb))))) :=
 (cl06_succ L_cell_K d _).trans (by kernel_rfl)
noncomputable def L_next_F : Fn := (tx06.at "_law_next").getD ⟨[], [], []⟩
theorem L_next_K : tx06.at "_law_next" = some L_next_F := by kernel_rfl
theorem L_next_sh (d : Nat) (va : V) : cl06 (d + 1) "_law_next" [va] = (item va (V.int 0) >>= fun t0 => (binop .Mult t0 (V.int 48271) >>= fun t1 => (binop .Add t1 (V.int 11) >>= fun t2 => (binop .Mod t2 (V.int 2147483647) >>= fun t3 => (setItem va (V.int 0) t3 >>= fun ya => (item va (V.int 1) >>= fun t4 => (binop .Sub t4 (V.int 1) >>= fun t5 => (setItem va (V.int 1) t5 >>= fun ya => (item va (V.int 0) >>= fun t6 => (binop .FloorDiv t6 (V.int 7) >>= fun t7 => (pure t7 : M V))))))))))) :=
 (cl06_succ L_next_K d _).trans (by kernel_rfl)
noncomputable def L_labels_F : Fn := (tx06.at "_law_labels").getD ⟨[], [], []⟩
theorem L_labels_K : tx06.at "_law_labels" = some L_labels_F := by kernel_rfl
noncomputable def L_labels_c1 : Expr := (ePart (sVal (nthS L_labels_F.body 4)) 1)
theorem L_labels_c1_in (va vb vc vd ve vf : V) : innerLoc L_labels_F.names [some va, some vb, some vc, some vd, some ve, some vf, none, none, none, none, none] (cScope L_labels_c1).names = pure [none, none, some va, some vc, some vf] := by kernel_rfl
theorem L_labels_c1_bind (va vb vc : V) (od : Option V) (ve : V) : bindTo (stLocL (relab L_labels_F.names (cScope L_labels_c1).names)) (cTgt L_labels_c1) ve [none, od, some va, some vb, some vc] = pure [none, some ve, some va, some vb, some vc] := by kernel_rfl
theorem L_labels_c1_elt (d : Nat) (va vb vc vd : V) : ev (cf06 d) (cElt L_labels_c1) (relab L_labels_F.names (cScope L_labels_c1).names) [none, some vd, some va, some vb, some vc] = (binop .FloorDiv va (V.int 1274) >>= fun t0 => (binop .Mult t0 vd >>= fun t1 => (binop .Add vc t1 >>= fun t2 => (binop .Mod t2 (V.int 26) >>= fun t3 => (item vb t3 >>= fun t4 => (pure t4 : M V)))))) := by kernel_rfl
theorem L_labels_c1_tst (d : Nat) (loc : Loc) : tests (cf06 d) (cIfs L_labels_c1) (relab L_labels_F.names (cScope L_labels_c1).names) loc = (pure true : M Bool) := by kernel_rfl
theorem L_labels_c1_ok : compOk (cScope L_labels_c1).kind (cScope L_labels_c1).names = true := by kernel_rfl
noncomputable def L_labels_l1 : Stmt := (nthS L_labels_F.body 6)
theorem L_labels_l1_step (d : Nat) (va vb vc vd ve vf vg vh vi : V) (oj ok : Option V) : (bindTo (stLoc L_labels_F.names) (sTgt L_labels_l1) va [some vb, some vc, some vd, some ve, some vf, some vg, oj, some vh, some vi, ok, none] >>= exs (cf06 d) (sBody L_labels_l1) L_labels_F.names) = (binop .FloorDiv vb (V.int 49) >>= fun t0 => (binop .Mult (V.int 3) va >>= fun t1 => (binop .Add t0 t1 >>= fun t2 => (binop .Mod t2 (V.int 26) >>= fun t3 => (item vd t3 >>= fun t4 => (askS (mtag (cf06 d) vi "append") >>= fun g5 => (bound V.none >>= fun i6 => bound vf >>= fun i7 => sliceV i6 i7 vh >>= fun t8 => (binop .Add t8 t4 >>= fun t9 => (bound vf >>= fun i10 => bound V.none >>= fun i11 => sliceV i10 i11 vh >>= fun t12 => (binop .Add t9 t12 >>= fun t13 => (runM (cf06 d) "append" g5 vi [t13] >>= fun t14 => (pure (Fl.next, [some vb, some vc, some vd, some ve, some vf, some vg, some va, some vh, some vi, some t4, none]) : M (Fl × Loc))))))))))))) := by kernel_rfl
noncomputable def L_labels_a1 (d : Nat) (loc : Loc) : M V := exsK (cf06 d) (List.drop 7 L_labels_F.body) L_labels_F.names loc retK
theorem L_labels_a1_eq (d : Nat) (va vb vc vd ve vf vg vh : V) (oi oj : Option V) : L_labels_a1 d [some va, some vb, some vc, some vd, some ve, some vf, oi, some vg, some vh, oj, none] = (pure vh : M V) := by kernel_rfl
theorem L_labels_sh (d : Nat) (va vb : V) : cl06 (d + 1) "_law_labels" [va, vb] = (binop .Mod va (V.int 7) >>= fun t0 => (binop .FloorDiv va (V.int 7) >>= fun t1 => (binop .Add t0 (V.int 1) >>= fun t2 => (binop .Mod t1 t2 >>= fun t3 => (binop .FloorDiv va (V.int 49) >>= fun t4 => (binop .Mod t4 (V.int 26) >>= fun t5 => (askS (mtag (cf06 d) (V.str (Str.ofString "")) "join") >>= fun g6 => (rangeOf t0 >>= fun s7 => (compAll (cf06 d) (cElt L_labels_c1) (cTgt L_labels_c1) (cIfs L_labels_c1) (cScope L_labels_c1) s7 L_labels_F.names [some va, some vb, some (V.str (Str.ofString "abcdefghijklmnopqrstuvwxyz")), some t0, some t3, some t5, none, none, none, none, none] >>= fun t8 => (runM (cf06 d) "join" g6 (V.str (Str.ofString "")) [t8] >>= fun t9 => (newO (.list []) >>= fun t10 => (rangeOf vb >>= fun s11 => (forAll (cf06 d) (sTgt L_labels_l1) (sBody L_labels_l1) s11 L_labels_F.names [some va, some vb, some (V.str (Str.ofString "abcdefghijklmnopqrstuvwxyz")), some t0, some t3, some t5, none, some t9, some t10, none, none] >>= flK retK (L_labels_a1 d)))))))))))))) :=
 (cl06_succ L_labels_K d _).trans (by kernel_rfl)
noncomputable def L_leaf_F : Fn := (tx06.at "_law_leaf").getD ⟨[], [], []⟩
theorem L_leaf_K : tx06.at "_law_leaf" = some L_leaf_F := by kernel_rfl
noncomputable def L_leaf_t1 (d : Nat) (va vb : V) : M V := (binop .FloorDiv va (V.int 4) >>= fun t0 => (binop .Pow (V.int 10) (V.int 12) >>= fun t1 => (binop .Mult (V.int 2) t1 >>= fun t2 => (binop .Add t2 (V.int 1) >>= fun t3 => (binop .Mod t0 t3 >>= fun t4 => (binop .Pow (V.int 10) (V.int 12) >>= fun t5 => (binop .Sub t4 t5 >>= fun t6 => (newO (.list [(V.int 0), (V.int 1), (V.int (-1)), t6]) >>= fun t7 => (binop .Mod va (V.int 4) >>= fun t8 => (item t7 t8 >>= fun t9 => (pure (V.tup [(V.str (Str.ofString "number")), t9]) : M V)))))))))))
theorem L_leaf_sh (d : Nat) (va vb : V) : cl06 (d + 1) "_law_leaf" [va, vb] = ((cmp .Gt vb (V.int 0) >>= fun t0 => (truth t0 >>= fun b1 => (M.cond b1 (binop .Mod va (V.int 3) >>= fun t2 => (cmp .Gt t2 (V.int 0) >>= fun t3 => (truth t3 >>= fun b4 => (M.cond b4 (pure true : M Bool) (pure false : M Bool))))) (pure false : M Bool)))) >>= fun b5 => (M.cond b5 (binop .FloorDiv va (V.int 3) >>= fun t6 => (binop .Mod t6 vb >>= fun t7 => (pure (V.tup [(V.str (Str.ofString "input")), t7]) : M V))) (L_leaf_t1 d va vb))) :=
 (cl06_succ L_leaf_K d _).trans (by kernel_rfl)
noncomputable def L_fields_F : Fn := (tx06.at "_law_fields").getD ⟨[], [], []⟩
theorem L_fields_K : tx06.at "_law_fields" = some L_fields_F := by kernel_rfl
noncomputable def L_fields_l1 : Stmt := (nthS L_fields_F.body 2)
noncomputable def L_fields_c1 : Expr := (ePart (sVal (nthS (sBody L_fields_l1) 2)) 1)
theorem L_fields_c1_in (va vb vc vd ve vf vg vh vi vj : V) : innerLoc L_fields_F.names [some va, some vb, some vc, some vd, some ve, some vf, some vg, some vh, some vi, some vj, none, none, none, none, none] (cScope L_fields_c1).names = pure [none, none] := by kernel_rfl
theorem L_fields_c1_bind (oa : Option V) (vb : V) : bindTo (stLocL (relab L_fields_F.names (cScope L_fields_c1).names)) (cTgt L_fields_c1) vb [none, oa] = pure [none, some vb] := by kernel_rfl
theorem L_fields_c1_elt (d : Nat) (va : V) : ev (cf06 d) (cElt L_fields_c1) (relab L_fields_F.names (cScope L_fields_c1).names) [none, some va] = (item va (V.int 0) >>= fun t0 => (pure t0 : M V)) := by kernel_rfl
theorem L_fields_c1_tst (d : Nat) (loc : Loc) : tests (cf06 d) (cIfs L_fields_c1) (relab L_fields_F.names (cScope L_fields_c1).names) loc = (pure true : M Bool) := by kernel_rfl
theorem L_fields_c1_ok : compOk (cScope L_fields_c1).kind (cScope L_fields_c1).names = true := by kernel_rfl
theorem L_fields_l1_step (d : Nat) (va vb vc vd ve vf vg vh : V) (oi oj ok : Option V) : (bindTo (stLoc L_fields_F.names) (sTgt L_fields_l1) va [some vb, some vc, some vd, some ve, some vf, some vg, some vh, oi, ok, oj, none, none, none, none, none] >>= exs (cf06 d) (sBody L_fields_l1) L_fields_F.names) = (binop .FloorDiv vg (V.int 16) >>= fun t0 => (binop .Mod t0 (V.int 2) >>= fun t1 => (binop .Mult (V.int 2) t1 >>= fun t2 => (binop .Add (V.int 1) t2 >>= fun t3 => (binop .FloorDiv vg (V.int 4) >>= fun t4 => (binop .Mult va t3 >>= fun t5 => (binop .Add t4 t5 >>= fun t6 => (bLen ve >>= fun t7 => (binop .Mod t6 t7 >>= fun t8 => (item ve t8 >>= fun t9 => (srcV vh >>= fun s10 => (compAll (cf06 d) (cElt L_fields_c1) (cTgt L_fields_c1) (cIfs L_fields_c1) (cScope L_fields_c1) s10 L_fields_F.names [some vb, some vc, some vd, some ve, some vf, some vg, some vh, some va, some t3, some t9, none, none, none, none, none] >>= fun t11 => (cmp .NotIn t9 t11 >>= fun t12 => (truth t12 >>= fun b13 => (M.cond b13 (askS (mtag (cf06 d) vh "append") >>= fun g14 => (cl06 d "_law_body" [vb, vc, vd, ve, vf] >>= fun t15 => (runM (cf06 d) "append" g14 vh [(V.tup [t9, t15])] >>= fun t16 => (pure (Fl.next, [some vb, some vc, some vd, some ve, some vf, some vg, some vh, some va, some t3, some t9, none, none, none, none, none]) : M (Fl × Loc))))) (pure (Fl.next, [some vb, some vc, some vd, some ve, some vf, some vg, some vh, some va, some t3, some t9, none, none, none, none, none]) : M (Fl × Loc))))))))))))))))) := by kernel_rfl
noncomputable def L_fields_a1 (d : Nat) (loc : Loc) : M V := exsK (cf06 d) (List.drop 3 L_fields_F.body) L_fields_F.names loc retK
theorem L_fields_a1_eq (d : Nat) (va vb vc vd ve vf vg : V) (oh oi oj : Option V) : L_fields_a1 d [some va, some vb, some vc, some vd, some ve, some vf, some vg, oh, oj, oi, none, none, none, none, none] = (bTuple vg >>= fun t0 => (pure t0 : M V)) := by kernel_rfl
theorem L_fields_sh (d : Nat) (va vb vc vd ve : V) : cl06 (d + 1) "_law_fields" [va, vb, vc, vd, ve] = (cl06 d "_law_next" [va] >>= fun t0 => (newO (.list []) >>= fun t1 => (binop .Mod t0 (V.int 4) >>= fun t2 => (rangeOf t2 >>= fun s3 => (forAll (cf06 d) (sTgt L_fields_l1) (sBody L_fields_l1) s3 L_fields_F.names [some va, some vb, some vc, some vd, some ve, some t0, some t1, none, none, none, none, none, none, none, none] >>= flK retK (L_fields_a1 d)))))) :=
 (cl06_succ L_fields_K d _).trans (by kernel_rfl)
noncomputable def L_body_F : Fn := (tx06.at "_law_body").getD ⟨[], [], []⟩
theorem L_body_K : tx06.at "_law_body" = some L_body_F := by kernel_rfl
noncomputable def L_body_t6 (d : Nat) (va vb vc vd ve vf vg vh vi : V) (oj ok ol : Option V) (vm vn : V) : M V := (binop .Sub ve (V.int 1) >>= fun t0 => (cl06 d "_law_body" [va, vb, vc, vd, t0] >>= fun t1 => (pure (V.tup [(V.str (Str.ofString "if")), vm, vn, t1]) : M V)))
noncomputable def L_body_t5 (d : Nat) (va vb vc vd ve vf vg vh vi : V) (oj ok ol om : Option V) : M V := (binop .Sub ve (V.int 1) >>= fun t0 => (cl06 d "_law_body" [va, vb, vc, vd, t0] >>= fun t1 => (binop .Sub ve (V.int 1) >>= fun t2 => (cl06 d "_law_body" [va, vb, vc, vd, t2] >>= fun t3 => (cmp .Eq vg (V.int 9) >>= fun t4 => (truth t4 >>= fun b5 => (M.cond b5 (pure (V.tup [(V.str (Str.ofString "sum")), t1, t3]) : M V) (L_body_t6 d va vb vc vd ve vf vg vh vi oj ok ol t1 t3))))))))
noncomputable def L_body_t4 (d : Nat) (va vb vc vd ve vf vg vh vi : V) (oj ok ol om : Option V) : M V := (cmp .Lt vg (V.int 9) >>= fun t0 => (truth t0 >>= fun b1 => (M.cond b1 (binop .Sub ve (V.int 1) >>= fun t2 => (cl06 d "_law_fields" [va, vb, vc, vd, t2] >>= fun t3 => (pure (V.tup [(V.str (Str.ofString "make")), t3]) : M V))) (L_body_t5 d va vb vc vd ve vf vg vh vi oj ok ol om))))
noncomputable def L_body_t3 (d : Nat) (va vb vc vd ve vf vg vh vi : V) (oj ok ol : Option V) : M V := (cmp .Lt vg (V.int 7) >>= fun t0 => (truth t0 >>= fun b1 => (M.cond b1 (binop .Sub ve (V.int 1) >>= fun t2 => (cl06 d "_law_body" [va, vb, vc, vd, t2] >>= fun t3 => (binop .Sub ve (V.int 1) >>= fun t4 => (cl06 d "_law_body" [va, vb, vc, vd, t4] >>= fun t5 => (pure (V.tup [(V.str (Str.ofString "put")), t3, vi, t5]) : M V))))) (L_body_t4 d va vb vc vd ve vf vg vh vi oj ok ol none))))
noncomputable def L_body_t2 (d : Nat) (va vb vc vd ve vf vg vh vi : V) (oj ok ol : Option V) : M V := ((cmp .Lt vg (V.int 5) >>= fun t0 => (truth t0 >>= fun b1 => (M.cond b1 (pure true : M Bool) (cmp .Gt vg (V.int 11) >>= fun t2 => (truth t2 >>= fun b3 => (M.cond b3 (pure true : M Bool) (pure false : M Bool))))))) >>= fun b4 => (M.cond b4 (binop .Sub ve (V.int 1) >>= fun t5 => (cl06 d "_law_body" [va, vb, vc, vd, t5] >>= fun t6 => (pure (V.tup [(V.str (Str.ofString "get")), t6, vi]) : M V))) (L_body_t3 d va vb vc vd ve vf vg vh vi oj ok ol)))
noncomputable def L_body_a1 (d : Nat) (loc : Loc) : M V := exsK (cf06 d) (List.drop 1 (sBody (nthS L_body_F.body 5))) L_body_F.names loc (flK retK (fun loc' => exsK (cf06 d) (List.drop 6 L_body_F.body) L_body_F.names loc' retK))
noncomputable def L_body_c1 : Expr := (sVal (nthS (sBody (nthS L_body_F.body 5)) 1))
theorem L_body_c1_in (va vb vc vd ve vf vg vh vi : V) (oj ok : Option V) : innerLoc L_body_F.names [some va, some vb, some vc, some vd, some ve, some vf, some vg, some vh, some vi, oj, ok, none, none, none, none, none, none, none, none, none, none] (cScope L_body_c1).names = pure [none, none, none, some vc, some vd, some ve, some vb, some va] := by kernel_rfl
theorem L_body_c1_bind (va vb vc vd ve : V) (of : Option V) (vg : V) : bindTo (stLocL (relab L_body_F.names (cScope L_body_c1).names)) (cTgt L_body_c1) vg [none, of, none, some vc, some vd, some ve, some vb, some va] = pure [none, some vg, none, some vc, some vd, some ve, some vb, some va] := by kernel_rfl
theorem L_body_c1_elt (d : Nat) (va vb vc vd ve vf : V) : ev (cf06 d) (cElt L_body_c1) (relab L_body_F.names (cScope L_body_c1).names) [none, some vf, none, some vc, some vd, some ve, some vb, some va] = (binop .Sub ve (V.int 1) >>= fun t0 => (cl06 d "_law_body" [va, vb, vc, vd, t0] >>= fun t1 => (pure t1 : M V))) := by kernel_rfl
theorem L_body_c1_tst (d : Nat) (loc : Loc) : tests (cf06 d) (cIfs L_body_c1) (relab L_body_F.names (cScope L_body_c1).names) loc = (pure true : M Bool) := by kernel_rfl
theorem L_body_c1_ok : compOk (cScope L_body_c1).kind (cScope L_body_c1).names = true := by kernel_rfl
theorem L_body_a1_eq (d : Nat) (va vb vc vd ve vf vg vh vi : V) (oj ok : Option V) : L_body_a1 d [some va, some vb, some vc, some vd, some ve, some vf, some vg, some vh, some vi, oj, ok, none, none, none, none, none, none, none, none, none, none] = (ofOpt ok >>= fun t0 => (rangeOf t0 >>= fun s1 => (compAll (cf06 d) (cElt L_body_c1) (cTgt L_body_c1) (cIfs L_body_c1) (cScope L_body_c1) s1 L_body_F.names [some va, some vb, some vc, some vd, some ve, some vf, some vg, some vh, some vi, oj, ok, none, none, none, none, none, none, none, none, none, none] >>= fun t2 => (ofOpt oj >>= fun t3 => (bTuple t2 >>= fun t4 => (pure (V.tup [(V.str (Str.ofString "call")), t3, t4]) : M V)))))) := by kernel_rfl
noncomputable def L_body_t1 (d : Nat) (va vb vc vd ve vf vg vh vi : V) : M V := ((cmp .Gt vg (V.int 7) >>= fun t0 => (truth t0 >>= fun b1 => (M.cond b1 (newO (.list []) >>= fun t2 => (cmp .NotEq vc t2 >>= fun t3 => (truth t3 >>= fun b4 => (M.cond b4 (cmp .Eq ve (V.int 6) >>= fun t5 => (truth t5 >>= fun b6 => (M.cond b6 (pure true : M Bool) (pure false : M Bool)))) (pure false : M Bool))))) (pure false : M Bool)))) >>= fun b7 => (M.cond b7 (bLen vc >>= fun t8 => (binop .Mod vh t8 >>= fun t9 => (item vc t9 >>= fun t10 => (bindTo (stLoc L_body_F.names) (sTgt (nthS (sBody (nthS L_body_F.body 5)) 0)) t10 [some va, some vb, some vc, some vd, some ve, some vf, some vg, some vh, some vi, none, none, none, none, none, none, none, none, none, none, none, none] >>= L_body_a1 d)))) (L_body_t2 d va vb vc vd ve vf vg vh vi none none none)))
theorem L_body_sh (d : Nat) (va vb vc vd ve : V) : cl06 (d + 1) "_law_body" [va, vb, vc, vd, ve] = (cl06 d "_law_next" [va] >>= fun t0 => (binop .Mod t0 (V.int 14) >>= fun t1 => (binop .FloorDiv t0 (V.int 14) >>= fun t2 => (bLen vd >>= fun t3 => (binop .Mod t2 t3 >>= fun t4 => (item vd t4 >>= fun t5 => ((cmp .LtE ve (V.int 1) >>= fun t6 => (truth t6 >>= fun b7 => (M.cond b7 (pure true : M Bool) (item va (V.int 1) >>= fun t8 => (cmp .LtE t8 (V.int 0) >>= fun t9 => (truth t9 >>= fun b10 => (M.cond b10 (pure true : M Bool) (cmp .Lt t1 (V.int 2) >>= fun t11 => (truth t11 >>= fun b12 => (M.cond b12 (pure true : M Bool) (pure false : M Bool))))))))))) >>= fun b13 => (M.cond b13 (cl06 d "_law_leaf" [t2, vb] >>= fun t14 => (pure t14 : M V)) (L_body_t1 d va vb vc vd ve t0 t1 t2 t5))))))))) :=
 (cl06_succ L_body_K d _).trans (by kernel_rfl)
noncomputable def L_lone_F : Fn := (tx06.at "_law_lone").getD ⟨[], [], []⟩
theorem L_lone_K : tx06.at "_law_lone" = some L_lone_F := by kernel_rfl
theorem L_lone_sh (d : Nat) (va : V) : cq06 (d + 1) "_law_lone" [va] = (isUp (cf06 d) (Str.ofString "BadFill") va >>= fun t0 => (bInt t0 >>= fun t1 => (isUp (cf06 d) (Str.ofString "BadKind") va >>= fun t2 => (bInt t2 >>= fun t3 => (binop .Add t1 t3 >>= fun t4 => (isUp (cf06 d) (Str.ofString "Lacks") va >>= fun t5 => (bInt t5 >>= fun t6 => (binop .Add t4 t6 >>= fun t7 => (isUp (cf06 d) (Str.ofString "NoDefinition") va >>= fun t8 => (bInt t8 >>= fun t9 => (binop .Add t7 t9 >>= fun t10 => (isUp (cf06 d) (Str.ofString "NoNumber") va >>= fun t11 => (bInt t11 >>= fun t12 => (binop .Add t10 t12 >>= fun t13 => (isUp (cf06 d) (Str.ofString "NoRecord") va >>= fun t14 => (bInt t14 >>= fun t15 => (binop .Add t13 t15 >>= fun t16 => (isUp (cf06 d) (Str.ofString "ValueError") va >>= fun t17 => (truth t17 >>= fun b18 => M.cond b18 (isUp (cf06 d) (Str.ofString "TooGreat") va >>= fun t19 => (bInt t19 >>= fun t20 => (binop .Add t16 t20 >>= fun t21 => (cmp .Eq t21 (V.int 1) >>= fun t22 => (pure t22 : M V))))) (pure t17 : M V)))))))))))))))))))) :=
 (cq06_succ L_lone_K d _).trans (by kernel_rfl)
noncomputable def L_top_body_F : Fn := (tx06.at "_law_top_body").getD ⟨[], [], []⟩
theorem L_top_body_K : tx06.at "_law_top_body" = some L_top_body_F := by kernel_rfl
noncomputable def L_top_body_a1 (d : Nat) (loc : Loc) : M V := exsK (cf06 d) (List.drop 3 L_top_body_F.body) L_top_body_F.names loc retK
noncomputable def L_top_body_c1 : Expr := (ePart (ePart (sVal (nthS L_top_body_F.body 3)) 2) 1)
theorem L_top_body_c1_in (va vb vc vd ve vf : V) (og oh : Option V) : innerLoc L_top_body_F.names [some va, some vb, some vc, some vd, some ve, some vf, og, oh, none, none, none, none, none] (cScope L_top_body_c1).names = pure [none, none, none, some vd, some ve, some vb, some va] := by kernel_rfl
theorem L_top_body_c1_bind (va vb vc vd : V) (oe : Option V) (vf : V) : bindTo (stLocL (relab L_top_body_F.names (cScope L_top_body_c1).names)) (cTgt L_top_body_c1) vf [none, oe, none, some vc, some vd, some vb, some va] = pure [none, some vf, none, some vc, some vd, some vb, some va] := by kernel_rfl
theorem L_top_body_c1_elt (d : Nat) (va vb vc vd ve : V) : ev (cf06 d) (cElt L_top_body_c1) (relab L_top_body_F.names (cScope L_top_body_c1).names) [none, some ve, none, some vc, some vd, some vb, some va] = (newO (.list []) >>= fun t0 => (binop .Sub vd (V.int 1) >>= fun t1 => (cl06 d "_law_body" [va, vb, t0, vc, t1] >>= fun t2 => (pure t2 : M V)))) := by kernel_rfl
theorem L_top_body_c1_tst (d : Nat) (loc : Loc) : tests (cf06 d) (cIfs L_top_body_c1) (relab L_top_body_F.names (cScope L_top_body_c1).names) loc = (pure true : M Bool) := by kernel_rfl
theorem L_top_body_c1_ok : compOk (cScope L_top_body_c1).kind (cScope L_top_body_c1).names = true := by kernel_rfl
theorem L_top_body_a1_eq (d : Nat) (va vb vc vd ve vf : V) (og oh : Option V) : L_top_body_a1 d [some va, some vb, some vc, some vd, some ve, some vf, og, oh, none, none, none, none, none] = (ofOpt og >>= fun t0 => (ofOpt oh >>= fun t1 => (rangeOf t1 >>= fun s2 => (compAll (cf06 d) (cElt L_top_body_c1) (cTgt L_top_body_c1) (cIfs L_top_body_c1) (cScope L_top_body_c1) s2 L_top_body_F.names [some va, some vb, some vc, some vd, some ve, some vf, og, oh, none, none, none, none, none] >>= fun t3 => (bTuple t3 >>= fun t4 => (pure (V.tup [(V.str (Str.ofString "call")), t0, t4]) : M V)))))) := by kernel_rfl
noncomputable def L_top_body_t1 (d : Nat) (va vb vc vd ve vf : V) : M V := (binop .FloorDiv vf (V.int 2) >>= fun t0 => (bLen vc >>= fun t1 => (binop .Mod t0 t1 >>= fun t2 => (item vc t2 >>= fun t3 => (bindTo (stLoc L_top_body_F.names) (sTgt (nthS L_top_body_F.body 2)) t3 [some va, some vb, some vc, some vd, some ve, some vf, none, none, none, none, none, none, none] >>= L_top_body_a1 d)))))
theorem L_top_body_sh (d : Nat) (va vb vc vd ve : V) : cl06 (d + 1) "_law_top_body" [va, vb, vc, vd, ve] = (cl06 d "_law_next" [va] >>= fun t0 => ((newO (.list []) >>= fun t1 => (cmp .Eq vc t1 >>= fun t2 => (truth t2 >>= fun b3 => (M.cond b3 (pure true : M Bool) (binop .Mod t0 (V.int 2) >>= fun t4 => (cmp .Eq t4 (V.int 0) >>= fun t5 => (truth t5 >>= fun b6 => (M.cond b6 (pure true : M Bool) (pure false : M Bool))))))))) >>= fun b7 => (M.cond b7 (cl06 d "_law_body" [va, vb, vc, vd, ve] >>= fun t8 => (pure t8 : M V)) (L_top_body_t1 d va vb vc vd ve t0)))) :=
 (cl06_succ L_top_body_K d _).trans (by kernel_rfl)
noncomputable def L_program_F : Fn := (tx06.at "_law_program").getD ⟨[], [], []⟩
theorem L_program_K : tx06.at "_law_program" = some L_program_F := by kernel_rfl
noncomputable def L_program_l1 : Stmt := (nthS L_program_F.body 2)
noncomputable def L_program_t1 (d : Nat) (va vb vc vd ve vf vg vh vi vj : V) (ok : Option V) : M (Fl × Loc) := (askS (mtag (cf06 d) vc "append") >>= fun g0 => (runM (cf06 d) "append" g0 vc [(V.tup [vh, vf, vj])] >>= fun t1 => (askS (mtag (cf06 d) vd "append") >>= fun g2 => (runM (cf06 d) "append" g2 vd [(V.tup [vh, vf])] >>= fun t3 => (pure (Fl.next, [some va, some vb, some vc, some vd, some ve, some vf, some vg, some vh, some vi, some vj, ok, none, none, none, none]) : M (Fl × Loc))))))
theorem L_program_l1_step (d : Nat) (va vb vc vd ve : V) (of og oh oi oj ok ol : Option V) : (bindTo (stLoc L_program_F.names) (sTgt L_program_l1) va [some vb, some vc, some vd, some ve, oh, of, ok, oi, og, oj, ol, none, none, none, none] >>= exs (cf06 d) (sBody L_program_l1) L_program_F.names) = (binop .Mult (V.int 3) va >>= fun t0 => (binop .Add (V.int 3) t0 >>= fun t1 => (cl06 d "_law_cell" [vb, t1] >>= fun t2 => (binop .Mod t2 (V.int 5) >>= fun t3 => (binop .Mult (V.int 3) va >>= fun t4 => (binop .Add (V.int 2) t4 >>= fun t5 => (cl06 d "_law_cell" [vb, t5] >>= fun t6 => (binop .Mod t6 (V.int 2147483645) >>= fun t7 => (binop .Add (V.int 1) t7 >>= fun t8 => (binop .Mult (V.int 3) va >>= fun t9 => (binop .Add (V.int 4) t9 >>= fun t10 => (cl06 d "_law_cell" [vb, t10] >>= fun t11 => (binop .Mod t11 (V.int 13) >>= fun t12 => (binop .Add (V.int 1) t12 >>= fun t13 => (newO (.list [t8, t13]) >>= fun t14 => (item (V.str (Str.ofString "defgh")) va >>= fun t15 => (cl06 d "_law_cell" [vb, (V.int 1)] >>= fun t16 => (binop .Mod t16 (V.int 8) >>= fun t17 => (binop .Add (V.int 1) t17 >>= fun t18 => (binop .Mult t15 t18 >>= fun t19 => (binop .Mult (V.int 3) va >>= fun t20 => (binop .Add (V.int 4) t20 >>= fun t21 => (cl06 d "_law_cell" [vb, t21] >>= fun t22 => (binop .FloorDiv t22 (V.int 13) >>= fun t23 => (binop .Mod t23 (V.int 2) >>= fun t24 => (binop .Sub (V.int 8) t24 >>= fun t25 => (cl06 d "_law_top_body" [t14, t3, ve, vc, t25] >>= fun t26 => (cmp .Eq t24 (V.int 1) >>= fun t27 => (truth t27 >>= fun b28 => (M.cond b28 (bSorted vc >>= fun t29 => (item t29 (V.int 3) >>= fun t30 => (item t29 (V.int 0) >>= fun t31 => (L_program_t1 d vb vc vd ve va t3 t14 t19 t24 (V.tup [(V.str (Str.ofString "make")), (V.tup [(V.tup [t30, t26]), (V.tup [t31, (V.tup [(V.str (Str.ofString "number")), va])])])]) (some t29))))) (L_program_t1 d vb vc vd ve va t3 t14 t19 t24 t26 ol))))))))))))))))))))))))))))))) := by kernel_rfl
noncomputable def L_program_a1 (d : Nat) (loc : Loc) : M V := exsK (cf06 d) (List.drop 3 L_program_F.body) L_program_F.names loc retK
theorem L_program_a1_eq (d : Nat) (va vb vc vd : V) (oe of og oh oi oj ok : Option V) : L_program_a1 d [some va, some vb, some vc, some vd, og, oe, oj, oh, of, oi, ok, none, none, none, none] = (pure vc : M V) := by kernel_rfl
theorem L_program_sh (d : Nat) (va vb : V) : cl06 (d + 1) "_law_program" [va, vb] = (newO (.list []) >>= fun t0 => (newO (.list []) >>= fun t1 => (cl06 d "_law_cell" [va, (V.int 0)] >>= fun t2 => (binop .Mod t2 (V.int 3) >>= fun t3 => (binop .Add (V.int 1) t3 >>= fun t4 => (rangeOf t4 >>= fun s5 => (forAll (cf06 d) (sTgt L_program_l1) (sBody L_program_l1) s5 L_program_F.names [some va, some vb, some t0, some t1, none, none, none, none, none, none, none, none, none, none, none] >>= flK retK (L_program_a1 d)))))))) :=
 (cl06_succ L_program_K d _).trans (by kernel_rfl)
noncomputable def L_value_F : Fn := (tx06.at "_law_value").getD ⟨[], [], []⟩
theorem L_value_K : tx06.at "_law_value" = some L_value_F := by kernel_rfl
noncomputable def L_value_c1 : Expr := (sVal (nthS L_value_F.body 2))
theorem L_value_c1_in (va vb vc vd : V) : innerLoc L_value_F.names [some va, some vb, some vc, some vd, none, none, none, none, none] (cScope L_value_c1).names = pure [none, none, some vb, some vd] := by kernel_rfl
theorem L_value_c1_bind (va vb : V) (oc : Option V) (vd : V) : bindTo (stLocL (relab L_value_F.names (cScope L_value_c1).names)) (cTgt L_value_c1) vd [none, oc, some va, some vb] = pure [none, some vd, some va, some vb] := by kernel_rfl
theorem L_value_c1_elt (d : Nat) (va vb vc : V) : ev (cf06 d) (cElt L_value_c1) (relab L_value_F.names (cScope L_value_c1).names) [none, some vc, some va, some vb] = (item va vc >>= fun t0 => (pure t0 : M V)) := by kernel_rfl
theorem L_value_c1_tst (d : Nat) (va vb vc : V) : tests (cf06 d) (cIfs L_value_c1) (relab L_value_F.names (cScope L_value_c1).names) [none, some vc, some va, some vb] = (binop .Add vc (V.int 1) >>= fun t0 => (binop .Mult (V.int 3) t0 >>= fun t1 => (binop .FloorDiv vb t1 >>= fun t2 => (binop .Mod t2 (V.int 2) >>= fun t3 => (cmp .Eq t3 (V.int 0) >>= fun t4 => (truth t4 >>= fun b5 => (pure b5 : M Bool))))))) := by kernel_rfl
theorem L_value_c1_ok : compOk (cScope L_value_c1).kind (cScope L_value_c1).names = true := by kernel_rfl
noncomputable def L_value_c2 : Expr := (ePart (sVal (nthS L_value_F.body 3)) 1)
theorem L_value_c2_in (va vb vc vd ve : V) : innerLoc L_value_F.names [some va, some vb, some vc, some vd, some ve, none, none, none, none] (cScope L_value_c2).names = pure [none, none, none, some vb, some vc, some va] := by kernel_rfl
theorem L_value_c2_bind (va vb vc : V) (od : Option V) (ve : V) : bindTo (stLocL (relab L_value_F.names (cScope L_value_c2).names)) (cTgt L_value_c2) ve [none, od, none, some vb, some vc, some va] = pure [none, some ve, none, some vb, some vc, some va] := by kernel_rfl
theorem L_value_c2_elt (d : Nat) (va vb vc vd : V) : ev (cf06 d) (cElt L_value_c2) (relab L_value_F.names (cScope L_value_c2).names) [none, some vd, none, some vb, some vc, some va] = (binop .Sub vc (V.int 1) >>= fun t0 => (cl06 d "_law_value" [va, vb, t0] >>= fun t1 => (pure (V.tup [vd, t1]) : M V))) := by kernel_rfl
theorem L_value_c2_tst (d : Nat) (loc : Loc) : tests (cf06 d) (cIfs L_value_c2) (relab L_value_F.names (cScope L_value_c2).names) loc = (pure true : M Bool) := by kernel_rfl
theorem L_value_c2_ok : compOk (cScope L_value_c2).kind (cScope L_value_c2).names = true := by kernel_rfl
noncomputable def L_value_t1 (d : Nat) (va vb vc vd : V) : M V := (rangeOf (V.int 4) >>= fun s0 => (compAll (cf06 d) (cElt L_value_c1) (cTgt L_value_c1) (cIfs L_value_c1) (cScope L_value_c1) s0 L_value_F.names [some va, some vb, some vc, some vd, none, none, none, none, none] >>= fun t1 => (bSorted t1 >>= fun t2 => (srcV t2 >>= fun s3 => (compAll (cf06 d) (cElt L_value_c2) (cTgt L_value_c2) (cIfs L_value_c2) (cScope L_value_c2) s3 L_value_F.names [some va, some vb, some vc, some vd, some t1, none, none, none, none] >>= fun t4 => (bTuple t4 >>= fun t5 => (pure t5 : M V)))))))
theorem L_value_sh (d : Nat) (va vb vc : V) : cl06 (d + 1) "_law_value" [va, vb, vc] = (cl06 d "_law_next" [va] >>= fun t0 => ((cmp .LtE vc (V.int 1) >>= fun t1 => (truth t1 >>= fun b2 => (M.cond b2 (pure true : M Bool) (binop .Mod t0 (V.int 3) >>= fun t3 => (cmp .Eq t3 (V.int 0) >>= fun t4 => (truth t4 >>= fun b5 => (M.cond b5 (pure true : M Bool) (pure false : M Bool)))))))) >>= fun b6 => (M.cond b6 (binop .FloorDiv t0 (V.int 3) >>= fun t7 => (binop .Mod t7 (V.int 3) >>= fun t8 => (binop .FloorDiv t0 (V.int 3) >>= fun t9 => (binop .Pow (V.int 10) (V.int 12) >>= fun t10 => (binop .Mult (V.int 2) t10 >>= fun t11 => (binop .Add t11 (V.int 1) >>= fun t12 => (binop .Mod t9 t12 >>= fun t13 => (binop .Pow (V.int 10) (V.int 12) >>= fun t14 => (binop .Sub t13 t14 >>= fun t15 => (newO (.list [t8, t15]) >>= fun t16 => (binop .FloorDiv t0 (V.int 9) >>= fun t17 => (binop .Mod t17 (V.int 2) >>= fun t18 => (item t16 t18 >>= fun t19 => (pure t19 : M V)))))))))))))) (L_value_t1 d va vb vc t0)))) :=
 (cl06_succ L_value_K d _).trans (by kernel_rfl)
noncomputable def L_of_F : Fn := (tx06.at "_law_of").getD ⟨[], [], []⟩
theorem L_of_K : tx06.at "_law_of" = some L_of_F := by kernel_rfl
noncomputable def L_of_l1 : Stmt := (nthS L_of_F.body 1)
theorem L_of_l1_step (d : Nat) (va vb vc vd : V) (oe : Option V) : (bindTo (stLoc L_of_F.names) (sTgt L_of_l1) va [some vb, some vc, some vd, oe, none, none, none, none] >>= exs (cf06 d) (sBody L_of_l1) L_of_F.names) = (item vb va >>= fun t0 => (item t0 (V.int 0) >>= fun t1 => (cmp .Eq t1 vc >>= fun t2 => (truth t2 >>= fun b3 => (M.cond b3 (item vb va >>= fun t4 => (item t4 (V.int 1) >>= fun t5 => (bound V.none >>= fun i6 => bound va >>= fun i7 => sliceV i6 i7 vb >>= fun t8 => (binop .Add t8 (V.tup [(V.tup [vc, vd])]) >>= fun t9 => (binop .Add va (V.int 1) >>= fun t10 => (bound t10 >>= fun i11 => bound V.none >>= fun i12 => sliceV i11 i12 vb >>= fun t13 => (binop .Add t9 t13 >>= fun t14 => (pure (Fl.ret (V.tup [(V.str (Str.ofString "yes")), t5, t14]), [some vb, some vc, some vd, some va, none, none, none, none]) : M (Fl × Loc))))))))) (pure (Fl.next, [some vb, some vc, some vd, some va, none, none, none, none]) : M (Fl × Loc))))))) := by kernel_rfl
noncomputable def L_of_a1 (d : Nat) (loc : Loc) : M V := exsK (cf06 d) (List.drop 2 L_of_F.body) L_of_F.names loc retK
theorem L_of_a1_eq (d : Nat) (va vb vc : V) (od : Option V) : L_of_a1 d [some va, some vb, some vc, od, none, none, none, none] = (pure (V.tup [(V.str (Str.ofString "no")), (V.str (Str.ofString "Lacks"))]) : M V) := by kernel_rfl
noncomputable def L_of_t1 (d : Nat) (va vb vc : V) : M V := (bLen va >>= fun t0 => (rangeOf t0 >>= fun s1 => (forAll (cf06 d) (sTgt L_of_l1) (sBody L_of_l1) s1 L_of_F.names [some va, some vb, some vc, none, none, none, none, none] >>= flK retK (L_of_a1 d))))
theorem L_of_sh (d : Nat) (va vb vc : V) : cl06 (d + 1) "_law_of" [va, vb, vc] = (isKd Kd.tuple va >>= fun t0 => (truth t0 >>= fun b1 => (M.cond (!b1) (pure (V.tup [(V.str (Str.ofString "no")), (V.str (Str.ofString "NoRecord"))]) : M V) (L_of_t1 d va vb vc)))) :=
 (cl06_succ L_of_K d _).trans (by kernel_rfl)
noncomputable def L_all_F : Fn := (tx06.at "_law_all").getD ⟨[], [], []⟩
theorem L_all_K : tx06.at "_law_all" = some L_all_F := by kernel_rfl
noncomputable def L_all_l1 : Stmt := (nthS L_all_F.body 1)
noncomputable def L_all_t1 (d : Nat) (va vb vc vd ve vf : V) : M (Fl × Loc) := (askS (mtag (cf06 d) vd "append") >>= fun g0 => (item vf (V.int 1) >>= fun t1 => (runM (cf06 d) "append" g0 vd [t1] >>= fun t2 => (pure (Fl.next, [some va, some vb, some vc, some vd, some ve, some vf, none]) : M (Fl × Loc)))))
theorem L_all_l1_step (d : Nat) (va vb vc vd ve : V) (of og : Option V) : (bindTo (stLoc L_all_F.names) (sTgt L_all_l1) va [some vb, some vc, some vd, some ve, og, of, none] >>= exs (cf06 d) (sBody L_all_l1) L_all_F.names) = (cl06 d "_law_ran" [va, vc, vd] >>= fun t0 => (item t0 (V.int 0) >>= fun t1 => (cmp .Eq t1 (V.str (Str.ofString "no")) >>= fun t2 => (truth t2 >>= fun b3 => (M.cond b3 (pure (Fl.ret t0, [some vb, some vc, some vd, some ve, some va, some t0, none]) : M (Fl × Loc)) (L_all_t1 d vb vc vd ve va t0)))))) := by kernel_rfl
noncomputable def L_all_a1 (d : Nat) (loc : Loc) : M V := exsK (cf06 d) (List.drop 2 L_all_F.body) L_all_F.names loc retK
theorem L_all_a1_eq (d : Nat) (va vb vc vd : V) (oe of : Option V) : L_all_a1 d [some va, some vb, some vc, some vd, of, oe, none] = (pure (V.tup [(V.str (Str.ofString "yes")), vd]) : M V) := by kernel_rfl
theorem L_all_sh (d : Nat) (va vb vc : V) : cl06 (d + 1) "_law_all" [va, vb, vc] = (newO (.list []) >>= fun t0 => (srcV va >>= fun s1 => (forAll (cf06 d) (sTgt L_all_l1) (sBody L_all_l1) s1 L_all_F.names [some va, some vb, some vc, some t0, none, none, none] >>= flK retK (L_all_a1 d)))) :=
 (cl06_succ L_all_K d _).trans (by kernel_rfl)
noncomputable def L_asked_F : Fn := (tx06.at "_law_asked").getD ⟨[], [], []⟩
theorem L_asked_K : tx06.at "_law_asked" = some L_asked_F := by kernel_rfl
noncomputable def L_asked_t3 (d : Nat) (va vb vc vd ve vf : V) : M V := (item vd (V.int 1) >>= fun t0 => (item va (V.int 2) >>= fun t1 => (item vf (V.int 1) >>= fun t2 => (cl06 d "_law_of" [t0, t1, t2] >>= fun t3 => (item t3 (V.int 2) >>= fun t4 => (pure (V.tup [(V.str (Str.ofString "yes")), t4]) : M V))))))
noncomputable def L_asked_t2 (d : Nat) (va vb vc vd ve : V) : M V := (item va (V.int 3) >>= fun t0 => (cl06 d "_law_ran" [t0, vb, vc] >>= fun t1 => (item t1 (V.int 0) >>= fun t2 => (cmp .Eq t2 (V.str (Str.ofString "no")) >>= fun t3 => (truth t3 >>= fun b4 => (M.cond b4 (pure t1 : M V) (L_asked_t3 d va vb vc vd ve t1)))))))
noncomputable def L_asked_t1 (d : Nat) (va vb vc vd : V) : M V := (item vd (V.int 1) >>= fun t0 => (item va (V.int 2) >>= fun t1 => (cl06 d "_law_of" [t0, t1, (V.int 0)] >>= fun t2 => ((item t2 (V.int 0) >>= fun t3 => (cmp .Eq t3 (V.str (Str.ofString "no")) >>= fun t4 => (truth t4 >>= fun b5 => (M.cond b5 (pure true : M Bool) (item va (V.int 0) >>= fun t6 => (cmp .Eq t6 (V.str (Str.ofString "get")) >>= fun t7 => (truth t7 >>= fun b8 => (M.cond b8 (pure true : M Bool) (pure false : M Bool))))))))) >>= fun b9 => (M.cond b9 (bound V.none >>= fun i10 => bound (V.int 2) >>= fun i11 => sliceV i10 i11 t2 >>= fun t12 => (pure t12 : M V)) (L_asked_t2 d va vb vc vd t2))))))
theorem L_asked_sh (d : Nat) (va vb vc : V) : cl06 (d + 1) "_law_asked" [va, vb, vc] = (item va (V.int 1) >>= fun t0 => (cl06 d "_law_ran" [t0, vb, vc] >>= fun t1 => (item t1 (V.int 0) >>= fun t2 => (cmp .Eq t2 (V.str (Str.ofString "no")) >>= fun t3 => (truth t3 >>= fun b4 => (M.cond b4 (pure t1 : M V) (L_asked_t1 d va vb vc t1))))))) :=
 (cl06_succ L_asked_K d _).trans (by kernel_rfl)
noncomputable def L_made_F : Fn := (tx06.at "_law_made").getD ⟨[], [], []⟩
theorem L_made_K : tx06.at "_law_made" = some L_made_F := by kernel_rfl
noncomputable def L_made_c1 : Expr := (ePart (sVal (nthS L_made_F.body 0)) 1)
theorem L_made_c1_in (va vb vc : V) : innerLoc L_made_F.names [some va, some vb, some vc, none, none, none, none, none] (cScope L_made_c1).names = pure [none, none] := by kernel_rfl
theorem L_made_c1_bind (oa : Option V) (vb : V) : bindTo (stLocL (relab L_made_F.names (cScope L_made_c1).names)) (cTgt L_made_c1) vb [none, oa] = pure [none, some vb] := by kernel_rfl
theorem L_made_c1_elt (d : Nat) (va : V) : ev (cf06 d) (cElt L_made_c1) (relab L_made_F.names (cScope L_made_c1).names) [none, some va] = (item va (V.int 1) >>= fun t0 => (pure t0 : M V)) := by kernel_rfl
theorem L_made_c1_tst (d : Nat) (loc : Loc) : tests (cf06 d) (cIfs L_made_c1) (relab L_made_F.names (cScope L_made_c1).names) loc = (pure true : M Bool) := by kernel_rfl
theorem L_made_c1_ok : compOk (cScope L_made_c1).kind (cScope L_made_c1).names = true := by kernel_rfl
noncomputable def L_made_c2 : Expr := (sVal (nthS L_made_F.body 2))
theorem L_made_c2_in (va vb vc vd : V) : innerLoc L_made_F.names [some va, some vb, some vc, some vd, none, none, none, none] (cScope L_made_c2).names = pure [none, none] := by kernel_rfl
theorem L_made_c2_bind (oa : Option V) (vb : V) : bindTo (stLocL (relab L_made_F.names (cScope L_made_c2).names)) (cTgt L_made_c2) vb [none, oa] = pure [none, some vb] := by kernel_rfl
theorem L_made_c2_elt (d : Nat) (va : V) : ev (cf06 d) (cElt L_made_c2) (relab L_made_F.names (cScope L_made_c2).names) [none, some va] = (item va (V.int 0) >>= fun t0 => (pure t0 : M V)) := by kernel_rfl
theorem L_made_c2_tst (d : Nat) (loc : Loc) : tests (cf06 d) (cIfs L_made_c2) (relab L_made_F.names (cScope L_made_c2).names) loc = (pure true : M Bool) := by kernel_rfl
theorem L_made_c2_ok : compOk (cScope L_made_c2).kind (cScope L_made_c2).names = true := by kernel_rfl
noncomputable def L_made_c3 : Expr := (ePart (ePart (sVal (nthS L_made_F.body 3)) 1) 1)
theorem L_made_c3_in (va vb vc vd ve : V) : innerLoc L_made_F.names [some va, some vb, some vc, some vd, some ve, none, none, none] (cScope L_made_c3).names = pure [none, none, some ve, some vd] := by kernel_rfl
theorem L_made_c3_bind (va vb : V) (oc : Option V) (vd : V) : bindTo (stLocL (relab L_made_F.names (cScope L_made_c3).names)) (cTgt L_made_c3) vd [none, oc, some vb, some va] = pure [none, some vd, some vb, some va] := by kernel_rfl
theorem L_made_c3_elt (d : Nat) (va vb vc : V) : ev (cf06 d) (cElt L_made_c3) (relab L_made_F.names (cScope L_made_c3).names) [none, some vc, some vb, some va] = (item va (V.int 1) >>= fun t0 => (askS (mtag (cf06 d) vb "index") >>= fun g1 => (runM (cf06 d) "index" g1 vb [vc] >>= fun t2 => (item t0 t2 >>= fun t3 => (pure (V.tup [vc, t3]) : M V))))) := by kernel_rfl
theorem L_made_c3_tst (d : Nat) (loc : Loc) : tests (cf06 d) (cIfs L_made_c3) (relab L_made_F.names (cScope L_made_c3).names) loc = (pure true : M Bool) := by kernel_rfl
theorem L_made_c3_ok : compOk (cScope L_made_c3).kind (cScope L_made_c3).names = true := by kernel_rfl
noncomputable def L_made_t1 (d : Nat) (va vb vc vd : V) : M V := (item va (V.int 1) >>= fun t0 => (srcV t0 >>= fun s1 => (compAll (cf06 d) (cElt L_made_c2) (cTgt L_made_c2) (cIfs L_made_c2) (cScope L_made_c2) s1 L_made_F.names [some va, some vb, some vc, some vd, none, none, none, none] >>= fun t2 => (bSorted t2 >>= fun t3 => (srcV t3 >>= fun s4 => (compAll (cf06 d) (cElt L_made_c3) (cTgt L_made_c3) (cIfs L_made_c3) (cScope L_made_c3) s4 L_made_F.names [some va, some vb, some vc, some vd, some t2, none, none, none] >>= fun t5 => (bTuple t5 >>= fun t6 => (pure (V.tup [(V.str (Str.ofString "yes")), t6]) : M V))))))))
theorem L_made_sh (d : Nat) (va vb vc : V) : cl06 (d + 1) "_law_made" [va, vb, vc] = (item va (V.int 1) >>= fun t0 => (srcV t0 >>= fun s1 => (compAll (cf06 d) (cElt L_made_c1) (cTgt L_made_c1) (cIfs L_made_c1) (cScope L_made_c1) s1 L_made_F.names [some va, some vb, some vc, none, none, none, none, none] >>= fun t2 => (cl06 d "_law_all" [t2, vb, vc] >>= fun t3 => (item t3 (V.int 0) >>= fun t4 => (cmp .Eq t4 (V.str (Str.ofString "no")) >>= fun t5 => (truth t5 >>= fun b6 => (M.cond b6 (pure t3 : M V) (L_made_t1 d va vb vc t3))))))))) :=
 (cl06_succ L_made_K d _).trans (by kernel_rfl)
noncomputable def L_number_F : Fn := (tx06.at "_law_number").getD ⟨[], [], []⟩
theorem L_number_K : tx06.at "_law_number" = some L_number_F := by kernel_rfl
noncomputable def L_number_t1 (d : Nat) (va vb vc vd : V) : M V := (pure vd : M V)
theorem L_number_sh (d : Nat) (va vb vc : V) : cl06 (d + 1) "_law_number" [va, vb, vc] = (cl06 d "_law_ran" [va, vb, vc] >>= fun t0 => ((item t0 (V.int 0) >>= fun t1 => (cmp .Eq t1 (V.str (Str.ofString "yes")) >>= fun t2 => (truth t2 >>= fun b3 => (M.cond b3 (item t0 (V.int 1) >>= fun t4 => (isKd Kd.tuple t4 >>= fun t5 => (truth t5 >>= fun b6 => (M.cond b6 (pure true : M Bool) (pure false : M Bool))))) (pure false : M Bool))))) >>= fun b7 => (M.cond b7 (pure (V.tup [(V.str (Str.ofString "no")), (V.str (Str.ofString "NoNumber"))]) : M V) (L_number_t1 d va vb vc t0)))) :=
 (cl06_succ L_number_K d _).trans (by kernel_rfl)
noncomputable def L_ran_F : Fn := (tx06.at "_law_ran").getD ⟨[], [], []⟩
theorem L_ran_K : tx06.at "_law_ran" = some L_ran_F := by kernel_rfl
noncomputable def L_ran_t7 (d : Nat) (va vb vc : V) (od : Option V) (ve : V) : M V := (item va (V.int 2) >>= fun t0 => (cl06 d "_law_number" [t0, vb, vc] >>= fun t1 => (item t1 (V.int 0) >>= fun t2 => (cmp .Eq t2 (V.str (Str.ofString "no")) >>= fun t3 => (truth t3 >>= fun b4 => (M.cond b4 (pure t1 : M V) (item ve (V.int 1) >>= fun t5 => (item t1 (V.int 1) >>= fun t6 => (binop .Add t5 t6 >>= fun t7 => (pure (V.tup [(V.str (Str.ofString "yes")), t7]) : M V))))))))))
noncomputable def L_ran_t6 (d : Nat) (va vb vc : V) (od : Option V) (ve : V) : M V := (item va (V.int 0) >>= fun t0 => (cmp .Eq t0 (V.str (Str.ofString "if")) >>= fun t1 => (truth t1 >>= fun b2 => (M.cond b2 (item ve (V.int 1) >>= fun t3 => (cmp .Eq t3 (V.int 0) >>= fun t4 => (bInt t4 >>= fun t5 => (binop .Add (V.int 2) t5 >>= fun t6 => (item va t6 >>= fun t7 => (cl06 d "_law_ran" [t7, vb, vc] >>= fun t8 => (pure t8 : M V))))))) (L_ran_t7 d va vb vc od ve)))))
noncomputable def L_ran_t5 (d : Nat) (va vb vc : V) (od : Option V) : M V := (item va (V.int 1) >>= fun t0 => (cl06 d "_law_number" [t0, vb, vc] >>= fun t1 => (item t1 (V.int 0) >>= fun t2 => (cmp .Eq t2 (V.str (Str.ofString "no")) >>= fun t3 => (truth t3 >>= fun b4 => (M.cond b4 (pure t1 : M V) (L_ran_t6 d va vb vc od t1)))))))
noncomputable def L_ran_t4 (d : Nat) (va vb vc : V) : M V := (item va (V.int 0) >>= fun t0 => (cmp .Eq t0 (V.str (Str.ofString "call")) >>= fun t1 => (truth t1 >>= fun b2 => (M.cond b2 (item va (V.int 2) >>= fun t3 => (cl06 d "_law_all" [t3, vb, vc] >>= fun t4 => (item t4 (V.int 0) >>= fun t5 => (cmp .Eq t5 (V.str (Str.ofString "no")) >>= fun t6 => (truth t6 >>= fun b7 => (M.cond b7 (pure t4 : M V) (item va (V.int 1) >>= fun t8 => (item vc t8 >>= fun t9 => (item t4 (V.int 1) >>= fun t10 => (cl06 d "_law_ran" [t9, t10, vc] >>= fun t11 => (pure t11 : M V))))))))))) (L_ran_t5 d va vb vc none)))))
noncomputable def L_ran_t3 (d : Nat) (va vb vc : V) : M V := ((item va (V.int 0) >>= fun t0 => (cmp .Eq t0 (V.str (Str.ofString "get")) >>= fun t1 => (truth t1 >>= fun b2 => (M.cond b2 (pure true : M Bool) (item va (V.int 0) >>= fun t3 => (cmp .Eq t3 (V.str (Str.ofString "put")) >>= fun t4 => (truth t4 >>= fun b5 => (M.cond b5 (pure true : M Bool) (pure false : M Bool))))))))) >>= fun b6 => (M.cond b6 (cl06 d "_law_asked" [va, vb, vc] >>= fun t7 => (pure t7 : M V)) (L_ran_t4 d va vb vc)))
noncomputable def L_ran_t2 (d : Nat) (va vb vc : V) : M V := (item va (V.int 0) >>= fun t0 => (cmp .Eq t0 (V.str (Str.ofString "make")) >>= fun t1 => (truth t1 >>= fun b2 => (M.cond b2 (cl06 d "_law_made" [va, vb, vc] >>= fun t3 => (pure t3 : M V)) (L_ran_t3 d va vb vc)))))
noncomputable def L_ran_t1 (d : Nat) (va vb vc : V) : M V := (item va (V.int 0) >>= fun t0 => (cmp .Eq t0 (V.str (Str.ofString "input")) >>= fun t1 => (truth t1 >>= fun b2 => (M.cond b2 (item va (V.int 1) >>= fun t3 => (item vb t3 >>= fun t4 => (pure (V.tup [(V.str (Str.ofString "yes")), t4]) : M V))) (L_ran_t2 d va vb vc)))))
theorem L_ran_sh (d : Nat) (va vb vc : V) : cl06 (d + 1) "_law_ran" [va, vb, vc] = (item va (V.int 0) >>= fun t0 => (cmp .Eq t0 (V.str (Str.ofString "number")) >>= fun t1 => (truth t1 >>= fun b2 => (M.cond b2 (item va (V.int 1) >>= fun t3 => (pure (V.tup [(V.str (Str.ofString "yes")), t3]) : M V)) (L_ran_t1 d va vb vc))))) :=
 (cl06_succ L_ran_K d _).trans (by kernel_rfl)
noncomputable def L_tried_F : Fn := (tx06.at "_law_tried").getD ⟨[], [], []⟩
theorem L_tried_K : tx06.at "_law_tried" = some L_tried_F := by kernel_rfl
noncomputable def L_tried_t3 (d : Nat) (va vb vc vd : V) : M (Fl × Loc) := (newO (.list [(V.str (Str.ofString "NoDefinition")), (V.str (Str.ofString "NoRecord"))]) >>= fun t0 => (isUp (cf06 d) (Str.ofString "NoRecord") vd >>= fun t1 => (bInt t1 >>= fun t2 => (item t0 t2 >>= fun t3 => (pure (Fl.ret (V.tup [(V.str (Str.ofString "no")), t3]), [some va, some vb, some vc, some vd, none, none, none, none, none, none, none, none]) : M (Fl × Loc))))))
noncomputable def L_tried_t2 (d : Nat) (va vb vc vd : V) : M (Fl × Loc) := (isUp (cf06 d) (Str.ofString "NoNumber") vd >>= fun t0 => (truth t0 >>= fun b1 => (M.cond b1 (pure (Fl.ret (V.tup [(V.str (Str.ofString "no")), (V.str (Str.ofString "NoNumber"))]), [some va, some vb, some vc, some vd, none, none, none, none, none, none, none, none]) : M (Fl × Loc)) (L_tried_t3 d va vb vc vd))))
noncomputable def L_tried_t1 (d : Nat) (va vb vc vd : V) : M (Fl × Loc) := (isUp (cf06 d) (Str.ofString "Lacks") vd >>= fun t0 => (truth t0 >>= fun b1 => (M.cond b1 (pure (Fl.ret (V.tup [(V.str (Str.ofString "no")), (V.str (Str.ofString "Lacks"))]), [some va, some vb, some vc, some vd, none, none, none, none, none, none, none, none]) : M (Fl × Loc)) (L_tried_t2 d va vb vc vd))))
noncomputable def L_tried_h (d : Nat) (va vb vc e440 : V) : M (Fl × Loc) := (cq06 d "_law_lone" [e440] >>= fun t0 => (truth t0 >>= fun b1 => (M.cond (!b1) (pure (Fl.ret (V.tup [(V.str (Str.ofString "no")), (V.str (Str.ofString "more"))]), [some va, some vb, some vc, some e440, none, none, none, none, none, none, none, none]) : M (Fl × Loc)) (L_tried_t1 d va vb vc e440))))
theorem L_tried_sh (d : Nat) (va vb vc : V) : cl06 (d + 1) "_law_tried" [va, vb, vc] = (M.tryd (cl06 d "run" [va, vb, vc] >>= fun t0 => (pure (V.tup [(V.str (Str.ofString "yes")), t0]) : M V)) (fun v => (pure v : M V)) (fun e440 => (excIs (cf06 d) (Str.ofString "FieldError") e440 >>= fun b => if b = true then (M.safe (L_tried_h d va vb vc e440) >>= fun r => (pure (r.1, dropLoc r.2) : M (Fl × Loc))) else M.bad) >>= fun x => andThen x (exs (cf06 d) [] L_tried_F.names) >>= retK)) :=
 (cl06_succ L_tried_K d _).trans (by kernel_rfl)
noncomputable def L_alike_F : Fn := (tx06.at "_law_alike").getD ⟨[], [], []⟩
theorem L_alike_K : tx06.at "_law_alike" = some L_alike_F := by kernel_rfl
noncomputable def L_alike_t2 (d : Nat) (va vb : V) : M V := (isKd Kd.int va >>= fun t0 => (truth t0 >>= fun b1 => M.cond b1 (isKd Kd.bool va >>= fun t2 => (truth t2 >>= fun b3 => (truth (V.bool (!b3)) >>= fun b4 => M.cond b4 (cmp .Eq va vb >>= fun t5 => (pure t5 : M V)) (pure (V.bool (!b3)) : M V)))) (pure t0 : M V)))
noncomputable def L_alike_t1 (d : Nat) (va vb : V) : M V := (isKd Kd.str vb >>= fun t0 => (truth t0 >>= fun b1 => (M.cond b1 (isKd Kd.str va >>= fun t2 => (truth t2 >>= fun b3 => M.cond b3 (cmp .Eq va vb >>= fun t4 => (pure t4 : M V)) (pure t2 : M V))) (L_alike_t2 d va vb))))
noncomputable def L_alike_c1 : Expr := (ePart (sVal (nthS (sBody (nthS L_alike_F.body 0)) 1)) 1)
theorem L_alike_c1_in (va vb : V) : innerLoc L_alike_F.names [some va, some vb, none, none, none, none, none, none, none, none] (cScope L_alike_c1).names = pure [none, none, none, some vb, some va] := by kernel_rfl
theorem L_alike_c1_bind (va vb : V) (oc : Option V) (vd : V) : bindTo (stLocL (relab L_alike_F.names (cScope L_alike_c1).names)) (cTgt L_alike_c1) vd [none, oc, none, some vb, some va] = pure [none, some vd, none, some vb, some va] := by kernel_rfl
theorem L_alike_c1_elt (d : Nat) (va vb vc : V) : ev (cf06 d) (cElt L_alike_c1) (relab L_alike_F.names (cScope L_alike_c1).names) [none, some vc, none, some vb, some va] = (item va vc >>= fun t0 => (item vb vc >>= fun t1 => (cl06 d "_law_alike" [t0, t1] >>= fun t2 => (pure t2 : M V)))) := by kernel_rfl
theorem L_alike_c1_tst (d : Nat) (loc : Loc) : tests (cf06 d) (cIfs L_alike_c1) (relab L_alike_F.names (cScope L_alike_c1).names) loc = (pure true : M Bool) := by kernel_rfl
theorem L_alike_c1_ok : compOk (cScope L_alike_c1).kind (cScope L_alike_c1).names = true := by kernel_rfl
noncomputable def L_alike_t3 (d : Nat) (va vb : V) : M V := (bLen vb >>= fun t0 => (rangeOf t0 >>= fun s1 => (compAll (cf06 d) (cElt L_alike_c1) (cTgt L_alike_c1) (cIfs L_alike_c1) (cScope L_alike_c1) s1 L_alike_F.names [some va, some vb, none, none, none, none, none, none, none, none] >>= fun t2 => (bAll t2 >>= fun t3 => (pure t3 : M V)))))
theorem L_alike_sh (d : Nat) (va vb : V) : cl06 (d + 1) "_law_alike" [va, vb] = (isKd Kd.tuple vb >>= fun t0 => (truth t0 >>= fun b1 => (M.cond b1 ((isKd Kd.tuple va >>= fun t2 => (truth t2 >>= fun b3 => (M.cond (!b3) (pure true : M Bool) (bLen va >>= fun t4 => (bLen vb >>= fun t5 => (cmp .NotEq t4 t5 >>= fun t6 => (truth t6 >>= fun b7 => (M.cond b7 (pure true : M Bool) (pure false : M Bool))))))))) >>= fun b8 => (M.cond b8 (pure (V.bool false) : M V) (L_alike_t3 d va vb))) (L_alike_t1 d va vb)))) :=
 (cl06_succ L_alike_K d _).trans (by kernel_rfl)
noncomputable def L_law_F : Fn := (tx06.at "law").getD ⟨[], [], []⟩
theorem L_law_K : tx06.at "law" = some L_law_F := by kernel_rfl
noncomputable def L_law_c1 : Expr := (sVal (nthS L_law_F.body 4))
theorem L_law_c1_in (va vb vc vd ve : V) : innerLoc L_law_F.names [some va, some vb, some vc, some vd, some ve, none, none, none, none, none, none, none, none, none, none, none, none, none, none, none] (cScope L_law_c1).names = pure [none, none, none, none, some vb, some va, some ve] := by kernel_rfl
theorem L_law_c1_bind (va vb vc : V) (od : Option V) (ve : V) : bindTo (stLocL (relab L_law_F.names (cScope L_law_c1).names)) (cTgt L_law_c1) ve [none, od, none, none, some vb, some va, some vc] = pure [none, some ve, none, none, some vb, some va, some vc] := by kernel_rfl
theorem L_law_c1_elt (d : Nat) (va vb vc vd : V) : ev (cf06 d) (cElt L_law_c1) (relab L_law_F.names (cScope L_law_c1).names) [none, some vd, none, none, some vb, some va, some vc] = (cl06 d "_law_cell" [va, (V.int 15)] >>= fun t0 => (binop .Mod t0 (V.int 5) >>= fun t1 => (binop .Add (V.int 1) t1 >>= fun t2 => (cl06 d "_law_value" [vc, vb, t2] >>= fun t3 => (pure t3 : M V))))) := by kernel_rfl
theorem L_law_c1_tst (d : Nat) (loc : Loc) : tests (cf06 d) (cIfs L_law_c1) (relab L_law_F.names (cScope L_law_c1).names) loc = (pure true : M Bool) := by kernel_rfl
theorem L_law_c1_ok : compOk (cScope L_law_c1).kind (cScope L_law_c1).names = true := by kernel_rfl
noncomputable def L_law_l1 : Stmt := (nthS L_law_F.body 6)
theorem L_law_l1_step (d : Nat) (va vb vc vd ve vf vg vh : V) (oi : Option V) : (bindTo (stLoc L_law_F.names) (sTgt L_law_l1) va [some vb, some vc, some vd, some ve, some vf, some vg, some vh, oi, none, none, none, none, none, none, none, none, none, none, none, none] >>= exs (cf06 d) (sBody L_law_l1) L_law_F.names) = (item va (V.int 2) >>= fun t0 => (item va (V.int 0) >>= fun t1 => (setItem vh t1 t0 >>= fun ya => (pure (Fl.next, [some vb, some vc, some vd, some ve, some vf, some vg, some vh, some va, none, none, none, none, none, none, none, none, none, none, none, none]) : M (Fl × Loc))))) := by kernel_rfl
noncomputable def L_law_a1 (d : Nat) (loc : Loc) : M V := exsK (cf06 d) (List.drop 7 L_law_F.body) L_law_F.names loc retK
noncomputable def L_law_l2 : Stmt := (nthS L_law_F.body 9)
theorem L_law_l2_step (d : Nat) (va vb vc vd ve vf vg vh : V) (oi : Option V) (vj vk : V) (ol : Option V) : (bindTo (stLoc L_law_F.names) (sTgt L_law_l2) va [some vb, some vc, some vd, some ve, some vf, some vg, some vh, oi, some vj, some vk, ol, none, none, none, none, none, none, none, none, none] >>= exs (cf06 d) (sBody L_law_l2) L_law_F.names) = ((item vj (V.int 0) >>= fun t0 => (item vj (V.int 1) >>= fun t1 => (cl06 d "_law_tried" [t0, ve, t1] >>= fun t2 => (cl06 d "_law_alike" [t2, vk] >>= fun t3 => (truth t3 >>= fun b4 => (M.cond (!b4) (pure true : M Bool) (newO (.list [vd, vg]) >>= fun t5 => (cmp .NotEq vj t5 >>= fun t6 => (truth t6 >>= fun b7 => (M.cond b7 (pure true : M Bool) (pure false : M Bool))))))))))) >>= fun b8 => (M.cond b8 (pure (Fl.ret (V.bool false), [some vb, some vc, some vd, some ve, some vf, some vg, some vh, oi, some vj, some vk, some va, none, none, none, none, none, none, none, none, none]) : M (Fl × Loc)) (pure (Fl.next, [some vb, some vc, some vd, some ve, some vf, some vg, some vh, oi, some vj, some vk, some va, none, none, none, none, none, none, none, none, none]) : M (Fl × Loc)))) := by kernel_rfl
noncomputable def L_law_a2 (d : Nat) (loc : Loc) : M V := exsK (cf06 d) (List.drop 10 L_law_F.body) L_law_F.names loc retK
noncomputable def L_law_t2 (d : Nat) (va vb vc vd ve vf vg : V) (oh : Option V) (vi vj : V) (ok : Option V) : M V := (newO (.list [(V.int 0)]) >>= fun t0 => (binop .Add vf t0 >>= fun t1 => (cl06 d "_law_tried" [vc, vd, t1] >>= fun t2 => (cmp .Eq t2 (V.tup [(V.str (Str.ofString "no")), (V.str (Str.ofString "NoDefinition"))]) >>= fun t3 => (pure t3 : M V)))))
noncomputable def L_law_t1 (d : Nat) (va vb vc vd ve vf vg : V) (oh : Option V) (vi vj : V) (ok : Option V) : M V := ((newO (.list []) >>= fun t0 => (cmp .NotEq vf t0 >>= fun t1 => (truth t1 >>= fun b2 => (M.cond b2 (bound V.none >>= fun i3 => bound (V.int (-1)) >>= fun i4 => sliceV i3 i4 vf >>= fun t5 => (cl06 d "_law_tried" [vc, vd, t5] >>= fun t6 => (cmp .NotEq t6 (V.tup [(V.str (Str.ofString "no")), (V.str (Str.ofString "NoDefinition"))]) >>= fun t7 => (truth t7 >>= fun b8 => (M.cond b8 (pure true : M Bool) (pure false : M Bool)))))) (pure false : M Bool))))) >>= fun b9 => (M.cond b9 (pure (V.bool false) : M V) (L_law_t2 d va vb vc vd ve vf vg oh vi vj ok)))
theorem L_law_a2_eq (d : Nat) (va vb vc vd ve vf vg : V) (oh : Option V) (vi vj : V) (ok : Option V) : L_law_a2 d [some va, some vb, some vc, some vd, some ve, some vf, some vg, oh, some vi, some vj, ok, none, none, none, none, none, none, none, none, none] = (binop .Add vd (V.int 1) >>= fun t0 => (binop .Add vd (V.int 2) >>= fun t1 => (newO (.list [(V.int (-1)), t0, t1]) >>= fun t2 => (cl06 d "_law_cell" [va, (V.int 15)] >>= fun t3 => (binop .Mod t3 (V.int 3) >>= fun t4 => (item t2 t4 >>= fun t5 => (cl06 d "_law_tried" [vc, t5, vf] >>= fun t6 => (cmp .NotEq t6 (V.tup [(V.str (Str.ofString "no")), (V.str (Str.ofString "NoDefinition"))]) >>= fun t7 => (truth t7 >>= fun b8 => (M.cond b8 (pure (V.bool false) : M V) (L_law_t1 d va vb vc vd ve vf vg oh vi vj ok))))))))))) := by kernel_rfl
theorem L_law_a1_eq (d : Nat) (va vb vc vd ve vf vg : V) (oh : Option V) : L_law_a1 d [some va, some vb, some vc, some vd, some ve, some vf, some vg, oh, none, none, none, none, none, none, none, none, none, none, none, none] = (bList vc >>= fun t0 => (bList vf >>= fun t1 => (newO (.list [t0, t1]) >>= fun t2 => (item vc vd >>= fun t3 => (item t3 (V.int 2) >>= fun t4 => (cl06 d "_law_ran" [t4, vf, vg] >>= fun t5 => (rangeOf (V.int 2) >>= fun s6 => (forAll (cf06 d) (sTgt L_law_l2) (sBody L_law_l2) s6 L_law_F.names [some va, some vb, some vc, some vd, some ve, some vf, some vg, oh, some t2, some t5, none, none, none, none, none, none, none, none, none, none] >>= flK retK (L_law_a2 d))))))))) := by kernel_rfl
theorem L_law_sh (d : Nat) (va : V) : cl06 (d + 1) "law" [va] = (cl06 d "_law_cell" [va, (V.int 1)] >>= fun t0 => (cl06 d "_law_labels" [t0, (V.int 4)] >>= fun t1 => (cl06 d "_law_program" [va, t1] >>= fun t2 => (bLen t2 >>= fun t3 => (binop .Sub t3 (V.int 1) >>= fun t4 => (cl06 d "_law_cell" [va, (V.int 14)] >>= fun t5 => (binop .Mod t5 (V.int 2147483645) >>= fun t6 => (binop .Add (V.int 1) t6 >>= fun t7 => (newO (.list [t7, (V.int 0)]) >>= fun t8 => (item t2 t4 >>= fun t9 => (item t9 (V.int 1) >>= fun t10 => (rangeOf t10 >>= fun s11 => (compAll (cf06 d) (cElt L_law_c1) (cTgt L_law_c1) (cIfs L_law_c1) (cScope L_law_c1) s11 L_law_F.names [some va, some t1, some t2, some t4, some t8, none, none, none, none, none, none, none, none, none, none, none, none, none, none, none] >>= fun t12 => (newO (.dict 0 []) >>= fun t13 => (srcV t2 >>= fun s14 => (forAll (cf06 d) (sTgt L_law_l1) (sBody L_law_l1) s14 L_law_F.names [some va, some t1, some t2, some t4, some t8, some t12, some t13, none, none, none, none, none, none, none, none, none, none, none, none, none] >>= flK retK (L_law_a1 d))))))))))))))))) :=
 (cl06_succ L_law_K d _).trans (by kernel_rfl)
noncomputable def P_Runner_init_F : Fn := (tx06.at "Runner.__init__").getD ⟨[], [], []⟩
theorem P_Runner_init_K : tx06.at "Runner.__init__" = some P_Runner_init_F := by kernel_rfl
theorem P_Runner_init_sh (d : Nat) (va vb : V) : cl06 (d + 1) "Runner.__init__" [va, vb] = (setAttrV (cf06 d) "program" vb va >>= fun ya => (pure V.none : M V)) :=
 (cl06_succ P_Runner_init_K d _).trans (by kernel_rfl)
noncomputable def P_Runner_value_F : Fn := (tx06.at "Runner.value").getD ⟨[], [], []⟩
theorem P_Runner_value_K : tx06.at "Runner.value" = some P_Runner_value_F := by kernel_rfl
noncomputable def P_Runner_value_c1 : Expr := (ePart (sVal (nthS P_Runner_value_F.body 8)) 2)
theorem P_Runner_value_c1_in (va vb vc vd : V) (oe of og : Option V) : innerLoc P_Runner_value_F.names [some va, some vb, some vc, some vd, oe, of, og, none, none, none, none, none] (cScope P_Runner_value_c1).names = pure [none, none, some va, some vc] := by kernel_rfl
theorem P_Runner_value_c1_bind (va vb : V) (oc : Option V) (vd : V) : bindTo (stLocL (relab P_Runner_value_F.names (cScope P_Runner_value_c1).names)) (cTgt P_Runner_value_c1) vd [none, oc, some va, some vb] = pure [none, some vd, some va, some vb] := by kernel_rfl
theorem P_Runner_value_c1_elt (d : Nat) (va vb vc : V) : ev (cf06 d) (cElt P_Runner_value_c1) (relab P_Runner_value_F.names (cScope P_Runner_value_c1).names) [none, some vc, some va, some vb] = (askS (mtag (cf06 d) va "value") >>= fun g0 => (runM (cf06 d) "value" g0 va [vc, vb] >>= fun t1 => (pure t1 : M V))) := by kernel_rfl
theorem P_Runner_value_c1_tst (d : Nat) (loc : Loc) : tests (cf06 d) (cIfs P_Runner_value_c1) (relab P_Runner_value_F.names (cScope P_Runner_value_c1).names) loc = (pure true : M Bool) := by kernel_rfl
theorem P_Runner_value_c1_ok : compOk (cScope P_Runner_value_c1).kind (cScope P_Runner_value_c1).names = true := by kernel_rfl
noncomputable def P_Runner_value_t7 (d : Nat) (va vb vc vd : V) (oe of og : Option V) : M V := (askS (mtag (cf06 d) va "called") >>= fun g0 => (item vb (V.int 1) >>= fun t1 => (item vb (V.int 2) >>= fun t2 => (srcV t2 >>= fun s3 => (compAll (cf06 d) (cElt P_Runner_value_c1) (cTgt P_Runner_value_c1) (cIfs P_Runner_value_c1) (cScope P_Runner_value_c1) s3 P_Runner_value_F.names [some va, some vb, some vc, some vd, oe, of, og, none, none, none, none, none] >>= fun t4 => (runM (cf06 d) "called" g0 va [t1, t4] >>= fun t5 => (pure t5 : M V)))))))
noncomputable def P_Runner_value_t6 (d : Nat) (va vb vc vd : V) (oe of : Option V) : M V := (cmp .Eq vd (V.str (Str.ofString "if")) >>= fun t0 => (truth t0 >>= fun b1 => (M.cond b1 (askS (mtag (cf06 d) va "value") >>= fun g2 => (item vb (V.int 1) >>= fun t3 => (runM (cf06 d) "value" g2 va [t3, vc] >>= fun t4 => (cl06 d "need_number" [t4] >>= fun t5 => (askS (mtag (cf06 d) va "value") >>= fun g6 => ((cmp .NotEq t5 (V.int 0) >>= fun t7 => (truth t7 >>= fun b8 => (M.cond b8 (item vb (V.int 2) >>= fun t9 => (pure t9 : M V)) (item vb (V.int 3) >>= fun t10 => (pure t10 : M V))))) >>= fun t11 => (runM (cf06 d) "value" g6 va [t11, vc] >>= fun t12 => (pure t12 : M V)))))))) (P_Runner_value_t7 d va vb vc vd oe of none))))
noncomputable def P_Runner_value_t5 (d : Nat) (va vb vc vd : V) (oe : Option V) : M V := (cmp .Eq vd (V.str (Str.ofString "sum")) >>= fun t0 => (truth t0 >>= fun b1 => (M.cond b1 (askS (mtag (cf06 d) va "value") >>= fun g2 => (item vb (V.int 1) >>= fun t3 => (runM (cf06 d) "value" g2 va [t3, vc] >>= fun t4 => (cl06 d "need_number" [t4] >>= fun t5 => (askS (mtag (cf06 d) va "value") >>= fun g6 => (item vb (V.int 2) >>= fun t7 => (runM (cf06 d) "value" g6 va [t7, vc] >>= fun t8 => (cl06 d "need_number" [t8] >>= fun t9 => (binop .Add t5 t9 >>= fun t10 => (pure t10 : M V)))))))))) (P_Runner_value_t6 d va vb vc vd oe none))))
noncomputable def P_Runner_value_t4 (d : Nat) (va vb vc vd : V) (oe : Option V) : M V := (cmp .Eq vd (V.str (Str.ofString "put")) >>= fun t0 => (truth t0 >>= fun b1 => (M.cond b1 (askS (mtag (cf06 d) va "put") >>= fun g2 => (runM (cf06 d) "put" g2 va [vb, vc] >>= fun t3 => (pure t3 : M V))) (P_Runner_value_t5 d va vb vc vd oe))))
noncomputable def P_Runner_value_t3 (d : Nat) (va vb vc vd : V) : M V := (cmp .Eq vd (V.str (Str.ofString "get")) >>= fun t0 => (truth t0 >>= fun b1 => (M.cond b1 (askS (mtag (cf06 d) va "value") >>= fun g2 => (item vb (V.int 1) >>= fun t3 => (runM (cf06 d) "value" g2 va [t3, vc] >>= fun t4 => (item vb (V.int 2) >>= fun t5 => (cl06 d "need_field" [t4, t5] >>= fun t6 => (bDict t4 >>= fun t7 => (item vb (V.int 2) >>= fun t8 => (item t7 t8 >>= fun t9 => (pure t9 : M V))))))))) (P_Runner_value_t4 d va vb vc vd none))))
noncomputable def P_Runner_value_c2 : Expr := (ePart (ePart (sVal (nthS (sBody (nthS P_Runner_value_F.body 3)) 0)) 1) 1)
theorem P_Runner_value_c2_in (va vb vc vd : V) : innerLoc P_Runner_value_F.names [some va, some vb, some vc, some vd, none, none, none, none, none, none, none, none] (cScope P_Runner_value_c2).names = pure [none, none, none, some va, some vc] := by kernel_rfl
theorem P_Runner_value_c2_bind (va vb : V) (oc od : Option V) (ve vf : V) : bindTo (stLocL (relab P_Runner_value_F.names (cScope P_Runner_value_c2).names)) (cTgt P_Runner_value_c2) (.tup [ve, vf]) [none, oc, od, some va, some vb] = pure [none, some ve, some vf, some va, some vb] := by kernel_rfl
theorem P_Runner_value_c2_elt (d : Nat) (va vb vc vd : V) : ev (cf06 d) (cElt P_Runner_value_c2) (relab P_Runner_value_F.names (cScope P_Runner_value_c2).names) [none, some vc, some vd, some va, some vb] = (askS (mtag (cf06 d) va "value") >>= fun g0 => (runM (cf06 d) "value" g0 va [vd, vb] >>= fun t1 => (pure (V.tup [vc, t1]) : M V))) := by kernel_rfl
theorem P_Runner_value_c2_tst (d : Nat) (loc : Loc) : tests (cf06 d) (cIfs P_Runner_value_c2) (relab P_Runner_value_F.names (cScope P_Runner_value_c2).names) loc = (pure true : M Bool) := by kernel_rfl
theorem P_Runner_value_c2_ok : compOk (cScope P_Runner_value_c2).kind (cScope P_Runner_value_c2).names = true := by kernel_rfl
noncomputable def P_Runner_value_t2 (d : Nat) (va vb vc vd : V) : M V := (cmp .Eq vd (V.str (Str.ofString "make")) >>= fun t0 => (truth t0 >>= fun b1 => (M.cond b1 (item vb (V.int 1) >>= fun t2 => (srcV t2 >>= fun s3 => (compAll (cf06 d) (cElt P_Runner_value_c2) (cTgt P_Runner_value_c2) (cIfs P_Runner_value_c2) (cScope P_Runner_value_c2) s3 P_Runner_value_F.names [some va, some vb, some vc, some vd, none, none, none, none, none, none, none, none] >>= fun t4 => (bSorted t4 >>= fun t5 => (bTuple t5 >>= fun t6 => (pure t6 : M V)))))) (P_Runner_value_t3 d va vb vc vd))))
noncomputable def P_Runner_value_t1 (d : Nat) (va vb vc vd : V) : M V := (cmp .Eq vd (V.str (Str.ofString "input")) >>= fun t0 => (truth t0 >>= fun b1 => (M.cond b1 (item vb (V.int 1) >>= fun t2 => (item vc t2 >>= fun t3 => (pure t3 : M V))) (P_Runner_value_t2 d va vb vc vd))))
theorem P_Runner_value_sh (d : Nat) (va vb vc : V) : cl06 (d + 1) "Runner.value" [va, vb, vc] = (item vb (V.int 0) >>= fun t0 => (cmp .Eq t0 (V.str (Str.ofString "number")) >>= fun t1 => (truth t1 >>= fun b2 => (M.cond b2 (item vb (V.int 1) >>= fun t3 => (pure t3 : M V)) (P_Runner_value_t1 d va vb vc t0))))) :=
 (cl06_succ P_Runner_value_K d _).trans (by kernel_rfl)
noncomputable def P_Runner_put_F : Fn := (tx06.at "Runner.put").getD ⟨[], [], []⟩
theorem P_Runner_put_K : tx06.at "Runner.put" = some P_Runner_put_F := by kernel_rfl
noncomputable def P_Runner_put_c1 : Expr := (ePart (sVal (nthS P_Runner_put_F.body 3)) 1)
theorem P_Runner_put_c1_in (va vb vc vd ve : V) : innerLoc P_Runner_put_F.names [some va, some vb, some vc, some vd, some ve, none, none] (cScope P_Runner_put_c1).names = pure [none, none, none, some vb, some ve] := by kernel_rfl
theorem P_Runner_put_c1_bind (va vb : V) (oc od : Option V) (ve vf : V) : bindTo (stLocL (relab P_Runner_put_F.names (cScope P_Runner_put_c1).names)) (cTgt P_Runner_put_c1) (.tup [ve, vf]) [none, oc, od, some va, some vb] = pure [none, some ve, some vf, some va, some vb] := by kernel_rfl
theorem P_Runner_put_c1_elt (d : Nat) (va vb vc vd : V) : ev (cf06 d) (cElt P_Runner_put_c1) (relab P_Runner_put_F.names (cScope P_Runner_put_c1).names) [none, some vc, some vd, some va, some vb] = ((item va (V.int 2) >>= fun t0 => (cmp .Eq vc t0 >>= fun t1 => (truth t1 >>= fun b2 => (M.cond b2 (pure vb : M V) (pure vd : M V))))) >>= fun t3 => (pure (V.tup [vc, t3]) : M V)) := by kernel_rfl
theorem P_Runner_put_c1_tst (d : Nat) (loc : Loc) : tests (cf06 d) (cIfs P_Runner_put_c1) (relab P_Runner_put_F.names (cScope P_Runner_put_c1).names) loc = (pure true : M Bool) := by kernel_rfl
theorem P_Runner_put_c1_ok : compOk (cScope P_Runner_put_c1).kind (cScope P_Runner_put_c1).names = true := by kernel_rfl
theorem P_Runner_put_sh (d : Nat) (va vb vc : V) : cl06 (d + 1) "Runner.put" [va, vb, vc] = (askS (mtag (cf06 d) va "value") >>= fun g0 => (item vb (V.int 1) >>= fun t1 => (runM (cf06 d) "value" g0 va [t1, vc] >>= fun t2 => (item vb (V.int 2) >>= fun t3 => (cl06 d "need_field" [t2, t3] >>= fun t4 => (askS (mtag (cf06 d) va "value") >>= fun g5 => (item vb (V.int 3) >>= fun t6 => (runM (cf06 d) "value" g5 va [t6, vc] >>= fun t7 => (srcV t2 >>= fun s8 => (compAll (cf06 d) (cElt P_Runner_put_c1) (cTgt P_Runner_put_c1) (cIfs P_Runner_put_c1) (cScope P_Runner_put_c1) s8 P_Runner_put_F.names [some va, some vb, some vc, some t2, some t7, none, none] >>= fun t9 => (bTuple t9 >>= fun t10 => (pure t10 : M V)))))))))))) :=
 (cl06_succ P_Runner_put_K d _).trans (by kernel_rfl)
noncomputable def P_Runner_called_F : Fn := (tx06.at "Runner.called").getD ⟨[], [], []⟩
theorem P_Runner_called_K : tx06.at "Runner.called" = some P_Runner_called_F := by kernel_rfl
noncomputable def P_Runner_called_l1 : Stmt := (nthS P_Runner_called_F.body 0)
theorem P_Runner_called_l1_step (d : Nat) (va vb vc vd ve vf : V) (og oh oi : Option V) : (bindTo (stLoc P_Runner_called_F.names) (sTgt P_Runner_called_l1) (.tup [va, vb, vc]) [some vd, some ve, some vf, oh, og, oi, none] >>= exs (cf06 d) (sBody P_Runner_called_l1) P_Runner_called_F.names) = (cmp .Eq va ve >>= fun t0 => (truth t0 >>= fun b1 => (M.cond b1 (askS (mtag (cf06 d) vd "value") >>= fun g2 => (runM (cf06 d) "value" g2 vd [vc, vf] >>= fun t3 => (pure (Fl.ret t3, [some vd, some ve, some vf, some va, some vb, some vc, none]) : M (Fl × Loc)))) (pure (Fl.next, [some vd, some ve, some vf, some va, some vb, some vc, none]) : M (Fl × Loc))))) := by kernel_rfl
noncomputable def P_Runner_called_a1 (d : Nat) (loc : Loc) : M V := exsK (cf06 d) (List.drop 1 P_Runner_called_F.body) P_Runner_called_F.names loc retK
theorem P_Runner_called_a1_eq (d : Nat) (va vb vc : V) (od oe of : Option V) : P_Runner_called_a1 d [some va, some vb, some vc, oe, od, of, none] = (newO (.exc (Str.ofString "NoDefinition") []) >>= fun e622 => (M.throw e622 : M V)) := by kernel_rfl
theorem P_Runner_called_sh (d : Nat) (va vb vc : V) : cl06 (d + 1) "Runner.called" [va, vb, vc] = (attrV (cf06 d) "program" va >>= fun t0 => (srcV t0 >>= fun s1 => (forAll (cf06 d) (sTgt P_Runner_called_l1) (sBody P_Runner_called_l1) s1 P_Runner_called_F.names [some va, some vb, some vc, none, none, none, none] >>= flK retK (P_Runner_called_a1 d)))) :=
 (cl06_succ P_Runner_called_K d _).trans (by kernel_rfl)
end Mine.Internal

set_option backward.match.sparseCases false
namespace Mine.Internal
open PySem PyProof.Rows
theorem calm (d : Nat) : (cf06 d).calm = true := rfl
theorem cell_ok {d : Nat} {zs : List Int} {σ : Store} {k : Int} (h : σ[0]? = some (.list (zs.map .int))) (hk : 0 ≤ k) : Wp (cl06 (d + 1) "_law_cell" [.ref 0, .int k]) σ (fun r σ' => σ' = σ ∧ ∃ c, r = .int c ∧ 0 ≤ c ∧ c < 2147483647) := by
 rw [L_cell_sh]
 refine Wp_step (r_len h) (Wp_step rfl (Wp_step rfl (Wp_cond (fun e => ?_) fun ya => Wp_pure ⟨rfl, 0, rfl, by decide, by decide⟩)))
 have hl : k < ((zs.map V.int).length : Nat) := of_decide_eq_true e
 rw [List.length_map] at hl
 have hx : (zs.map V.int)[k.toNat]? = some (.int (zs[k.toNat]'(by lia))) := by
  rw [List.getElem?_map, List.getElem?_eq_getElem (by lia)]; rfl
 exact Wp_step (r_item h hk hx) (Wp_step (r_mulR (by decide)) (Wp_step (r_mod (by decide)) (Wp_pure ⟨rfl, _, rfl, Int.emod_nonneg _ (by decide), Int.emod_lt_of_pos _ (by decide)⟩)))
theorem next_ok {d : Nat} {σ : Store} {n : Nat} {s c : Int} (h : σ[n]? = some (.list [.int s, .int c])) (hn : 0 < n) : Wp (cl06 (d + 1) "_law_next" [.ref n]) σ (fun r σ' => ∃ z s', r = .int z ∧ 0 ≤ z ∧ σ' = σ.set n (.list [.int s', .int (c - 1)])) := by
 rw [L_next_sh]
 refine Wp_step (r_item h (by decide) rfl) (Wp_step (r_mulR (by decide)) (Wp_step rfl (Wp_step (r_mod (by decide)) (Wp_step (r_setItem h hn (by decide) (by simp)) ?_))))
 have h0 : 0 ≤ (s * 48271 + 11) % 2147483647 := Int.emod_nonneg _ (by decide)
 generalize (s * 48271 + 11) % 2147483647 = s' at h0
 have h1 : (σ.set n (.list [.int s', .int c]))[n]? = some (.list [.int s', .int c]) := set_get h
 refine Wp_step (r_item h1 (by decide) rfl) (Wp_step rfl (Wp_step (r_setItem h1 hn (by decide) (by simp)) ?_))
 have h2 : ((σ.set n (.list [.int s', .int c])).set n (.list [.int s', .int (c - 1)]))[n]? = some (.list [.int s', .int (c - 1)]) := set_get h1
 refine Wp_step (r_item h2 (by decide) rfl) (Wp_step (r_div (by decide)) (Wp_pure ⟨_, s', rfl, by lia, ?_⟩))
 rw [List.set_set]; rfl
noncomputable def Low (cs : List Nat) : Prop := ∀ c ∈ cs, 97 ≤ c ∧ c < 123
structure Word (s : Str) : Prop where
 pos : 1 ≤ s.length
 len : s.length ≤ 8
 low : Low s.cps.toList
noncomputable def lab (cs : List Nat) (k : Nat) (z : Int) (j : Nat) : Str := ⟨(cs.take k ++ (97 + ((z + 3 * (j : Int)) % 26).toNat) :: cs.drop k).toArray⟩
theorem low_of (x : Int) : 97 ≤ 97 + (x % 26).toNat ∧ 97 + (x % 26).toNat < 123 := ⟨Nat.le_add_right _ _, Nat.add_lt_add_left ((Int.toNat_lt (Int.emod_nonneg _ (by decide))).mpr (Int.emod_lt_of_pos _ (by decide))) 97⟩
theorem lab_word {cs : List Nat} {k j : Nat} {z : Int} (h : Low cs) (h6 : cs.length ≤ 6) : Word (lab cs k z j) ∧ (lab cs k z j).length ≤ 7 := by
 have hl : (lab cs k z j).length = cs.length + 1 := by
  show (List.toArray _).size = _
  rw [List.size_toArray, List.length_append, List.length_cons, ← Nat.add_assoc, ← List.length_append, List.take_append_drop]
 refine ⟨⟨by rw [hl]; exact Nat.le_add_left _ _, by rw [hl]; exact Nat.le_trans (Nat.succ_le_succ h6) (by decide), fun c hc => ?_⟩, by rw [hl]; exact Nat.succ_le_succ h6⟩
 rcases List.mem_append.mp hc with hc | hc
 ·exact h c (List.mem_of_mem_take hc)
 ·rcases List.mem_cons.mp hc with rfl | hc
  ·exact low_of _
  ·exact h c (List.mem_of_mem_drop hc)
theorem lab_inj {cs : List Nat} {k i j : Nat} {z : Int} (hi : i < 4) (hj : j < 4) (h : lab cs k z i = lab cs k z j) : i = j := by
 have h1 := congrArg (fun s : Str => s.cps.toList) h
 have h2 := List.append_cancel_left h1
 have h3 : 97 + ((z + 3 * (i : Int)) % 26).toNat = 97 + ((z + 3 * (j : Int)) % 26).toNat := (List.cons.inj h2).1
 have h4 : (z + 3 * (i : Int)) % 26 = (z + 3 * (j : Int)) % 26 := by
  rw [← Int.toNat_of_nonneg (Int.emod_nonneg (z + 3 * (i : Int)) (show (26 : Int) ≠ 0 by decide)), Nat.add_left_cancel h3, Int.toNat_of_nonneg (Int.emod_nonneg _ (by decide))]
 have h5 := Int.dvd_of_emod_eq_zero (Int.emod_eq_emod_iff_emod_sub_eq_zero.mp h4)
 clear h h1 h2 h3 h4
 have h6 := Int.eq_zero_of_dvd_of_natAbs_lt_natAbs h5 (by show _ < 26; lia)
 lia
theorem lab_nodup (cs : List Nat) (k : Nat) (z : Int) : ((List.range 4).map (lab cs k z)).Nodup := by
 refine List.pairwise_map.mpr (List.Pairwise.imp_of_mem ?_ List.nodup_range)
 intro i j hi hj hij e
 exact hij (lab_inj (List.mem_range.mp hi) (List.mem_range.mp hj) e)
theorem glue_chars : ∀ (cs : List Nat) (acc : Array Nat), (cs.map chr1).foldl (fun acc p => acc ++ (Str.ofString "").cps ++ p.cps) acc = acc ++ cs.toArray
 | [], acc => by simp
 | c :: cs, acc => by
  rw [List.map_cons, List.foldl_cons, glue_chars cs]
  show acc ++ #[] ++ #[c] ++ cs.toArray = acc ++ (c :: cs).toArray
  simp
theorem glued_chars : ∀ cs : List Nat, Txt.join (Str.ofString "") (cs.map chr1) = ⟨cs.toArray⟩
 | [] => rfl
 | c :: cs => by
  show (⟨((c :: cs).map chr1 |>.drop 1).foldl (fun acc p => acc ++ (Str.ofString "").cps ++ p.cps) (chr1 c).cps⟩ : Str) = _
  rw [List.map_cons, List.drop_one, List.tail_cons, glue_chars]
  show (⟨#[c] ++ cs.toArray⟩ : Str) = _
  simp
theorem allStrs_map : ∀ ss : List Str, allStrs (ss.map V.str) = some ss
 | [] => rfl
 | s :: r => by show (allStrs (r.map V.str)).map _ = _; rw [allStrs_map r]; rfl
theorem r_joinChars {C : Cfg} {nm : Str} {σ : Store} {n : Nat} {cs : List Nat} (h : σ[n]? = some (.list (cs.map fun c => V.str (chr1 c)))) (hl : cs.length ≤ 100) : runM C nm .join (.str (Str.ofString "")) [.ref n] σ = .ok (.str ⟨cs.toArray⟩) σ := by
 have e : allStrs (cs.map fun c => V.str (chr1 c)) = some (cs.map chr1) := by
  rw [show (cs.map fun c => V.str (chr1 c)) = (cs.map chr1).map V.str from (List.map_map ..).symm, allStrs_map]
 refine (bind_ok (r_getList h)).trans ((bind_ok (a := cs.map chr1) (σ' := σ) (by rw [e]; rfl)).trans ?_)
 have h1 : ((cs.map chr1).map (·.length)).sum = cs.length := by
  rw [List.map_map]
  clear h hl e
  induction cs with
  | nil => rfl
  | cons c cs ih => rw [List.map_cons, List.sum_cons, ih, List.length_cons]; show 1 + _ = _; lia
 have h0 : (Str.ofString "").length = 0 := by decide +kernel
 rw [if_pos (by rw [h1, h0]; lia), glued_chars]; rfl
theorem sign_is {k : Int} (h0 : 0 ≤ k) (h1 : k < 26) {σ : Store} : item (.str (Str.ofString "abcdefghijklmnopqrstuvwxyz")) (.int k) σ = .ok (.str (chr1 (97 + k.toNat))) σ := by
 have hs : ∀ j : Fin 26, (Str.ofString "abcdefghijklmnopqrstuvwxyz").cps[j.val]? = some (97 + j.val) := by decide +kernel
 have hl : (Str.ofString "abcdefghijklmnopqrstuvwxyz").length = 26 := by decide +kernel
 show ofOpt ((place k (Str.ofString "abcdefghijklmnopqrstuvwxyz").length).bind fun j => ((Str.ofString "abcdefghijklmnopqrstuvwxyz").cps[j]?).map fun c => V.str (chr1 c)) σ = _
 rw [place_pos h0 (by rw [hl]; exact h1)]
 show ofOpt (((Str.ofString "abcdefghijklmnopqrstuvwxyz").cps[k.toNat]?).map fun c => V.str (chr1 c)) σ = _
 rw [hs ⟨k.toNat, by lia⟩]; rfl
theorem cut_to {α : Type} {l : List α} {k : Int} (h0 : 0 ≤ k) (h1 : k ≤ l.length) : cut l none (some k) = l.take k.toNat := by
 unfold cut
 show (l.drop 0).take (clipAt l.length k - 0) = _
 rw [show clipAt l.length k = k.toNat by unfold clipAt; rw [if_neg (by lia)]; lia]; rfl
theorem cut_from {α : Type} {l : List α} {k : Int} (h0 : 0 ≤ k) (h1 : k ≤ l.length) : cut l (some k) none = l.drop k.toNat := by
 unfold cut
 show (l.drop (clipAt l.length k)).take (l.length - clipAt l.length k) = _
 rw [show clipAt l.length k = k.toNat by unfold clipAt; rw [if_neg (by lia)]; lia, List.take_of_length_le (by rw [List.length_drop]; lia)]
theorem lab_of {cs : List Nat} {k z : Int} {j : Nat} (h0 : 0 ≤ k) (h1 : k ≤ cs.length) (h6 : cs.length ≤ 6) {σ : Store} {f : V → M (Fl × Loc)} {Q : Fl × Loc → Store → Prop} (q : Wp (f (.str (lab cs k.toNat z j))) σ Q) :
  Wp (bound V.none >>= fun i => bound (V.int k) >>= fun i' => sliceV i i' (.str ⟨cs.toArray⟩) >>= fun t => (binop .Add t (.str (chr1 (97 + ((z + 3 * (j : Int)) % 26).toNat))) >>= fun t' => (bound (V.int k) >>= fun i => bound V.none >>= fun i' => sliceV i i' (.str ⟨cs.toArray⟩) >>= fun u => (binop .Add t' u >>= f)))) σ Q := by
 have e1 : cutStr ⟨cs.toArray⟩ none (some k) = ⟨(cs.take k.toNat).toArray⟩ := by unfold cutStr; rw [cut_to h0 h1]
 have e2 : cutStr ⟨cs.toArray⟩ (some k) none = ⟨(cs.drop k.toNat).toArray⟩ := by unfold cutStr; rw [cut_from h0 h1]
 have h24 : (16777216 : Nat) = sizeLine := rfl
 have add : ∀ (x y : List Nat), x.length + y.length ≤ 100 → binop .Add (.str ⟨x.toArray⟩) (.str ⟨y.toArray⟩) σ = .ok (.str ⟨(x ++ y).toArray⟩) σ := fun x y h => by
  show (if x.toArray.size + y.toArray.size ≤ sizeLine then pure (V.str (⟨x.toArray⟩ ++ ⟨y.toArray⟩)) else M.bad : M V) σ = _
  rw [if_pos (by rw [List.size_toArray, List.size_toArray]; lia)]
  show Res.ok (V.str ⟨x.toArray ++ y.toArray⟩) σ = _
  simp
 refine Wp_step rfl (Wp_step rfl (Wp_step (a := .str ⟨(cs.take k.toNat).toArray⟩) (by rw [← e1]; rfl) (Wp_step (add _ [_] (Nat.le_trans (Nat.succ_le_succ (Nat.le_trans (List.length_take_le' _ _) h6)) (by decide))) (Wp_step rfl (Wp_step rfl (Wp_step (a := .str ⟨(cs.drop k.toNat).toArray⟩) (by rw [← e2]; rfl) (Wp_step (add _ _ (by rw [List.length_append, List.length_drop]; exact Nat.le_trans (Nat.add_le_add (Nat.succ_le_succ (Nat.le_trans (List.length_take_le' _ _) h6)) (Nat.le_trans (Nat.sub_le _ _) h6)) (by decide))) ?_)))))))
 rw [List.append_assoc]; exact q
structure Labs (ls : List Str) : Prop where
 four : ls.length = 4
 nodup : ls.Nodup
 word : ∀ s ∈ ls, Word s ∧ s.length ≤ 7
theorem labels_ok {d : Nat} {σ : Store} {c : Int} : Wp (cl06 (d + 1) "_law_labels" [.int c, .int 4]) σ (fun r σ' => Le σ σ' ∧ ∃ (n : Nat) (ls : List Str), r = .ref n ∧ σ.length ≤ n ∧ σ'[n]? = some (.list (ls.map V.str)) ∧ Labs ls) := by
 rw [L_labels_sh]
 have hsz : 0 ≤ c % 7 ∧ c % 7 < 7 := ⟨Int.emod_nonneg _ (by decide), Int.emod_lt_of_pos _ (by decide)⟩
 have h24 : (16777216 : Nat) = sizeLine := rfl
 refine Wp_step (r_mod (by decide)) (Wp_step (r_div (by decide)) (Wp_step rfl ?_))
 generalize c % 7 = size at hsz
 refine Wp_step (r_mod ⟨by lia (splits := 9), by lia (splits := 9)⟩) (Wp_step (r_div (by decide)) (Wp_step (r_mod (by decide)) (Wp_step rfl (Wp_step (r_range ⟨by lia, by lia⟩) ?_))))
 have hat : 0 ≤ c / 7 % (size + 1) ∧ c / 7 % (size + 1) ≤ size := by
  have := Int.emod_nonneg (c / 7) (show size + 1 ≠ 0 by lia)
  have := Int.emod_lt_of_pos (c / 7) (show 0 < size + 1 by lia)
  lia
 generalize c / 7 % (size + 1) = k at hat
 generalize c / 49 % 26 = stp
 refine Wp_comp (J := fun ya => True) (calm d) walks_vals L_labels_c1_ok (L_labels_c1_in ..) (by rw [range_len]; lia) (fun i acc loc τ => τ = σ ∧ (∃ o, loc = [none, o, some (.int c), some (.str (Str.ofString "abcdefghijklmnopqrstuvwxyz")), some (.int stp)]) ∧ ∃ cs, acc = cs.map (fun c => V.str (chr1 c)) ∧ cs.length = i ∧ Low cs) (fun ya yb yc yd ye => trivial) ⟨rfl, ⟨_, rfl⟩, [], rfl, rfl, fun ya h => nomatch h⟩ (fun i v acc loc τ hv hp => ?_) fun out loc τ hp => ?_
 ·obtain ⟨rfl, ⟨o, rfl⟩, cs, rfl, hlen, hlow⟩ := hp
  obtain ⟨rfl, hi⟩ := range_val hv
  rw [L_labels_c1_bind]
  refine Wp_pure ?_
  rw [L_labels_c1_tst]
  refine Wp_pure ?_
  rw [if_pos rfl, L_labels_c1_elt]
  have hm : 0 ≤ (stp + c / 1274 * (i : Int)) % 26 ∧ (stp + c / 1274 * (i : Int)) % 26 < 26 := ⟨Int.emod_nonneg _ (by decide), Int.emod_lt_of_pos _ (by decide)⟩
  refine Wp_step (r_div (by decide)) (Wp_step (r_mulR (by unfold Small; lia)) (Wp_step rfl (Wp_step (r_mod (by decide)) (Wp_step (sign_is hm.1 hm.2) (Wp_pure ⟨rfl, ⟨_, rfl⟩, cs ++ [_], by rw [List.map_append]; rfl, by rw [List.length_append, hlen]; rfl, fun x hx => ?_⟩)))))
  rcases List.mem_append.mp hx with hx | hx
  ·exact hlow x hx
  ·rw [List.mem_singleton.mp hx]; exact low_of _
 ·obtain ⟨rfl, _, cs, rfl, hlen, hlow⟩ := hp
  rw [range_len] at hlen
  refine Wp_step (r_joinChars get_new (by lia)) (Wp_step rfl (Wp_step (r_range (by decide)) ?_))
  have hle : Le τ (τ ++ [O.list (cs.map fun c => V.str (chr1 c))] ++ [O.list []]) := LeEx.push.new
  have hk1 : (τ ++ [O.list (cs.map fun c => V.str (chr1 c))] ++ [O.list []])[(τ ++ [O.list (cs.map fun c => V.str (chr1 c))]).length]? = some (.list []) := get_new
  have hf : τ.length < (τ ++ [O.list (cs.map fun c => V.str (chr1 c))]).length := by simp
  generalize (τ ++ [O.list (cs.map fun c => V.str (chr1 c))]).length = f at hk1 hf
  generalize τ ++ [O.list (cs.map fun c => V.str (chr1 c))] ++ [O.list []] = τ' at hk1 hle
  refine Wp_for (J := fun ya => True) (calm d) walks_vals (fun i loc τ₁ => Le τ τ₁ ∧ (∃ o1 o2, loc = [some (.int c), some (.int 4), some (.str (Str.ofString "abcdefghijklmnopqrstuvwxyz")), some (.int size), some (.int k), some (.int stp), o1, some (.str ⟨cs.toArray⟩), some (.ref f), o2, none]) ∧
   τ₁[f]? = some (.list (((List.range i).map (lab cs k.toNat (c / 49))).map V.str))) (fun ya yb yc yd => trivial) ⟨hle, ⟨_, _, rfl⟩, hk1⟩ (fun i v loc τ₁ hv hp => ?_) fun loc τ₁ hp => ?_
  ·obtain ⟨hle, ⟨o1, o2, rfl⟩, hl⟩ := hp
   obtain ⟨rfl, hi⟩ := range_val hv
   rw [L_labels_l1_step]
   have hm : 0 ≤ (c / 49 + 3 * (i : Int)) % 26 ∧ (c / 49 + 3 * (i : Int)) % 26 < 26 := ⟨Int.emod_nonneg _ (by decide), Int.emod_lt_of_pos _ (by decide)⟩
   refine Wp_step (r_div (by decide)) (Wp_step (r_mulL (by decide)) (Wp_step rfl (Wp_step (r_mod (by decide)) (Wp_step (sign_is hm.1 hm.2) (Wp_step (r_tagL hl rfl) (lab_of hat.1 (by lia) (by lia) (Wp_step (r_append hl (by lia) (by simp; lia)) (Wp_pure ⟨hle.setNew (Nat.le_of_lt hf), ⟨_, _, rfl⟩, ?_⟩))))))))
   rw [List.range_succ, List.map_append, List.map_append]
   exact set_get hl
  ·obtain ⟨hle, ⟨o1, o2, rfl⟩, hl⟩ := hp
   rw [L_labels_a1_eq]
   rw [range_len] at hl
   refine Wp_pure ⟨hle, f, _, rfl, Nat.le_of_lt hf, hl, rfl, lab_nodup _ _ _, fun s hs => ?_⟩
   obtain ⟨j, _, rfl⟩ := List.mem_map.mp hs
   exact lab_word hlow (by lia)
end Mine.Internal

set_option backward.match.sparseCases false
namespace Mine.Internal
open PySem PyProof.Rows
noncomputable abbrev sYes : Str := Str.ofString "yes"
noncomputable abbrev sNo : Str := Str.ofString "no"
noncomputable abbrev cNum : Str := Str.ofString "NoNumber"
noncomputable abbrev cRec : Str := Str.ofString "NoRecord"
noncomputable abbrev cLacks : Str := Str.ofString "Lacks"
noncomputable abbrev cDef : Str := Str.ofString "NoDefinition"
inductive Val : Nat → V → Prop
 | num {n : Nat} (i : Int) : Val n (.int i)
 | rcd {n : Nat} {l : List (Str × V)} : (l.map (·.1)).Nodup → l.length ≤ 4 → (∀ p ∈ l, Val n p.2) → Val (n + 1) (.tup (l.map pairV))
theorem Val.mono {n m : Nat} {v : V} (h : Val n v) (hm : n ≤ m) : Val m v := by
 induction h generalizing m with
 | num i => exact .num i
 | rcd h1 h2 _ ih =>
  obtain ⟨m, rfl⟩ := up1 (d := m) hm
  exact .rcd h1 h2 fun p hp => ih p hp (Nat.le_of_succ_le_succ hm)
noncomputable abbrev R := V ⊕ Str
noncomputable def told : R → V
 | .inl v => .tup [.str sYes, v]
 | .inr c => .tup [.str sNo, .str c]
inductive ROk (n : Nat) : R → Prop
 | val {v : V} : Val n v → ROk n (.inl v)
 | num : ROk n (.inr cNum)
 | rcd : ROk n (.inr cRec)
 | lacks : ROk n (.inr cLacks)
theorem ROk.mono {n m : Nat} {r : R} (h : ROk n r) (hm : n ≤ m) : ROk m r := by
 cases h with
 | val h => exact .val (h.mono hm)
 | num => exact .num
 | rcd => exact .rcd
 | lacks => exact .lacks
noncomputable def Tells (m : M V) (σ : Store) (r : R) : Prop := Wp m σ fun x σ' => Le σ σ' ∧ x = told r
inductive Ends (m : M V) (σ : Store) : R → Prop
 | ok {v : V} {σ' : Store} : m σ = .ok v σ' → Le σ σ' → Ends m σ (.inl v)
 | no {c : Str} {n : Nat} {σ' : Store} : m σ = .exc (.ref n) σ' → σ'[n]? = some (.exc c []) → Le σ σ' → Ends m σ (.inr c)
section
variable {σ σ' : Store} {m : M V} {α : Type} {p : M α} {f : V → M V} {g : α → M V} {r : R} {v : V} {c : Str} {a : α}
theorem Ends_eq {m' : M V} (e : m σ = m' σ) (h : Ends m' σ r) : Ends m σ r := by
 cases h with
 | ok h1 h2 => exact .ok (e.trans h1) h2
 | no h1 h2 h3 => exact .no (e.trans h1) h2 h3
theorem Ends_le (e : p σ = .ok a σ') (hl : Le σ σ') (h : Ends (g a) σ' r) : Ends (p >>= g) σ r := by
 cases h with
 | ok h1 h2 => exact .ok ((bind_ok e).trans h1) (hl.trans h2)
 | no h1 h2 h3 => exact .no ((bind_ok e).trans h1) h2 (hl.trans h3)
theorem Ends_step (e : p σ = .ok a σ) (h : Ends (g a) σ r) : Ends (p >>= g) σ r := Ends_le e .refl h
theorem Ends.go (h : Ends m σ (.inl v)) (k : ∀ σ', Le σ σ' → Ends (f v) σ' r) : Ends (m >>= f) σ r := by
 cases h with
 | ok h1 h2 => exact Ends_le h1 h2 (k _ h2)
theorem Ends.err (h : Ends m σ (.inr c)) : Ends (m >>= f) σ (.inr c) := by
 cases h with
 | no h1 h2 h3 => exact .no (bind_exc h1) h2 h3
theorem Ends_pure : Ends (Pure.pure v : M V) σ (.inl v) := .ok rfl .refl
theorem Ends_throw : Ends (newO (.exc c []) >>= fun e => (M.throw e : M V)) σ (.inr c) := .no rfl get_new .push
theorem Ends.last (h : Ends m σ r) : Ends (m >>= fun x => (Pure.pure x : M V)) σ r := h
theorem Ends_yes {b : Bool} {x y : M V} (h : b = true) (k : Ends x σ r) : Ends (M.cond b x y) σ r := by subst h; exact k
theorem Ends_no {b : Bool} {x y : M V} (h : b = false) (k : Ends y σ r) : Ends (M.cond b x y) σ r := by subst h; exact k
theorem Ends.low {σ₀ : Store} (hl : Le σ₀ σ) (h : Ends m σ r) : Ends m σ r := h
theorem Wp_eq {β : Type} {n n' : M β} {Q : β → Store → Prop} (e : n σ = n' σ) (h : Wp n' σ Q) : Wp n σ Q := let ⟨a, σ', h1, h2⟩ := h; ⟨a, σ', e.trans h1, h2⟩
theorem Tells.go (h : Tells m σ r) (k : ∀ σ', Le σ σ' → Tells (f (told r)) σ' r') : Tells (m >>= f) σ r' :=
 Wp.step h fun x σ' ⟨hl, e⟩ => by subst e; exact (k σ' hl).mono fun _ _ ⟨h1, h2⟩ => ⟨hl.trans h1, h2⟩
theorem Tells_pure (h : v = told r) : Tells (Pure.pure v : M V) σ r := Wp_pure ⟨.refl, h⟩
theorem Tells_le (e : p σ = .ok a σ') (hl : Le σ σ') (h : Tells (g a) σ' r) : Tells (p >>= g) σ r := Wp_step e (h.mono fun _ _ ⟨h1, h2⟩ => ⟨hl.trans h1, h2⟩)
variable {w w' : Str} {l : List V} {x y : M V}
theorem r_eqS {a b : Str} : cmp .Eq (.str a) (.str b) σ = .ok (.bool (a == b)) σ := rfl
theorem r_eqI {a b : Int} : cmp .Eq (.int a) (.int b) σ = .ok (.bool (a == b)) σ := rfl
theorem r_neI {a b : Int} : cmp .NotEq (.int a) (.int b) σ = .ok (.bool (!(a == b))) σ := rfl
theorem w_at {β : Type} {x y : M β} : (cmp .Eq (.str w) (.str w') >>= fun t => (truth t >>= fun b => M.cond b x y)) σ = (M.cond (w == w') x y) σ := rfl
theorem w_yes {β : Type} {x y : M β} : (cmp .Eq (.str w) (.str w) >>= fun t => (truth t >>= fun b => M.cond b x y)) σ = x σ := by rw [w_at, beq_self_eq_true]; rfl
theorem w_no {β : Type} {x y : M β} (h : (w == w') = false) : (cmp .Eq (.str w) (.str w') >>= fun t => (truth t >>= fun b => M.cond b x y)) σ = y σ := by rw [w_at, h]; rfl
theorem h_yes {β : Type} {x y : M β} : (item (.tup (.str w :: l)) (V.int 0) >>= fun u => (cmp .Eq u (.str w) >>= fun t => (truth t >>= fun b => M.cond b x y))) σ = x σ := (bind_ok r_item0).trans w_yes
theorem h_no {β : Type} {x y : M β} (h : (w == w') = false) : (item (.tup (.str w :: l)) (V.int 0) >>= fun u => (cmp .Eq u (.str w') >>= fun t => (truth t >>= fun b => M.cond b x y))) σ = y σ := (bind_ok r_item0).trans (w_no h)
end
section
variable {σ : Store} {l : List (Str × V)} {s : Str} {n : Nat} {v : V}
theorem pairs_of : ∀ l : List (Str × V), pairsOf (l.map pairV) = some (l.map fun p => ((.inr p.1 : Key), p.2))
 | [] => rfl
 | (a, b) :: r => by
  show (match keyOf (V.str a), pairsOf (r.map pairV) with | some k, some t => some ((k, b) :: t) | _, _ => none) = _
  rw [pairs_of r]; rfl
theorem dSet_new {t : Tab} {k : Key} {v : V} (h : k ∉ t.map (·.1)) : dSet t k v = t ++ [(k, v)] := by
 unfold dSet
 rw [if_neg]
 intro e
 obtain ⟨p, hp, e⟩ := List.any_eq_true.mp e
 exact h (List.mem_map.mpr ⟨p, hp, of_decide_eq_true e⟩)
theorem dMerge_new : ∀ (t acc : Tab), ((acc ++ t).map (·.1)).Nodup → dMerge acc t = acc ++ t
 | [], acc, _ => (List.append_nil _).symm
 | (k, v) :: t, acc, h => by
  show dMerge (dSet acc k v) t = _
  have e : acc ++ (k, v) :: t = acc ++ [(k, v)] ++ t := by rw [List.append_assoc]; rfl
  rw [dSet_new, dMerge_new t _ (by rw [← e]; exact h), ← e]
  rw [List.map_append, List.map_cons] at h
  exact fun hm => (List.nodup_append.mp h).2.2 _ hm _ (List.mem_cons_self ..) rfl
theorem keys_nodup (h : (l.map (·.1)).Nodup) : ((l.map fun p => ((.inr p.1 : Key), p.2)).map (·.1)).Nodup := by
 rw [List.map_map]
 rw [show ((fun p : Key × V => p.1) ∘ fun p : Str × V => ((.inr p.1 : Key), p.2)) = (Sum.inr ∘ fun p : Str × V => p.1) from rfl, ← List.map_map]
 exact List.Pairwise.map _ (fun a b hab e => hab (Sum.inr.inj e)) h
theorem dGet_lab : ∀ l : List (Str × V), dGet (l.map fun p => ((.inr p.1 : Key), p.2)) (.inr s) = l.lookup s
 | [] => rfl
 | (a, b) :: r => by
  have ih := dGet_lab r
  unfold dGet at ih ⊢
  rw [List.map_cons, List.find?_cons, List.lookup_cons]
  by_cases h : a = s
  ·subst h; rw [beq_self_eq_true]; simp
  ·rw [show decide ((Sum.inr a : Key) = .inr s) = false from decide_eq_false fun e => h (Sum.inr.inj e), show (s == a) = false from beq_false_of_ne fun e => h e.symm]
   exact ih
theorem r_dictR (h : (l.map (·.1)).Nodup) : bDict (.tup (l.map pairV)) σ = .ok (.ref σ.length) (σ ++ [.dict 0 (l.map fun p => ((.inr p.1 : Key), p.2))]) := by
 rw [r_dictT (pairs_of l), dMerge_new _ [] (keys_nodup h)]; rfl
theorem need_int {d : Nat} {i : Int} : cl06 (d + 1) "need_field" [.int i, .str s] σ = .exc (.ref σ.length) (σ ++ [.exc cRec []]) := by rw [P_need_field_sh]; rfl
theorem need_no {d : Nat} (h : (l.map (·.1)).Nodup) (hs : l.lookup s = none) : Ends (cl06 (d + 1) "need_field" [.tup (l.map pairV), .str s]) σ (.inr cLacks) := by
 rw [P_need_field_sh]
 refine Ends_step rfl (Ends_step rfl (Ends_no rfl (Ends_le (r_dictR h) .push (Ends_step (r_notInD get_new rfl) (Ends_step rfl (Ends_yes ?_ Ends_throw))))))
 rw [dGet_lab, hs]; rfl
theorem need_yes {d : Nat} {x : V} (h : (l.map (·.1)).Nodup) (hs : l.lookup s = some x) : Ends (cl06 (d + 1) "need_field" [.tup (l.map pairV), .str s]) σ (.inl .none) := by
 rw [P_need_field_sh]
 refine Ends_step rfl (Ends_step rfl (Ends_no rfl (Ends_le (r_dictR h) .push (Ends_step (r_notInD get_new rfl) (Ends_step rfl (Ends_no ?_ Ends_pure))))))
 rw [dGet_lab, hs]; rfl
theorem need_numI {d : Nat} {i : Int} : Ends (cl06 (d + 1) "need_number" [.int i]) σ (.inl (.int i)) := by rw [P_need_number_sh]; exact Ends_pure
theorem need_numT {d : Nat} {l : List V} : Ends (cl06 (d + 1) "need_number" [.tup l]) σ (.inr cNum) := by rw [P_need_number_sh]; exact Ends_throw
noncomputable def putL (l : List (Str × V)) (s : Str) (v : V) : List (Str × V) := l.map fun p => (p.1, cond (p.1 == s) v p.2)
theorem putL_keys : (putL l s v).map (·.1) = l.map (·.1) := by unfold putL; rw [List.map_map]; rfl
theorem putL_not (h : s ∉ l.map (·.1)) : putL l s v = l := by
 induction l with
 | nil => rfl
 | cons p r ih =>
  have hne : (p.1 == s) = false := beq_false_of_ne fun e => h (e ▸ List.mem_cons_self ..)
  show (p.1, cond (p.1 == s) v p.2) :: putL r s v = p :: r
  rw [hne, ih fun hm => h (List.mem_cons_of_mem _ hm)]; rfl
theorem putL_at : ∀ {l : List (Str × V)} {k : Nat} {p : Str × V}, (l.map (·.1)).Nodup → l[k]? = some p → putL l p.1 v = l.take k ++ (p.1, v) :: l.drop (k + 1)
 | [], _, _, _, e => by cases e
 | q :: r, 0, p, h, e => by
  cases e
  rw [List.map_cons, List.nodup_cons] at h
  show (q.1, cond (q.1 == q.1) v q.2) :: putL r q.1 v = _
  rw [beq_self_eq_true, putL_not h.1]; rfl
 | q :: r, k + 1, p, h, e => by
  rw [List.map_cons, List.nodup_cons] at h
  have hne : (q.1 == p.1) = false := beq_false_of_ne fun e' => h.1 (e' ▸ List.mem_map.mpr ⟨p, List.mem_of_getElem? e, rfl⟩)
  show (q.1, cond (q.1 == p.1) v q.2) :: putL r p.1 v = _
  rw [hne, putL_at h.2 e]; rfl
theorem lookup_at : ∀ {l : List (Str × V)} {k : Nat} {p : Str × V}, (l.map (·.1)).Nodup → l[k]? = some p → l.lookup p.1 = some p.2
 | [], _, _, _, e => by cases e
 | q :: r, 0, p, h, e => by cases e; rw [List.lookup_cons, beq_self_eq_true]
 | q :: r, k + 1, p, h, e => by
  rw [List.map_cons, List.nodup_cons] at h
  rw [List.lookup_cons, show (p.1 == q.1) = false from beq_false_of_ne fun e' => h.1 (e' ▸ List.mem_map.mpr ⟨p, List.mem_of_getElem? e, rfl⟩)]
  exact lookup_at h.2 e
theorem lookup_mem {x : V} (h : l.lookup s = some x) : (s, x) ∈ l := mem_of_lookup h
theorem putL_val (h1 : (l.map (·.1)).Nodup) (h2 : l.length ≤ 4) (h3 : ∀ p ∈ l, Val n p.2) (hv : Val n v) : Val (n + 1) (.tup ((putL l s v).map pairV)) := by
 refine .rcd (by rw [putL_keys]; exact h1) (by unfold putL; rw [List.length_map]; exact h2) fun p hp => ?_
 obtain ⟨q, hq, rfl⟩ := List.mem_map.mp hp
 show Val n (cond (q.1 == s) v q.2)
 cases q.1 == s with
 | true => exact hv
 | false => exact h3 q hq
end
end Mine.Internal

set_option backward.match.sparseCases false
namespace Mine.Internal
open PySem PyProof.Rows
section
variable {σ : Store} {l : List (Str × V)} {s : Str} {v : V} {d : Nat}
theorem of_int {i : Int} : cl06 (d + 1) "_law_of" [.int i, .str s, v] σ = .ok (told (.inr cRec)) σ := by rw [L_of_sh]; rfl
theorem addT {a b : List V} (h : a.length + b.length ≤ 100) : binop .Add (.tup a) (.tup b) σ = .ok (.tup (a ++ b)) σ := by
 show (if a.length + b.length ≤ sizeLine then pure (V.tup (a ++ b)) else M.bad : M V) σ = _
 rw [if_pos (Nat.le_trans h (by decide))]; rfl
inductive OfQ (l : List (Str × V)) (s : Str) (v : V) : V → Prop
 | no : l.lookup s = none → OfQ l s v (told (.inr cLacks))
 | yes {x : V} : l.lookup s = some x → OfQ l s v (.tup [.str sYes, x, .tup ((putL l s v).map pairV)])
structure OfP (l : List (Str × V)) (s : Str) (v : V) (σ : Store) (i : Nat) (loc : Loc) (τ : Store) : Prop where
 same : τ = σ
 loc : ∃ o, loc = [some (.tup (l.map pairV)), some (.str s), some v, o, none, none, none, none]
 not : ∀ p ∈ l.take i, p.1 ≠ s
theorem of_ok (h : (l.map (·.1)).Nodup) (h4 : l.length ≤ 4) : Wp (cl06 (d + 1) "_law_of" [.tup (l.map pairV), .str s, v]) σ (fun x σ' => σ' = σ ∧ OfQ l s v x) := by
 rw [L_of_sh]
 refine Wp_step rfl (Wp_step rfl (Wp_no rfl (Wp_step rfl (Wp_step (r_range ?_) (Wp_for (J := fun ya => True) (calm d) walks_vals (OfP l s v σ) (fun ya yb yc yd => trivial) ⟨rfl, ⟨_, rfl⟩, fun ya hp => nomatch hp⟩ (fun i x loc τ hx hp => ?_) fun loc τ hp => ?_)))))
 ·rw [List.length_map]; lia
 ·obtain ⟨rfl, ⟨o, rfl⟩, hnot⟩ := hp
  obtain ⟨rfl, hi⟩ := range_val hx
  rw [List.length_map] at hi
  have hi : i < l.length := Int.ofNat_lt.mp hi
  have hp : l[i]? = some l[i] := List.getElem?_eq_getElem hi
  have hx : (l.map pairV)[((i : Int)).toNat]? = some (pairV l[i]) := by rw [Int.toNat_natCast, List.getElem?_map, hp]; rfl
  rw [L_of_l1_step]
  refine Wp_step (r_itemT (Int.natCast_nonneg _) hx) (Wp_step r_item0 (Wp_eq w_at (Wp_cond (fun e => ?_) fun e => ?_)))
  ·have es : l[i].1 = s := eq_of_beq e
   have c1 : cut (l.map pairV) none (some (i : Int)) = (l.map pairV).take i := cut_to (Int.natCast_nonneg _) (by rw [List.length_map]; lia)
   have c2 : cut (l.map pairV) (some ((i : Int) + 1)) none = (l.map pairV).drop (i + 1) := cut_from (k := ((i + 1 : Nat) : Int)) (Int.natCast_nonneg _) (by rw [List.length_map]; lia)
   refine Wp_step (r_itemT (Int.natCast_nonneg _) hx) (Wp_step r_item1 (Wp_step rfl (Wp_step rfl (Wp_step rfl ?_))))
   rw [c1]
   refine Wp_step (addT ?_) (Wp_step rfl (Wp_step rfl (Wp_step rfl (Wp_step rfl ?_))))
   ·rw [List.length_take, List.length_map]; exact Nat.le_trans (Nat.add_le_add_right (Nat.le_trans (Nat.min_le_right _ _) h4) _) (by show 4 + 1 ≤ 100; decide)
   rw [c2]
   refine Wp_step (addT ?_) (Wp_pure (Wp_pure ⟨rfl, ?_⟩))
   ·rw [List.length_append, List.length_take, List.length_drop, List.length_map]
    exact Nat.le_trans (Nat.add_le_add (Nat.add_le_add_right (Nat.le_trans (Nat.min_le_right _ _) h4) 1) (Nat.le_trans (Nat.sub_le _ _) h4)) (by decide)
   have e2 := putL_at (v := v) h hp
   have e3 := lookup_at h hp
   rw [es] at e2 e3
   have : (l.map pairV).take i ++ [V.tup [.str s, v]] ++ (l.map pairV).drop (i + 1) = (putL l s v).map pairV := by
    rw [e2, List.map_append, List.map_cons, List.map_take, List.map_drop, List.append_assoc]; rfl
   rw [this]
   exact .yes e3
  ·refine Wp_pure ⟨rfl, ⟨_, rfl⟩, fun p hp' => ?_⟩
   rw [List.take_add_one, hp] at hp'
   rcases List.mem_append.mp hp' with hp' | hp'
   ·exact hnot p hp'
   ·rw [List.mem_singleton.mp hp']
    exact fun e' => by rw [e', beq_self_eq_true] at e; cases e
 ·obtain ⟨rfl, ⟨o, rfl⟩, hnot⟩ := hp
  rw [L_of_a1_eq]
  refine Wp_pure ⟨rfl, .no ?_⟩
  rw [range_len, List.length_map, Int.toNat_natCast, List.take_length] at hnot
  cases e : l.lookup s with
  | none => rfl
  | some x => exact absurd rfl (hnot _ (lookup_mem e))
end
end Mine.Internal

set_option backward.match.sparseCases false
namespace Mine.Internal
open PySem PyProof.Rows
noncomputable abbrev Dfn := Str × Nat × V
noncomputable def dfnV (p : Dfn) : V := .tup [.str p.1, .int p.2.1, p.2.2]
noncomputable def Lw (prog : List Dfn) (σ : Store) (k : Nat) : Prop := ∃ dv t, σ[k]? = some (.dict dv t) ∧ ∀ nm p, prog.find? (fun q => q.1 == nm) = some p → dGet t (.inr nm) = some p.2.2
noncomputable def Rn (prog : List Dfn) (σ : Store) (k : Nat) : Prop := ∃ j n, σ[k]? = some (.inst "Runner" j) ∧ σ[j]? = some (.flds [("program", .ref n)]) ∧ σ[n]? = some (.list (prog.map dfnV))
section
variable {prog : List Dfn} {σ σ' : Store} {k : Nat}
theorem Lw.le (h : Lw prog σ k) (hl : Le σ σ') : Lw prog σ' k := let ⟨dv, t, e, r⟩ := h; ⟨dv, t, hl.at e, r⟩
theorem Rn.le (h : Rn prog σ k) (hl : Le σ σ') : Rn prog σ' k := let ⟨j, n, e1, e2, e3⟩ := h; ⟨j, n, hl.at e1, hl.at e2, hl.at e3⟩
noncomputable def ms06 : List Str × List Str := (["__init__", "value", "put", "called"], ["program"])
theorem cls06 (d : Nat) : (cf06 d).cls "Runner" = some ms06 := by kernel_rfl
theorem Rn.tag (h : Rn prog σ k) {d : Nat} {m : Str} (hm : (["value", "put", "called"] : List Str).contains m = true) : askS (mtag (cf06 d) (.ref k) m) σ = .ok (.own "Runner") σ := by
 obtain ⟨j, n, e1, e2, _⟩ := h
 refine r_tagO e1 e2 (cls06 d) ?_
 rcases List.mem_cons.mp (List.contains_iff_mem.mp hm) with rfl | hm
 ·kernel_rfl
 ·rcases List.mem_cons.mp hm with rfl | hm
  ·kernel_rfl
  ·rw [List.mem_singleton.mp hm]; kernel_rfl
end
theorem nm_value : methName "Runner" "value" = "Runner.value" := by decide +kernel
theorem nm_put : methName "Runner" "put" = "Runner.put" := by decide +kernel
theorem nm_called : methName "Runner" "called" = "Runner.called" := by decide +kernel
theorem run_value {d : Nat} {o : V} {as : List V} : runM (cf06 d) "value" (.own "Runner") o as = cl06 d "Runner.value" (o :: as) := by
 show cl06 d (methName "Runner" "value") (o :: as) = _
 rw [nm_value]
theorem run_put {d : Nat} {o : V} {as : List V} : runM (cf06 d) "put" (.own "Runner") o as = cl06 d "Runner.put" (o :: as) := by
 show cl06 d (methName "Runner" "put") (o :: as) = _
 rw [nm_put]
theorem run_called {d : Nat} {o : V} {as : List V} : runM (cf06 d) "called" (.own "Runner") o as = cl06 d "Runner.called" (o :: as) := by
 show cl06 d (methName "Runner" "called") (o :: as) = _
 rw [nm_called]
structure Sp (prog : List Dfn) (d : Nat) (vs : List V) (b : V) (r : R) : Prop where
 law : ∀ (e : Nat) (σ : Store) (kv kk : Nat), 3 * d + 2 ≤ e → σ[kv]? = some (.list vs) → Lw prog σ kk → Tells (cl06 e "_law_ran" [b, .ref kv, .ref kk]) σ r
 run : ∀ (e : Nat) (σ : Store) (kv ks : Nat), 3 * d + 2 ≤ e → σ[kv]? = some (.list vs) → Rn prog σ ks → Ends (cl06 e "Runner.value" [.ref ks, b, .ref kv]) σ r
noncomputable def Both (prog : List Dfn) (d m : Nat) (b : V) : Prop := ∀ (n : Nat) (vs : List V), vs.length = m → (∀ v ∈ vs, Val n v) → ∃ r, ROk (d + n) r ∧ Sp prog d vs b r
section
variable {prog : List Dfn} {d m e : Nat} {a b c : V} {vs : List V} {r : R} {σ : Store} {kv kk ks : Nat}
theorem Sp.value (h : Sp prog d vs b r) (he : 3 * d + 2 ≤ e) (hv : σ[kv]? = some (.list vs)) (hs : Rn prog σ ks) : Ends (runM (cf06 e) "value" (.own "Runner") (.ref ks) [b, .ref kv]) σ r := by
 rw [run_value]; exact h.run e σ kv ks he hv hs
theorem both_num (i : Int) : Both prog d m (.tup [.str (Str.ofString "number"), .int i]) := fun n vs ya yb => by
 refine ⟨.inl (.int i), .val (.num i), fun e σ kv kk he hv hk => ?_, fun e σ kv ks he hv hs => ?_⟩
 ·obtain ⟨e, rfl⟩ := up1 (d := e) (Nat.lt_of_lt_of_le (Nat.succ_pos _) he)
  rw [L_ran_sh]
  exact Wp_eq h_yes (Wp_step r_item1 (Tells_pure rfl))
 ·obtain ⟨e, rfl⟩ := up1 (d := e) (Nat.lt_of_lt_of_le (Nat.succ_pos _) he)
  rw [P_Runner_value_sh]
  exact Ends_step r_item0 (Ends_eq w_yes (Ends_step r_item1 Ends_pure))
theorem both_inp {k : Nat} (hk : k < m) : Both prog d m (.tup [.str (Str.ofString "input"), .int k]) := fun n vs hl hv => by
 have hx : vs[((k : Int)).toNat]? = some (vs[k]'(hl ▸ hk)) := by rw [Int.toNat_natCast]; exact List.getElem?_eq_getElem _
 refine ⟨.inl (vs[k]'(hl ▸ hk)), .val ((hv _ (List.getElem_mem _)).mono (Nat.le_add_left _ _)), fun e σ kv kk he hv hk => ?_, fun e σ kv ks he hv hs => ?_⟩
 ·obtain ⟨e, rfl⟩ := up1 (d := e) (Nat.lt_of_lt_of_le (Nat.succ_pos _) he)
  rw [L_ran_sh]
  exact Wp_eq (h_no (by decide +kernel)) (Wp_eq h_yes (Wp_step r_item1 (Wp_step (r_item hv (Int.natCast_nonneg _) hx) (Tells_pure rfl))))
 ·obtain ⟨e, rfl⟩ := up1 (d := e) (Nat.lt_of_lt_of_le (Nat.succ_pos _) he)
  rw [P_Runner_value_sh]
  exact Ends_step r_item0 (Ends_eq (w_no (by decide +kernel)) (Ends_eq w_yes (Ends_step r_item1 (Ends_step (r_item hv (Int.natCast_nonneg _) hx) Ends_pure))))
inductive NumR : R → R → Prop
 | num (i : Int) : NumR (.inl (.int i)) (.inl (.int i))
 | rcd (l : List V) : NumR (.inl (.tup l)) (.inr cNum)
 | no (c : Str) : NumR (.inr c) (.inr c)
theorem num_of {n : Nat} (h : ROk n r) : ∃ q, NumR r q ∧ ((∃ i, q = .inl (.int i)) ∨ ∃ c, q = .inr c ∧ ROk n (.inr c)) := by
 cases h with
 | val h => cases h with
  | num i => exact ⟨_, .num i, .inl ⟨i, rfl⟩⟩
  | rcd _ _ _ => exact ⟨_, .rcd _, .inr ⟨_, rfl, .num⟩⟩
 | num => exact ⟨_, .no _, .inr ⟨_, rfl, .num⟩⟩
 | rcd => exact ⟨_, .no _, .inr ⟨_, rfl, .rcd⟩⟩
 | lacks => exact ⟨_, .no _, .inr ⟨_, rfl, .lacks⟩⟩
theorem Sp.number {q : R} (h : Sp prog d vs b r) (hq : NumR r q) (he : 3 * d + 3 ≤ e) (hv : σ[kv]? = some (.list vs)) (hk : Lw prog σ kk) : Tells (cl06 e "_law_number" [b, .ref kv, .ref kk]) σ q := by
 obtain ⟨e, rfl⟩ := up1 (d := e) (Nat.lt_of_lt_of_le (Nat.succ_pos _) he)
 rw [L_number_sh]
 refine (h.law e σ kv kk (Nat.le_of_succ_le_succ he) hv hk).go fun σ' hl => ?_
 cases hq with
 | num i => exact Wp_step (a := false) (σ' := σ') ((h_yes (w := sYes)).trans rfl) (Wp_no rfl (Tells_pure rfl))
 | rcd l => exact Wp_step (a := true) (σ' := σ') ((h_yes (w := sYes)).trans rfl) (Wp_yes rfl (Tells_pure rfl))
 | no c => exact Wp_step (a := false) (σ' := σ') ((h_no (w := sNo) (by decide +kernel)).trans rfl) (Wp_no rfl (Tells_pure rfl))
theorem NumR.need {q : R} {m : M V} {f : V → M V} {r' : R} (hq : NumR r q) (h : Ends m σ r) (h1 : ∀ i σ', q = .inl (.int i) → Le σ σ' → Ends (f (.int i)) σ' r') (h2 : ∀ c, q = .inr c → r' = .inr c) : Ends (m >>= fun t => (cl06 (e + 1) "need_number" [t] >>= f)) σ r' := by
 cases hq with
 | num i => exact h.go fun σ' hl => need_numI.go fun σ'' hl' => h1 i σ'' rfl (hl.trans hl')
 | rcd l => rw [h2 _ rfl]; exact h.go fun σ' hl => need_numT.err
 | no c => rw [h2 _ rfl]; exact h.err
end
end Mine.Internal

set_option backward.match.sparseCases false
namespace Mine.Internal
open PySem PyProof.Rows
section
variable {prog : List Dfn} {d m e : Nat} {a b c : V} {vs : List V} {r ra rb rc q : R} {σ : Store} {kv kk ks : Nat} {s w : Str} {l : List V}
theorem ran_t5 (h : ([Str.ofString "number", Str.ofString "input", Str.ofString "make", Str.ofString "get", Str.ofString "put", Str.ofString "call"].contains w) = false) :
  cl06 (e + 1) "_law_ran" [.tup (.str w :: l), .ref kv, .ref kk] σ = L_ran_t5 e (.tup (.str w :: l)) (.ref kv) (.ref kk) none σ := by
 simp only [List.contains_cons, List.contains_nil, Bool.or_false, Bool.or_eq_false_iff] at h
 obtain ⟨h1, h2, h3, h4, h5, h6⟩ := h
 rw [L_ran_sh]
 exact (h_no h1).trans ((h_no h2).trans ((h_no h3).trans ((bind_ok (a := false) (σ' := σ) ((h_no h4).trans (h_no h5))).trans (h_no h6))))
theorem ran_first (h : Sp prog d vs a ra) (hq : NumR ra q) (he : 3 * d + 3 ≤ e) (hv : σ[kv]? = some (.list vs)) (hk : Lw prog σ kk) (h1 : ∀ i σ', q = .inl (.int i) → Le σ σ' → Tells (L_ran_t6 e (.tup (.str w :: a :: l)) (.ref kv) (.ref kk) none (told (.inl (.int i)))) σ' r) (h2 : ∀ c, q = .inr c → r = .inr c) :
  Tells (L_ran_t5 e (.tup (.str w :: a :: l)) (.ref kv) (.ref kk) none) σ r := by
 refine Wp_step r_item1 ((h.number hq he hv hk).go fun σ' hl => ?_)
 cases q with
 | inr c => rw [h2 c rfl]; exact Wp_eq h_yes (Tells_pure rfl)
 | inl v =>
  cases hq with
  | num i => exact Wp_eq (h_no (by decide +kernel)) (h1 i σ' rfl hl)
noncomputable def sumR : R → R → R
 | .inl (.int i), .inl (.int j) => .inl (.int (i + j))
 | .inl (.int _), .inr c => .inr c
 | .inr c, _ => .inr c
 | .inl v, _ => .inl v
theorem both_sum (ha : Both prog d m a) (hb : Both prog d m b) : Both prog (d + 1) m (.tup [.str (Str.ofString "sum"), a, b]) := fun n vs hl hv => by
 obtain ⟨ra, oka, sa⟩ := ha n vs hl hv
 obtain ⟨rb, okb, sb⟩ := hb n vs hl hv
 obtain ⟨qa, na, hqa⟩ := num_of oka
 obtain ⟨qb, nb, hqb⟩ := num_of okb
 refine ⟨sumR qa qb, ?_, fun e σ kv kk he hv hk => ?_, fun e σ kv ks he hv hs => ?_⟩
 ·have up : d + n ≤ d + 1 + n := Nat.add_le_add_right (Nat.le_succ d) n
  rcases hqa with ⟨i, rfl⟩ | ⟨c, rfl, h⟩
  ·rcases hqb with ⟨j, rfl⟩ | ⟨c, rfl, h⟩
   ·exact .val (.num _)
   ·exact h.mono up
  ·exact h.mono up
 ·obtain ⟨e, rfl⟩ := up1 (d := e) (Nat.lt_of_lt_of_le (Nat.succ_pos _) he)
  have he : 3 * d + 4 ≤ e := Nat.le_of_succ_le_succ he
  refine Wp_eq (ran_t5 (by decide +kernel)) (ran_first sa na (Nat.le_trans (Nat.le_succ _) he) hv hk (fun i σ₁ e1 hl => ?_) fun c e1 => by subst e1; rfl)
  subst e1
  refine Wp_eq (h_no (by decide +kernel)) (Wp_step r_item2 ((sb.number nb (Nat.le_trans (Nat.le_succ _) he) (hl.at hv) (hk.le hl)).go fun σ₂ hl2 => ?_))
  cases qb with
  | inr c => exact Wp_eq h_yes (Tells_pure rfl)
  | inl v =>
   cases nb with
   | num j => exact Wp_eq (h_no (by decide +kernel)) (Wp_step r_item1 (Wp_step r_item1 (Wp_step rfl (Tells_pure rfl))))
 ·obtain ⟨e, rfl⟩ : ∃ f, e = f + 2 := ⟨e - 2, by (first | lia | omega)⟩
  have he : 3 * d + 3 ≤ e := by (first | lia | omega)
  have he1 : 3 * d + 2 ≤ e + 1 := by (first | lia | omega)
  rw [P_Runner_value_sh]
  refine Ends_step r_item0 (Ends_eq (w_no (by decide +kernel)) (Ends_eq (w_no (by decide +kernel)) (Ends_eq (w_no (by decide +kernel)) (Ends_eq (w_no (by decide +kernel)) (Ends_eq (w_no (by decide +kernel)) (Ends_eq w_yes (Ends_step (hs.tag (by decide +kernel)) (Ends_step r_item1 ?_))))))))
  refine na.need (sa.value he1 hv hs) (fun i σ₁ e1 hl => ?_) fun c e1 => by subst e1; rfl
  subst e1
  refine Ends_step ((hs.le hl).tag (by decide +kernel)) (Ends_step r_item2 (nb.need (sb.value he1 (hl.at hv) (hs.le hl)) (fun j σ₂ e2 hl2 => ?_) fun c e2 => by subst e2; rfl))
  subst e2
  exact Ends_step rfl Ends_pure
theorem pick_ite {i : Int} {x : V} : (cmp .NotEq (.int i) (.int 0) >>= fun t => (truth t >>= fun y => (M.cond y (item (.tup [x, a, b, c]) (V.int 2) >>= fun t => (Pure.pure t : M V)) (item (.tup [x, a, b, c]) (V.int 3) >>= fun t => (Pure.pure t : M V))))) σ = .ok (cond (i == 0) c b) σ := by
 show (M.cond (!(i == 0)) (item (.tup [x, a, b, c]) (V.int 2) >>= fun t => (Pure.pure t : M V)) (item (.tup [x, a, b, c]) (V.int 3) >>= fun t => (Pure.pure t : M V))) σ = _
 cases i == 0 with
 | true => show (item (.tup [x, a, b, c]) (V.int 3) >>= fun t => (Pure.pure t : M V)) σ = _; exact bind_ok (r_itemT (l := [x, a, b, c]) (i := 3) (by decide) rfl)
 | false => show (item (.tup [x, a, b, c]) (V.int 2) >>= fun t => (Pure.pure t : M V)) σ = _; exact bind_ok (r_itemT (l := [x, a, b, c]) (i := 2) (by decide) rfl)
noncomputable def iteR : R → R → R → R
 | .inl (.int i), r, q => cond (i == 0) q r
 | .inr c, _, _ => .inr c
 | .inl v, _, _ => .inl v
theorem both_ite (ha : Both prog d m a) (hb : Both prog d m b) (hc : Both prog d m c) : Both prog (d + 1) m (.tup [.str (Str.ofString "if"), a, b, c]) := fun n vs hl hv => by
 obtain ⟨ra, oka, sa⟩ := ha n vs hl hv
 obtain ⟨rb, okb, sb⟩ := hb n vs hl hv
 obtain ⟨rc, okc, sc⟩ := hc n vs hl hv
 obtain ⟨qa, na, hqa⟩ := num_of oka
 refine ⟨iteR qa rb rc, ?_, fun e σ kv kk he hv hk => ?_, fun e σ kv ks he hv hs => ?_⟩
 ·have up : d + n ≤ d + 1 + n := Nat.add_le_add_right (Nat.le_succ d) n
  rcases hqa with ⟨i, rfl⟩ | ⟨c, rfl, h⟩
  ·show ROk _ (cond (i == 0) rc rb)
   cases i == 0 with
   | true => exact okc.mono up
   | false => exact okb.mono up
  ·exact h.mono up
 ·obtain ⟨e, rfl⟩ := up1 (d := e) (Nat.lt_of_lt_of_le (Nat.succ_pos _) he)
  have he : 3 * d + 4 ≤ e := Nat.le_of_succ_le_succ he
  refine Wp_eq (ran_t5 (by decide +kernel)) (ran_first sa na (Nat.le_trans (Nat.le_succ _) he) hv hk (fun i σ₁ e1 hl => ?_) fun c e1 => by subst e1; rfl)
  subst e1
  have he2 : 3 * d + 2 ≤ e := by (first | lia | omega)
  refine Wp_eq h_yes (Wp_step r_item1 (Wp_step r_eqI (Wp_step rfl ?_)))
  show Tells _ σ₁ (cond (i == 0) rc rb)
  cases i == 0 with
  | true => exact Wp_step rfl (Wp_step (r_itemT (i := 3) (by decide) rfl) (sc.law e σ₁ kv kk he2 (hl.at hv) (hk.le hl)))
  | false => exact Wp_step rfl (Wp_step (r_itemT (i := 2) (by decide) rfl) (sb.law e σ₁ kv kk he2 (hl.at hv) (hk.le hl)))
 ·obtain ⟨e, rfl⟩ : ∃ f, e = f + 2 := ⟨e - 2, by (first | lia | omega)⟩
  have he1 : 3 * d + 2 ≤ e + 1 := by (first | lia | omega)
  rw [P_Runner_value_sh]
  refine Ends_step r_item0 (Ends_eq (w_no (by decide +kernel)) (Ends_eq (w_no (by decide +kernel)) (Ends_eq (w_no (by decide +kernel)) (Ends_eq (w_no (by decide +kernel)) (Ends_eq (w_no (by decide +kernel)) (Ends_eq (w_no (by decide +kernel)) (Ends_eq w_yes (Ends_step (hs.tag (by decide +kernel)) (Ends_step r_item1 ?_)))))))))
  refine na.need (sa.value he1 hv hs) (fun i σ₁ e1 hl => ?_) fun c e1 => by subst e1; rfl
  subst e1
  refine Ends_step ((hs.le hl).tag (by decide +kernel)) ?_
  refine Ends_step (pick_ite (x := .str (Str.ofString "if")) (i := i) (a := a) (b := b) (c := c)) ?_
  show Ends _ σ₁ (cond (i == 0) rc rb)
  cases i == 0 with
  | true => exact Ends.last (m := runM (cf06 (e + 1)) "value" (.own "Runner") (.ref ks) [c, .ref kv]) (sc.value he1 (hl.at hv) (hs.le hl))
  | false => exact Ends.last (m := runM (cf06 (e + 1)) "value" (.own "Runner") (.ref ks) [b, .ref kv]) (sb.value he1 (hl.at hv) (hs.le hl))
end
end Mine.Internal

set_option backward.match.sparseCases false
namespace Mine.Internal
open PySem PyProof.Rows
section
variable {prog : List Dfn} {d m e n : Nat} {a b c v : V} {vs : List V} {r ra rb rc q : R} {σ : Store} {kv kk ks : Nat} {s w : Str} {l : List V}
inductive AtR : V → Str → R → Prop
 | num (i : Int) (s : Str) : AtR (.int i) s (.inr cRec)
 | no {l : List (Str × V)} {s : Str} : (l.map (·.1)).Nodup → l.length ≤ 4 → l.lookup s = none → AtR (.tup (l.map pairV)) s (.inr cLacks)
 | yes {l : List (Str × V)} {s : Str} {x : V} : (l.map (·.1)).Nodup → l.length ≤ 4 → l.lookup s = some x → AtR (.tup (l.map pairV)) s (.inl x)
theorem at_of (h : Val n v) (s : Str) : ∃ q, AtR v s q ∧ ROk n q := by
 cases h with
 | num i => exact ⟨_, .num i s, .rcd⟩
 | @rcd n l h1 h2 h3 =>
  cases e : l.lookup s with
  | none => exact ⟨_, .no h1 h2 e, .lacks⟩
  | some x => exact ⟨_, .yes h1 h2 e, .val ((h3 _ (lookup_mem e)).mono (Nat.le_succ _))⟩
theorem ran_asked (h : w = Str.ofString "get" ∨ w = Str.ofString "put") : cl06 (e + 1) "_law_ran" [.tup (.str w :: l), .ref kv, .ref kk] σ = cl06 e "_law_asked" [.tup (.str w :: l), .ref kv, .ref kk] σ := by
 rw [L_ran_sh]
 rcases h with rfl | rfl
 ·exact (h_no (by decide +kernel)).trans ((h_no (by decide +kernel)).trans ((h_no (by decide +kernel)).trans (bind_ok (a := true) (σ' := σ) h_yes)))
 ·exact (h_no (by decide +kernel)).trans ((h_no (by decide +kernel)).trans ((h_no (by decide +kernel)).trans (bind_ok (a := true) (σ' := σ) ((h_no (by decide +kernel)).trans h_yes))))
theorem cut_two {x y : V} : cut (x :: y :: l) none (some 2) = [x, y] := (cut_to (by decide) (by rw [List.length_cons, List.length_cons]; lia)).trans rfl
theorem asked_get (h : Sp prog d vs b r) (hr : ROk n r) (he : 3 * d + 4 ≤ e) (hv : σ[kv]? = some (.list vs)) (hk : Lw prog σ kk) (h1 : ∀ v, r = .inl v → AtR v s q) (h2 : ∀ c, r = .inr c → q = .inr c) :
  Tells (cl06 e "_law_asked" [.tup [.str (Str.ofString "get"), b, .str s], .ref kv, .ref kk]) σ q := by
 obtain ⟨e, rfl⟩ : ∃ f, e = f + 2 := ⟨e - 2, by (first | lia | omega)⟩
 rw [L_asked_sh]
 refine Wp_step r_item1 ((h.law (e + 1) σ kv kk (by (first | lia | omega)) hv hk).go fun σ' hl => ?_)
 cases r with
 | inr c => rw [h2 c rfl]; exact Wp_eq h_yes (Tells_pure rfl)
 | inl v =>
  refine Wp_eq (h_no (by decide +kernel)) (Wp_step r_item1 (Wp_step r_item2 ?_))
  have two : ∀ {x y : V} {l : List V}, q = .inl y → x = .str sYes → Tells (bound V.none >>= fun i => bound (V.int 2) >>= fun i' => sliceV i i' (.tup (x :: y :: l)) >>= fun t => (Pure.pure t : M V)) σ' q := fun {x y l} e1 e2 => by
   subst e1 e2
   refine Wp_step rfl (Wp_step rfl (Wp_step (a := .tup [.str sYes, y]) ?_ (Tells_pure rfl)))
   show Res.ok (V.tup (cut _ _ _)) _ = _
   rw [cut_two]
  cases h1 v rfl with
  | num i s =>
   refine Wp_step of_int (Wp_step (a := true) (σ' := σ') h_yes (Wp_yes rfl (Wp_step rfl (Wp_step rfl (Wp_step rfl (Tells_pure rfl))))))
  | no g1 g2 g3 =>
   refine (of_ok g1 g2).step fun x τ hx => ?_
   obtain ⟨rfl, hx⟩ := hx
   cases hx with
   | no _ => exact Wp_step (a := true) (σ' := τ) h_yes (Wp_yes rfl (Wp_step rfl (Wp_step rfl (Wp_step rfl (Tells_pure rfl)))))
   | yes e => rw [g3] at e; cases e
  | yes g1 g2 g3 =>
   refine (of_ok g1 g2).step fun x τ hx => ?_
   obtain ⟨rfl, hx⟩ := hx
   cases hx with
   | no e => rw [g3] at e; cases e
   | yes e =>
    rw [g3] at e; cases e
    exact Wp_step (a := true) (σ' := τ) ((h_no (by decide +kernel)).trans h_yes) (Wp_yes rfl (two rfl rfl))
theorem both_get (hb : Both prog d m b) : Both prog (d + 1) m (.tup [.str (Str.ofString "get"), b, .str s]) := fun n vs hl hv => by
 obtain ⟨r, ok, sb⟩ := hb n vs hl hv
 have up : d + n ≤ d + 1 + n := Nat.add_le_add_right (Nat.le_succ d) n
 obtain ⟨q, okq, h1, h2⟩ : ∃ q, ROk (d + n) q ∧ (∀ v, r = .inl v → AtR v s q) ∧ ∀ c, r = .inr c → q = .inr c := by
  cases r with
  | inr c => exact ⟨.inr c, ok, fun ya e => (nomatch e), fun ya e => by cases e; rfl⟩
  | inl v =>
   cases ok with
   | val h =>
    obtain ⟨q, hq, hok⟩ := at_of h s
    exact ⟨q, hok, fun ya e => by cases e; exact hq, fun ya e => nomatch e⟩
 refine ⟨q, okq.mono up, fun e σ kv kk he hv hk => ?_, fun e σ kv ks he hv hs => ?_⟩
 ·obtain ⟨e, rfl⟩ := up1 (d := e) (Nat.lt_of_lt_of_le (Nat.succ_pos _) he)
  exact Wp_eq (ran_asked (.inl rfl)) (asked_get sb ok (Nat.le_of_succ_le_succ he) hv hk h1 h2)
 ·obtain ⟨e, rfl⟩ : ∃ f, e = f + 2 := ⟨e - 2, by (first | lia | omega)⟩
  have he1 : 3 * d + 2 ≤ e + 1 := by (first | lia | omega)
  rw [P_Runner_value_sh]
  refine Ends_step r_item0 (Ends_eq (w_no (by decide +kernel)) (Ends_eq (w_no (by decide +kernel)) (Ends_eq (w_no (by decide +kernel)) (Ends_eq w_yes (Ends_step (hs.tag (by decide +kernel)) (Ends_step r_item1 ?_))))))
  cases r with
  | inr c => rw [h2 c rfl]; exact (sb.value he1 hv hs).err
  | inl v =>
   refine (sb.value he1 hv hs).go fun σ' hl => Ends_step r_item2 ?_
   cases h1 v rfl with
   | num i s => exact Ends.err (.no need_int get_new .push)
   | no g1 g2 g3 => exact (need_no g1 g3).err
   | yes g1 g2 g3 => exact (need_yes g1 g3).go fun σ'' ya => Ends_le (r_dictR g1) .push (Ends_step r_item2 (Ends_step (r_itemD get_new rfl ((dGet_lab _).trans g3)) Ends_pure))
inductive PutR : V → Str → R → R → Prop
 | num (i : Int) (s : Str) (q : R) : PutR (.int i) s q (.inr cRec)
 | no {l : List (Str × V)} {s : Str} (q : R) : (l.map (·.1)).Nodup → l.length ≤ 4 → l.lookup s = none → PutR (.tup (l.map pairV)) s q (.inr cLacks)
 | err {l : List (Str × V)} {s : Str} {x : V} (c : Str) : (l.map (·.1)).Nodup → l.length ≤ 4 → l.lookup s = some x → PutR (.tup (l.map pairV)) s (.inr c) (.inr c)
 | yes {l : List (Str × V)} {s : Str} {x : V} (y : V) : (l.map (·.1)).Nodup → l.length ≤ 4 → l.lookup s = some x → PutR (.tup (l.map pairV)) s (.inl y) (.inl (.tup ((putL l s y).map pairV)))
theorem put_of (h : Val n v) (s : Str) (hq : ROk n q) : ∃ p, PutR v s q p ∧ ROk (n + 1) p := by
 cases h with
 | num i => exact ⟨_, .num i s q, .rcd⟩
 | @rcd n l h1 h2 h3 =>
  cases e : l.lookup s with
  | none => exact ⟨_, .no q h1 h2 e, .lacks⟩
  | some x =>
   cases q with
   | inr c => exact ⟨_, .err c h1 h2 e, hq.mono (Nat.le_succ _)⟩
   | inl y =>
    cases hq with
    | val hy => exact ⟨_, .yes y h1 h2 e, .val (putL_val h1 h2 (fun p hp => (h3 p hp).mono (Nat.le_succ _)) hy)⟩
theorem asked_put {p : R} (h : Sp prog d vs b r) (h' : Sp prog d vs c q) (he : 3 * d + 4 ≤ e) (hv : σ[kv]? = some (.list vs)) (hk : Lw prog σ kk) (h1 : ∀ v, r = .inl v → PutR v s q p) (h2 : ∀ c, r = .inr c → p = .inr c) :
  Tells (cl06 e "_law_asked" [.tup [.str (Str.ofString "put"), b, .str s, c], .ref kv, .ref kk]) σ p := by
 obtain ⟨e, rfl⟩ : ∃ f, e = f + 2 := ⟨e - 2, by (first | lia | omega)⟩
 rw [L_asked_sh]
 refine Wp_step r_item1 ((h.law (e + 1) σ kv kk (by (first | lia | omega)) hv hk).go fun σ' hl => ?_)
 cases r with
 | inr c => rw [h2 c rfl]; exact Wp_eq h_yes (Tells_pure rfl)
 | inl v =>
  refine Wp_eq (h_no (by decide +kernel)) (Wp_step r_item1 (Wp_step r_item2 ?_))
  have next : ∀ {l : List (Str × V)} {x y : V}, (l.map (·.1)).Nodup → l.length ≤ 4 → l.lookup s = some x → (∀ τ, Le σ' τ → Tells (item (told q) (V.int 0) >>= fun t => (cmp .Eq t (V.str (Str.ofString "no")) >>= fun t => (truth t >>= fun z => (M.cond z (Pure.pure (told q) : M V) (L_asked_t3 (e + 1) (.tup [.str (Str.ofString "put"), b, .str s, c]) (.ref kv) (.ref kk) (told (.inl (.tup (l.map pairV)))) y (told q)))))) τ p) →
    Tells (L_asked_t2 (e + 1) (.tup [.str (Str.ofString "put"), b, .str s, c]) (.ref kv) (.ref kk) (told (.inl (.tup (l.map pairV)))) y) σ' p := fun g1 g2 g3 k =>
   Wp_step (r_itemT (i := 3) (by decide) rfl) ((h'.law (e + 1) σ' kv kk (by (first | lia | omega)) (hl.at hv) (hk.le hl)).go k)
  cases h1 v rfl with
  | num i s => exact Wp_step of_int (Wp_step (a := true) (σ' := σ') h_yes (Wp_yes rfl (Wp_step rfl (Wp_step rfl (Wp_step rfl (Tells_pure rfl))))))
  | no q g1 g2 g3 =>
   refine (of_ok g1 g2).step fun x τ hx => ?_
   obtain ⟨rfl, hx⟩ := hx
   cases hx with
   | no _ => exact Wp_step (a := true) (σ' := τ) h_yes (Wp_yes rfl (Wp_step rfl (Wp_step rfl (Wp_step rfl (Tells_pure rfl)))))
   | yes e => rw [g3] at e; cases e
  | err c g1 g2 g3 =>
   refine (of_ok g1 g2).step fun x τ hx => ?_
   obtain ⟨rfl, hx⟩ := hx
   cases hx with
   | no e => rw [g3] at e; cases e
   | yes e => exact Wp_step (a := false) (σ' := τ) ((h_no (by decide +kernel)).trans (h_no (by decide +kernel))) (Wp_no rfl (next g1 g2 g3 fun τ' ya => Wp_eq h_yes (Tells_pure rfl)))
  | yes y g1 g2 g3 =>
   refine (of_ok g1 g2).step fun x τ hx => ?_
   obtain ⟨rfl, hx⟩ := hx
   cases hx with
   | no e => rw [g3] at e; cases e
   | yes e =>
    refine Wp_step (a := false) (σ' := τ) ((h_no (by decide +kernel)).trans (h_no (by decide +kernel))) (Wp_no rfl (next g1 g2 g3 fun τ' ya => Wp_eq (h_no (by decide +kernel)) ?_))
    refine Wp_step r_item1 (Wp_step r_item2 (Wp_step r_item1 ((of_ok g1 g2).step fun x' τ'' hx' => ?_)))
    obtain ⟨rfl, hx'⟩ := hx'
    cases hx' with
    | no e => rw [g3] at e; cases e
    | yes _ => exact Wp_step r_item2 (Tells_pure rfl)
theorem put_comp {l : List (Str × V)} {y : V} {self : V} {f : V → M V} (h4 : l.length ≤ 4) (k : Ends (f (.ref σ.length)) (σ ++ [.list ((putL l s y).map pairV)]) r) :
  Ends (compAll (cf06 e) (cElt P_Runner_put_c1) (cTgt P_Runner_put_c1) (cIfs P_Runner_put_c1) (cScope P_Runner_put_c1) (.vals (l.map pairV)) P_Runner_put_F.names [some self, some (.tup [.str w, b, .str s, c]), some (.ref kv), some (.tup (l.map pairV)), some y, none, none] >>= f) σ r := by
 have h24 : (16777216 : Nat) = sizeLine := rfl
 have e0 : ((l.map pairV).filterMap fun v => (labOf v).map fun p => pairV (p.1, cond (p.1 == s) y p.2)) = (putL l s y).map pairV := by
  unfold putL
  rw [List.filterMap_map, List.map_map, ← List.filterMap_eq_map]; rfl
 obtain ⟨a, σ', e1, e2, e3⟩ := Wp_compPure (K := fun v => (Pure.pure v : M V)) (Q := fun v σ' => v = .ref σ.length ∧ σ' = σ ++ [.list ((putL l s y).map pairV)]) (σ := σ) (calm e) (walks_vals (l := l.map pairV)) P_Runner_put_c1_ok (P_Runner_put_c1_in self (.tup [.str w, b, .str s, c]) (.ref kv) (.tup (l.map pairV)) y) (by rw [List.length_map]; lia)
  (fun loc => ∃ o1 o2, loc = [none, o1, o2, some (.tup [.str w, b, .str s, c]), some y]) ⟨_, _, rfl⟩ (fun v => (labOf v).map fun p => pairV (p.1, cond (p.1 == s) y p.2)) (fun v loc hv hS => by
   obtain ⟨o1, o2, rfl⟩ := hS
   obtain ⟨p, _, rfl⟩ := List.mem_map.mp hv
   refine ⟨_, congrArg (fun m : M Loc => m σ) (P_Runner_put_c1_bind _ _ o1 o2 (.str p.1) p.2), ⟨_, _, rfl⟩, true, by rw [P_Runner_put_c1_tst]; rfl, ?_⟩
   rw [if_pos rfl, P_Runner_put_c1_elt]
   refine ⟨pairV (p.1, cond (p.1 == s) y p.2), ?_, rfl⟩
   refine bind_ok (a := cond (p.1 == s) y p.2) (σ' := σ) ((bind_ok r_item2).trans (w_at.trans ?_))
   cases p.1 == s <;> rfl) (Wp_pure ⟨rfl, by rw [e0]⟩)
 subst e2 e3
 exact Ends_le e1 .push k
theorem both_put (hb : Both prog d m b) (hc : Both prog d m c) : Both prog (d + 1) m (.tup [.str (Str.ofString "put"), b, .str s, c]) := fun n vs hl hv => by
 obtain ⟨r, ok, sb⟩ := hb n vs hl hv
 obtain ⟨q, okq, sc⟩ := hc n vs hl hv
 obtain ⟨p, okp, h1, h2⟩ : ∃ p, ROk (d + n + 1) p ∧ (∀ v, r = .inl v → PutR v s q p) ∧ ∀ c, r = .inr c → p = .inr c := by
  cases r with
  | inr c => exact ⟨.inr c, ok.mono (Nat.le_succ _), fun ya e => (nomatch e), fun ya e => by cases e; rfl⟩
  | inl v =>
   cases ok with
   | val h =>
    obtain ⟨p, hp, hok⟩ := put_of h s okq
    exact ⟨p, hok, fun ya e => by cases e; exact hp, fun ya e => nomatch e⟩
 refine ⟨p, by rw [Nat.add_right_comm]; exact okp, fun e σ kv kk he hv hk => ?_, fun e σ kv ks he hv hs => ?_⟩
 ·obtain ⟨e, rfl⟩ := up1 (d := e) (Nat.lt_of_lt_of_le (Nat.succ_pos _) he)
  exact Wp_eq (ran_asked (.inr rfl)) (asked_put sb sc (Nat.le_of_succ_le_succ he) hv hk h1 h2)
 ·obtain ⟨e, rfl⟩ : ∃ f, e = f + 3 := ⟨e - 3, by (first | lia | omega)⟩
  have he1 : 3 * d + 2 ≤ e + 1 := by (first | lia | omega)
  rw [P_Runner_value_sh]
  refine Ends_step r_item0 (Ends_eq (w_no (by decide +kernel)) (Ends_eq (w_no (by decide +kernel)) (Ends_eq (w_no (by decide +kernel)) (Ends_eq (w_no (by decide +kernel)) (Ends_eq w_yes (Ends_step (hs.tag (by decide +kernel)) (Ends.last ?_)))))))
  rw [run_put, P_Runner_put_sh]
  refine Ends_step (hs.tag (by decide +kernel)) (Ends_step r_item1 ?_)
  cases r with
  | inr c => rw [h2 c rfl]; exact (sb.value he1 hv hs).err
  | inl v =>
   refine (sb.value he1 hv hs).go fun σ' hl => Ends_step r_item2 ?_
   cases h1 v rfl with
   | num i s => exact Ends.err (.no need_int get_new .push)
   | no q g1 g2 g3 => exact (need_no g1 g3).err
   | err c g1 g2 g3 => exact (need_yes g1 g3).go fun σ'' hl' => Ends_step ((hs.le (hl.trans hl')).tag (by decide +kernel)) (Ends_step (r_itemT (i := 3) (by decide) rfl) (sc.value he1 ((hl.trans hl').at hv) (hs.le (hl.trans hl'))).err)
   | yes y g1 g2 g3 =>
    refine (need_yes g1 g3).go fun σ'' hl' => Ends_step ((hs.le (hl.trans hl')).tag (by decide +kernel)) (Ends_step (r_itemT (i := 3) (by decide) rfl) ((sc.value he1 ((hl.trans hl').at hv) (hs.le (hl.trans hl'))).go fun σ₃ ya => Ends_step (a := .vals _) rfl (put_comp g2 ?_)))
    exact Ends_step (r_tuple get_new) Ends_pure
end
end Mine.Internal

set_option backward.match.sparseCases false
namespace Mine.Internal
open PySem PyProof.Rows
inductive Alls {α β : Type} (P : α → β → Prop) : List α → List β → Prop
 | nil : Alls P [] []
 | cons {a : α} {b : β} {as : List α} {bs : List β} : P a b → Alls P as bs → Alls P (a :: as) (b :: bs)
section
variable {α β : Type} {P : α → β → Prop} {as : List α} {bs : List β}
theorem Alls.of (h : ∀ a ∈ as, ∃ b, P a b) : ∃ bs, Alls P as bs := by
 induction as with
 | nil => exact ⟨[], .nil⟩
 | cons a r ih =>
  obtain ⟨b, hb⟩ := h a (List.mem_cons_self ..)
  obtain ⟨bs, hbs⟩ := ih fun a ha => h a (List.mem_cons_of_mem _ ha)
  exact ⟨b :: bs, .cons hb hbs⟩
theorem Alls.length (h : Alls P as bs) : as.length = bs.length := by
 induction h with
 | nil => rfl
 | cons _ _ ih => rw [List.length_cons, List.length_cons, ih]
theorem Alls.get (h : Alls P as bs) {i : Nat} {a : α} (e : as[i]? = some a) : ∃ b, bs[i]? = some b ∧ P a b := by
 induction h generalizing i with
 | nil => cases e
 | cons p _ ih =>
  cases i with
  | zero => cases e; exact ⟨_, rfl, p⟩
  | succ i => exact ih e
theorem Alls.mono {Q : α → β → Prop} (h : Alls P as bs) (hq : ∀ a b, P a b → Q a b) : Alls Q as bs := by
 induction h with
 | nil => exact .nil
 | cons p _ ih => exact .cons (hq _ _ p) ih
theorem Alls.mem {Q : β → Prop} (h : Alls P as bs) (hq : ∀ a b, P a b → Q b) : ∀ b ∈ bs, Q b := by
 induction h with
 | nil => exact fun ya h => nomatch h
 | cons p _ ih =>
  intro b hb
  rcases List.mem_cons.mp hb with rfl | hb
  ·exact hq _ _ p
  ·exact ih b hb
theorem Alls.map {γ : Type} {f : α → γ} {Q : γ → β → Prop} (h : Alls (fun a b => Q (f a) b) as bs) : Alls Q (as.map f) bs := by
 induction h with
 | nil => exact .nil
 | cons p _ ih => exact .cons p ih
end
noncomputable def seqR : List R → List V ⊕ Str
 | [] => .inl []
 | .inr c :: _ => .inr c
 | .inl x :: t => match seqR t with
  | .inl xs => .inl (x :: xs)
  | .inr c => .inr c
theorem seqR_all : ∀ xs : List V, seqR (xs.map .inl) = .inl xs
 | [] => rfl
 | x :: xs => by
  show (match seqR (xs.map .inl) with | .inl xs => Sum.inl (x :: xs) | .inr c => .inr c) = _
  rw [seqR_all xs]
theorem seqR_no {c : Str} {t : List R} : ∀ xs : List V, seqR (xs.map .inl ++ .inr c :: t) = .inr c
 | [] => rfl
 | x :: xs => by
  show (match seqR (xs.map .inl ++ .inr c :: t) with | .inl xs => Sum.inl (x :: xs) | .inr c => .inr c) = _
  rw [seqR_no xs]
theorem seqR_inr {c : Str} {rs : List R} (hq : seqR rs = .inr c) : Sum.inr c ∈ rs := by
 induction rs with
 | nil => cases hq
 | cons r rs ih =>
  cases r with
  | inr c' => cases hq; exact List.mem_cons_self ..
  | inl x =>
   have hq : (match seqR rs with | .inl xs => Sum.inl (x :: xs) | .inr c => .inr c) = Sum.inr c := hq
   cases e : seqR rs with
   | inl xs => rw [e] at hq; cases hq
   | inr c' => rw [e] at hq; cases hq; exact List.mem_cons_of_mem _ (ih e)
theorem seqR_inl {xs : List V} {rs : List R} (hq : seqR rs = .inl xs) : rs = xs.map .inl := by
 induction rs generalizing xs with
 | nil => cases hq; rfl
 | cons r rs ih =>
  cases r with
  | inr c' => cases hq
  | inl x =>
   have hq : (match seqR rs with | .inl xs => Sum.inl (x :: xs) | .inr c => .inr c) = Sum.inl xs := hq
   cases e : seqR rs with
   | inl ys => rw [e] at hq; cases hq; rw [ih e]; rfl
   | inr c' => rw [e] at hq; cases hq
noncomputable abbrev RowQ (rs : List R) (q : List V ⊕ Str) : Prop := seqR rs = q
section
variable {prog : List Dfn} {d m e n : Nat} {a b c v : V} {as vs : List V} {r : R} {rs : List R} {σ : Store} {kv kk ks : Nat} {s : Str} {sr : Src}
structure RowAt (rs : List R) (i : Nat) (xs : List V) : Prop where
 eq : rs.take i = xs.map .inl
theorem RowAt.next {i : Nat} {xs : List V} {y : V} (h : RowAt rs i xs) (e : rs[i]? = some (.inl y)) : RowAt rs (i + 1) (xs ++ [y]) := ⟨by rw [List.take_add_one, e, h.eq, List.map_append]; rfl⟩
theorem RowAt.stop {i : Nat} {xs : List V} {c : Str} (h : RowAt rs i xs) (e : rs[i]? = some (.inr c)) : RowQ rs (.inr c) := by
 have : rs = xs.map .inl ++ .inr c :: rs.drop (i + 1) := by
  rw [← h.eq]
  conv => lhs; rw [← List.take_append_drop i rs]
  rw [List.drop_eq_getElem_cons (lt_of_get e), show rs[i]'(lt_of_get e) = .inr c from Option.some.inj ((List.getElem?_eq_getElem _).symm.trans e)]
 show seqR rs = _
 rw [this, seqR_no]
theorem RowAt.end {xs : List V} (h : RowAt rs rs.length xs) : RowQ rs (.inl xs) := by
 have := h.eq
 rw [List.take_length] at this
 show seqR rs = _
 rw [this, seqR_all]
inductive AllQ (σ : Store) (rs : List R) : V → Store → Prop
 | yes {xs : List V} {n : Nat} {σ' : Store} : RowQ rs (.inl xs) → Le σ σ' → σ'[n]? = some (.list xs) → AllQ σ rs (.tup [.str sYes, .ref n]) σ'
 | no {c : Str} {σ' : Store} : RowQ rs (.inr c) → Le σ σ' → AllQ σ rs (told (.inr c)) σ'
structure AllP (σ : Store) (rs : List R) (bs : V) (kv kk f : Nat) (i : Nat) (loc : Loc) (τ : Store) : Prop where
 le : Le σ τ
 loc : ∃ o1 o2, loc = [some bs, some (.ref kv), some (.ref kk), some (.ref f), o1, o2, none]
 row : ∃ xs, RowAt rs i xs ∧ τ[f]? = some (.list xs)
theorem all_ok {bs : V} (h : Alls (Sp prog d vs) as rs) (h4 : as.length ≤ 4) (he : 3 * d + 3 ≤ e) (hv : σ[kv]? = some (.list vs)) (hk : Lw prog σ kk) (hb : ∀ τ, Le σ τ → srcV bs τ = .ok sr τ) (hw : Walks sr as fun τ => Le σ τ) :
  Wp (cl06 e "_law_all" [bs, .ref kv, .ref kk]) σ (AllQ σ rs) := by
 obtain ⟨e, rfl⟩ := up1 (d := e) (Nat.lt_of_lt_of_le (Nat.succ_pos _) he)
 have he : 3 * d + 2 ≤ e := Nat.le_of_succ_le_succ he
 have h24 : (16777216 : Nat) = sizeLine := rfl
 have hlen := h.length
 rw [L_all_sh]
 refine Wp_step rfl (Wp_step (hb _ .push) (Wp_for (calm e) hw (AllP σ rs bs kv kk σ.length) (fun ya yb yc hp => hp.le) ⟨.push, ⟨_, _, rfl⟩, [], ⟨rfl⟩, get_new⟩ (fun i x loc τ hx hp => ?_) fun loc τ hp => ?_))
 ·obtain ⟨hle, ⟨o1, o2, rfl⟩, xs, hrow, hf⟩ := hp
  obtain ⟨q, hq, sp⟩ := h.get hx
  rw [L_all_l1_step]
  refine (sp.law e τ kv kk he (hle.at hv) (hk.le hle)).step fun y τ' hy => ?_
  obtain ⟨hl, rfl⟩ := hy
  cases q with
  | inr c => exact Wp_eq h_yes (Wp_pure (Wp_pure (.no (hrow.stop hq) (hle.trans hl))))
  | inl y =>
   have hlx : xs.length ≤ 4 := by
    have := congrArg List.length hrow.eq
    rw [List.length_map, List.length_take] at this
    lia
   refine Wp_eq (h_no (by decide +kernel)) (Wp_step (r_tagL (hl.at hf) rfl) (Wp_step r_item1 (Wp_step (r_append (hl.at hf) (by have := lt_of_get hf; have := lt_of_get hv; (first | lia | omega)) (by lia)) (Wp_pure ⟨(hle.trans hl).setNew (Nat.le_refl _), ⟨_, _, rfl⟩, _, hrow.next hq, set_get (hl.at hf)⟩))))
 ·obtain ⟨hle, ⟨o1, o2, rfl⟩, xs, hrow, hf⟩ := hp
  rw [L_all_a1_eq]
  rw [hlen] at hrow
  exact Wp_pure (.yes hrow.end hle hf)
noncomputable def EndE (σ : Store) (r : R) (x : V) (σ' : Store) : Prop := ∃ n c, x = .ref n ∧ σ'[n]? = some (.exc c []) ∧ Le σ σ' ∧ r = .inr c
theorem Ends.wx {m : M V} (h : Ends m σ r) : Wx m σ (fun v σ' => Le σ σ' ∧ r = .inl v) (EndE σ r) := by
 cases h with
 | ok h1 h2 => exact .inl ⟨_, _, h1, h2, rfl⟩
 | no h1 h2 h3 => exact .inr ⟨_, _, h1, _, _, rfl, h2, h3, rfl⟩
theorem Ends_wx {m : M V} (h : Wx m σ (fun v σ' => Le σ σ' ∧ r = .inl v) (EndE σ r)) : Ends m σ r := by
 rcases h with ⟨v, σ', h1, h2, rfl⟩ | ⟨x, σ', h1, n, c, rfl, h2, h3, rfl⟩
 ·exact .ok h1 h2
 ·exact .no h1 h2 h3
theorem EndE.le {σ₁ σ' : Store} {x : V} (h : EndE σ₁ r x σ') (hl : Le σ σ₁) : EndE σ r x σ' := let ⟨n, c, h1, h2, h3, h4⟩ := h; ⟨n, c, h1, h2, hl.trans h3, h4⟩
theorem seq_comp {C : Cfg} {target elt : Expr} {ifs : List Expr} {scope : Scope} {ns : Names} {l : List V} {qs : List R} {loc loc₀ : Loc} {f : V → M V} (hC : C.calm = true) (hok : compOk scope.kind scope.names = true) (hin : innerLoc ns loc scope.names = pure loc₀) (hl : l.length ≤ sizeLine) (hq : qs.length = l.length) (S : Loc → Prop) (hS : S loc₀)
  (step : ∀ (i : Nat) (v : V) (loc : Loc) (τ : Store), l[i]? = some v → S loc → Le σ τ → ∃ q loc', qs[i]? = some q ∧ S loc' ∧ bindTo (stLocL (relab ns scope.names)) target v loc τ = .ok loc' τ ∧ tests C ifs (relab ns scope.names) loc' τ = .ok true τ ∧ Ends (ev C elt (relab ns scope.names) loc') τ q)
  (k1 : ∀ xs τ, RowQ qs (.inl xs) → Le σ τ → Ends (f (.ref τ.length)) (τ ++ [.list xs]) r) (k2 : ∀ c, RowQ qs (.inr c) → r = .inr c) : Ends (compAll C elt target ifs scope (.vals l) ns loc >>= f) σ r := by
 refine Ends_wx (Wx_comp (J := fun ya => True) hC walks_vals hok hin hl (fun i acc loc τ => Le σ τ ∧ S loc ∧ RowAt qs i acc) (fun ya yb yc yd ye => trivial) ⟨.refl, hS, ⟨rfl⟩⟩ (fun i v acc loc τ hv hp => ?_) fun out loc τ hp => ?_)
 ·obtain ⟨hle, hs, hrow⟩ := hp
  obtain ⟨q, loc', e1, hs', e2, e3, en⟩ := step i v loc τ hv hs hle
  refine Wp_ok e2 (Wp_ok e3 ?_)
  rw [if_pos rfl]
  cases en with
  | ok h1 h2 => exact .inl ⟨_, _, h1, hle.trans h2, hs', hrow.next e1⟩
  | no h1 h2 h3 => exact .inr ⟨_, _, h1, _, _, rfl, h2, hle.trans h3, k2 _ (hrow.stop e1)⟩
 ·obtain ⟨hle, _, hrow⟩ := hp
  rw [← hq] at hrow
  rcases (k1 out τ hrow.end hle).wx with ⟨v, σ', h1, h2, h3⟩ | ⟨x, σ', h1, h2⟩
  ·exact .inl ⟨v, σ', h1, (hle.new).trans h2, h3⟩
  ·exact .inr ⟨x, σ', h1, h2.le hle.new⟩
end
end Mine.Internal

set_option backward.match.sparseCases false
namespace Mine.Internal
open PySem PyProof.Rows
section
variable {prog : List Dfn} {d m e n da dc : Nat} {a b c v : V} {as vs xs : List V} {r : R} {rs : List R} {σ : Store} {kv kk ks : Nat} {nm : Str} {sr : Src} {p : Dfn}
theorem attr_prog (h : Rn prog σ ks) : ∃ n, attrV (cf06 e) "program" (.ref ks) σ = .ok (.ref n) σ ∧ σ[n]? = some (.list (prog.map dfnV)) := by
 obtain ⟨j, n, e1, e2, e3⟩ := h
 exact ⟨n, r_attr e1 e2 (cls06 e) (by kernel_rfl) (by kernel_rfl), e3⟩
structure CalP (prog : List Dfn) (nm : Str) (ks kv : Nat) (σ : Store) (i : Nat) (loc : Loc) (τ : Store) : Prop where
 same : τ = σ
 loc : ∃ o1 o2 o3, loc = [some (.ref ks), some (.str nm), some (.ref kv), o1, o2, o3, none]
 not : ∀ q ∈ prog.take i, (q.1 == nm) = false
theorem find_at {i : Nat} {q : Dfn} (hq : prog[i]? = some q) (hn : ∀ q ∈ prog.take i, (q.1 == nm) = false) (h : (q.1 == nm) = true) : prog.find? (fun q => q.1 == nm) = some q := by
 induction prog generalizing i with
 | nil => cases hq
 | cons a r ih =>
  cases i with
  | zero => cases hq; exact List.find?_cons_of_pos h
  | succ i =>
   rw [List.find?_cons_of_neg (by rw [hn a (List.mem_cons_self ..)]; exact Bool.false_ne_true)]
   exact ih hq fun q hq => hn q (List.mem_cons_of_mem _ hq)
theorem called_ok (hp : prog.find? (fun q => q.1 == nm) = some p) (h : Sp prog dc xs p.2.2 r) (he : 3 * dc + 3 ≤ e) (hv : σ[kv]? = some (.list xs)) (hs : Rn prog σ ks) : Ends (cl06 e "Runner.called" [.ref ks, .str nm, .ref kv]) σ r := by
 obtain ⟨e, rfl⟩ := up1 (d := e) (Nat.lt_of_lt_of_le (Nat.succ_pos _) he)
 have he : 3 * dc + 2 ≤ e := Nat.le_of_succ_le_succ he
 obtain ⟨n, e1, e2⟩ := attr_prog (e := e) hs
 rw [P_Runner_called_sh]
 refine Ends_step e1 (Ends_step (r_src e2) (Ends_wx ?_))
 refine Wx_for (J := fun τ => τ = σ) (calm e) (walks_lst fun τ hτ => by rw [hτ]; exact e2) (CalP prog nm ks kv σ) (fun ya yb yc hp => hp.same) ⟨rfl, ⟨_, _, _, rfl⟩, fun ya hq => nomatch hq⟩ (fun i x loc τ hx hP => ?_) fun loc τ hP => ?_
 ·obtain ⟨rfl, ⟨o1, o2, o3, rfl⟩, hn⟩ := hP
  rw [List.getElem?_map] at hx
  obtain ⟨q, hq, rfl⟩ := Option.map_eq_some_iff.mp hx
  have hst := P_Runner_called_l1_step e (.str q.1) (.int q.2.1) q.2.2 (.ref ks) (.str nm) (.ref kv) o2 o1 o3
  show Wx (bindTo (stLoc P_Runner_called_F.names) (sTgt P_Runner_called_l1) (.tup [.str q.1, .int q.2.1, q.2.2]) _ >>= _) τ _ _
  rw [hst]
  refine Wx_step r_eqS (Wx_step (a := q.1 == nm) rfl ?_)
  cases hqn : q.1 == nm with
  | false =>
   refine .inl (Wp_pure ⟨rfl, ⟨_, _, _, rfl⟩, fun q' hq' => ?_⟩)
   rw [List.take_add_one, hq] at hq'
   rcases List.mem_append.mp hq' with hq' | hq'
   ·exact hn q' hq'
   ·rw [List.mem_singleton.mp hq']; exact hqn
  | true =>
   have := find_at hq hn hqn
   rw [hp] at this; cases this
   refine Wx_step (hs.tag (by decide +kernel)) ?_
   rcases (h.value he hv hs).wx with ⟨v, σ', h1, h2⟩ | ⟨x, σ', h1, h2⟩
   ·exact Wx_step h1 (.inl (Wp_pure (.inl (Wp_pure h2))))
   ·exact .inr ⟨x, σ', bind_exc h1, h2⟩
 ·obtain ⟨rfl, _, hn⟩ := hP
  rw [List.length_map, List.take_length] at hn
  exact absurd (List.find?_some hp) (by rw [hn p (List.mem_of_find?_eq_some hp)]; exact Bool.false_ne_true)
theorem call_comp {f : V → M V} {body word : V} {o1 o2 o3 : Option V} (h : Alls (Sp prog d vs) as rs) (h4 : as.length ≤ 4) (he : 3 * d + 2 ≤ e) (hv : σ[kv]? = some (.list vs)) (hs : Rn prog σ ks)
  (k1 : ∀ xs τ, RowQ rs (.inl xs) → Le σ τ → Ends (f (.ref τ.length)) (τ ++ [.list xs]) r) (k2 : ∀ c, RowQ rs (.inr c) → r = .inr c) :
  Ends (compAll (cf06 e) (cElt P_Runner_value_c1) (cTgt P_Runner_value_c1) (cIfs P_Runner_value_c1) (cScope P_Runner_value_c1) (.vals as) P_Runner_value_F.names [some (.ref ks), some body, some (.ref kv), some word, o1, o2, o3, none, none, none, none, none] >>= f) σ r := by
 have h24 : (16777216 : Nat) = sizeLine := rfl
 refine seq_comp (calm e) P_Runner_value_c1_ok (P_Runner_value_c1_in ..) (by lia) h.length.symm (fun loc => ∃ o, loc = [none, o, some (.ref ks), some (.ref kv)]) ⟨_, rfl⟩ (fun i v loc τ hx hS hle => ?_) k1 k2
 obtain ⟨o, rfl⟩ := hS
 obtain ⟨q, hq, sp⟩ := h.get hx
 refine ⟨q, _, hq, ⟨_, rfl⟩, congrArg (fun m : M Loc => m τ) (P_Runner_value_c1_bind _ _ o v), by rw [P_Runner_value_c1_tst]; rfl, ?_⟩
 rw [P_Runner_value_c1_elt]
 exact Ends_step ((hs.le hle).tag (by decide +kernel)) (Ends.last (m := runM (cf06 e) "value" (.own "Runner") (.ref ks) [v, .ref kv]) (sp.value he (hle.at hv) (hs.le hle)))
theorem ran_call {l : List V} : cl06 (e + 1) "_law_ran" [.tup (.str (Str.ofString "call") :: l), .ref kv, .ref kk] σ = L_ran_t4 e (.tup (.str (Str.ofString "call") :: l)) (.ref kv) (.ref kk) σ := by
 rw [L_ran_sh]
 exact (h_no (by decide +kernel)).trans ((h_no (by decide +kernel)).trans ((h_no (by decide +kernel)).trans (bind_ok (a := false) (σ' := σ) ((h_no (by decide +kernel)).trans (h_no (by decide +kernel))))))
theorem both_call {as : List V} (hp : prog.find? (fun q => q.1 == nm) = some p) (hl : as.length = p.2.1) (h4 : as.length ≤ 4) (ha : ∀ a ∈ as, Both prog da m a) (hb : Both prog dc p.2.1 p.2.2) : Both prog (da + dc + 1) m (.tup [.str (Str.ofString "call"), .str nm, .tup as]) := fun n vs hm hv => by
 obtain ⟨rs, hrs⟩ := Alls.of (P := fun a r => ROk (da + n) r ∧ Sp prog da vs a r) fun a h => ha a h n vs hm hv
 have sps : Alls (Sp prog da vs) as rs := hrs.mono fun ya yb h => h.2
 have oks := hrs.mem fun ya yb h => h.1
 obtain ⟨r, okr, h1, h2⟩ : ∃ r, ROk (da + dc + 1 + n) r ∧ (∀ xs, RowQ rs (.inl xs) → Sp prog dc xs p.2.2 r) ∧ ∀ c, RowQ rs (.inr c) → r = .inr c := by
  cases hq : seqR rs with
  | inr c =>
   refine ⟨.inr c, ?_, fun ya e => (nomatch hq.symm.trans e), fun ya e => by cases hq.symm.trans e; rfl⟩
   have := seqR_inr hq
   exact (oks _ this).mono (by (first | lia | omega))
  | inl xs =>
   have hx := seqR_inl hq
   have hxl : xs.length = p.2.1 := by rw [← hl, hrs.length, hx, List.length_map]
   obtain ⟨r, ok, sp⟩ := hb (da + n) xs hxl fun v hv => by
    cases oks (.inl v) (by rw [hx]; exact List.mem_map.mpr ⟨v, hv, rfl⟩) with
    | val h => exact h
   exact ⟨r, ok.mono (by (first | lia | omega)), fun ya e => by cases hq.symm.trans e; exact sp, fun ya e => nomatch hq.symm.trans e⟩
 refine ⟨r, okr, fun e σ kv kk he hv hk => ?_, fun e σ kv ks he hv hs => ?_⟩
 ·obtain ⟨e, rfl⟩ : ∃ f, e = f + 2 := ⟨e - 2, by (first | lia | omega)⟩
  refine Wp_eq ran_call (Wp_eq h_yes (Wp_step r_item2 ((all_ok (d := da) (bs := .tup as) (sr := .vals as) sps h4 (by (first | lia | omega)) hv hk (fun ya yb => rfl) walks_vals).step fun x τ hx => ?_)))
  cases hx with
  | no hq hle => rw [h2 _ hq]; exact Wp_eq h_yes (Wp_pure ⟨hle, rfl⟩)
  | @yes ys n' _ hq hle hn =>
   obtain ⟨dv, t, ek, hfd⟩ := hk.le hle
   refine Wp_eq (h_no (by decide +kernel)) (Wp_step r_item1 (Wp_step (r_itemD ek rfl (hfd nm p hp)) (Wp_step r_item1 (((h1 ys hq).law (e + 1) τ n' kk (by (first | lia | omega)) hn (hk.le hle)).mono fun _ _ ⟨h3, h4⟩ => ⟨hle.trans h3, h4⟩))))
 ·obtain ⟨e, rfl⟩ : ∃ f, e = f + 2 := ⟨e - 2, by (first | lia | omega)⟩
  rw [P_Runner_value_sh]
  refine Ends_step r_item0 (Ends_eq (w_no (by decide +kernel)) (Ends_eq (w_no (by decide +kernel)) (Ends_eq (w_no (by decide +kernel)) (Ends_eq (w_no (by decide +kernel)) (Ends_eq (w_no (by decide +kernel)) (Ends_eq (w_no (by decide +kernel)) (Ends_eq (w_no (by decide +kernel)) (Ends_step (hs.tag (by decide +kernel)) (Ends_step r_item1 (Ends_step r_item2 (Ends_step (a := .vals as) rfl ?_)))))))))))
  refine call_comp sps h4 (by (first | lia | omega)) hv hs (fun ys τ hq hle => ?_) h2
  refine Ends.last (m := runM (cf06 (e + 1)) "called" (.own "Runner") (.ref ks) [.str nm, .ref τ.length]) ?_
  rw [run_called]
  exact called_ok hp (h1 ys hq) (by (first | lia | omega)) get_new ((hs.le hle).le .push)
end
end Mine.Internal

set_option backward.match.sparseCases false
namespace Mine.Internal
open PySem PyProof.Rows
theorem filterMap_is {α β : Type} {f : α → Option β} {g : α → β} : ∀ {l : List α}, (∀ p ∈ l, f p = some (g p)) → l.filterMap f = l.map g
 | [], _ => rfl
 | a :: r, h => by
  rw [List.filterMap_cons, h a (List.mem_cons_self ..), List.map_cons, filterMap_is fun p hp => h p (List.mem_cons_of_mem _ hp)]
theorem putP_keys (x : Str × V) : ∀ l : List (Str × V), (putP x l).map (·.1) = putS x.1 (l.map (·.1))
 | [] => rfl
 | y :: r => by
  show (if strLt y.1 x.1 = true then y :: putP x r else x :: y :: r).map (·.1) = if strLt y.1 x.1 = true then y.1 :: putS x.1 (r.map (·.1)) else x.1 :: y.1 :: r.map (·.1)
  cases strLt y.1 x.1 with
  | true => rw [if_pos rfl, if_pos rfl, List.map_cons, putP_keys x r]
  | false => rw [if_neg Bool.false_ne_true, if_neg Bool.false_ne_true]; rfl
theorem sortP_keys : ∀ l : List (Str × V), (sortP l).map (·.1) = sortS (l.map (·.1))
 | [] => rfl
 | x :: r => by show (putP x (sortP r)).map (·.1) = putS x.1 (sortS (r.map (·.1))); rw [putP_keys, sortP_keys r]
theorem putP_perm' {x : Str × V} : ∀ {l : List (Str × V)}, (putP x l).Perm (x :: l)
 | [] => .refl _
 | z :: r => by
  show (if strLt z.1 x.1 = true then z :: putP x r else x :: z :: r).Perm _
  cases strLt z.1 x.1 with
  | true => rw [if_pos rfl]; exact (List.Perm.cons z putP_perm').trans (.swap x z r)
  | false => rw [if_neg Bool.false_ne_true]
theorem sortP_perm' : ∀ {l : List (Str × V)}, (sortP l).Perm l
 | [] => .refl _
 | x :: r => (putP_perm').trans (.cons x sortP_perm')
theorem labs_of : ∀ l : List (Str × V), allLabs (l.map pairV) = some l
 | [] => rfl
 | p :: r => by
  show (labOf (pairV p)).bind (fun p => (allLabs (r.map pairV)).map (p :: ·)) = _
  rw [labs_of r]; rfl
theorem sort_pairsL {l : List (Str × V)} (h : (l.map (·.1)).Nodup) : sortL (l.map pairV) = some ((sortP l).map pairV) := by
 cases l with
 | nil => rfl
 | cons p r =>
  have e : allStrs ((p :: r).map pairV) = none := rfl
  unfold sortL
  rw [e]
  dsimp only
  rw [labs_of]
  dsimp only
  rw [if_pos h]
theorem sort_strs (l : List Str) : sortL (l.map V.str) = some ((sortS l).map V.str) := by
 unfold sortL
 rw [allStrs_map]
section
variable {σ : Store} {s : Str} {ls : List Str}
theorem vin_strs : ∀ ls : List Str, vin σ (.str s) (ls.map V.str) = some (ls.any fun x => x == s)
 | [] => rfl
 | x :: r => by
  show (match veq σ (.str x) (.str s), vin σ (.str s) (r.map V.str) with | some e, some t => some (e || t) | _, _ => none) = _
  rw [vin_strs r]; rfl
theorem vidx_strs {ls : List Str} {i : Nat} (h : ls.Nodup) (hi : ls[i]? = some s) (k : Nat) : vidx σ (.str s) (ls.map V.str) k = some (k + i) := by
 induction ls generalizing i k with
 | nil => cases hi
 | cons x r ih =>
  rw [List.nodup_cons] at h
  show (match (some (x == s) : Option Bool) with | some true => some k | some false => vidx σ (.str s) (r.map V.str) (k + 1) | none => none) = _
  cases i with
  | zero => cases hi; rw [beq_self_eq_true]; rfl
  | succ i =>
   rw [show (x == s) = false from beq_false_of_ne fun e => h.1 (e ▸ List.mem_of_getElem? hi)]
   dsimp only
   rw [ih h.2 hi, Nat.add_right_comm]; rfl
end
section
variable {prog : List Dfn} {d m e n : Nat} {a b c v : V} {vs xs : List V} {r : R} {rs : List R} {σ : Store} {kv kk ks : Nat} {l : List (Str × V)}
noncomputable def labV (l : List (Str × V)) (xs : List V) : List (Str × V) := List.zipWith (fun p x => (p.1, x)) l xs
theorem labV_keys : ∀ {l : List (Str × V)} {xs : List V}, l.length = xs.length → (labV l xs).map (·.1) = l.map (·.1)
 | [], [], _ => rfl
 | _ :: l, _ :: xs, h => by
  show _ :: (labV l xs).map (·.1) = _
  rw [labV_keys (Nat.succ.inj h)]; rfl
theorem labV_len (h : l.length = xs.length) : (labV l xs).length = l.length := by
 have := congrArg List.length (labV_keys h)
 rw [List.length_map, List.length_map] at this; exact this
theorem labV_snd : ∀ {l : List (Str × V)} {xs : List V} {p : Str × V}, p ∈ labV l xs → p.2 ∈ xs
 | [], _, _, h => by cases h
 | _ :: _, [], _, h => by cases h
 | _ :: l, x :: xs, p, h => by
  rcases List.mem_cons.mp h with rfl | h
  ·exact List.mem_cons_self ..
  ·exact List.mem_cons_of_mem _ (labV_snd h)
theorem labV_at : ∀ {l : List (Str × V)} {xs : List V} {p : Str × V}, p ∈ labV l xs → ∃ i : Nat, (l.map (·.1))[i]? = some p.1 ∧ xs[i]? = some p.2
 | [], _, _, h => by cases h
 | _ :: _, [], _, h => by cases h
 | _ :: l, x :: xs, p, h => by
  rcases List.mem_cons.mp h with rfl | h
  ·exact ⟨0, rfl, rfl⟩
  ·obtain ⟨i, h1, h2⟩ := labV_at h
   exact ⟨i + 1, h1, h2⟩
noncomputable def mapR (g : V → V) : R → R
 | .inl v => .inl (g v)
 | .inr c => .inr c
noncomputable def pairR (l : List (Str × V)) (rs : List R) : List R := List.zipWith (fun p r => mapR (fun y => pairV (p.1, y)) r) l rs
theorem pairR_len (h : l.length = rs.length) : (pairR l rs).length = l.length := by unfold pairR; rw [List.length_zipWith, ← h, Nat.min_self]
theorem pairR_at {i : Nat} {p : Str × V} {r : R} (h1 : l[i]? = some p) (h2 : rs[i]? = some r) : (pairR l rs)[i]? = some (mapR (fun y => pairV (p.1, y)) r) := by
 unfold pairR
 rw [List.getElem?_zipWith, h1, h2]
theorem pairR_seq : ∀ {l : List (Str × V)} {rs : List R}, l.length = rs.length → seqR (pairR l rs) = match seqR rs with | .inl xs => .inl ((labV l xs).map pairV) | .inr c => .inr c
 | [], [], _ => rfl
 | p :: l, r :: rs, h => by
  have ih := pairR_seq (l := l) (rs := rs) (Nat.succ.inj h)
  cases r with
  | inr c => rfl
  | inl x =>
   show (match seqR (pairR l rs) with | .inl xs => Sum.inl (pairV (p.1, x) :: xs) | .inr c => .inr c) = match (match seqR rs with | .inl xs => Sum.inl (x :: xs) | .inr c => .inr c) with | .inl xs => Sum.inl ((labV (p :: l) xs).map pairV) | .inr c => .inr c
   rw [ih]
   cases seqR rs with
   | inl xs => rfl
   | inr c => rfl
theorem make_comp {f : V → M V} {body word : V} (h : Alls (fun (p : Str × V) r => Sp prog d vs p.2 r) l rs) (h4 : l.length ≤ 4) (he : 3 * d + 2 ≤ e) (hv : σ[kv]? = some (.list vs)) (hs : Rn prog σ ks)
  (k1 : ∀ xs τ, RowQ (pairR l rs) (.inl xs) → Le σ τ → Ends (f (.ref τ.length)) (τ ++ [.list xs]) r) (k2 : ∀ c, RowQ (pairR l rs) (.inr c) → r = .inr c) :
  Ends (compAll (cf06 e) (cElt P_Runner_value_c2) (cTgt P_Runner_value_c2) (cIfs P_Runner_value_c2) (cScope P_Runner_value_c2) (.vals (l.map pairV)) P_Runner_value_F.names [some (.ref ks), some body, some (.ref kv), some word, none, none, none, none, none, none, none, none] >>= f) σ r := by
 have h24 : (16777216 : Nat) = sizeLine := rfl
 refine seq_comp (calm e) P_Runner_value_c2_ok (P_Runner_value_c2_in ..) (by rw [List.length_map]; lia) (by rw [pairR_len h.length, List.length_map]) (fun loc => ∃ o1 o2, loc = [none, o1, o2, some (.ref ks), some (.ref kv)]) ⟨_, _, rfl⟩ (fun i v loc τ hx hS hle => ?_) k1 k2
 obtain ⟨o1, o2, rfl⟩ := hS
 rw [List.getElem?_map] at hx
 obtain ⟨p, hp, rfl⟩ := Option.map_eq_some_iff.mp hx
 obtain ⟨q, hq, sp⟩ := h.get hp
 refine ⟨_, _, pairR_at hp hq, ⟨_, _, rfl⟩, congrArg (fun m : M Loc => m τ) (P_Runner_value_c2_bind _ _ o1 o2 (.str p.1) p.2), by rw [P_Runner_value_c2_tst]; rfl, ?_⟩
 rw [P_Runner_value_c2_elt]
 refine Ends_step ((hs.le hle).tag (by decide +kernel)) ?_
 have := sp.value he (hle.at hv) (hs.le hle)
 cases q with
 | inl y => exact this.go fun ya yb => Ends_pure
 | inr c => exact this.err
theorem ran_made {l : List V} : cl06 (e + 1) "_law_ran" [.tup (.str (Str.ofString "make") :: l), .ref kv, .ref kk] σ = cl06 e "_law_made" [.tup (.str (Str.ofString "make") :: l), .ref kv, .ref kk] σ := by
 rw [L_ran_sh]
 exact (h_no (by decide +kernel)).trans ((h_no (by decide +kernel)).trans h_yes)
theorem parts_comp {body v1 v2 : V} {α : Type} {f : V → M α} {Q : α → Store → Prop} (h4 : l.length ≤ 4) (k : Wp (f (.ref σ.length)) (σ ++ [.list (l.map (·.2))]) Q) :
  Wp (compAll (cf06 e) (cElt L_made_c1) (cTgt L_made_c1) (cIfs L_made_c1) (cScope L_made_c1) (.vals (l.map pairV)) L_made_F.names [some body, some v1, some v2, none, none, none, none, none] >>= f) σ Q := by
 have h24 : (16777216 : Nat) = sizeLine := rfl
 refine Wp_compPure (calm e) walks_vals L_made_c1_ok (L_made_c1_in ..) (by rw [List.length_map]; lia) (fun loc => ∃ o, loc = [none, o]) ⟨_, rfl⟩ (fun v => (labOf v).map (·.2)) (fun v loc hv hS => ?_) ?_
 ·obtain ⟨o, rfl⟩ := hS
  obtain ⟨p, _, rfl⟩ := List.mem_map.mp hv
  refine ⟨_, congrArg (fun m : M Loc => m σ) (L_made_c1_bind o (pairV p)), ⟨_, rfl⟩, true, by rw [L_made_c1_tst]; rfl, ?_⟩
  rw [if_pos rfl, L_made_c1_elt]
  exact ⟨p.2, bind_ok r_item1, rfl⟩
 ·rw [show ((l.map pairV).filterMap fun v => (labOf v).map (·.2)) = l.map (·.2) by rw [List.filterMap_map, ← List.filterMap_eq_map]; rfl]
  exact k
theorem labs_comp {body v1 v2 v3 : V} {α : Type} {f : V → M α} {Q : α → Store → Prop} (h4 : l.length ≤ 4) (k : Wp (f (.ref σ.length)) (σ ++ [.list ((l.map (·.1)).map V.str)]) Q) :
  Wp (compAll (cf06 e) (cElt L_made_c2) (cTgt L_made_c2) (cIfs L_made_c2) (cScope L_made_c2) (.vals (l.map pairV)) L_made_F.names [some body, some v1, some v2, some v3, none, none, none, none] >>= f) σ Q := by
 have h24 : (16777216 : Nat) = sizeLine := rfl
 refine Wp_compPure (calm e) walks_vals L_made_c2_ok (L_made_c2_in ..) (by rw [List.length_map]; lia) (fun loc => ∃ o, loc = [none, o]) ⟨_, rfl⟩ (fun v => (labOf v).map fun p => V.str p.1) (fun v loc hv hS => ?_) ?_
 ·obtain ⟨o, rfl⟩ := hS
  obtain ⟨p, _, rfl⟩ := List.mem_map.mp hv
  refine ⟨_, congrArg (fun m : M Loc => m σ) (L_made_c2_bind o (pairV p)), ⟨_, rfl⟩, true, by rw [L_made_c2_tst]; rfl, ?_⟩
  rw [if_pos rfl, L_made_c2_elt]
  exact ⟨.str p.1, bind_ok r_item0, rfl⟩
 ·rw [show ((l.map pairV).filterMap fun v => (labOf v).map fun p => V.str p.1) = (l.map (·.1)).map V.str by rw [List.filterMap_map, List.map_map, ← List.filterMap_eq_map]; rfl]
  exact k
theorem sorted_comp {body v1 v2 : V} {n1 n2 kl : Nat} {α : Type} {f : V → M α} {Q : α → Store → Prop} (h4 : l.length ≤ 4) (hx : l.length = xs.length) (hn : (l.map (·.1)).Nodup) (e1 : σ[n1]? = some (.list xs)) (e2 : σ[kl]? = some (.list ((l.map (·.1)).map V.str))) (e3 : σ[n2]? = some (.list ((sortS (l.map (·.1))).map V.str)))
  (k : Wp (f (.ref σ.length)) (σ ++ [.list ((sortP (labV l xs)).map pairV)]) Q) :
  Wp (compAll (cf06 e) (cElt L_made_c3) (cTgt L_made_c3) (cIfs L_made_c3) (cScope L_made_c3) (.lst n2) L_made_F.names [some body, some v1, some v2, some (.tup [.str sYes, .ref n1]), some (.ref kl), none, none, none] >>= f) σ Q := by
 have h24 : (16777216 : Nat) = sizeLine := rfl
 have hk := labV_keys hx
 have hs : sortS (l.map (·.1)) = (sortP (labV l xs)).map (·.1) := by rw [sortP_keys, hk]
 have hlen : (sortP (labV l xs)).length = l.length := (sortP_perm').length_eq.trans (labV_len hx)
 rw [hs] at e3
 have hnd : ((sortP (labV l xs)).map (·.1)).Nodup := by rw [← hs]; exact (List.Perm.nodup_iff (by rw [hs, ← hk]; exact sortP_perm'.map _)).mpr hn
 refine Wp_compPure (σ := σ) (calm e) (walks_lst fun τ hτ => by rw [hτ]; exact e3) L_made_c3_ok (L_made_c3_in ..) (by rw [List.length_map, List.length_map]; lia) (fun loc => ∃ o, loc = [none, o, some (.ref kl), some (.tup [.str sYes, .ref n1])]) ⟨_, rfl⟩ (fun v => (vStr v).bind fun s => ((sortP (labV l xs)).lookup s).map fun x => pairV (s, x)) (fun v loc hv hS => ?_) ?_
 ·obtain ⟨o, rfl⟩ := hS
  obtain ⟨s, hs', rfl⟩ := List.mem_map.mp hv
  obtain ⟨p, hp, rfl⟩ := List.mem_map.mp hs'
  obtain ⟨i, h1, h2⟩ := labV_at (sortP_perm'.mem_iff.mp hp)
  obtain ⟨j, hj⟩ := List.getElem?_of_mem hp
  refine ⟨_, congrArg (fun m : M Loc => m σ) (L_made_c3_bind _ _ o (.str p.1)), ⟨_, rfl⟩, true, by rw [L_made_c3_tst]; rfl, ?_⟩
  rw [if_pos rfl, L_made_c3_elt]
  refine ⟨pairV p, ?_, by show ((sortP (labV l xs)).lookup p.1).map _ = _; rw [lookup_at hnd hj]; rfl⟩
  have hv : vin σ (.str p.1) ((l.map (·.1)).map V.str) = some true := by
   rw [vin_strs]
   congr 1
   exact List.any_eq_true.mpr ⟨p.1, List.mem_of_getElem? h1, beq_self_eq_true _⟩
  exact (bind_ok r_item1).trans ((bind_ok (r_tagL e2 rfl)).trans ((bind_ok (r_index e2 hv (vidx_strs hn h1 0))).trans (bind_ok (r_item e1 (Int.natCast_nonneg _) (by rw [Nat.zero_add, Int.toNat_natCast]; exact h2)))))
 ·rw [show (((sortP (labV l xs)).map (·.1)).map V.str).filterMap (fun v => (vStr v).bind fun s => ((sortP (labV l xs)).lookup s).map fun x => pairV (s, x)) = (sortP (labV l xs)).map pairV by
   rw [List.map_map, List.filterMap_map]
   refine filterMap_is fun p hp => ?_
   obtain ⟨j, hj⟩ := List.getElem?_of_mem hp
   show ((sortP (labV l xs)).lookup p.1).map _ = _
   rw [lookup_at hnd hj]; rfl]
  exact k
theorem both_make (hn : (l.map (·.1)).Nodup) (h4 : l.length ≤ 4) (ha : ∀ p ∈ l, Both prog d m p.2) : Both prog (d + 1) m (.tup [.str (Str.ofString "make"), .tup (l.map pairV)]) := fun n vs hm hv => by
 obtain ⟨rs, hrs⟩ := Alls.of (P := fun (p : Str × V) r => ROk (d + n) r ∧ Sp prog d vs p.2 r) fun p h => ha p h n vs hm hv
 have sps : Alls (fun (p : Str × V) r => Sp prog d vs p.2 r) l rs := hrs.mono fun ya yb h => h.2
 have oks := hrs.mem fun ya yb h => h.1
 have hlen := sps.length
 obtain ⟨r, okr, h1, h2⟩ : ∃ r, ROk (d + n + 1) r ∧ (∀ xs, RowQ rs (.inl xs) → l.length = xs.length ∧ r = .inl (.tup ((sortP (labV l xs)).map pairV))) ∧ ∀ c, RowQ rs (.inr c) → r = .inr c := by
  cases hq : seqR rs with
  | inr c => exact ⟨.inr c, (oks _ (seqR_inr hq)).mono (Nat.le_succ _), fun ya e => (nomatch hq.symm.trans e), fun ya e => by cases hq.symm.trans e; rfl⟩
  | inl xs =>
   have hx := seqR_inl hq
   have hxl : l.length = xs.length := by rw [hlen, hx, List.length_map]
   refine ⟨_, .val (.rcd (l := sortP (labV l xs)) ?_ ?_ fun p hp => ?_), fun ya e => by cases hq.symm.trans e; exact ⟨hxl, rfl⟩, fun ya e => nomatch hq.symm.trans e⟩
   ·rw [sortP_keys, labV_keys hxl]
    exact (List.Perm.nodup_iff (by rw [← labV_keys hxl, ← sortP_keys]; exact sortP_perm'.map _)).mpr hn
   ·rw [sortP_perm'.length_eq, labV_len hxl]; exact h4
   ·cases oks (.inl p.2) (by rw [hx]; exact List.mem_map.mpr ⟨_, labV_snd (sortP_perm'.mem_iff.mp hp), rfl⟩) with
    | val h => exact h
 refine ⟨r, by rw [Nat.add_right_comm]; exact okr, fun e σ kv kk he hv hk => ?_, fun e σ kv ks he hv hs => ?_⟩
 ·obtain ⟨e, rfl⟩ : ∃ f, e = f + 3 := ⟨e - 3, by (first | lia | omega)⟩
  refine Wp_eq ran_made ?_
  rw [L_made_sh]
  refine Wp_step r_item1 (Wp_step rfl (parts_comp h4 ?_))
  have sps2 : Alls (Sp prog d vs) (l.map (·.2)) rs := sps.map
  refine (all_ok (d := d) (sr := .lst σ.length) sps2 (by rw [List.length_map]; exact h4) (by (first | lia | omega)) (push_at hv) (hk.le .push) (fun τ hl => r_src (hl.at get_new)) (walks_lst fun τ hl => hl.at get_new)).step fun x τ hx => ?_
  cases hx with
  | no hq hle => rw [h2 _ hq]; exact Wp_eq h_yes (Wp_pure ⟨LeEx.push.trans hle, rfl⟩)
  | @yes xs n1 _ hq hle hn1 =>
   obtain ⟨hxl, rfl⟩ := h1 xs hq
   refine Wp_eq (h_no (by decide +kernel)) (Wp_step r_item1 (Wp_step rfl (labs_comp h4 ?_)))
   refine Wp_step (r_sorted get_new (by rw [List.length_map, List.length_map]; (first | lia | omega)) (sort_strs _)) (Wp_step (r_src get_new) (sorted_comp h4 hxl hn (push_at (push_at hn1)) (push_at get_new) get_new ?_))
   exact Wp_step (r_tuple get_new) (Wp_pure ⟨(((LeEx.push.trans hle).new).new).new, rfl⟩)
 ·obtain ⟨e, rfl⟩ := up1 (d := e) (Nat.lt_of_lt_of_le (Nat.succ_pos _) he)
  rw [P_Runner_value_sh]
  refine Ends_step r_item0 (Ends_eq (w_no (by decide +kernel)) (Ends_eq (w_no (by decide +kernel)) (Ends_eq w_yes (Ends_step r_item1 (Ends_step (a := .vals _) rfl (make_comp (d := d) sps h4 (by (first | lia | omega)) hv hs (fun ys τ hq hle => ?_) fun c hq => ?_))))))
  ·rw [show RowQ (pairR l rs) (.inl ys) ↔ seqR (pairR l rs) = .inl ys from .rfl, pairR_seq hlen] at hq
   cases hr : seqR rs with
   | inr c => rw [hr] at hq; cases hq
   | inl xs =>
    rw [hr] at hq; cases hq
    obtain ⟨hxl, rfl⟩ := h1 xs hr
    have hnd : ((labV l xs).map (·.1)).Nodup := by rw [labV_keys hxl]; exact hn
    exact Ends_le (r_sorted get_new (by rw [List.length_map, labV_len hxl]; (first | lia | omega)) (sort_pairsL hnd)) .push (Ends_step (r_tuple get_new) Ends_pure)
  ·rw [show RowQ (pairR l rs) (.inr c) ↔ seqR (pairR l rs) = .inr c from .rfl, pairR_seq hlen] at hq
   cases hr : seqR rs with
   | inr c' => rw [hr] at hq; cases hq; exact h2 _ hr
   | inl xs => rw [hr] at hq; cases hq
end
end Mine.Internal

set_option backward.match.sparseCases false
namespace Mine.Internal
open PySem PyProof.Rows
inductive Pl : Nat → V → Prop
 | int {n : Nat} (i : Int) : Pl n (.int i)
 | str {n : Nat} (s : Str) : Pl n (.str s)
 | tup {n : Nat} {l : List V} : l.length ≤ 100 → (∀ x ∈ l, Pl n x) → Pl (n + 1) (.tup l)
theorem Pl.mono {n m : Nat} {v : V} (h : Pl n v) (hm : n ≤ m) : Pl m v := by
 induction h generalizing m with
 | int i => exact .int i
 | str s => exact .str s
 | tup h _ ih =>
  obtain ⟨m, rfl⟩ := up1 (d := m) hm
  exact .tup h fun x hx => ih x hx (Nat.le_of_succ_le_succ hm)
theorem Pl.pair {n : Nat} {p : Str × V} (h : Pl n p.2) : Pl (n + 1) (pairV p) := .tup (by show 2 ≤ 100; decide) fun x hx => by
 rcases List.mem_cons.mp hx with rfl | hx
 ·exact .str _
 ·rw [List.mem_singleton.mp hx]; exact h
theorem Val.pl {n : Nat} {v : V} (h : Val n v) : Pl (2 * n) v := by
 induction h with
 | num i => exact .int i
 | rcd _ h _ ih => exact .tup (by rw [List.length_map]; exact Nat.le_trans h (by decide)) fun x hx => by obtain ⟨p, hp, rfl⟩ := List.mem_map.mp hx; exact (ih p hp).pair
noncomputable def DataOk (f : Nat → Option PyData) (m : Nat) (v : V) : Prop := ∃ d, toPyT f v = some d ∧ d.depth ≤ m ∧ PyData.eqv d d = true
theorem tups_data {f : Nat → Option PyData} {m : Nat} : ∀ {l : List V}, (∀ x ∈ l, DataOk f m x) → ∃ ds, toPyTs f l = some ds ∧ ds.length = l.length ∧ PyData.depthAll ds ≤ m ∧ PyData.eqvAll ds ds = true
 | [], _ => ⟨[], rfl, rfl, by simp [PyData.depthAll], by simp [PyData.eqvAll]⟩
 | x :: l, h => by
  obtain ⟨d, h1, h2, h3⟩ := h x (List.mem_cons_self ..)
  obtain ⟨ds, h4, h7, h5, h6⟩ := tups_data fun y hy => h y (List.mem_cons_of_mem _ hy)
  refine ⟨d :: ds, ?_, by rw [List.length_cons, List.length_cons, h7], ?_, ?_⟩
  ·show (match toPyT f x, toPyTs f l with | some d, some ds => some (d :: ds) | _, _ => none) = _
   rw [h1, h4]
  ·show max d.depth (PyData.depthAll ds) ≤ m
   exact Nat.max_le.mpr ⟨h2, h5⟩
  ·show (PyData.eqv d d && PyData.eqvAll ds ds) = true
   rw [h3, h6]; rfl
theorem Pl.data {n : Nat} {v : V} (h : Pl n v) (f : Nat → Option PyData) : DataOk f n v := by
 induction h with
 | int i => exact ⟨.int i, rfl, by simp [PyData.depth], by simp [PyData.eqv]⟩
 | str s => exact ⟨.str s, rfl, by simp [PyData.depth], by simp [PyData.eqv]⟩
 | @tup n l _ _ ih =>
  obtain ⟨ds, h1, _, h2, h3⟩ := tups_data ih
  refine ⟨.tuple ds, ?_, Nat.succ_le_succ h2, h3⟩
  show (toPyTs f l).map PyData.tuple = _
  rw [h1]; rfl
theorem list_data {σ : Store} {k j n : Nat} {l : List V} (h : σ[k]? = some (.list l)) (hl : ∀ x ∈ l, DataOk (toPyF σ j) n x) : ∃ ds, toPyF σ (j + 1) k = some (.list ds) ∧ ds.length = l.length ∧ PyData.depthAll ds ≤ n ∧ PyData.eqvAll ds ds = true := by
 obtain ⟨ds, h1, h2, h3, h4⟩ := tups_data hl
 refine ⟨ds, ?_, h2, h3, h4⟩
 show (match σ[k]? with | some (.list l) => (toPyTs (toPyF σ j) l).map PyData.list | _ => none) = _
 rw [h]; dsimp only; rw [h1]; rfl
theorem nil_veq {σ : Store} {a b n : Nat} {l : List V} (ha : σ[a]? = some (.list l)) (hl : ∀ x ∈ l, Pl n x) (hb : σ[b]? = some (.list [])) : veq σ (.ref a) (.ref b) = some l.isEmpty := by
 obtain ⟨ds, h1, hlen, _, _⟩ := list_data (j := 3) ha fun x hx => (hl x hx).data _
 have h1 : toPy σ (.ref a) = some (.list ds) := h1
 have h2 : toPy σ (.ref b) = some (.list []) := by
  show (match σ[b]? with | some (.list l) => (toPyTs (toPyF σ 3) l).map PyData.list | _ => none) = _
  rw [hb]; rfl
 unfold veq
 rw [h1, h2]
 show (if min (PyData.list ds).depth (PyData.list []).depth ≤ 200 then some (PyData.eqv (.list ds) (.list [])) else none) = _
 rw [if_pos (Nat.le_trans (Nat.min_le_right ..) (by simp [PyData.depth, PyData.depthAll]))]
 cases ds with
 | nil => cases l with
  | nil => simp [PyData.eqv, PyData.eqvAll]
  | cons _ _ => cases hlen
 | cons _ _ => cases l with
  | nil => cases hlen
  | cons _ _ => simp [PyData.eqv, PyData.eqvAll]
inductive Good (prog : List Dfn) : Nat → Nat → V → Prop
 | num {d m : Nat} (i : Int) : Good prog d m (.tup [.str (Str.ofString "number"), .int i])
 | inp {d m k : Nat} : k < m → Good prog d m (.tup [.str (Str.ofString "input"), .int k])
 | make {d e m : Nat} {l : List (Str × V)} : d < e → (l.map (·.1)).Nodup → l.length ≤ 4 → (∀ p ∈ l, Good prog d m p.2) → Good prog e m (.tup [.str (Str.ofString "make"), .tup (l.map pairV)])
 | get {d e m : Nat} {b : V} {s : Str} : d < e → Good prog d m b → Good prog e m (.tup [.str (Str.ofString "get"), b, .str s])
 | put {d e m : Nat} {b c : V} {s : Str} : d < e → Good prog d m b → Good prog d m c → Good prog e m (.tup [.str (Str.ofString "put"), b, .str s, c])
 | sum {d e m : Nat} {a b : V} : d < e → Good prog d m a → Good prog d m b → Good prog e m (.tup [.str (Str.ofString "sum"), a, b])
 | ite {d e m : Nat} {a b c : V} : d < e → Good prog d m a → Good prog d m b → Good prog d m c → Good prog e m (.tup [.str (Str.ofString "if"), a, b, c])
 | call {da dc e m : Nat} {as : List V} {nm : Str} {p : Dfn} : da + dc < e → prog.find? (fun q => q.1 == nm) = some p → as.length = p.2.1 → as.length ≤ 4 → (∀ a ∈ as, Good prog da m a) → Good prog dc p.2.1 p.2.2 → Good prog e m (.tup [.str (Str.ofString "call"), .str nm, .tup as])
section
variable {prog : List Dfn} {d e m : Nat} {b : V}
theorem Good.mono (h : Good prog d m b) (hd : d ≤ e) : Good prog e m b := by
 cases h with
 | num i => exact .num i
 | inp h => exact .inp h
 | make h h1 h2 h3 => exact .make (Nat.lt_of_lt_of_le h hd) h1 h2 h3
 | get h h1 => exact .get (Nat.lt_of_lt_of_le h hd) h1
 | put h h1 h2 => exact .put (Nat.lt_of_lt_of_le h hd) h1 h2
 | sum h h1 h2 => exact .sum (Nat.lt_of_lt_of_le h hd) h1 h2
 | ite h h1 h2 h3 => exact .ite (Nat.lt_of_lt_of_le h hd) h1 h2 h3
 | call h h1 h2 h3 h4 h5 => exact .call (Nat.lt_of_lt_of_le h hd) h1 h2 h3 h4 h5
theorem Good.more (h : Good prog d m b) (t : List Dfn) : Good (prog ++ t) d m b := by
 induction h with
 | num i => exact .num i
 | inp h => exact .inp h
 | make h h1 h2 _ ih => exact .make h h1 h2 ih
 | get h _ ih => exact .get h ih
 | put h _ _ i1 i2 => exact .put h i1 i2
 | sum h _ _ i1 i2 => exact .sum h i1 i2
 | ite h _ _ _ i1 i2 i3 => exact .ite h i1 i2 i3
 | call h h1 h2 h3 _ _ i1 i2 => exact .call h (by rw [List.find?_append, h1]; rfl) h2 h3 i1 i2
theorem Both.mono (h : Both prog d m b) (hd : d ≤ e) : Both prog e m b := fun n vs hl hv =>
 let ⟨r, ok, s⟩ := h n vs hl hv
 have up : 3 * d + 2 ≤ 3 * e + 2 := Nat.add_le_add_right (Nat.mul_le_mul_left 3 hd) 2
 ⟨r, ok.mono (Nat.add_le_add_right hd n), fun x σ kv kk he => s.law x σ kv kk (Nat.le_trans up he), fun x σ kv ks he => s.run x σ kv ks (Nat.le_trans up he)⟩
theorem Good.both (h : Good prog d m b) : Both prog d m b := by
 induction h with
 | num i => exact both_num i
 | inp h => exact both_inp h
 | make h h1 h2 _ ih => exact (both_make h1 h2 ih).mono h
 | get h _ ih => exact (both_get ih).mono h
 | put h _ _ i1 i2 => exact (both_put i1 i2).mono h
 | sum h _ _ i1 i2 => exact (both_sum i1 i2).mono h
 | ite h _ _ _ i1 i2 i3 => exact (both_ite i1 i2 i3).mono h
 | call h h1 h2 h3 _ _ i1 i2 => exact (both_call h1 h2 h3 i1 i2).mono h
theorem Pl.cons {n : Nat} {x : V} {l : List V} (h : Pl n x) (hl : ∀ y ∈ l, Pl n y) : ∀ y ∈ x :: l, Pl n y := fun y hy => by
 rcases List.mem_cons.mp hy with rfl | hy
 ·exact h
 ·exact hl y hy
theorem Pl.nil {n : Nat} : ∀ y ∈ ([] : List V), Pl n y := fun ya h => nomatch h
theorem Good.pl (h : Good prog d m b) : Pl (3 * d + 1) b := by
 induction h with
 | num i => exact .tup (by show 2 ≤ 100; decide) (.cons (.str _) (.cons (.int _) .nil))
 | inp _ => exact .tup (by show 2 ≤ 100; decide) (.cons (.str _) (.cons (.int _) .nil))
 | @make d e m l h _ h4 _ ih => exact Pl.mono (n := 3 * d + 4) (.tup (by show 2 ≤ 100; decide) (.cons (.str _) (.cons (.tup (by rw [List.length_map]; exact Nat.le_trans h4 (by decide)) fun x hx => by obtain ⟨p, hp, rfl⟩ := List.mem_map.mp hx; exact (ih p hp).pair) .nil))) (by (first | lia | omega))
 | @get d e m b s h _ ih => exact Pl.mono (n := 3 * d + 2) (.tup (by show 3 ≤ 100; decide) (.cons (.str _) (.cons ih (.cons (.str _) .nil)))) (by (first | lia | omega))
 | @put d e m b c s h _ _ i1 i2 => exact Pl.mono (n := 3 * d + 2) (.tup (by show 4 ≤ 100; decide) (.cons (.str _) (.cons i1 (.cons (.str _) (.cons i2 .nil))))) (by (first | lia | omega))
 | @sum d e m a b h _ _ i1 i2 => exact Pl.mono (n := 3 * d + 2) (.tup (by show 3 ≤ 100; decide) (.cons (.str _) (.cons i1 (.cons i2 .nil)))) (by (first | lia | omega))
 | @ite d e m a b c h _ _ _ i1 i2 i3 => exact Pl.mono (n := 3 * d + 2) (.tup (by show 4 ≤ 100; decide) (.cons (.str _) (.cons i1 (.cons i2 (.cons i3 .nil))))) (by (first | lia | omega))
 | @call da dc e m as nm p h _ _ h4 _ _ i1 _ => exact Pl.mono (n := 3 * da + 3) (.tup (by show 3 ≤ 100; decide) (.cons (.str _) (.cons (.str _) (.cons (.tup (Nat.le_trans h4 (by decide)) i1) .nil)))) (by (first | lia | omega))
end
end Mine.Internal

set_option backward.match.sparseCases false
namespace Mine.Internal
open PySem PyProof.Rows
section
variable {prog known : List Dfn} {d e m n K : Nat} {σ σ' : Store} {z : Int} {ls : List Str}
inductive LeafQ (prog : List Dfn) (m : Nat) (σ : Store) : V → Store → Prop
 | mk {r : V} {σ' : Store} : Le σ σ' → (∀ d, Good prog d m r) → LeafQ prog m σ r σ'
theorem leaf_num {a b c t : V} {i : Int} (ha : a = .int i) : ∀ d, Good prog d m (.tup [.str (Str.ofString "number"), a]) := fun d => by subst ha; exact .num i
theorem leaf_ok (hz : 0 ≤ z) (hm : m ≤ 4) : Wp (cl06 (e + 1) "_law_leaf" [.int z, .int m]) σ (LeafQ prog m σ) := by
 rw [L_leaf_sh]
 refine Wp.step (P := fun b τ => τ = σ ∧ (b = true → 0 < m)) (Wp_step rfl (Wp_step (a := decide ((0 : Int) < m)) rfl ?_)) fun b τ hb => ?_
 ·cases hc : decide ((0 : Int) < m) with
  | false => exact Wp_no rfl (Wp_pure ⟨rfl, fun h => nomatch h⟩)
  | true =>
   have hm0 : 0 < m := Int.natCast_pos.mp (of_decide_eq_true hc)
   refine Wp_yes rfl (Wp_step (r_mod (by decide)) (Wp_step rfl (Wp_step (a := decide (0 < z % 3)) rfl ?_)))
   cases decide (0 < z % 3) with
   | true => exact Wp_pure ⟨rfl, fun ya => hm0⟩
   | false => exact Wp_pure ⟨rfl, fun ya => hm0⟩
 ·obtain ⟨rfl, hb⟩ := hb
  cases b with
  | true =>
   have hm0 := hb rfl
   have hi : (0 : Int) < m := Int.natCast_pos.mpr hm0
   refine Wp_yes rfl (Wp_step (r_div (by decide)) (Wp_step (r_mod ⟨hi, Int.lt_of_le_of_lt (Int.ofNat_le.mpr hm) (by decide)⟩) (Wp_pure (.mk .refl fun d => ?_))))
   have h0 := Int.emod_nonneg (z / 3) (show (m : Int) ≠ 0 from Int.ne_of_gt hi)
   have h1 := Int.emod_lt_of_pos (z / 3) hi
   obtain ⟨k, hk⟩ := Int.eq_ofNat_of_zero_le h0
   rw [hk] at h1 ⊢
   exact .inp (Int.ofNat_lt.mp h1)
  | false =>
   refine Wp_no rfl ?_
   unfold L_leaf_t1
   refine Wp_step (r_div (by decide)) (Wp_step rfl (Wp_step (r_mulR (by decide)) (Wp_step rfl (Wp_step (r_mod (by decide)) (Wp_step rfl (Wp_step rfl (Wp_step rfl (Wp_step (r_mod (by decide)) ?_))))))))
   have h0 := Int.emod_nonneg z (show (4 : Int) ≠ 0 by decide)
   have h1 := Int.emod_lt_of_pos z (show (0 : Int) < 4 by decide)
   generalize z / 4 % (2 * 10 ^ Int.toNat 12 + 1) - 10 ^ Int.toNat 12 = t
   generalize hw : z % 4 = w at h0 h1
   obtain ⟨k, rfl⟩ := Int.eq_ofNat_of_zero_le h0
   have h1 : k < 4 := Int.ofNat_lt.mp h1
   obtain ⟨i, hi⟩ : ∃ i : Int, ([V.int 0, V.int 1, V.int (-1), V.int t])[k]? = some (.int i) := by
    match k, h1 with
    | 0, _ => exact ⟨_, rfl⟩
    | 1, _ => exact ⟨_, rfl⟩
    | 2, _ => exact ⟨_, rfl⟩
    | 3, _ => exact ⟨_, rfl⟩
   exact Wp_step (r_item get_new (Int.natCast_nonneg _) (by rw [Int.toNat_natCast]; exact hi)) (Wp_pure (.mk .push fun d => .num i))
noncomputable def knV (p : Dfn) : V := .tup [.str p.1, .int p.2.1]
theorem knV_pl {p : Dfn} : Pl 1 (knV p) := .tup (by show 2 ≤ 100; decide) (.cons (.str _) (.cons (.int _) .nil))
noncomputable def Kn (prog known : List Dfn) (K : Nat) : Prop := ∀ p ∈ known, p.2.1 ≤ 4 ∧ prog.find? (fun q => q.1 == p.1) = some p ∧ Good prog K p.2.1 p.2.2
structure Gen (known : List Dfn) (ls : List Str) (ns nk nl : Nat) (σ : Store) : Prop where
 st : ∃ s c : Int, σ[ns]? = some (.list [.int s, .int c])
 pos : 0 < ns
 kn : σ[nk]? = some (.list (known.map knV))
 lb : σ[nl]? = some (.list (ls.map V.str))
 nek : nk ≠ ns
 nel : nl ≠ ns
structure Grew (ns : Nat) (σ σ' : Store) : Prop where
 le : LeEx [ns] σ σ'
 st : ∃ s c : Int, σ'[ns]? = some (.list [.int s, .int c])
variable {ns nk nl : Nat}
theorem Grew.trans {σ'' : Store} (h : Grew ns σ σ') (h' : Grew ns σ' σ'') : Grew ns σ σ'' := ⟨h.le.trans h'.le, h'.st⟩
theorem Grew.grow {σ'' : Store} (h : Grew ns σ σ') (h' : Le σ' σ'') : Grew ns σ σ'' := ⟨h.le.trans h'.ex, let ⟨s, c, e⟩ := h.st; ⟨s, c, h'.at e⟩⟩
theorem Gen.go (g : Gen known ls ns nk nl σ) (h : Grew ns σ σ') : Gen known ls ns nk nl σ' where
 st := h.st
 pos := g.pos
 kn := h.le _ _ (fun hm => g.nek (List.mem_singleton.mp hm)) g.kn
 lb := h.le _ _ (fun hm => g.nel (List.mem_singleton.mp hm)) g.lb
 nek := g.nek
 nel := g.nel
theorem Gen.grow (g : Gen known ls ns nk nl σ) (h : Le σ σ') : Gen known ls ns nk nl σ' := g.go ⟨h.ex, let ⟨s, c, e⟩ := g.st; ⟨s, c, h.at e⟩⟩
theorem Gen.next (g : Gen known ls ns nk nl σ) : Wp (cl06 (e + 1) "_law_next" [.ref ns]) σ fun r τ => Grew ns σ τ ∧ ∃ z, r = .int z ∧ 0 ≤ z := by
 obtain ⟨s, c, h⟩ := g.st
 refine (next_ok h g.pos).mono fun r τ ⟨z, s', h1, h2, h3⟩ => ⟨?_, z, h1, h2⟩
 subst h3
 exact ⟨LeEx.set (List.mem_singleton.mpr rfl) .refl, _, _, set_get h⟩
theorem Gen.label {α : Type} {f : V → M α} {Q : α → Store → Prop} {w : Int} (g : Gen known ls ns nk nl σ) (h4 : ls.length = 4) (k : ∀ s, s ∈ ls → Wp (f (.str s)) σ Q) :
  Wp (bLen (.ref nl) >>= fun t => (binop .Mod (.int w) t >>= fun u => (item (.ref nl) u >>= f))) σ Q := by
 refine Wp_step (r_len g.lb) ?_
 rw [List.length_map, h4]
 have h0 := Int.emod_nonneg w (show ((4 : Nat) : Int) ≠ 0 by decide)
 have h1 := Int.emod_lt_of_pos w (show (0 : Int) < ((4 : Nat) : Int) by decide)
 refine Wp_step (r_mod (by decide)) ?_
 obtain ⟨j, hj⟩ := Int.eq_ofNat_of_zero_le h0
 rw [hj] at h1 ⊢
 have hj : j < ls.length := by rw [h4]; exact Int.ofNat_lt.mp h1
 refine Wp_step (r_item g.lb (Int.natCast_nonneg _) (x := .str ls[j]) ?_) (k _ (List.getElem_mem hj))
 rw [Int.toNat_natCast, List.getElem?_map, List.getElem?_eq_getElem hj]; rfl
noncomputable def ix (K left : Nat) : Nat := if left ≤ 5 then left else left + K
theorem ix_up {left : Nat} : ix K left < ix K (left + 1) := by
 unfold ix
 by_cases h : left + 1 ≤ 5
 ·rw [if_pos h, if_pos (Nat.le_of_succ_le h)]; exact Nat.lt_succ_self _
 ·rw [if_neg h]
  by_cases h' : left ≤ 5
  ·rw [if_pos h']; (first | lia | omega)
  ·rw [if_neg h']; (first | lia | omega)
inductive BodyQ (prog : List Dfn) (m d ns : Nat) (σ : Store) : V → Store → Prop
 | mk {r : V} {σ' : Store} : Grew ns σ σ' → Good prog d m r → BodyQ prog m d ns σ r σ'
noncomputable def BodyOk (prog known : List Dfn) (ls : List Str) (m d ns nk nl : Nat) (left : Int) (e : Nat) : Prop := ∀ σ, Gen known ls ns nk nl σ → Wp (cl06 e "_law_body" [.ref ns, .int m, .ref nk, .ref nl, .int left]) σ (BodyQ prog m d ns σ)
theorem pairs_vin {s : Str} {l : List (Str × V)} {k : Nat} (h : σ[k]? = some (.list ((l.map (·.1)).map V.str))) : cmp .NotIn (.str s) (.ref k) σ = .ok (.bool (!((l.map (·.1)).any fun x => x == s))) σ := r_notIn h (vin_strs _)
theorem met_comp {l : List (Str × V)} {f : V → M (Fl × Loc)} {Q : Fl × Loc → Store → Prop} {fd : Nat} {v1 v2 v3 v4 v5 v6 v7 v8 v9 : V} (h4 : l.length ≤ 4) (hf : σ[fd]? = some (.list (l.map pairV))) (k : Wp (f (.ref σ.length)) (σ ++ [.list ((l.map (·.1)).map V.str)]) Q) :
  Wp (compAll (cf06 e) (cElt L_fields_c1) (cTgt L_fields_c1) (cIfs L_fields_c1) (cScope L_fields_c1) (.lst fd) L_fields_F.names [some v1, some v2, some v3, some v4, some v5, some v6, some (.ref fd), some v7, some v8, some v9, none, none, none, none, none] >>= f) σ Q := by
 have h24 : (16777216 : Nat) = sizeLine := rfl
 refine Wp_compPure (calm e) (walks_lst fun τ hτ => by rw [hτ]; exact hf) L_fields_c1_ok (L_fields_c1_in ..) (by rw [List.length_map]; lia) (fun loc => ∃ o, loc = [none, o]) ⟨_, rfl⟩ (fun v => (labOf v).map fun p => V.str p.1) (fun v loc hv hS => ?_) ?_
 ·obtain ⟨o, rfl⟩ := hS
  obtain ⟨p, _, rfl⟩ := List.mem_map.mp hv
  refine ⟨_, congrArg (fun m : M Loc => m σ) (L_fields_c1_bind o (pairV p)), ⟨_, rfl⟩, true, by rw [L_fields_c1_tst]; rfl, ?_⟩
  rw [if_pos rfl, L_fields_c1_elt]
  exact ⟨.str p.1, bind_ok r_item0, rfl⟩
 ·rw [show ((l.map pairV).filterMap fun v => (labOf v).map fun p => V.str p.1) = (l.map (·.1)).map V.str by rw [List.filterMap_map, List.map_map, ← List.filterMap_eq_map]; rfl]
  exact k
structure FldP (prog known : List Dfn) (ls : List Str) (m d ns nk nl fd : Nat) (left z : Int) (σ : Store) (i : Nat) (loc : Loc) (τ : Store) : Prop where
 grew : Grew ns σ τ
 loc : ∃ o1 o2 o3, loc = [some (.ref ns), some (.int m), some (.ref nk), some (.ref nl), some (.int left), some (.int z), some (.ref fd), o1, o2, o3, none, none, none, none, none]
 row : ∃ l : List (Str × V), τ[fd]? = some (.list (l.map pairV)) ∧ (l.map (·.1)).Nodup ∧ l.length ≤ i ∧ ∀ p ∈ l, Good prog d m p.2
inductive FldQ (prog : List Dfn) (m d ns : Nat) (σ : Store) : V → Store → Prop
 | mk {l : List (Str × V)} {σ' : Store} : Grew ns σ σ' → (l.map (·.1)).Nodup → l.length ≤ 4 → (∀ p ∈ l, Good prog d m p.2) → FldQ prog m d ns σ (.tup (l.map pairV)) σ'
theorem fields_ok {left : Int} (h4 : ls.length = 4) (ih : BodyOk prog known ls m d ns nk nl left (e + 1)) (g : Gen known ls ns nk nl σ) : Wp (cl06 (e + 2) "_law_fields" [.ref ns, .int m, .ref nk, .ref nl, .int left]) σ (FldQ prog m d ns σ) := by
 have h24 : (16777216 : Nat) = sizeLine := rfl
 rw [L_fields_sh]
 refine g.next.step fun r σ₁ hr => ?_
 obtain ⟨g1, z, rfl, hz⟩ := hr
 have h0 := Int.emod_nonneg z (show (4 : Int) ≠ 0 by decide)
 have h1 := Int.emod_lt_of_pos z (show (0 : Int) < 4 by decide)
 have hfd : σ.length ≤ σ₁.length := by
  obtain ⟨s, c, e⟩ := g.st
  rcases Nat.lt_or_ge σ₁.length σ.length with h | h
  ·have e1 : σ[σ₁.length]? = some σ[σ₁.length] := List.getElem?_eq_getElem h
   by_cases hn : σ₁.length = ns
   ·obtain ⟨_, _, e2⟩ := g1.st
    exact absurd (lt_of_get e2) (by rw [hn]; exact Nat.lt_irrefl _)
   ·exact absurd (lt_of_get (g1.le _ _ (fun hm => hn (List.mem_singleton.mp hm)) e1)) (Nat.lt_irrefl _)
  ·exact h
 have hns : σ₁.length ≠ ns := fun e => by obtain ⟨_, _, e2⟩ := g1.st; exact absurd (lt_of_get e2) (by rw [e]; exact Nat.lt_irrefl _)
 refine Wp_step rfl (Wp_step (r_mod (by decide)) (Wp_step (r_range ⟨by lia, by lia⟩) (Wp_for (J := fun ya => True) (calm _) walks_vals (FldP prog known ls m d ns nk nl σ₁.length left z σ) (fun ya yb yc yd => trivial) ⟨g1.grow .push, ⟨_, _, _, rfl⟩, [], get_new, List.nodup_nil, Nat.le_refl _, fun ya h => nomatch h⟩ (fun i v loc τ hv hp => ?_) fun loc τ hp => ?_)))
 ·obtain ⟨gr, ⟨o1, o2, o3, rfl⟩, l, hl, hnd, hlen, hgd⟩ := hp
  obtain ⟨rfl, hi⟩ := range_val hv
  have hi4 : i < 4 := by lia
  rw [L_fields_l1_step]
  have h2 := Int.emod_nonneg (z / 16) (show (2 : Int) ≠ 0 by decide)
  have h3 := Int.emod_lt_of_pos (z / 16) (show (0 : Int) < 2 by decide)
  refine Wp_step (r_div (by decide)) (Wp_step (r_mod (by decide)) (Wp_step (r_mulL (by decide)) (Wp_step rfl (Wp_step (r_div (by decide)) (Wp_step (r_mulL (by unfold Small; lia)) (Wp_step rfl ((g.go gr).label h4 fun s hs => ?_)))))))
  refine Wp_step (r_src hl) (met_comp (l := l) (by lia) hl (Wp_step (pairs_vin get_new) (Wp_step (a := !((l.map (·.1)).any fun x => x == s)) rfl ?_)))
  cases hany : (l.map (·.1)).any fun x => x == s with
  | true => exact Wp_no rfl (Wp_pure ⟨gr.grow .push, ⟨_, _, _, rfl⟩, l, push_at hl, hnd, Nat.le_succ_of_le hlen, hgd⟩)
  | false =>
   have gr' := gr.grow (σ'' := τ ++ [O.list ((l.map (·.1)).map V.str)]) .push
   refine Wp_yes rfl (Wp_step (r_tagL (push_at hl) rfl) ((ih _ (g.go gr')).step fun b τ₂ hb => ?_))
   obtain ⟨g2, hb⟩ := hb
   have hl2 : τ₂[σ₁.length]? = some (.list (l.map pairV)) := g2.le _ _ (fun hm => hns (List.mem_singleton.mp hm)) (push_at hl)
   refine Wp_step (r_append hl2 (by have := lt_of_get g.kn; have := lt_of_get g.lb; have := g.pos; have := g.nek; have := g.nel; (first | lia | omega)) (by rw [List.length_map]; lia)) (Wp_pure ⟨?_, ⟨_, _, _, rfl⟩, l ++ [(s, b)], ?_, ?_, by rw [List.length_append]; exact Nat.succ_le_succ hlen, fun p hp => ?_⟩)
   ·refine ⟨LeEx.setNew (gr'.trans g2).le hfd, ?_⟩
    obtain ⟨s', c', e'⟩ := g2.st
    exact ⟨s', c', set_ne hns e'⟩
   ·rw [List.map_append]; exact set_get hl2
   ·rw [List.map_append, List.nodup_append]
    refine ⟨hnd, List.nodup_cons.mpr ⟨List.not_mem_nil, List.nodup_nil⟩, fun x hx y hy e => ?_⟩
    rw [List.map_cons, List.map_nil, List.mem_singleton] at hy
    subst hy e
    rw [List.any_eq_false] at hany
    exact hany _ hx (beq_self_eq_true _)
   ·rcases List.mem_append.mp hp with hp | hp
    ·exact hgd p hp
    ·rw [List.mem_singleton.mp hp]; exact hb
 ·obtain ⟨gr, ⟨o1, o2, o3, rfl⟩, l, hl, hnd, hlen, hgd⟩ := hp
  rw [L_fields_a1_eq]
  exact Wp_step (r_tuple hl) (Wp_pure (.mk gr hnd (by rw [range_len] at hlen; lia) hgd))
end
end Mine.Internal

set_option backward.match.sparseCases false
namespace Mine.Internal
open PySem PyProof.Rows
section
variable {prog known : List Dfn} {d e m n K : Nat} {σ σ' : Store} {z : Int} {ls : List Str} {ns nk nl : Nat} {left : Nat} {s : Str} {v1 v2 v3 : V} {o1 o2 o3 o4 : Option V}
theorem left_one : (((left + 1 : Nat) : Int) - 1) = (left : Int) := by (first | lia | omega)
theorem BodyOk.sub {f : V → M V} {Q : V → Store → Prop} (ih : BodyOk prog known ls m d ns nk nl left e) (g : Gen known ls ns nk nl σ) (k : ∀ b τ, Grew ns σ τ → Good prog d m b → Wp (f b) τ Q) :
  Wp (binop .Sub (.int ((left + 1 : Nat) : Int)) (V.int 1) >>= fun t => (cl06 e "_law_body" [.ref ns, .int m, .ref nk, .ref nl, t] >>= f)) σ Q := by
 refine Wp_step (a := .int left) (by show Res.ok (V.int (((left + 1 : Nat) : Int) - 1)) σ = _; rw [left_one]) ((ih σ g).step fun b τ hb => ?_)
 obtain ⟨gr, hb⟩ := hb
 exact k b τ gr hb
theorem BodyQ.of {r : V} {σ'' : Store} (h : Grew ns σ σ') (q : BodyQ prog m d ns σ' r σ'') : BodyQ prog m d ns σ r σ'' := by
 obtain ⟨g, hb⟩ := q
 exact .mk (h.trans g) hb
theorem body_t5 {w : Int} (hd : d < n) (ih : BodyOk prog known ls m d ns nk nl left e) (g : Gen known ls ns nk nl σ) : Wp (L_body_t5 e (.ref ns) (.int m) (.ref nk) (.ref nl) (.int ((left + 1 : Nat) : Int)) v1 (.int w) v2 v3 o1 o2 o3 o4) σ (BodyQ prog m n ns σ) := by
 unfold L_body_t5
 refine ih.sub g fun a τ₁ g1 ha => ih.sub (g.go g1) fun b τ₂ g2 hb => ?_
 refine Wp_step r_eqI (Wp_step (a := w == 9) rfl ?_)
 have g12 := g1.trans g2
 cases w == 9 with
 | true => exact Wp_yes rfl (Wp_pure (.mk g12 (.sum hd ha hb)))
 | false =>
  refine Wp_no rfl ?_
  unfold L_body_t6
  exact ih.sub (g.go g12) fun c τ₃ g3 hc => Wp_pure (.mk (g12.trans g3) (.ite hd ha hb hc))
theorem body_t4 {w : Int} (h4 : ls.length = 4) (hd : d < n) (ih : BodyOk prog known ls m d ns nk nl left (e + 2)) (ih' : BodyOk prog known ls m d ns nk nl left (e + 1)) (g : Gen known ls ns nk nl σ) : Wp (L_body_t4 (e + 2) (.ref ns) (.int m) (.ref nk) (.ref nl) (.int ((left + 1 : Nat) : Int)) v1 (.int w) v2 v3 o1 o2 o3 o4) σ (BodyQ prog m n ns σ) := by
 refine Wp_step rfl (Wp_step (a := decide (w < 9)) rfl ?_)
 cases decide (w < 9) with
 | false => exact Wp_no rfl (body_t5 hd ih g)
 | true =>
  have hf := fields_ok h4 ih' g
  refine Wp_yes rfl (Wp_step (a := .int left) (by show Res.ok (V.int (((left + 1 : Nat) : Int) - 1)) σ = _; rw [left_one]) ?_)
  refine hf.step fun r τ hr => ?_
  obtain ⟨g1, hn, hl, hg⟩ := hr
  exact Wp_pure (.mk g1 (.make hd hn hl hg))
theorem body_t3 {w : Int} (h4 : ls.length = 4) (hd : d < n) (ih : BodyOk prog known ls m d ns nk nl left (e + 2)) (ih' : BodyOk prog known ls m d ns nk nl left (e + 1)) (g : Gen known ls ns nk nl σ) : Wp (L_body_t3 (e + 2) (.ref ns) (.int m) (.ref nk) (.ref nl) (.int ((left + 1 : Nat) : Int)) v1 (.int w) v2 (.str s) o1 o2 o3) σ (BodyQ prog m n ns σ) := by
 refine Wp_step rfl (Wp_step (a := decide (w < 7)) rfl ?_)
 cases decide (w < 7) with
 | false => exact Wp_no rfl (body_t4 h4 hd ih ih' g)
 | true => exact Wp_yes rfl (ih.sub g fun a τ₁ g1 ha => ih.sub (g.go g1) fun b τ₂ g2 hb => Wp_pure (.mk (g1.trans g2) (.put hd ha hb)))
theorem body_t2 {w : Int} (h4 : ls.length = 4) (hd : d < n) (ih : BodyOk prog known ls m d ns nk nl left (e + 2)) (ih' : BodyOk prog known ls m d ns nk nl left (e + 1)) (g : Gen known ls ns nk nl σ) : Wp (L_body_t2 (e + 2) (.ref ns) (.int m) (.ref nk) (.ref nl) (.int ((left + 1 : Nat) : Int)) v1 (.int w) v2 (.str s) o1 o2 o3) σ (BodyQ prog m n ns σ) := by
 refine Wp.step (P := fun ya τ => τ = σ) (Wp_step rfl (Wp_step (a := decide (w < 5)) rfl ?_)) fun b τ hτ => ?_
 ·cases decide (w < 5) with
  | true => exact Wp_yes rfl (Wp_pure rfl)
  | false =>
   refine Wp_no rfl (Wp_step rfl (Wp_step (a := decide ((11 : Int) < w)) rfl ?_))
   cases decide ((11 : Int) < w) with
   | true => exact Wp_yes rfl (Wp_pure rfl)
   | false => exact Wp_no rfl (Wp_pure rfl)
 ·subst hτ
  cases b with
  | false => exact Wp_no rfl (body_t3 h4 hd ih ih' g)
  | true => exact Wp_yes rfl (ih.sub g fun a τ₁ g1 ha => Wp_pure (.mk g1 (.get hd ha)))
theorem Gen.pick {α : Type} {f : V → M α} {Q : α → Store → Prop} {w : Int} (g : Gen known ls ns nk nl σ) (hk : known ≠ []) (hl : known.length ≤ 4) (k : ∀ p, p ∈ known → Wp (f (knV p)) σ Q) :
  Wp (bLen (.ref nk) >>= fun t => (binop .Mod (.int w) t >>= fun u => (item (.ref nk) u >>= f))) σ Q := by
 refine Wp_step (r_len g.kn) ?_
 rw [List.length_map]
 have hp : (0 : Int) < (known.length : Int) := Int.natCast_pos.mpr (List.length_pos_iff.mpr hk)
 have h0 := Int.emod_nonneg w (Int.ne_of_gt hp)
 have h1 := Int.emod_lt_of_pos w hp
 refine Wp_step (r_mod ⟨hp, Int.lt_of_le_of_lt (Int.ofNat_le.mpr hl) (by decide)⟩) ?_
 obtain ⟨j, hj⟩ := Int.eq_ofNat_of_zero_le h0
 rw [hj] at h1 ⊢
 have hj : j < known.length := Int.ofNat_lt.mp h1
 refine Wp_step (r_item g.kn (Int.natCast_nonneg _) (x := knV known[j]) ?_) (k _ (List.getElem_mem hj))
 rw [Int.toNat_natCast, List.getElem?_map, List.getElem?_eq_getElem hj]; rfl
structure ArgP (prog : List Dfn) (m d ns : Nat) (σ : Store) (S : Loc → Prop) (i : Nat) (acc : List V) (loc : Loc) (τ : Store) : Prop where
 grew : Grew ns σ τ
 loc : S loc
 len : acc.length = i
 good : ∀ a ∈ acc, Good prog d m a
theorem ArgP.next {S : Loc → Prop} {i : Nat} {acc : List V} {loc loc' : Loc} {τ τ' : Store} {a : V} (h : ArgP prog m d ns σ S i acc loc τ) (hl : S loc') (g : Grew ns τ τ') (ha : Good prog d m a) : ArgP prog m d ns σ S (i + 1) (acc ++ [a]) loc' τ' where
 grew := h.grew.trans g
 loc := hl
 len := by rw [List.length_append, h.len]; rfl
 good := fun b hb => by
  rcases List.mem_append.mp hb with hb | hb
  ·exact h.good b hb
  ·rw [List.mem_singleton.mp hb]; exact ha
theorem body_call {p : Dfn} {w : V} (hk : Kn prog known K) (hp : p ∈ known) (ih : BodyOk prog known ls m d ns nk nl left e) (g : Gen known ls ns nk nl σ) (hd : d + K < n) :
  Wp (L_body_a1 e [some (.ref ns), some (.int m), some (.ref nk), some (.ref nl), some (.int ((left + 1 : Nat) : Int)), some v1, some w, some v2, some v3, some (.str p.1), some (.int p.2.1), none, none, none, none, none, none, none, none, none, none]) σ (BodyQ prog m n ns σ) := by
 have h24 : (16777216 : Nat) = sizeLine := rfl
 obtain ⟨h4, hf, hg⟩ := hk p hp
 rw [L_body_a1_eq]
 refine Wp_step rfl (Wp_step (r_range4 h4) (Wp_comp (J := fun ya => True) (calm e) walks_vals L_body_c1_ok (L_body_c1_in ..) (by rw [range_len]; lia) (ArgP prog m d ns σ fun loc => ∃ o, loc = [none, o, none, some (.ref nk), some (.ref nl), some (.int ((left + 1 : Nat) : Int)), some (.int m), some (.ref ns)]) (fun ya yb yc yd ye => trivial) ⟨⟨.refl, g.st⟩, ⟨_, rfl⟩, rfl, fun ya h => nomatch h⟩ (fun i v acc loc τ hv hP => ?_) fun out loc τ hP => ?_))
 ·obtain ⟨o, rfl⟩ := hP.loc
  rw [L_body_c1_bind]
  refine Wp_pure ?_
  rw [L_body_c1_tst]
  refine Wp_pure ?_
  rw [if_pos rfl, L_body_c1_elt]
  exact ih.sub (g.go hP.grew) fun a τ' g' ha => Wp_pure (hP.next ⟨_, rfl⟩ g' ha)
 ·have hlen := hP.len
  rw [range_len, Int.toNat_natCast] at hlen
  exact Wp_step rfl (Wp_step (r_tuple get_new) (Wp_pure (.mk (hP.grew.grow .push) (.call hd hf hlen (hlen ▸ h4) hP.good hg))))
theorem body_t1 {w : Int} (h4 : ls.length = 4) (hk : Kn prog known K) (hkl : known.length ≤ 4) (ih : BodyOk prog known ls m (ix K left) ns nk nl left (e + 2)) (ih' : BodyOk prog known ls m (ix K left) ns nk nl left (e + 1)) (g : Gen known ls ns nk nl σ) :
  Wp (L_body_t1 (e + 2) (.ref ns) (.int m) (.ref nk) (.ref nl) (.int ((left + 1 : Nat) : Int)) v1 (.int w) (.int z) (.str s)) σ (BodyQ prog m (ix K (left + 1)) ns σ) := by
 refine Wp.step (P := fun b τ => Le σ τ ∧ (b = true → known ≠ [] ∧ left + 1 = 6)) (Wp_step rfl (Wp_step (a := decide ((7 : Int) < w)) rfl ?_)) fun b τ hb => ?_
 ·cases decide ((7 : Int) < w) with
  | false => exact Wp_no rfl (Wp_pure ⟨.refl, fun h => nomatch h⟩)
  | true =>
   refine Wp_yes rfl (Wp_step rfl (Wp_step (r_ne (nil_veq (push_at g.kn) (n := 1) (fun x hx => by obtain ⟨p, _, rfl⟩ := List.mem_map.mp hx; exact knV_pl) get_new)) (Wp_step (a := !(known.map knV).isEmpty) rfl ?_)))
   cases known with
   | nil => exact Wp_no rfl (Wp_pure ⟨.push, fun h => nomatch h⟩)
   | cons p r =>
    refine Wp_yes rfl (Wp_step r_eqI (Wp_step (a := ((left + 1 : Nat) : Int) == 6) rfl ?_))
    cases hl : ((left + 1 : Nat) : Int) == 6 with
    | false => exact Wp_no rfl (Wp_pure ⟨.push, fun h => nomatch h⟩)
    | true => exact Wp_yes rfl (Wp_pure ⟨.push, fun ya => ⟨List.cons_ne_nil _ _, by have := eq_of_beq hl; (first | lia | omega)⟩⟩)
 ·obtain ⟨hle, hb⟩ := hb
  have g' := g.grow hle
  have gr : Grew ns σ τ := ⟨hle.ex, g'.st⟩
  cases b with
  | false => exact Wp_no rfl ((body_t2 h4 ix_up ih ih' g').mono fun ya yb q => q.of gr)
  | true =>
   obtain ⟨hne, hl⟩ := hb rfl
   refine Wp_yes rfl (g'.pick hne hkl fun p hp => Wp_step rfl ((body_call hk hp ih g' ?_).mono fun ya yb q => q.of gr))
   unfold ix
   rw [if_pos (by (first | lia | omega)), if_neg (by (first | lia | omega))]; (first | lia | omega)
theorem body_ok (h4 : ls.length = 4) (hm : m ≤ 4) (hk : Kn prog known K) (hkl : known.length ≤ 4) : ∀ (left e : Nat), 2 * left + 2 ≤ e → BodyOk prog known ls m (ix K left) ns nk nl left e := by
 intro left
 induction left with
 | zero =>
  intro e he σ g
  obtain ⟨e, rfl⟩ : ∃ f, e = f + 2 := ⟨e - 2, by (first | lia | omega)⟩
  rw [L_body_sh]
  refine g.next.step fun r σ₁ hr => ?_
  obtain ⟨g1, z, rfl, hz⟩ := hr
  refine Wp_step (r_mod (by decide)) (Wp_step (r_div (by decide)) ((g.go g1).label h4 fun s ya => Wp.step (P := fun b τ => b = true ∧ τ = σ₁) (Wp_step rfl (Wp_step (a := decide (((0 : Nat) : Int) ≤ 1)) rfl (Wp_yes (by decide) (Wp_pure ⟨rfl, rfl⟩)))) fun b τ hb => ?_))
  obtain ⟨rfl, rfl⟩ := hb
  refine Wp_yes rfl ((leaf_ok (prog := prog) (Int.ediv_nonneg hz (by decide)) hm).step fun r τ hr => ?_)
  obtain ⟨hl, hg⟩ := hr
  exact Wp_pure (.mk (g1.grow hl) (hg _))
 | succ left ih =>
  intro e he σ g
  obtain ⟨e, rfl⟩ : ∃ f, e = f + 3 := ⟨e - 3, by (first | lia | omega)⟩
  rw [L_body_sh]
  refine g.next.step fun r σ₁ hr => ?_
  obtain ⟨g1, z, rfl, hz⟩ := hr
  refine Wp_step (r_mod (by decide)) (Wp_step (r_div (by decide)) ((g.go g1).label h4 fun s ya => Wp.step (P := fun ya τ => τ = σ₁) (Wp_step rfl (Wp_step (a := decide (((left + 1 : Nat) : Int) ≤ 1)) rfl ?_)) fun b τ hτ => ?_))
  ·cases decide (((left + 1 : Nat) : Int) ≤ 1) with
   | true => exact Wp_yes rfl (Wp_pure rfl)
   | false =>
    obtain ⟨s', c', e'⟩ := g1.st
    refine Wp_no rfl (Wp_step (r_item e' (by decide) rfl) (Wp_step rfl (Wp_step (a := decide (c' ≤ 0)) rfl ?_)))
    cases decide (c' ≤ 0) with
    | true => exact Wp_yes rfl (Wp_pure rfl)
    | false =>
     refine Wp_no rfl (Wp_step rfl (Wp_step (a := decide (z % 14 < 2)) rfl ?_))
     cases decide (z % 14 < 2) with
     | true => exact Wp_yes rfl (Wp_pure rfl)
     | false => exact Wp_no rfl (Wp_pure rfl)
  ·subst hτ
   cases b with
   | true =>
    refine Wp_yes rfl ((leaf_ok (prog := prog) (Int.ediv_nonneg hz (by decide)) hm).step fun r τ hr => ?_)
    obtain ⟨hl, hg⟩ := hr
    exact Wp_pure (.mk (g1.grow hl) (hg _))
   | false => exact Wp_no rfl ((body_t1 h4 hk hkl (ih (e + 2) (by (first | lia | omega))) (ih (e + 1) (by (first | lia | omega))) (g.go g1)).mono fun ya yb q => q.of g1)
end
end Mine.Internal

set_option backward.match.sparseCases false
namespace Mine.Internal
open PySem PyProof.Rows
section
variable {prog known : List Dfn} {d e m n K : Nat} {σ σ' : Store} {z : Int} {ls : List Str} {ns nk nl : Nat} {left : Nat} {s : Str} {v1 v2 v3 : V}
theorem ix_top (h : 6 ≤ left) : ix K left = left + K := by unfold ix; rw [if_neg (by (first | lia | omega))]
theorem kn_nil : Kn prog [] K := fun ya h => nomatch h
theorem top_call {p : Dfn} (h4 : ls.length = 4) (hm : m ≤ 4) (hk : Kn prog known K) (hp : p ∈ known) (g : Gen known ls ns nk nl σ) (he : 2 * left + 2 ≤ e) (hd : left + K < n) :
  Wp (L_top_body_a1 e [some (.ref ns), some (.int m), some (.ref nk), some (.ref nl), some (.int ((left + 1 : Nat) : Int)), some v1, some (.str p.1), some (.int p.2.1), none, none, none, none, none]) σ (BodyQ prog m n ns σ) := by
 have h24 : (16777216 : Nat) = sizeLine := rfl
 obtain ⟨hp4, hf, hg⟩ := hk p hp
 rw [L_top_body_a1_eq]
 refine Wp_step rfl (Wp_step rfl (Wp_step (r_range4 hp4) (Wp_comp (J := fun ya => True) (calm e) walks_vals L_top_body_c1_ok (L_top_body_c1_in ..) (by rw [range_len]; lia) (ArgP prog m left ns σ fun loc => ∃ o, loc = [none, o, none, some (.ref nl), some (.int ((left + 1 : Nat) : Int)), some (.int m), some (.ref ns)]) (fun ya yb yc yd ye => trivial) ⟨⟨.refl, g.st⟩, ⟨_, rfl⟩, rfl, fun ya h => nomatch h⟩ (fun i v acc loc τ hv hP => ?_) fun out loc τ hP => ?_)))
 ·obtain ⟨o, rfl⟩ := hP.loc
  rw [L_top_body_c1_bind]
  refine Wp_pure ?_
  rw [L_top_body_c1_tst]
  refine Wp_pure ?_
  rw [if_pos rfl, L_top_body_c1_elt]
  have g1 := (g.go hP.grew).grow (σ' := τ ++ [O.list []]) .push
  have g2 : Gen [] ls ns τ.length nl (τ ++ [O.list []]) := ⟨g1.st, g1.pos, get_new, g1.lb, fun e => by obtain ⟨_, _, e2⟩ := (g.go hP.grew).st; exact absurd (lt_of_get e2) (by rw [← e]; exact Nat.lt_irrefl _), g1.nel⟩
  refine Wp_step rfl (((body_ok h4 hm (kn_nil (prog := prog) (K := 0)) (Nat.zero_le _) left e he).sub g2 fun a τ' g' ha => Wp_pure ?_))
  have hix : ix 0 left = left := by unfold ix; split <;> rfl
  rw [hix] at ha
  exact hP.next ⟨_, rfl⟩ (Grew.trans ⟨LeEx.push, g2.st⟩ g') ha
 ·have hlen := hP.len
  rw [range_len, Int.toNat_natCast] at hlen
  exact Wp_step (r_tuple get_new) (Wp_pure (.mk (hP.grew.grow .push) (.call hd hf hlen (hlen ▸ hp4) hP.good hg)))
theorem top_ok (h4 : ls.length = 4) (hm : m ≤ 4) (hk : Kn prog known K) (hkl : known.length ≤ 4) (g : Gen known ls ns nk nl σ) (h6 : 5 ≤ left) (he : 2 * left + 5 ≤ e) :
  Wp (cl06 e "_law_top_body" [.ref ns, .int m, .ref nk, .ref nl, .int ((left + 1 : Nat) : Int)]) σ (BodyQ prog m (left + 1 + K) ns σ) := by
 obtain ⟨e, rfl⟩ : ∃ f, e = f + 2 := ⟨e - 2, by (first | lia | omega)⟩
 rw [L_top_body_sh]
 refine g.next.step fun r σ₁ hr => ?_
 obtain ⟨g1, z, rfl, hz⟩ := hr
 have G1 := g.go g1
 refine Wp.step (P := fun b τ => Le σ₁ τ ∧ (b = false → known ≠ [])) (Wp_step rfl (Wp_step (r_eq (nil_veq (push_at G1.kn) (n := 1) (fun x hx => by obtain ⟨p, _, rfl⟩ := List.mem_map.mp hx; exact knV_pl) get_new)) (Wp_step (a := (known.map knV).isEmpty) rfl ?_))) fun b τ hb => ?_
 ·cases known with
  | nil => exact Wp_yes rfl (Wp_pure ⟨.push, fun h => nomatch h⟩)
  | cons p r =>
   refine Wp_no rfl (Wp_step (r_mod (by decide)) (Wp_step r_eqI (Wp_step (a := z % 2 == 0) rfl ?_)))
   cases z % 2 == 0 with
   | true => exact Wp_yes rfl (Wp_pure ⟨.push, fun h => nomatch h⟩)
   | false => exact Wp_no rfl (Wp_pure ⟨.push, fun ya => List.cons_ne_nil _ _⟩)
 ·obtain ⟨hle, hb⟩ := hb
  have G2 := G1.grow hle
  have gr : Grew ns σ τ := g1.grow hle
  cases b with
  | true =>
   refine Wp_yes rfl ((body_ok h4 hm hk hkl (left + 1) (e + 1) (by (first | lia | omega)) τ G2).step fun r τ' hr => ?_)
   rw [ix_top (by (first | lia | omega))] at hr
   exact Wp_pure (hr.of gr)
  | false =>
   refine Wp_no rfl ?_
   unfold L_top_body_t1
   refine Wp_step (r_div (by decide)) (G2.pick (hb rfl) hkl fun p hp => Wp_step rfl ((top_call h4 hm hk hp G2 (by (first | lia | omega)) (by (first | lia | omega))).mono fun ya yb q => q.of gr))
theorem times_head {c : Nat} {x : Array Nat} : ∀ (n : Nat) (acc : Array Nat), acc[0]? = some c → ((List.replicate n x).foldl (· ++ ·) acc)[0]? = some c
 | 0, _, h => h
 | n + 1, acc, h => by
  rw [List.replicate_succ, List.foldl_cons]
  refine times_head n _ ?_
  rw [Array.getElem?_append_left (by rcases Nat.lt_or_ge 0 acc.size with h' | h'; exact h'; rw [Array.getElem?_eq_none h'] at h; cases h)]
  exact h
theorem name_head {c k : Nat} (hk : 1 ≤ k) : (timesS (chr1 c) k).cps[0]? = some c := by
 obtain ⟨k, rfl⟩ : ∃ j, k = j + 1 := ⟨k - 1, by (first | lia | omega)⟩
 show ((List.replicate (k + 1) (chr1 c).cps).foldl (· ++ ·) #[])[0]? = some c
 rw [List.replicate_succ, List.foldl_cons]
 exact times_head k _ rfl
theorem r_name {k : Nat} (hk : k < 3) : item (.str (Str.ofString "defgh")) (.int k) σ = .ok (.str (chr1 (100 + k))) σ := by
 match k, hk with
 | 0, _ => kernel_rfl
 | 1, _ => kernel_rfl
 | 2, _ => kernel_rfl
theorem r_times {c : Nat} {i : Int} (h1 : 1 ≤ i) (h2 : i ≤ 1000) : binop .Mult (.str (chr1 c)) (.int i) σ = .ok (.str (timesS (chr1 c) i.toNat)) σ := by
 show (if 1 ≤ i ∧ i ≤ 1000 ∧ (chr1 c).length = 1 then pure (V.str (timesS (chr1 c) i.toNat)) else M.bad : M V) σ = _
 rw [if_pos ⟨h1, h2, rfl⟩]; rfl
structure Prg (prog : List Dfn) (K : Nat) : Prop where
 head : ∀ (k : Nat) (p : Dfn), prog[k]? = some p → p.1.cps[0]? = some (100 + k)
 many : ∀ p ∈ prog, p.2.1 ≤ 4
 good : ∀ p ∈ prog, Good prog K p.2.1 p.2.2
theorem Prg.one (h : Prg prog K) {i j : Nat} {p q : Dfn} (hp : prog[i]? = some p) (hq : prog[j]? = some q) (e : p.1 = q.1) : i = j := by
 have h1 := h.head i p hp
 have h2 := h.head j q hq
 rw [e, h2] at h1
 exact (Nat.add_left_cancel (Option.some.inj h1)).symm
theorem Prg.find (h : Prg prog K) {i : Nat} {p : Dfn} (hp : prog[i]? = some p) : prog.find? (fun q => q.1 == p.1) = some p := by
 refine find_at hp (fun q hq => ?_) (beq_self_eq_true _)
 obtain ⟨j, hj⟩ := List.getElem?_of_mem hq
 rw [List.getElem?_take] at hj
 split at hj
 ·rename_i hl
  exact beq_false_of_ne fun e => absurd (h.one hj hp e) (Nat.ne_of_lt hl)
 ·cases hj
theorem Prg.kn (h : Prg prog K) : Kn prog prog K := fun p hp => by
 obtain ⟨i, hi⟩ := List.getElem?_of_mem hp
 exact ⟨h.many p hp, h.find hi, h.good p hp⟩
theorem Prg.snoc {p : Dfn} (h : Prg prog K) (h1 : p.1.cps[0]? = some (100 + prog.length)) (h2 : p.2.1 ≤ 4) (h3 : Good prog (8 + K) p.2.1 p.2.2) : Prg (prog ++ [p]) (8 + K) where
 head := fun k q hq => by
  rcases Nat.lt_or_ge k prog.length with hl | hl
  ·rw [List.getElem?_append_left hl] at hq; exact h.head k q hq
  ·rw [List.getElem?_append_right hl] at hq
   rcases Nat.eq_zero_or_pos (k - prog.length) with hz | hz
   ·rw [hz] at hq; cases hq
    rw [show k = prog.length by (first | lia | omega)]; exact h1
   ·rw [List.getElem?_eq_none (by rw [List.length_singleton]; exact hz)] at hq; cases hq
 many := fun q hq => by
  rcases List.mem_append.mp hq with hq | hq
  ·exact h.many q hq
  ·rw [List.mem_singleton.mp hq]; exact h2
 good := fun q hq => by
  rcases List.mem_append.mp hq with hq | hq
  ·exact ((h.good q hq).mono (Nat.le_add_left _ _)).more _
  ·rw [List.mem_singleton.mp hq]; exact h3.more _
end
end Mine.Internal

set_option backward.match.sparseCases false
namespace Mine.Internal
open PySem PyProof.Rows
section
variable {prog : List Dfn} {e m n K : Nat} {σ σ' τ : Store} {z : Int} {ls : List Str} {ns nl : Nat} {s : Str} {zs : List Int}
noncomputable abbrev Scr (σ : Store) (zs : List Int) : Prop := σ[0]? = some (.list (zs.map .int))
theorem cell_step {α : Type} {g : V → M α} {Q : α → Store → Prop} {k : Int} (h : Scr σ zs) (hk : 0 ≤ k) (h1 : ∀ c : Int, 0 ≤ c → Wp (g (.int c)) σ Q) : Wp (cl06 (e + 1) "_law_cell" [.ref 0, .int k] >>= g) σ Q := by
 refine (cell_ok h hk).step fun r τ hr => ?_
 obtain ⟨rfl, c, rfl, h0, _⟩ := hr
 exact h1 c h0
theorem mod_step {c b : Int} {α : Type} {g : V → M α} {Q : α → Store → Prop} (hb : Lit b) (h1 : ∀ x : Int, 0 ≤ x → x < b → Wp (g (.int x)) σ Q) : Wp (binop .Mod (.int c) (.int b) >>= g) σ Q :=
 Wp_step (r_mod hb) (h1 _ (Int.emod_nonneg _ (Int.ne_of_gt hb.1)) (Int.emod_lt_of_pos _ hb.1))
theorem sorted_two (h : ls.Nodup) (h4 : ls.length = 4) : ∃ a b c d, sortS ls = [a, b, c, d] ∧ d ≠ a := by
 have hp : (sortS ls).Perm ls := by
  have : ∀ l : List Str, (sortS l).Perm l := fun l => by
   have e := sortP_keys (l.map fun s => (s, V.none))
   rw [List.map_map, show ((fun p : Str × V => p.1) ∘ fun s => (s, V.none)) = id from rfl, List.map_id] at e
   rw [← e]
   have := (sortP_perm' (l := l.map fun s => (s, V.none))).map (·.1)
   rw [List.map_map, show ((fun p : Str × V => p.1) ∘ fun s => (s, V.none)) = id from rfl, List.map_id] at this
   exact this
  exact this ls
 have hl := hp.length_eq.trans h4
 have hn := (hp.nodup_iff).mpr h
 match sortS ls, hl, hn with
 | [a, b, c, d], _, hn =>
  refine ⟨a, b, c, d, rfl, fun e => ?_⟩
  rw [List.nodup_cons] at hn
  exact hn.1 (by rw [e]; exact List.mem_cons_of_mem _ (List.mem_cons_of_mem _ (List.mem_cons_self ..)))
structure PrgP (nl np nk : Nat) (σ : Store) (i : Nat) (loc : Loc) (τ : Store) : Prop where
 le : Le σ τ
 loc : ∃ o1 o2 o3 o4 o5 o6 o7, loc = [some (.ref 0), some (.ref nl), some (.ref np), some (.ref nk), o1, o2, o3, o4, o5, o6, o7, none, none, none, none]
 row : ∃ prog, prog.length = i ∧ Prg prog (8 * i) ∧ τ[np]? = some (.list (prog.map dfnV)) ∧ τ[nk]? = some (.list (prog.map knV))
inductive PrgQ (σ : Store) : V → Store → Prop
 | mk {prog : List Dfn} {np : Nat} {σ' : Store} : Le σ σ' → σ.length ≤ np → σ'[np]? = some (.list (prog.map dfnV)) → 1 ≤ prog.length → prog.length ≤ 3 → Prg prog 24 → PrgQ σ (.ref np) σ'
theorem prg_end {np nk : Nat} {p : Dfn} {v1 v2 : V} {o : Option V} {i : Nat} {ki : V} (hi : i < 3) (hlen : prog.length = i) (hnp : σ.length ≤ np) (hnk : σ.length ≤ nk) (hne : np ≠ nk) (h0 : 0 < σ.length) (hle : Le σ τ) (hP : Prg prog (8 * i)) (e1 : τ[np]? = some (.list (prog.map dfnV))) (e2 : τ[nk]? = some (.list (prog.map knV)))
  (h1 : p.1.cps[0]? = some (100 + i)) (h2 : p.2.1 ≤ 4) (h3 : Good prog (8 + 8 * i) p.2.1 p.2.2) : Wp (L_program_t1 e (.ref 0) (.ref nl) (.ref np) (.ref nk) ki (.int p.2.1) v1 (.str p.1) v2 p.2.2 o) τ (Turn (PrgP nl np nk σ) (fun ya yb => False) i) := by
 have h24 : (16777216 : Nat) = sizeLine := rfl
 unfold L_program_t1
 refine Wp_step (r_tagL e1 rfl) (Wp_step (r_append e1 (by (first | lia | omega)) (by rw [List.length_map]; lia)) ?_)
 have e3 : (τ.set np (.list (prog.map dfnV ++ [dfnV p])))[nk]? = some (.list (prog.map knV)) := set_ne hne e2
 have e4 : (τ.set np (.list (prog.map dfnV ++ [dfnV p])))[np]? = some (.list (prog.map dfnV ++ [dfnV p])) := set_get e1
 refine Wp_step (r_tagL e3 rfl) (Wp_step (r_append e3 (by (first | lia | omega)) (by rw [List.length_map]; lia)) (Wp_pure ⟨?_, ⟨_, _, _, _, _, _, _, rfl⟩, prog ++ [p], by rw [List.length_append, hlen]; rfl, ?_, ?_, ?_⟩))
 ·exact LeEx.setNew (LeEx.setNew hle hnp) hnk
 ·have := hP.snoc (by rw [hlen]; exact h1) h2 h3
  rw [show 8 * (i + 1) = 8 + 8 * i by (first | lia | omega)]; exact this
 ·rw [List.map_append]; exact set_ne hne.symm e4
 ·rw [List.map_append]; exact set_get e3
theorem program_ok (hs : Scr σ zs) (hl : σ[nl]? = some (.list (ls.map V.str))) (L : Labs ls) (he : 25 ≤ e) : Wp (cl06 e "_law_program" [.ref 0, .ref nl]) σ (PrgQ σ) := by
 obtain ⟨e, rfl⟩ : ∃ f, e = f + 2 := ⟨e - 2, by (first | lia | omega)⟩
 have h24 : (16777216 : Nat) = sizeLine := rfl
 rw [L_program_sh]
 have h0 := lt_of_get hs
 refine Wp_step rfl (Wp_step rfl (cell_step (push_at (push_at hs)) (by decide) fun c ya => mod_step (by decide) fun x h1 h2 => Wp_step rfl (Wp_step (r_range ⟨by lia, by lia⟩) ?_)))
 have e1 : (σ ++ [O.list []] ++ [O.list []])[σ.length]? = some (.list (([] : List Dfn).map dfnV)) := push_at get_new
 have e2 : (σ ++ [O.list []] ++ [O.list []])[(σ ++ [O.list []]).length]? = some (.list (([] : List Dfn).map knV)) := get_new
 have hnk : σ.length < (σ ++ [O.list []]).length := by rw [List.length_append]; exact Nat.lt_succ_self _
 have hle0 : Le σ (σ ++ [O.list []] ++ [O.list []]) := LeEx.push.new
 generalize (σ ++ [O.list []]).length = nk at e2 hnk
 generalize σ ++ [O.list []] ++ [O.list []] = σ₀ at e1 e2 hle0
 refine Wp_for (J := fun ya => True) (calm _) walks_vals (PrgP nl σ.length nk σ) (fun ya yb yc yd => trivial) ⟨hle0, ⟨_, _, _, _, _, _, _, rfl⟩, [], rfl, ⟨fun ya yb h => (by cases h), fun ya h => (nomatch h), fun ya h => nomatch h⟩, e1, e2⟩ (fun i v loc τ hv hp => ?_) fun loc τ hp => ?_
 ·obtain ⟨hle, ⟨o1, o2, o3, o4, o5, o6, o7, rfl⟩, prog, hlen, hP, f1, f2⟩ := hp
  obtain ⟨rfl, hi⟩ := range_val hv
  have hi : i < 3 := by lia
  rw [L_program_l1_step]
  have hs' : Scr τ zs := hle.at hs
  have k3 : ∀ {j : Int} {α : Type} {g : V → M α} {Q : α → Store → Prop} {τ : Store}, Scr τ zs → 0 ≤ j → (∀ c : Int, 0 ≤ c → Wp (g (.int c)) τ Q) → Wp (binop .Mult (.int 3) (.int i) >>= fun t => (binop .Add (.int j) t >>= fun u => (cl06 (e + 1) "_law_cell" [.ref 0, u] >>= g))) τ Q := fun hs hj k => Wp_step (r_mulL (by decide)) (Wp_step rfl (cell_step hs (by lia) k))
  refine k3 hs' (by decide) fun c1 ya => mod_step (by decide) fun m h3 h4 => k3 hs' (by decide) fun c2 ya => mod_step (by decide) fun s0 ya yb => Wp_step rfl (k3 hs' (by decide) fun c3 ya => mod_step (by decide) fun s1 ya yb => Wp_step rfl (Wp_step rfl ?_))
  have hs2 : Scr (τ ++ [O.list [.int (1 + s0), .int (1 + s1)]]) zs := push_at hs'
  refine Wp_step (r_name hi) (cell_step hs2 (by decide) fun c4 ya => mod_step (by decide) fun w0 h5 h6 => Wp_step rfl (Wp_step (r_times (by lia) (by lia)) (k3 hs2 (by decide) fun c5 ya => Wp_step (r_div (by decide)) (mod_step (by decide) fun x h7 h8 => Wp_step rfl ?_))))
  obtain ⟨m, rfl⟩ := Int.eq_ofNat_of_zero_le h3
  have hm : m ≤ 4 := by lia
  have hnm : (timesS (chr1 (100 + i)) (1 + w0).toNat).cps[0]? = some (100 + i) := name_head (by lia)
  have hne : nl ≠ τ.length := fun e => absurd (lt_of_get (hle.at hl)) (by rw [e]; exact Nat.lt_irrefl _)
  have g : Gen prog ls τ.length nk nl (τ ++ [O.list [.int (1 + s0), .int (1 + s1)]]) := ⟨⟨_, _, get_new⟩, by have := lt_of_get hs'; (first | lia | omega), push_at f2, push_at (hle.at hl), fun e => absurd (lt_of_get f2) (by rw [e]; exact Nat.lt_irrefl _), hne⟩
  have fin : ∀ {τ' : Store}, Grew τ.length (τ ++ [O.list [.int (1 + s0), .int (1 + s1)]]) τ' → Le τ τ' := fun {τ'} gr n o _ e => gr.le n o (fun hm => absurd (lt_of_get e) (by rw [List.mem_singleton.mp hm]; exact Nat.lt_irrefl _)) (push_at e)
  have top : ∀ (lf : Nat), 5 ≤ lf → lf ≤ 7 → ∀ {g' : V → M (Fl × Loc)} {Q : Fl × Loc → Store → Prop}, (∀ b τ', Le τ τ' → Good prog (lf + 1 + 8 * i) m b → Wp (g' b) τ' Q) → Wp (cl06 (e + 1) "_law_top_body" [.ref τ.length, .int m, .ref nk, .ref nl, .int ((lf + 1 : Nat) : Int)] >>= g') (τ ++ [O.list [.int (1 + s0), .int (1 + s1)]]) Q := fun lf h5 h7 {g' Q} k =>
   (top_ok L.four hm hP.kn (by (first | lia | omega)) g h5 (by (first | lia | omega))).step fun b τ' hb => by obtain ⟨gr, hb⟩ := hb; exact k b τ' (fin gr) hb
  have hx : x = 0 ∨ x = 1 := by lia
  rcases hx with rfl | rfl
  ·refine top 7 (by decide) (by decide) fun b τ' hl' hb => Wp_step r_eqI (Wp_step rfl (Wp_no rfl ?_))
   exact (prg_end (p := (timesS (chr1 (100 + i)) (1 + w0).toNat, m, b)) hi hlen (Nat.le_refl _) (Nat.le_of_lt hnk) (Nat.ne_of_lt hnk) h0 (hle.trans hl') hP (hl'.at f1) (hl'.at f2) hnm hm hb).mono fun r τ₂ h => by
    obtain ⟨fl, loc⟩ := r
    cases fl with
    | next => exact h
    | ret _ => exact h.elim
    | brk => exact h
    | cont => exact h
  ·refine top 6 (by decide) (by decide) fun b τ' hl' hb => Wp_step r_eqI (Wp_step rfl (Wp_yes rfl ?_))
   obtain ⟨a, b', c', d', hso, hda⟩ := sorted_two L.nodup L.four
   have hll : τ'[nl]? = some (.list (ls.map V.str)) := hl'.at (hle.at hl)
   refine Wp_step (r_sorted hll (by rw [List.length_map, L.four]; decide) (sort_strs ls)) ?_
   have eso : (τ' ++ [O.list ((sortS ls).map V.str)])[τ'.length]? = some (.list [.str a, .str b', .str c', .str d']) := by rw [hso]; exact get_new
   refine Wp_step (r_item eso (i := 3) (by decide) rfl) (Wp_step (r_item eso (i := 0) (by decide) rfl) ?_)
   have hg : Good prog (8 + 8 * i) m (.tup [.str (Str.ofString "make"), .tup [.tup [.str d', b], .tup [.str a, .tup [.str (Str.ofString "number"), .int i]]]]) :=
    .make (l := [(d', b), (a, .tup [.str (Str.ofString "number"), .int i])]) (d := 7 + 8 * i) (by (first | lia | omega)) (List.nodup_cons.mpr ⟨fun h => hda (List.mem_singleton.mp h), List.nodup_cons.mpr ⟨List.not_mem_nil, List.nodup_nil⟩⟩) (by show 2 ≤ 4; decide) fun p hp => by
     rcases List.mem_cons.mp hp with rfl | hp
     ·exact hb
     ·rw [List.mem_singleton.mp hp]; exact .num _
   have hl2 : Le τ (τ' ++ [O.list ((sortS ls).map V.str)]) := hl'.new
   exact (prg_end (p := (timesS (chr1 (100 + i)) (1 + w0).toNat, m, _)) hi hlen (Nat.le_refl _) (Nat.le_of_lt hnk) (Nat.ne_of_lt hnk) h0 (hle.trans hl2) hP (hl2.at f1) (hl2.at f2) hnm hm hg).mono fun r τ₂ h => by
    obtain ⟨fl, loc⟩ := r
    cases fl with
    | next => exact h
    | ret _ => exact h.elim
    | brk => exact h
    | cont => exact h
 ·obtain ⟨hle, ⟨o1, o2, o3, o4, o5, o6, o7, rfl⟩, prog, hlen, hP, f1, f2⟩ := hp
  rw [L_program_a1_eq]
  rw [range_len] at hlen
  refine Wp_pure (.mk hle (Nat.le_refl _) f1 (by lia) (by lia) ⟨hP.head, hP.many, fun p hp => (hP.good p hp).mono ?_⟩)
  rw [range_len]; lia
end
end Mine.Internal

set_option backward.match.sparseCases false
namespace Mine.Internal
open PySem PyProof.Rows
section
variable {e m n : Nat} {σ σ' τ : Store} {z : Int} {ls : List Str} {ns nl : Nat} {s : Str} {zs : List Int} {left : Nat}
structure Gv (ls : List Str) (ns nl : Nat) (σ : Store) : Prop where
 st : ∃ s c : Int, σ[ns]? = some (.list [.int s, .int c])
 pos : 0 < ns
 lb : σ[nl]? = some (.list (ls.map V.str))
 nel : nl ≠ ns
theorem Gv.go (g : Gv ls ns nl σ) (h : Grew ns σ σ') : Gv ls ns nl σ' := ⟨h.st, g.pos, h.le _ _ (fun hm => g.nel (List.mem_singleton.mp hm)) g.lb, g.nel⟩
theorem Gv.next (g : Gv ls ns nl σ) : Wp (cl06 (e + 1) "_law_next" [.ref ns]) σ fun r τ => Grew ns σ τ ∧ ∃ z, r = .int z ∧ 0 ≤ z := by
 obtain ⟨s, c, h⟩ := g.st
 refine (next_ok h g.pos).mono fun r τ ⟨z, s', h1, h2, h3⟩ => ⟨?_, z, h1, h2⟩
 subst h3
 exact ⟨LeEx.set (List.mem_singleton.mpr rfl) .refl, _, _, set_get h⟩
inductive ValQ (d ns : Nat) (σ : Store) : V → Store → Prop
 | mk {r : V} {σ' : Store} : Grew ns σ σ' → Val d r → ValQ d ns σ r σ'
theorem val_int {d : Nat} (g1 : Grew ns σ τ) : Wp (binop .FloorDiv (.int z) (V.int 3) >>= fun t285 => (binop .Mod t285 (V.int 3) >>= fun t286 => (binop .FloorDiv (.int z) (V.int 3) >>= fun t287 => (binop .Pow (V.int 10) (V.int 12) >>= fun t288 => (binop .Mult (V.int 2) t288 >>= fun t289 => (binop .Add t289 (V.int 1) >>= fun t290 => (binop .Mod t287 t290 >>= fun t291 => (binop .Pow (V.int 10) (V.int 12) >>= fun t292 => (binop .Sub t291 t292 >>= fun t293 => (newO (.list [t286, t293]) >>= fun t294 => (binop .FloorDiv (.int z) (V.int 9) >>= fun t295 => (binop .Mod t295 (V.int 2) >>= fun t296 => (item t294 t296 >>= fun t297 => (pure t297 : M V)))))))))))))) τ (ValQ d ns σ) := by
 refine Wp_step (r_div (by decide)) (Wp_step (r_mod (by decide)) (Wp_step (r_div (by decide)) (Wp_step rfl (Wp_step (r_mulR (by decide)) (Wp_step rfl (Wp_step (r_mod (by decide)) (Wp_step rfl (Wp_step rfl (Wp_step rfl (Wp_step (r_div (by decide)) (mod_step (by decide) fun x h0 h1 => ?_)))))))))))
 obtain ⟨k, rfl⟩ := Int.eq_ofNat_of_zero_le h0
 have h1 : k < 2 := Int.ofNat_lt.mp h1
 match k, h1 with
 | 0, _ => exact Wp_step (r_item get_new (by decide) rfl) (Wp_pure (.mk (g1.grow .push) (.num _)))
 | 1, _ => exact Wp_step (r_item get_new (by decide) rfl) (Wp_pure (.mk (g1.grow .push) (.num _)))
theorem lit3 {i : Nat} (h : i < 4) : Lit (3 * ((i : Int) + 1)) := by
 match i, h with
 | 0, _ => decide
 | 1, _ => decide
 | 2, _ => decide
 | 3, _ => decide
theorem pick_comp {α : Type} {f : V → M α} {Q : α → Store → Prop} {v1 v2 : V} (hl : σ[nl]? = some (.list (ls.map V.str))) (h4 : ls.length = 4) (k : ∀ us : List Str, us.Sublist ls → Wp (f (.ref σ.length)) (σ ++ [.list (us.map V.str)]) Q) :
  Wp (compAll (cf06 e) (cElt L_value_c1) (cTgt L_value_c1) (cIfs L_value_c1) (cScope L_value_c1) (.vals (rangeV 0 4)) L_value_F.names [some v1, some (.ref nl), some v2, some (.int z), none, none, none, none, none] >>= f) σ Q := by
 have h24 : (16777216 : Nat) = sizeLine := rfl
 refine Wp_comp (J := fun ya => True) (calm e) walks_vals L_value_c1_ok (L_value_c1_in ..) (by rw [range_len]; lia) (fun i acc loc τ => τ = σ ∧ (∃ o, loc = [none, o, some (.ref nl), some (.int z)]) ∧ ∃ us : List Str, acc = us.map V.str ∧ us.Sublist (ls.take i)) (fun ya yb yc yd ye => trivial) ⟨rfl, ⟨_, rfl⟩, [], rfl, .refl _⟩ (fun i v acc loc τ hv hp => ?_) fun out loc τ hp => ?_
 ·obtain ⟨rfl, ⟨o, rfl⟩, us, rfl, hu⟩ := hp
  obtain ⟨rfl, hi⟩ := range_val hv
  have hi4 : i < 4 := Int.ofNat_lt.mp hi
  have hi : i < ls.length := by rw [h4]; exact hi4
  rw [L_value_c1_bind]
  refine Wp_pure ?_
  rw [L_value_c1_tst]
  have htk : ls.take (i + 1) = ls.take i ++ [ls[i]] := by rw [List.take_add_one, List.getElem?_eq_getElem hi]; rfl
  refine Wp_step rfl (Wp_step (r_mulL (by decide)) (Wp_step (r_div (lit3 hi4)) (Wp_step (r_mod (by decide)) (Wp_step r_eqI (Wp_step rfl (Wp_pure ?_))))))
  cases z / (3 * ((i : Int) + 1)) % 2 == 0 with
  | false => exact ⟨rfl, ⟨_, rfl⟩, us, rfl, hu.trans (by rw [htk]; exact List.sublist_append_left _ _)⟩
  | true =>
   rw [if_pos rfl, L_value_c1_elt]
   refine Wp_step (r_item hl (Int.natCast_nonneg _) (x := .str ls[i]) ?_) (Wp_pure ⟨rfl, ⟨_, rfl⟩, us ++ [ls[i]], by rw [List.map_append]; rfl, by rw [htk]; exact hu.append (.refl _)⟩)
   rw [Int.toNat_natCast, List.getElem?_map, List.getElem?_eq_getElem hi]; rfl
 ·obtain ⟨rfl, _, us, rfl, hu⟩ := hp
  exact k us (hu.trans (List.take_sublist _ _))
theorem sortS_perm' (l : List Str) : (sortS l).Perm l := by
 have e := sortP_keys (l.map fun s => (s, V.none))
 rw [List.map_map, show ((fun p : Str × V => p.1) ∘ fun s => (s, V.none)) = id from rfl, List.map_id] at e
 rw [← e]
 have := (sortP_perm' (l := l.map fun s => (s, V.none))).map (·.1)
 rw [List.map_map, show ((fun p : Str × V => p.1) ∘ fun s => (s, V.none)) = id from rfl, List.map_id] at this
 exact this
structure VfP (us : List Str) (d ns nl : Nat) (left : Int) (σ : Store) (i : Nat) (acc : List V) (loc : Loc) (τ : Store) : Prop where
 grew : Grew ns σ τ
 loc : ∃ o, loc = [none, o, none, some (.ref nl), some (.int left), some (.ref ns)]
 row : ∃ l : List (Str × V), acc = l.map pairV ∧ l.map (·.1) = us.take i ∧ ∀ p ∈ l, Val d p.2
theorem value_ok (L : Labs ls) : ∀ (left e : Nat), left + 2 ≤ e → ∀ σ, Gv ls ns nl σ → Wp (cl06 e "_law_value" [.ref ns, .ref nl, .int left]) σ (ValQ left ns σ) := by
 have h24 : (16777216 : Nat) = sizeLine := rfl
 intro left
 induction left with
 | zero =>
  intro e he σ g
  obtain ⟨e, rfl⟩ : ∃ f, e = f + 2 := ⟨e - 2, by (first | lia | omega)⟩
  rw [L_value_sh]
  refine g.next.step fun r σ₁ hr => ?_
  obtain ⟨g1, z, rfl, hz⟩ := hr
  refine Wp.step (P := fun b τ => b = true ∧ τ = σ₁) (Wp_step rfl (Wp_step (a := decide (((0 : Nat) : Int) ≤ 1)) rfl (Wp_yes (by decide) (Wp_pure ⟨rfl, rfl⟩)))) fun b τ hb => ?_
  obtain ⟨rfl, rfl⟩ := hb
  exact Wp_yes rfl (val_int g1)
 | succ left ih =>
  intro e he σ g
  obtain ⟨e, rfl⟩ : ∃ f, e = f + 2 := ⟨e - 2, by (first | lia | omega)⟩
  rw [L_value_sh]
  refine g.next.step fun r σ₁ hr => ?_
  obtain ⟨g1, z, rfl, hz⟩ := hr
  refine Wp.step (P := fun b τ => τ = σ₁) (Wp_step rfl (Wp_step (a := decide (((left + 1 : Nat) : Int) ≤ 1)) rfl ?_)) fun b τ hτ => ?_
  ·cases decide (((left + 1 : Nat) : Int) ≤ 1) with
   | true => exact Wp_yes rfl (Wp_pure rfl)
   | false =>
    refine Wp_no rfl (Wp_step (r_mod (by decide)) (Wp_step r_eqI (Wp_step (a := z % 3 == 0) rfl ?_)))
    cases z % 3 == 0 with
    | true => exact Wp_yes rfl (Wp_pure rfl)
    | false => exact Wp_no rfl (Wp_pure rfl)
  ·subst hτ
   cases b with
   | true => exact Wp_yes rfl (val_int g1)
   | false =>
    refine Wp_no rfl ?_
    unfold L_value_t1
    have G1 := g.go g1
    refine Wp_step (r_range (by decide)) (pick_comp G1.lb L.four fun us hus => ?_)
    have hlen : us.length ≤ 4 := by rw [← L.four]; exact hus.length_le
    refine Wp_step (r_sorted get_new (by rw [List.length_map]; (first | lia | omega)) (sort_strs us)) (Wp_step (r_src get_new) ?_)
    have hp := sortS_perm' us
    have hnd : (sortS us).Nodup := hp.nodup_iff.mpr (hus.nodup L.nodup)
    have hsl : (sortS us).length ≤ 4 := by rw [hp.length_eq]; exact hlen
    have e1 : (τ ++ [O.list (us.map V.str)] ++ [O.list ((sortS us).map V.str)])[(τ ++ [O.list (us.map V.str)]).length]? = some (.list ((sortS us).map V.str)) := get_new
    have hle : Le τ (τ ++ [O.list (us.map V.str)] ++ [O.list ((sortS us).map V.str)]) := LeEx.push.new
    have hq : τ.length ≤ (τ ++ [O.list (us.map V.str)]).length := by rw [List.length_append]; exact Nat.le_add_right _ _
    generalize (τ ++ [O.list (us.map V.str)]).length = q at e1 hq
    generalize τ ++ [O.list (us.map V.str)] ++ [O.list ((sortS us).map V.str)] = τ₀ at e1 hle
    have g2 := g1.grow hle
    have hqn : q ≠ ns := fun e => by obtain ⟨_, _, e2⟩ := g1.st; have := lt_of_get e2; (first | lia | omega)
    generalize sortS us = ws at e1 hnd hsl
    refine Wp_comp (J := fun τ => τ[q]? = some (.list (ws.map V.str))) (calm _) (walks_lst fun τ h => h) L_value_c2_ok (L_value_c2_in ..) (by rw [List.length_map]; lia) (VfP ws left ns nl ((left + 1 : Nat) : Int) τ₀) (fun ya yb yc τ' h => h.grew.le _ _ (fun hm => hqn (List.mem_singleton.mp hm)) e1) ⟨⟨.refl, g2.st⟩, ⟨_, rfl⟩, [], rfl, rfl, fun ya h => nomatch h⟩ (fun i v acc loc τ' hv hP => ?_) fun out loc τ' hP => ?_
    ·obtain ⟨gr, ⟨o, rfl⟩, l, rfl, hl, hval⟩ := hP
     rw [List.getElem?_map] at hv
     obtain ⟨s, hs, rfl⟩ := Option.map_eq_some_iff.mp hv
     rw [L_value_c2_bind]
     refine Wp_pure ?_
     rw [L_value_c2_tst]
     refine Wp_pure ?_
     rw [if_pos rfl, L_value_c2_elt]
     refine Wp_step (a := .int left) (by show Res.ok (V.int (((left + 1 : Nat) : Int) - 1)) τ' = _; rw [left_one]) ((ih (e + 1) (by (first | lia | omega)) τ' (g.go (g2.trans gr))).step fun r τ₂ hr => ?_)
     obtain ⟨g3, hr⟩ := hr
     refine Wp_pure ⟨gr.trans g3, ⟨_, rfl⟩, l ++ [(s, r)], by rw [List.map_append]; rfl, by rw [List.map_append, hl, List.take_add_one, hs]; rfl, fun p hp => ?_⟩
     rcases List.mem_append.mp hp with hp | hp
     ·exact hval p hp
     ·rw [List.mem_singleton.mp hp]; exact hr
    ·obtain ⟨gr, _, l, rfl, hl, hval⟩ := hP
     rw [List.length_map, List.take_length] at hl
     refine Wp_step (r_tuple get_new) (Wp_pure (.mk ((g2.trans gr).grow .push) (.rcd (by rw [hl]; exact hnd) ?_ hval)))
     have := congrArg List.length hl
     rw [List.length_map] at this
     (first | lia | omega)
end
end Mine.Internal

set_option backward.match.sparseCases false
namespace Mine.Internal
open PySem PyProof.Rows
section
variable {e m n d : Nat} {σ σ' τ : Store} {v : V} {l : List V}
theorem nat_eq {a : Nat} : (((a : Nat) : Int) == (a : Int)) = true := beq_self_eq_true _
theorem bools_true (n : Nat) : allBools (List.replicate n (V.bool true)) = some (List.replicate n true) := by
 induction n with
 | zero => rfl
 | succ n ih => show (allBools (List.replicate n (V.bool true))).map _ = _; rw [ih]; rfl
theorem alike_ok (h : Pl n v) : ∀ (e : Nat) (σ : Store), n + 1 ≤ e → Wp (cl06 e "_law_alike" [v, v]) σ fun r τ => Le σ τ ∧ r = .bool true := by
 have h24 : (16777216 : Nat) = sizeLine := rfl
 induction h with
 | int i =>
  intro e σ he
  obtain ⟨e, rfl⟩ := up1 (d := e) (Nat.lt_of_lt_of_le (Nat.succ_pos _) he)
  rw [L_alike_sh]
  refine Wp_step rfl (Wp_step rfl (Wp_no rfl (Wp_step rfl (Wp_step rfl (Wp_no rfl (Wp_step rfl (Wp_step rfl (Wp_yes rfl (Wp_step rfl (Wp_step rfl (Wp_step rfl (Wp_yes rfl (Wp_step r_eqI (Wp_pure ⟨.refl, ?_⟩))))))))))))))
  rw [beq_self_eq_true]
 | str s =>
  intro e σ he
  obtain ⟨e, rfl⟩ := up1 (d := e) (Nat.lt_of_lt_of_le (Nat.succ_pos _) he)
  rw [L_alike_sh]
  refine Wp_step rfl (Wp_step rfl (Wp_no rfl (Wp_step rfl (Wp_step rfl (Wp_yes rfl (Wp_step rfl (Wp_step rfl (Wp_yes rfl (Wp_step r_eqS (Wp_pure ⟨.refl, ?_⟩))))))))))
  rw [beq_self_eq_true]
 | @tup n l hl _ ih =>
  intro e σ he
  obtain ⟨e, rfl⟩ := up1 (d := e) (Nat.lt_of_lt_of_le (Nat.succ_pos _) he)
  have he : n + 1 ≤ e := Nat.le_of_succ_le_succ he
  rw [L_alike_sh]
  refine Wp_step rfl (Wp_step rfl (Wp_yes rfl (Wp.step (P := fun b τ => b = false ∧ τ = σ) (Wp_step rfl (Wp_step rfl (Wp_no rfl (Wp_step rfl (Wp_step rfl (Wp_step r_neI (Wp_step rfl (Wp_no ?_ (Wp_pure ⟨rfl, rfl⟩))))))))) fun b τ hb => ?_)))
  ·rw [nat_eq]; rfl
  ·obtain ⟨rfl, rfl⟩ := hb
   refine Wp_no rfl ?_
   unfold L_alike_t3
   refine Wp_step rfl (Wp_step (r_range ⟨by lia, by lia⟩) (Wp_comp (J := fun ya => True) (calm e) walks_vals L_alike_c1_ok (L_alike_c1_in ..) (by rw [range_len]; lia) (fun i acc loc τ' => Le τ τ' ∧ (∃ o, loc = [none, o, none, some (.tup l), some (.tup l)]) ∧ acc = List.replicate i (.bool true)) (fun ya yb yc yd ye => trivial) ⟨.refl, ⟨_, rfl⟩, rfl⟩ (fun i x acc loc τ' hx hp => ?_) fun out loc τ' hp => ?_))
   ·obtain ⟨hle, ⟨o, rfl⟩, rfl⟩ := hp
    obtain ⟨rfl, hi⟩ := range_val hx
    have hi : i < l.length := Int.ofNat_lt.mp hi
    rw [L_alike_c1_bind]
    refine Wp_pure ?_
    rw [L_alike_c1_tst]
    refine Wp_pure ?_
    rw [if_pos rfl, L_alike_c1_elt]
    have hx : l[((i : Nat) : Int).toNat]? = some l[i] := by rw [Int.toNat_natCast]; exact List.getElem?_eq_getElem hi
    refine Wp_step (r_itemT (Int.natCast_nonneg _) hx) (Wp_step (r_itemT (Int.natCast_nonneg _) hx) ((ih l[i] (List.getElem_mem hi) e τ' he).step fun r τ₂ hr => ?_))
    obtain ⟨hl2, rfl⟩ := hr
    exact Wp_pure ⟨hle.trans hl2, ⟨_, rfl⟩, (List.replicate_succ' ..).symm⟩
   ·obtain ⟨hle, _, rfl⟩ := hp
    refine Wp_step (r_all get_new (bools_true _)) (Wp_pure ⟨hle.new, ?_⟩)
    simp
noncomputable def upB (c t : Str) : Bool := ((upsT us06 c).getD []).contains t
inductive Known : Str → Prop
 | num : Known cNum
 | rcd : Known cRec
 | lacks : Known cLacks
 | dfn : Known cDef
theorem known_up {c : Str} (h : Known c) : ∃ us, upsT us06 c = some us := by
 cases h with
 | num => exact ⟨_, (by kernel_rfl : upsT us06 cNum = some [Str.ofString "NoNumber", Str.ofString "FieldError", Str.ofString "ValueError"])⟩
 | rcd => exact ⟨_, (by kernel_rfl : upsT us06 cRec = some [Str.ofString "NoRecord", Str.ofString "FieldError", Str.ofString "ValueError"])⟩
 | lacks => exact ⟨_, (by kernel_rfl : upsT us06 cLacks = some [Str.ofString "Lacks", Str.ofString "FieldError", Str.ofString "ValueError"])⟩
 | dfn => exact ⟨_, (by kernel_rfl : upsT us06 cDef = some [Str.ofString "NoDefinition", Str.ofString "FieldError", Str.ofString "ValueError"])⟩
theorem r_isUp {c t : Str} {r : Nat} (h : Known c) (e : σ[r]? = some (.exc c [])) : isUp (cf06 d) t (.ref r) σ = .ok (.bool (upB c t)) σ := by
 obtain ⟨us, hu⟩ := known_up h
 refine (bind_ok (r_getO e)).trans ?_
 show ofOpt ((upsT us06 c).map fun us => V.bool (us.contains t)) σ = _
 unfold upB
 rw [hu]; rfl
noncomputable def one (c t : Str) : Int := cond (upB c t) 1 0
noncomputable def loneB (c : Str) : Bool := one c (Str.ofString "BadFill") + one c (Str.ofString "BadKind") + one c (Str.ofString "Lacks") + one c (Str.ofString "NoDefinition") + one c (Str.ofString "NoNumber") + one c (Str.ofString "NoRecord") + one c (Str.ofString "TooGreat") == 1
theorem known_facts {c : Str} (h : Known c) : (upB c (Str.ofString "FieldError") && (upB c (Str.ofString "ValueError") && loneB c)) = true := by
 cases h <;> decide +kernel
theorem lone_ok {c : Str} {r : Nat} (h : Known c) (e : σ[r]? = some (.exc c [])) : Wp (cq06 (d + 1) "_law_lone" [.ref r]) σ (fun x τ => τ = σ ∧ x = .bool true) := by
 have hk := known_facts h
 rw [Bool.and_eq_true, Bool.and_eq_true] at hk
 obtain ⟨_, h2, h3⟩ := hk
 rw [L_lone_sh]
 refine Wp_step (r_isUp h e) (Wp_step rfl (Wp_step (r_isUp h e) (Wp_step rfl (Wp_step rfl (Wp_step (r_isUp h e) (Wp_step rfl (Wp_step rfl (Wp_step (r_isUp h e) (Wp_step rfl (Wp_step rfl (Wp_step (r_isUp h e) (Wp_step rfl (Wp_step rfl (Wp_step (r_isUp h e) (Wp_step rfl (Wp_step rfl (Wp_step (r_isUp h e) (Wp_step rfl (Wp_yes h2 (Wp_step (r_isUp h e) (Wp_step rfl (Wp_step rfl (Wp_step rfl (Wp_pure ⟨rfl, ?_⟩))))))))))))))))))))))))
 exact congrArg V.bool h3
variable {a b c : V}
theorem handle_ok {c : Str} {r : Nat} (h : Known c) (e : σ[r]? = some (.exc c [])) : ∃ loc σ', L_tried_h (d + 1) a b v (.ref r) σ = .ok (.ret (told (.inr c)), loc) σ' ∧ Le σ σ' := by
 have hw : Wp (L_tried_h (d + 1) a b v (.ref r)) σ (fun x σ' => (∃ loc, x = (.ret (told (.inr c)), loc)) ∧ Le σ σ') := by
  unfold L_tried_h
  refine (lone_ok h e).step fun x τ hx => ?_
  obtain ⟨rfl, rfl⟩ := hx
  refine Wp_step rfl (Wp_no rfl ?_)
  unfold L_tried_t1
  refine Wp_step (r_isUp h e) (Wp_step rfl ?_)
  have last : ∀ (u : Bool), upB c cRec = u → told (.inr c) = .tup [.str sNo, cond u (.str cRec) (.str cDef)] → Wp (L_tried_t3 (d + 1) a b v (.ref r)) τ (fun x σ' => (∃ loc, x = (.ret (told (.inr c)), loc)) ∧ Le τ σ') := fun u hu ht => by
   unfold L_tried_t3
   refine Wp_step rfl (Wp_step ((r_isUp h (push_at e)).trans (by rw [hu])) (Wp_step rfl ?_))
   rw [ht]
   cases u with
   | true => exact Wp_step (r_item get_new (i := 1) (by decide) rfl) (Wp_pure ⟨⟨_, rfl⟩, .push⟩)
   | false => exact Wp_step (r_item get_new (i := 0) (by decide) rfl) (Wp_pure ⟨⟨_, rfl⟩, .push⟩)
  cases h with
  | lacks => exact Wp_yes (by decide +kernel) (Wp_pure ⟨⟨_, rfl⟩, .refl⟩)
  | num => exact Wp_no (by decide +kernel) (Wp_step (r_isUp .num e) (Wp_step rfl (Wp_yes (by decide +kernel) (Wp_pure ⟨⟨_, rfl⟩, .refl⟩))))
  | rcd => exact Wp_no (by decide +kernel) (Wp_step (r_isUp .rcd e) (Wp_step rfl (Wp_no (by decide +kernel) (last true (by decide +kernel) rfl))))
  | dfn => exact Wp_no (by decide +kernel) (Wp_step (r_isUp .dfn e) (Wp_step rfl (Wp_no (by decide +kernel) (last false (by decide +kernel) rfl))))
 obtain ⟨x, σ', e1, ⟨loc, rfl⟩, hb⟩ := hw
 exact ⟨loc, σ', e1, hb⟩
theorem tried_ok {q : R} (h : Ends (cl06 (d + 1) "run" [a, b, v]) σ q) (hq : ∀ c, q = .inr c → Known c) : Tells (cl06 (d + 2) "_law_tried" [a, b, v]) σ q := by
 cases h with
 | ok e hle =>
  refine ⟨_, _, ?_, hle, rfl⟩
  rw [L_tried_sh, tryd_eq, bind_ok e]; rfl
 | @no c r τ h1 er hle =>
  have hk := hq c rfl
  obtain ⟨loc, σ', e1, hl⟩ := handle_ok (a := a) (b := b) (v := v) (d := d) hk er
  refine ⟨told (.inr c), σ', ?_, hle.trans hl, rfl⟩
  rw [L_tried_sh, tryd_eq, bind_exc h1]
  show ((excIs (cf06 (d + 1)) (Str.ofString "FieldError") (.ref r) >>= fun b' => if b' = true then (M.safe (L_tried_h (d + 1) a b v (.ref r)) >>= fun r => (pure (r.1, dropLoc r.2) : M (Fl × Loc))) else M.bad) >>= fun x => andThen x (exs (cf06 (d + 1)) [] L_tried_F.names) >>= retK) τ = _
  obtain ⟨us, hu⟩ := known_up hk
  have hf := known_facts hk
  rw [Bool.and_eq_true] at hf
  have hx : excIs (cf06 (d + 1)) (Str.ofString "FieldError") (.ref r) τ = .ok true τ := by
   refine (bind_ok (r_getO er)).trans ?_
   show ofOpt ((upsT us06 c).map fun us => us.contains (Str.ofString "FieldError")) τ = _
   have := hf.1
   unfold upB at this
   rw [hu] at this ⊢
   show Res.ok (us.contains _) τ = _
   rw [show us.contains (Str.ofString "FieldError") = true from this]
  have hs : M.safe (L_tried_h (d + 1) a b v (.ref r)) τ = .ok (.ret (told (.inr c)), loc) σ' := by rw [safe_eq, e1]
  rw [M.assoc, bind_ok hx, if_pos rfl, M.assoc, bind_ok hs]
  rfl
end
end Mine.Internal

set_option backward.match.sparseCases false
namespace Mine.Internal
open PySem PyProof.Rows
section
variable {prog : List Dfn} {e m n d dc K : Nat} {σ σ' τ : Store} {v : V} {vs : List V} {np nv : Nat} {r : R} {p : Dfn} {k : Int}
theorem nm_init : methName "Runner" "__init__" = "Runner.__init__" := by decide +kernel
theorem two_at {a b : O} : (σ ++ [a, b])[σ.length]? = some a ∧ (σ ++ [a, b])[σ.length + 1]? = some b := by
 constructor
 ·rw [List.getElem?_append_right (Nat.le_refl _), Nat.sub_self]; rfl
 ·rw [List.getElem?_append_right (Nat.le_succ _), show σ.length + 1 - σ.length = 1 from Nat.add_sub_cancel_left ..]; rfl
theorem le_two {a b : O} : Le σ (σ ++ [a, b]) := fun n o ya e => by rw [List.getElem?_append_left (lt_of_get e)]; exact e
theorem r_put {c nm : Str} {k j : Nat} (e1 : σ[k]? = some (.inst c j)) (e2 : σ[j]? = some (.flds [])) (hj : 0 < j) : putF k nm v σ = .ok () (σ.set j (.flds [(nm, v)])) := by
 show (match σ[k]? with
 | some (.inst _ j) => (match σ[j]? with
  | some (.flds l) => if 0 < j ∧ l.length + 1 ≤ sizeLine then Res.ok () (σ.set j (.flds ((nm, v) :: l))) else .bad
  | _ => .bad)
 | _ => .bad) = _
 rw [e1]
 dsimp only
 rw [e2]
 dsimp only
 rw [if_pos ⟨hj, by show 0 + 1 ≤ sizeLine; decide⟩]
theorem r_mk (h0 : 0 < σ.length) : mkI (cf06 (e + 1)) "Runner" [v] σ = .ok (.ref (σ.length + 1)) (σ ++ [.flds [("program", v)], .inst "Runner" σ.length]) := by
 show (cl06 (e + 1) (methName "Runner" "__init__") [.ref (σ.length + 1), v] >>= fun r => ifNone r (Pure.pure (V.ref (σ.length + 1)))) (σ ++ [.flds [], .inst "Runner" σ.length]) = _
 obtain ⟨e1, e2⟩ := two_at (σ := σ) (a := .flds []) (b := .inst "Runner" σ.length)
 have hset : (σ ++ [O.flds [], O.inst "Runner" σ.length]).set σ.length (.flds [("program", v)]) = σ ++ [.flds [("program", v)], .inst "Runner" σ.length] := by
  rw [List.set_append_right _ _ (Nat.le_refl _), Nat.sub_self]; rfl
 rw [nm_init, P_Runner_init_sh]
 have ha : askS (fun σ' => (instAt σ' (σ.length + 1)).bind fun c => ((cf06 e).cls c).bind fun ms => if ms.2.contains "program" then some () else none) (σ ++ [.flds [], .inst "Runner" σ.length]) = .ok () (σ ++ [.flds [], .inst "Runner" σ.length]) := by
  have hi : instAt (σ ++ [.flds [], .inst "Runner" σ.length]) (σ.length + 1) = some (Str.ofString "Runner") := by unfold instAt; rw [e2]
  rw [askS_eq, hi]
  dsimp only [Option.bind]
  rw [cls06]
  dsimp only
  rw [if_pos (by kernel_rfl)]
 refine (bind_ok (a := V.none) (σ' := σ ++ [.flds [("program", v)], .inst "Runner" σ.length]) ?_).trans rfl
 refine bind_ok (a := ()) (σ' := σ ++ [.flds [("program", v)], .inst "Runner" σ.length]) ?_
 refine (bind_ok ha).trans ?_
 rw [r_put e2 e1 h0, hset]
theorem run_test {b1 b2 : Bool} (hp : σ[np]? = some (.list (prog.map dfnV))) (hv : σ[nv]? = some (.list vs)) (h1 : (decide (0 ≤ k) && decide (k < prog.length)) = b1) (h2 : b1 = true → ∃ p, prog[k.toNat]? = some p ∧ (!((vs.length : Int) == (p.2.1 : Int))) = b2) :
  (((cmp .LtE (V.int 0) (.int k) >>= fun t19 => boolK t19 (bLen (.ref np) >>= fun t20 => (cmp .Lt (.int k) t20 >>= fun t21 => (pure t21 : M V))) (pure (V.bool false) : M V)) >>= fun t18 => (truth t18 >>= fun b22 => (M.cond (!b22) (pure true : M Bool) (bLen (.ref nv) >>= fun t23 => (item (.ref np) (.int k) >>= fun t24 => (item t24 (V.int 1) >>= fun t25 => (cmp .NotEq t23 t25 >>= fun t26 => (truth t26 >>= fun b27 => (M.cond b27 (pure true : M Bool) (pure false : M Bool)))))))))) : M Bool) σ = .ok (!b1 || b2) σ := by
 have hb : (cmp .LtE (V.int 0) (.int k) >>= fun t19 => boolK t19 (bLen (.ref np) >>= fun t20 => (cmp .Lt (.int k) t20 >>= fun t21 => (pure t21 : M V))) (pure (V.bool false) : M V)) σ = .ok (.bool b1) σ := by
  show (boolK (V.bool (decide (0 ≤ k))) (bLen (.ref np) >>= fun t20 => (cmp .Lt (.int k) t20 >>= fun t21 => (pure t21 : M V))) (pure (V.bool false) : M V)) σ = _
  cases hk : decide (0 ≤ k) with
  | false => rw [hk] at h1; rw [← h1]; rfl
  | true =>
   rw [hk] at h1
   show (bLen (.ref np) >>= fun t20 => (cmp .Lt (.int k) t20 >>= fun t21 => (pure t21 : M V))) σ = _
   rw [bind_ok (r_len hp), List.length_map, ← h1]; rfl
 refine (bind_ok hb).trans ?_
 show (M.cond (!b1) _ _) σ = _
 cases b1 with
 | false => rfl
 | true =>
  obtain ⟨p, hp', h2⟩ := h2 rfl
  rw [Bool.and_eq_true] at h1
  have hx : (prog.map dfnV)[k.toNat]? = some (dfnV p) := by rw [List.getElem?_map, hp']; rfl
  refine (bind_ok (r_len hv)).trans ((bind_ok (r_item hp (of_decide_eq_true h1.1) hx)).trans ((bind_ok r_item1).trans ((bind_ok r_neI).trans ?_)))
  show (M.cond (!((vs.length : Int) == (p.2.1 : Int))) (pure true : M Bool) (pure false)) σ = _
  rw [h2]
  cases b2 <;> rfl
theorem run_ok {i : Nat} (P : Prg prog K) (hi : prog[i]? = some p) (hl : vs.length = p.2.1) (hp : σ[np]? = some (.list (prog.map dfnV))) (hv : σ[nv]? = some (.list vs)) (h : Sp prog dc vs p.2.2 r) (he : 3 * dc + 5 ≤ e) : Ends (cl06 e "run" [.ref np, .int i, .ref nv]) σ r := by
 obtain ⟨e, rfl⟩ : ∃ f, e = f + 2 := ⟨e - 2, by (first | lia | omega)⟩
 rw [P_run_sh]
 have hx : (prog.map dfnV)[((i : Nat) : Int).toNat]? = some (dfnV p) := by rw [Int.toNat_natCast, List.getElem?_map, hi]; rfl
 refine Ends_step (a := false) (run_test (b1 := true) (b2 := false) hp hv ?_ fun ya => ⟨p, by rw [Int.toNat_natCast]; exact hi, by rw [hl, nat_eq]; rfl⟩) (Ends_no rfl ?_)
 ·rw [Bool.and_eq_true]
  exact ⟨decide_eq_true (Int.natCast_nonneg _), decide_eq_true (Int.ofNat_lt.mpr (lt_of_get hi))⟩
 ·unfold P_run_t1
  have h0 : 0 < σ.length := Nat.lt_of_le_of_lt (Nat.zero_le _) (lt_of_get hp)
  refine Ends_le (r_mk h0) le_two ?_
  obtain ⟨e1, e2⟩ := two_at (σ := σ) (a := .flds [("program", .ref np)]) (b := .inst "Runner" σ.length)
  have hR : Rn prog (σ ++ [.flds [("program", .ref np)], .inst "Runner" σ.length]) (σ.length + 1) := ⟨_, np, e2, e1, le_two.at hp⟩
  refine Ends_step (hR.tag (by decide +kernel)) (Ends_step (r_item (le_two.at hp) (Int.natCast_nonneg _) hx) (Ends_step r_item0 (Ends_le (r_list (le_two.at hv)) .push ?_)))
  refine Ends.last (m := runM (cf06 (e + 1)) "called" (.own "Runner") (.ref (σ.length + 1)) [.str p.1, _]) ?_
  rw [run_called]
  exact called_ok (P.find hi) h (by (first | lia | omega)) get_new (hR.le .push)
theorem run_out (hp : σ[np]? = some (.list (prog.map dfnV))) (hv : σ[nv]? = some (.list vs)) (hk : (decide (0 ≤ k) && decide (k < prog.length)) = false) : Ends (cl06 (e + 1) "run" [.ref np, .int k, .ref nv]) σ (.inr cDef) := by
 rw [P_run_sh]
 exact Ends_step (a := true) (run_test (b1 := false) (b2 := false) hp hv hk fun h => nomatch h) (Ends_yes rfl Ends_throw)
theorem run_many {i : Nat} (hi : prog[i]? = some p) (hl : vs.length ≠ p.2.1) (hp : σ[np]? = some (.list (prog.map dfnV))) (hv : σ[nv]? = some (.list vs)) : Ends (cl06 (e + 1) "run" [.ref np, .int i, .ref nv]) σ (.inr cDef) := by
 rw [P_run_sh]
 refine Ends_step (a := true) (run_test (b1 := true) (b2 := true) hp hv ?_ fun ya => ⟨p, by rw [Int.toNat_natCast]; exact hi, ?_⟩) (Ends_yes rfl Ends_throw)
 ·rw [Bool.and_eq_true]
  exact ⟨decide_eq_true (Int.natCast_nonneg _), decide_eq_true (Int.ofNat_lt.mpr (lt_of_get hi))⟩
 ·rw [show ((vs.length : Int) == (p.2.1 : Int)) = false from beq_false_of_ne fun e => hl (Int.ofNat_inj.mp e)]; rfl
end
end Mine.Internal

set_option backward.match.sparseCases false
namespace Mine.Internal
open PySem PyProof.Rows
section
variable {prog : List Dfn} {e m n d dc K : Nat} {σ σ' τ : Store} {v : V} {vs : List V} {np nv kd : Nat} {r : R} {p : Dfn} {k : Int} {zs : List Int} {ls : List Str} {nl ns : Nat}
inductive InsQ (m ns : Nat) (σ : Store) : List V → Store → Prop
 | mk {vs : List V} {τ : Store} : Grew ns σ τ → vs.length = m → (∀ v ∈ vs, Val 5 v) → InsQ m ns σ vs τ
structure InsP (ns nl : Nat) (σ : Store) (i : Nat) (acc : List V) (loc : Loc) (τ : Store) : Prop where
 grew : Grew ns σ τ
 loc : ∃ o, loc = [none, o, none, none, some (.ref nl), some (.ref 0), some (.ref ns)]
 len : acc.length = i
 val : ∀ v ∈ acc, Val 5 v
theorem ins_comp {α : Type} {f : V → M α} {Q : α → Store → Prop} {v1 v2 : V} (hs : Scr σ zs) (hns : ns ≠ 0) (g : Gv ls ns nl σ) (L : Labs ls) (hm : m ≤ 4) (he : 8 ≤ e) (k : ∀ vs τ, InsQ m ns σ vs τ → Wp (f (.ref τ.length)) (τ ++ [.list vs]) Q) :
  Wp (compAll (cf06 e) (cElt L_law_c1) (cTgt L_law_c1) (cIfs L_law_c1) (cScope L_law_c1) (.vals (rangeV 0 m)) L_law_F.names [some (.ref 0), some (.ref nl), some v1, some v2, some (.ref ns), none, none, none, none, none, none, none, none, none, none, none, none, none, none, none] >>= f) σ Q := by
 have h24 : (16777216 : Nat) = sizeLine := rfl
 obtain ⟨e, rfl⟩ : ∃ f, e = f + 1 := ⟨e - 1, by (first | lia | omega)⟩
 refine Wp_comp (J := fun ya => True) (calm _) walks_vals L_law_c1_ok (L_law_c1_in ..) (by rw [range_len]; lia) (InsP ns nl σ) (fun ya yb yc yd ye => trivial) ⟨⟨.refl, g.st⟩, ⟨_, rfl⟩, rfl, fun ya h => nomatch h⟩ (fun i x acc loc τ hx hp => ?_) fun out loc τ hp => ?_
 ·obtain ⟨gr, ⟨o, rfl⟩, hlen, hval⟩ := hp
  rw [L_law_c1_bind]
  refine Wp_pure ?_
  rw [L_law_c1_tst]
  refine Wp_pure ?_
  rw [if_pos rfl, L_law_c1_elt]
  have hs' : Scr τ zs := gr.le _ _ (fun hm => hns (List.mem_singleton.mp hm).symm) hs
  refine cell_step hs' (by decide) fun c ya => mod_step (by decide) fun y h0 h1 => Wp_step rfl ?_
  obtain ⟨j, rfl⟩ := Int.eq_ofNat_of_zero_le h0
  have hj : j < 5 := Int.ofNat_lt.mp h1
  have hv := value_ok (ns := ns) (nl := nl) L (1 + j) (e + 1) (by (first | lia | omega)) τ (g.go gr)
  rw [Int.natCast_add] at hv
  refine hv.step fun r τ' hr => ?_
  obtain ⟨g', hr⟩ := hr
  refine Wp_pure ⟨gr.trans g', ⟨_, rfl⟩, by rw [List.length_append, hlen]; rfl, fun v hv => ?_⟩
  rcases List.mem_append.mp hv with hv | hv
  ·exact hval v hv
  ·rw [List.mem_singleton.mp hv]; exact hr.mono (by (first | lia | omega))
 ·obtain ⟨gr, _, hlen, hval⟩ := hp
  rw [range_len, Int.toNat_natCast] at hlen
  exact k out τ (.mk gr hlen hval)
noncomputable def tabV (l : List Dfn) : Tab := l.map fun p => ((.inr p.1 : Key), p.2.2)
theorem tabV_find {nm : Str} : ∀ l : List Dfn, dGet (tabV l) (.inr nm) = (l.find? fun q => q.1 == nm).map (·.2.2)
 | [] => rfl
 | p :: l => by
  have ih := tabV_find (nm := nm) l
  unfold dGet tabV at ih ⊢
  rw [List.map_cons, List.find?_cons, List.find?_cons]
  by_cases h : p.1 = nm
  ·rw [show decide (((.inr p.1 : Key), p.2.2).1 = .inr nm) = true from decide_eq_true (congrArg Sum.inr h), show (p.1 == nm) = true from beq_iff_eq.mpr h]; rfl
  ·rw [show decide (((.inr p.1 : Key), p.2.2).1 = .inr nm) = false from decide_eq_false fun e => h (Sum.inr.inj e), show (p.1 == nm) = false from beq_false_of_ne h]
   exact ih
structure KnwP (prog : List Dfn) (kd np : Nat) (v1 v2 v3 v4 : V) (σ : Store) (i : Nat) (loc : Loc) (τ : Store) : Prop where
 le : Le σ τ
 loc : ∃ o, loc = [some (.ref 0), some v1, some (.ref np), some v2, some v3, some v4, some (.ref kd), o, none, none, none, none, none, none, none, none, none, none, none, none]
 row : ∃ dv, τ[kd]? = some (.dict dv (tabV (prog.take i)))
theorem known_loop {α : Type} {f : Loc → M α} {R' : Fl × Loc → M α} {Q : α → Store → Prop} {v1 v2 v3 v4 : V} (P : Prg prog K) (hl : prog.length ≤ 3) (hk : kd = σ.length) (h0 : 0 < σ.length) (hp : σ[np]? = some (.list (prog.map dfnV)))
  (k : ∀ τ o, Le σ τ → Lw prog τ kd → Wp (f [some (.ref 0), some v1, some (.ref np), some v2, some v3, some v4, some (.ref kd), o, none, none, none, none, none, none, none, none, none, none, none, none]) τ Q) :
  Wp (forAll (cf06 e) (sTgt L_law_l1) (sBody L_law_l1) (.lst np) L_law_F.names [some (.ref 0), some v1, some (.ref np), some v2, some v3, some v4, some (.ref kd), none, none, none, none, none, none, none, none, none, none, none, none, none] >>= flK R' f) (σ ++ [.dict 0 []]) Q := by
 have h24 : (16777216 : Nat) = sizeLine := rfl
 subst hk
 refine Wp_for (J := fun τ => Le σ τ) (calm e) (walks_lst fun τ h => h.at hp) (KnwP prog σ.length np v1 v2 v3 v4 σ) (fun ya yb yc h => h.le) ⟨.push, ⟨_, rfl⟩, 0, get_new⟩ (fun i x loc τ hx hP => ?_) fun loc τ hP => ?_
 ·obtain ⟨hle, ⟨o, rfl⟩, dv, hd⟩ := hP
  rw [List.getElem?_map] at hx
  obtain ⟨p, hp', rfl⟩ := Option.map_eq_some_iff.mp hx
  have hi : i < prog.length := lt_of_get hp'
  rw [L_law_l1_step]
  refine Wp_step r_item2 (Wp_step r_item0 (Wp_step (r_setD hd h0 (key := .inr p.1) rfl (by unfold tabV; rw [List.length_map, List.length_take]; lia)) (Wp_pure ⟨hle.setNew (Nat.le_refl _), ⟨_, rfl⟩, dv + 1, ?_⟩)))
  rw [dSet_new fun hm => ?_]
  ·rw [show tabV (prog.take (i + 1)) = tabV (prog.take i) ++ [((.inr p.1 : Key), p.2.2)] by unfold tabV; rw [List.take_add_one, hp', List.map_append]; rfl]
   exact set_get hd
  ·obtain ⟨q, hq, e⟩ := List.mem_map.mp hm
   obtain ⟨q', hq', rfl⟩ := List.mem_map.mp hq
   obtain ⟨j, hj⟩ := List.getElem?_of_mem hq'
   rw [List.getElem?_take] at hj
   split at hj
   ·rename_i hl
    exact absurd (P.one hj hp' (Sum.inr.inj e)) (Nat.ne_of_lt hl)
   ·cases hj
 ·obtain ⟨hle, ⟨o, rfl⟩, dv, hd⟩ := hP
  rw [List.length_map, List.take_length] at hd
  exact k τ o hle ⟨dv, _, hd, fun nm p hf => by rw [tabV_find, hf]; rfl⟩
end
end Mine.Internal

set_option backward.match.sparseCases false
namespace Mine.Internal
open PySem PyProof.Rows
section
variable {prog : List Dfn} {e m n d K : Nat} {σ σ' τ : Store} {v : V} {vs : List V} {np nv kd i : Nat} {r : R} {p : Dfn} {k : Int} {zs : List Int} {v1 v2 v3 v4 v5 : V} {o1 o2 : Option V}
theorem veq_self (h : Pl n v) (hn : n ≤ 200) : veq σ v v = some true := by
 obtain ⟨dt, h1, h2, h3⟩ := h.data (toPyF σ 4)
 unfold veq
 rw [show toPy σ v = some dt from h1]
 dsimp only
 rw [if_pos (Nat.le_trans (Nat.min_le_left _ _) (Nat.le_trans h2 hn)), h3]
theorem dfn_pl (h : Good prog K m v) {s : Str} : Pl (3 * K + 2) (.tup [.str s, .int m, v]) := .tup (by show 3 ≤ 100; decide) (.cons (.str _) (.cons (.int _) (.cons h.pl .nil)))
theorem veq_two {a b a' b' x y : Nat} {l l' : List V} (hl : ∀ z ∈ l, Pl n z) (hl' : ∀ z ∈ l', Pl n z) (hn : n + 2 ≤ 200) (e1 : σ[a]? = some (.list l)) (e2 : σ[b]? = some (.list l')) (e1' : σ[a']? = some (.list l)) (e2' : σ[b']? = some (.list l')) (ex : σ[x]? = some (.list [.ref a, .ref b])) (ey : σ[y]? = some (.list [.ref a', .ref b'])) : veq σ (.ref x) (.ref y) = some true := by
 have one : ∀ {c : Nat} {l : List V}, (∀ z ∈ l, Pl n z) → σ[c]? = some (.list l) → ∀ {c' : Nat}, σ[c']? = some (.list l) → ∃ dt, toPyF σ 3 c = some dt ∧ toPyF σ 3 c' = some dt ∧ dt.depth ≤ n + 1 ∧ PyData.eqv dt dt = true := fun {c l} hl hc {c'} hc' => by
  obtain ⟨ds, h1, _, h3, h4⟩ := list_data (j := 2) hc fun z hz => (hl z hz).data _
  have h5 : toPyF σ 3 c' = toPyF σ 3 c := by
   show (match σ[c']? with | some (.list l) => (toPyTs (toPyF σ 2) l).map PyData.list | _ => none) = (match σ[c]? with | some (.list l) => (toPyTs (toPyF σ 2) l).map PyData.list | _ => none)
   rw [hc, hc']
  exact ⟨.list ds, h1, h5.trans h1, Nat.succ_le_succ h3, h4⟩
 obtain ⟨da, a1, a2, a3, a4⟩ := one hl e1 e1'
 obtain ⟨db, b1, b2, b3, b4⟩ := one hl' e2 e2'
 have hx : ∀ {x a b : Nat}, σ[x]? = some (.list [.ref a, .ref b]) → toPyF σ 3 a = some da → toPyF σ 3 b = some db → toPy σ (.ref x) = some (.list [da, db]) := fun {x a b} ex ha hb => by
  show (match σ[x]? with | some (.list l) => (toPyTs (toPyF σ 3) l).map PyData.list | _ => none) = _
  rw [ex]
  show (match toPyF σ 3 a, (match toPyF σ 3 b, some [] with | some d, some ds => some (d :: ds) | _, _ => none) with | some d, some ds => some (d :: ds) | _, _ => none).map PyData.list = _
  rw [ha, hb]; rfl
 unfold veq
 rw [hx ex a1 b1, hx ey a2 b2]
 dsimp only
 rw [if_pos (Nat.le_trans (Nat.min_le_left _ _) ?_)]
 ·show some (PyData.eqv da da && (PyData.eqv db db && true)) = _
  rw [a4, b4]; rfl
 ·show max da.depth (max db.depth 0) + 1 ≤ 200
  (first | lia | omega)
theorem told_pl (h : ROk n r) : Pl (2 * n + 1) (told r) := by
 cases h with
 | val h => exact .tup (by show 2 ≤ 100; decide) (.cons (.str _) (.cons h.pl .nil))
 | _ => exact .tup (by show 2 ≤ 100; decide) (.cons (.str _) (.cons (.str _) .nil))
theorem ROk.known {c : Str} (h : ROk n (.inr c)) : Known c := by
 cases h with
 | num => exact .num
 | rcd => exact .rcd
 | lacks => exact .lacks
structure Lay (prog : List Dfn) (i : Nat) (p : Dfn) (vs : List V) (np nv : Nat) (zs : List Int) (σ : Store) : Prop where
 scr : Scr σ zs
 prg : Prg prog 24
 len : prog.length ≤ 3
 last : i + 1 = prog.length
 here : prog[i]? = some p
 many : vs.length = p.2.1
 val : ∀ v ∈ vs, Val 5 v
 ap : σ[np]? = some (.list (prog.map dfnV))
 av : σ[nv]? = some (.list vs)
theorem Lay.le (h : Lay prog i p vs np nv zs σ) (hl : Le σ σ') : Lay prog i p vs np nv zs σ' := ⟨hl.at h.scr, h.prg, h.len, h.last, h.here, h.many, h.val, hl.at h.ap, hl.at h.av⟩
theorem dfns_pl (h : Prg prog K) : ∀ z ∈ prog.map dfnV, Pl (3 * K + 2) z := fun z hz => by
 obtain ⟨p, hp, rfl⟩ := List.mem_map.mp hz
 exact dfn_pl (h.good p hp)
theorem tells_no {α : Type} {f : Bool → M α} {Q : α → Store → Prop} {σ : Store} (h : Tells (cl06 e "_law_tried" [v1, v2, v3]) σ (.inr cDef)) (k : ∀ τ, Le σ τ → Wp (f false) τ Q) :
  Wp (cl06 e "_law_tried" [v1, v2, v3] >>= fun t => (cmp .NotEq t (V.tup [(V.str (Str.ofString "no")), (V.str (Str.ofString "NoDefinition"))]) >>= fun t => (truth t >>= f))) σ Q := by
 refine h.step fun x τ hx => ?_
 obtain ⟨hl, rfl⟩ := hx
 refine Wp_step (r_ne (b := true) (veq_self (n := 1) (.tup (by show 2 ≤ 100; decide) (.cons (.str _) (.cons (.str _) .nil))) (by decide))) (Wp_step (a := false) rfl (k τ hl))
theorem cut_last {l : List V} (h : l ≠ []) : (cut l none (some (-1))).length ≠ l.length := by
 have hp := List.length_pos_iff.mpr h
 unfold cut
 show ((l.drop 0).take (clipAt l.length (-1) - 0)).length ≠ _
 have := clipAt_cast l.length (-1)
 rw [List.drop_zero, Nat.sub_zero, List.length_take]
 (first | lia | omega)
theorem law_t1 (L : Lay prog i p vs np nv zs σ) : Wp (L_law_t1 (e + 2) (.ref 0) v1 (.ref np) (.int i) v2 (.ref nv) v3 o1 v4 v5 o2) σ fun r ya => r = .bool true := by
 have h24 : (16777216 : Nat) = sizeLine := rfl
 unfold L_law_t1
 have hv4 : vs.length ≤ 4 := L.many ▸ L.prg.many p (List.mem_of_getElem? L.here)
 refine Wp.step (P := fun b τ => b = false ∧ Le σ τ) (Wp_step rfl (Wp_step (r_ne (nil_veq (push_at L.av) (n := 10) (fun x hx => (L.val x hx).pl) get_new)) (Wp_step (a := !vs.isEmpty) rfl ?_))) fun b τ hb => ?_
 ·cases hvs : vs.isEmpty with
  | true => exact Wp_no rfl (Wp_pure ⟨rfl, .push⟩)
  | false =>
   have hne : vs ≠ [] := fun e => by rw [e] at hvs; cases hvs
   refine Wp_yes rfl (Wp_step rfl (Wp_step rfl (Wp_step (r_slice (push_at L.av)) ?_)))
   exact tells_no (tried_ok (run_many L.here (by rw [← L.many]; exact cut_last hne) (push_at (push_at L.ap)) get_new) fun c e => by cases e; exact .dfn) fun τ hl => Wp_no rfl (Wp_pure ⟨rfl, (LeEx.push.new).trans hl⟩)
 ·obtain ⟨rfl, hl⟩ := hb
  have L' := L.le hl
  refine Wp_no rfl ?_
  unfold L_law_t2
  refine Wp_step rfl (Wp_step (r_add (push_at L'.av) get_new (by show vs.length + 1 ≤ sizeLine; lia)) ?_)
  refine (tried_ok (run_many L'.here (by rw [List.length_append, ← L.many]; exact Nat.succ_ne_self _) (push_at (push_at L'.ap)) get_new) fun c e => by cases e; exact .dfn).step fun x τ' hx => ?_
  obtain ⟨_, rfl⟩ := hx
  exact Wp_step (r_eq (b := true) (veq_self (n := 1) (.tup (by show 2 ≤ 100; decide) (.cons (.str _) (.cons (.str _) .nil))) (by decide))) (Wp_pure rfl)
theorem law_a2 (L : Lay prog i p vs np nv zs σ) : Wp (L_law_a2 (e + 2) [some (.ref 0), some v1, some (.ref np), some (.int i), some v2, some (.ref nv), some v3, o1, some v4, some v5, o2, none, none, none, none, none, none, none, none, none]) σ fun r ya => r = .bool true := by
 rw [L_law_a2_eq]
 have h4 := L.last
 refine Wp_step rfl (Wp_step rfl (Wp_step rfl (cell_step (push_at L.scr) (by decide) fun c ya => mod_step (by decide) fun x h0 h1 => ?_)))
 have L' := L.le (σ' := σ ++ [O.list [.int (-1), .int ((i : Int) + 1), .int ((i : Int) + 2)]]) .push
 have out : ∀ k : Int, ¬(0 ≤ k ∧ k < prog.length) → Wp (cl06 (e + 2) "_law_tried" [.ref np, .int k, .ref nv] >>= fun t535 => (cmp .NotEq t535 (V.tup [(V.str (Str.ofString "no")), (V.str (Str.ofString "NoDefinition"))]) >>= fun t536 => (truth t536 >>= fun b537 => (M.cond b537 (pure (V.bool false) : M V) (L_law_t1 (e + 2) (.ref 0) v1 (.ref np) (.int i) v2 (.ref nv) v3 o1 v4 v5 o2))))) (σ ++ [O.list [.int (-1), .int ((i : Int) + 1), .int ((i : Int) + 2)]]) fun r ya => r = .bool true := fun k hk =>
  tells_no (tried_ok (run_out L'.ap L'.av (by
   cases h : (decide (0 ≤ k) && decide (k < prog.length)) with
   | false => rfl
   | true => rw [Bool.and_eq_true] at h; exact absurd ⟨of_decide_eq_true h.1, of_decide_eq_true h.2⟩ hk)) fun c e => by cases e; exact .dfn) fun τ hl => Wp_no rfl (law_t1 (L'.le hl))
 obtain ⟨j, rfl⟩ := Int.eq_ofNat_of_zero_le h0
 have hj : j < 3 := Int.ofNat_lt.mp h1
 match j, hj with
 | 0, _ => exact Wp_step (r_item get_new (by decide) rfl) (out _ (by (first | lia | omega)))
 | 1, _ => exact Wp_step (r_item get_new (by decide) rfl) (out _ (by (first | lia | omega)))
 | 2, _ => exact Wp_step (r_item get_new (by decide) rfl) (out _ (by (first | lia | omega)))
end
end Mine.Internal

set_option backward.match.sparseCases false
namespace Mine.Internal
open PySem PyProof.Rows
section
variable {prog : List Dfn} {e m n d K : Nat} {σ σ' τ : Store} {v : V} {vs : List V} {np nv kd i : Nat} {r : R} {p : Dfn} {k : Int} {zs : List Int} {v1 v2 v3 v4 v5 : V} {o1 o2 : Option V}
structure TurnP (prog : List Dfn) (np nv kd hd np2 nv2 i : Nat) (vs : List V) (v1 v2 due : V) (o1 : Option V) (σ : Store) (j : Nat) (loc : Loc) (τ : Store) : Prop where
 le : Le σ τ
 loc : ∃ o2, loc = [some (.ref 0), some v1, some (.ref np), some (.int i), some v2, some (.ref nv), some (.ref kd), o1, some (.ref hd), some due, o2, none, none, none, none, none, none, none, none, none]
theorem law_a1 (L : Lay prog i p vs np nv zs σ) (hk : Lw prog σ kd) : Wp (L_law_a1 100 [some (.ref 0), some v1, some (.ref np), some (.int i), some v2, some (.ref nv), some (.ref kd), o1, none, none, none, none, none, none, none, none, none, none, none, none]) σ fun r ya => r = .bool true := by
 rw [L_law_a1_eq]
 have hpi : (prog.map dfnV)[((i : Nat) : Int).toNat]? = some (dfnV p) := by rw [Int.toNat_natCast, List.getElem?_map, L.here]; rfl
 refine Wp_step (r_list L.ap) (Wp_step (r_list (push_at L.av)) (Wp_step rfl ?_))
 have a1 : (σ ++ [O.list (prog.map dfnV)] ++ [O.list vs] ++ [O.list [.ref σ.length, .ref (σ ++ [O.list (prog.map dfnV)]).length]])[σ.length]? = some (.list (prog.map dfnV)) := push_at (push_at get_new)
 have a2 : (σ ++ [O.list (prog.map dfnV)] ++ [O.list vs] ++ [O.list [.ref σ.length, .ref (σ ++ [O.list (prog.map dfnV)]).length]])[(σ ++ [O.list (prog.map dfnV)]).length]? = some (.list vs) := push_at get_new
 have a3 : (σ ++ [O.list (prog.map dfnV)] ++ [O.list vs] ++ [O.list [.ref σ.length, .ref (σ ++ [O.list (prog.map dfnV)]).length]])[(σ ++ [O.list (prog.map dfnV)] ++ [O.list vs]).length]? = some (.list [.ref σ.length, .ref (σ ++ [O.list (prog.map dfnV)]).length]) := get_new
 have hle : Le σ (σ ++ [O.list (prog.map dfnV)] ++ [O.list vs] ++ [O.list [.ref σ.length, .ref (σ ++ [O.list (prog.map dfnV)]).length]]) := LeEx.push.new.new
 generalize (σ ++ [O.list (prog.map dfnV)] ++ [O.list vs]).length = hd at a3
 generalize (σ ++ [O.list (prog.map dfnV)]).length = nv2 at a1 a2 a3 hle ⊢
 generalize σ.length = np2 at a1 a2 a3 hle ⊢
 generalize σ ++ [O.list (prog.map dfnV)] ++ [O.list vs] ++ [O.list [.ref np2, .ref nv2]] = σ₁ at a1 a2 a3 hle
 have L1 := L.le hle
 obtain ⟨r, okr, sp⟩ := (L.prg.good p (List.mem_of_getElem? L.here)).both 5 vs L.many L.val
 refine Wp_step (r_item L1.ap (Int.natCast_nonneg _) hpi) (Wp_step r_item2 ((sp.law 100 σ₁ nv kd (by decide) L1.av (hk.le hle)).step fun x σ₂ hx => ?_))
 obtain ⟨hl2, rfl⟩ := hx
 have L2 := L1.le hl2
 refine Wp_step (r_range (by decide)) (Wp_for (J := fun ya => True) (calm _) walks_vals (TurnP prog np nv kd hd np2 nv2 i vs v1 v2 (told r) o1 σ₂) (fun ya yb yc yd => trivial) ⟨.refl, _, rfl⟩ (fun j x loc τ hx hp => ?_) fun loc τ hp => ?_)
 ·obtain ⟨hl3, o2, rfl⟩ := hp
  have hl13 := hl2.trans hl3
  rw [L_law_l2_step]
  refine Wp.step (P := fun b τ' => b = false ∧ Le τ τ') (Wp_step (r_item (hl13.at a3) (i := 0) (by decide) rfl) (Wp_step (r_item (hl13.at a3) (i := 1) (by decide) rfl) ?_)) fun b τ' hb => ?_
  ·refine (tried_ok (d := 98) (run_ok L.prg L.here L.many (hl13.at a1) (hl13.at a2) sp (by decide)) fun c e => by subst e; exact okr.known).step fun x τ₁ hx => ?_
   obtain ⟨g1, rfl⟩ := hx
   refine (alike_ok (told_pl okr) 100 τ₁ (by decide)).step fun x τ₂ hx => ?_
   obtain ⟨g2, rfl⟩ := hx
   have hl := hl13.trans (g1.trans g2)
   refine Wp_step rfl (Wp_no rfl (Wp_step rfl (Wp_step (r_ne (b := true) (veq_two (n := 3 * 24 + 2) (dfns_pl L.prg) (fun z hz => (L.val z hz).pl.mono (by decide)) (by decide) (push_at (hl.at a1)) (push_at (hl.at a2)) (push_at (hl.at L1.ap)) (push_at (hl.at L1.av)) (push_at (hl.at a3)) get_new)) (Wp_step (a := false) rfl (Wp_no rfl (Wp_pure ⟨rfl, (g1.trans g2).new⟩))))))
  ·obtain ⟨rfl, g⟩ := hb
   exact Wp_no rfl (Wp_pure ⟨hl3.trans g, _, rfl⟩)
 ·obtain ⟨hl3, o2, rfl⟩ := hp
  exact law_a2 (e := 98) (L2.le hl3)
set_option tactic.hygienic true in
theorem law06_wp (zs : List Int) : Wp (cl06 101 "law" [.ref 0]) [.list (zs.map .int)] fun r ya => r = .bool true := by
 have hs : Scr [.list (zs.map .int)] zs := rfl
 rw [L_law_sh]
 refine cell_step hs (by decide) fun c ya => (labels_ok (d := 99)).step fun x σ₁ hx => ?_
 obtain ⟨hle1, nl, ls, rfl, hnl, hl, L⟩ := hx
 refine (program_ok (e := 100) (hle1.at hs) hl L (by decide)).step fun x σ₂ hx => ?_
 obtain ⟨hle2, hnp, hp, h1, h3, P⟩ := hx
 rename_i prog np
 have hle := hle1.trans hle2
 obtain ⟨i, hi⟩ : ∃ i, prog.length = i + 1 := ⟨prog.length - 1, by (first | lia | omega)⟩
 have hpi : prog[i]? = some (prog[i]'(by (first | lia | omega))) := List.getElem?_eq_getElem _
 generalize prog[i]'(by (first | lia | omega)) = p at hpi
 have hpx : (prog.map dfnV)[((i : Nat) : Int).toNat]? = some (dfnV p) := by rw [Int.toNat_natCast, List.getElem?_map, hpi]; rfl
 refine Wp_step (r_len hp) (Wp_step (a := .int i) (by show Res.ok (V.int (((prog.map dfnV).length : Int) - 1)) σ₂ = _; rw [List.length_map, hi]; congr 2; (first | lia | omega)) (cell_step (hle.at hs) (by decide) fun c' ya => mod_step (by decide) fun s0 ya yb => Wp_step rfl (Wp_step rfl ?_)))
 have g : Gv ls σ₂.length nl (σ₂ ++ [.list [.int (1 + s0), .int 0]]) := ⟨⟨_, _, get_new⟩, by have := lt_of_get (hle.at hs); (first | lia | omega), push_at (hle2.at hl), fun e => absurd (lt_of_get (hle2.at hl)) (by rw [e]; exact Nat.lt_irrefl _)⟩
 have hm := P.many p (List.mem_of_getElem? hpi)
 refine Wp_step (r_item (push_at hp) (Int.natCast_nonneg _) hpx) (Wp_step r_item1 (Wp_step (r_range4 hm) (ins_comp (push_at (hle.at hs)) (Nat.ne_of_gt (Nat.lt_of_le_of_lt (Nat.zero_le _) (lt_of_get (hle.at hs)))) g L hm (by decide) fun vs τ hx => ?_)))
 obtain ⟨gr, hlen, hval⟩ := hx
 have hτ : Le σ₂ τ := fun n o ya e => gr.le n o (fun hm => absurd (lt_of_get e) (by rw [List.mem_singleton.mp hm]; exact Nat.lt_irrefl _)) (push_at e)
 have hle3 := hle.trans (hτ.new (o := .list vs))
 refine Wp_step rfl (Wp_step (r_src (push_at (push_at (hτ.at hp)))) (known_loop P h3 rfl (by rw [List.length_append]; exact Nat.succ_pos _) (push_at (hτ.at hp)) fun τ' o hl' hk => ?_))
 exact law_a1 ⟨hl'.at (hle3.at hs), P, h3, hi.symm, hpi, hlen, hval, hl'.at (push_at (hτ.at hp)), hl'.at get_new⟩ hk
theorem law06 : LawOk tx06 101 := fun zs ya => by
 obtain ⟨r, σ, e, rfl⟩ := law06_wp zs
 exact ⟨σ, e⟩
end
end Mine.Internal

open PySem PySem.W PyProof.Rows
set_option tactic.hygienic true in
set_option maxHeartbeats 8000000 in
theorem PySem.Challenge.cw_uf010004_06_holds : PySem.Challenge.rw_uf010004_06.Holds := by
  w_on; refine holds_law (by decide +kernel) fun said => ?_; o_head (Mine.Internal.upsHook Mine.Internal.us06); (case hw => w_witness2)
  intro w s₀ s₁ mg mb G Y fa o pm cd doc dV kV ho hd hcd hD hmg hg args vals as hpre hlay hrd hwl hlo
  have Y : Mine.Internal.UpsSay Mine.Internal.us06 s₁.heap := Y
  refine Ground.open G ?_
  intro T B D TE TW
  have hmg' : mg "law" = some (.ref fa) := hmg
  clear hmg
  clear hd hcd hD
  wrow_args hpre hlay hrd hwl hlo
  rename_i zs _ _ _ _ _ _ _ la vs _ hL _ hw _ hI _ hlen _
  have hB := Mine.Internal.base_of (tab := Mine.Internal.tab06) (mtab := Mine.Internal.mt06) (gs := Mine.Internal.gs06) (cs := Mine.Internal.cs06) Y T TE (by decide +kernel) (by kernel_rfl) (by decide +kernel) (by decide +kernel) (by decide +kernel) (by kernel_rfl)
  refine wpAny_mono (Mine.Internal.law_run (tx := Mine.Internal.tx06) hB (by decide +kernel) hmg' (by decide +kernel) (Mine.Internal.list_at hL hw) hI (by omega) Mine.Internal.law06 (Mine.Internal.room_caller (by decide))) (fun v s' hp => ?_) fun _ _ f => f.elim
  obtain ⟨rfl, h1, h2, h3⟩ := hp
  exact GoodW.toG ⟨.inl ⟨_, .bool true, [], rfl, fun _ => by kernel_rfl, .bool true, by kernel_rfl, fun _ => ⟨List.nodup_nil, fun _ hm => absurd hm List.not_mem_nil⟩⟩, h1, h2, h3.trans hg⟩
