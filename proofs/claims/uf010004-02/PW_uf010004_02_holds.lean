import PyProof.Rows.All
import KE.KDictLaws
import KE.KDictOf
import Wide.All
import Open.Line
import Wide.FinOn
import PySem.Challenge.RW_uf010004_02
set_option Elab.async false
set_option maxRecDepth 100000
set_option linter.unusedVariables false
set_option linter.unusedSimpArgs false

namespace Mine
open PySem

/-! ## Abstract values, store, monad -/

inductive V where
  | none
  | bool (b : Bool)
  | int (i : Int)
  | str (s : Str)
  | tup (l : List V)
  | ref (n : Nat)
  deriving Inhabited

/-- a key of a dict -/
abbrev Key := Int ⊕ Str

inductive O where
  | list (l : List V)
  | dict (l : List (Key × V))
  | inst (c : Str) (fs : List (Str × V))
  deriving Inhabited

abbrev Store := List O

inductive Res (α : Type) where
  | ok (a : α) (σ : Store)
  | exc (e : V) (σ : Store)
  | bad

noncomputable def M (α : Type) := Store → Res α

namespace M
noncomputable def pure {α : Type} (a : α) : M α := fun σ => .ok a σ
noncomputable def bind {α β : Type} (m : M α) (f : α → M β) : M β := fun σ => match m σ with
  | .ok a σ' => f a σ'
  | .exc e σ' => .exc e σ'
  | .bad => .bad
noncomputable def bad {α : Type} : M α := fun _ => .bad
end M
noncomputable instance : Monad M where
  pure := M.pure
  bind := M.bind

/-- the object of a number -/
noncomputable def getO (n : Nat) : M O := fun σ => match σ[n]? with
  | some o => .ok o σ
  | none => .bad
/-- an object is changed; the first one (the law's script) never is -/
noncomputable def setO (n : Nat) (o : O) : M Unit := fun σ => if 0 < n ∧ n < σ.length then .ok () (σ.set n o) else .bad
noncomputable def newO (o : O) : M V := fun σ => .ok (.ref σ.length) (σ ++ [o])

/-- a text that may be held -/
noncomputable def SOk (x : Str) : Prop := x.length ≤ sizeLine ∧ PyData.strOk x = true
noncomputable instance (x : Str) : Decidable (SOk x) := inferInstanceAs (Decidable (_ ∧ _))


/-! ## the monad -/
section
variable {σ : Store}
theorem bind_ok {α β : Type} {m : M α} {f : α → M β} {a : α} {σ' : Store} (h : m σ = .ok a σ') : (m >>= f) σ = f a σ' := by
  show (match m σ with | .ok a σ' => f a σ' | .exc e σ' => .exc e σ' | .bad => .bad) = _
  rw [h]
theorem bind_bad {α β : Type} {m : M α} {f : α → M β} (h : m σ = .bad) : (m >>= f) σ = .bad := by
  show (match m σ with | .ok a σ' => f a σ' | .exc e σ' => .exc e σ' | .bad => .bad) = _
  rw [h]
theorem bind_exc {α β : Type} {m : M α} {f : α → M β} {e : V} {σ' : Store} (h : m σ = .exc e σ') : (m >>= f) σ = .exc e σ' := by
  show (match m σ with | .ok a σ' => f a σ' | .exc e σ' => .exc e σ' | .bad => .bad) = _
  rw [h]
theorem M.assoc {α β γ : Type} (m : M α) (f : α → M β) (g : β → M γ) : (m >>= f) >>= g = m >>= fun a => f a >>= g := by
  funext σ
  cases e : m σ with
  | bad => rw [bind_bad e, bind_bad (bind_bad e)]
  | exc v σ' => rw [bind_exc e, bind_exc (bind_exc e)]
  | ok a σ' =>
    rw [bind_ok e]
    show (match (m >>= f) σ with | .ok a σ' => g a σ' | .exc e σ' => .exc e σ' | .bad => .bad) = (match f a σ' with | .ok a σ' => g a σ' | .exc e σ' => .exc e σ' | .bad => .bad)
    rw [bind_ok e]
end
noncomputable def isCompE : Expr → Bool
  | .ListComp _ _ _ _ => true
  | _ => false
noncomputable def isSliceE : Expr → Bool
  | .Slice _ _ _ _ => true
  | _ => false
noncomputable def isAttrE : Expr → Bool
  | .Attribute _ _ _ => true
  | _ => false
end Mine

namespace Mine
open PySem

abbrev Loc := List (Option V)
abbrev Names := List (Str × NameKind)

noncomputable def slotGo : Names → Str → Nat → Option (Nat × NameKind)
  | [], _, _ => none
  | (y, k) :: r, x, i => match x == y with
    | true => some (i, k)
    | false => slotGo r x (i + 1)
noncomputable def slot (ns : Names) (x : Str) : Option (Nat × NameKind) := slotGo ns x 0

noncomputable def ofOpt {α : Type} : Option α → M α
  | some a => pure a
  | none => M.bad

/-- the value of an own name -/
noncomputable def ldLoc (loc : Loc) (i : Nat) : M V := ofOpt (loc[i]?.join)

noncomputable def stLoc (ns : Names) (x : Str) (v : V) (loc : Loc) : M Loc := match slot ns x with
  | some (i, .local) => pure (loc.set i (some v))
  | some (i, .cell) => pure (loc.set i (some v))
  | _ => M.bad

/-- a comprehension's own names are plain locals -/
noncomputable def stLocL (ns : Names) (x : Str) (v : V) (loc : Loc) : M Loc := match slot ns x with
  | some (i, .local) => pure (loc.set i (some v))
  | _ => M.bad

/-- what a text is run in: its own defs, and the plain values of its top -/
structure Cfg where
  isFn : Str → Bool
  call : Str → List V → M V
  glob : Str → Option V

/-! ### values -/
noncomputable def constV : Const → M V
  | .none => pure .none
  | .bool b => pure (.bool b)
  | .int i => pure (.int i)
  | .str s => if SOk s then pure (.str s) else M.bad
  | _ => M.bad

noncomputable def truth : V → M Bool
  | .none => pure false
  | .bool b => pure b
  | .int i => pure (i != 0)
  | .str s => pure (s.length != 0)
  | .tup l => pure (l.length != 0)
  | .ref n => do
    match ← getO n with
    | .list l => pure (l.length != 0)
    | _ => M.bad

/-- a number of 64 bits -/
noncomputable def Small (a : Int) : Prop := -18446744073709551616 < a ∧ a < 18446744073709551616
noncomputable instance (a : Int) : Decidable (Small a) := inferInstanceAs (Decidable (_ ∧ _))

noncomputable def getList (n : Nat) : M (List V) := do
  match ← getO n with
  | .list l => pure l
  | _ => M.bad

/-! ### dicts -/
noncomputable def keyOf : V → Option Key
  | .int i => some (.inl i)
  | .str s => some (.inr s)
  | _ => none
noncomputable def keyV : Key → V
  | .inl i => .int i
  | .inr s => .str s
abbrev Tab := List (Key × V)
noncomputable def dGet (l : Tab) (k : Key) : Option V := (l.find? fun p => p.1 = k).map (·.2)
noncomputable def dSet (l : Tab) (k : Key) (v : V) : Tab := if l.any (fun p => p.1 = k) then l.map (fun p => if p.1 = k then (p.1, v) else p) else l ++ [(k, v)]
noncomputable def getDict (n : Nat) : M Tab := do
  match ← getO n with
  | .dict l => pure l
  | _ => M.bad

noncomputable def intOp (op : Operator) (a b : Int) : M V := match op with
  | .Add => pure (.int (a + b))
  | .Sub => pure (.int (a - b))
  | .Mult => if Small a ∨ Small b then pure (.int (a * b)) else M.bad
  | .FloorDiv => if b ≠ 0 ∧ Small b then pure (.int (a.fdiv b)) else M.bad
  | .Mod => if b ≠ 0 ∧ Small b then pure (.int (a.fmod b)) else M.bad
  | .Pow => if 0 ≤ b ∧ b ≤ 1000 ∧ a.natAbs < 1000 then pure (.int (a ^ b.toNat)) else M.bad
  | _ => M.bad
noncomputable def isAdd : Operator → Bool
  | .Add => true
  | _ => false
noncomputable def addV (a b : V) : M V := match a with
  | .str x => (match b with
    | .str y => if x.length + y.length ≤ sizeLine then pure (.str (x ++ y)) else M.bad
    | _ => M.bad)
  | .tup x => (match b with
    | .tup y => if x.length + y.length ≤ sizeLine then pure (.tup (x ++ y)) else M.bad
    | _ => M.bad)
  | .ref x => (match b with
    | .ref y => do
      let l ← getList x
      let m ← getList y
      if l.length + m.length ≤ sizeLine then newO (.list (l ++ m)) else M.bad
    | _ => M.bad)
  | _ => M.bad
noncomputable def binop (op : Operator) (a b : V) : M V := match a with
  | .int x => (match b with
    | .int y => intOp op x y
    | _ => M.bad)
  | _ => cond (isAdd op) (addV a b) M.bad

/-! ### equality -/
mutual
/-- a value as plain data; f tells the objects -/
noncomputable def toPyT (f : Nat → Option PyData) : V → Option PyData
  | .none => some .none
  | .bool b => some (.bool b)
  | .int i => some (.int i)
  | .str s => some (.str s)
  | .tup l => (toPyTs f l).map .tuple
  | .ref n => f n
noncomputable def toPyTs (f : Nat → Option PyData) : List V → Option (List PyData)
  | [] => some []
  | x :: r => match toPyT f x, toPyTs f r with
    | some d, some ds => some (d :: ds)
    | _, _ => none
end
noncomputable def toPyF (σ : Store) : Nat → Nat → Option PyData
  | 0, _ => none
  | k + 1, n => match σ[n]? with
    | some (.list l) => (toPyTs (toPyF σ k) l).map .list
    | _ => none
noncomputable def toPy (σ : Store) (v : V) : Option PyData := toPyT (toPyF σ 4) v

noncomputable def veq (σ : Store) (a b : V) : Option Bool := match toPy σ a, toPy σ b with
  | some x, some y => if min x.depth y.depth ≤ 200 then some (PyData.eqv x y) else none
  | _, _ => none

/-- is a value among others -/
noncomputable def vin (σ : Store) (x : V) : List V → Option Bool
  | [] => some false
  | y :: r => match veq σ y x, vin σ x r with
    | some e, some t => some (e || t)
    | _, _ => none

/-- the store is asked -/
noncomputable def askS {α : Type} (f : Store → Option α) : M α := fun σ => match f σ with
  | some a => .ok a σ
  | none => .bad

/-- the order of texts -/
noncomputable def strLt (a b : Str) : Bool := decide (a.cps.toList < b.cps.toList)

/-- is a value in an object -/
noncomputable def among (a : V) (n : Nat) : M Bool := do
  match ← getO n with
  | .list l => askS fun σ => vin σ a l
  | .dict l => ofOpt ((keyOf a).map fun k => (dGet l k).isSome)
  | _ => M.bad

/-- is a value in another -/
noncomputable def inV (a b : V) : M Bool := match b with
  | .tup l => askS fun σ => vin σ a l
  | .ref n => among a n
  | .str y => (match a with
    | .str x => pure (Txt.contains y x)
    | _ => M.bad)
  | _ => M.bad
/-- two numbers, or two texts -/
noncomputable def ordV (f : Int → Int → Bool) (g : Str → Str → Bool) (a b : V) : M V := match a with
  | .int x => (match b with
    | .int y => pure (.bool (f x y))
    | _ => M.bad)
  | .str x => (match b with
    | .str y => pure (.bool (g x y))
    | _ => M.bad)
  | _ => M.bad
/-- the very same thing: none, or a bool -/
noncomputable def isV (a b : V) : M Bool := match b with
  | .none => pure (match a with | .none => true | _ => false)
  | .bool c => pure (match a with | .bool d => d == c | _ => false)
  | _ => M.bad
noncomputable def cmp (op : CmpOp) (a b : V) : M V := match op with
  | .Eq => askS fun σ => (veq σ a b).map V.bool
  | .NotEq => askS fun σ => (veq σ a b).map fun e => V.bool (!e)
  | .Lt => ordV (fun x y => decide (x < y)) (fun x y => strLt x y) a b
  | .LtE => ordV (fun x y => decide (x ≤ y)) (fun x y => !strLt y x) a b
  | .Gt => ordV (fun x y => decide (y < x)) (fun x y => strLt y x) a b
  | .GtE => ordV (fun x y => decide (y ≤ x)) (fun x y => !strLt x y) a b
  | .Is => isV a b >>= fun c => pure (V.bool c)
  | .IsNot => isV a b >>= fun c => pure (V.bool (!c))
  | .In => inV a b >>= fun c => pure (V.bool c)
  | .NotIn => inV a b >>= fun c => pure (V.bool (!c))

/-! ### items -/
/-- a place in something of a length, negative ones from its end -/
noncomputable def place (i : Int) (n : Nat) : Option Nat :=
  if 0 ≤ i then (if i < n then some i.toNat else none) else if 0 ≤ i + n then some (i + n).toNat else none

noncomputable def chr1 (c : Nat) : Str := ⟨#[c]⟩

noncomputable def itemL (l : List V) : V → M V
  | .int i => ofOpt ((place i l.length).bind fun k => l[k]?)
  | _ => M.bad
noncomputable def item : V → V → M V
  | .tup l, .int i => ofOpt ((place i l.length).bind fun k => l[k]?)
  | .str s, .int i => ofOpt ((place i s.length).bind fun k => (s.cps[k]?).map fun c => V.str (chr1 c))
  | .ref n, b => do
    match ← getO n with
    | .list l => itemL l b
    | .dict l => ofOpt ((keyOf b).bind (dGet l))
    | _ => M.bad
  | _, _ => M.bad

noncomputable def setL (n : Nat) (l : List V) (b v : V) : M Unit := match b with
  | .int i => if 0 ≤ i ∧ i < l.length then setO n (.list (l.set i.toNat v)) else M.bad
  | _ => M.bad
noncomputable def setD (n : Nat) (l : Tab) (b v : V) : M Unit := match keyOf b with
  | some k => if l.length + 1 ≤ sizeLine then setO n (.dict (dSet l k v)) else M.bad
  | none => M.bad
noncomputable def setItem : V → V → V → M Unit
  | .ref n, b, v => do
    match ← getO n with
    | .list l => setL n l b v
    | .dict l => setD n l b v
    | _ => M.bad
  | _, _, _ => M.bad

/-- a slice: from, up to -/
noncomputable def cut {α : Type} (l : List α) (lo hi : Option Int) : List α :=
  (l.drop (lo.elim 0 (clipAt l.length))).take (hi.elim l.length (clipAt l.length) - lo.elim 0 (clipAt l.length))
noncomputable def cutStr (s : Str) (lo hi : Option Int) : Str := ⟨(cut s.cps.toList lo hi).toArray⟩

noncomputable def sliceV (lo hi : Option Int) : V → M V
  | .tup l => pure (.tup (cut l lo hi))
  | .str s => pure (.str (cutStr s lo hi))
  | .ref n => do
    let l ← getList n
    newO (.list (cut l lo hi))
  | _ => M.bad

noncomputable def bound : V → M (Option Int)
  | .none => pure none
  | .int i => pure (some i)
  | _ => M.bad

/-! ### what is walked -/
inductive Src where
  | vals (l : List V)
  | lst (n : Nat)

noncomputable def listAt (σ : Store) (n : Nat) : Option (List V) := match σ[n]? with
  | some (.list l) => some l
  | _ => none
/-- what stands at a turn: none, where the walk is at its end -/
noncomputable def Src.at (σ : Store) : Src → Nat → Option (Option V)
  | .vals l, i => some l[i]?
  | .lst n, i => (listAt σ n).map fun l => l[i]?
noncomputable def Src.get (s : Src) (i : Nat) : M (Option V) := askS fun σ => s.at σ i
noncomputable def Src.size (σ : Store) : Src → Option Nat
  | .vals l => some l.length
  | .lst n => (listAt σ n).map (·.length)
noncomputable def Src.count (s : Src) : M Nat := askS s.size

noncomputable def chars (s : Str) : List V := s.cps.toList.map fun c => V.str (chr1 c)
noncomputable def srcV : V → M Src
  | .tup l => pure (.vals l)
  | .str s => pure (.vals (chars s))
  | .ref n => do let _ ← getList n; pure (.lst n)
  | _ => M.bad

noncomputable def rangeV (a b : Int) : List V := (List.range (b - a).toNat).map fun (k : Nat) => V.int (a + k)

/-! ### built-in functions -/
noncomputable def allStrs : List V → Option (List Str)
  | [] => some []
  | .str s :: r => (allStrs r).map (s :: ·)
  | _ :: _ => none

noncomputable def itemsOf : V → M (List V)
  | .tup l => pure l
  | .ref n => getList n
  | _ => M.bad

noncomputable def bLen : V → M V
  | .tup l => pure (.int l.length)
  | .str s => pure (.int s.length)
  | .ref n => do
    match ← getO n with
    | .list l => pure (.int l.length)
    | .dict l => pure (.int l.length)
    | _ => M.bad
  | _ => M.bad
/-- a text's place among others -/
noncomputable def putS (x : Str) : List Str → List Str
  | [] => [x]
  | y :: r => if strLt y x then y :: putS x r else x :: y :: r
noncomputable def sortS : List Str → List Str
  | [] => []
  | x :: r => putS x (sortS r)
noncomputable def bSorted : V → M V
  | .ref n => do
    let l ← getList n
    let ss ← ofOpt (allStrs l)
    if ss.length < 64 then newO (.list ((sortS ss).map V.str)) else M.bad
  | _ => M.bad
noncomputable def allInts : List V → Option (List Int)
  | [] => some []
  | .int i :: r => (allInts r).map (i :: ·)
  | _ :: _ => none
noncomputable def bSum : V → M V
  | .ref n => do
    let l ← getList n
    let is ← ofOpt (allInts l)
    pure (.int is.sum)
  | _ => M.bad
noncomputable def allBools : List V → Option (List Bool)
  | [] => some []
  | .bool b :: r => (allBools r).map (b :: ·)
  | _ :: _ => none
noncomputable def bAll : V → M V
  | .ref n => do
    let l ← getList n
    let bs ← ofOpt (allBools l)
    pure (.bool (bs.all id))
  | _ => M.bad
noncomputable def bTuple (a : V) : M V := do
  let l ← itemsOf a
  pure (.tup l)

noncomputable def blt (f : Str) : List V → M V
  | [a] =>
    if f = ("len" : Str) then bLen a
    else if f = ("tuple" : Str) then bTuple a
    else if f = ("sorted" : Str) then bSorted a
    else if f = ("sum" : Str) then bSum a
    else if f = ("all" : Str) then bAll a
    else M.bad
  | _ => M.bad

inductive Kd where
  | bool | int | str | tuple | list
noncomputable def kdOf (t : Str) : Option Kd :=
  if t = ("bool" : Str) then some .bool
  else if t = ("int" : Str) then some .int
  else if t = ("str" : Str) then some .str
  else if t = ("tuple" : Str) then some .tuple
  else if t = ("list" : Str) then some .list
  else none
noncomputable def isKd : Kd → V → M V
  | _, .none => pure (.bool false)
  | k, .bool _ => pure (.bool (match k with | .bool | .int => true | _ => false))
  | k, .int _ => pure (.bool (match k with | .int => true | _ => false))
  | k, .str _ => pure (.bool (match k with | .str => true | _ => false))
  | k, .tup _ => pure (.bool (match k with | .tuple => true | _ => false))
  | k, .ref n => do
    let _ ← getList n
    pure (.bool (match k with | .list => true | _ => false))

noncomputable def mAppend : V → V → M V
  | .ref n, a => do
    let l ← getList n
    if l.length + 1 ≤ sizeLine then do
      setO n (.list (l ++ [a]))
      pure .none
    else M.bad
  | _, _ => M.bad
noncomputable def mJoin : V → V → M V
  | .str sep, a => do
    let l ← itemsOf a
    let ss ← ofOpt (allStrs l)
    if (ss.map (·.length)).sum + ss.length * sep.length ≤ 16777216 then pure (.str (Txt.join sep ss)) else M.bad
  | _, _ => M.bad

/-- the first place of a value -/
noncomputable def vidx (σ : Store) (x : V) : List V → Nat → Option Nat
  | [], _ => none
  | y :: r, i => match veq σ y x with
    | some true => some i
    | some false => vidx σ x r (i + 1)
    | none => none
noncomputable def mIndex : V → V → M V
  | .ref n, a => do
    let l ← getList n
    askS fun σ => match vin σ a l with
      | some true => (vidx σ a l 0).map fun (k : Nat) => V.int (k : Int)
      | _ => none
  | _, _ => M.bad
noncomputable def mSetdefault : V → V → V → M V
  | .ref n, b, v => do
    let l ← getDict n
    let k ← ofOpt (keyOf b)
    match dGet l k with
    | some x => pure x
    | none => if l.length + 1 ≤ sizeLine then (setO n (.dict (l ++ [(k, v)])) >>= fun _ => pure v) else M.bad
  | _, _, _ => M.bad
/-- a method, by the kind of what it is asked of -/
inductive MTag where
  | append | join | index | setdefault
noncomputable def mtag (v : V) (m : Str) (σ : Store) : Option MTag := match v with
  | .str _ => if m = ("join" : Str) then some .join else none
  | .ref n => (match σ[n]? with
    | some (.list _) => if m = ("append" : Str) then some .append else if m = ("index" : Str) then some .index else none
    | some (.dict _) => if m = ("setdefault" : Str) then some .setdefault else none
    | _ => none)
  | _ => none
noncomputable def runM : MTag → V → List V → M V
  | .append, o, [a] => mAppend o a
  | .join, o, [a] => mJoin o a
  | .index, o, [a] => mIndex o a
  | .setdefault, o, [a, b] => mSetdefault o a b
  | _, _, _ => M.bad

/-! ### expressions -/
inductive Fl where
  | next | brk | cont
  | ret (v : V)

/-- the names of a comprehension's block, those of the block around it as cells -/
noncomputable def relab (ns : Names) (names : Names) : Names := names.map fun (x, k) => if k == .free && ns.lookup x == some .cell then (x, .cell) else (x, k)

/-- the values that a comprehension's block sees -/
noncomputable def innerLoc (ns : Names) (loc : Loc) : Names → M Loc
  | [] => pure []
  | (x, .free) :: r => (match slot ns x with
    | some (i, .cell) => do
      let t ← innerLoc ns loc r
      pure (((loc[i]?).getD none) :: t)
    | _ => M.bad)
  | (_, .cell) :: _ => M.bad
  | (_, _) :: r => do
    let t ← innerLoc ns loc r
    pure (none :: t)

noncomputable def isGlob (ns : Names) (x : Str) : Bool := match slot ns x with
  | some (_, .globalImplicit) => !(x == ("__debug__" : Str))
  | _ => false

noncomputable def compLoop (s : Src) (bindT : V → Loc → M Loc) (tests : Loc → M Bool) (elt : Loc → M V) : Nat → Nat → Loc → M (List V)
  | 0, _, _ => M.bad
  | k + 1, i, loc => do
    match ← s.get i with
    | none => pure []
    | some v => do
      let loc' ← bindT v loc
      if ← tests loc' then do
        let x ← elt loc'
        let r ← compLoop s bindT tests elt k (i + 1) loc'
        pure (x :: r)
      else compLoop s bindT tests elt k (i + 1) loc'

noncomputable def bindNames (st : Str → V → Loc → M Loc) : List Expr → List V → Loc → M Loc
  | [], [], loc => pure loc
  | .Name x _ :: ts, v :: vs, loc => do
    let loc' ← st x v loc
    bindNames st ts vs loc'
  | _, _, _ => M.bad

/-- a target of names -/
noncomputable def bindTo (st : Str → V → Loc → M Loc) : Expr → V → Loc → M Loc
  | .Name x _, v, loc => st x v loc
  | .Tuple ts _ _, .tup l, loc => bindNames st ts l loc
  | _, _, _ => M.bad

/-- a name's value -/
noncomputable def ldName (C : Cfg) (ns : Names) (x : Str) (loc : Loc) : M V := match slot ns x with
  | some (i, .local) => ldLoc loc i
  | some (i, .cell) => ldLoc loc i
  | some (_, .globalImplicit) => ofOpt (C.glob x)
  | _ => M.bad

/-- a call without arguments (super() is one) -/
noncomputable def isSuper : Expr → Bool
  | .Call (.Name _ _) [] [] _ => true
  | _ => false

/-- the name that an expression is -/
noncomputable def nameOf : Expr → Option Str
  | .Name t _ => some t
  | _ => none
/-- a call of a global name, its arguments at hand -/
noncomputable def callGlob (C : Cfg) (f : Str) (vs : List V) : M V := if C.isFn f then C.call f vs else blt f vs

noncomputable def rangeOf : V → M Src
  | .int n => if -1000000 ≤ n ∧ n ≤ 1000000 then pure (.vals (rangeV 0 n)) else M.bad
  | _ => M.bad
/-- targets that a walk can serve -/
noncomputable def tgtOk (_ : Src) (_ : Expr) : Bool := true
/-- a block that a comprehension may have -/
noncomputable def compOk (k : ScopeKind) (names : Names) : Bool := (match k with | .function => true | _ => false) &&
  names.all fun p => match p.2 with
    | .local => (match names.lookup p.1 with | some .local => true | _ => false)
    | _ => true
/-- a call that makes something to walk -/
noncomputable def srcTag (C : Cfg) (ns : Names) (f : Str) : Nat := if isGlob ns f && !C.isFn f then (if f = ("range" : Str) then 1 else 0) else 0

/-- by what a comparison told -/
noncomputable def boolK {α : Type} (x : V) (yes no : M α) : M α := match x with
  | .bool b => cond b yes no
  | _ => M.bad
/-- a number that is written out -/
noncomputable def litInt : Expr → Option Int
  | .Constant (.int i) _ _ => some i
  | .UnaryOp .USub (.Constant (.int i) _ _) _ => some (-i)
  | _ => none
/-- a dict display of one pair of numbers -/
noncomputable def dict1 (k v : Expr) : M V := match litInt k, litInt v with
  | some i, some j => newO (.dict [(.inl i, .int j)])
  | _, _ => M.bad

mutual
noncomputable def ev (C : Cfg) : Expr → Names → Loc → M V
  | .Constant c _ _, _, _ => constV c
  | .Name x _, ns, loc => if x = ("__debug__" : Str) then M.bad else ldName C ns x loc
  | .BinOp l op r _, ns, loc => do
    let a ← ev C l ns loc
    let b ← ev C r ns loc
    binop op a b
  | .UnaryOp .Not x _, ns, loc => do
    let a ← ev C x ns loc
    let t ← truth a
    pure (.bool (!t))
  | .UnaryOp .USub (.Constant (.int i) _ _) _, _, _ => pure (.int (-i))
  | .BoolOp op vs _, ns, loc => evBool C vs op ns loc
  | .Compare l [op] [r] _, ns, loc => do
    let a ← ev C l ns loc
    let b ← ev C r ns loc
    cmp op a b
  | .Compare l [op, op2] [m, r] _, ns, loc => do
    let a ← ev C l ns loc
    let b ← ev C m ns loc
    let x ← cmp op a b
    boolK x (do
      let c ← ev C r ns loc
      cmp op2 b c) (pure (.bool false))
  | .Dict [] [] _, _, _ => newO (.dict [])
  | .Dict [some k] [v] _, _, _ => dict1 k v
  | .Subscript o (.Slice lo hi none _) _, ns, loc => do
    let a ← ev C o ns loc
    let l ← evOpt C lo ns loc
    let h ← evOpt C hi ns loc
    let l' ← bound l
    let h' ← bound h
    sliceV l' h' a
  | .Subscript o i _, ns, loc => do
    let a ← ev C o ns loc
    let b ← ev C i ns loc
    item a b
  | .List es _, ns, loc => do
    let vs ← evs C es ns loc
    if vs.length ≤ sizeLine then newO (.list vs) else M.bad
  | .Tuple es _ _, ns, loc => do
    let vs ← evs C es ns loc
    if vs.length ≤ sizeLine then pure (.tup vs) else M.bad
  | .Call (.Name f _) as [] _, ns, loc =>
    if isGlob ns f then
      (if f = ("isinstance" : Str) then evIsi C as ns loc
      else do
        let vs ← evs C as ns loc
        callGlob C f vs)
    else M.bad
  | .Call (.Attribute o m ap) as [] p, ns, loc =>
    if ap.endLine = p.line ∧ as.length < 30 ∧ isSuper o = false then do
      let v ← ev C o ns loc
      let tg ← askS (mtag v m)
      let vs ← evs C as ns loc
      runM tg v vs
    else M.bad
  | .ListComp elt [⟨target, iter, ifs, 0⟩] scope _, ns, loc => do
    let s ← src C iter ns loc (ev C iter ns loc)
    if tgtOk s target && compOk scope.kind scope.names then do
      let n ← s.count
      let loc' ← innerLoc ns loc scope.names
      let l ← compLoop s (bindTo (stLocL (relab ns scope.names)) target) (tests C ifs (relab ns scope.names)) (ev C elt (relab ns scope.names)) (n + 1) 0 loc'
      if l.length ≤ sizeLine then newO (.list l) else M.bad
    else M.bad
  | _, _, _ => M.bad

noncomputable def evOpt (C : Cfg) : Option Expr → Names → Loc → M V
  | none, _, _ => pure .none
  | some e, ns, loc => ev C e ns loc

noncomputable def evs (C : Cfg) : List Expr → Names → Loc → M (List V)
  | [], _, _ => pure []
  | e :: r, ns, loc => do
    let v ← ev C e ns loc
    let vs ← evs C r ns loc
    pure (v :: vs)

noncomputable def evIsi (C : Cfg) : List Expr → Names → Loc → M V
  | [a, b], ns, loc => match nameOf b with
    | some t => if isGlob ns t then do
        let v ← ev C a ns loc
        let k ← ofOpt (kdOf t)
        isKd k v
      else M.bad
    | none => M.bad
  | _, _, _ => M.bad

noncomputable def evBool (C : Cfg) : List Expr → BoolOp → Names → Loc → M V
  | [], _, _, _ => M.bad
  | e :: r, op, ns, loc => do
    let v ← ev C e ns loc
    match r with
    | [] => pure v
    | _ :: _ => do
      let t ← truth v
      match op, t with
      | .And, false => pure v
      | .Or, true => pure v
      | _, _ => evBool C r op ns loc

noncomputable def tst (C : Cfg) : Expr → Names → Loc → M V → M Bool
  | .UnaryOp .Not x _, ns, loc, _ => do
    let b ← tst C x ns loc (ev C x ns loc)
    pure (!b)
  | .BoolOp op vs _, ns, loc, _ => tstAll C vs op ns loc
  | _, _, _, whole => do
    let v ← whole
    truth v

noncomputable def tstAll (C : Cfg) : List Expr → BoolOp → Names → Loc → M Bool
  | [], op, _, _ => pure (op == .And)
  | e :: r, op, ns, loc => do
    let b ← tst C e ns loc (ev C e ns loc)
    match op, b with
    | .And, false => pure false
    | .Or, true => pure true
    | _, _ => tstAll C r op ns loc

noncomputable def tests (C : Cfg) : List Expr → Names → Loc → M Bool
  | [], _, _ => pure true
  | e :: r, ns, loc => match r with
    | [] => tst C e ns loc (ev C e ns loc)
    | _ :: _ => M.bad

noncomputable def src (C : Cfg) : Expr → Names → Loc → M V → M Src
  | .Call (.Name f _) as [] _, ns, loc, whole =>
    (match as with
    | [a] => if srcTag C ns f = 1 then (do
        let v ← ev C a ns loc
        rangeOf v)
      else (do
        let v ← whole
        srcV v)
    | _ => do
      let v ← whole
      srcV v)
  | _, _, _, whole => do
    let v ← whole
    srcV v
end

/-! ### statements -/
noncomputable def andThen (r : Fl × Loc) (k : Loc → M (Fl × Loc)) : M (Fl × Loc) := match r.1 with
  | .next => k r.2
  | f => pure (f, r.2)

noncomputable def forLoop (s : Src) (bindT : V → Loc → M Loc) (body : Loc → M (Fl × Loc)) : Nat → Nat → Loc → M (Fl × Loc)
  | 0, _, _ => M.bad
  | k + 1, i, loc => do
    match ← s.get i with
    | none => pure (.next, loc)
    | some v => do
      let loc' ← bindT v loc
      let r ← body loc'
      match r.1 with
      | .next => forLoop s bindT body k (i + 1) r.2
      | .cont => forLoop s bindT body k (i + 1) r.2
      | .brk => pure (.next, r.2)
      | .ret v => pure (.ret v, r.2)

mutual
noncomputable def ex (C : Cfg) : Stmt → Names → Loc → M (Fl × Loc)
  | .Expr (.Call f as [] p) _, ns, loc => do
    let _ ← ev C (.Call f as [] p) ns loc
    pure (.next, loc)
  | .Pass _, _, loc => pure (.next, loc)
  | .Return none _, _, loc => pure (.ret .none, loc)
  | .Return (some e) _, ns, loc => do
    let v ← ev C e ns loc
    pure (.ret v, loc)
  | .Assign [.Name x _] value _, ns, loc => do
    let v ← ev C value ns loc
    let loc' ← stLoc ns x v loc
    pure (.next, loc')
  | .Assign [.Subscript o i _] value _, ns, loc => do
    let v ← ev C value ns loc
    let a ← ev C o ns loc
    let b ← ev C i ns loc
    setItem a b v
    pure (.next, loc)
  | .If t a b _, ns, loc => do
    if ← tst C t ns loc (ev C t ns loc) then exs C a ns loc else exs C b ns loc
  | .For target iter body [] _, ns, loc => do
    let s ← src C iter ns loc (ev C iter ns loc)
    if tgtOk s target then do
      let n ← s.count
      forLoop s (bindTo (stLoc ns) target) (exs C body ns) (n + 1) 0 loc
    else M.bad
  | _, _, _ => M.bad

noncomputable def exs (C : Cfg) : List Stmt → Names → Loc → M (Fl × Loc)
  | [], _, loc => pure (.next, loc)
  | s :: r, ns, loc => do
    let x ← ex C s ns loc
    andThen x (exs C r ns)
end

/-! ### functions -/
structure Fn where
  params : List Str
  names : Names
  body : List Stmt

noncomputable def initLoc (params : List Str) (args : List V) : Names → Loc
  | [] => []
  | (x, _) :: r => ((params.zip args).lookup x) :: initLoc params args r

noncomputable def callFn (C : Cfg) (f : Fn) (args : List V) : M V :=
  if args.length = f.params.length then do
    let r ← exs C f.body f.names (initLoc f.params args f.names)
    pure (match r.1 with | .ret v => v | _ => .none)
  else M.bad

/-- calls of at most so many deep -/
noncomputable def callN (fns : Str → Option Fn) (glob : Str → Option V) : Nat → Str → List V → M V
  | 0, _, _ => M.bad
  | n + 1, f, args => match fns f with
    | some fn => callFn ⟨fun x => (fns x).isSome, callN fns glob n, glob⟩ fn args
    | none => M.bad

/-- the defs of a text -/
noncomputable def fnsOf : List Stmt → Str → Option Fn
  | [], _ => none
  | .FunctionDef name args body _ _ _ scope _ _ _ :: r, x => match x == name with
    | true => some ⟨args.args.map (·.arg), scope.names, body⟩
    | false => fnsOf r x
  | _ :: r, x => fnsOf r x

end Mine

namespace Mine
open PySem PyProof.Rows

/-! ## The relation to the heap -/

abbrev Map := List (Addr × Addr)

noncomputable def tupO (vs : List Value) (n : Nat) : Obj := { cls := .type "tuple", data := .seq vs.toArray n }
noncomputable def listO (vs : List Value) (n : Nat) : Obj := { cls := .type "list", data := .seq vs.toArray n }

mutual
inductive Rel (ρ : Map) (h : Heap) : Value → V → Prop
  | none : Rel ρ h .none .none
  | bool (b : Bool) : Rel ρ h (.bool b) (.bool b)
  | int (i : Int) (t : Tok) : Rel ρ h (.int i t) (.int i)
  | str (x : Str) (t : Tok) : SOk x → Rel ρ h (.str x t) (.str x)
  | tup {a : Addr} {vs : List Value} {n : Nat} {l : List V} : h.get? a = some (tupO vs n) → vs.length ≤ sizeLine → RelAll ρ h vs l → Rel ρ h (.ref a) (.tup l)
  | ref {a d : Addr} {n : Nat} : ρ[n]? = some (a, d) → Rel ρ h (.ref a) (.ref n)
inductive RelAll (ρ : Map) (h : Heap) : List Value → List V → Prop
  | nil : RelAll ρ h [] []
  | cons {v : Value} {vs : List Value} {x : V} {l : List V} : Rel ρ h v x → RelAll ρ h vs l → RelAll ρ h (v :: vs) (x :: l)
end

/-! keys of a dict -/
noncomputable def keyIs : Key → Value → Bool
  | .inl i, v => Value.isInt i v
  | .inr x, v => Value.isStrOf x v
noncomputable def keyHash (w : World) : Key → Int
  | .inl i => hashInt i
  | .inr x => hashStr w x
theorem keyIs_shape : ∀ {k : Key} {v : Value}, keyIs k v = true → (∃ i t, k = .inl i ∧ v = .int i t) ∨ ∃ x t, k = .inr x ∧ v = .str x t
  | .inl i, v, h => let ⟨t, e⟩ := Value.isInt_shape (k := i) h; .inl ⟨i, t, rfl, e⟩
  | .inr x, v, h => let ⟨t, e⟩ := Value.isStrOf_shape (x := x) h; .inr ⟨x, t, rfl, e⟩
theorem isInt_same (i : Int) (t : Tok) : Value.isInt i (.int i t) = true := by simp [Value.isInt]
theorem isStrOf_same (x : Str) (t : Tok) : Value.isStrOf x (.str x t) = true := by simp [Value.isStrOf]
theorem eqBool_int_str {prog : Program} {w : World} {A : Around} {E : Value → Shared → Prop} {s : Shared} {a : Int} {t : Tok} {b : Str} {u : Tok} {Q : Bool → Shared → Prop} (h : Q false s) : wpAny (model prog w) A (eqBool (.int a t) (.str b u)) Q E s := by
  unfold eqBool
  refine wpAny_holding ?_
  have e : (Value.int a t == Value.str b u) = false := rfl
  rw [if_neg (by rw [e]; decide)]
  show wpAny _ _ (compareOp .Eq (Value.int a t) (Value.str b u) >>= _) Q E s
  exact wpAny_bind (EqMixed.eq_int_str (wpAny_truthy_bool h))
theorem eqBool_str_int {prog : Program} {w : World} {A : Around} {E : Value → Shared → Prop} {s : Shared} {a : Int} {t : Tok} {b : Str} {u : Tok} {Q : Bool → Shared → Prop} (h : Q false s) : wpAny (model prog w) A (eqBool (.str b u) (.int a t)) Q E s := by
  unfold eqBool
  refine wpAny_holding ?_
  have e : (Value.str b u == Value.int a t) = false := rfl
  rw [if_neg (by rw [e]; decide)]
  show wpAny _ _ (compareOp .Eq (Value.str b u) (Value.int a t) >>= _) Q E s
  exact wpAny_bind (EqMixed.eq_str_int (wpAny_truthy_bool h))
noncomputable def keyKind (prog : Program) (w : World) : KeyKind prog w Key where
  is := keyIs
  hash := keyHash w
  inj := fun v a b ha hb => by
    rcases keyIs_shape ha with ⟨i, t, rfl, rfl⟩ | ⟨x, t, rfl, rfl⟩
    · rcases keyIs_shape hb with ⟨j, u, rfl, e⟩ | ⟨y, u, rfl, e⟩
      · cases e; rfl
      · cases e
    · rcases keyIs_shape hb with ⟨j, u, rfl, e⟩ | ⟨y, u, rfl, e⟩
      · cases e
      · cases e; rfl
  byValue := fun k v h => by rcases keyIs_shape h with ⟨i, t, _, rfl⟩ | ⟨x, t, _, rfl⟩ <;> rfl
  pyHash := fun hv h => by
    rcases keyIs_shape hv with ⟨i, t, rfl, rfl⟩ | ⟨x, t, rfl, rfl⟩
    · exact wpAny_pyHash_int h
    · exact wpAny_pyHash_str h
  eqBool := fun {A E s a b u v Q} hu hv h => by
    rcases keyIs_shape hu with ⟨i, t, rfl, rfl⟩ | ⟨x, t, rfl, rfl⟩
    · rcases keyIs_shape hv with ⟨j, t', rfl, rfl⟩ | ⟨y, t', rfl, rfl⟩
      · refine wpAny_eqBool_int ?_
        have e : (i == j) = decide ((Sum.inl i : Key) = .inl j) := by
          by_cases hij : i = j
          · subst hij; simp
          · rw [decide_eq_false (fun e => hij (Sum.inl.inj e))]; exact beq_false_of_ne hij
        rw [e]; exact h
      · exact eqBool_int_str h
    · rcases keyIs_shape hv with ⟨j, t', rfl, rfl⟩ | ⟨y, t', rfl, rfl⟩
      · exact eqBool_str_int h
      · refine wpAny_eqBool_str ?_
        have e : decide (x = y) = decide ((Sum.inr x : Key) = .inr y) := by
          by_cases hxy : x = y
          · subst hxy; simp
          · rw [decide_eq_false hxy, decide_eq_false (fun e => hxy (Sum.inr.inj e))]
        rw [e]; exact h
  «strs» := fun k x t v h => by
    rcases keyIs_shape h with ⟨i, t', rfl, e⟩ | ⟨y, t', rfl, e⟩
    · cases e
    · cases e; exact (strKind prog w).«strs» x x t v (isStrOf_same x t)

/-- a dict's keys and values -/
inductive Ents (ρ : Map) (h : Heap) : List (Key × Value) → List (Key × V) → Prop
  | nil : Ents ρ h [] []
  | cons {k : Key} {v : Value} {x : V} {kvs : List (Key × Value)} {l : List (Key × V)} : (∀ s, k = .inr s → SOk s) → Rel ρ h v x → Ents ρ h kvs l → Ents ρ h ((k, v) :: kvs) ((k, x) :: l)

noncomputable def ORel (prog : Program) (w : World) (ρ : Map) (h : Heap) (p : Addr × Addr) : O → Prop
  | .list l => p.2 = p.1 ∧ ∃ vs n, h.get? p.1 = some (listO vs n) ∧ vs.length ≤ sizeLine ∧ RelAll ρ h vs l
  | .dict l => p.2 = p.1 ∧ (p.1 == sysModules) = false ∧ ∃ kvs, h.DictOf (keyKind prog w) p.1 kvs ∧ kvs.length ≤ sizeLine ∧ Ents ρ h kvs l
  | .inst _ _ => False

structure Inv (prog : Program) (w : World) (h₀ : Heap) (σ : Store) (ρ : Map) (h : Heap) : Prop where
  base : ∀ b o, h₀.get? b = some o → h.get? b = some o
  len : ρ.length = σ.length
  objs : ∀ (n : Nat) (o : O) (p : Addr × Addr), σ[n]? = some o → ρ[n]? = some p → ORel prog w ρ h p o
  fresh : ∀ (n : Nat) (p : Addr × Addr), ρ[n]? = some p → 0 < n → h₀.get? p.1 = none ∧ h₀.get? p.2 = none
  apart : ∀ (i j : Nat) (p q : Addr × Addr), ρ[i]? = some p → ρ[j]? = some q → i ≠ j → p.1 ≠ q.1 ∧ p.1 ≠ q.2 ∧ p.2 ≠ q.1 ∧ p.2 ≠ q.2

structure Ext (W : List Addr) (ρ : Map) (h : Heap) (ρ' : Map) (h' : Heap) : Prop where
  pre : ∀ (n : Nat) (p : Addr × Addr), ρ[n]? = some p → ρ'[n]? = some p
  keep : ∀ b o, h.get? b = some o → b ∉ W → (∀ p ∈ ρ, b ≠ p.1 ∧ b ≠ p.2) → h'.get? b = some o
  tups : ∀ b vs n, h.get? b = some (tupO vs n) → h'.get? b = some (tupO vs n)
  alive : ∀ b o, h.get? b = some o → ∃ o', h'.get? b = some o'
  new : ∀ (i : Nat) (p : Addr × Addr), ρ'[i]? = some p → ρ.length ≤ i → h.get? p.1 = none ∧ h.get? p.2 = none

section
variable {W : List Addr} {ρ ρ' ρ'' : Map} {h h' h'' : Heap}

theorem Ext.refl : Ext W ρ h ρ h where
  pre := fun _ _ e => e
  keep := fun _ _ e _ _ => e
  tups := fun _ _ _ e => e
  alive := fun _ o e => ⟨o, e⟩
  new := fun i p e hi => by rw [List.getElem?_eq_none hi] at e; cases e

theorem Ext.len_le (x : Ext W ρ h ρ' h') : ρ.length ≤ ρ'.length := by
  rcases Nat.lt_or_ge ρ'.length ρ.length with hl | hl
  · have := x.pre ρ'.length _ (List.getElem?_eq_getElem hl)
    rw [List.getElem?_eq_none (Nat.le_refl _)] at this; cases this
  · exact hl

theorem Ext.trans (x : Ext W ρ h ρ' h') (y : Ext W ρ' h' ρ'' h'') : Ext W ρ h ρ'' h'' where
  pre := fun n p e => y.pre n p (x.pre n p e)
  keep := fun b o e hW hρ => by
    refine y.keep b o (x.keep b o e hW hρ) hW fun p hp => ?_
    obtain ⟨i, hi⟩ := List.getElem?_of_mem hp
    rcases Nat.lt_or_ge i ρ.length with hl | hl
    · have h1 := x.pre i _ (List.getElem?_eq_getElem hl)
      rw [hi] at h1; cases h1
      exact hρ _ (List.getElem_mem hl)
    · obtain ⟨n1, n2⟩ := x.new i p hi hl
      exact ⟨fun eq => (by rw [← eq, e] at n1; cases n1), fun eq => (by rw [← eq, e] at n2; cases n2)⟩
  tups := fun b vs n e => y.tups b vs n (x.tups b vs n e)
  alive := fun b o e => let ⟨o', e'⟩ := x.alive b o e; y.alive b o' e'
  new := fun i p e hi => by
    rcases Nat.lt_or_ge i ρ'.length with hl | hl
    · have h1 := y.pre i _ (List.getElem?_eq_getElem hl)
      rw [e] at h1; cases h1
      exact x.new i _ (List.getElem?_eq_getElem hl) hi
    · obtain ⟨n1, n2⟩ := y.new i p e hl
      refine ⟨?_, ?_⟩
      · cases e1 : h.get? p.1 with
        | none => rfl
        | some o => obtain ⟨o', e'⟩ := x.alive _ _ e1; rw [n1] at e'; cases e'
      · cases e1 : h.get? p.2 with
        | none => rfl
        | some o => obtain ⟨o', e'⟩ := x.alive _ _ e1; rw [n2] at e'; cases e'

theorem Ext.weak {W' : List Addr} (x : Ext W ρ h ρ' h') (hw : ∀ b ∈ W, b ∈ W' ∨ h.get? b = none) : Ext W' ρ h ρ' h' where
  pre := x.pre
  keep := fun b o e hW hρ => x.keep b o e (fun hm => (hw b hm).elim hW fun e' => by rw [e] at e'; cases e') hρ
  tups := x.tups
  alive := x.alive
  new := x.new

/-- a heap that keeps all but the frame -/
theorem Ext.of_keep (hk : ∀ b o, h.get? b = some o → b ∉ W → h'.get? b = some o) (ht : ∀ b o, h.get? b = some o → b ∈ W → (∀ vs n, o ≠ tupO vs n) ∧ ∃ o', h'.get? b = some o') : Ext W ρ h ρ h' where
  pre := fun _ _ e => e
  keep := fun b o e hW _ => hk b o e hW
  tups := fun b vs n e => hk b _ e fun hm => (ht b _ e hm).1 vs n rfl
  alive := fun b o e => by
    by_cases hm : b ∈ W
    · exact (ht b o e hm).2
    · exact ⟨o, hk b o e hm⟩
  new := fun i p e hi => by rw [List.getElem?_eq_none hi] at e; cases e

theorem Ext.of_keeps (hk : ∀ b o, h.get? b = some o → h'.get? b = some o) : Ext W ρ h ρ h' where
  pre := fun _ _ e => e
  keep := fun b o e _ _ => hk b o e
  tups := fun b _ _ e => hk b _ e
  alive := fun b o e => ⟨o, hk b o e⟩
  new := fun i p e hi => by rw [List.getElem?_eq_none hi] at e; cases e

noncomputable def Sub (ρ : Map) (h : Heap) (ρ' : Map) (h' : Heap) : Prop :=
  (∀ (n : Nat) (p : Addr × Addr), ρ[n]? = some p → ρ'[n]? = some p) ∧ ∀ b vs n, h.get? b = some (tupO vs n) → h'.get? b = some (tupO vs n)
theorem Ext.sub (x : Ext W ρ h ρ' h') : Sub ρ h ρ' h' := ⟨x.pre, x.tups⟩
theorem Sub.snoc {p : Addr × Addr} : Sub ρ h (ρ ++ [p]) h := ⟨fun n q e => by
  rw [List.getElem?_append_left (by rcases Nat.lt_or_ge n ρ.length with hl | hl; exact hl; rw [List.getElem?_eq_none hl] at e; cases e)]; exact e, fun _ _ _ e => e⟩
theorem Sub.trans (x : Sub ρ h ρ' h') (y : Sub ρ' h' ρ'' h'') : Sub ρ h ρ'' h'' := ⟨fun n p e => y.1 n p (x.1 n p e), fun b vs n e => y.2 b vs n (x.2 b vs n e)⟩
theorem Sub.keeps (hk : ∀ b o, h.get? b = some o → h'.get? b = some o) : Sub ρ h ρ h' := ⟨fun _ _ e => e, fun b _ _ e => hk b _ e⟩
mutual
theorem Rel.sub (x : Sub ρ h ρ' h') : ∀ {v : Value} {a : V}, Rel ρ h v a → Rel ρ' h' v a
  | _, _, .none => .none
  | _, _, .bool b => .bool b
  | _, _, .int i t => .int i t
  | _, _, .str s t hs => .str s t hs
  | _, _, .tup e hl r => .tup (x.2 _ _ _ e) hl (RelAll.sub x r)
  | _, _, .ref e => .ref (x.1 _ _ e)
theorem RelAll.sub (x : Sub ρ h ρ' h') : ∀ {vs : List Value} {l : List V}, RelAll ρ h vs l → RelAll ρ' h' vs l
  | _, _, .nil => .nil
  | _, _, .cons r rs => .cons (Rel.sub x r) (RelAll.sub x rs)
end
theorem Rel.ext (x : Ext W ρ h ρ' h') {v : Value} {a : V} (r : Rel ρ h v a) : Rel ρ' h' v a := r.sub x.sub
theorem RelAll.ext (x : Ext W ρ h ρ' h') {vs : List Value} {l : List V} (r : RelAll ρ h vs l) : RelAll ρ' h' vs l := r.sub x.sub

theorem Ents.sub (x : Sub ρ h ρ' h') : ∀ {kvs : List (Key × Value)} {l : List (Key × V)}, Ents ρ h kvs l → Ents ρ' h' kvs l
  | _, _, .nil => .nil
  | _, _, .cons hs r rs => .cons hs (r.sub x) (Ents.sub x rs)
theorem Ents.length : ∀ {kvs : List (Key × Value)} {l : List (Key × V)}, Ents ρ h kvs l → kvs.length = l.length
  | _, _, .nil => rfl
  | _, _, .cons _ _ r => by rw [List.length_cons, List.length_cons, Ents.length r]
theorem Ents.keys : ∀ {kvs : List (Key × Value)} {l : List (Key × V)}, Ents ρ h kvs l → kvs.map (·.1) = l.map (·.1)
  | _, _, .nil => rfl
  | _, _, .cons _ _ r => by rw [List.map_cons, List.map_cons, Ents.keys r]
theorem RelAll.length : ∀ {vs : List Value} {l : List V}, RelAll ρ h vs l → vs.length = l.length
  | _, _, .nil => rfl
  | _, _, .cons _ r => by rw [List.length_cons, List.length_cons, RelAll.length r]
theorem RelAll.append : ∀ {vs ws : List Value} {l m : List V}, RelAll ρ h vs l → RelAll ρ h ws m → RelAll ρ h (vs ++ ws) (l ++ m)
  | _, _, _, _, .nil, r => r
  | _, _, _, _, .cons a r, s => .cons a (RelAll.append r s)
theorem RelAll.get : ∀ {vs : List Value} {l : List V} {k : Nat} {x : V}, RelAll ρ h vs l → l[k]? = some x → ∃ v, vs[k]? = some v ∧ Rel ρ h v x
  | _, _, _, _, .nil, e => by simp at e
  | _, _, 0, _, .cons a _, e => by simp at e; subst e; exact ⟨_, rfl, a⟩
  | _, _, k + 1, _, .cons _ r, e => by
    simp only [List.getElem?_cons_succ] at e ⊢
    exact RelAll.get r e
theorem RelAll.get_none {vs : List Value} {l : List V} {k : Nat} (r : RelAll ρ h vs l) (e : l[k]? = none) : vs[k]? = none := by
  rw [List.getElem?_eq_none_iff] at e ⊢
  rw [r.length]; exact e
end

/-! ## Simulation -/
section
variable (prog : Program) (w : World) (h₀ : Heap)

inductive Post (W : List Addr) (ρ : Map) (s : Shared) (σ' : Store) (R : Map → Heap → Prop) (s' : Shared) : Prop
  | mk (ρ' : Map) (h' : Heap) (tk : Nat) (e : s' = { s with heap := h', toks := tk }) (i : Inv prog w h₀ σ' ρ' h') (x : Ext W ρ s.heap ρ' h') (r : R ρ' h') : Post W ρ s σ' R s'

noncomputable def Sim (A : Around) (W : List Addr) {α β : Type} (t : Sem β) (r : Res α) (R : α → Map → Heap → β → Prop) (ρ : Map) (s : Shared) : Prop :=
  match r with
  | .bad => True
  | .exc _ _ => True
  | .ok a σ' => wpAny (model prog w) A t (fun b s' => Post prog w h₀ W ρ s σ' (fun ρ' h' => R a ρ' h' b) s') (fun _ _ => False) s
end

section
variable {prog : Program} {w : World} {h₀ : Heap} {A : Around} {W : List Addr} {ρ : Map} {s : Shared} {α β γ δ : Type} {σ : Store}

theorem Post.mono {σ' : Store} {R R' : Map → Heap → Prop} {s' : Shared} (h : ∀ ρ' h', R ρ' h' → R' ρ' h') : Post prog w h₀ W ρ s σ' R s' → Post prog w h₀ W ρ s σ' R' s' :=
  fun ⟨ρ', h', tk, e, i, x, r⟩ => ⟨ρ', h', tk, e, i, x, h _ _ r⟩

theorem Sim.bind {t : Sem β} {f : β → Sem γ} {m : M α} {k : α → M δ} {R : α → Map → Heap → β → Prop} {R' : δ → Map → Heap → γ → Prop}
    (h1 : Sim prog w h₀ A W t (m σ) R ρ s)
    (h2 : ∀ a σ₁ ρ₁ H tk b, Inv prog w h₀ σ₁ ρ₁ H → Ext W ρ s.heap ρ₁ H → R a ρ₁ H b → Sim prog w h₀ A W (f b) (k a σ₁) R' ρ₁ { s with heap := H, toks := tk }) :
    Sim prog w h₀ A W (t >>= f) ((m >>= k) σ) R' ρ s := by
  show Sim prog w h₀ A W (t >>= f) (match m σ with | .ok a σ' => k a σ' | .exc e σ' => .exc e σ' | .bad => .bad) R' ρ s
  cases e : m σ with
  | bad => exact trivial
  | exc _ _ => exact trivial
  | ok a σ₁ =>
    rw [e] at h1
    show Sim prog w h₀ A W (t >>= f) (k a σ₁) R' ρ s
    cases e2 : k a σ₁ with
    | bad => exact trivial
    | exc _ _ => exact trivial
    | ok d σ₂ =>
      refine wpAny_bind (wpAny_mono h1 (fun b s' hp => ?_) fun _ _ h' => h'.elim)
      obtain ⟨ρ₁, H, tk, rfl, i, x, r⟩ := hp
      have := h2 a σ₁ ρ₁ H tk b i x r
      rw [e2] at this
      refine wpAny_mono this (fun c s'' hp' => ?_) fun _ _ h' => h'
      obtain ⟨ρ₂, H₂, tk₂, rfl, i₂, x₂, r₂⟩ := hp'
      exact ⟨ρ₂, H₂, tk₂, rfl, i₂, x.trans x₂, r₂⟩

theorem Sim.ret {b : β} {a : α} {R : α → Map → Heap → β → Prop} (i : Inv prog w h₀ σ ρ s.heap) (r : R a ρ s.heap b) :
    Sim prog w h₀ A W (Pure.pure b : Sem β) ((Pure.pure a : M α) σ) R ρ s :=
  wpAny_pure ⟨ρ, s.heap, s.toks, rfl, i, Ext.refl, r⟩

theorem Sim.bad {t : Sem β} {R : α → Map → Heap → β → Prop} : Sim prog w h₀ A W t (M.bad (α := α) σ) R ρ s := trivial

theorem Sim.mono {t : Sem β} {r : Res α} {R R' : α → Map → Heap → β → Prop} (h : Sim prog w h₀ A W t r R ρ s) (hr : ∀ a ρ' h' b, R a ρ' h' b → R' a ρ' h' b) :
    Sim prog w h₀ A W t r R' ρ s := by
  cases r with
  | bad => exact trivial
  | exc _ _ => exact trivial
  | ok a σ' => exact wpAny_mono h (fun b s' hp => hp.mono fun _ _ => hr a _ _ b) fun _ _ x => x

theorem Sim.weak {W' : List Addr} {t : Sem β} {r : Res α} {R : α → Map → Heap → β → Prop} (h : Sim prog w h₀ A W t r R ρ s) (hw : ∀ b ∈ W, b ∈ W' ∨ s.heap.get? b = none) :
    Sim prog w h₀ A W' t r R ρ s := by
  cases r with
  | bad => exact trivial
  | exc _ _ => exact trivial
  | ok a σ' => exact wpAny_mono h (fun b s' ⟨ρ', h', tk, e, i, x, r⟩ => ⟨ρ', h', tk, e, i, x.weak hw, r⟩) fun _ _ x => x

/-- a tree that does not touch the state ahead -/
theorem Sim.ahead {t : Sem PUnit} {f : PUnit → Sem β} {r : Res α} {R : α → Map → Heap → β → Prop} (ht : ∀ (Q : PUnit → Shared → Prop) (E : Value → Shared → Prop), Q ⟨⟩ s → wpAny (model prog w) A t Q E s)
    (h : Sim prog w h₀ A W (f ⟨⟩) r R ρ s) : Sim prog w h₀ A W (t >>= f) r R ρ s := by
  cases r with
  | bad => exact trivial
  | exc _ _ => exact trivial
  | ok a σ' => exact wpAny_bind (ht _ _ h)

/-- a tree ahead that gives a value and leaves the state -/
theorem Sim.first {γ : Type} {t : Sem γ} {f : γ → Sem β} {c : γ} {r : Res α} {R : α → Map → Heap → β → Prop} (ht : ∀ (Q : γ → Shared → Prop) (E : Value → Shared → Prop), Q c s → wpAny (model prog w) A t Q E s)
    (h : Sim prog w h₀ A W (f c) r R ρ s) : Sim prog w h₀ A W (t >>= f) r R ρ s := by
  cases r with
  | bad => exact trivial
  | exc _ _ => exact trivial
  | ok a σ' => exact wpAny_bind (ht _ _ h)

theorem Sim.standAt {p : Pos} {f : PUnit → Sem β} {r : Res α} {R : α → Map → Heap → β → Prop} (h : Sim prog w h₀ A W (f ⟨⟩) r R ρ s) :
    Sim prog w h₀ A W (PySem.standAt p >>= f) r R ρ s := Sim.ahead (fun _ _ hq => wpAny_standAt hq) h

theorem Sim.holding {vs : List Value} {t : Sem β} {r : Res α} {R : α → Map → Heap → β → Prop} (h : Sim prog w h₀ A W t r R ρ s) :
    Sim prog w h₀ A W (PySem.holding vs t) r R ρ s := by
  cases r with
  | bad => exact trivial
  | exc _ _ => exact trivial
  | ok a σ' => exact wpAny_holding h

theorem Sim.of_wp {t : Sem β} {a : α} {σ' : Store} {R : α → Map → Heap → β → Prop}
    (h : wpAny (model prog w) A t (fun b s' => Post prog w h₀ W ρ s σ' (fun ρ' h' => R a ρ' h' b) s') (fun _ _ => False) s) : Sim prog w h₀ A W t (.ok a σ') R ρ s := h
end

end Mine

namespace Mine
open PySem

/-! ## the same run, with what comes behind at hand -/
variable {α : Type}

/-- a comprehension, what it walks at hand -/
noncomputable def compAll (C : Cfg) (elt target : Expr) (ifs : List Expr) (scope : Scope) (s : Src) (ns : Names) (loc : Loc) : M V :=
  if tgtOk s target && compOk scope.kind scope.names then
    s.count >>= fun n => innerLoc ns loc scope.names >>= fun loc' =>
    compLoop s (bindTo (stLocL (relab ns scope.names)) target) (tests C ifs (relab ns scope.names)) (ev C elt (relab ns scope.names)) (n + 1) 0 loc' >>= fun l =>
    (if l.length ≤ sizeLine then newO (.list l) else M.bad)
  else M.bad
/-- a loop, what it walks at hand -/
noncomputable def forAll (C : Cfg) (target : Expr) (body : List Stmt) (s : Src) (ns : Names) (loc : Loc) : M (Fl × Loc) :=
  if tgtOk s target then s.count >>= fun n => forLoop s (bindTo (stLoc ns) target) (exs C body ns) (n + 1) 0 loc else M.bad

/-- a plain value, then what comes behind -/
noncomputable def constK (c : Const) (k : V → M α) : M α := match c with
  | .none => k .none
  | .bool b => k (.bool b)
  | .int i => k (.int i)
  | .str s => if SOk s then k (.str s) else M.bad
  | _ => M.bad
noncomputable def optK {β : Type} (o : Option β) (k : β → M α) : M α := match o with
  | some v => k v
  | none => M.bad
noncomputable def nameK (C : Cfg) (ns : Names) (x : Str) (loc : Loc) (k : V → M α) : M α := match slot ns x with
  | some (i, .local) => optK loc[i]?.join k
  | some (i, .cell) => optK loc[i]?.join k
  | some (_, .globalImplicit) => optK (C.glob x) k
  | _ => M.bad
mutual
noncomputable def evK (C : Cfg) : Expr → Names → Loc → (V → M α) → M α
  | .Constant c _ _, _, _, k => constK c k
  | .Name x _, ns, loc, k => if x = ("__debug__" : Str) then M.bad else nameK C ns x loc k
  | .BinOp l op r _, ns, loc, k => evK C l ns loc fun a => evK C r ns loc fun b => binop op a b >>= k
  | .UnaryOp .Not x _, ns, loc, k => evK C x ns loc fun a => truth a >>= fun t => k (.bool (!t))
  | .UnaryOp .USub (.Constant (.int i) _ _) _, _, _, k => k (.int (-i))
  | .BoolOp op vs _, ns, loc, k => evBoolK C vs op ns loc k
  | .Compare l [op] [r] _, ns, loc, k => evK C l ns loc fun a => evK C r ns loc fun b => cmp op a b >>= k
  | .Compare l [op, op2] [m, r] _, ns, loc, k => evK C l ns loc fun a => evK C m ns loc fun b => cmp op a b >>= fun x => boolK x (evK C r ns loc fun c => cmp op2 b c >>= k) (k (.bool false))
  | .Dict [] [] _, _, _, k => newO (.dict []) >>= k
  | .Dict [some e] [v] _, _, _, k => dict1 e v >>= k
  | .Subscript o (.Slice lo hi none _) _, ns, loc, k => evK C o ns loc fun a => evOptK C lo ns loc fun l => evOptK C hi ns loc fun h => bound l >>= fun l' => bound h >>= fun h' => sliceV l' h' a >>= k
  | .Subscript o i _, ns, loc, k => evK C o ns loc fun a => evK C i ns loc fun b => item a b >>= k
  | .List es _, ns, loc, k => evsK C es ns loc fun vs => if vs.length ≤ sizeLine then newO (.list vs) >>= k else M.bad
  | .Tuple es _ _, ns, loc, k => evsK C es ns loc fun vs => if vs.length ≤ sizeLine then k (.tup vs) else M.bad
  | .Call (.Name f _) as [] _, ns, loc, k =>
    if isGlob ns f then
      (if f = ("isinstance" : Str) then evIsiK C as ns loc k
      else evsK C as ns loc fun vs => if C.isFn f then C.call f vs >>= k else blt f vs >>= k)
    else M.bad
  | .Call (.Attribute o m ap) as [] p, ns, loc, k =>
    if ap.endLine = p.line ∧ as.length < 30 ∧ isSuper o = false then
      evK C o ns loc fun v => askS (mtag v m) >>= fun tg => evsK C as ns loc fun vs => runM tg v vs >>= k
    else M.bad
  | .ListComp elt [⟨target, iter, ifs, 0⟩] scope _, ns, loc, k => srcK C iter ns loc (evK C iter ns loc) fun s => compAll C elt target ifs scope s ns loc >>= k
  | _, _, _, _ => M.bad

noncomputable def evOptK (C : Cfg) : Option Expr → Names → Loc → (V → M α) → M α
  | none, _, _, k => k .none
  | some e, ns, loc, k => evK C e ns loc k

noncomputable def evsK (C : Cfg) : List Expr → Names → Loc → (List V → M α) → M α
  | [], _, _, k => k []
  | e :: r, ns, loc, k => evK C e ns loc fun v => evsK C r ns loc fun vs => k (v :: vs)

noncomputable def evIsiK (C : Cfg) : List Expr → Names → Loc → (V → M α) → M α
  | [a, b], ns, loc, k => match nameOf b with
    | some t => if isGlob ns t then evK C a ns loc fun v => optK (kdOf t) fun kd => isKd kd v >>= k else M.bad
    | none => M.bad
  | _, _, _, _ => M.bad

noncomputable def evBoolK (C : Cfg) : List Expr → BoolOp → Names → Loc → (V → M α) → M α
  | [], _, _, _, _ => M.bad
  | e :: r, op, ns, loc, k => evK C e ns loc fun v => match r with
    | [] => k v
    | _ :: _ => truth v >>= fun t => match op with
      | .And => cond t (evBoolK C r op ns loc k) (k v)
      | .Or => cond t (k v) (evBoolK C r op ns loc k)

noncomputable def tstK (C : Cfg) : Expr → Names → Loc → ((V → M α) → M α) → (Bool → M α) → M α
  | .UnaryOp .Not x _, ns, loc, _, k => tstK C x ns loc (evK C x ns loc) fun b => k (!b)
  | .BoolOp op vs _, ns, loc, _, k => tstAllK C vs op ns loc k
  | _, _, _, whole, k => whole fun v => truth v >>= k

noncomputable def tstAllK (C : Cfg) : List Expr → BoolOp → Names → Loc → (Bool → M α) → M α
  | [], op, _, _, k => k (op == .And)
  | e :: r, op, ns, loc, k => tstK C e ns loc (evK C e ns loc) fun b => match op with
    | .And => cond b (tstAllK C r op ns loc k) (k false)
    | .Or => cond b (k true) (tstAllK C r op ns loc k)

noncomputable def srcK (C : Cfg) : Expr → Names → Loc → ((V → M α) → M α) → (Src → M α) → M α
  | .Call (.Name f _) as [] _, ns, loc, whole, k =>
    (match as with
    | [a] => if srcTag C ns f = 1 then evK C a ns loc fun v => rangeOf v >>= k
      else whole fun v => srcV v >>= k
    | _ => whole fun v => srcV v >>= k)
  | _, _, _, whole, k => whole fun v => srcV v >>= k
end

theorem M.pure_bind {α β : Type} (a : α) (f : α → M β) : ((Pure.pure a : M α) >>= f) = f a := rfl
theorem M.bad_bind {α β : Type} (f : α → M β) : ((M.bad : M α) >>= f) = M.bad := rfl
theorem M.ite_bind {α β : Type} {c : Prop} [Decidable c] (m n : M α) (f : α → M β) : ((if c then m else n) >>= f) = if c then m >>= f else n >>= f := by split <;> rfl
theorem M.bind_congr {α β : Type} {m : M α} {f g : α → M β} (h : ∀ a, f a = g a) : (m >>= f) = (m >>= g) := by rw [funext h]

theorem constK_eq (c : Const) (k : V → M α) : constK c k = (constV c >>= k) := by
  cases c with
  | str s => show (if SOk s then k (.str s) else M.bad) = ((if SOk s then (pure (.str s) : M V) else M.bad) >>= k); rw [M.ite_bind]; rfl
  | _ => rfl
theorem optK_eq {β : Type} (o : Option β) (k : β → M α) : optK o k = (ofOpt o >>= k) := by cases o <;> rfl
theorem nameK_eq (C : Cfg) (ns : Names) (x : Str) (loc : Loc) (k : V → M α) : nameK C ns x loc k = (ldName C ns x loc >>= k) := by
  unfold nameK ldName ldLoc
  cases slot ns x with
  | none => rfl
  | some p =>
    obtain ⟨i, kd⟩ := p
    cases kd <;> first | exact optK_eq _ _ | rfl
/-- the two agree at an expression -/
structure KOk (C : Cfg) (e : Expr) : Prop where
  ev : ∀ (α : Type) (ns : Names) (loc : Loc) (k : V → M α), evK C e ns loc k = (ev C e ns loc >>= k)
  tst : ∀ (α : Type) (ns : Names) (loc : Loc) (k : Bool → M α), tstK C e ns loc (evK C e ns loc) k = (tst C e ns loc (Mine.ev C e ns loc) >>= k)
  src : ∀ (α : Type) (ns : Names) (loc : Loc) (k : Src → M α), srcK C e ns loc (evK C e ns loc) k = (Mine.src C e ns loc (Mine.ev C e ns loc) >>= k)
  slice : ∀ lo hi q, e = .Slice lo hi none q → (∀ (α : Type) (ns : Names) (loc : Loc) (k : V → M α), evOptK C lo ns loc k = (evOpt C lo ns loc >>= k)) ∧ ∀ (α : Type) (ns : Names) (loc : Loc) (k : V → M α), evOptK C hi ns loc k = (evOpt C hi ns loc >>= k)
  attr : ∀ o m q, e = .Attribute o m q → ∀ (α : Type) (ns : Names) (loc : Loc) (k : V → M α), evK C o ns loc k = (Mine.ev C o ns loc >>= k)

variable {C : Cfg}
theorem kNoSlice {e : Expr} (h : isSliceE e = false) : ∀ lo hi q, e = .Slice lo hi none q → (∀ (α : Type) (ns : Names) (loc : Loc) (k : V → M α), evOptK C lo ns loc k = (evOpt C lo ns loc >>= k)) ∧ ∀ (α : Type) (ns : Names) (loc : Loc) (k : V → M α), evOptK C hi ns loc k = (evOpt C hi ns loc >>= k) := fun lo hi q e' => by rw [e'] at h; cases h
theorem kNoAttr {e : Expr} (h : isAttrE e = false) : ∀ o m q, e = .Attribute o m q → ∀ (α : Type) (ns : Names) (loc : Loc) (k : V → M α), evK C o ns loc k = (Mine.ev C o ns loc >>= k) := fun o m q e' => by rw [e'] at h; cases h
theorem KOk.plain {e : Expr} (he : ∀ (α : Type) (ns : Names) (loc : Loc) (k : V → M α), evK C e ns loc k = (Mine.ev C e ns loc >>= k))
    (h1 : ∀ (ns : Names) (loc : Loc) (whole : M V), Mine.tst C e ns loc whole = (whole >>= fun v => truth v)) (h2 : ∀ (α : Type) (ns : Names) (loc : Loc) (whole : (V → M α) → M α) (k : Bool → M α), tstK C e ns loc whole k = whole fun v => truth v >>= k)
    (h3 : ∀ ns loc whole, Mine.src C e ns loc whole = (whole >>= srcV)) (h4 : ∀ (α : Type) (ns : Names) (loc : Loc) (whole : (V → M α) → M α) (k : Src → M α), srcK C e ns loc whole k = whole fun v => srcV v >>= k)
    (h5 : isSliceE e = false) (h6 : isAttrE e = false) : KOk C e where
  ev := he
  tst := fun α ns loc k => by rw [h1, h2, he, M.assoc]
  src := fun α ns loc k => by rw [h3, h4, he, M.assoc]
  slice := kNoSlice h5
  attr := kNoAttr h6

theorem evsK_of : ∀ {es : List Expr}, (∀ e ∈ es, KOk C e) → ∀ (α : Type) (ns : Names) (loc : Loc) (k : List V → M α), evsK C es ns loc k = (evs C es ns loc >>= k)
  | [], _, α, ns, loc, k => rfl
  | e :: r, h, α, ns, loc, k => by
    show evK C e ns loc (fun v => evsK C r ns loc fun vs => k (v :: vs)) = ((ev C e ns loc >>= fun v => evs C r ns loc >>= fun vs => pure (v :: vs)) >>= k)
    rw [(h e (List.mem_cons_self ..)).ev, M.assoc]
    refine M.bind_congr fun a => ?_
    rw [evsK_of fun e he => h e (List.mem_cons_of_mem _ he), M.assoc]
    rfl
theorem evBoolK_of : ∀ {es : List Expr}, (∀ e ∈ es, KOk C e) → ∀ (α : Type) (op : BoolOp) (ns : Names) (loc : Loc) (k : V → M α), evBoolK C es op ns loc k = (evBool C es op ns loc >>= k)
  | [], _, α, op, ns, loc, k => rfl
  | [e], h, α, op, ns, loc, k => by
    show evK C e ns loc (fun v => k v) = ((ev C e ns loc >>= fun v => pure v) >>= k)
    rw [(h e (List.mem_cons_self ..)).ev, M.assoc]
    rfl
  | e :: e2 :: r, h, α, op, ns, loc, k => by
    have ih := evBoolK_of (es := e2 :: r) fun e he => h e (List.mem_cons_of_mem _ he)
    show evK C e ns loc (fun v => truth v >>= fun t => match op with
      | .And => cond t (evBoolK C (e2 :: r) op ns loc k) (k v)
      | .Or => cond t (k v) (evBoolK C (e2 :: r) op ns loc k)) = ((ev C e ns loc >>= fun v => truth v >>= fun t => match op, t with
      | .And, false => pure v
      | .Or, true => pure v
      | _, _ => evBool C (e2 :: r) op ns loc) >>= k)
    rw [(h e (List.mem_cons_self ..)).ev, M.assoc]
    refine M.bind_congr fun a => ?_
    rw [M.assoc]
    refine M.bind_congr fun t => ?_
    cases op <;> cases t
    · rfl
    · exact ih α .And ns loc k
    · exact ih α .Or ns loc k
    · rfl
theorem tstAllK_of : ∀ {es : List Expr}, (∀ e ∈ es, KOk C e) → ∀ (α : Type) (op : BoolOp) (ns : Names) (loc : Loc) (k : Bool → M α), tstAllK C es op ns loc k = (tstAll C es op ns loc >>= k)
  | [], _, α, op, ns, loc, k => rfl
  | e :: r, h, α, op, ns, loc, k => by
    have ih := tstAllK_of (es := r) fun e he => h e (List.mem_cons_of_mem _ he)
    show tstK C e ns loc (evK C e ns loc) (fun t => match op with
      | .And => cond t (tstAllK C r op ns loc k) (k false)
      | .Or => cond t (k true) (tstAllK C r op ns loc k)) = ((tst C e ns loc (ev C e ns loc) >>= fun t => match op, t with
      | .And, false => pure false
      | .Or, true => pure true
      | _, _ => tstAll C r op ns loc) >>= k)
    rw [(h e (List.mem_cons_self ..)).tst, M.assoc]
    refine M.bind_congr fun t => ?_
    cases op <;> cases t
    · rfl
    · exact ih α .And ns loc k
    · exact ih α .Or ns loc k
    · rfl
theorem evIsiK_of : ∀ {es : List Expr}, (∀ e ∈ es, KOk C e) → ∀ (α : Type) (ns : Names) (loc : Loc) (k : V → M α), evIsiK C es ns loc k = (evIsi C es ns loc >>= k)
  | [], _, _, _, _, _ => rfl
  | [_], _, _, _, _, _ => rfl
  | [a, b], h, α, ns, loc, k => by
    show (match nameOf b with | some t => if isGlob ns t = true then evK C a ns loc fun v => optK (kdOf t) fun kd => isKd kd v >>= k else M.bad | none => M.bad) = ((match nameOf b with | some t => if isGlob ns t = true then (ev C a ns loc >>= fun v => ofOpt (kdOf t) >>= fun kd => isKd kd v) else M.bad | none => M.bad) >>= k)
    cases nameOf b with
    | none => rfl
    | some t =>
      dsimp only
      rw [M.ite_bind, M.bad_bind, (h a (List.mem_cons_self ..)).ev, M.assoc]
      congr 1
      refine M.bind_congr fun v => ?_
      rw [M.assoc, optK_eq]
  | _ :: _ :: _ :: _, _, _, _, _, _ => rfl

theorem srcK_call {f : Str} {as : List Expr} {p q : Pos} (he : ∀ (α : Type) (ns : Names) (loc : Loc) (k : V → M α), evK C (.Call (.Name f p) as [] q) ns loc k = (ev C (.Call (.Name f p) as [] q) ns loc >>= k)) (has : ∀ e ∈ as, KOk C e) :
    ∀ (α : Type) (ns : Names) (loc : Loc) (k : Src → M α), srcK C (.Call (.Name f p) as [] q) ns loc (evK C (.Call (.Name f p) as [] q) ns loc) k = (src C (.Call (.Name f p) as [] q) ns loc (ev C (.Call (.Name f p) as [] q) ns loc) >>= k) := fun α ns loc k => by
  have hw : evK C (.Call (.Name f p) as [] q) ns loc (fun v => srcV v >>= k) = ((ev C (.Call (.Name f p) as [] q) ns loc >>= fun v => srcV v) >>= k) := by rw [he, M.assoc]
  rcases as with _ | ⟨a, _ | ⟨b, r⟩⟩
  · exact hw
  · show (if srcTag C ns f = 1 then evK C a ns loc fun v => rangeOf v >>= k else evK C (.Call (.Name f p) [a] [] q) ns loc fun v => srcV v >>= k) =
      ((if srcTag C ns f = 1 then (ev C a ns loc >>= fun v => rangeOf v) else (ev C (.Call (.Name f p) [a] [] q) ns loc >>= fun v => srcV v)) >>= k)
    rw [M.ite_bind, (has a (List.mem_singleton.mpr rfl)).ev, M.assoc, hw]
  · exact hw

theorem KOk.nothing {e : Expr} (hb : ∀ ns loc, Mine.ev C e ns loc = M.bad) (hk : ∀ (α : Type) (ns : Names) (loc : Loc) (k : V → M α), evK C e ns loc k = M.bad)
    (h1 : ∀ (ns : Names) (loc : Loc) (whole : M V), Mine.tst C e ns loc whole = (whole >>= fun v => truth v)) (h2 : ∀ (α : Type) (ns : Names) (loc : Loc) (whole : (V → M α) → M α) (k : Bool → M α), tstK C e ns loc whole k = whole fun v => truth v >>= k)
    (h3 : ∀ ns loc whole, Mine.src C e ns loc whole = (whole >>= srcV)) (h4 : ∀ (α : Type) (ns : Names) (loc : Loc) (whole : (V → M α) → M α) (k : Src → M α), srcK C e ns loc whole k = whole fun v => srcV v >>= k)
    (h5 : isSliceE e = false) (h6 : isAttrE e = false) : KOk C e :=
  KOk.plain (fun α ns loc k => by rw [hb, hk]; rfl) h1 h2 h3 h4 h5 h6

theorem K_binop {l r : Expr} {op : Operator} {p : Pos} (hl : KOk C l) (hr : KOk C r) : ∀ (α : Type) (ns : Names) (loc : Loc) (k : V → M α), evK C (.BinOp l op r p) ns loc k = (ev C (.BinOp l op r p) ns loc >>= k) := fun α ns loc k => by
  show evK C l ns loc (fun a => evK C r ns loc fun b => binop op a b >>= k) = ((ev C l ns loc >>= fun a => ev C r ns loc >>= fun b => binop op a b) >>= k)
  rw [hl.ev, M.assoc]
  refine M.bind_congr fun a => ?_
  rw [hr.ev, M.assoc]
theorem K_compare {l r : Expr} {op : CmpOp} {p : Pos} (hl : KOk C l) (hr : KOk C r) : ∀ (α : Type) (ns : Names) (loc : Loc) (k : V → M α), evK C (.Compare l [op] [r] p) ns loc k = (ev C (.Compare l [op] [r] p) ns loc >>= k) := fun α ns loc k => by
  show evK C l ns loc (fun a => evK C r ns loc fun b => cmp op a b >>= k) = ((ev C l ns loc >>= fun a => ev C r ns loc >>= fun b => cmp op a b) >>= k)
  rw [hl.ev, M.assoc]
  refine M.bind_congr fun a => ?_
  rw [hr.ev, M.assoc]
theorem boolK_bind {α β : Type} (x : V) (m n : M α) (f : α → M β) : (boolK x m n >>= f) = boolK x (m >>= f) (n >>= f) := by
  cases x with
  | bool b => cases b <;> rfl
  | _ => rfl
theorem K_chain {l m r : Expr} {op op2 : CmpOp} {p : Pos} (hl : KOk C l) (hm : KOk C m) (hr : KOk C r) : ∀ (α : Type) (ns : Names) (loc : Loc) (k : V → M α), evK C (.Compare l [op, op2] [m, r] p) ns loc k = (ev C (.Compare l [op, op2] [m, r] p) ns loc >>= k) := fun α ns loc k => by
  show evK C l ns loc (fun a => evK C m ns loc fun b => cmp op a b >>= fun x => boolK x (evK C r ns loc fun c => cmp op2 b c >>= k) (k (.bool false))) =
    ((ev C l ns loc >>= fun a => ev C m ns loc >>= fun b => cmp op a b >>= fun x => boolK x (ev C r ns loc >>= fun c => cmp op2 b c) (pure (.bool false))) >>= k)
  rw [hl.ev, M.assoc]
  refine M.bind_congr fun a => ?_
  rw [hm.ev, M.assoc]
  refine M.bind_congr fun b => ?_
  rw [M.assoc]
  refine M.bind_congr fun x => ?_
  rw [boolK_bind, hr.ev, M.assoc]; rfl
theorem K_not {x : Expr} {p : Pos} (hx : KOk C x) : ∀ (α : Type) (ns : Names) (loc : Loc) (k : V → M α), evK C (.UnaryOp .Not x p) ns loc k = (ev C (.UnaryOp .Not x p) ns loc >>= k) := fun α ns loc k => by
  show evK C x ns loc (fun a => truth a >>= fun t => k (.bool (!t))) = ((ev C x ns loc >>= fun a => truth a >>= fun t => pure (V.bool (!t))) >>= k)
  rw [hx.ev, M.assoc]
  refine M.bind_congr fun a => ?_
  rw [M.assoc]; rfl
theorem K_sub {o i : Expr} {p : Pos} (ho : KOk C o) (hi : KOk C i) (he : ∀ ns loc, ev C (.Subscript o i p) ns loc = (ev C o ns loc >>= fun a => ev C i ns loc >>= fun b => item a b)) (hk : ∀ (α : Type) ns loc (k : V → M α), evK C (.Subscript o i p) ns loc k = evK C o ns loc fun a => evK C i ns loc fun b => item a b >>= k) :
    ∀ (α : Type) (ns : Names) (loc : Loc) (k : V → M α), evK C (.Subscript o i p) ns loc k = (ev C (.Subscript o i p) ns loc >>= k) := fun α ns loc k => by
  rw [he, hk, ho.ev, M.assoc]
  refine M.bind_congr fun a => ?_
  rw [hi.ev, M.assoc]
theorem K_slice {o : Expr} {lo hi : Option Expr} {p q : Pos} (ho : KOk C o) (hlo : ∀ (α : Type) (ns : Names) (loc : Loc) (k : V → M α), evOptK C lo ns loc k = (evOpt C lo ns loc >>= k)) (hhi : ∀ (α : Type) (ns : Names) (loc : Loc) (k : V → M α), evOptK C hi ns loc k = (evOpt C hi ns loc >>= k)) :
    ∀ (α : Type) (ns : Names) (loc : Loc) (k : V → M α), evK C (.Subscript o (.Slice lo hi none q) p) ns loc k = (ev C (.Subscript o (.Slice lo hi none q) p) ns loc >>= k) := fun α ns loc k => by
  show evK C o ns loc (fun a => evOptK C lo ns loc fun l => evOptK C hi ns loc fun h => bound l >>= fun l' => bound h >>= fun h' => sliceV l' h' a >>= k) =
    ((ev C o ns loc >>= fun a => evOpt C lo ns loc >>= fun l => evOpt C hi ns loc >>= fun h => bound l >>= fun l' => bound h >>= fun h' => sliceV l' h' a) >>= k)
  rw [ho.ev, M.assoc]
  refine M.bind_congr fun a => ?_
  rw [hlo, M.assoc]
  refine M.bind_congr fun l => ?_
  rw [hhi, M.assoc]
  refine M.bind_congr fun h => ?_
  rw [M.assoc]
  refine M.bind_congr fun l' => ?_
  rw [M.assoc]
theorem K_list {es : List Expr} {p : Pos} (h : ∀ e ∈ es, KOk C e) : ∀ (α : Type) (ns : Names) (loc : Loc) (k : V → M α), evK C (.List es p) ns loc k = (ev C (.List es p) ns loc >>= k) := fun α ns loc k => by
  show evsK C es ns loc (fun vs => if vs.length ≤ sizeLine then newO (.list vs) >>= k else M.bad) = ((evs C es ns loc >>= fun vs => if vs.length ≤ sizeLine then newO (.list vs) else M.bad) >>= k)
  rw [evsK_of h, M.assoc]
  refine M.bind_congr fun vs => ?_
  rw [M.ite_bind]; rfl
theorem K_tuple {es : List Expr} {p : Pos} {j : Nat} (h : ∀ e ∈ es, KOk C e) : ∀ (α : Type) (ns : Names) (loc : Loc) (k : V → M α), evK C (.Tuple es j p) ns loc k = (ev C (.Tuple es j p) ns loc >>= k) := fun α ns loc k => by
  show evsK C es ns loc (fun vs => if vs.length ≤ sizeLine then k (.tup vs) else M.bad) = ((evs C es ns loc >>= fun vs => if vs.length ≤ sizeLine then (pure (.tup vs) : M V) else M.bad) >>= k)
  rw [evsK_of h, M.assoc]
  refine M.bind_congr fun vs => ?_
  rw [M.ite_bind]; rfl
theorem KT_not {x : Expr} {p : Pos} (hx : KOk C x) : ∀ (α : Type) (ns : Names) (loc : Loc) (k : Bool → M α), tstK C (.UnaryOp .Not x p) ns loc (evK C (.UnaryOp .Not x p) ns loc) k = (tst C (.UnaryOp .Not x p) ns loc (ev C (.UnaryOp .Not x p) ns loc) >>= k) := fun α ns loc k => by
  show tstK C x ns loc (evK C x ns loc) (fun b => k (!b)) = ((tst C x ns loc (ev C x ns loc) >>= fun b => pure (!b)) >>= k)
  rw [hx.tst, M.assoc]; rfl
theorem K_callName {f : Str} {es : List Expr} {p q : Pos} (h : ∀ e ∈ es, KOk C e) : ∀ (α : Type) (ns : Names) (loc : Loc) (k : V → M α), evK C (.Call (.Name f p) es [] q) ns loc k = (ev C (.Call (.Name f p) es [] q) ns loc >>= k) := fun α ns loc k => by
  show (if isGlob ns f = true then (if f = ("isinstance" : Str) then evIsiK C es ns loc k else evsK C es ns loc fun vs => if C.isFn f = true then C.call f vs >>= k else blt f vs >>= k) else M.bad) =
    ((if isGlob ns f = true then (if f = ("isinstance" : Str) then evIsi C es ns loc else (evs C es ns loc >>= fun vs => callGlob C f vs)) else M.bad) >>= k)
  rw [M.ite_bind, M.bad_bind, M.ite_bind, evIsiK_of h, evsK_of h, M.assoc]
  congr 2
  refine M.bind_congr fun vs => ?_
  unfold callGlob
  rw [M.ite_bind]
theorem K_callMeth {o : Expr} {m : Str} {es : List Expr} {p q : Pos} (ho : ∀ (α : Type) (ns : Names) (loc : Loc) (k : V → M α), evK C o ns loc k = (ev C o ns loc >>= k)) (h : ∀ e ∈ es, KOk C e) : ∀ (α : Type) (ns : Names) (loc : Loc) (k : V → M α), evK C (.Call (.Attribute o m p) es [] q) ns loc k = (ev C (.Call (.Attribute o m p) es [] q) ns loc >>= k) := fun α ns loc k => by
  show (if p.endLine = q.line ∧ es.length < 30 ∧ isSuper o = false then evK C o ns loc (fun v => askS (mtag v m) >>= fun tg => evsK C es ns loc fun vs => runM tg v vs >>= k) else M.bad) =
    ((if p.endLine = q.line ∧ es.length < 30 ∧ isSuper o = false then (ev C o ns loc >>= fun v => askS (mtag v m) >>= fun tg => evs C es ns loc >>= fun vs => runM tg v vs) else M.bad) >>= k)
  rw [M.ite_bind, M.bad_bind, ho, M.assoc]
  congr 1
  refine M.bind_congr fun v => ?_
  rw [M.assoc]
  refine M.bind_congr fun tg => ?_
  rw [evsK_of h, M.assoc]
theorem K_comp {elt t it : Expr} {ifs : List Expr} {scope : Scope} {p : Pos} (hs : ∀ (α : Type) (ns : Names) (loc : Loc) (k : Src → M α), srcK C it ns loc (evK C it ns loc) k = (src C it ns loc (ev C it ns loc) >>= k)) :
    ∀ (α : Type) (ns : Names) (loc : Loc) (k : V → M α), evK C (.ListComp elt [⟨t, it, ifs, 0⟩] scope p) ns loc k = (ev C (.ListComp elt [⟨t, it, ifs, 0⟩] scope p) ns loc >>= k) := fun α ns loc k => by
  show srcK C it ns loc (evK C it ns loc) (fun s => compAll C elt t ifs scope s ns loc >>= k) = ((src C it ns loc (ev C it ns loc) >>= fun s => compAll C elt t ifs scope s ns loc) >>= k)
  rw [hs, M.assoc]

theorem compK_cases : ∀ gens : List Comprehension, (∃ t it ifs, gens = [⟨t, it, ifs, 0⟩]) ∨ ((∀ (C : Cfg) (elt : Expr) (scope : Scope) (p : Pos) (ns : Names) (loc : Loc), ev C (.ListComp elt gens scope p) ns loc = M.bad) ∧ ∀ (C : Cfg) (elt : Expr) (scope : Scope) (p : Pos) (α : Type) (ns : Names) (loc : Loc) (k : V → M α), evK C (.ListComp elt gens scope p) ns loc k = M.bad)
  | [] => .inr ⟨fun _ _ _ _ _ _ => rfl, fun _ _ _ _ _ _ _ _ => rfl⟩
  | [⟨t, it, ifs, .ofNat 0⟩] => .inl ⟨t, it, ifs, rfl⟩
  | [⟨t, it, ifs, .ofNat (k + 1)⟩] => .inr ⟨fun _ _ _ _ _ _ => rfl, fun _ _ _ _ _ _ _ _ => rfl⟩
  | [⟨t, it, ifs, .negSucc k⟩] => .inr ⟨fun _ _ _ _ _ _ => rfl, fun _ _ _ _ _ _ _ _ => rfl⟩
  | ⟨_, _, _, .ofNat 0⟩ :: _ :: _ => .inr ⟨fun _ _ _ _ _ _ => rfl, fun _ _ _ _ _ _ _ _ => rfl⟩
  | ⟨_, _, _, .ofNat (_ + 1)⟩ :: _ :: _ => .inr ⟨fun _ _ _ _ _ _ => rfl, fun _ _ _ _ _ _ _ _ => rfl⟩
  | ⟨_, _, _, .negSucc _⟩ :: _ :: _ => .inr ⟨fun _ _ _ _ _ _ => rfl, fun _ _ _ _ _ _ _ _ => rfl⟩

mutual
theorem k_ok (C : Cfg) : ∀ e : Expr, KOk C e
  | .Constant c k p => .plain (fun _ _ _ k => constK_eq c k) (fun _ _ _ => rfl) (fun _ _ _ _ _ => rfl) (fun _ _ _ => rfl) (fun _ _ _ _ _ => rfl) rfl rfl
  | .Name x p => .plain (fun _ ns loc k => by
      show (if x = ("__debug__" : Str) then M.bad else nameK C ns x loc k) = ((if x = ("__debug__" : Str) then M.bad else ldName C ns x loc) >>= k)
      rw [M.ite_bind, nameK_eq]; rfl) (fun _ _ _ => rfl) (fun _ _ _ _ _ => rfl) (fun _ _ _ => rfl) (fun _ _ _ _ _ => rfl) rfl rfl
  | .BinOp l op r p => .plain (K_binop (k_ok C l) (k_ok C r)) (fun _ _ _ => rfl) (fun _ _ _ _ _ => rfl) (fun _ _ _ => rfl) (fun _ _ _ _ _ => rfl) rfl rfl
  | .UnaryOp op x p => by
    have hx := k_ok C x
    cases op with
    | Not => exact ⟨K_not hx, KT_not hx, fun α ns loc k => by show evK C (.UnaryOp .Not x p) ns loc (fun v => srcV v >>= k) = ((ev C (.UnaryOp .Not x p) ns loc >>= srcV) >>= k); rw [K_not hx, M.assoc], kNoSlice rfl, kNoAttr rfl⟩
    | USub =>
      cases x with
      | Constant c k q =>
        cases c with
        | int z => exact .plain (fun _ _ _ _ => rfl) (fun _ _ _ => rfl) (fun _ _ _ _ _ => rfl) (fun _ _ _ => rfl) (fun _ _ _ _ _ => rfl) rfl rfl
        | _ => exact .nothing (fun _ _ => rfl) (fun _ _ _ _ => rfl) (fun _ _ _ => rfl) (fun _ _ _ _ _ => rfl) (fun _ _ _ => rfl) (fun _ _ _ _ _ => rfl) rfl rfl
      | _ => exact .nothing (fun _ _ => rfl) (fun _ _ _ _ => rfl) (fun _ _ _ => rfl) (fun _ _ _ _ _ => rfl) (fun _ _ _ => rfl) (fun _ _ _ _ _ => rfl) rfl rfl
    | _ => exact .nothing (fun _ _ => rfl) (fun _ _ _ _ => rfl) (fun _ _ _ => rfl) (fun _ _ _ _ _ => rfl) (fun _ _ _ => rfl) (fun _ _ _ _ _ => rfl) rfl rfl
  | .BoolOp op vs p => by
    have hv := ks_ok C vs
    exact ⟨fun α ns loc k => evBoolK_of hv α op ns loc k, fun α ns loc k => tstAllK_of hv α op ns loc k, fun α ns loc k => by
      show evBoolK C vs op ns loc (fun v => srcV v >>= k) = ((evBool C vs op ns loc >>= srcV) >>= k)
      rw [evBoolK_of hv, M.assoc], kNoSlice rfl, kNoAttr rfl⟩
  | .Compare l ops rs p => by
    have hl := k_ok C l
    have hr := ks_ok C rs
    match ops, rs with
    | [op], [r] => exact .plain (K_compare hl (hr r (List.mem_cons_self ..))) (fun _ _ _ => rfl) (fun _ _ _ _ _ => rfl) (fun _ _ _ => rfl) (fun _ _ _ _ _ => rfl) rfl rfl
    | [], _ => exact .nothing (fun _ _ => rfl) (fun _ _ _ _ => rfl) (fun _ _ _ => rfl) (fun _ _ _ _ _ => rfl) (fun _ _ _ => rfl) (fun _ _ _ _ _ => rfl) rfl rfl
    | [op, op2], [m, r] => exact .plain (K_chain hl (hr m (List.mem_cons_self ..)) (hr r (List.mem_cons_of_mem _ (List.mem_cons_self ..)))) (fun _ _ _ => rfl) (fun _ _ _ _ _ => rfl) (fun _ _ _ => rfl) (fun _ _ _ _ _ => rfl) rfl rfl
    | [_], [] | [_], _ :: _ :: _ | [_, _], [] | [_, _], [_] | [_, _], _ :: _ :: _ :: _ | _ :: _ :: _ :: _, _ => exact .nothing (fun _ _ => rfl) (fun _ _ _ _ => rfl) (fun _ _ _ => rfl) (fun _ _ _ _ _ => rfl) (fun _ _ _ => rfl) (fun _ _ _ _ _ => rfl) rfl rfl
  | .IfExp _ _ _ _ => .nothing (fun _ _ => rfl) (fun _ _ _ _ => rfl) (fun _ _ _ => rfl) (fun _ _ _ _ _ => rfl) (fun _ _ _ => rfl) (fun _ _ _ _ _ => rfl) rfl rfl
  | .Slice lo hi st p => by
    have hlo := kopt_ok C lo
    have hhi := kopt_ok C hi
    exact ⟨fun _ _ _ _ => rfl, fun _ _ _ _ => rfl, fun _ _ _ _ => rfl, fun lo' hi' q e => by cases e; exact ⟨hlo, hhi⟩, kNoAttr rfl⟩
  | .Subscript o i p => by
    have ho := k_ok C o
    have hi := k_ok C i
    have he : ∀ (α : Type) (ns : Names) (loc : Loc) (k : V → M α), evK C (.Subscript o i p) ns loc k = (ev C (.Subscript o i p) ns loc >>= k) := by
      cases i with
      | Slice lo hi' st q =>
        cases st with
        | none => obtain ⟨h1, h2⟩ := hi.slice lo hi' q rfl; exact K_slice ho h1 h2
        | some st => exact K_sub ho hi (fun _ _ => rfl) (fun _ _ _ _ => rfl)
      | _ => exact K_sub ho hi (fun _ _ => rfl) (fun _ _ _ _ => rfl)
    exact .plain he (fun _ _ _ => rfl) (fun _ _ _ _ _ => rfl) (fun _ _ _ => rfl) (fun _ _ _ _ _ => rfl) rfl rfl
  | .List es p => .plain (K_list (ks_ok C es)) (fun _ _ _ => rfl) (fun _ _ _ _ _ => rfl) (fun _ _ _ => rfl) (fun _ _ _ _ _ => rfl) rfl rfl
  | .Tuple es j p => .plain (K_tuple (ks_ok C es)) (fun _ _ _ => rfl) (fun _ _ _ _ _ => rfl) (fun _ _ _ => rfl) (fun _ _ _ _ _ => rfl) rfl rfl
  | .Attribute o m p => by
    have ho := k_ok C o
    exact ⟨fun _ _ _ _ => rfl, fun _ _ _ _ => rfl, fun _ _ _ _ => rfl, kNoSlice rfl, fun o' m' q e => by cases e; exact ho.ev⟩
  | .Call f as ks p => by
    have hf := k_ok C f
    have has := ks_ok C as
    cases ks with
    | cons k ks =>
      exact .nothing (fun ns loc => by cases f <;> rfl) (fun _ ns loc _ => by cases f <;> rfl) (fun _ _ _ => rfl) (fun _ _ _ _ _ => rfl) (fun ns loc whole => by cases f <;> rfl) (fun _ ns loc whole _ => by cases f <;> rfl) rfl rfl
    | nil =>
      cases f with
      | Name x q => exact ⟨K_callName has, fun α ns loc k => by show evK C (.Call (.Name x q) as [] p) ns loc (fun v => truth v >>= k) = ((ev C (.Call (.Name x q) as [] p) ns loc >>= truth) >>= k); rw [K_callName has, M.assoc], srcK_call (K_callName has) has, kNoSlice rfl, kNoAttr rfl⟩
      | Attribute o m q => exact .plain (K_callMeth (hf.attr o m q rfl) has) (fun _ _ _ => rfl) (fun _ _ _ _ _ => rfl) (fun _ _ _ => rfl) (fun _ _ _ _ _ => rfl) rfl rfl
      | _ => exact .nothing (fun _ _ => rfl) (fun _ _ _ _ => rfl) (fun _ _ _ => rfl) (fun _ _ _ _ _ => rfl) (fun _ _ _ => rfl) (fun _ _ _ _ _ => rfl) rfl rfl
  | .ListComp elt gens scope p => by
    have hg := kgens_ok C gens
    rcases compK_cases gens with ⟨t, it, ifs, rfl⟩ | ⟨hbad, hbadK⟩
    · exact .plain (K_comp (hg _ (List.mem_cons_self ..))) (fun _ _ _ => rfl) (fun _ _ _ _ _ => rfl) (fun _ _ _ => rfl) (fun _ _ _ _ _ => rfl) rfl rfl
    · exact .nothing (hbad C elt scope p) (fun α => hbadK C elt scope p α) (fun _ _ _ => rfl) (fun _ _ _ _ _ => rfl) (fun _ _ _ => rfl) (fun _ _ _ _ _ => rfl) rfl rfl
  | .NamedExpr _ _ _ => .nothing (fun _ _ => rfl) (fun _ _ _ _ => rfl) (fun _ _ _ => rfl) (fun _ _ _ _ _ => rfl) (fun _ _ _ => rfl) (fun _ _ _ _ _ => rfl) rfl rfl
  | .Lambda _ _ _ _ => .nothing (fun _ _ => rfl) (fun _ _ _ _ => rfl) (fun _ _ _ => rfl) (fun _ _ _ _ _ => rfl) (fun _ _ _ => rfl) (fun _ _ _ _ _ => rfl) rfl rfl
  | .Dict ks vs p => by
    match ks, vs with
    | [], [] => exact .plain (fun _ _ _ _ => rfl) (fun _ _ _ => rfl) (fun _ _ _ _ _ => rfl) (fun _ _ _ => rfl) (fun _ _ _ _ _ => rfl) rfl rfl
    | [some e], [v] => exact .plain (fun _ _ _ _ => rfl) (fun _ _ _ => rfl) (fun _ _ _ _ _ => rfl) (fun _ _ _ => rfl) (fun _ _ _ _ _ => rfl) rfl rfl
    | [], _ :: _ | [none], _ | [some _], [] | [some _], _ :: _ :: _ | none :: _ :: _, _ | some _ :: _ :: _, _ => exact .nothing (fun _ _ => rfl) (fun _ _ _ _ => rfl) (fun _ _ _ => rfl) (fun _ _ _ _ _ => rfl) (fun _ _ _ => rfl) (fun _ _ _ _ _ => rfl) rfl rfl
  | .Set _ _ _ => .nothing (fun _ _ => rfl) (fun _ _ _ _ => rfl) (fun _ _ _ => rfl) (fun _ _ _ _ _ => rfl) (fun _ _ _ => rfl) (fun _ _ _ _ _ => rfl) rfl rfl
  | .SetComp _ _ _ _ => .nothing (fun _ _ => rfl) (fun _ _ _ _ => rfl) (fun _ _ _ => rfl) (fun _ _ _ _ _ => rfl) (fun _ _ _ => rfl) (fun _ _ _ _ _ => rfl) rfl rfl
  | .DictComp _ _ _ _ _ => .nothing (fun _ _ => rfl) (fun _ _ _ _ => rfl) (fun _ _ _ => rfl) (fun _ _ _ _ _ => rfl) (fun _ _ _ => rfl) (fun _ _ _ _ _ => rfl) rfl rfl
  | .GeneratorExp _ _ _ _ => .nothing (fun _ _ => rfl) (fun _ _ _ _ => rfl) (fun _ _ _ => rfl) (fun _ _ _ _ _ => rfl) (fun _ _ _ => rfl) (fun _ _ _ _ _ => rfl) rfl rfl
  | .Await _ _ => .nothing (fun _ _ => rfl) (fun _ _ _ _ => rfl) (fun _ _ _ => rfl) (fun _ _ _ _ _ => rfl) (fun _ _ _ => rfl) (fun _ _ _ _ _ => rfl) rfl rfl
  | .Yield _ _ => .nothing (fun _ _ => rfl) (fun _ _ _ _ => rfl) (fun _ _ _ => rfl) (fun _ _ _ _ _ => rfl) (fun _ _ _ => rfl) (fun _ _ _ _ _ => rfl) rfl rfl
  | .YieldFrom _ _ => .nothing (fun _ _ => rfl) (fun _ _ _ _ => rfl) (fun _ _ _ => rfl) (fun _ _ _ _ _ => rfl) (fun _ _ _ => rfl) (fun _ _ _ _ _ => rfl) rfl rfl
  | .FormattedValue _ _ _ _ => .nothing (fun _ _ => rfl) (fun _ _ _ _ => rfl) (fun _ _ _ => rfl) (fun _ _ _ _ _ => rfl) (fun _ _ _ => rfl) (fun _ _ _ _ _ => rfl) rfl rfl
  | .JoinedStr _ _ => .nothing (fun _ _ => rfl) (fun _ _ _ _ => rfl) (fun _ _ _ => rfl) (fun _ _ _ _ _ => rfl) (fun _ _ _ => rfl) (fun _ _ _ _ _ => rfl) rfl rfl
  | .Starred _ _ => .nothing (fun _ _ => rfl) (fun _ _ _ _ => rfl) (fun _ _ _ => rfl) (fun _ _ _ _ _ => rfl) (fun _ _ _ => rfl) (fun _ _ _ _ _ => rfl) rfl rfl
theorem ks_ok (C : Cfg) : ∀ es : List Expr, ∀ e ∈ es, KOk C e
  | [] => fun _ hm => absurd hm List.not_mem_nil
  | e :: r => fun e' hm => by
    have h1 := k_ok C e
    have h2 := ks_ok C r
    rcases List.mem_cons.mp hm with rfl | hm
    · exact h1
    · exact h2 e' hm
theorem kopt_ok (C : Cfg) : ∀ o : Option Expr, ∀ (α : Type) (ns : Names) (loc : Loc) (k : V → M α), evOptK C o ns loc k = (evOpt C o ns loc >>= k)
  | none => fun _ _ _ _ => rfl
  | some e => (k_ok C e).ev
theorem kgens_ok (C : Cfg) : ∀ gs : List Comprehension, ∀ g ∈ gs, ∀ (α : Type) (ns : Names) (loc : Loc) (k : Src → M α), srcK C g.iter ns loc (evK C g.iter ns loc) k = (src C g.iter ns loc (ev C g.iter ns loc) >>= k)
  | [] => fun _ hm => absurd hm List.not_mem_nil
  | ⟨t, it, ifs, k⟩ :: r => fun g hm => by
    have h1 := k_ok C it
    have h3 := kgens_ok C r
    rcases List.mem_cons.mp hm with rfl | hm
    · exact h1.src
    · exact h3 g hm
end

/-! statements -/
noncomputable def flK (k : Fl × Loc → M α) (next : Loc → M α) (x : Fl × Loc) : M α := match x with
  | (.next, loc) => next loc
  | (f, loc) => k (f, loc)

mutual
noncomputable def exK (C : Cfg) : Stmt → Names → Loc → (Fl × Loc → M α) → M α
  | .Expr (.Call f as [] p) _, ns, loc, k => evK C (.Call f as [] p) ns loc fun _ => k (.next, loc)
  | .Pass _, _, loc, k => k (.next, loc)
  | .Return none _, _, loc, k => k (.ret .none, loc)
  | .Return (some e) _, ns, loc, k => evK C e ns loc fun v => k (.ret v, loc)
  | .Assign [.Name x _] value _, ns, loc, k => evK C value ns loc fun v => stLoc ns x v loc >>= fun loc' => k (.next, loc')
  | .Assign [.Subscript o i _] value _, ns, loc, k => evK C value ns loc fun v => evK C o ns loc fun a => evK C i ns loc fun b => setItem a b v >>= fun _ => k (.next, loc)
  | .If t a b _, ns, loc, k => tstK C t ns loc (evK C t ns loc) fun c => if c = true then exsK C a ns loc k else exsK C b ns loc k
  | .For target iter body [] _, ns, loc, k => srcK C iter ns loc (evK C iter ns loc) fun s => forAll C target body s ns loc >>= k
  | _, _, _, _ => M.bad

noncomputable def exsK (C : Cfg) : List Stmt → Names → Loc → (Fl × Loc → M α) → M α
  | [], _, loc, k => k (.next, loc)
  | s :: r, ns, loc, k => exK C s ns loc (flK k fun loc' => exsK C r ns loc' k)
end

mutual
theorem exK_ok (C : Cfg) : ∀ (st : Stmt) (α : Type) (ns : Names) (loc : Loc) (k : Fl × Loc → M α), exK C st ns loc k = (ex C st ns loc >>= k)
  | .Expr e p, α, ns, loc, k => by
    cases e with
    | Call f as ks q =>
      cases ks with
      | nil =>
        show evK C (.Call f as [] q) ns loc (fun _ => k (.next, loc)) = ((ev C (.Call f as [] q) ns loc >>= fun _ => pure (.next, loc)) >>= k)
        rw [(k_ok C _).ev, M.assoc]; rfl
      | cons _ _ => rfl
    | _ => rfl
  | .Pass p, α, ns, loc, k => rfl
  | .Return none p, α, ns, loc, k => rfl
  | .Return (some e) p, α, ns, loc, k => by
    show evK C e ns loc (fun v => k (.ret v, loc)) = ((ev C e ns loc >>= fun v => pure (.ret v, loc)) >>= k)
    rw [(k_ok C _).ev, M.assoc]; rfl
  | .Assign ts v p, α, ns, loc, k => by
    match ts with
    | [] => rfl
    | [.Name x q] =>
      show evK C v ns loc (fun v => stLoc ns x v loc >>= fun loc' => k (.next, loc')) = ((ev C v ns loc >>= fun v => stLoc ns x v loc >>= fun loc' => pure (.next, loc')) >>= k)
      rw [(k_ok C _).ev, M.assoc]
      refine M.bind_congr fun a => ?_
      rw [M.assoc]; rfl
    | [.Subscript o i q] =>
      show evK C v ns loc (fun v => evK C o ns loc fun a => evK C i ns loc fun b => setItem a b v >>= fun _ => k (.next, loc)) = ((ev C v ns loc >>= fun v => ev C o ns loc >>= fun a => ev C i ns loc >>= fun b => setItem a b v >>= fun _ => pure (.next, loc)) >>= k)
      rw [(k_ok C _).ev, M.assoc]
      refine M.bind_congr fun v => ?_
      rw [(k_ok C _).ev, M.assoc]
      refine M.bind_congr fun a => ?_
      rw [(k_ok C _).ev, M.assoc]
      refine M.bind_congr fun b => ?_
      rw [M.assoc]; rfl
    | [.BoolOp _ _ _] | [.NamedExpr _ _ _] | [.BinOp _ _ _ _] | [.UnaryOp _ _ _] | [.Lambda _ _ _ _] | [.IfExp _ _ _ _] | [.Dict _ _ _] | [.Set _ _ _] | [.ListComp _ _ _ _] | [.SetComp _ _ _ _] | [.DictComp _ _ _ _ _] | [.GeneratorExp _ _ _ _]
    | [.Await _ _] | [.Yield _ _] | [.YieldFrom _ _] | [.Compare _ _ _ _] | [.Call _ _ _ _] | [.FormattedValue _ _ _ _] | [.JoinedStr _ _] | [.Constant _ _ _] | [.Attribute _ _ _] | [.Starred _ _] | [.List _ _] | [.Tuple _ _ _] | [.Slice _ _ _ _] => rfl
    | t :: _ :: _ => cases t <;> rfl
  | .If t a b p, α, ns, loc, k => by
    show tstK C t ns loc (evK C t ns loc) (fun c => if c = true then exsK C a ns loc k else exsK C b ns loc k) = ((tst C t ns loc (ev C t ns loc) >>= fun c => if c = true then exs C a ns loc else exs C b ns loc) >>= k)
    rw [(k_ok C _).tst, M.assoc]
    refine M.bind_congr fun c => ?_
    rw [M.ite_bind, exsK_ok C a, exsK_ok C b]
  | .For t it body els p, α, ns, loc, k => by
    cases els with
    | nil =>
      show srcK C it ns loc (evK C it ns loc) (fun s => forAll C t body s ns loc >>= k) = ((src C it ns loc (ev C it ns loc) >>= fun s => forAll C t body s ns loc) >>= k)
      rw [(k_ok C _).src, M.assoc]
    | cons _ _ => rfl
  | .FunctionDef .., α, ns, loc, k => rfl
  | .AsyncFunctionDef .., α, ns, loc, k => rfl
  | .ClassDef .., α, ns, loc, k => rfl
  | .Delete .., α, ns, loc, k => rfl
  | .TypeAlias .., α, ns, loc, k => rfl
  | .AugAssign .., α, ns, loc, k => rfl
  | .AnnAssign .., α, ns, loc, k => rfl
  | .AsyncFor .., α, ns, loc, k => rfl
  | .While .., α, ns, loc, k => rfl
  | .With .., α, ns, loc, k => rfl
  | .AsyncWith .., α, ns, loc, k => rfl
  | .Match .., α, ns, loc, k => rfl
  | .Raise .., α, ns, loc, k => rfl
  | .Try .., α, ns, loc, k => rfl
  | .TryStar .., α, ns, loc, k => rfl
  | .Assert .., α, ns, loc, k => rfl
  | .Import .., α, ns, loc, k => rfl
  | .ImportFrom .., α, ns, loc, k => rfl
  | .Global .., α, ns, loc, k => rfl
  | .Nonlocal .., α, ns, loc, k => rfl
  | .Break .., α, ns, loc, k => rfl
  | .Continue .., α, ns, loc, k => rfl
theorem exsK_ok (C : Cfg) : ∀ (sts : List Stmt) (α : Type) (ns : Names) (loc : Loc) (k : Fl × Loc → M α), exsK C sts ns loc k = (exs C sts ns loc >>= k)
  | [], α, ns, loc, k => rfl
  | st :: r, α, ns, loc, k => by
    show exK C st ns loc (flK k fun loc' => exsK C r ns loc' k) = ((ex C st ns loc >>= fun x => andThen x (exs C r ns)) >>= k)
    rw [exK_ok C st, M.assoc]
    refine M.bind_congr fun x => ?_
    obtain ⟨fl, loc'⟩ := x
    cases fl with
    | next => exact exsK_ok C r α ns loc' k
    | brk => rfl
    | cont => rfl
    | ret v => rfl
end

noncomputable def retK (r : Fl × Loc) : M V := pure (match r.1 with | .ret v => v | _ => .none)
theorem callFn_K (C : Cfg) (f : Fn) (args : List V) : callFn C f args = if args.length = f.params.length then exsK C f.body f.names (initLoc f.params args f.names) retK else M.bad := by
  unfold callFn
  rw [exsK_ok]; rfl
theorem M.bind_pure {α : Type} (m : M α) : (m >>= fun a => (Pure.pure a : M α)) = m := by
  funext σ
  cases e : m σ with
  | bad => rw [bind_bad e]
  | exc _ _ => rw [bind_exc e]
  | ok a σ' => rw [bind_ok e]; rfl
theorem exs_K (C : Cfg) (sts : List Stmt) (ns : Names) (loc : Loc) : exs C sts ns loc = exsK C sts ns loc fun x => pure x := by rw [exsK_ok, M.bind_pure]
theorem ev_K (C : Cfg) (e : Expr) (ns : Names) (loc : Loc) : ev C e ns loc = evK C e ns loc fun x => pure x := by rw [(k_ok C e).ev, M.bind_pure]
theorem tests_K (C : Cfg) (e : Expr) (ns : Names) (loc : Loc) : tests C [e] ns loc = tstK C e ns loc (evK C e ns loc) fun x => pure x := by rw [(k_ok C e).tst, M.bind_pure]; rfl

/-! ## ways into a text -/
noncomputable def nthS (l : List Stmt) (i : Nat) : Stmt := (l[i]?).getD (.Pass ⟨0, 0, 0, 0⟩)
noncomputable def noE : Expr := .Constant .none 0 ⟨0, 0, 0, 0⟩
noncomputable def nthE (l : List Expr) (i : Nat) : Expr := (l[i]?).getD noE
noncomputable def sVal : Stmt → Expr
  | .Assign _ v _ => v
  | .Return (some v) _ => v
  | .Expr v _ => v
  | .For _ i _ _ _ => i
  | .If t _ _ _ => t
  | _ => noE
noncomputable def sTgt : Stmt → Expr
  | .For t _ _ _ _ => t
  | .Assign ts _ _ => nthE ts 0
  | _ => noE
noncomputable def sBody : Stmt → List Stmt
  | .For _ _ b _ _ => b
  | .If _ b _ _ => b
  | _ => []
noncomputable def sElse : Stmt → List Stmt
  | .If _ _ b _ => b
  | _ => []
/-- the parts of an expression, in order -/
noncomputable def ePart (e : Expr) (i : Nat) : Expr := match e with
  | .BoolOp _ vs _ => nthE vs i
  | .BinOp l _ r _ => nthE [l, r] i
  | .UnaryOp _ x _ => x
  | .IfExp t a b _ => nthE [t, a, b] i
  | .Compare l _ rs _ => nthE (l :: rs) i
  | .Call f as _ _ => nthE (f :: as) i
  | .Attribute o _ _ => o
  | .Subscript o j _ => nthE [o, j] i
  | .Slice lo hi st _ => nthE [lo.getD noE, hi.getD noE, st.getD noE] i
  | .List es _ => nthE es i
  | .Dict ks vs _ => nthE (ks.map (·.getD noE) ++ vs) i
  | .Tuple es _ _ => nthE es i
  | .ListComp elt gs _ _ => nthE (elt :: gs.flatMap fun g => g.iter :: g.target :: g.ifs) i
  | _ => noE
noncomputable def cElt (e : Expr) : Expr := ePart e 0
noncomputable def cIter (e : Expr) : Expr := ePart e 1
noncomputable def cTgt (e : Expr) : Expr := ePart e 2
noncomputable def cIfs : Expr → List Expr
  | .ListComp _ [g] _ _ => g.ifs
  | _ => []
noncomputable def cScope : Expr → Scope
  | .ListComp _ _ s _ => s
  | _ => default
end Mine

namespace Mine
open PySem PyProof.Rows

/-- the defs of a text's top -/
noncomputable def defOf (d : DefRec) : Str × Fn := (d.name, ⟨d.params.args.map (·.arg), d.scope.names, d.body⟩)
noncomputable def defsV (q : Program) : List (Str × Fn) := (recsOf q).map defOf
noncomputable def fnsT (tab : List (Str × Fn)) : Str → Option Fn := fun x => tab.lookup x
noncomputable def cfgN (fns : Str → Option Fn) (glob : Str → Option V) (d : Nat) : Cfg := ⟨fun x => (fns x).isSome, callN fns glob d, glob⟩
/-- the plain values of a text's top -/
noncomputable def litV : PyData → Option V
  | .none => some .none
  | .bool b => some (.bool b)
  | .int i => some (.int i)
  | .str s => if SOk s then some (.str s) else none
  | _ => none
noncomputable def globV (q : Program) : Str → Option V := fun x => (valOf q x).bind litV
/-- the same as a table -/
noncomputable def globT (gs : List (Str × V)) : Str → Option V := fun x => gs.lookup x
noncomputable def intOf : V → Option Int
  | .int a => some a
  | _ => none
noncomputable def strOf : V → Option Str
  | .str a => some a
  | _ => none
/-- the same number, or the same text -/
noncomputable def sameV (o : Option V) (v : V) : Bool := ((intOf v).isSome && (o.bind intOf == intOf v)) || ((strOf v).isSome && (o.bind strOf == strOf v))
noncomputable def globOk (q : Program) (gs : List (Str × V)) : Bool := gs.all fun p => sameV (globV q p.1) p.2
/-- what is to be shown of a law's run -/
noncomputable def LawOk (tab : List (Str × Fn)) (glob : Str → Option V) (d : Nat) : Prop := ∀ zs : List Int, zs.length ≤ 63 → ∃ σ, callN (fnsT tab) glob d "law" [.ref 0] [.list (zs.map .int)] = .ok (.bool true) σ
end Mine

namespace Mine
open PySem PyProof.Rows

/-! ## slots and names -/
theorem slotGo_lookup {x : Str} : ∀ {ns : Names} {i j : Nat} {k : NameKind}, slotGo ns x i = some (j, k) → ns.lookup x = some k
  | [], _, _, _, h => by cases h
  | (y, k') :: r, i, j, k, h => by
    unfold slotGo at h
    rw [List.lookup_cons]
    split at h
    · rename_i he; rw [he]; cases h; rfl
    · rename_i he; rw [he]; exact slotGo_lookup h
theorem slot_lookup {x : Str} {ns : Names} {j : Nat} {k : NameKind} (h : slot ns x = some (j, k)) : ns.lookup x = some k := slotGo_lookup h

theorem slotGo_ge {x : Str} : ∀ {ns : Names} {i j : Nat} {k : NameKind}, slotGo ns x i = some (j, k) → i ≤ j
  | [], _, _, _, h => by cases h
  | (y, k') :: r, i, j, k, h => by
    unfold slotGo at h
    split at h
    · cases h; exact Nat.le_refl _
    · exact Nat.le_of_succ_le (slotGo_ge h)
theorem slotGo_inj {x y : Str} : ∀ {ns : Names} {i j : Nat} {k k' : NameKind}, slotGo ns x i = some (j, k) → slotGo ns y i = some (j, k') → x = y
  | [], _, _, _, _, h, _ => by cases h
  | (z, k₀) :: r, i, j, k, k', h, h' => by
    unfold slotGo at h h'
    split at h <;> split at h'
    · rename_i e1 _ e2; exact (beq_iff_eq.mp e1).trans (beq_iff_eq.mp e2).symm
    · cases h; exact absurd (slotGo_ge h') (Nat.not_succ_le_self _)
    · cases h'; exact absurd (slotGo_ge h) (Nat.not_succ_le_self _)
    · exact slotGo_inj h h'
theorem slot_inj {x y : Str} {ns : Names} {j : Nat} {k k' : NameKind} (h : slot ns x = some (j, k)) (h' : slot ns y = some (j, k')) : x = y := slotGo_inj h h'

/-! ## frames -/
noncomputable def offMap (ρ : Map) (b : Addr) : Prop := ∀ p ∈ ρ, b ≠ p.1 ∧ b ≠ p.2

structure Frm (env : Env) (ns : Names) (loc : Loc) (ρ : Map) (h : Heap) : Prop where
  names : env.scope.names = ns
  kind : env.scope.kind = .function
  globals : env.globals = mainGlobals
  blts : env.builtins = builtinsNs
  vars : ∃ m, h.Ns env.locals m ∧ ∀ x i v, slot ns x = some (i, .local) → loc[i]? = some (some v) → ∃ val, m x = some val ∧ Rel ρ h val v
  cell : ∀ x i, slot ns x = some (i, .cell) → ∃ c o, env.cells.lookup x = some c ∧ h.IsCell c o ∧ ∀ v, loc[i]? = some (some v) → ∃ val, o = some val ∧ Rel ρ h val v
  live : ∀ x c, env.cells.lookup x = some c → ∃ o, h.IsCell c o
  offL : offMap ρ env.locals
  offC : ∀ x c, env.cells.lookup x = some c → c ≠ env.locals ∧ offMap ρ c
  apart : ∀ x y c, env.cells.lookup x = some c → env.cells.lookup y = some c → x = y

/-- what a frame may change -/
noncomputable def frameW (env : Env) : List Addr := env.locals :: env.scope.names.filterMap fun p => env.cells.lookup p.1
/-- an address that a frame does not use -/
noncomputable def offFrame (env : Env) (b : Addr) : Prop := b ≠ env.locals ∧ ∀ y c, env.cells.lookup y = some c → b ≠ c

section
variable {W : List Addr} {ρ ρ' : Map} {h h' : Heap} {env : Env} {ns : Names} {loc : Loc}

theorem offMap.ext (x : Ext W ρ h ρ' h') {b : Addr} {o : Obj} (hb : h.get? b = some o) (off : offMap ρ b) : offMap ρ' b := fun p hp => by
  obtain ⟨i, hi⟩ := List.getElem?_of_mem hp
  rcases Nat.lt_or_ge i ρ.length with hl | hl
  · have h1 := x.pre i _ (List.getElem?_eq_getElem hl)
    rw [hi] at h1; cases h1
    exact off _ (List.getElem_mem hl)
  · obtain ⟨n1, n2⟩ := x.new i p hi hl
    exact ⟨fun eq => (by rw [← eq, hb] at n1; cases n1), fun eq => (by rw [← eq, hb] at n2; cases n2)⟩

theorem mem_of_lookup {α : Type} : ∀ {l : List (Str × α)} {n : Str} {c : α}, l.lookup n = some c → (n, c) ∈ l
  | [], _, _, h => by cases h
  | (k, v) :: r, n, c, h => by
    rw [List.lookup_cons] at h
    split at h
    · rename_i e
      cases h; rw [beq_iff_eq.mp e]; exact List.mem_cons_self ..
    · exact List.mem_cons_of_mem _ (mem_of_lookup h)

theorem frameW_cell {x : Str} {k : NameKind} {c : Addr} (hm : (x, k) ∈ env.scope.names) (hc : env.cells.lookup x = some c) : c ∈ frameW env := List.mem_cons_of_mem _ (List.mem_filterMap.mpr ⟨(x, k), hm, hc⟩)
theorem offFrame.notin {b : Addr} (h : offFrame env b) : b ∉ frameW env := fun hm => by
  rcases List.mem_cons.mp hm with rfl | hm
  · exact h.1 rfl
  · obtain ⟨⟨x, k⟩, _, hc⟩ := List.mem_filterMap.mp hm
    exact h.2 x b hc rfl
theorem Frm.alive (F : Frm env ns loc ρ h) {b : Addr} (hm : b ∈ frameW env) : ∃ o, h.get? b = some o := by
  rcases List.mem_cons.mp hm with rfl | hm
  · obtain ⟨m, ⟨o, es, ep, ho, r⟩, hv⟩ := F.vars
    exact ⟨o, ho⟩
  · obtain ⟨⟨x, k⟩, _, hc⟩ := List.mem_filterMap.mp hm
    obtain ⟨_, o, ho, _⟩ := F.live x b hc
    exact ⟨o, ho⟩
theorem Frm.offDead (F : Frm env ns loc ρ h) {b : Addr} (hd : h.get? b = none) : offFrame env b := by
  refine ⟨fun e => ?_, fun y c hc e => ?_⟩
  · obtain ⟨m, ⟨o, es, ep, ho, r⟩, hv⟩ := F.vars
    rw [← e, hd] at ho; cases ho
  · obtain ⟨_, o, ho, _⟩ := F.live y c hc
    rw [← e, hd] at ho; cases ho

theorem Frm.ext (F : Frm env ns loc ρ h) (x : Ext W ρ h ρ' h') (hW : ∀ b ∈ W, offFrame env b) : Frm env ns loc ρ' h' where
  names := F.names
  kind := F.kind
  globals := F.globals
  blts := F.blts
  vars := by
    obtain ⟨m, hn, hv⟩ := F.vars
    obtain ⟨o, es, ep, ho, r⟩ := hn
    refine ⟨m, ⟨o, es, ep, x.keep _ _ ho (fun hm => (hW _ hm).1 rfl) F.offL, r⟩, fun y i v h1 h2 => ?_⟩
    obtain ⟨val, e, hr⟩ := hv y i v h1 h2
    exact ⟨val, e, hr.ext x⟩
  cell := fun y i h1 => by
    obtain ⟨c, o, e, ⟨ob, hob, hd⟩, hv⟩ := F.cell y i h1
    refine ⟨c, o, e, ⟨ob, x.keep _ _ hob (fun hm => (hW _ hm).2 y c e rfl) (F.offC y c e).2, hd⟩, fun v hl => ?_⟩
    obtain ⟨val, e', hr⟩ := hv v hl
    exact ⟨val, e', hr.ext x⟩
  live := fun y c e => by
    obtain ⟨o, ob, hob, hd⟩ := F.live y c e
    exact ⟨o, ob, x.keep _ _ hob (fun hm => (hW _ hm).2 y c e rfl) (F.offC y c e).2, hd⟩
  offL := by
    obtain ⟨m, ⟨o, es, ep, ho, r⟩, hv⟩ := F.vars
    exact offMap.ext x ho F.offL
  offC := fun y c e => by
    obtain ⟨_, o, ho, _⟩ := F.live y c e
    exact ⟨(F.offC y c e).1, offMap.ext x ho (F.offC y c e).2⟩
  apart := F.apart
end

/-! ## room -/
structure Rm (A : Around) (n : Nat) : Prop where
  handled : A.handled = none
  depth : A.depth + n < recursionLimit
  units : A.units + 8 * n + 300 < cLine

end Mine

namespace Mine
open PySem PyProof.Rows

section
variable {prog : Program} {w : World} {W : List Addr} {ρ ρ' : Map} {h h' h₀ : Heap} {σ : Store}

theorem ORel.sub {p : Addr × Addr} {o : O} (r : ORel prog w ρ h p o) (x : Sub ρ h ρ' h') (h1 : ∀ ob, h.get? p.1 = some ob → h'.get? p.1 = some ob) (_h2 : ∀ ob, h.get? p.2 = some ob → h'.get? p.2 = some ob) : ORel prog w ρ' h' p o := by
  cases o with
  | list l =>
    obtain ⟨e, vs, n, g, hl, ra⟩ := r
    exact ⟨e, vs, n, h1 _ g, hl, ra.sub x⟩
  | dict l =>
    obtain ⟨e, hs, kvs, ⟨ob, es, ep, g, rest⟩, hl, ra⟩ := r
    exact ⟨e, hs, kvs, ⟨ob, es, ep, h1 _ g, rest⟩, hl, ra.sub x⟩
  | inst _ _ => exact r.elim
theorem ORel.ext {p : Addr × Addr} {o : O} (r : ORel prog w ρ h p o) (x : Ext W ρ h ρ' h') (h1 : ∀ ob, h.get? p.1 = some ob → h'.get? p.1 = some ob) (h2 : ∀ ob, h.get? p.2 = some ob → h'.get? p.2 = some ob) : ORel prog w ρ' h' p o := r.sub x.sub h1 h2

theorem ORel.live {p : Addr × Addr} {o : O} (r : ORel prog w ρ h p o) : (∃ ob, h.get? p.1 = some ob) ∧ ∃ ob, h.get? p.2 = some ob := by
  cases o with
  | list l =>
    obtain ⟨e, vs, n, g, hl, ra⟩ := r
    exact ⟨⟨_, g⟩, ⟨_, by rw [e]; exact g⟩⟩
  | dict l =>
    obtain ⟨e, hs, kvs, ⟨ob, es, ep, g, rest⟩, hl, ra⟩ := r
    exact ⟨⟨_, g⟩, ⟨_, by rw [e]; exact g⟩⟩
  | inst _ _ => exact r.elim

theorem Inv.lt (i : Inv prog w h₀ σ ρ h) {n : Nat} {p : Addr × Addr} (e : ρ[n]? = some p) : ∃ o, σ[n]? = some o := by
  have hl : n < ρ.length := by
    rcases Nat.lt_or_ge n ρ.length with hl | hl
    · exact hl
    · rw [List.getElem?_eq_none hl] at e; cases e
  exact ⟨_, List.getElem?_eq_getElem (i.len ▸ hl)⟩
theorem Inv.gt (i : Inv prog w h₀ σ ρ h) {n : Nat} {o : O} (e : σ[n]? = some o) : ∃ p, ρ[n]? = some p := by
  have hl : n < σ.length := by
    rcases Nat.lt_or_ge n σ.length with hl | hl
    · exact hl
    · rw [List.getElem?_eq_none hl] at e; cases e
  exact ⟨_, List.getElem?_eq_getElem (i.len.symm ▸ hl)⟩

theorem Inv.alive (i : Inv prog w h₀ σ ρ h) {p : Addr × Addr} (hp : p ∈ ρ) : (∃ ob, h.get? p.1 = some ob) ∧ ∃ ob, h.get? p.2 = some ob := by
  obtain ⟨n, hn⟩ := List.getElem?_of_mem hp
  obtain ⟨o, ho⟩ := i.lt hn
  exact (i.objs n o p ho hn).live

/-- the heap is changed at a frame alone -/
theorem Inv.keep (i : Inv prog w h₀ σ ρ h) (x : Ext W ρ h ρ h') (hW : ∀ b ∈ W, offMap ρ b ∧ h₀.get? b = none) (hk : ∀ b o, h.get? b = some o → b ∉ W → h'.get? b = some o) : Inv prog w h₀ σ ρ h' where
  base := fun b o e => hk b o (i.base b o e) fun hm => by rw [(hW b hm).2] at e; cases e
  len := i.len
  objs := fun n o p e1 e2 => (i.objs n o p e1 e2).ext x (fun ob g => hk _ _ g fun hm => ((hW _ hm).1 p (List.mem_of_getElem? e2)).1 rfl) (fun ob g => hk _ _ g fun hm => ((hW _ hm).1 p (List.mem_of_getElem? e2)).2 rfl)
  fresh := i.fresh
  apart := i.apart

theorem Inv.keeps (i : Inv prog w h₀ σ ρ h) (hk : ∀ b o, h.get? b = some o → h'.get? b = some o) : Inv prog w h₀ σ ρ h' :=
  i.keep (W := []) (Ext.of_keeps hk) (fun _ hm => nomatch hm) fun b o e _ => hk b o e

theorem Inv.push (i : Inv prog w h₀ σ ρ h) (o : Obj) : Inv prog w h₀ σ ρ (h.push o) := i.keeps fun _ _ e => Heap.get?_push_of_some o e

theorem fresh_none : h.get? h.objs.size = none := by
  cases e : h.get? h.objs.size with
  | none => rfl
  | some o => exact absurd (Heap.lt_size e) (Nat.lt_irrefl _)

theorem Inv.off_size (i : Inv prog w h₀ σ ρ h) : offMap ρ h.objs.size := fun p hp => by
  obtain ⟨⟨o1, e1⟩, ⟨o2, e2⟩⟩ := i.alive hp
  exact ⟨fun e => absurd (Heap.lt_size e1) (e ▸ Nat.lt_irrefl _), fun e => absurd (Heap.lt_size e2) (e ▸ Nat.lt_irrefl _)⟩

/-- a new object for the store -/
theorem Inv.new (i : Inv prog w h₀ σ ρ h) {a : Addr} {o : O} (hk : ∀ b o, h.get? b = some o → h'.get? b = some o) (ha : h.get? a = none) (ho : ORel prog w (ρ ++ [(a, a)]) h' (a, a) o) :
    Inv prog w h₀ (σ ++ [o]) (ρ ++ [(a, a)]) h' ∧ Ext W ρ h (ρ ++ [(a, a)]) h' := by
  have hx : Ext W ρ h (ρ ++ [(a, a)]) h' :=
    { pre := fun n p e => by
        rw [List.getElem?_append_left (by rcases Nat.lt_or_ge n ρ.length with hl | hl; exact hl; rw [List.getElem?_eq_none hl] at e; cases e)]; exact e
      keep := fun b o e _ _ => hk b o e
      tups := fun b _ _ e => hk b _ e
      alive := fun b o e => ⟨o, hk b o e⟩
      new := fun j p e hj => by
        rw [List.getElem?_append_right hj] at e
        rcases Nat.eq_zero_or_pos (j - ρ.length) with hz | hz
        · rw [hz] at e; cases e; exact ⟨ha, ha⟩
        · rw [List.getElem?_eq_none (by simp; exact hz)] at e; cases e }
  have hoff : ∀ p ∈ ρ, a ≠ p.1 ∧ a ≠ p.2 := fun p hp => by
    obtain ⟨⟨o1, e1⟩, ⟨o2, e2⟩⟩ := i.alive hp
    exact ⟨fun e => (by rw [← e, ha] at e1; cases e1), fun e => (by rw [← e, ha] at e2; cases e2)⟩
  have hcase : ∀ (n : Nat) (p : Addr × Addr), (ρ ++ [(a, a)])[n]? = some p → ρ[n]? = some p ∨ (n = ρ.length ∧ p = (a, a)) := fun n p e => by
    rcases Nat.lt_or_ge n ρ.length with hl | hl
    · rw [List.getElem?_append_left hl] at e; exact .inl e
    · rw [List.getElem?_append_right hl] at e
      rcases Nat.eq_zero_or_pos (n - ρ.length) with hz | hz
      · rw [hz] at e; cases e; exact .inr ⟨Nat.le_antisymm (Nat.le_of_sub_eq_zero hz) hl, rfl⟩
      · rw [List.getElem?_eq_none (by simp; exact hz)] at e; cases e
  refine ⟨⟨fun b o e => hk b o (i.base b o e), by simp [i.len], fun n o' p e1 e2 => ?_, fun n p hp hn => ?_, fun j k p q e1 e2 hjk => ?_⟩, hx⟩
  · rcases hcase n p e2 with e2 | ⟨rfl, rfl⟩
    · have hl : n < σ.length := by
        rcases Nat.lt_or_ge n ρ.length with hl | hl
        · rw [← i.len]; exact hl
        · rw [List.getElem?_eq_none hl] at e2; cases e2
      rw [List.getElem?_append_left hl] at e1
      exact (i.objs n o' p e1 e2).ext hx (fun ob g => hk _ _ g) (fun ob g => hk _ _ g)
    · rw [i.len, List.getElem?_append_right (Nat.le_refl _), Nat.sub_self] at e1
      cases e1; exact ho
  · rcases hcase n p hp with hp | ⟨_, rfl⟩
    · exact i.fresh n p hp hn
    · show h₀.get? a = none ∧ h₀.get? a = none
      have : h₀.get? a = none := by
        cases e : h₀.get? a with
        | none => rfl
        | some o => rw [i.base _ _ e] at ha; cases ha
      exact ⟨this, this⟩
  · rcases hcase j p e1 with e1 | ⟨rfl, rfl⟩ <;> rcases hcase k q e2 with e2 | ⟨rfl, rfl⟩
    · exact i.apart j k p q e1 e2 hjk
    · have := hoff p (List.mem_of_getElem? e1)
      exact ⟨this.1.symm, this.1.symm, this.2.symm, this.2.symm⟩
    · have := hoff q (List.mem_of_getElem? e2)
      exact ⟨this.1, this.2, this.1, this.2⟩
    · exact absurd rfl hjk

/-- an object of the store is changed -/
theorem Inv.set (i : Inv prog w h₀ σ ρ h) {n : Nat} {a : Addr} {o : O} (hpos : 0 < n) (hn : ρ[n]? = some (a, a)) (hk : ∀ b ob, b ≠ a → h.get? b = some ob → h'.get? b = some ob) (hlive : ∃ ob, h'.get? a = some ob)
    (hnt : ∀ vs k, h.get? a ≠ some (tupO vs k)) (ho : Ext W ρ h ρ h' → ORel prog w ρ h' (a, a) o) : Inv prog w h₀ (σ.set n o) ρ h' ∧ Ext W ρ h ρ h' := by
  have hx : Ext W ρ h ρ h' :=
    { pre := fun _ _ e => e
      keep := fun b ob e _ hb => hk b ob (fun eq => (hb _ (List.mem_of_getElem? hn)).1 eq) e
      tups := fun b vs k e => hk b _ (fun eq => hnt vs k (eq ▸ e)) e
      alive := fun b ob e => by
        by_cases hb : b = a
        · rw [hb]; exact hlive
        · exact ⟨ob, hk b ob hb e⟩
      new := fun j p e hj => by rw [List.getElem?_eq_none hj] at e; cases e }
  refine ⟨⟨fun b ob e => hk b ob (fun eq => ?_) (i.base b ob e), by simp [i.len], fun m o' p e1 e2 => ?_, i.fresh, i.apart⟩, hx⟩
  · have := (i.fresh _ _ hn hpos).1
    rw [eq] at e
    rw [e] at this; cases this
  · by_cases hm : m = n
    · subst hm
      rw [hn] at e2; cases e2
      obtain ⟨o₁, ho₁⟩ := i.lt hn
      have hl : m < σ.length := by
        rcases Nat.lt_or_ge m σ.length with hl | hl
        · exact hl
        · rw [List.getElem?_eq_none hl] at ho₁; cases ho₁
      rw [List.getElem?_set_self hl] at e1
      cases e1; exact ho hx
    · rw [List.getElem?_set_ne (Ne.symm hm)] at e1
      have ap := i.apart m n p (a, a) e2 hn hm
      exact (i.objs m o' p e1 e2).ext hx (fun ob g => hk _ _ ap.1 g) (fun ob g => hk _ _ ap.2.2.1 g)
end

/-! ## ends of a simulation -/
noncomputable def RV : V → Map → Heap → Value → Prop := fun v ρ h b => Rel ρ h b v
noncomputable def RB : Bool → Map → Heap → Bool → Prop := fun v _ _ b => b = v
noncomputable def RL : List V → Map → Heap → List Value → Prop := fun l ρ h vs => RelAll ρ h vs l

section
variable {prog : Program} {w : World} {h₀ : Heap} {A : Around} {W : List Addr} {ρ : Map} {s : Shared} {α β : Type} {σ : Store}

/-- the heap stays -/
theorem Sim.same {t : Sem β} {a : α} {R : α → Map → Heap → β → Prop} (i : Inv prog w h₀ σ ρ s.heap)
    (h : ∀ (Q : β → Shared → Prop) (E : Value → Shared → Prop), (∀ b tk, R a ρ s.heap b → Q b { s with toks := tk }) → wpAny (model prog w) A t Q E s) : Sim prog w h₀ A W t (.ok a σ) R ρ s :=
  h _ _ fun b tk r => ⟨ρ, s.heap, tk, rfl, i, Ext.refl, r⟩

/-- the heap grows, the store stays -/
theorem Sim.grown {t : Sem β} {a : α} {R : α → Map → Heap → β → Prop} (i : Inv prog w h₀ σ ρ s.heap)
    (h : ∀ (Q : β → Shared → Prop) (E : Value → Shared → Prop), (∀ b h' tk, (∀ c o, s.heap.get? c = some o → h'.get? c = some o) → R a ρ h' b → Q b { s with heap := h', toks := tk }) → wpAny (model prog w) A t Q E s) :
    Sim prog w h₀ A W t (.ok a σ) R ρ s :=
  h _ _ fun b h' tk hk r => ⟨ρ, h', tk, rfl, i.keeps hk, Ext.of_keeps hk, r⟩

/-- a new tuple -/
theorem Sim.newTuple {vs : List Value} {l : List V} (i : Inv prog w h₀ σ ρ s.heap) (r : RelAll ρ s.heap vs l) (hl : l.length ≤ sizeLine) : Sim prog w h₀ A W (PySem.newTuple vs) (.ok (.tup l) σ) RV ρ s := by
  have hlen := r.length
  have hk : ∀ b o, s.heap.get? b = some o → (s.heap.push (tupO vs 0)).get? b = some o := fun b o e => Heap.get?_push_of_some _ e
  refine Sim.grown i fun Q E hQ => ?_
  refine wpAny_newObj_type (T := "tuple") (hQ _ (s.heap.push (tupO vs 0)) s.toks hk ?_) (by show vs.toArray.size ≤ sizeLine; rw [List.size_toArray]; (first | lia | omega))
  exact Rel.tup (n := 0) (Heap.get?_push_size _ rfl) (by (first | lia | omega)) (r.ext (W := []) (Ext.of_keeps hk))

/-- a new list -/
theorem Sim.newList {vs : List Value} {l : List V} (i : Inv prog w h₀ σ ρ s.heap) (r : RelAll ρ s.heap vs l) (hl : l.length ≤ sizeLine) : Sim prog w h₀ A W (PySem.newList vs) (newO (.list l) σ) RV ρ s := by
  have hlen := r.length
  have hk : ∀ b o, s.heap.get? b = some o → (s.heap.push (listO vs 0)).get? b = some o := fun b o e => Heap.get?_push_of_some _ e
  have hN := i.new (W := W) (o := .list l) hk fresh_none ⟨rfl, vs, 0, Heap.get?_push_size _ rfl, by (first | lia | omega), ?_⟩
  · refine wpAny_newObj_type (T := "list") ⟨ρ ++ [(s.heap.objs.size, s.heap.objs.size)], s.heap.push (listO vs 0), s.toks, rfl, hN.1, hN.2, ?_⟩ (by show vs.toArray.size ≤ sizeLine; rw [List.size_toArray]; (first | lia | omega))
    refine Rel.ref (d := s.heap.objs.size) ?_
    rw [← i.len, List.getElem?_append_right (Nat.le_refl _), Nat.sub_self]; rfl
  · exact r.sub ((Sub.keeps hk).trans Sub.snoc)

/-- a list made anew at an address -/
theorem Sim.newListAt {t : Sem Value} {l : List V} (i : Inv prog w h₀ σ ρ s.heap)
    (h : ∀ (Q : Value → Shared → Prop) (E : Value → Shared → Prop), (∀ a vs n h' tk, (∀ c o, s.heap.get? c = some o → h'.get? c = some o) → s.heap.get? a = none → h'.get? a = some (listO vs n) → vs.length ≤ sizeLine →
      RelAll ρ h' vs l → Q (.ref a) { s with heap := h', toks := tk }) → wpAny (model prog w) A t Q E s) : Sim prog w h₀ A W t (newO (.list l) σ) RV ρ s := by
  refine h _ _ fun a vs n h' tk hk ha hg hl r => ?_
  have hN := i.new (W := W) (o := .list l) (h' := h') hk ha ⟨rfl, vs, n, hg, hl, ?_⟩
  · exact ⟨ρ ++ [(a, a)], h', tk, rfl, hN.1, hN.2, Rel.ref (d := a) (by rw [← i.len, List.getElem?_append_right (Nat.le_refl _), Nat.sub_self]; rfl)⟩
  · exact r.sub Sub.snoc

/-- a dict made anew at an address -/
theorem Sim.newDictAt {t : Sem Value} {l : Tab} (i : Inv prog w h₀ σ ρ s.heap)
    (h : ∀ (Q : Value → Shared → Prop) (E : Value → Shared → Prop), (∀ a kvs h' tk, (∀ c o, s.heap.get? c = some o → h'.get? c = some o) → s.heap.get? a = none → (a == sysModules) = false → h'.DictOf (keyKind prog w) a kvs → kvs.length ≤ sizeLine →
      Ents ρ h' kvs l → Q (.ref a) { s with heap := h', toks := tk }) → wpAny (model prog w) A t Q E s) : Sim prog w h₀ A W t (newO (.dict l) σ) RV ρ s := by
  refine h _ _ fun a kvs h' tk hk ha hs hg hl r => ?_
  have hN := i.new (W := W) (o := .dict l) (h' := h') hk ha ⟨rfl, hs, kvs, hg, hl, r.sub Sub.snoc⟩
  exact ⟨ρ ++ [(a, a)], h', tk, rfl, hN.1, hN.2, Rel.ref (d := a) (by rw [← i.len, List.getElem?_append_right (Nat.le_refl _), Nat.sub_self]; rfl)⟩
end

end Mine

namespace Mine
open PySem PyProof.Rows

section
variable {prog : Program} {w : World} {h₀ : Heap} {A : Around} {W : List Addr} {ρ : Map} {s : Shared} {σ : Store}

/-- the list of a number -/
theorem Inv.list (i : Inv prog w h₀ σ ρ s.heap) {n : Nat} {l : List V} {a d : Addr} (hσ : σ[n]? = some (.list l)) (hρ : ρ[n]? = some (a, d)) :
    d = a ∧ ∃ vs k, s.heap.get? a = some (listO vs k) ∧ vs.length ≤ sizeLine ∧ RelAll ρ s.heap vs l := i.objs n _ _ hσ hρ

theorem isList_of {h : Heap} {a : Addr} {vs : List Value} {k : Nat} (e : h.get? a = some (listO vs k)) : h.IsList a vs.toArray := ⟨_, e, rfl, k, rfl⟩
theorem isTuple_of {h : Heap} {a : Addr} {vs : List Value} {k : Nat} (e : h.get? a = some (tupO vs k)) : h.IsTuple a vs.toArray := ⟨_, e, rfl, k, rfl⟩
theorem sizeLine_lt : sizeLine < 2 ^ 63 := by decide

theorem getO_ok {n : Nat} {o : O} {σ' : Store} (h : getO n σ = .ok o σ') : σ' = σ ∧ σ[n]? = some o := by
  unfold getO at h
  split at h
  · cases h; exact ⟨rfl, by assumption⟩
  · cases h
theorem getO_exc {n : Nat} {e : V} {σ' : Store} (h : getO n σ = .exc e σ') : False := by
  unfold getO at h
  split at h <;> cases h

theorem getO_eq (n : Nat) : getO n σ = (match σ[n]? with | some o => .ok o σ | none => .bad) := rfl
theorem getList_eq (n : Nat) : getList n σ = (match σ[n]? with | some (.list l) => .ok l σ | _ => .bad) := by
  unfold getList
  cases e : σ[n]? with
  | none => rw [bind_bad (by rw [getO_eq, e])]
  | some o =>
    rw [bind_ok (a := o) (σ' := σ) (by rw [getO_eq, e])]
    cases o <;> rfl

/-- the list of a number is read -/
theorem Sim.getList {β γ : Type} {t : Sem β} {n : Nat} {k : List V → M γ} {R : γ → Map → Heap → β → Prop} (h : ∀ l, σ[n]? = some (.list l) → Sim prog w h₀ A W t (k l σ) R ρ s) :
    Sim prog w h₀ A W t ((getList n >>= k) σ) R ρ s := by
  cases e : σ[n]? with
  | none => rw [bind_bad (by rw [getList_eq, e])]; exact trivial
  | some o =>
    cases o with
    | list l => rw [bind_ok (by rw [getList_eq, e])]; exact h l e
    | dict _ => rw [bind_bad (by rw [getList_eq, e])]; exact trivial
    | inst _ _ => rw [bind_bad (by rw [getList_eq, e])]; exact trivial

theorem strOk_append {x y : Str} (hx : PyData.strOk x = true) (hy : PyData.strOk y = true) : PyData.strOk (x ++ y) = true := by
  unfold PyData.strOk at *
  show (x.cps ++ y.cps).all _ = true
  rw [Array.all_append, hx, hy]; rfl

theorem length_append (x y : Str) : (x ++ y).length = x.length + y.length := by
  show (x.cps ++ y.cps).size = _
  exact Array.size_append ..

theorem mulOk_fits {a b : Int} (h : Small a ∨ Small b) : IntMulOk a b :=
  h.elim (fun h => IntMulOk.of_left (intBits_le_64 h.1 h.2)) fun h => IntMulOk.of_right (intBits_le_64 h.1 h.2)
theorem Small.noPylong {a b : Int} (h : Small b) : Builtin.divisionGoesByPylong a b = false := PyProof.noPylong_of_log2 (by
  have h1 : b.natAbs < 2 ^ 64 := by have := h.1; have := h.2; (first | lia | omega)
  by_cases hz : b.natAbs = 0
  · rw [hz]; decide
  · exact (Nat.log2_lt hz).mpr (Nat.lt_of_lt_of_le h1 (Nat.pow_le_pow_right (by decide) (by decide))))

theorem Sim.ite {α β : Type} {t : Sem β} {c : Prop} [Decidable c] {m : M α} {R : α → Map → Heap → β → Prop} (h : c → Sim prog w h₀ A W t (m σ) R ρ s) : Sim prog w h₀ A W t ((if c then m else M.bad) σ) R ρ s := by
  by_cases hc : c
  · rw [if_pos hc]; exact h hc
  · rw [if_neg hc]; exact trivial

theorem Sim.intOp {op : Operator} {a b : Int} {t u : Tok} (i : Inv prog w h₀ σ ρ s.heap) : Sim prog w h₀ A W (binaryOp op (.int a t) (.int b u)) (Mine.intOp op a b σ) RV ρ s := by
  cases op with
  | Add => exact Sim.same i fun Q E hQ => add_int (hQ _ _ (.int _ _))
  | Sub => exact Sim.same i fun Q E hQ => sub_int (hQ _ _ (.int _ _))
  | Mult => exact Sim.ite fun hc => Sim.same i fun Q E hQ => PyProof.Rows.mul_int (hQ _ _ (.int _ _)) (mulOk_fits hc)
  | FloorDiv => exact Sim.ite fun hc => Sim.same i fun Q E hQ => floordiv_int hc.1 (hQ _ _ (.int _ _)) (.inl hc.2.noPylong)
  | Mod => exact Sim.ite fun hc => Sim.same i fun Q E hQ => mod_int hc.1 (hQ _ _ (.int _ _))
  | Pow =>
    refine Sim.ite fun hc => Sim.same i fun Q E hQ => pow_int_small hc.1 (by (first | lia | omega)) ?_ (hQ _ _ (.int _ _))
    exact Nat.lt_of_lt_of_le hc.2.2 (by decide)
  | _ => exact trivial
theorem Sim.addV {a b : Value} {x y : V} (i : Inv prog w h₀ σ ρ s.heap) (ra : Rel ρ s.heap a x) (rb : Rel ρ s.heap b y) :
    Sim prog w h₀ A W (binaryOp .Add a b) (Mine.addV x y σ) RV ρ s := by
  cases ra with
  | str _ _ hx =>
    cases rb with
    | str _ _ hy => exact Sim.ite fun hc => Sim.same i fun Q E hQ => add_str (fun t' tk => hQ _ _ (.str _ _ ⟨by rw [length_append]; exact hc, strOk_append hx.2 hy.2⟩)) hc
    | _ => exact trivial
  | @tup ad vs n l ga la r1 =>
    cases rb with
    | @tup bd ws k m gb lb r2 =>
      refine Sim.ite fun hc => ?_
      have h1 := r1.length
      have h2 := r2.length
      by_cases hv : vs = []
      · subst hv
        cases r1
        refine Sim.same i fun Q E hQ => ?_
        exact concat_meets ⟨_, ga, rfl⟩ ⟨_, gb, rfl⟩ noFill_tuple_add seq_tuple_add PySem.F.slot_tuple_add PySem.F.entry_tuple_add (PySem.F.args_tuple_add_2 _ _)
          (tuple_addW0 ad bd ([] : List Value).toArray ws.toArray n k none none #[] #[] rfl) ⟨ga, gb, hQ _ _ (.tup gb lb r2)⟩
      · by_cases hw : ws = []
        · subst hw
          cases r2
          refine Sim.same i fun Q E hQ => ?_
          rw [List.append_nil] at hQ
          exact concat_meets ⟨_, ga, rfl⟩ ⟨_, gb, rfl⟩ noFill_tuple_add seq_tuple_add PySem.F.slot_tuple_add PySem.F.entry_tuple_add (PySem.F.args_tuple_add_2 _ _)
            (tuple_addW1 ad bd vs.toArray ([] : List Value).toArray n k none none #[] #[] (by simpa using hv) rfl) ⟨ga, gb, hQ _ _ (.tup ga la r1)⟩
        · have hk : ∀ b o, s.heap.get? b = some o → (s.heap.push (tupO (vs ++ ws) 0)).get? b = some o := fun b o e => Heap.get?_push_of_some _ e
          refine Sim.grown i fun Q E hQ => P.add_tuple (n := n) (n2 := k) ga gb (by simpa using hv) (by simpa using hw) ?_ (by simp; (first | lia | omega))
          have := hQ (.ref s.heap.objs.size) (s.heap.push (tupO (vs ++ ws) 0)) s.toks hk (.tup (n := 0) (Heap.get?_push_size _ rfl) (by simp; (first | lia | omega)) ((r1.append r2).sub (Sub.keeps hk)))
          simpa [tupO] using this

    | _ => exact trivial
  | ref ea =>
    cases rb with
    | ref eb =>
      refine Sim.getList fun l hl => Sim.getList fun m hm => Sim.ite fun hc => ?_
      obtain ⟨_, vs, k, ga, la, r1⟩ := i.list hl ea
      obtain ⟨_, ws, k', gb, lb, r2⟩ := i.list hm eb
      have h1 := r1.length
      have h2 := r2.length
      refine Sim.newListAt i fun Q E hQ => P.add_list (n := k) (n2 := k') ga gb ?_ (by simp; (first | lia | omega))
      have hk : ∀ b o, s.heap.get? b = some o → (s.heap.push (listO (vs ++ ws) 0)).get? b = some o := fun b o e => Heap.get?_push_of_some _ e
      have := hQ s.heap.objs.size (vs ++ ws) 0 (s.heap.push (listO (vs ++ ws) 0)) s.toks hk fresh_none (Heap.get?_push_size _ rfl) (by simp; (first | lia | omega)) ((r1.append r2).sub (Sub.keeps hk))
      simpa [listO] using this

    | _ => exact trivial
  | _ => exact trivial
theorem Sim.binop {op : Operator} {a b : Value} {x y : V} (i : Inv prog w h₀ σ ρ s.heap) (ra : Rel ρ s.heap a x) (rb : Rel ρ s.heap b y) :
    Sim prog w h₀ A W (binaryOp op a b) (binop op x y σ) RV ρ s := by
  have other : Sim prog w h₀ A W (binaryOp op a b) ((cond (isAdd op) (Mine.addV x y) M.bad) σ) RV ρ s := by
    cases op with
    | Add => exact Sim.addV i ra rb
    | _ => exact trivial
  cases ra with
  | int p t =>
    cases rb with
    | int q u => exact Sim.intOp i
    | _ => exact trivial
  | none => exact other
  | bool _ => exact other
  | str _ _ _ => exact other
  | tup _ _ _ => exact other
  | ref _ => exact other
end

end Mine

namespace Mine
open PySem PyProof.Rows

/-! ## plain data -/
section
variable {prog : Program} {w : World} {h₀ : Heap} {ρ : Map} {h : Heap} {σ : Store}
mutual
theorem toPyT_reads {f : Nat → Option PyData} (hf : ∀ n d a b, f n = some d → ρ[n]? = some (a, b) → ∃ as, Reads h (.ref a) d as ∧ d.canLay0 = true) :
    ∀ {v : Value} {x : V} {d : PyData}, Rel ρ h v x → toPyT f x = some d → ∃ as, Reads h v d as ∧ d.canLay0 = true
  | _, _, _, .none, e => by cases e; exact ⟨_, .none, rfl⟩
  | _, _, _, .bool b, e => by cases e; exact ⟨_, .bool b, rfl⟩
  | _, _, _, .int i t, e => by cases e; exact ⟨_, .int i t, rfl⟩
  | _, _, _, .str x t hx, e => by cases e; exact ⟨_, .str x t, hx.2⟩
  | _, _, _, .ref hn, e => hf _ _ _ _ e hn
  | _, _, d, @Rel.tup _ _ a vs n l g _ r, e => by
    have e : (toPyTs f l).map PyData.tuple = some d := e
    obtain ⟨ds, e1, rfl⟩ := Option.map_eq_some_iff.mp e
    obtain ⟨as, hr, hc⟩ := toPyTs_reads hf r e1
    exact ⟨as, .tuple (vs := vs.toArray) (n := n) g rfl rfl (by simpa using hr), hc⟩
theorem toPyTs_reads {f : Nat → Option PyData} (hf : ∀ n d a b, f n = some d → ρ[n]? = some (a, b) → ∃ as, Reads h (.ref a) d as ∧ d.canLay0 = true) :
    ∀ {vs : List Value} {l : List V} {ds : List PyData}, RelAll ρ h vs l → toPyTs f l = some ds → ∃ as, ReadsAll h vs ds as ∧ PyData.canLayAll0 ds = true
  | _, _, _, .nil, e => by cases e; exact ⟨_, .nil, rfl⟩
  | _, _, ds, @RelAll.cons _ _ v vs x l r rs, e => by
    have e : (match toPyT f x, toPyTs f l with | some d, some ds => some (d :: ds) | _, _ => none) = some ds := e
    cases e1 : toPyT f x with
    | none => rw [e1] at e; cases e
    | some d =>
      cases e2 : toPyTs f l with
      | none => rw [e1, e2] at e; cases e
      | some ds' =>
        rw [e1, e2] at e; cases e
        obtain ⟨as, hr, hc⟩ := toPyT_reads hf r e1
        obtain ⟨bs, hrs, hcs⟩ := toPyTs_reads hf rs e2
        exact ⟨as ++ bs, .cons hr hrs, by show (d.canLay0 && PyData.canLayAll0 ds') = true; rw [hc, hcs]; rfl⟩
end

theorem toPyF_reads (i : Inv prog w h₀ σ ρ h) : ∀ (k n : Nat) (d : PyData) (a b : Addr), toPyF σ k n = some d → ρ[n]? = some (a, b) → ∃ as, Reads h (.ref a) d as ∧ d.canLay0 = true
  | 0, _, _, _, _, e, _ => by cases e
  | k + 1, n, d, a, b, e, hn => by
    have e : (match σ[n]? with | some (.list l) => (toPyTs (toPyF σ k) l).map PyData.list | _ => none) = some d := e
    cases e1 : σ[n]? with
    | none => rw [e1] at e; cases e
    | some o =>
      rw [e1] at e
      cases o with
      | dict _ => cases e
      | inst _ _ => cases e
      | list l =>
        obtain ⟨ds, e2, rfl⟩ := Option.map_eq_some_iff.mp e
        obtain ⟨_, vs, m, g, hl, r⟩ := i.objs n _ _ e1 hn
        obtain ⟨as, hr, hc⟩ := toPyTs_reads (fun n d a b => toPyF_reads i k n d a b) r e2
        exact ⟨a :: as, .list (vs := vs.toArray) (n := m) g rfl rfl (by simpa using hr), hc⟩

theorem toPy_reads (i : Inv prog w h₀ σ ρ h) {v : Value} {x : V} {d : PyData} (r : Rel ρ h v x) (e : toPy σ x = some d) : ∃ as, Reads h v d as ∧ d.canLay0 = true :=
  toPyT_reads (fun n d a b => toPyF_reads i 4 n d a b) r e
end

section
variable {prog : Program} {w : World} {h₀ : Heap} {A : Around} {W : List Addr} {ρ : Map} {s : Shared} {σ : Store}

/-- what a comparison tells -/
theorem veq_some {x y : V} {b : Bool} (h : veq σ x y = some b) : ∃ dx dy, toPy σ x = some dx ∧ toPy σ y = some dy ∧ min dx.depth dy.depth ≤ 200 ∧ b = PyData.eqv dx dy := by
  unfold veq at h
  cases e1 : toPy σ x with
  | none => rw [e1] at h; cases h
  | some dx =>
    cases e2 : toPy σ y with
    | none => rw [e1, e2] at h; cases h
    | some dy =>
      rw [e1, e2] at h
      dsimp only at h
      split at h
      · rename_i hd; cases h; exact ⟨dx, dy, rfl, rfl, hd, rfl⟩
      · cases h

theorem Sim.ask {α β : Type} {t : Sem β} {f : Store → Option α} {R : α → Map → Heap → β → Prop} (h : ∀ a, f σ = some a → Sim prog w h₀ A W t (.ok a σ) R ρ s) : Sim prog w h₀ A W t (askS f σ) R ρ s := by
  unfold askS
  cases e : f σ with
  | none => exact trivial
  | some a => exact h a e

theorem eqAt_of (i : Inv prog w h₀ σ ρ s.heap) {a b : Value} {x y : V} {dx dy : PyData} (ra : Rel ρ s.heap a x) (rb : Rel ρ s.heap b y) (ex : toPy σ x = some dx) (ey : toPy σ y = some dy)
    (hd : min dx.depth dy.depth ≤ 200) (hu : A.units + 200 < cLine) : SeqAt.EqAt A s a b (PyData.eqv dx dy) := by
  obtain ⟨as, r1, c1⟩ := toPy_reads i ra ex
  obtain ⟨bs, r2, c2⟩ := toPy_reads i rb ey
  exact SeqAt.eqAt_reads dx dy A s a b as bs r1 r2 c1 c2 (by (first | lia | omega))
/-- an item's answer, by what is read -/
noncomputable def Ans (σ : Store) (ρ : Map) (h : Heap) (y : V) (v : Value) : Prop := ∃ dx dy, (∃ x, Rel ρ h v x ∧ toPy σ x = some dx) ∧ toPy σ y = some dy ∧ PyData.eqv dx dy = true
open Classical in
noncomputable def ansB (σ : Store) (ρ : Map) (h : Heap) (y : V) (v : Value) : Bool := decide (Ans σ ρ h y v)
open Classical in
theorem ansB_is (i : Inv prog w h₀ σ ρ s.heap) {v : Value} {x y : V} {e : Bool} (r : Rel ρ s.heap v x) (h : veq σ x y = some e) : ansB σ ρ s.heap y v = e := by
  obtain ⟨dx, dy, ex, ey, _, rfl⟩ := veq_some h
  unfold ansB
  cases hq : PyData.eqv dx dy with
  | true => exact decide_eq_true ⟨dx, dy, ⟨x, r, ex⟩, ey, hq⟩
  | false =>
    refine decide_eq_false ?_
    rintro ⟨dx', dy', ⟨x', r', ex'⟩, ey', hq'⟩
    rw [ey] at ey'; cases ey'
    obtain ⟨as, r1, c1⟩ := toPy_reads i r ex
    obtain ⟨as', r2, c2⟩ := toPy_reads i r' ex'
    rw [SeqAt.Reads.unique _ _ _ _ _ c1 r1 r2, hq'] at hq; cases hq
/-- the items of a row, one by one -/
theorem vin_any (i : Inv prog w h₀ σ ρ s.heap) {b : Value} {y : V} (rb : Rel ρ s.heap b y) (hu : A.units + 200 < cLine) : ∀ {vs : List Value} {l : List V} {k : Bool}, RelAll ρ s.heap vs l → vin σ y l = some k →
    k = vs.any (ansB σ ρ s.heap y) ∧ ∀ v ∈ vs, SeqAt.EqAt A s v b (ansB σ ρ s.heap y v) := by
  intro vs l k r h
  induction l generalizing vs k with
  | nil => cases r; cases h; exact ⟨rfl, fun _ hv => nomatch hv⟩
  | cons x l ih =>
    cases r with
    | cons r rs =>
    have h : (match veq σ x y, vin σ y l with | some e, some t => some (e || t) | _, _ => none) = some k := h
    cases e1 : veq σ x y with
    | none => rw [e1] at h; cases h
    | some e =>
      cases e2 : vin σ y l with
      | none => rw [e1, e2] at h; cases h
      | some t =>
        rw [e1, e2] at h; cases h
        obtain ⟨h1, h2⟩ := ih rs e2
        have hb := ansB_is i r e1
        refine ⟨by rw [List.any_cons, hb, ← h1], fun u hm => ?_⟩
        rcases List.mem_cons.mp hm with rfl | hm
        · obtain ⟨dx, dy, ex, ey, hd, rfl⟩ := veq_some e1
          rw [hb]; exact eqAt_of i r rb ex ey hd hu
        · exact h2 u hm

/-! dicts -/
theorem Inv.dict (i : Inv prog w h₀ σ ρ s.heap) {n : Nat} {l : Tab} {p : Addr × Addr} (hσ : σ[n]? = some (.dict l)) (er : ρ[n]? = some p) :
    p.2 = p.1 ∧ (p.1 == sysModules) = false ∧ ∃ kvs, s.heap.DictOf (keyKind prog w) p.1 kvs ∧ kvs.length ≤ sizeLine ∧ Ents ρ s.heap kvs l := i.objs n _ p hσ er
theorem keyOf_is {a : Value} {x : V} {k : Key} {h : Heap} (ra : Rel ρ h a x) (e : keyOf x = some k) : keyIs k a = true ∧ ∀ s, k = .inr s → SOk s := by
  cases ra with
  | int i t => cases e; exact ⟨isInt_same i t, fun s e => by cases e⟩
  | str x t hx => cases e; exact ⟨isStrOf_same x t, fun s e => by cases e; exact hx⟩
  | _ => cases e
theorem Ents.at {h : Heap} {k : Key} : ∀ {kvs : List (Key × Value)} {l : Tab}, Ents ρ h kvs l → (dGet l k = none → valueAt kvs k = none) ∧ ∀ x, dGet l k = some x → ∃ v, valueAt kvs k = some v ∧ Rel ρ h v x
  | _, _, .nil => ⟨fun _ => rfl, fun _ e => by cases e⟩
  | _, _, @Ents.cons _ _ k' v x kvs l hs r rs => by
    have ih := Ents.at (k := k) rs
    unfold dGet valueAt at ih ⊢
    rw [List.find?_cons, List.find?_cons]
    by_cases hk : k' = k
    · simp only [hk, decide_true]
      exact ⟨fun e => (by cases e), fun y e => (by cases e; exact ⟨v, rfl, r⟩)⟩
    · simp only [hk, decide_false]
      exact ih
theorem Ents.isSome {h : Heap} {k : Key} {kvs : List (Key × Value)} {l : Tab} (r : Ents ρ h kvs l) : (valueAt kvs k).isSome = (dGet l k).isSome := by
  have := r.at (k := k)
  cases e : dGet l k with
  | none => rw [this.1 e]; rfl
  | some x => obtain ⟨v, hv, _⟩ := this.2 x e; rw [hv]; rfl
/-- the object of a number is read -/
theorem Sim.getO {β γ : Type} {t : Sem β} {n : Nat} {k : O → M γ} {R : γ → Map → Heap → β → Prop} (h : ∀ o, σ[n]? = some o → Sim prog w h₀ A W t (k o σ) R ρ s) :
    Sim prog w h₀ A W t ((getO n >>= k) σ) R ρ s := by
  cases e : σ[n]? with
  | none => rw [bind_bad (by rw [getO_eq, e])]; exact trivial
  | some o => rw [bind_ok (a := o) (σ' := σ) (by rw [getO_eq, e])]; exact h o e
theorem Sim.optThen {α β γ : Type} {t : Sem β} {o : Option α} {k : α → M γ} {R : γ → Map → Heap → β → Prop} (h : ∀ a, o = some a → Sim prog w h₀ A W t (k a σ) R ρ s) : Sim prog w h₀ A W t ((ofOpt o >>= k) σ) R ρ s := by
  cases o with
  | none => exact trivial
  | some a => exact h a rfl
theorem Sim.askThen {α β γ : Type} {t : Sem β} {f : Store → Option α} {k : α → M γ} {R : γ → Map → Heap → β → Prop} (h : ∀ a, f σ = some a → Sim prog w h₀ A W t (k a σ) R ρ s) : Sim prog w h₀ A W t ((askS f >>= k) σ) R ρ s := by
  cases e : f σ with
  | none => rw [bind_bad (by unfold askS; rw [e])]; exact trivial
  | some a => rw [bind_ok (a := a) (σ' := σ) (by unfold askS; rw [e])]; exact h a e

theorem Sim.inV {a b : Value} {x y : V} {f : Bool → Bool} {op : CmpOp} (i : Inv prog w h₀ σ ρ s.heap) (hu : A.units + 201 < cLine) (ra : Rel ρ s.heap a x) (rb : Rel ρ s.heap b y) (hop : (op = .In ∧ f = id) ∨ (op = .NotIn ∧ f = not)) :
    Sim prog w h₀ A W (compareOp op a b) ((Mine.inV x y >>= fun c => (Pure.pure (V.bool (f c)) : M V)) σ) RV ρ s := by
  have hu1 : A.in1.units + 200 < cLine := by show A.units + 1 + 200 < cLine; (first | lia | omega)
  cases rb with
  | tup g hl r =>
    refine Sim.askThen fun k hk => ?_
    obtain ⟨rfl, he⟩ := vin_any (A := A.in1) i ra hu1 r hk
    rcases hop with ⟨rfl, rfl⟩ | ⟨rfl, rfl⟩
    · refine Sim.same i fun Q E hQ => SeqAt.in_tupleAt _ (isTuple_of g) (fun y hy => he y (by simpa using hy)) ?_
      have := hQ _ s.toks (.bool _)
      simpa using this
    · refine Sim.same i fun Q E hQ => SeqAt.notIn_tupleAt _ (isTuple_of g) (fun y hy => he y (by simpa using hy)) ?_
      have := hQ _ s.toks (.bool _)
      simpa using this
  | str y t hy =>
    cases ra with
    | str x u hx =>
      rcases hop with ⟨rfl, rfl⟩ | ⟨rfl, rfl⟩
      · exact Sim.same i fun Q E hQ => SB.contains (hQ _ s.toks (.bool _))
      · exact Sim.same i fun Q E hQ => SB.notContains (hQ _ s.toks (.bool _))
    | _ => exact trivial
  | @ref ad d n er =>
    show Sim prog w h₀ A W _ ((Mine.among x n >>= fun b => (Pure.pure (V.bool (f b)) : M V)) σ) _ _ _
    unfold Mine.among
    rw [M.assoc]
    refine Sim.getO fun o ho => ?_
    cases o with
    | list l =>
      refine Sim.askThen fun k hk => ?_
      obtain ⟨_, vs, m, g, hl, r⟩ := i.list ho er
      obtain ⟨rfl, he⟩ := vin_any (A := A.in1) i ra hu1 r hk
      rcases hop with ⟨rfl, rfl⟩ | ⟨rfl, rfl⟩
      · refine Sim.same i fun Q E hQ => SeqAt.in_listAt _ (isList_of g) (fun y hy => he y (by simpa using hy)) ?_
        have := hQ _ s.toks (.bool _)
        simpa using this
      · refine Sim.same i fun Q E hQ => SeqAt.notIn_listAt _ (isList_of g) (fun y hy => he y (by simpa using hy)) ?_
        have := hQ _ s.toks (.bool _)
        simpa using this
    | dict l =>
      refine Sim.optThen fun k hk => ?_
      obtain ⟨kk, ek, rfl⟩ := Option.map_eq_some_iff.mp hk
      obtain ⟨_, hs, kvs, hd, hl, r⟩ := i.dict ho er
      rcases hop with ⟨rfl, rfl⟩ | ⟨rfl, rfl⟩
      · exact Sim.same i fun Q E hQ => wpAny_in_of (keyOf_is ra ek).1 hs hd.mapOf (hQ _ _ (by rw [r.isSome]; exact .bool _))
      · exact Sim.same i fun Q E hQ => wpAny_notIn_of (keyOf_is ra ek).1 hs hd.mapOf (hQ _ _ (by rw [r.isSome]; exact .bool _))
    | inst _ _ => exact trivial
  | none => exact trivial
  | bool _ => exact trivial
  | int _ _ => exact trivial
theorem Sim.isV {a b : Value} {x y : V} {f : Bool → Bool} {op : CmpOp} (i : Inv prog w h₀ σ ρ s.heap) (ra : Rel ρ s.heap a x) (rb : Rel ρ s.heap b y) (hop : (op = .Is ∧ f = id) ∨ (op = .IsNot ∧ f = not)) :
    Sim prog w h₀ A W (compareOp op a b) ((Mine.isV x y >>= fun c => (Pure.pure (V.bool (f c)) : M V)) σ) RV ρ s := by
  cases rb with
  | none =>
    rcases hop with ⟨rfl, rfl⟩ | ⟨rfl, rfl⟩
    · refine Sim.same i fun Q E hQ => is_none (hQ _ s.toks ?_)
      cases ra <;> exact .bool _
    · refine Sim.same i fun Q E hQ => isNot_none (hQ _ s.toks ?_)
      cases ra <;> exact .bool _
  | bool c =>
    rcases hop with ⟨rfl, rfl⟩ | ⟨rfl, rfl⟩
    · cases ra <;> refine Sim.same i fun Q E hQ => wpAny_pure (hQ _ s.toks ?_) <;> first | exact .bool _ | (rename_i q; cases q <;> cases c <;> exact .bool _)
    · cases ra <;> refine Sim.same i fun Q E hQ => wpAny_pure (hQ _ s.toks ?_) <;> first | exact .bool _ | (rename_i q; cases q <;> cases c <;> exact .bool _)
  | _ => exact trivial
theorem Sim.ordV {a b : Value} {x y : V} {f : Int → Int → Bool} {g : Str → Str → Bool} {t : Sem Value} (i : Inv prog w h₀ σ ρ s.heap) (ra : Rel ρ s.heap a x) (rb : Rel ρ s.heap b y)
    (h1 : ∀ (m n : Int) (p q : Tok) (Q E : Value → Shared → Prop), a = .int m p → b = .int n q → Q (.bool (f m n)) s → wpAny (model prog w) A t Q E s)
    (h2 : ∀ (m n : Str) (p q : Tok) (Q E : Value → Shared → Prop), a = .str m p → b = .str n q → Q (.bool (g m n)) s → wpAny (model prog w) A t Q E s) : Sim prog w h₀ A W t (Mine.ordV f g x y σ) RV ρ s := by
  cases ra with
  | int m p => cases rb with
    | int n q => exact Sim.same i fun Q E hQ => h1 m n p q Q E rfl rfl (hQ _ s.toks (.bool _))
    | _ => exact trivial
  | str m p hm => cases rb with
    | str n q hn => exact Sim.same i fun Q E hQ => h2 m n p q Q E rfl rfl (hQ _ s.toks (.bool _))
    | _ => exact trivial
  | _ => exact trivial
theorem Sim.cmp {op : CmpOp} {a b : Value} {x y : V} (i : Inv prog w h₀ σ ρ s.heap) (hu : A.units + 201 < cLine) (ra : Rel ρ s.heap a x) (rb : Rel ρ s.heap b y) :
    Sim prog w h₀ A W (compareOp op a b) (cmp op x y σ) RV ρ s := by
  have hu1 : A.in1.units + 200 < cLine := by show A.units + 1 + 200 < cLine; (first | lia | omega)
  cases op with
  | Eq =>
    show Sim prog w h₀ A W _ (askS (fun σ => (veq σ x y).map V.bool) σ) RV ρ s
    refine Sim.ask fun c hc => ?_
    obtain ⟨k, hk, rfl⟩ := Option.map_eq_some_iff.mp hc
    obtain ⟨dx, dy, ex, ey, hd, rfl⟩ := veq_some hk
    obtain ⟨as, r1, c1⟩ := toPy_reads i ra ex
    obtain ⟨bs, r2, c2⟩ := toPy_reads i rb ey
    exact Sim.same i fun Q E hQ => SeqAt.compareEq_reads r1 r2 c1 c2 (by (first | lia | omega)) (hQ _ s.toks (.bool _))
  | NotEq =>
    show Sim prog w h₀ A W _ (askS (fun σ => (veq σ x y).map fun e => V.bool (!e)) σ) RV ρ s
    refine Sim.ask fun c hc => ?_
    obtain ⟨k, hk, rfl⟩ := Option.map_eq_some_iff.mp hc
    obtain ⟨dx, dy, ex, ey, hd, rfl⟩ := veq_some hk
    obtain ⟨as, r1, c1⟩ := toPy_reads i ra ex
    obtain ⟨bs, r2, c2⟩ := toPy_reads i rb ey
    exact Sim.same i fun Q E hQ => SeqAt.compareNe_reads r1 r2 c1 c2 (by (first | lia | omega)) (hQ _ s.toks (.bool _))
  | Lt => exact Sim.ordV i ra rb (fun m n p q Q E ea eb h => by subst ea eb; exact lt_int h) fun m n p q Q E ea eb h => by subst ea eb; exact P.lt_str h
  | LtE => exact Sim.ordV i ra rb (fun m n p q Q E ea eb h => by subst ea eb; exact le_int h) fun m n p q Q E ea eb h => by subst ea eb; exact P.le_str h
  | Gt => exact Sim.ordV i ra rb (fun m n p q Q E ea eb h => by subst ea eb; exact gt_int h) fun m n p q Q E ea eb h => by subst ea eb; exact P.gt_str h
  | GtE => exact Sim.ordV i ra rb (fun m n p q Q E ea eb h => by subst ea eb; exact ge_int h) fun m n p q Q E ea eb h => by subst ea eb; exact P.ge_str h
  | Is => exact Sim.isV (f := id) i ra rb (.inl ⟨rfl, rfl⟩)
  | IsNot => exact Sim.isV (f := not) i ra rb (.inr ⟨rfl, rfl⟩)
  | In => exact Sim.inV (f := id) i hu ra rb (.inl ⟨rfl, rfl⟩)
  | NotIn => exact Sim.inV (f := not) i hu ra rb (.inr ⟨rfl, rfl⟩)

theorem Sim.truth {a : Value} {x : V} (i : Inv prog w h₀ σ ρ s.heap) (ra : Rel ρ s.heap a x) : Sim prog w h₀ A W (truthy a) (truth x σ) RB ρ s := by
  have hs := sizeLine_lt
  unfold Mine.truth
  split
  · cases ra; exact Sim.same i fun Q E hQ => truthy_none (hQ _ s.toks rfl)
  · cases ra; exact Sim.same i fun Q E hQ => wpAny_truthy_bool (hQ _ s.toks rfl)
  · cases ra; exact Sim.same i fun Q E hQ => truthy_int (hQ _ s.toks rfl)
  · cases ra with
    | str x t hx =>
    refine Sim.same i fun Q E hQ => P.truthy_str (by have := hx.1; (first | lia | omega)) (hQ _ _ ?_)
    show _ = _
    rw [Bool.eq_iff_iff]; simp
  · cases ra with
    | tup g hl r =>
    refine Sim.same i fun Q E hQ => truthy_tuple (isTuple_of g) (by simp; (first | lia | omega)) (hQ _ _ ?_)
    have := r.length
    show _ = _
    rw [Bool.eq_iff_iff]
    simp [← this]
  · cases ra with
    | ref er =>
    rename_i n _ _
    cases e : σ[n]? with
    | none => rw [bind_bad (by rw [getO_eq, e])]; exact trivial
    | some o =>
      rw [bind_ok (a := o) (σ' := σ) (by rw [getO_eq, e])]
      cases o with
      | list l =>
        obtain ⟨_, vs, m, g, hl, r⟩ := i.list e er
        refine Sim.same i fun Q E hQ => wpAny_truthy_list (isList_of g) (by simp; (first | lia | omega)) (hQ _ _ ?_)
        have := r.length
        show _ = _
        rw [Bool.eq_iff_iff]
        simp [← this]
      | dict _ => exact trivial
      | inst _ _ => exact trivial
end

end Mine

namespace Mine
open PySem PyProof.Rows

section
variable {prog : Program} {w : World} {h₀ : Heap} {A : Around} {W : List Addr} {ρ : Map} {s : Shared} {σ : Store}

theorem place_seqIndex {i : Int} {n k : Nat} (h : place i n = some k) (hn : n ≤ sizeLine) : seqIndex? i n = some k ∧ -(2 ^ 63) ≤ i ∧ i < 2 ^ 63 := by
  have hs := sizeLine_lt
  unfold place at h
  split at h
  · split at h
    · cases h
      exact ⟨seqIndex_of (by omega) (by omega), by omega, by omega⟩
    · cases h
  · split at h
    · cases h
      exact ⟨seqIndex_neg (by omega) (by omega), by omega, by omega⟩
    · cases h

theorem place_lt {i : Int} {n k : Nat} (h : place i n = some k) : k < n := by
  unfold place at h
  split at h
  · split at h
    · cases h; omega
    · cases h
  · split at h
    · cases h; omega
    · cases h

theorem getItem_listAny {l : Addr} {vs : List Value} {n k : Nat} {i : Int} {t : Tok} {x : Value} {Q : Value → Shared → Prop} {E : Value → Shared → Prop} (g : s.heap.get? l = some (listO vs n)) (hl : vs.length ≤ sizeLine)
    (hk : place i vs.length = some k) (hx : vs[k]? = some x) (h : Q x s) : wpAny (model prog w) A (getItem (.ref l) (.int i t)) Q E s := by
  have hs := sizeLine_lt
  unfold place at hk
  split at hk
  · rename_i h0
    split at hk
    · cases hk
      exact wpAny_getItem_list (isList_of g) h0 (by omega) (by simpa using hx) h
    · cases hk
  · rename_i h0
    split at hk
    · cases hk
      exact wpAny_getItem_list_neg (isList_of g) (by omega) (by simp; omega) (by omega) (by simpa using hx) h
    · cases hk

theorem Sim.ofOpt {α β : Type} {t : Sem β} {o : Option α} {R : α → Map → Heap → β → Prop} (h : ∀ a, o = some a → Sim prog w h₀ A W t (.ok a σ) R ρ s) : Sim prog w h₀ A W t (ofOpt o σ) R ρ s := by
  cases o with
  | none => exact trivial
  | some a => exact h a rfl
theorem Sim.ofOptBind {α β γ : Type} {t : Sem β} {o : Option α} {k : α → M γ} {R : γ → Map → Heap → β → Prop} (h : ∀ a, o = some a → Sim prog w h₀ A W t (k a σ) R ρ s) : Sim prog w h₀ A W t ((Mine.ofOpt o >>= k) σ) R ρ s := by
  cases o with
  | none => exact trivial
  | some a => exact h a rfl

theorem Sim.item {a b : Value} {x y : V} (i : Inv prog w h₀ σ ρ s.heap) (ra : Rel ρ s.heap a x) (rb : Rel ρ s.heap b y) :
    Sim prog w h₀ A W (getItem a b) (item x y σ) RV ρ s := by
  have hs := sizeLine_lt
  unfold Mine.item
  split
  · cases ra with
    | tup g hl r =>
    cases rb with
    | int k t =>
    have hlen := r.length
    refine Sim.ofOpt fun v hv => ?_
    obtain ⟨j, hj, hv⟩ := Option.bind_eq_some_iff.mp hv
    obtain ⟨val, e, hr⟩ := r.get hv
    obtain ⟨h1, h2, h3⟩ := place_seqIndex hj (by omega)
    exact Sim.same i fun Q E hQ => P.getItem_tuple g h2 h3 (by simpa [hlen] using h1) (by simpa using e) (hQ _ s.toks hr)
  · cases ra with
    | str x t hx =>
    cases rb with
    | int k u =>
    refine Sim.ofOpt fun v hv => ?_
    obtain ⟨j, hj, hv⟩ := Option.bind_eq_some_iff.mp hv
    obtain ⟨c, hc, rfl⟩ := Option.map_eq_some_iff.mp hv
    obtain ⟨h1, h2, h3⟩ := place_seqIndex hj hx.1
    refine Sim.same i fun Q E hQ => P.getItem_str (c := c) ?_ (by rw [h1]; simpa using hc) (hQ _ _ (.str _ _ ⟨by show 1 ≤ sizeLine; decide, ?_⟩))
    · simp only [Bool.or_eq_false_iff, decide_eq_false_iff_not]; omega
    · have h4 := hx.2
      unfold PyData.strOk at h4 ⊢
      rw [Array.all_eq_true] at h4
      have hlt : j < (_ : Str).cps.size := place_lt hj
      have := h4 j hlt
      rw [Array.getElem?_eq_getElem hlt] at hc
      cases hc
      simpa [chr1] using this
  · cases ra with
    | ref er =>
    refine Sim.getO fun o ho => ?_
    cases o with
    | list l =>
      cases rb with
      | int k t =>
        refine Sim.ofOpt fun v hv => ?_
        obtain ⟨_, vs, m, g, hl, r⟩ := i.list ho er
        have hlen := r.length
        obtain ⟨j, hj, hv⟩ := Option.bind_eq_some_iff.mp hv
        obtain ⟨val, e, hr⟩ := r.get hv
        exact Sim.same i fun Q E hQ => getItem_listAny g hl (by rw [hlen]; exact hj) e (hQ _ s.toks hr)
      | _ => exact trivial
    | dict l =>
      refine Sim.ofOpt fun v hv => ?_
      obtain ⟨kk, ek, hv⟩ := Option.bind_eq_some_iff.mp hv
      obtain ⟨_, hs, kvs, hd, hl, r⟩ := i.dict ho er
      obtain ⟨val, e, hr⟩ := r.at.2 v hv
      exact Sim.same i fun Q E hQ => wpAny_getItem_of (keyOf_is rb ek).1 hd.mapOf e (hQ _ _ hr)
    | inst _ _ => exact trivial
  · exact trivial

/-! slices -/
theorem RelAll.cut {h : Heap} {vs : List Value} {l : List V} (r : RelAll ρ h vs l) (lo hi : Option Int) : RelAll ρ h (Mine.cut vs lo hi) (Mine.cut l lo hi) := by
  have hd : ∀ (n : Nat) {vs : List Value} {l : List V}, RelAll ρ h vs l → RelAll ρ h (vs.drop n) (l.drop n) := by
    intro n
    induction n with
    | zero => intro vs l r; exact r
    | succ n ih => intro vs l r; cases r with
      | nil => exact .nil
      | cons _ r => exact ih r
  have ht : ∀ (n : Nat) {vs : List Value} {l : List V}, RelAll ρ h vs l → RelAll ρ h (vs.take n) (l.take n) := by
    intro n
    induction n with
    | zero => intro vs l r; exact .nil
    | succ n ih => intro vs l r; cases r with
      | nil => exact .nil
      | cons a r => exact .cons a (ih r)
  unfold Mine.cut
  rw [r.length]
  exact ht _ (hd _ r)

theorem cut_length_le {α : Type} (l : List α) (lo hi : Option Int) : (Mine.cut l lo hi).length ≤ l.length := by
  unfold Mine.cut
  rw [List.length_take, List.length_drop]; omega

theorem slicePick_cut (vs : List Value) (lo hi : Option Int) : slicePick vs.toArray lo hi none = (Mine.cut vs lo hi).toArray := by
  rw [slicePick_plain]; simp [Mine.cut]

theorem Sim.bound {β γ : Type} {t : Sem β} {v : Value} {x : V} {k : Option Int → M γ} {R : γ → Map → Heap → β → Prop} (r : Rel ρ s.heap v x) (h : ∀ o, IsPart v o → Sim prog w h₀ A W t (k o σ) R ρ s) :
    Sim prog w h₀ A W t ((Mine.bound x >>= k) σ) R ρ s := by
  unfold Mine.bound
  split
  · cases r; exact h _ .none
  · cases r; exact h _ (.int _ _)
  · exact trivial

theorem slicePartIndex_of {v : Value} {o : Option Int} {Q : Option Int → Shared → Prop} {E : Value → Shared → Prop} (p : IsPart v o) (h : Q o s) : wpAny (model prog w) A (Builtin.Slice.slicePartIndex v) Q E s := by
  cases p with
  | none => exact slicePart_none h
  | int i t => exact slicePart_int h

theorem adjust_places (lo hi : Option Int) (n : Nat) : Builtin.Slice.sliceAdjust lo hi 1 (n : Int) = (((lo.elim 0 (clipAt n) : Nat) : Int), ((hi.elim n (clipAt n) : Nat) : Int)) ∧
    Builtin.Slice.slicePlaces ((lo.elim 0 (clipAt n) : Nat) : Int) ((hi.elim n (clipAt n) : Nat) : Int) 1 = hi.elim n (clipAt n) - lo.elim 0 (clipAt n) := by
  constructor
  · unfold Builtin.Slice.sliceAdjust
    have h1 : ¬ ((1 : Int) < 0) := by omega
    simp only [h1, if_false]
    congr 1
    · cases lo with
      | none => rfl
      | some i =>
        have := clipAt_cast n i
        simp only [Option.elim]
        rw [this]
        split <;> omega
    · cases hi with
      | none => rfl
      | some i =>
        have := clipAt_cast n i
        simp only [Option.elim]
        rw [this]
        split <;> omega
  · unfold Builtin.Slice.slicePlaces
    have h1 : (1 : Int) > 0 := by omega
    simp only [h1, if_true, Int.ediv_one]
    split <;> omega

theorem pick_cut (vs : List Value) (a k : Nat) : ((List.range k).filterMap fun (j : Nat) => vs.toArray[((a : Int) + (j : Int) * 1).toNat]?) = (vs.drop a).take k := by
  have e : (fun (j : Nat) => vs.toArray[((a : Int) + (j : Int) * 1).toNat]?) = fun j => vs.toArray[a + j]? := by
    funext j
    have : ((a : Int) + (j : Int) * 1).toNat = a + j := by omega
    rw [this]
  rw [e]
  have := pick_run vs.toArray a k
  rw [List.filterMap_map] at this
  exact this

theorem getItem_tuple_slice {t sl : Addr} {vs : List Value} {n : Nat} {vl vu : Value} {lo hi : Option Int} {Q : Value → Shared → Prop} {E : Value → Shared → Prop} (g : s.heap.get? t = some (tupO vs n)) (hs : s.heap.IsSliceOf sl vl vu .none)
    (pl : IsPart vl lo) (pu : IsPart vu hi) (hsz : vs.length ≤ sizeLine)
    (h1 : Mine.cut vs lo hi = vs → Q (.ref t) s) (h2 : Q (.ref s.heap.objs.size) { s with heap := s.heap.push (tupO (Mine.cut vs lo hi) 0) }) : wpAny (model prog w) A (getItem (.ref t) (.ref sl)) Q E s := by
  obtain ⟨os, hos, hcs, hds⟩ := id hs
  have ht : IsTup s.heap t vs.toArray := isTuple_of g
  have hTs : s.TypeIs (.ref sl) "slice" := ⟨os, hos, hcs⟩
  unfold getItem
  refine wpAny_holding ?_
  refine wpAny_bind (wpAny_sequenceKey ht.typeIs (by decide) ?_)
  refine wpAny_bind (wpAny_callSpecial?_slot (name := Str.ofString "__getitem__") ht.typeIs slot_tuple_getitem
    (wpAny_call_entry slot_tuple_getitem ht.typeIs entry_tuple_getitem ?_ (args_tuple_getitem _ _)))
  show wpAny _ _ (Builtin.Tuple.tupleItemsOf (.ref t) >>= _) _ _ s
  refine wpAny_bind (tupleItemsOf_ ht ?_)
  refine wpAny_bind (wpAny_typeOf hTs ?_)
  rw [if_pos (by decide)]
  obtain ⟨ha, hp⟩ := adjust_places lo hi vs.length
  have happ : ∀ (Q' : Int × Int × Nat → Shared → Prop) (E' : Value → Shared → Prop), Q' (((lo.elim 0 (clipAt vs.length) : Nat) : Int), 1, hi.elim vs.length (clipAt vs.length) - lo.elim 0 (clipAt vs.length)) s →
      wpAny (model prog w) A.in1 (Builtin.Slice.sliceApplied (.ref sl) (pure ((vs.toArray.size : Nat) : Int))) Q' E' s := by
    intro Q' E' hq
    unfold Builtin.Slice.sliceApplied Builtin.Slice.sliceFields
    refine wpAny_bind (wpAny_bind (wpAny_field hos hds (x := vl) rfl (wpAny_bind (wpAny_field hos hds (x := vu) rfl (wpAny_bind (wpAny_field hos hds (x := .none) rfl (wpAny_pure ?_)))))))
    refine wpAny_bind (slicePart_none ?_)
    show wpAny _ _ (if ((1 : Int) == 0) = true then _ else _) _ _ s
    rw [if_neg (by decide)]
    refine wpAny_bind (slicePartIndex_of pl (wpAny_bind (slicePartIndex_of pu (wpAny_bind (wpAny_pure ?_)))))
    rw [List.size_toArray]
    show wpAny _ _ (match Builtin.Slice.sliceAdjust lo hi 1 (vs.length : Int) with | (lo, hi) => pure (lo, (1 : Int), Builtin.Slice.slicePlaces lo hi 1)) _ _ s
    rw [ha]
    show wpAny _ _ (pure (_, (1 : Int), Builtin.Slice.slicePlaces _ _ 1)) _ _ s
    rw [hp]
    exact wpAny_pure hq
  refine wpAny_bind (happ _ _ ?_)
  have hsz2 : sizeOk (.seq (Mine.cut vs lo hi).toArray) := by
    show (Mine.cut vs lo hi).toArray.size ≤ sizeLine
    rw [List.size_toArray]
    exact Nat.le_trans (cut_length_le vs lo hi) hsz
  dsimp only
  rw [pick_cut]
  split
  · rename_i hc
    simp only [Bool.and_eq_true, beq_iff_eq, List.size_toArray] at hc
    have e : Mine.cut vs lo hi = vs := by
      unfold Mine.cut
      have h0 : lo.elim 0 (clipAt vs.length) = 0 := by omega
      rw [h0] at hc ⊢
      rw [List.drop_zero, hc.2, List.take_length]
    refine wpAny_bind (m := Builtin.Tuple.tupleIsExact (.ref t)) (wpAny_bind (wpAny_typeOf ht.typeIs (wpAny_pure ?_)))
    rw [if_pos (by decide)]
    exact wpAny_bind (wpAny_rule (wpAny_pure ⟨_, rfl, wpAny_pure (h1 e)⟩))
  · exact wpAny_bind (m := Builtin.Tuple.tupleExact _) (wpAny_newObj_type (wpAny_pure ⟨_, rfl, wpAny_pure h2⟩) hsz2)

theorem strSlice_cut (x : Str) (lo hi : Option Int) : (Builtin.Str.strSliceIndices lo hi 1 x.length).filterMap (x.cps[·]?) = Mine.cut x.cps.toList lo hi ∧
    ((Builtin.Str.strSliceIndices lo hi 1 x.length).length = x.length → Mine.cut x.cps.toList lo hi = x.cps.toList) := by
  have e : Builtin.Str.strSliceIndices lo hi 1 x.length = sliceRange ((lo.elim 0 (clipAt x.length) : Nat) : Int) ((hi.elim x.length (clipAt x.length) : Nat) : Int) 1 := by
    unfold Builtin.Str.strSliceIndices
    have h1 : (1 : Int) > 0 := by omega
    simp only [h1, if_true]
    congr 1
    · cases lo with
      | none => rfl
      | some i => simp only [Option.elim]; rw [clipAt_cast]
    · cases hi with
      | none => rfl
      | some i => simp only [Option.elim]; rw [clipAt_cast]
  have hl : x.cps.toList.length = x.length := by simp [Str.length]
  have hcut : Mine.cut x.cps.toList lo hi = (x.cps.toList.drop (lo.elim 0 (clipAt x.length))).take (hi.elim x.length (clipAt x.length) - lo.elim 0 (clipAt x.length)) := by
    unfold Mine.cut; rw [hl]
  rw [e, sliceRange_one]
  constructor
  · rw [pick_run, hcut]
  · intro h
    rw [List.length_map, List.length_range] at h
    have hle : hi.elim x.length (clipAt x.length) ≤ x.length := by
      cases hi with
      | none => exact Nat.le_refl _
      | some i =>
        have := clipAt_cast x.length i
        simp only [Option.elim]
        omega
    have h0 : lo.elim 0 (clipAt x.length) = 0 ∨ x.length = 0 := by omega
    rw [hcut]
    rcases h0 with h0 | h0
    · rw [h0] at h ⊢
      rw [List.drop_zero, h, ← hl, List.take_length]
    · have : x.cps.toList = [] := List.eq_nil_of_length_eq_zero (hl.trans h0)
      rw [this]; simp

theorem strOk_sub {x y : Str} (hx : SOk x) (h : ∀ c ∈ y.cps.toList, c ∈ x.cps.toList) (hl : y.length ≤ x.length) : SOk y := by
  refine ⟨Nat.le_trans hl hx.1, ?_⟩
  have h4 := hx.2
  unfold PyData.strOk at h4 ⊢
  rw [Array.all_eq_true_iff_forall_mem] at h4 ⊢
  intro c hc
  exact h4 c (Array.mem_toList_iff.mp (h c (Array.mem_toList_iff.mpr hc)))

theorem SOk.cut {x : Str} (hx : SOk x) (lo hi : Option Int) : SOk (cutStr x lo hi) := by
  refine strOk_sub hx ?_ ?_
  · intro c hc
    simp only [cutStr, Mine.cut] at hc
    exact List.mem_of_mem_drop (List.mem_of_mem_take hc)
  · have := cut_length_le x.cps.toList lo hi
    simpa [cutStr, Str.length] using this

/-- a slice is taken: the slice's object lies at sl -/
theorem Sim.slice {a vl vu : Value} {sl : Addr} {x : V} {lo hi : Option Int} (i : Inv prog w h₀ σ ρ s.heap) (ra : Rel ρ s.heap a x) (hs : s.heap.IsSliceOf sl vl vu .none) (pl : IsPart vl lo) (pu : IsPart vu hi) :
    Sim prog w h₀ A W (getItem a (.ref sl)) (sliceV lo hi x σ) RV ρ s := by
  unfold sliceV
  split
  · cases ra with
    | @tup _ vs n l g hl r =>
    have hlen := r.length
    refine Sim.grown i fun Q E hQ => getItem_tuple_slice g hs pl pu hl (fun e => ?_) ?_
    · refine hQ _ s.heap s.toks (fun _ _ e => e) ?_
      refine .tup (n := n) g hl ?_
      have := r.cut lo hi
      rw [e] at this; exact this
    · have hk : ∀ b o, s.heap.get? b = some o → (s.heap.push (tupO (Mine.cut vs lo hi) 0)).get? b = some o := fun b o e => Heap.get?_push_of_some _ e
      exact hQ _ _ s.toks hk (.tup (n := 0) (Heap.get?_push_size _ rfl) (Nat.le_trans (cut_length_le vs lo hi) hl) ((r.cut lo hi).sub (Sub.keeps hk)))
  · rename_i y
    cases ra with
    | str _ t hy =>
    obtain ⟨p, hp⟩ : ∃ p : Option (Int × Tok), vl = partValue p ∧ p.map (·.1) = lo := by
      cases pl with
      | none => exact ⟨none, rfl, rfl⟩
      | int k u => exact ⟨some (k, u), rfl, rfl⟩
    obtain ⟨q, hq⟩ : ∃ p : Option (Int × Tok), vu = partValue p ∧ p.map (·.1) = hi := by
      cases pu with
      | none => exact ⟨none, rfl, rfl⟩
      | int k u => exact ⟨some (k, u), rfl, rfl⟩
    obtain ⟨os, hos, hcs, hds⟩ := hs
    refine Sim.same i fun Q E hQ => wpAny_getItem_str_slice (l := p) (u := q) (st := none) ⟨os, hos, hcs, by rw [hds, hp.1, hq.1]; rfl⟩ rfl ?_
    have e1 : slicePicked y p q none = Builtin.Str.strSliceIndices lo hi 1 y.length := by unfold slicePicked; rw [hp.2, hq.2]; rfl
    unfold sliceMade
    rw [e1]
    split
    · rename_i hc
      simp only [Bool.and_eq_true, beq_iff_eq] at hc
      have := (strSlice_cut _ lo hi).2 hc.2
      refine hQ _ s.toks ?_
      have e2 : ∀ x : Str, Mine.cut x.cps.toList lo hi = x.cps.toList → cutStr x lo hi = x := fun x e => by unfold cutStr; rw [e]
      show Rel _ _ _ (V.str _)
      rw [e2 _ this]
      exact .str _ _ hy
    · rw [(strSlice_cut _ lo hi).1]
      exact ⟨(hy.cut lo hi).1, hQ _ _ (.str _ _ (hy.cut lo hi))⟩
  · cases ra with
    | ref er =>
    refine Sim.getList fun l hσ => ?_
    obtain ⟨_, vs, m, g, hl, r⟩ := i.list hσ er
    refine Sim.newListAt i fun Q E hQ => wpAny_getItem_list_slice (isList_of g) hs pl pu .none (by simp) ?_ (by simpa using hl)
    rw [slicePick_cut]
    have hk : ∀ b o, s.heap.get? b = some o → (s.heap.push (listO (Mine.cut vs lo hi) 0)).get? b = some o := fun b o e => Heap.get?_push_of_some _ e
    exact hQ _ (Mine.cut vs lo hi) 0 _ s.toks hk fresh_none (Heap.get?_push_size _ rfl) (Nat.le_trans (cut_length_le vs lo hi) hl) ((r.cut lo hi).sub (Sub.keeps hk))
  · exact trivial

end

end Mine

namespace Mine
open PySem PyProof.Rows

section
variable {prog : Program} {w : World} {h₀ : Heap} {A : Around} {W : List Addr} {ρ : Map} {s : Shared} {σ : Store}

theorem setItem_listAt {l : Addr} {vs : List Value} {n : Nat} {k : Int} {t : Tok} {v : Value} {Q : Unit → Shared → Prop} {E : Value → Shared → Prop} (g : s.heap.get? l = some (listO vs n)) (h0 : 0 ≤ k) (hk : k < vs.length) (hfit : k < 2 ^ 63)
    (h : Q () { s with heap := s.heap.update l (Obj.mapSeq (·.setIfInBounds k.toNat v)) }) : wpAny (model prog w) A (PySem.setItem (.ref l) (.int k t) v) Q E s := by
  have hT : s.heap.IsList l vs.toArray := isList_of g
  unfold PySem.setItem
  refine wpAny_holding ?_
  refine wpAny_bind (wpAny_sequenceKey hT.typeIs (by decide) ?_)
  refine wpAny_bind (wpAny_callSpecial?_slot (name := Str.ofString "__setitem__") hT.typeIs slot_list_setitem
    (wpAny_call_entry slot_list_setitem hT.typeIs entry_list_setitem ?_ (args_list_setitem _ _ _)))
  show wpAny _ _ (Builtin.List.listSubscript? (.int k t) >>= _) _ _ s
  refine wpAny_bind (wpAny_listSubscript_int (fitsIndex_of h0 hfit) ?_)
  clear hfit
  obtain ⟨j, rfl⟩ := Int.eq_ofNat_of_zero_le h0
  have hj : j < vs.length := by (first | lia | omega)
  have hx : vs.toArray[j]? = some vs[j] := by simp [hj]
  show wpAny _ _ ((seqItemAt l j >>= fun r => pure (r.map (j, ·))) >>= _) _ _ s
  refine wpAny_bind (wpAny_bind (wpAny_seqItemAt g rfl (wpAny_pure ?_)))
  rw [hx]
  show wpAny _ _ (setSeqItemAt l j v >>= _) _ _ s
  refine wpAny_bind (wpAny_setSeqItemAt g rfl ?_)
  exact wpAny_pure ⟨.none, rfl, wpAny_pure h⟩

theorem update_list {l : Addr} {vs ws : List Value} {n : Nat} {f : Array Value → Array Value} (g : s.heap.get? l = some (listO vs n)) (hf : f vs.toArray = ws.toArray) :
    ∃ m, (s.heap.update l (Obj.mapSeq f)).get? l = some (listO ws m) := by
  have e : Obj.mapSeq f (listO vs n) = listO ws (if ws.length = vs.length then n else n + 1) := by
    unfold Obj.mapSeq listO
    simp only [hf]
    congr 2
    simp
  have := Heap.get?_update_self (Obj.mapSeq f) g (by rw [e]; rfl)
  rw [e] at this
  exact ⟨_, this⟩

theorem setO_ok {n : Nat} {o : O} (hpos : 0 < n) (hn : n < σ.length) : setO n o σ = .ok () (σ.set n o) := by unfold setO; rw [if_pos ⟨hpos, hn⟩]
theorem setO_bad {n : Nat} {o : O} (hpos : ¬ 0 < n) : setO n o σ = .bad := by unfold setO; rw [if_neg fun h => hpos h.1]

theorem lt_of_get {α : Type} {l : List α} {n : Nat} {a : α} (h : l[n]? = some a) : n < l.length := by
  rcases Nat.lt_or_ge n l.length with hl | hl
  · exact hl
  · rw [List.getElem?_eq_none hl] at h; cases h

theorem RelAll.set {h : Heap} : ∀ {vs : List Value} {l : List V} {k : Nat} {v : Value} {x : V}, RelAll ρ h vs l → Rel ρ h v x → RelAll ρ h (vs.set k v) (l.set k x)
  | _, _, _, _, _, .nil, _ => .nil
  | _, _, 0, _, _, .cons _ r, q => .cons q r
  | _, _, k + 1, _, _, .cons a r, q => .cons a (RelAll.set r q)

/-- a list of the store is turned -/
theorem Sim.turnList {t : Sem Unit} {n : Nat} {l m : List V} {a : Addr} {d : Addr} {vs : List Value} {k : Nat} (i : Inv prog w h₀ σ ρ s.heap) (hσ : σ[n]? = some (.list l)) (hρ : ρ[n]? = some (a, d)) (g : s.heap.get? a = some (listO vs k))
    (hm : ∃ ws, RelAll ρ s.heap ws m ∧ ws.length ≤ sizeLine ∧ ∀ (Q : Unit → Shared → Prop) (E : Value → Shared → Prop), (∀ h', (∃ j, h'.get? a = some (listO ws j)) → (∀ b o, b ≠ a → s.heap.get? b = some o → h'.get? b = some o) → Q () { s with heap := h' }) → wpAny (model prog w) A t Q E s) :
    Sim prog w h₀ A W t (setO n (.list m) σ) (fun _ _ _ _ => True) ρ s := by
  obtain ⟨ws, r, hl, hwp⟩ := hm
  by_cases hpos : 0 < n
  case neg => rw [setO_bad hpos]; exact trivial
  rw [setO_ok hpos (lt_of_get hσ)]
  obtain ⟨rfl, _⟩ := i.list hσ hρ
  refine hwp _ _ fun h' hg hk => ?_
  obtain ⟨j, hg⟩ := hg
  have hN := i.set (W := W) (n := n) (a := d) (o := .list m) (h' := h') hpos hρ hk ⟨_, hg⟩ (fun vs' k' e => by rw [g] at e; simp [listO, tupO] at e) fun x => ⟨rfl, ws, j, hg, hl, r.ext x⟩
  exact ⟨ρ, h', s.toks, rfl, hN.1, hN.2, trivial⟩

/-- a dict's entry is set -/
theorem Ents.stored {h : Heap} {k : Key} {v : Value} {x : V} (hs : ∀ s, k = .inr s → SOk s) (rv : Rel ρ h v x) {kvs : List (Key × Value)} {l : Tab} (r : Ents ρ h kvs l) : Ents ρ h (PySem.stored kvs k v) (dSet l k x) := by
  have hany : ∀ {kvs : List (Key × Value)} {l : Tab}, Ents ρ h kvs l → (kvs.any fun kv => decide (kv.1 = k)) = (l.any fun p => decide (p.1 = k)) := by
    intro kvs l r
    induction r with
    | nil => rfl
    | cons _ _ _ ih => rw [List.any_cons, List.any_cons, ih]
  have hmap : ∀ {kvs : List (Key × Value)} {l : Tab}, Ents ρ h kvs l → Ents ρ h (kvs.map fun kv => if kv.1 = k then (kv.1, v) else kv) (l.map fun p => if p.1 = k then (p.1, x) else p) := by
    intro kvs l r
    induction r with
    | nil => exact .nil
    | @cons k' v' x' kvs l hs' r' _ ih =>
      rw [List.map_cons, List.map_cons]
      by_cases hk : k' = k
      · rw [if_pos hk, if_pos hk]; exact .cons hs' rv ih
      · rw [if_neg hk, if_neg hk]; exact .cons hs' r' ih
  have happ : ∀ {kvs : List (Key × Value)} {l : Tab}, Ents ρ h kvs l → Ents ρ h (kvs ++ [(k, v)]) (l ++ [(k, x)]) := by
    intro kvs l r
    induction r with
    | nil => exact .cons hs rv .nil
    | cons hs' r' _ ih => exact .cons hs' r' ih
  unfold PySem.stored dSet
  rw [hany r]
  by_cases hc : (l.any fun p => decide (p.1 = k)) = true
  · rw [if_pos hc, if_pos hc]; exact hmap r
  · rw [if_neg hc, if_neg hc]; exact happ r
theorem dSet_length (l : Tab) (k : Key) (x : V) : (dSet l k x).length ≤ l.length + 1 := by
  unfold dSet
  split
  · rw [List.length_map]; exact Nat.le_succ _
  · rw [List.length_append]; exact Nat.le_refl _
/-- a dict of the store is turned -/
theorem Sim.turnDict {t : Sem Unit} {n : Nat} {l m : Tab} {a : Addr} {d : Addr} (i : Inv prog w h₀ σ ρ s.heap) (hσ : σ[n]? = some (.dict l)) (hρ : ρ[n]? = some (a, d))
    (hm : ∃ kvs', Ents ρ s.heap kvs' m ∧ kvs'.length ≤ sizeLine ∧ ∀ (Q : Unit → Shared → Prop) (E : Value → Shared → Prop), (∀ h' tk, h'.DictOf (keyKind prog w) a kvs' → (∀ b o, b ≠ a → s.heap.get? b = some o → h'.get? b = some o) → Q () { s with heap := h', toks := tk }) → wpAny (model prog w) A t Q E s) :
    Sim prog w h₀ A W t (setO n (.dict m) σ) (fun _ _ _ _ => True) ρ s := by
  obtain ⟨kvs', r, hl, hwp⟩ := hm
  by_cases hpos : 0 < n
  case neg => rw [setO_bad hpos]; exact trivial
  rw [setO_ok hpos (lt_of_get hσ)]
  obtain ⟨e1, hs, kvs, ⟨ob, es, ep, g, hx, hdt, _⟩, _, _⟩ := i.dict hσ hρ
  have e1 : d = a := e1
  subst e1
  refine hwp _ _ fun h' tk hg hk => ?_
  have hN := i.set (W := W) (n := n) (a := d) (o := .dict m) (h' := h') hpos hρ hk (let ⟨ob, _, _, g, _⟩ := hg; ⟨ob, g⟩) (fun vs' k' e => by
    rw [g] at e; cases e; cases hdt) fun x => ⟨rfl, hs, kvs', hg, hl, r.sub x.sub⟩
  exact ⟨ρ, h', tk, rfl, hN.1, hN.2, trivial⟩

theorem Sim.setItem {a b c : Value} {x y z : V} (i : Inv prog w h₀ σ ρ s.heap) (ra : Rel ρ s.heap a x) (rb : Rel ρ s.heap b y) (rc : Rel ρ s.heap c z) :
    Sim prog w h₀ A W (PySem.setItem a b c) (setItem x y z σ) (fun _ _ _ _ => True) ρ s := by
  unfold Mine.setItem
  split
  · cases ra with
    | ref er =>
    refine Sim.getO fun o hσ => ?_
    cases o with
    | list l =>
      cases rb with
      | int k t =>
        refine Sim.ite fun hc => ?_
        obtain ⟨_, vs, m, g, hl, r⟩ := i.list hσ er
        have hlen := r.length
        obtain ⟨h0, h1⟩ := hc
        have hs := sizeLine_lt
        refine Sim.turnList i hσ er g ⟨vs.set (Int.toNat _) c, r.set rc, by simpa using hl, fun Q E hQ => setItem_listAt g h0 (by (first | lia | omega)) (by (first | lia | omega)) (hQ _ (update_list g (by simp)) fun b o hb e => ?_)⟩
        rw [Heap.get?_update_other _ _ (Ne.symm hb)]; exact e
      | _ => exact trivial
    | dict l =>
      show Sim prog w h₀ A W _ (setD _ l y z σ) _ ρ s
      unfold setD
      cases ek : keyOf y with
      | none => exact trivial
      | some kk =>
        refine Sim.ite fun hc => ?_
        obtain ⟨_, hs, kvs, hd, hl, r⟩ := i.dict hσ er
        obtain ⟨h1, h2⟩ := keyOf_is rb ek
        have hlen := r.length
        exact Sim.turnDict i hσ er ⟨_, r.stored h2 rc, by rw [(r.stored h2 rc).length]; exact Nat.le_trans (dSet_length ..) hc, fun Q E hQ => wpAny_setItem_pairs h1 hd (fun h' hd' hk => hQ h' _ hd' fun b o hb e => (hk.2 b hb).trans e) hl⟩
    | inst _ _ => exact trivial
  · exact trivial

/-! built-in functions -/
theorem Sim.itemsOf {β γ : Type} {t : Sem β} {x : V} {k : List V → M γ} {R : γ → Map → Heap → β → Prop} (h1 : ∀ l, x = .tup l → Sim prog w h₀ A W t (k l σ) R ρ s) (h2 : ∀ n l, x = .ref n → σ[n]? = some (.list l) → Sim prog w h₀ A W t (k l σ) R ρ s) :
    Sim prog w h₀ A W t ((Mine.itemsOf x >>= k) σ) R ρ s := by
  cases x with
  | tup l => exact h1 l rfl
  | ref n => exact Sim.getList fun l hl => h2 n l rfl hl
  | none => exact trivial
  | bool _ => exact trivial
  | int _ => exact trivial
  | str _ => exact trivial

theorem Sim.bLen {a : Value} {x : V} (i : Inv prog w h₀ σ ρ s.heap) (ra : Rel ρ s.heap a x) : Sim prog w h₀ A W (call (.builtin "len") [a]) (bLen x σ) RV ρ s := by
  have hs := sizeLine_lt
  unfold Mine.bLen
  split
  · cases ra with
    | tup g hl r =>
    have hlen := r.length
    refine Sim.same i fun Q E hQ => P.len_tuple g (by simp; (first | lia | omega)) ?_
    have := hQ _ (s.toks + 1 + 1) (.int _ (s.toks + 1))
    simpa [hlen] using this
  · cases ra with
    | str _ t hx =>
    exact Sim.same i fun Q E hQ => P.len_str (by have := hx.1; (first | lia | omega)) (hQ _ _ (.int _ _))
  · cases ra with
    | ref er =>
    refine Sim.getO fun o hσ => ?_
    cases o with
    | list l =>
      obtain ⟨_, vs, m, g, hl, r⟩ := i.list hσ er
      have hlen := r.length
      refine Sim.same i fun Q E hQ => Calls.call_len_list (isList_of g) (by simp; (first | lia | omega)) ?_
      have := hQ _ (s.toks + 1 + 1) (.int _ (s.toks + 1))
      simpa [hlen] using this
    | dict l =>
      obtain ⟨_, hds, kvs, hd, hl, r⟩ := i.dict hσ er
      have hlen := r.length
      refine Sim.same i fun Q E hQ => call_len_dict hds hd (by (first | lia | omega)) ?_
      have := hQ _ (s.toks + 1 + 1) (.int _ (s.toks + 1))
      simpa [hlen] using this
    | inst _ _ => exact trivial
  · exact trivial

theorem Sim.bTuple {a : Value} {x : V} (i : Inv prog w h₀ σ ρ s.heap) (ra : Rel ρ s.heap a x) : Sim prog w h₀ A W (call (.type "tuple") [a]) (bTuple x σ) RV ρ s := by
  refine Sim.itemsOf (fun l e => ?_) fun n l e hσ => ?_
  · subst e
    cases ra with
    | tup g hl r => exact Sim.same i fun Q E hQ => call_tuple_same (isTuple_of g) (hQ _ s.toks (.tup g hl r))
  · subst e
    cases ra with
    | ref er =>
      obtain ⟨_, vs, m, g, hl, r⟩ := i.list hσ er
      refine Sim.grown i fun Q E hQ => call_tuple_list (isList_of g) (fun h' hk => ?_) (by simpa using hl)
      have hk' : ∀ b o, s.heap.get? b = some o → (h'.push (tupO vs 0)).get? b = some o := fun b o e => Heap.get?_push_of_some _ (hk b o e)
      exact hQ _ (h'.push (tupO vs 0)) s.toks hk' (.tup (n := 0) (Heap.get?_push_size _ rfl) hl (r.sub (Sub.keeps hk')))

noncomputable def kdName : Kd → String
  | .bool => "bool"
  | .int => "int"
  | .str => "str"
  | .tuple => "tuple"
  | .list => "list"

theorem Sim.isKd {a : Value} {x : V} {k : Kd} (i : Inv prog w h₀ σ ρ s.heap) (ra : Rel ρ s.heap a x) : Sim prog w h₀ A W (call (.builtin "isinstance") [a, .type (kdName k)]) (isKd k x σ) RV ρ s := by
  cases ra with
  | none =>
    refine Sim.same i fun Q E hQ => ?_
    cases k
    · exact IsiPair.NoneType_bool (hQ _ _ (.bool _))
    · exact IsiPair.NoneType_int (hQ _ _ (.bool _))
    · exact IsiPair.NoneType_str (hQ _ _ (.bool _))
    · exact IsiPair.NoneType_tuple (hQ _ _ (.bool _))
    · exact IsiPair.NoneType_list (hQ _ _ (.bool _))
  | bool _ =>
    refine Sim.same i fun Q E hQ => ?_
    cases k
    · exact IsiPair.bool_bool (hQ _ _ (.bool _))
    · exact IsiPair.bool_int (hQ _ _ (.bool _))
    · exact IsiPair.bool_str (hQ _ _ (.bool _))
    · exact IsiPair.bool_tuple (hQ _ _ (.bool _))
    · exact IsiPair.bool_list (hQ _ _ (.bool _))
  | int _ _ =>
    refine Sim.same i fun Q E hQ => ?_
    cases k
    · exact IsiPair.int_bool (hQ _ _ (.bool _))
    · exact IsiPair.int_int (hQ _ _ (.bool _))
    · exact IsiPair.int_str (hQ _ _ (.bool _))
    · exact IsiPair.int_tuple (hQ _ _ (.bool _))
    · exact IsiPair.int_list (hQ _ _ (.bool _))
  | str _ _ _ =>
    refine Sim.same i fun Q E hQ => ?_
    cases k
    · exact IsiPair.str_bool (hQ _ _ (.bool _))
    · exact IsiPair.str_int (hQ _ _ (.bool _))
    · exact IsiPair.str_str (hQ _ _ (.bool _))
    · exact IsiPair.str_tuple (hQ _ _ (.bool _))
    · exact IsiPair.str_list (hQ _ _ (.bool _))
  | tup g hl r =>
    refine Sim.same i fun Q E hQ => ?_
    cases k
    · exact IsiPair.tuple_bool g rfl (hQ _ _ (.bool _))
    · exact IsiPair.tuple_int g rfl (hQ _ _ (.bool _))
    · exact IsiPair.tuple_str g rfl (hQ _ _ (.bool _))
    · exact IsiPair.tuple_tuple g rfl (hQ _ _ (.bool _))
    · exact IsiPair.tuple_list g rfl (hQ _ _ (.bool _))
  | ref er =>
    refine Sim.getList fun l hσ => ?_
    obtain ⟨_, vs, m, g, hl, r⟩ := i.list hσ er
    refine Sim.same i fun Q E hQ => ?_
    cases k
    · exact IsiPair.list_bool g rfl (hQ _ _ (.bool _))
    · exact IsiPair.list_int g rfl (hQ _ _ (.bool _))
    · exact IsiPair.list_str g rfl (hQ _ _ (.bool _))
    · exact IsiPair.list_tuple g rfl (hQ _ _ (.bool _))
    · exact IsiPair.list_list g rfl (hQ _ _ (.bool _))

/-! methods -/
theorem Sim.mAppend {a b : Value} {x y : V} (i : Inv prog w h₀ σ ρ s.heap) (ra : Rel ρ s.heap a x) (rb : Rel ρ s.heap b y) : Sim prog w h₀ A W (call (.builtin "list.append") [a, b]) (mAppend x y σ) RV ρ s := by
  unfold Mine.mAppend
  split
  · cases ra with
    | ref er =>
    rename_i n a d
    refine Sim.getList fun l hσ => Sim.ite fun hc => ?_
    obtain ⟨rfl, vs, m, g, hl, r⟩ := i.list hσ er
    have hlen := r.length
    by_cases hpos : 0 < n
    case neg => rw [bind_bad (setO_bad hpos)]; exact trivial
    rw [bind_ok (setO_ok hpos (lt_of_get hσ))]
    refine wpAny_list_append_plain ⟨m, g⟩ (fun h' hg hk => ?_) (by simpa using hl)
    obtain ⟨m', hg⟩ := hg
    have hg : h'.get? d = some (listO (vs ++ [b]) m') := by simpa [listO] using hg
    have hN := i.set (W := W) (n := n) (a := d) (o := .list (l ++ [y])) (h' := h') hpos er (fun c o hb e => hk.extBut c o hb e) ⟨_, hg⟩ (fun vs' k' e => by rw [g] at e; simp [listO, tupO] at e)
      fun z => ⟨rfl, vs ++ [b], m', hg, by simp; (first | lia | omega), (r.append (.cons rb .nil)).ext z⟩
    exact ⟨ρ, h', s.toks, rfl, hN.1, hN.2, .none⟩
  · exact trivial

theorem strsAre_of {h : Heap} : ∀ {vs : List Value} {l : List V} {ss : List Str}, RelAll ρ h vs l → allStrs l = some ss → StrsAre vs ss ∧ ∀ x ∈ ss, SOk x
  | _, _, _, .nil, e => by cases e; exact ⟨.nil, fun _ h => nomatch h⟩
  | _, _, ss, @RelAll.cons _ _ v vs x l r rs, e => by
    cases x with
    | str y =>
      have e : (allStrs l).map (y :: ·) = some ss := e
      obtain ⟨ts, e1, rfl⟩ := Option.map_eq_some_iff.mp e
      cases r with
      | str _ t hy =>
        obtain ⟨h1, h2⟩ := strsAre_of rs e1
        exact ⟨.cons y t h1, fun z hz => (List.mem_cons.mp hz).elim (fun e => e ▸ hy) (h2 z)⟩
    | none => cases e
    | bool _ => cases e
    | int _ => cases e
    | tup _ => cases e
    | ref _ => cases e

theorem strOk_join {sep : Str} (hs : PyData.strOk sep = true) : ∀ {ss : List Str}, (∀ x ∈ ss, SOk x) → PyData.strOk (Str.join sep ss) = true
  | [], _ => by show PyData.strOk Str.empty = true; simp [PyData.strOk, Str.empty]
  | [x], h => (h x (by simp)).2
  | x :: y :: r, h => by
    show PyData.strOk (x ++ sep ++ Str.join sep (y :: r)) = true
    exact strOk_append (strOk_append (h x (by simp)).2 hs) (strOk_join hs fun z hz => h z (List.mem_cons_of_mem _ hz))

theorem Sim.mJoin {a b : Value} {x y : V} (i : Inv prog w h₀ σ ρ s.heap) (ra : Rel ρ s.heap a x) (rb : Rel ρ s.heap b y) : Sim prog w h₀ A W (call (.builtin "str.join") [a, b]) (mJoin x y σ) RV ρ s := by
  unfold Mine.mJoin
  split
  · rename_i sep
    cases ra with
    | str _ t hx =>
    have key : ∀ ss, (ss.map (·.length)).sum + ss.length * sep.length ≤ 16777216 → (∀ x ∈ ss, SOk x) → SOk (Txt.join sep ss) := fun ss h1 h2 => by
      refine ⟨?_, ?_⟩
      · show (Builtin.Str.glued sep ss).length ≤ sizeLine
        rw [size_glued]
        have h3 : (ss.length - 1) * sep.length ≤ ss.length * sep.length := Nat.mul_le_mul_right _ (Nat.sub_le _ _)
        show _ ≤ 16777216
        (first | lia | omega)
      · show PyData.strOk (Builtin.Str.glued sep ss) = true
        rw [StrLaws.glued_eq_join]
        exact strOk_join hx.2 h2
    refine Sim.itemsOf (fun l e => ?_) fun n l e hσ => ?_
    · subst e
      cases rb with
      | tup g hl r =>
        refine Sim.ofOptBind fun ss hss => Sim.ite fun hc => ?_
        obtain ⟨h1, h2⟩ := strsAre_of r hss
        exact Sim.same i fun Q E hQ => join_tuple (isTuple_of g) (by simpa using h1) hc fun t' k => hQ _ _ (.str _ _ (key ss hc h2))
    · subst e
      cases rb with
      | ref er =>
        obtain ⟨_, vs, m, g, hl, r⟩ := i.list hσ er
        refine Sim.ofOptBind fun ss hss => Sim.ite fun hc => ?_
        obtain ⟨h1, h2⟩ := strsAre_of r hss
        exact Sim.same i fun Q E hQ => join_list (isList_of g) (by simpa using h1) hc fun t' k => hQ _ _ (.str _ _ (key ss hc h2))
  · exact trivial
end

end Mine

namespace Mine
open PySem PyProof.Rows PySem.Calls

section
variable {prog : Program} {w : World} {A : Around} {E : Value → Shared → Prop} {s : Shared}
end

section
variable {prog : Program} {w : World} {h₀ : Heap} {A : Around} {W : List Addr} {ρ : Map} {s : Shared} {σ : Store}
theorem big (hN : h₀.NoLimit) (i : Inv prog w h₀ σ ρ s.heap) : (s.heap.objs.size == sysModules) = false := by
  have := modules_low (hN.keeps i.base)
  exact beq_false_of_ne (Nat.ne_of_gt this)
/-! sorted -/
theorem strLt_trans {a b c : Str} (h1 : strLt b a = false) (h2 : strLt c b = false) : strLt c a = false := by
  unfold strLt at *
  rw [decide_eq_false_iff_not] at *
  exact List.le_trans h1 h2
theorem strLt_total {a b : Str} (h : strLt a b = true) : strLt b a = false := by
  unfold strLt at *
  rw [decide_eq_false_iff_not]
  exact List.lt_asymm (of_decide_eq_true h)
theorem strLt_anti {a b : Str} (h1 : strLt b a = false) (h2 : strLt a b = false) : a = b := by
  unfold strLt at *
  rw [decide_eq_false_iff_not] at *
  have : a.cps.toList = b.cps.toList := List.le_antisymm h1 h2
  cases a; cases b
  simpa using Array.toList_inj.mp this
abbrev Rising (l : List Str) : Prop := l.Pairwise fun a b => strLt b a = false
theorem putS_mem {x y : Str} : ∀ {l : List Str}, y ∈ putS x l ↔ y = x ∨ y ∈ l
  | [] => by simp [putS]
  | z :: r => by
    unfold putS
    split
    · rw [List.mem_cons, putS_mem, List.mem_cons]; exact ⟨fun h => by rcases h with h | h | h <;> simp [h], fun h => by rcases h with h | h | h <;> simp [h]⟩
    · rw [List.mem_cons]
theorem putS_perm {x : Str} : ∀ {l : List Str}, (putS x l).Perm (x :: l)
  | [] => .refl _
  | z :: r => by
    unfold putS
    split
    · exact (List.Perm.cons z putS_perm).trans (.swap x z r)
    · exact .refl _
theorem putS_rising {x : Str} : ∀ {l : List Str}, Rising l → Rising (putS x l)
  | [], _ => List.pairwise_singleton _ _
  | z :: r, h => by
    have h := List.pairwise_cons.mp h
    unfold putS
    split
    · rename_i hz
      refine List.pairwise_cons.mpr ⟨fun y hy => ?_, putS_rising h.2⟩
      rcases putS_mem.mp hy with rfl | hy
      · exact strLt_total hz
      · exact h.1 y hy
    · rename_i hz
      have hz : strLt z x = false := by simpa using hz
      refine List.pairwise_cons.mpr ⟨fun y hy => ?_, List.pairwise_cons.mpr h⟩
      rcases List.mem_cons.mp hy with rfl | hy
      · exact hz
      · exact strLt_trans hz (h.1 y hy)
theorem sortS_perm : ∀ {l : List Str}, (sortS l).Perm l
  | [] => .refl _
  | x :: r => (putS_perm).trans (.cons x sortS_perm)
theorem sortS_rising : ∀ {l : List Str}, Rising (sortS l)
  | [] => .nil
  | _ :: _ => putS_rising sortS_rising
theorem rising_of : ∀ (p : Str) (l : List Str), risingS p l = true → Rising (p :: l)
  | p, [], _ => List.pairwise_singleton _ _
  | p, x :: r, h => by
    have h : (!PySem.Spec.ltCps x.cps.toList p.cps.toList && risingS x r) = true := h
    rw [Bool.and_eq_true, PyProof.Rows.ltCps_eq] at h
    have h1 : strLt x p = false := by unfold strLt; simpa using h.1
    have ih := rising_of x r h.2
    refine List.pairwise_cons.mpr ⟨fun y hy => ?_, ih⟩
    rcases List.mem_cons.mp hy with rfl | hy
    · exact h1
    · exact strLt_trans h1 ((List.pairwise_cons.mp ih).1 y hy)
theorem sorted_is {l m : List Str} (hp : l.Perm m) (hs : sortedS l = true) : l = sortS m := by
  refine List.Perm.eq_of_pairwise (le := fun a b => strLt b a = false) (fun a b _ _ h1 h2 => strLt_anti h1 h2) ?_ sortS_rising (hp.trans sortS_perm.symm)
  cases l with
  | nil => exact .nil
  | cons x r => exact rising_of x r hs
theorem strs_rel {h : Heap} : ∀ {vs : List Value} {ss : List Str}, StrsAre vs ss → (∀ x ∈ ss, SOk x) → RelAll ρ h vs (ss.map V.str)
  | _, _, .nil, _ => .nil
  | _, _, .cons y t r, hs => .cons (.str y t (hs y (List.mem_cons_self ..))) (strs_rel r fun x hx => hs x (List.mem_cons_of_mem _ hx))
theorem Sim.bSorted {a : Value} {x : V} (i : Inv prog w h₀ σ ρ s.heap) (ra : Rel ρ s.heap a x) : Sim prog w h₀ A W (call (.builtin "sorted") [a]) (bSorted x σ) RV ρ s := by
  cases ra with
  | ref er =>
    refine Sim.getList fun l hσ => Sim.optThen fun ss hss => Sim.ite fun hc => ?_
    obtain ⟨_, vs, m, g, hl, r⟩ := i.list hσ er
    obtain ⟨h1, h2⟩ := strsAre_of r hss
    have hlen := h1.length
    refine Sim.newListAt i fun Q E hQ => sorted_strs (isList_of g) h1 (by (first | lia | omega)) fun out ss' a1 a2 a3 => ?_
    obtain ⟨e, he⟩ := sortedAll_at s.heap vs out
    have hl' : out.toList.length = ss.length := by rw [a1.length, a2.length_eq]
    have hs' := sorted_is a2 a3
    subst hs'
    refine hQ _ out.toList e _ s.toks (fun _ _ => sortedAll_old) ?_ (by simpa [listO, seqObj] using he) (by (first | lia | omega)) (strs_rel a1 fun x hx => h2 x (a2.mem_iff.mp hx))
    cases e1 : s.heap.get? (s.heap.objs.size + 1) with
    | none => rfl
    | some o => exact absurd (Heap.lt_size e1) (Nat.not_lt.mpr (Nat.le_succ _))
  | _ => exact trivial

/-! the place of a value -/
theorem vidx_is {y : V} : ∀ {l : List V} {k j : Nat}, vidx σ y l k = some j → ∃ m, j = k + m ∧ (∃ x, l[m]? = some x ∧ veq σ x y = some true) ∧ ∀ p, p < m → ∃ x, l[p]? = some x ∧ veq σ x y = some false
  | [], k, j, h => by cases h
  | x :: r, k, j, h => by
    have h : (match veq σ x y with | some true => some k | some false => vidx σ y r (k + 1) | none => none) = some j := h
    cases e : veq σ x y with
    | none => rw [e] at h; cases h
    | some b =>
      rw [e] at h
      cases b with
      | true => cases h; exact ⟨0, rfl, ⟨x, rfl, e⟩, fun p hp => absurd hp (Nat.not_lt_zero _)⟩
      | false =>
        obtain ⟨m, h1, h2, h3⟩ := vidx_is (l := r) h
        refine ⟨m + 1, by (first | lia | omega), h2, fun p hp => ?_⟩
        cases p with
        | zero => exact ⟨x, rfl, e⟩
        | succ p => exact h3 p (by (first | lia | omega))
theorem Sim.mIndex {a b : Value} {x y : V} (hu : A.units + 201 < cLine) (i : Inv prog w h₀ σ ρ s.heap) (ra : Rel ρ s.heap a x) (rb : Rel ρ s.heap b y) : Sim prog w h₀ A W (call (.builtin "list.index") [a, b]) (mIndex x y σ) RV ρ s := by
  have hu1 : A.in1.units + 200 < cLine := by show A.units + 1 + 200 < cLine; (first | lia | omega)
  have hsl := sizeLine_lt
  cases ra with
  | ref er =>
    refine Sim.getList fun l hσ => Sim.ask fun c hc => ?_
    obtain ⟨_, vs, m, g, hl, r⟩ := i.list hσ er
    cases hv : vin σ y l with
    | none => rw [hv] at hc; cases hc
    | some t =>
      cases t with
      | false => rw [hv] at hc; cases hc
      | true =>
        rw [hv] at hc
        obtain ⟨j, hj, rfl⟩ := Option.map_eq_some_iff.mp hc
        obtain ⟨m', rfl, ⟨z, hz, ez⟩, hno⟩ := vidx_is hj
        rw [Nat.zero_add]
        obtain ⟨_, he⟩ := vin_any (A := A.in1) i rb hu1 r hv
        have hlen := r.length
        have hm' := lt_of_get hz
        have hat : ∀ (p : Nat) (q : V) (e : Bool) (hp : p < vs.length), l[p]? = some q → veq σ q y = some e → ansB σ ρ s.heap y vs[p] = e := fun p q e hp h1 h2 => by
          obtain ⟨v, hv, rv⟩ := r.get h1
          rw [List.getElem?_eq_getElem hp] at hv; cases hv
          exact ansB_is i rv h2
        refine Sim.same i fun Q E hQ => call_meets PySem.F.slot_list_index ⟨_, g, rfl⟩ PySem.F.entry_list_index (PySem.F.args_list_index_2 _ _)
          (SeqAt.list_indexAt _ vs.toArray m none #[] b (ansB σ ρ s.heap y) m' (by simp; (first | lia | omega)) (by (first | lia | omega)) ?_ ?_) ⟨g, fun v hv => he v (by simpa using hv), hQ _ _ (.int _ _)⟩
        · simpa using hat m' z true (by (first | lia | omega)) hz ez
        · intro p hp hlt
          obtain ⟨q, h1, h2⟩ := hno p hlt
          simpa using hat p q false (by simpa using hp) h1 h2
  | _ => exact trivial
theorem Sim.mSetdefault {a b c : Value} {x y z : V} (i : Inv prog w h₀ σ ρ s.heap) (ra : Rel ρ s.heap a x) (rb : Rel ρ s.heap b y) (rc : Rel ρ s.heap c z) : Sim prog w h₀ A W (call (.builtin "dict.setdefault") [a, b, c]) (mSetdefault x y z σ) RV ρ s := by
  cases ra with
  | @ref ad d n er =>
    show Sim prog w h₀ A W _ ((Mine.getDict n >>= fun l => Mine.ofOpt (keyOf y) >>= fun k => match dGet l k with | some x => Pure.pure x | none => if l.length + 1 ≤ sizeLine then (setO n (.dict (l ++ [(k, z)])) >>= fun _ => Pure.pure z) else M.bad) σ) RV ρ s
    unfold Mine.getDict
    rw [M.assoc]
    refine Sim.getO fun o hσ => ?_
    cases o with
    | list _ => exact trivial
    | inst _ _ => exact trivial
    | dict l =>
      refine Sim.optThen fun k hk => ?_
      obtain ⟨e1, hs, kvs, hd, hl, r⟩ := i.dict hσ er
      obtain ⟨k1, k2⟩ := keyOf_is rb hk
      have e1 : d = ad := e1
      subst e1
      cases eg : dGet l k with
      | some u =>
        obtain ⟨v, hv, rv⟩ := r.at.2 u eg
        exact Sim.same i fun Q E hQ => call_meetsIn PySem.F.slot_dict_setdefault hd.typeIs PySem.F.entry_dict_setdefault (PySem.F.args_dict_setdefault_3 _ _ _) (kt_meets_setdefault (keyKind prog w) d k1 hs c)
          ⟨kvs, hd, hl, (fun v' hv' => by rw [hv] at hv'; cases hv'; exact hQ _ _ rv), (fun hn => by rw [hv] at hn; cases hn)⟩
      | none =>
        have hv := r.at.1 eg
        refine Sim.ite fun hc => ?_
        by_cases hpos : 0 < n
        case neg => rw [bind_bad (setO_bad hpos)]; exact trivial
        rw [bind_ok (setO_ok hpos (lt_of_get hσ))]
        refine call_meetsIn PySem.F.slot_dict_setdefault hd.typeIs PySem.F.entry_dict_setdefault (PySem.F.args_dict_setdefault_3 _ _ _) (kt_meets_setdefault (keyKind prog w) d k1 hs c)
          ⟨kvs, hd, hl, (fun v' hv' => by rw [hv] at hv'; cases hv'), fun _ h' hd' hsb => ?_⟩
        have hds : dSet l k z = l ++ [(k, z)] := by
          unfold dSet
          rw [if_neg]
          intro ha
          obtain ⟨p, hp, hpk⟩ := List.any_eq_true.mp ha
          unfold dGet at eg
          rw [Option.map_eq_none_iff, List.find?_eq_none] at eg
          exact eg p hp hpk
        have rs := r.stored k2 rc
        rw [hds] at rs
        have hN := i.set (W := W) (n := n) (a := d) (o := .dict (l ++ [(k, z)])) (h' := h') hpos er (fun b o hb e => (hsb.2 b hb).trans e) (let ⟨ob, _, _, g, _⟩ := hd'; ⟨ob, g⟩) (fun vs' k' e => by
          obtain ⟨ob, es, ep, g, hx, hdt, _⟩ := hd
          rw [g] at e; cases e; cases hdt) fun x => ⟨rfl, hs, _, hd', (by rw [rs.length, List.length_append]; exact hc), rs.sub x.sub⟩
        exact ⟨ρ, h', _, rfl, hN.1, hN.2, rc.ext hN.2⟩
  | _ => exact trivial

/-! sum, all -/
theorem intsAre_of {h : Heap} : ∀ {vs : List Value} {l : List V} {is : List Int}, RelAll ρ h vs l → allInts l = some is → IntsAre vs is
  | _, _, _, .nil, e => by cases e; exact .nil
  | _, _, is, @RelAll.cons _ _ v vs x l r rs, e => by
    cases r with
    | int k t =>
      have e : (allInts l).map (k :: ·) = some is := e
      obtain ⟨ts, e1, rfl⟩ := Option.map_eq_some_iff.mp e
      exact .cons k t (intsAre_of rs e1)
    | none => cases e
    | bool _ => cases e
    | str _ _ _ => cases e
    | tup _ _ _ => cases e
    | ref _ => cases e
theorem Sim.bSum {a : Value} {x : V} (hh : A.handled = none) (i : Inv prog w h₀ σ ρ s.heap) (ra : Rel ρ s.heap a x) : Sim prog w h₀ A W (call (.builtin "sum") [a]) (bSum x σ) RV ρ s := by
  cases ra with
  | ref er =>
    refine Sim.getList fun l hσ => Sim.optThen fun is his => ?_
    obtain ⟨_, vs, m, g, hl, r⟩ := i.list hσ er
    have hi := intsAre_of r his
    obtain ⟨xs, hxs⟩ := hi.allInts.items
    refine Sim.grown i fun Q E hQ => sum_intListG hh (hxs ▸ isList_of g) fun h' tk t' hk => ?_
    have h1 : numsOf vs = is := hi.numsOf
    have h2 : numsOf vs = numsOf (intItems xs).toList := by rw [← hxs]
    rw [nums_intItems, h1] at h2
    have := hQ (.int is.sum t') h' tk hk (.int _ _)
    rw [preSum_eq, List.take_of_length_le (by simp), ← h2]; exact this
  | _ => exact trivial
theorem boolsAre_of {h : Heap} : ∀ {vs : List Value} {l : List V} {bs : List Bool}, RelAll ρ h vs l → allBools l = some bs → vs = bs.map Value.bool
  | _, _, _, .nil, e => by cases e; rfl
  | _, _, bs, @RelAll.cons _ _ v vs x l r rs, e => by
    cases r with
    | bool b =>
      have e : (allBools l).map (b :: ·) = some bs := e
      obtain ⟨ts, e1, rfl⟩ := Option.map_eq_some_iff.mp e
      rw [boolsAre_of rs e1]; rfl
    | none => cases e
    | int _ _ => cases e
    | str _ _ _ => cases e
    | tup _ _ _ => cases e
    | ref _ => cases e
theorem range_all (bs : List Bool) : (List.range bs.length).all (fun i => bs[i]?.getD true) = bs.all id := by
  rw [Bool.eq_iff_iff, List.all_eq_true, List.all_eq_true]
  constructor
  · intro h b hb
    obtain ⟨i, hi⟩ := List.getElem?_of_mem hb
    have := h i (List.mem_range.mpr (lt_of_get hi))
    rw [hi] at this; exact this
  · intro h i hi
    have hi := List.mem_range.mp hi
    rw [List.getElem?_eq_getElem hi]
    exact h _ (List.getElem_mem hi)
theorem Sim.bAll {a : Value} {x : V} (hh : A.handled = none) (i : Inv prog w h₀ σ ρ s.heap) (ra : Rel ρ s.heap a x) : Sim prog w h₀ A W (call (.builtin "all") [a]) (bAll x σ) RV ρ s := by
  cases ra with
  | @ref ad d n er =>
    refine Sim.getList fun l hσ => Sim.optThen fun bs hbs => ?_
    obtain ⟨_, vs, m, g, hl, r⟩ := i.list hσ er
    have hb := boolsAre_of r hbs
    have hI : ad ≠ s.heap.objs.size := Nat.ne_of_lt (Heap.lt_size g)
    refine Sim.grown i fun Q E hQ => call_all_walk (wpAny_pyIter_list (isList_of g) ⟨_, _, _, _, _, _, fun i => bs[i]?.getD true, rfl, Walks.list (A := A.in1) hh s.heap.objs.size ad hI vs.toArray, ⟨⟨_, Heap.get?_push_size _ rfl, rfl, rfl⟩, isList_of (Heap.get?_push_of_some _ g)⟩, fun i v s' Q' E' hv hq => ?_, fun h' tk hk => ?_⟩)
    · have hv : vs[i]? = some v := by simpa using hv
      rw [hb, List.getElem?_map] at hv
      obtain ⟨b, hb', rfl⟩ := Option.map_eq_some_iff.mp hv
      have hq : Q' (bs[i]?.getD true) s' := hq
      rw [hb'] at hq
      exact wpAny_truthy_bool hq
    · have hsz : vs.toArray.size = bs.length := by rw [hb]; simp
      rw [hsz, range_all]
      exact hQ _ h' tk (fun b o e => hk b o (fun hm => by rw [List.mem_singleton.mp hm] at e; exact absurd (Heap.lt_size e) (Nat.lt_irrefl _)) (Heap.get?_push_of_some _ e)) (.bool _)
  | _ => exact trivial
end
end Mine

namespace Mine
open PySem PyProof.Rows

/-! ## the top -/
structure FdOk (fd : FuncData) (f : Fn) : Prop where
  body : fd.body = .stmts f.body
  names : fd.scope.names = f.names
  kind : fd.scope.kind = .function
  co : fd.scope.isCoroutine = false
  gen : fd.scope.isGenerator = false
  clo : fd.closure = []
  globals : fd.globals = mainGlobals
  blts : fd.builtins = builtinsNs
  binds : ∀ vals : List Value, vals.length = f.params.length → bindArgs fd ⟨vals, []⟩ = pure (f.params.zip vals)
  pkind : ∀ x ∈ f.params, f.names.lookup x = some .local ∨ f.names.lookup x = some .cell
  nodup : f.params.Nodup

noncomputable def bltNames : List Str := ["len", "list", "tuple", "isinstance", "bool", "int", "str", "range", "enumerate", "sorted", "sum", "all", "max", "min", "dict", "zip", "reversed", "set"]

structure Base (fns : Str → Option Fn) (glob : Str → Option V) (mg mb : Str → Option Value) (h₀ : Heap) : Prop where
  g : h₀.Ns mainGlobals mg
  b : h₀.Ns builtinsNs mb
  nolimit : h₀.NoLimit
  fn : ∀ f fn, fns f = some fn → ∃ a o fd, mg f = some (.ref a) ∧ h₀.get? a = some o ∧ o.data = .func fd ∧ FdOk fd fn ∧ h₀.CodeRec fd.code fd.qualname
  blt : ∀ f ∈ bltNames, fns f = none → mg f = none ∧ mb f = bootBuiltins f
  const : ∀ x v, glob x = some v → ∃ val, mg x = some val ∧ ∀ ρ h, Rel ρ h val v

section
variable {prog : Program} {w : World} {h₀ : Heap} {A : Around} {W : List Addr} {ρ : Map} {s : Shared} {σ : Store} {fns : Str → Option Fn} {glob : Str → Option V} {mg mb : Str → Option Value}
variable {env : Env} {ns : Names} {loc : Loc} {C : Cfg} {n : Nat}

theorem Frm.kindOf (F : Frm env ns loc ρ s.heap) {x : Str} {i : Nat} {k : NameKind} (h : slot ns x = some (i, k)) : env.kindOf x = some k := by
  show env.scope.names.lookup x = some k
  rw [F.names]; exact slot_lookup h

theorem Frm.ext0 {ρ' : Map} {h h' : Heap} (F : Frm env ns loc ρ h) (x : Ext [] ρ h ρ' h') : Frm env ns loc ρ' h' := F.ext x fun _ hm => nomatch hm

theorem isGlob_slot {x : Str} (h : isGlob ns x = true) : (∃ i, slot ns x = some (i, .globalImplicit)) ∧ (x == ("__debug__" : Str)) = false := by
  unfold isGlob at h
  split at h
  · exact ⟨⟨_, by assumption⟩, by simpa using h⟩
  · cases h

theorem Sim.ldLoc {i : Nat} {t : Sem Value} (h : ∀ v, loc[i]? = some (some v) → Sim prog w h₀ A W t (.ok v σ) RV ρ s) : Sim prog w h₀ A W t (ldLoc loc i σ) RV ρ s := by
  refine Sim.ofOpt fun v hv => h v ?_
  cases e : loc[i]? with
  | none => rw [e] at hv; cases hv
  | some o => rw [e] at hv; cases o with
    | none => cases hv
    | some u => cases hv; rfl

theorem Sim.name {x : Str} {pos : Pos} (B : Base fns glob mg mb h₀) (hg : C.glob = glob) (F : Frm env ns loc ρ s.heap) (i : Inv prog w h₀ σ ρ s.heap) :
    Sim prog w h₀ A W (eval (.Name x pos) env) (ev C (.Name x pos) ns loc σ) RV ρ s := by
  show Sim prog w h₀ A W _ ((if x = ("__debug__" : Str) then M.bad else ldName C ns x loc) σ) RV ρ s
  by_cases hx : x = ("__debug__" : Str)
  · rw [if_pos hx]; exact trivial
  · rw [if_neg hx]
    have hd : (x == ("__debug__" : Str)) = false := by simpa using hx
    cases hs : slot ns x with
    | none => unfold ldName; rw [hs]; exact trivial
    | some p =>
      obtain ⟨j, k⟩ := p
      cases k with
      | «local» =>
        have e : ldName C ns x loc = Mine.ldLoc loc j := by unfold ldName; rw [hs]
        rw [e]
        refine Sim.ldLoc fun v hv => ?_
        obtain ⟨m, hn, hl⟩ := F.vars
        obtain ⟨val, hm, r⟩ := hl x j v hs hv
        exact Sim.same i fun Q E hQ => wpAny_Name (wpAny_loadName_local F.kind (F.kindOf hs) hn hm (hQ _ s.toks r)) hd
      | cell =>
        have e : ldName C ns x loc = Mine.ldLoc loc j := by unfold ldName; rw [hs]
        rw [e]
        refine Sim.ldLoc fun v hv => ?_
        obtain ⟨c, o, hc, hcell, hl⟩ := F.cell x j hs
        obtain ⟨val, rfl, r⟩ := hl v hv
        exact Sim.same i fun Q E hQ => wpAny_Name (wpAny_loadName_cell F.kind (F.kindOf hs) hc hcell (hQ _ s.toks r)) hd
      | free => unfold ldName; rw [hs]; exact trivial
      | globalImplicit =>
        have e : ldName C ns x loc = Mine.ofOpt (C.glob x) := by unfold ldName; rw [hs]
        rw [e, hg]
        refine Sim.ofOpt fun v hv => ?_
        obtain ⟨val, hm, r⟩ := B.const x v hv
        exact Sim.same i fun Q E hQ => Calls.Name_function_global F.kind (F.kindOf hs) (Calls.loadGlobal_global (by rw [F.globals]; exact B.g.keeps i.base) hm (hQ _ s.toks (r _ _))) hd
      | globalExplicit => unfold ldName; rw [hs]; exact trivial

/-- a global def is loaded -/
theorem wp_global {x : Str} {pos : Pos} {v : Value} {Q : Value → Shared → Prop} {E : Value → Shared → Prop} (B : Base fns glob mg mb h₀) (F : Frm env ns loc ρ s.heap) (i : Inv prog w h₀ σ ρ s.heap) (hx : isGlob ns x = true) (hv : mg x = some v) (h : Q v s) :
    wpAny (model prog w) A (eval (.Name x pos) env) Q E s := by
  obtain ⟨⟨j, hs⟩, hd⟩ := isGlob_slot hx
  exact Calls.Name_function_global F.kind (F.kindOf hs) (Calls.loadGlobal_global (by rw [F.globals]; exact B.g.keeps i.base) hv h) hd
theorem wp_builtin {x : Str} {pos : Pos} {v : Value} {Q : Value → Shared → Prop} {E : Value → Shared → Prop} (B : Base fns glob mg mb h₀) (F : Frm env ns loc ρ s.heap) (i : Inv prog w h₀ σ ρ s.heap) (hx : isGlob ns x = true) (hn : x ∈ bltNames) (hf : fns x = none)
    (hv : bootBuiltins x = some v) (h : Q v s) : wpAny (model prog w) A (eval (.Name x pos) env) Q E s := by
  obtain ⟨⟨j, hs⟩, hd⟩ := isGlob_slot hx
  obtain ⟨h1, h2⟩ := B.blt x hn hf
  exact Calls.Name_function_global F.kind (F.kindOf hs) (Calls.loadGlobal_builtin (by rw [F.globals]; exact B.g.keeps i.base) h1 (by rw [F.blts]; exact B.b.keeps i.base) (h2.trans hv) h) hd



/-! wrappers -/
theorem Sim.wrap {α β : Type} {t t' : Sem β} {r : Res α} {R : α → Map → Heap → β → Prop} (hw : ∀ (Q : β → Shared → Prop) (E : Value → Shared → Prop), wpAny (model prog w) A t Q E s → wpAny (model prog w) A t' Q E s)
    (h : Sim prog w h₀ A W t r R ρ s) : Sim prog w h₀ A W t' r R ρ s := by
  cases r with
  | bad => exact trivial
  | exc _ _ => exact trivial
  | ok a σ' => exact hw _ _ h
theorem Sim.operate {vs : List Value} {t : Sem Value} {r : Res V} {R : V → Map → Heap → Value → Prop} (h : Sim prog w h₀ A W t r R ρ s) : Sim prog w h₀ A W (PySem.operate vs t) r R ρ s :=
  Sim.wrap (fun _ _ => wpAny_operating) h

/-- a step behind that changes nothing -/
theorem Sim.behind {α : Type} {t : Sem Value} {f : Value → Sem PUnit} {r : Res α} {R : α → Map → Heap → Value → Prop} (hf : ∀ v (s' : Shared) (Q : PUnit → Shared → Prop) (E : Value → Shared → Prop), Q ⟨⟩ s' → wpAny (model prog w) A (f v) Q E s')
    (h : Sim prog w h₀ A W t r R ρ s) : Sim prog w h₀ A W (t >>= fun v => f v >>= fun _ => Pure.pure v) r R ρ s := by
  cases r with
  | bad => exact trivial
  | exc _ _ => exact trivial
  | ok a σ' => exact wpAny_bind (wpAny_mono h (fun v s' hp => wpAny_bind (hf v s' _ _ (wpAny_pure hp))) fun _ _ x => x)

variable (prog w h₀ C n) in
/-- an expression is simulated -/
noncomputable def EvS (e : Expr) : Prop := ∀ (env : Env) (ns : Names) (loc : Loc) (σ : Store) (ρ : Map) (s : Shared) (A : Around), Rm A n → Frm env ns loc ρ s.heap → Inv prog w h₀ σ ρ s.heap →
  Sim prog w h₀ A [] (eval e env) (ev C e ns loc σ) RV ρ s
variable (prog w h₀ C n) in
noncomputable def TstS (e : Expr) : Prop := ∀ (env : Env) (ns : Names) (loc : Loc) (σ : Store) (ρ : Map) (s : Shared) (A : Around), Rm A n → Frm env ns loc ρ s.heap → Inv prog w h₀ σ ρ s.heap →
  Sim prog w h₀ A [] (isTrue e env (eval e env)) (tst C e ns loc (ev C e ns loc) σ) RB ρ s
variable (prog w h₀ C n) in
noncomputable def EvsS (es : List Expr) : Prop := ∀ (env : Env) (ns : Names) (loc : Loc) (σ : Store) (ρ : Map) (s : Shared) (A : Around) (pos : Pos), Rm A n → Frm env ns loc ρ s.heap → Inv prog w h₀ σ ρ s.heap →
  Sim prog w h₀ A [] (spliced (backTo pos (starEach es env))) (evs C es ns loc σ) RL ρ s

theorem Rm.u {A : Around} (h : Rm A n) : A.units + 201 < cLine := by have := h.units; (first | lia | omega)

theorem ev_const {c : Const} {k : Nat} {pos : Pos} : EvS prog w h₀ C n (.Constant c k pos) := fun env ns loc σ ρ s A hA F i => by
  show Sim prog w h₀ A [] (constValue env c) (constV c σ) RV ρ s
  cases c with
  | none => exact Sim.ret i .none
  | bool b => exact Sim.ret i (.bool b)
  | int z => exact Sim.same i fun Q E hQ => wpAny_mkInt (hQ _ _ (.int _ _))
  | str x => exact Sim.ite fun hc => Sim.same i fun Q E hQ => wpAny_mkText (hQ _ _ (.str _ _ hc))
  | float _ => exact trivial
  | complex _ _ => exact trivial
  | bytes _ => exact trivial
  | ellipsis => exact trivial

theorem ev_binop {l r : Expr} {op : Operator} {pos : Pos} (hl : EvS prog w h₀ C n l) (hr : EvS prog w h₀ C n r) : EvS prog w h₀ C n (.BinOp l op r pos) := fun env ns loc σ ρ s A hA F i => by
  rw [arm_eval_BinOp]
  show Sim prog w h₀ A [] _ ((ev C l ns loc >>= fun a => ev C r ns loc >>= fun b => binop op a b) σ) RV ρ s
  refine Sim.bind (hl env ns loc σ ρ s A hA F i) fun a σ₁ ρ₁ H₁ tk₁ va i₁ x₁ r₁ => ?_
  refine Sim.bind (Sim.holding (hr env ns loc σ₁ ρ₁ _ A hA (F.ext0 x₁) i₁)) fun b σ₂ ρ₂ H₂ tk₂ vb i₂ x₂ r₂ => ?_
  exact Sim.standAt (Sim.operate (Sim.binop i₂ (r₁.ext x₂) r₂))

theorem ev_not {x : Expr} {pos : Pos} (hx : EvS prog w h₀ C n x) : EvS prog w h₀ C n (.UnaryOp .Not x pos) := fun env ns loc σ ρ s A hA F i => by
  rw [arm_eval_UnaryOp]
  show Sim prog w h₀ A [] _ ((ev C x ns loc >>= fun a => truth a >>= fun t => pure (V.bool (!t))) σ) RV ρ s
  refine Sim.bind (hx env ns loc σ ρ s A hA F i) fun a σ₁ ρ₁ H₁ tk₁ va i₁ x₁ r₁ => ?_
  refine Sim.standAt (Sim.holding ?_)
  have := Sim.truth (prog := prog) (w := w) (A := A) (W := []) (s := { s with heap := H₁, toks := tk₁ }) i₁ r₁
  cases e : truth a σ₁ with
  | bad => rw [bind_bad e]; exact trivial
  | exc v σ' => rw [bind_exc e]; exact trivial
  | ok b σ' =>
    rw [bind_ok e]
    rw [e] at this
    refine not_value (wpAny_mono this (fun b' s' hp => ?_) fun _ _ x => x)
    exact hp.mono fun ρ' h' e => by cases e; exact .bool _

theorem ev_usub {z : Int} {k : Nat} {p pos : Pos} : EvS prog w h₀ C n (.UnaryOp .USub (.Constant (.int z) k p) pos) := fun env ns loc σ ρ s A hA F i => by
  show Sim prog w h₀ A [] _ ((pure (V.int (-z)) : M V) σ) RV ρ s
  exact Sim.same i fun Q E hQ => wpAny_UnaryOp (wpAny_Constant_int (neg_int (hQ _ _ (.int _ _))))

theorem markedBehindIn_sim {op : CmpOp} {r : Expr} {t : Sem Value} {res : Res V} (hr : ∀ es k p, r ≠ .Set es k p) (h : Sim prog w h₀ A W t res RV ρ s) : Sim prog w h₀ A W (markedBehindIn op r t) res RV ρ s := by
  have e : behindInMarks op r = false := by cases r <;> first | rfl | exact absurd rfl (hr _ _ _)
  rw [markedBehindIn_of_false e]; exact h

/-- the other side of a comparison is no set display -/
theorem ev_set {es : List Expr} {k : Nat} {p : Pos} : ev C (.Set es k p) ns loc = M.bad := rfl

theorem ev_compare {l r : Expr} {op : CmpOp} {pos : Pos} (hl : EvS prog w h₀ C n l) (hr : EvS prog w h₀ C n r) : EvS prog w h₀ C n (.Compare l [op] [r] pos) := fun env ns loc σ ρ s A hA F i => by
  rw [eval_Compare1]
  show Sim prog w h₀ A [] _ ((ev C l ns loc >>= fun a => ev C r ns loc >>= fun b => cmp op a b) σ) RV ρ s
  refine Sim.bind (hl env ns loc σ ρ s A hA F i) fun a σ₁ ρ₁ H₁ tk₁ va i₁ x₁ r₁ => ?_
  by_cases hset : ∃ es k p, r = .Set es k p
  · obtain ⟨es, k, p, rfl⟩ := hset
    rw [ev_set, bind_bad rfl]; exact trivial
  · refine Sim.bind (Sim.holding (markedBehindIn_sim (fun es k p e => hset ⟨es, k, p, e⟩) (hr env ns loc σ₁ ρ₁ _ A hA (F.ext0 x₁) i₁))) fun b σ₂ ρ₂ H₂ tk₂ vb i₂ x₂ r₂ => ?_
    exact Sim.standAt (Sim.operate (Sim.cmp i₂ hA.u (r₁.ext x₂) r₂))

/-- a test that is no connective -/
theorem tst_value {e : Expr} (he : EvS prog w h₀ C n e) (h1 : ∀ (ns : Names) (loc : Loc) (whole : M V), tst C e ns loc whole = (whole >>= fun v => truth v)) (h2 : ∀ (env : Env) (whole : Sem Value), isTrue e env whole = (do let v ← whole; standAt e.pos; holding [v] (truthy v))) :
    TstS prog w h₀ C n e := fun env ns loc σ ρ s A hA F i => by
  rw [h1, h2]
  refine Sim.bind (he env ns loc σ ρ s A hA F i) fun a σ₁ ρ₁ H₁ tk₁ va i₁ x₁ r₁ => ?_
  exact Sim.standAt (Sim.holding (Sim.truth i₁ r₁))

theorem tst_compare {l r : Expr} {op : CmpOp} {pos : Pos} (hl : EvS prog w h₀ C n l) (hr : EvS prog w h₀ C n r) : TstS prog w h₀ C n (.Compare l [op] [r] pos) := fun env ns loc σ ρ s A hA F i => by
  rw [isTrue_Compare1]
  show Sim prog w h₀ A [] _ (((ev C l ns loc >>= fun a => ev C r ns loc >>= fun b => cmp op a b) >>= fun v => truth v) σ) RB ρ s
  rw [M.assoc]
  refine Sim.bind (hl env ns loc σ ρ s A hA F i) fun a σ₁ ρ₁ H₁ tk₁ va i₁ x₁ r₁ => ?_
  rw [M.assoc]
  by_cases hset : ∃ es k p, r = .Set es k p
  · obtain ⟨es, k, p, rfl⟩ := hset
    rw [ev_set, bind_bad rfl]; exact trivial
  · refine Sim.bind (Sim.holding (markedBehindIn_sim (fun es k p e => hset ⟨es, k, p, e⟩) (hr env ns loc σ₁ ρ₁ _ A hA (F.ext0 x₁) i₁))) fun b σ₂ ρ₂ H₂ tk₂ vb i₂ x₂ r₂ => ?_
    refine Sim.standAt (Sim.bind (Sim.operate (Sim.cmp i₂ hA.u (r₁.ext x₂) r₂)) fun c σ₃ ρ₃ H₃ tk₃ vc i₃ x₃ r₃ => ?_)
    exact Sim.holding (Sim.truth i₃ r₃)

/-- two comparisons in a row -/
theorem ev_chain {l m r : Expr} {op op2 : CmpOp} {pos : Pos} (hl : EvS prog w h₀ C n l) (hm : EvS prog w h₀ C n m) (hr : EvS prog w h₀ C n r) : EvS prog w h₀ C n (.Compare l [op, op2] [m, r] pos) := fun env ns loc σ ρ s A hA F i => by
  have e : eval (.Compare l [op, op2] [m, r] pos) env = (eval l env >>= fun va => holding [va] (eval m env) >>= fun vb => PySem.standAt pos >>= fun _ => holding [va, vb] (compareOp op va vb) >>= fun c => release [va, vb] [c] >>= fun _ => holding [c, vb] (truthy c) >>= fun t =>
    if t = true then (holding [vb] (markedBehindIn op2 r (eval r env)) >>= fun vc => PySem.standAt pos >>= fun _ => operate [vb, vc] (compareOp op2 vb vc)) else Pure.pure c) := rfl
  rw [e]
  show Sim prog w h₀ A [] _ ((ev C l ns loc >>= fun a => ev C m ns loc >>= fun b => cmp op a b >>= fun x => boolK x (ev C r ns loc >>= fun c => cmp op2 b c) (pure (.bool false))) σ) RV ρ s
  refine Sim.bind (hl env ns loc σ ρ s A hA F i) fun a σ₁ ρ₁ H₁ tk₁ va i₁ x₁ r₁ => ?_
  refine Sim.bind (Sim.holding (hm env ns loc σ₁ ρ₁ _ A hA (F.ext0 x₁) i₁)) fun b σ₂ ρ₂ H₂ tk₂ vb i₂ x₂ r₂ => Sim.standAt ?_
  refine Sim.bind (Sim.holding (Sim.cmp i₂ hA.u (r₁.ext x₂) r₂)) fun c σ₃ ρ₃ H₃ tk₃ vc i₃ x₃ r₃ => ?_
  refine Sim.ahead (fun Q E hq => wpAny_release hq) ?_
  cases r₃ with
  | bool t =>
    refine Sim.first (fun Q E hq => wpAny_holding (wpAny_truthy_bool hq)) ?_
    cases t with
    | false => exact Sim.ret i₃ (.bool _)
    | true =>
      show Sim prog w h₀ A [] _ ((ev C r ns loc >>= fun c => cmp op2 b c) σ₃) RV ρ₃ _
      by_cases hset : ∃ es k p, r = .Set es k p
      · obtain ⟨es, k, p, rfl⟩ := hset
        rw [ev_set, bind_bad rfl]; exact trivial
      · refine Sim.bind (Sim.holding (markedBehindIn_sim (fun es k p e => hset ⟨es, k, p, e⟩) (hr env ns loc σ₃ ρ₃ _ A hA (((F.ext0 x₁).ext0 x₂).ext0 x₃) i₃))) fun d σ₅ ρ₅ H₅ tk₅ vd i₅ x₅ r₅ => ?_
        exact Sim.standAt (Sim.operate (Sim.cmp i₅ hA.u ((r₂.ext x₃).ext x₅) r₅))
  | _ => exact trivial
theorem tst_chain {l m r : Expr} {op op2 : CmpOp} {pos : Pos} (hl : EvS prog w h₀ C n l) (hm : EvS prog w h₀ C n m) (hr : EvS prog w h₀ C n r) : TstS prog w h₀ C n (.Compare l [op, op2] [m, r] pos) := fun env ns loc σ ρ s A hA F i => by
  have e : ∀ whole, isTrue (.Compare l [op, op2] [m, r] pos) env whole = (eval l env >>= fun va => holding [va] (eval m env) >>= fun vb => PySem.standAt pos >>= fun _ => holding [va, vb] (compareOp op va vb) >>= fun c => release [va, vb] [c] >>= fun _ => holding [c, vb] (truthy c) >>= fun t =>
    if t = true then (holding [vb] (markedBehindIn op2 r (eval r env)) >>= fun vc => PySem.standAt pos >>= fun _ => operate [vb, vc] (compareOp op2 vb vc) >>= fun c => holding [c] (truthy c)) else Pure.pure false) := fun _ => rfl
  rw [e]
  show Sim prog w h₀ A [] _ (((ev C l ns loc >>= fun a => ev C m ns loc >>= fun b => cmp op a b >>= fun x => boolK x (ev C r ns loc >>= fun c => cmp op2 b c) (pure (.bool false))) >>= fun v => truth v) σ) RB ρ s
  rw [M.assoc]
  refine Sim.bind (hl env ns loc σ ρ s A hA F i) fun a σ₁ ρ₁ H₁ tk₁ va i₁ x₁ r₁ => ?_
  rw [M.assoc]
  refine Sim.bind (Sim.holding (hm env ns loc σ₁ ρ₁ _ A hA (F.ext0 x₁) i₁)) fun b σ₂ ρ₂ H₂ tk₂ vb i₂ x₂ r₂ => Sim.standAt ?_
  rw [M.assoc]
  refine Sim.bind (Sim.holding (Sim.cmp i₂ hA.u (r₁.ext x₂) r₂)) fun c σ₃ ρ₃ H₃ tk₃ vc i₃ x₃ r₃ => ?_
  refine Sim.ahead (fun Q E hq => wpAny_release hq) ?_
  cases r₃ with
  | bool t =>
    refine Sim.first (fun Q E hq => wpAny_holding (wpAny_truthy_bool hq)) ?_
    cases t with
    | false => exact Sim.ret i₃ rfl
    | true =>
      show Sim prog w h₀ A [] _ (((ev C r ns loc >>= fun c => cmp op2 b c) >>= fun v => truth v) σ₃) RB ρ₃ _
      rw [M.assoc]
      by_cases hset : ∃ es k p, r = .Set es k p
      · obtain ⟨es, k, p, rfl⟩ := hset
        rw [ev_set, bind_bad rfl]; exact trivial
      · refine Sim.bind (Sim.holding (markedBehindIn_sim (fun es k p e => hset ⟨es, k, p, e⟩) (hr env ns loc σ₃ ρ₃ _ A hA (((F.ext0 x₁).ext0 x₂).ext0 x₃) i₃))) fun d σ₅ ρ₅ H₅ tk₅ vd i₅ x₅ r₅ => Sim.standAt ?_
        refine Sim.bind (Sim.operate (Sim.cmp i₅ hA.u ((r₂.ext x₃).ext x₅) r₅)) fun c σ₆ ρ₆ H₆ tk₆ vc i₆ x₆ r₆ => ?_
        exact Sim.holding (Sim.truth i₆ r₆)
  | _ => exact trivial

/-! dict displays -/
theorem lit_eval {e : Expr} {k : Int} (h : litInt e = some k) {env : Env} {Q : Value → Shared → Prop} {E : Value → Shared → Prop} {s : Shared} (hQ : ∀ t tk, Q (.int k t) { s with toks := tk }) : wpAny (model prog w) A (eval e env) Q E s := by
  cases e with
  | Constant c _ _ => cases c with
    | int i => cases h; exact wpAny_Constant_int (hQ _ _)
    | _ => cases h
  | UnaryOp op x _ => cases op with
    | USub => cases x with
      | Constant c _ _ => cases c with
        | int i => cases h; exact wpAny_UnaryOp (wpAny_Constant_int (neg_int (hQ _ _)))
        | _ => cases h
      | _ => cases h
    | _ => cases h
  | _ => cases h
theorem ev_dict0 {pos : Pos} (hN : h₀.NoLimit) : EvS prog w h₀ C n (.Dict [] [] pos) := fun env ns loc σ ρ s A hA F i => by
  rw [eval_Dict_empty]
  refine Sim.standAt (Sim.newDictAt i fun Q E hQ => wpAny_newObj_type (T := "dict") (hQ _ [] _ _ (fun _ _ e => Heap.get?_push_of_some _ e) fresh_none (big hN i) (Heap.DictOf.new s.heap) (Nat.zero_le _) .nil) ?_)
  exact Nat.zero_le _
theorem ev_dict1 {k v : Expr} {pos : Pos} (hN : h₀.NoLimit) : EvS prog w h₀ C n (.Dict [some k] [v] pos) := fun env ns loc σ ρ s A hA F i => by
  show Sim prog w h₀ A [] _ (dict1 k v σ) RV ρ s
  unfold dict1
  cases ek : litInt k with
  | none => exact trivial
  | some a =>
    cases ev : litInt v with
    | none => exact trivial
    | some b =>
      refine Sim.newDictAt i fun Q E hQ => ?_
      refine wpAny_Dict_walk (knd := keyKind prog w) rfl rfl (by simp) (show (1 : Nat) ≤ 15 by decide) (pairTrees_cons_walk (lit_eval ek fun t tk => lit_eval ev fun t' tk' => pairTrees_nil_walk ⟨[(.inl a, .int b t')], ?_, ?_, fun h' hd hs => ?_⟩))
      · exact ⟨isInt_same a t, rfl, trivial⟩
      · exact Heap.DictOf.new s.heap
      · refine hQ _ [(.inl a, .int b t')] h' _ (fun c o e => (hs.2 c (Nat.ne_of_lt (Heap.lt_size e))).trans (Heap.get?_push_of_some _ e)) fresh_none (big hN i) hd (show (1 : Nat) ≤ sizeLine by decide) (.cons (fun _ e => nomatch e) (.int b t') .nil)
end

end Mine

namespace Mine
open PySem PyProof.Rows

section
variable {prog : Program} {w : World} {h₀ : Heap} {A : Around} {W : List Addr} {ρ : Map} {s : Shared} {σ : Store} {fns : Str → Option Fn} {glob : Str → Option V} {mg mb : Str → Option Value}
variable {env : Env} {ns : Names} {loc : Loc} {C : Cfg} {n : Nat}

/-- a test of a bool, then one of two ways -/
theorem Sim.cond {α β : Type} {t : Sem Bool} {f g : Sem β} {m : M Bool} {k l : M α} {R : α → Map → Heap → β → Prop} (h : Sim prog w h₀ A W t (m σ) RB ρ s)
    (h1 : ∀ σ₁ ρ₁ H tk, Inv prog w h₀ σ₁ ρ₁ H → Ext W ρ s.heap ρ₁ H → Sim prog w h₀ A W f (k σ₁) R ρ₁ { s with heap := H, toks := tk })
    (h2 : ∀ σ₁ ρ₁ H tk, Inv prog w h₀ σ₁ ρ₁ H → Ext W ρ s.heap ρ₁ H → Sim prog w h₀ A W g (l σ₁) R ρ₁ { s with heap := H, toks := tk }) :
    Sim prog w h₀ A W (t >>= fun b => if b = true then f else g) ((m >>= fun b => if b = true then k else l) σ) R ρ s := by
  refine Sim.bind h fun b σ₁ ρ₁ H tk b' i x r => ?_
  cases r
  cases b with
  | true => exact h1 σ₁ ρ₁ H tk i x
  | false => exact h2 σ₁ ρ₁ H tk i x

theorem tst_not {x : Expr} {pos : Pos} (hx : TstS prog w h₀ C n x) : TstS prog w h₀ C n (.UnaryOp .Not x pos) := fun env ns loc σ ρ s A hA F i => by
  rw [arm_isTrue_UnaryOp]
  refine Sim.bind (hx env ns loc σ ρ s A hA F i) fun b σ₁ ρ₁ H tk b' i₁ x₁ r => ?_
  cases r
  exact Sim.ret i₁ rfl

variable (prog w h₀ C n) in
noncomputable def TstAllS (es : List Expr) : Prop := ∀ (op : BoolOp) (env : Env) (ns : Names) (loc : Loc) (σ : Store) (ρ : Map) (s : Shared) (A : Around), Rm A n → Frm env ns loc ρ s.heap → Inv prog w h₀ σ ρ s.heap →
  Sim prog w h₀ A [] (allTrue op es env) (tstAll C es op ns loc σ) RB ρ s
variable (prog w h₀ C n) in
noncomputable def EvBoolS (es : List Expr) : Prop := ∀ (op : BoolOp) (pos : Pos) (env : Env) (ns : Names) (loc : Loc) (σ : Store) (ρ : Map) (s : Shared) (A : Around), Rm A n → Frm env ns loc ρ s.heap → Inv prog w h₀ σ ρ s.heap →
  Sim prog w h₀ A [] (boolOp pos op (evalEach es env)) (evBool C es op ns loc σ) RV ρ s

theorem tstAll_nil : TstAllS prog w h₀ C n [] := fun op env ns loc σ ρ s A hA F i => Sim.ret i rfl
theorem tstAll_cons {e : Expr} {r : List Expr} (he : TstS prog w h₀ C n e) (hr : TstAllS prog w h₀ C n r) : TstAllS prog w h₀ C n (e :: r) := fun op env ns loc σ ρ s A hA F i => by
  rw [arm_allTrue_cons]
  refine Sim.bind (he env ns loc σ ρ s A hA F i) fun b σ₁ ρ₁ H tk b' i₁ x₁ e => ?_
  cases e
  cases op <;> cases b
  · exact Sim.ret i₁ rfl
  · exact hr _ env ns loc σ₁ ρ₁ _ A hA (F.ext0 x₁) i₁
  · exact hr _ env ns loc σ₁ ρ₁ _ A hA (F.ext0 x₁) i₁
  · exact Sim.ret i₁ rfl
theorem tst_boolop {op : BoolOp} {es : List Expr} {pos : Pos} (h : TstAllS prog w h₀ C n es) : TstS prog w h₀ C n (.BoolOp op es pos) := fun env ns loc σ ρ s A hA F i => by
  rw [arm_isTrue_BoolOp]; exact h op env ns loc σ ρ s A hA F i

theorem evBool_nil : EvBoolS prog w h₀ C n [] := fun op pos env ns loc σ ρ s A hA F i => trivial
theorem evBool_cons {e : Expr} {r : List Expr} (he : EvS prog w h₀ C n e) (hr : EvBoolS prog w h₀ C n r) : EvBoolS prog w h₀ C n (e :: r) := fun op pos env ns loc σ ρ s A hA F i => by
  cases r with
  | nil =>
    show Sim prog w h₀ A [] (eval e env) ((ev C e ns loc >>= fun v => (pure v : M V)) σ) RV ρ s
    have : (ev C e ns loc >>= fun v => (pure v : M V)) σ = ev C e ns loc σ := by
      cases h : ev C e ns loc σ with
      | bad => rw [bind_bad h]
      | exc _ _ => rw [bind_exc h]
      | ok a σ' => rw [bind_ok h]; rfl
    rw [this]
    exact he env ns loc σ ρ s A hA F i
  | cons e2 r =>
    rw [arm_evalEach_cons, arm_evalEach_cons]
    refine Sim.bind (he env ns loc σ ρ s A hA F i) fun a σ₁ ρ₁ H₁ tk₁ va i₁ x₁ r₁ => ?_
    refine Sim.standAt (Sim.bind (Sim.holding (Sim.truth i₁ r₁)) fun b σ₂ ρ₂ H₂ tk₂ b' i₂ x₂ e => ?_)
    cases e
    have hh := hr op pos env ns loc σ₂ ρ₂ { s with heap := H₂, toks := tk₂ } A hA ((F.ext0 x₁).ext0 x₂) i₂
    rw [arm_evalEach_cons] at hh
    cases op <;> cases b
    · exact Sim.ret i₂ (r₁.ext x₂)
    · exact hh
    · exact hh
    · exact Sim.ret i₂ (r₁.ext x₂)
theorem ev_boolop {op : BoolOp} {es : List Expr} {pos : Pos} (h : EvBoolS prog w h₀ C n es) : EvS prog w h₀ C n (.BoolOp op es pos) := fun env ns loc σ ρ s A hA F i => by
  rw [arm_eval_BoolOp]; exact h op pos env ns loc σ ρ s A hA F i

/-! rows of expressions -/
theorem starEach_cons {e : Expr} {r : List Expr} (h : ∀ v p, e ≠ .Starred v p) : starEach (e :: r) env = (false, eval e env) :: starEach r env := by
  cases e <;> first | rfl | exact absurd rfl (h _ _)
theorem evs_nil : EvsS prog w h₀ C n [] := fun env ns loc σ ρ s A pos hA F i => Sim.ret i .nil
theorem evs_cons {e : Expr} {r : List Expr} (he : EvS prog w h₀ C n e) (hr : EvsS prog w h₀ C n r) : EvsS prog w h₀ C n (e :: r) := fun env ns loc σ ρ s A pos hA F i => by
  show Sim prog w h₀ A [] _ ((ev C e ns loc >>= fun v => evs C r ns loc >>= fun vs => pure (v :: vs)) σ) RL ρ s
  by_cases hst : ∃ v p, e = .Starred v p
  · obtain ⟨v, p, rfl⟩ := hst
    have : ev C (.Starred v p) ns loc σ = .bad := rfl
    rw [bind_bad this]; exact trivial
  · rw [starEach_cons (fun v p e' => hst ⟨v, p, e'⟩)]
    show Sim prog w h₀ A [] (spliced ((false, eval e env) :: backTo pos (starEach r env))) _ RL ρ s
    have e : spliced ((false, eval e env) :: backTo pos (starEach r env)) = (eval e env >>= fun v => holding [v] (spliced (backTo pos (starEach r env))) >>= fun vs => Pure.pure (v :: vs)) := rfl
    rw [e]
    refine Sim.bind (he env ns loc σ ρ s A hA F i) fun a σ₁ ρ₁ H₁ tk₁ va i₁ x₁ r₁ => ?_
    refine Sim.bind (Sim.holding (hr env ns loc σ₁ ρ₁ _ A pos hA (F.ext0 x₁) i₁)) fun b σ₂ ρ₂ H₂ tk₂ vb i₂ x₂ r₂ => ?_
    exact Sim.ret i₂ (.cons (r₁.ext x₂) r₂)

theorem ev_list {es : List Expr} {pos : Pos} (h : EvsS prog w h₀ C n es) : EvS prog w h₀ C n (.List es pos) := fun env ns loc σ ρ s A hA F i => by
  rw [arm_eval_List]
  refine Sim.standAt (Sim.bind (h env ns loc σ ρ s A pos hA F i) fun l σ₁ ρ₁ H₁ tk₁ vs i₁ x₁ r₁ => ?_)
  exact Sim.ite fun hc => Sim.newList i₁ r₁ hc
theorem ev_tuple {es : List Expr} {k : Nat} {pos : Pos} (h : EvsS prog w h₀ C n es) : EvS prog w h₀ C n (.Tuple es k pos) := fun env ns loc σ ρ s A hA F i => by
  rw [arm_eval_Tuple]
  refine Sim.standAt (Sim.bind (h env ns loc σ ρ s A pos hA F i) fun l σ₁ ρ₁ H₁ tk₁ vs i₁ x₁ r₁ => ?_)
  exact Sim.ite fun hc => Sim.newTuple i₁ r₁ hc

/-! subscripts -/
noncomputable def CanGet (σ : Store) (x : V) : Prop := (∃ l, x = .tup l) ∨ (∃ t, x = .str t) ∨ ∃ m, x = .ref m ∧ ((∃ l, σ[m]? = some (.list l)) ∨ ∃ l, σ[m]? = some (.dict l))
/-- what can be asked for an item bears no __getitem__ of the text's own -/
theorem getitem_plain {v : Value} {x : V} {Q : Bool → Shared → Prop} {E : Value → Shared → Prop} (i : Inv prog w h₀ σ ρ s.heap) (r : Rel ρ s.heap v x) (hx : CanGet σ x) (h : Q false s) :
    wpAny (model prog w) A (getitemInPython v) Q E s := by
  have key : ∀ (T id : String), s.TypeIs v T → typeLookup (.type T) "__getitem__" = pure (some (.builtin id)) → wpAny (model prog w) A (getitemInPython v) Q E s := by
    intro T id hT hl
    rw [getitemInPython_of_ne hT.not_modules]
    exact wpAny_bind (wpAny_specialOf hT hl (wpAny_pure h))
  rcases hx with ⟨l, rfl⟩ | ⟨t, rfl⟩ | ⟨m, rfl, ⟨l, hσ⟩ | ⟨l, hσ⟩⟩
  · cases r with
    | tup g _ _ => exact key "tuple" _ (isTuple_of g).typeIs slot_tuple_getitem.lookup
  · cases r with
    | str _ t _ => exact key "str" _ (typeIs_str s _ t) F.slot_str_getitem.lookup
  · cases r with
    | ref er =>
      obtain ⟨_, vs, k, g, _, _⟩ := i.list hσ er
      exact key "list" _ (isList_of g).typeIs slot_list_getitem.lookup
  · cases r with
    | ref er =>
      obtain ⟨_, _, kvs, hd, _, _⟩ := i.dict hσ er
      exact key "dict" _ hd.typeIs slot_dict_getitem.lookup

theorem item_kind {x y : V} {v : V} {σ' : Store} (h : item x y σ = .ok v σ') : CanGet σ x := by
  cases x with
  | tup l => exact .inl ⟨_, rfl⟩
  | str t => exact .inr (.inl ⟨_, rfl⟩)
  | ref m =>
    refine .inr (.inr ⟨m, rfl, ?_⟩)
    have h : (getO m >>= fun o => match o with | .list l => itemL l y | .dict l => ofOpt ((keyOf y).bind (dGet l)) | _ => M.bad) σ = .ok v σ' := h
    cases e : σ[m]? with
    | none => rw [bind_bad (by rw [getO_eq, e])] at h; cases h
    | some o =>
      rw [bind_ok (a := o) (σ' := σ) (by rw [getO_eq, e])] at h
      cases o with
      | list l => exact .inl ⟨l, rfl⟩
      | dict l => exact .inr ⟨l, rfl⟩
      | inst _ _ => cases h
  | none => cases h
  | bool _ => cases h
  | int _ => cases h
theorem slice_kind {lo hi : Option Int} {x : V} {v : V} {σ' : Store} (h : sliceV lo hi x σ = .ok v σ') : CanGet σ x := by
  unfold sliceV at h
  split at h
  · exact .inl ⟨_, rfl⟩
  · exact .inr (.inl ⟨_, rfl⟩)
  · rename_i m
    refine .inr (.inr ⟨m, rfl, .inl ?_⟩)
    cases e : σ[m]? with
    | none => rw [bind_bad (by rw [getList_eq, e])] at h; cases h
    | some o => cases o with
      | list l => exact ⟨l, rfl⟩
      | dict _ => rw [bind_bad (by rw [getList_eq, e])] at h; cases h
      | inst _ _ => rw [bind_bad (by rw [getList_eq, e])] at h; cases h
  · cases h

/-- the end of a subscript -/
theorem Sim.subTail {value slice : Expr} {o i : Value} {x : V} {r : Res V} {ops : List Value} (iv : Inv prog w h₀ σ ρ s.heap) (ro : Rel ρ s.heap o x) (hk : ∀ v σ', r = .ok v σ' → CanGet σ x)
    (hs : subscripted slice false o i = PySem.operate ops (getItem o i)) (h : Sim prog w h₀ A W (getItem o i) r RV ρ s) :
    Sim prog w h₀ A W (getitemInPython o >>= fun b => subscripted slice b o i >>= fun r => letTemporaryGo value o r >>= fun _ => Pure.pure r) r RV ρ s := by
  cases r with
  | bad => exact trivial
  | exc _ _ => exact trivial
  | ok v σ' =>
    refine wpAny_bind (getitem_plain iv ro (hk v σ' rfl) ?_)
    rw [hs]
    exact wpAny_bind (wpAny_operating (wpAny_mono h (fun b s' hp => wpAny_bind (wpAny_letTemporaryGo (wpAny_pure hp))) fun _ _ x => x))

theorem ev_slice_bad {lo hi st : Option Expr} {p : Pos} : ev C (.Slice lo hi st p) ns loc = M.bad := rfl

theorem ev_sub {o i : Expr} {pos : Pos} (ho : EvS prog w h₀ C n o) (hi : EvS prog w h₀ C n i) (he : ∀ (ns : Names) (loc : Loc), ev C (.Subscript o i pos) ns loc = (ev C o ns loc >>= fun a => ev C i ns loc >>= fun b => item a b)) : EvS prog w h₀ C n (.Subscript o i pos) := fun env ns loc σ ρ s A hA F iv => by
  rw [arm_eval_Subscript, he]
  refine Sim.bind (ho env ns loc σ ρ s A hA F iv) fun a σ₁ ρ₁ H₁ tk₁ va i₁ x₁ r₁ => ?_
  by_cases hsl : ∃ lo hi st p, i = .Slice lo hi st p
  · obtain ⟨lo, hi', st, p, rfl⟩ := hsl
    rw [ev_slice_bad, bind_bad rfl]; exact trivial
  · refine Sim.bind (Sim.holding (hi env ns loc σ₁ ρ₁ _ A hA (F.ext0 x₁) i₁)) fun b σ₂ ρ₂ H₂ tk₂ vb i₂ x₂ r₂ => ?_
    refine Sim.standAt (Sim.subTail (ops := [va, vb]) i₂ (r₁.ext x₂) (fun v σ' e => item_kind e) ?_ (Sim.item i₂ (r₁.ext x₂) r₂))
    cases i <;> first | rfl | exact absurd ⟨_, _, _, _, rfl⟩ hsl

variable (prog w h₀ C n) in
noncomputable def EvOptS (o : Option Expr) : Prop := ∀ (env : Env) (ns : Names) (loc : Loc) (σ : Store) (ρ : Map) (s : Shared) (A : Around), Rm A n → Frm env ns loc ρ s.heap → Inv prog w h₀ σ ρ s.heap →
  Sim prog w h₀ A [] (valueOrNone (evalOpt o env)) (evOpt C o ns loc σ) RV ρ s
theorem evOpt_none : EvOptS prog w h₀ C n none := fun env ns loc σ ρ s A hA F i => Sim.ret i .none
theorem evOpt_some {e : Expr} (h : EvS prog w h₀ C n e) : EvOptS prog w h₀ C n (some e) := fun env ns loc σ ρ s A hA F i => h env ns loc σ ρ s A hA F i

noncomputable def RS : V × V → Map → Heap → Value → Prop := fun q ρ h iv => ∃ sl vl vu, iv = .ref sl ∧ h.IsSliceOf sl vl vu .none ∧ Rel ρ h vl q.1 ∧ Rel ρ h vu q.2

theorem slice_obj {lo hi : Option Expr} {p : Pos} (hlo : EvOptS prog w h₀ C n lo) (hhi : EvOptS prog w h₀ C n hi) (hA : Rm A n) (F : Frm env ns loc ρ s.heap) (iv : Inv prog w h₀ σ ρ s.heap) :
    Sim prog w h₀ A [] (eval (.Slice lo hi none p) env) ((evOpt C lo ns loc >>= fun l => evOpt C hi ns loc >>= fun h => (Pure.pure (l, h) : M (V × V))) σ) RS ρ s := by
  rw [arm_eval_Slice]
  refine Sim.bind (hlo env ns loc σ ρ s A hA F iv) fun a σ₁ ρ₁ H₁ tk₁ va i₁ x₁ r₁ => ?_
  refine Sim.bind (Sim.holding (hhi env ns loc σ₁ ρ₁ _ A hA (F.ext0 x₁) i₁)) fun b σ₂ ρ₂ H₂ tk₂ vb i₂ x₂ r₂ => ?_
  refine Sim.grown (s := { s with heap := H₂, toks := tk₂ }) i₂ fun Q E hQ => ?_
  refine wpAny_bind (wpAny_holding (wpAny_pure (wpAny_newObj_type (T := "slice") ?_ (by show (3 : Nat) ≤ sizeLine + 2; decide))))
  have hk : ∀ b o, H₂.get? b = some o → (H₂.push { cls := .type "slice", data := .fields #[va, vb, .none] }).get? b = some o := fun b o e => Heap.get?_push_of_some _ e
  exact hQ _ _ tk₂ hk ⟨_, va, vb, rfl, Heap.IsSliceOf.new .., (r₁.ext x₂).sub (Sub.keeps hk), r₂.sub (Sub.keeps hk)⟩

theorem ev_slice {o : Expr} {lo hi : Option Expr} {p pos : Pos} (ho : EvS prog w h₀ C n o) (hlo : EvOptS prog w h₀ C n lo) (hhi : EvOptS prog w h₀ C n hi) : EvS prog w h₀ C n (.Subscript o (.Slice lo hi none p) pos) := fun env ns loc σ ρ s A hA F iv => by
  rw [arm_eval_Subscript]
  have e : ev C (.Subscript o (.Slice lo hi none p) pos) ns loc = (ev C o ns loc >>= fun a => (evOpt C lo ns loc >>= fun l => evOpt C hi ns loc >>= fun h => (Pure.pure (l, h) : M (V × V))) >>= fun q => bound q.1 >>= fun l' => bound q.2 >>= fun h' => sliceV l' h' a) := by
    show (ev C o ns loc >>= fun a => evOpt C lo ns loc >>= fun l => evOpt C hi ns loc >>= fun h => bound l >>= fun l' => bound h >>= fun h' => sliceV l' h' a) = _
    congr 1; funext a
    rw [M.assoc]; congr 1; funext l
    rw [M.assoc]; rfl
  rw [e]
  refine Sim.bind (ho env ns loc σ ρ s A hA F iv) fun a σ₁ ρ₁ H₁ tk₁ va i₁ x₁ r₁ => ?_
  refine Sim.bind (Sim.holding (slice_obj hlo hhi hA (F.ext0 x₁) i₁)) fun q σ₂ ρ₂ H₂ tk₂ vb i₂ x₂ r₂ => ?_
  obtain ⟨sl, vl, vu, rfl, hs, rl, ru⟩ := r₂
  refine Sim.standAt (Sim.bound (s := { s with heap := H₂, toks := tk₂ }) rl fun l' pl => Sim.bound (s := { s with heap := H₂, toks := tk₂ }) ru fun h' pu => ?_)
  exact Sim.subTail (ops := [.ref sl, va]) i₂ (r₁.ext x₂) (fun v σ' e => slice_kind e) rfl (Sim.slice (s := { s with heap := H₂, toks := tk₂ }) i₂ (r₁.ext x₂) hs pl pu)

/-! calls -/
variable (prog w h₀ mg C n) in
/-- the text's own defs are simulated -/
noncomputable def CallS : Prop := ∀ (f : Str) (a : Addr) (args : List V) (vals : List Value) (σ : Store) (ρ : Map) (s : Shared) (A : Around), Rm A n → C.isFn f = true → mg f = some (.ref a) → RelAll ρ s.heap vals args → Inv prog w h₀ σ ρ s.heap →
  Sim prog w h₀ A [] (call (.ref a) vals) (C.call f args σ) RV ρ s

theorem noStar {es : List Expr} {pos : Pos} : (∀ e ∈ es, ∀ v p, e ≠ .Starred v p) → (backTo pos (starEach es env)).any (·.1) = false ∧ (backTo pos (starEach es env)).all (fun x => !x.1) = true := by
  induction es with
  | nil => intro _; exact ⟨rfl, rfl⟩
  | cons e r ih =>
    intro h
    rw [starEach_cons (h e (by simp))]
    obtain ⟨h1, h2⟩ := ih fun e' he' => h e' (by simp [he'])
    refine ⟨?_, ?_⟩
    · show (false || (backTo pos (starEach r env)).any (·.1)) = false
      rw [h1]; rfl
    · show (true && (backTo pos (starEach r env)).all _) = true
      rw [h2]; rfl

theorem evs_star {es : List Expr} : (∃ e ∈ es, ∃ v p, e = .Starred v p) → ∀ σ, ∃ r, evs C es ns loc σ = r ∧ ∀ l σ', r ≠ .ok l σ' := by
  induction es with
  | nil => rintro ⟨e, he, _⟩; exact nomatch he
  | cons e r ih =>
    rintro ⟨e', he', v, p, rfl⟩ σ
    refine ⟨_, rfl, fun l σ' h => ?_⟩
    have h : ((ev C e ns loc >>= fun v => evs C r ns loc >>= fun vs => (Pure.pure (v :: vs) : M (List V))) σ) = .ok l σ' := h
    cases h1 : ev C e ns loc σ with
    | bad => rw [bind_bad h1] at h; cases h
    | exc _ _ => rw [bind_exc h1] at h; cases h
    | ok a σ₁ =>
      rw [bind_ok h1] at h
      rcases List.mem_cons.mp he' with rfl | hm
      · cases h1
      · obtain ⟨_, rfl, hn⟩ := ih ⟨_, hm, v, p, rfl⟩ σ₁
        cases h2 : evs C r ns loc σ₁ with
        | bad => rw [bind_bad h2] at h; cases h
        | exc _ _ => rw [bind_exc h2] at h; cases h
        | ok b σ₂ => exact hn _ _ h2

/-- arguments, then a call -/
theorem Sim.args {α : Type} {f : Value} {first : List Value} {es : List Expr} {pos : Pos} {k : List V → M α} {R : α → Map → Heap → Value → Prop} (hes : EvsS prog w h₀ C n es) (hA : Rm A n) (F : Frm env ns loc ρ s.heap) (i : Inv prog w h₀ σ ρ s.heap)
    (hcw : ∀ (Q : Value → Shared → Prop) (E : Value → Shared → Prop), (∀ e ∈ es, ∀ v p, e ≠ .Starred v p) →
      wpAny (model prog w) A (spliced (backTo pos (starEach es env))) (fun vs s₁ => (∀ b o, h₀.get? b = some o → s₁.heap.get? b = some o) ∧ wpAny (model prog w) A (call f (first ++ vs)) Q E s₁) E s → wpAny (model prog w) A (callWith pos f first (backTo pos (starEach es env)) []) Q E s)
    (hk : ∀ l σ₁ ρ₁ H tk vs, Inv prog w h₀ σ₁ ρ₁ H → Ext [] ρ s.heap ρ₁ H → RelAll ρ₁ H vs l → Sim prog w h₀ A [] (call f (first ++ vs)) (k l σ₁) R ρ₁ { s with heap := H, toks := tk }) :
    Sim prog w h₀ A [] (callWith pos f first (backTo pos (starEach es env)) []) ((evs C es ns loc >>= k) σ) R ρ s := by
  cases h1 : evs C es ns loc σ with
  | bad => rw [bind_bad h1]; exact trivial
  | exc _ _ => rw [bind_exc h1]; exact trivial
  | ok l σ₁ =>
    have hst : ∀ e ∈ es, ∀ v p, e ≠ .Starred v p := fun e he v p heq => by
      obtain ⟨_, rfl, hn⟩ := evs_star (C := C) (ns := ns) (loc := loc) ⟨e, he, v, p, heq⟩ σ
      exact hn _ _ h1
    rw [bind_ok h1]
    cases h2 : k l σ₁ with
    | bad => exact trivial
    | exc _ _ => exact trivial
    | ok v σ₂ =>
      refine hcw _ _ hst ?_
      have := hes env ns loc σ ρ s A pos hA F i
      rw [h1] at this
      refine wpAny_mono this (fun vs s₁ hp => ?_) fun _ _ x => x.elim
      obtain ⟨ρ₁, H, tk, rfl, i₁, x₁, r₁⟩ := hp
      refine ⟨i₁.base, ?_⟩
      have := hk l σ₁ ρ₁ H tk vs i₁ x₁ r₁
      rw [h2] at this
      refine wpAny_mono this (fun b s' hp => ?_) fun _ _ x => x
      obtain ⟨ρ₂, H₂, tk₂, rfl, i₂, x₂, r₂⟩ := hp
      exact ⟨ρ₂, H₂, tk₂, rfl, i₂, x₁.trans x₂, r₂⟩
end

end Mine

namespace Mine
open PySem PyProof.Rows

theorem bb_len : bootBuiltins ("len" : Str) = some (.builtin "len") := by decide +kernel
theorem bb_list : bootBuiltins ("list" : Str) = some (.type "list") := by decide +kernel
theorem bb_tuple : bootBuiltins ("tuple" : Str) = some (.type "tuple") := by decide +kernel
theorem bb_sorted : bootBuiltins ("sorted" : Str) = some (.builtin "sorted") := by decide +kernel
theorem bb_dict : bootBuiltins ("dict" : Str) = some (.type "dict") := by decide +kernel
theorem bb_sum : bootBuiltins ("sum" : Str) = some (.builtin "sum") := by decide +kernel
theorem bb_all : bootBuiltins ("all" : Str) = some (.builtin "all") := by decide +kernel
theorem bb_isinstance : bootBuiltins ("isinstance" : Str) = some (.builtin "isinstance") := by decide +kernel
theorem bb_bool : bootBuiltins ("bool" : Str) = some (.type "bool") := by decide +kernel
theorem bb_int : bootBuiltins ("int" : Str) = some (.type "int") := by decide +kernel
theorem bb_str : bootBuiltins ("str" : Str) = some (.type "str") := by decide +kernel
theorem bb_range : bootBuiltins ("range" : Str) = some (.type "range") := by decide +kernel
theorem bb_enumerate : bootBuiltins ("enumerate" : Str) = some (.type "enumerate") := by decide +kernel

section
variable {prog : Program} {w : World} {h₀ : Heap} {A : Around} {W : List Addr} {ρ : Map} {s : Shared} {σ : Store} {fns : Str → Option Fn} {glob : Str → Option V} {mg mb : Str → Option Value}
variable {env : Env} {ns : Names} {loc : Loc} {C : Cfg} {n : Nat}

theorem evalArgs_any {f : Value} {es : List Expr} {pos : Pos} {Q : Args → Shared → Prop} {E : Value → Shared → Prop} (hst : ∀ e ∈ es, ∀ v p, e ≠ .Starred v p)
    (h : wpAny (model prog w) A (spliced (backTo pos (starEach es env))) (fun vs s' => Q ⟨vs, []⟩ s') E s) : wpAny (model prog w) A (evalArgs f true (backTo pos (starEach es env)) []) Q E s := by
  cases es with
  | nil =>
    unfold evalArgs
    show wpAny _ A (spliced [] >>= _) Q E s
    refine wpAny_bind (wpAny_mono h (fun vs s' h' => ?_) fun _ _ x => x)
    exact wpAny_bind (wpAny_pure (wpAny_holding (wpAny_bind (wpAny_pure (wpAny_bind (wpAny_pure (wpAny_pure h')))))))
  | cons e r =>
    rw [starEach_cons (hst e (by simp))] at h ⊢
    exact Calls.evalArgs_plain h

theorem cw_function {pos : Pos} {a : Addr} {o : Obj} {fd : FuncData} {first : List Value} {es : List Expr} {Q : Value → Shared → Prop} {E : Value → Shared → Prop} (ho : h₀.get? a = some o) (hd : o.data = .func fd) (hst : ∀ e ∈ es, ∀ v p, e ≠ .Starred v p)
    (h : wpAny (model prog w) A (spliced (backTo pos (starEach es env))) (fun vs s₁ => (∀ b o, h₀.get? b = some o → s₁.heap.get? b = some o) ∧ wpAny (model prog w) A (call (.ref a) (first ++ vs)) Q E s₁) E s) :
    wpAny (model prog w) A (callWith pos (.ref a) first (backTo pos (starEach es env)) []) Q E s :=
  Calls.callWith_function (o := o) (fd := fd) (evalArgs_any hst (wpAny_mono h (fun vs s₁ h₁ => ⟨⟨h₁.1 _ _ ho, hd⟩, h₁.2⟩) fun _ _ x => x))
theorem cw_builtin {pos : Pos} {id : String} {first : List Value} {es : List Expr} {Q : Value → Shared → Prop} {E : Value → Shared → Prop} (hst : ∀ e ∈ es, ∀ v p, e ≠ .Starred v p)
    (h : wpAny (model prog w) A (spliced (backTo pos (starEach es env))) (fun vs s₁ => (∀ b o, h₀.get? b = some o → s₁.heap.get? b = some o) ∧ wpAny (model prog w) A (call (.builtin id) (first ++ vs)) Q E s₁) E s) :
    wpAny (model prog w) A (callWith pos (.builtin id) first (backTo pos (starEach es env)) []) Q E s :=
  Calls.callWith_builtin (noStar hst).1 (evalArgs_any hst (wpAny_mono h (fun vs s₁ h₁ => h₁.2) fun _ _ x => x))
theorem cw_type {pos : Pos} {T : String} {first : List Value} {es : List Expr} {Q : Value → Shared → Prop} {E : Value → Shared → Prop} (hst : ∀ e ∈ es, ∀ v p, e ≠ .Starred v p)
    (h : wpAny (model prog w) A (spliced (backTo pos (starEach es env))) (fun vs s₁ => (∀ b o, h₀.get? b = some o → s₁.heap.get? b = some o) ∧ wpAny (model prog w) A (call (.type T) (first ++ vs)) Q E s₁) E s) :
    wpAny (model prog w) A (callWith pos (.type T) first (backTo pos (starEach es env)) []) Q E s :=
  PyProof.Rows.callWith_type (noStar hst).1 (evalArgs_any hst (wpAny_mono h (fun vs s₁ h₁ => h₁.2) fun _ _ x => x))

/-- a built-in's call, by what its name stands for -/
theorem Sim.blt {f : Str} {fv : Value} {vals : List Value} {vs : List V} (hN : h₀.NoLimit) (hh : A.handled = none) (hb : bootBuiltins f = some fv) (i : Inv prog w h₀ σ ρ s.heap) (r : RelAll ρ s.heap vals vs) :
    Sim prog w h₀ A W (call fv vals) (blt f vs σ) RV ρ s := by
  unfold Mine.blt
  split
  · cases r with
    | cons ra rn =>
    cases rn
    by_cases h0 : f = ("len" : Str)
    · rw [if_pos h0]; subst h0; rw [bb_len] at hb; cases hb; exact Sim.bLen i ra
    · rw [if_neg h0]
      · skip
        by_cases h2 : f = ("tuple" : Str)
        · rw [if_pos h2]; subst h2; rw [bb_tuple] at hb; cases hb; exact Sim.bTuple i ra
        · rw [if_neg h2]
          by_cases h3 : f = ("sorted" : Str)
          · rw [if_pos h3]; subst h3; rw [bb_sorted] at hb; cases hb; exact Sim.bSorted i ra
          · rw [if_neg h3]
            · skip
              by_cases h5 : f = ("sum" : Str)
              · rw [if_pos h5]; subst h5; rw [bb_sum] at hb; cases hb; exact Sim.bSum hh i ra
              · rw [if_neg h5]
                by_cases h6 : f = ("all" : Str)
                · rw [if_pos h6]; subst h6; rw [bb_all] at hb; cases hb; exact Sim.bAll hh i ra
                · rw [if_neg h6]
                  exact trivial
  · exact trivial

/-- the names that blt serves -/
theorem blt_name {f : Str} {vs : List V} {v : V} {σ' : Store} (h : blt f vs σ = .ok v σ') : f ∈ bltNames ∧ ((∃ id, bootBuiltins f = some (.builtin id)) ∨ ∃ T, bootBuiltins f = some (.type T)) := by
  unfold Mine.blt at h
  split at h
  · skip
    by_cases h0 : f = ("len" : Str)
    · subst h0; exact ⟨by decide +kernel, .inl ⟨_, bb_len⟩⟩
    · rw [if_neg h0] at h
      · skip
        by_cases h2 : f = ("tuple" : Str)
        · subst h2; exact ⟨by decide +kernel, .inr ⟨_, bb_tuple⟩⟩
        · rw [if_neg h2] at h
          by_cases h3 : f = ("sorted" : Str)
          · subst h3; exact ⟨by decide +kernel, .inl ⟨_, bb_sorted⟩⟩
          · rw [if_neg h3] at h
            · skip
              by_cases h5 : f = ("sum" : Str)
              · subst h5; exact ⟨by decide +kernel, .inl ⟨_, bb_sum⟩⟩
              · rw [if_neg h5] at h
                by_cases h6 : f = ("all" : Str)
                · subst h6; exact ⟨by decide +kernel, .inl ⟨_, bb_all⟩⟩
                · rw [if_neg h6] at h
                  cases h
  · cases h

theorem Sim.ite2 {α β : Type} {t : Sem β} {c : Prop} [Decidable c] {m k : M α} {R : α → Map → Heap → β → Prop} (h : c → Sim prog w h₀ A W t (m σ) R ρ s) (h' : ¬ c → Sim prog w h₀ A W t (k σ) R ρ s) : Sim prog w h₀ A W t ((if c then m else k) σ) R ρ s := by
  by_cases hc : c
  · rw [if_pos hc]; exact h hc
  · rw [if_neg hc]; exact h' hc

theorem Call_name (f : Str) (p pos : Pos) (es : List Expr) : eval (.Call (.Name f p) es [] pos) env = (eval (.Name f p) env >>= fun fv => callWith pos fv [] (backTo pos (starEach es env)) []) := rfl

/-- the value of a name is at hand, the state stays -/
theorem Sim.head {α β : Type} {t : Sem Value} {v : Value} {f : Value → Sem β} {r : Res α} {R : α → Map → Heap → β → Prop} (ht : ∀ (Q : Value → Shared → Prop) (E : Value → Shared → Prop), Q v s → wpAny (model prog w) A t Q E s)
    (h : Sim prog w h₀ A W (f v) r R ρ s) : Sim prog w h₀ A W (t >>= f) r R ρ s := by
  cases r with
  | bad => exact trivial
  | exc _ _ => exact trivial
  | ok a σ' => exact wpAny_bind (ht _ _ h)

theorem kd_names {t : Str} {k : Kd} (h : kdOf t = some k) : t ∈ bltNames ∧ bootBuiltins t = some (.type (kdName k)) := by
  unfold kdOf at h
  by_cases h1 : t = ("bool" : Str)
  · rw [if_pos h1] at h; cases h; subst h1; exact ⟨by decide +kernel, bb_bool⟩
  · rw [if_neg h1] at h
    by_cases h1 : t = ("int" : Str)
    · rw [if_pos h1] at h; cases h; subst h1; exact ⟨by decide +kernel, bb_int⟩
    · rw [if_neg h1] at h
      by_cases h1 : t = ("str" : Str)
      · rw [if_pos h1] at h; cases h; subst h1; exact ⟨by decide +kernel, bb_str⟩
      · rw [if_neg h1] at h
        by_cases h1 : t = ("tuple" : Str)
        · rw [if_pos h1] at h; cases h; subst h1; exact ⟨by decide +kernel, bb_tuple⟩
        · rw [if_neg h1] at h
          by_cases h1 : t = ("list" : Str)
          · rw [if_pos h1] at h; cases h; subst h1; exact ⟨by decide +kernel, bb_list⟩
          · rw [if_neg h1] at h; cases h

/-- no def of the text's own bears a built-in's name -/
noncomputable def NoShadow (fns : Str → Option Fn) : Prop := ∀ f ∈ bltNames, fns f = none

theorem ev_isinstance {f t : Str} {a : Expr} {p q pos : Pos} (B : Base fns glob mg mb h₀) (hns : NoShadow fns) (ha : EvS prog w h₀ C n a) (hA : Rm A n) (F : Frm env ns loc ρ s.heap) (i : Inv prog w h₀ σ ρ s.heap) (hf : isGlob ns f = true) (hfi : f = ("isinstance" : Str)) (ht : isGlob ns t = true) :
    Sim prog w h₀ A [] (eval (.Call (.Name f p) [a, .Name t q] [] pos) env) ((ev C a ns loc >>= fun v => ofOpt (kdOf t) >>= fun k => isKd k v) σ) RV ρ s := by
  rw [Call_name]
  subst hfi
  refine Sim.head (v := .builtin "isinstance") (fun Q E h => wp_builtin B F i hf (by decide +kernel) (hns _ (by decide +kernel)) bb_isinstance h) ?_
  by_cases hst : ∃ v p, a = .Starred v p
  · obtain ⟨v, p, rfl⟩ := hst
    rw [bind_bad rfl]; exact trivial
  · rw [starEach_cons (fun v p e' => hst ⟨v, p, e'⟩)]
    cases hk : kdOf t with
    | none =>
      cases h1 : ev C a ns loc σ with
      | bad => rw [bind_bad h1]; exact trivial
      | exc _ _ => rw [bind_exc h1]; exact trivial
      | ok v σ₁ => rw [bind_ok h1]; exact trivial
    | some k =>
      obtain ⟨hn, hb⟩ := kd_names hk
      cases h1 : ev C a ns loc σ with
      | bad => rw [bind_bad h1]; exact trivial
      | exc _ _ => rw [bind_exc h1]; exact trivial
      | ok v σ₁ =>
        rw [bind_ok h1]
        show Sim prog w h₀ A [] _ (isKd k v σ₁) RV ρ s
        cases h2 : isKd k v σ₁ with
        | bad => exact trivial
        | exc _ _ => exact trivial
        | ok u σ₂ =>
          refine Calls.callWith_builtin (by rfl) (Calls.evalArgs_plain (Calls.spliced_cons ?_))
          have := ha env ns loc σ ρ s A hA F i
          rw [h1] at this
          refine wpAny_mono this (fun val s₁ hp => ?_) fun _ _ x => x.elim
          obtain ⟨ρ₁, H, tk, rfl, i₁, x₁, r₁⟩ := hp
          show wpAny _ A (spliced [(false, eval (.Name t q) env)]) _ _ _
          refine Calls.spliced_cons (wp_builtin B (F.ext0 x₁) i₁ ht hn (hns _ hn) hb (Calls.spliced_nil ?_))
          have hs := Sim.isKd (prog := prog) (w := w) (A := A) (W := []) (s := { s with heap := H, toks := tk }) (k := k) i₁ r₁
          rw [h2] at hs
          refine wpAny_mono hs (fun b s' hp => ?_) fun _ _ x => x
          obtain ⟨ρ₂, H₂, tk₂, rfl, i₂, x₂, r₂⟩ := hp
          exact ⟨ρ₂, H₂, tk₂, rfl, i₂, x₁.trans x₂, r₂⟩

variable (prog w h₀ C n) in
noncomputable def IsiS (es : List Expr) : Prop := ∀ (f : Str) (p pos : Pos) (env : Env) (ns : Names) (loc : Loc) (σ : Store) (ρ : Map) (s : Shared) (A : Around), Rm A n → Frm env ns loc ρ s.heap → Inv prog w h₀ σ ρ s.heap → isGlob ns f = true → f = ("isinstance" : Str) →
  Sim prog w h₀ A [] (eval (.Call (.Name f p) es [] pos) env) (evIsi C es ns loc σ) RV ρ s
theorem ev_callName {f : Str} {es : List Expr} {p pos : Pos} (B : Base fns glob mg mb h₀) (hfn : ∀ f, C.isFn f = (fns f).isSome) (hC : CallS prog w h₀ mg C n) (hes : EvsS prog w h₀ C n es)
    (hisi : IsiS prog w h₀ C n es) : EvS prog w h₀ C n (.Call (.Name f p) es [] pos) := fun env ns loc σ ρ s A hA F i => by
  show Sim prog w h₀ A [] _ ((if isGlob ns f = true then
      (if f = ("isinstance" : Str) then evIsi C es ns loc
      else (evs C es ns loc >>= fun vs => callGlob C f vs)) else M.bad) σ) RV ρ s
  refine Sim.ite fun hf => Sim.ite2 (fun hi => hisi f p pos env ns loc σ ρ s A hA F i hf hi) fun hi => ?_
  · rw [Call_name]
    cases hfun : fns f with
    | some fn =>
      obtain ⟨a, o, fd, hm, ho, hd, hok, hcd⟩ := B.fn f fn hfun
      have hisf : C.isFn f = true := by rw [hfn, hfun]; rfl
      refine Sim.head (v := .ref a) (fun Q E h => wp_global B F i hf hm h) ?_
      refine Sim.args hes hA F i (fun Q E hst h => cw_function ho hd hst h) fun l σ₁ ρ₁ H tk vs i₁ x₁ r₁ => ?_
      show Sim prog w h₀ A [] _ ((if C.isFn f = true then C.call f l else blt f l) σ₁) RV ρ₁ _
      rw [if_pos hisf]
      exact hC f a l vs σ₁ ρ₁ _ A hA hisf hm r₁ i₁
    | none =>
      have hisf : C.isFn f = false := by rw [hfn, hfun]; rfl
      have e : callGlob C f = blt f := by funext l; unfold callGlob; rw [hisf]; rfl
      rw [e]
      cases h1 : evs C es ns loc σ with
      | bad => rw [bind_bad h1]; exact trivial
      | exc _ _ => rw [bind_exc h1]; exact trivial
      | ok l₀ σ₀ =>
        cases h2 : blt f l₀ σ₀ with
        | bad => rw [bind_ok h1, h2]; exact trivial
        | exc _ _ => rw [bind_ok h1, h2]; exact trivial
        | ok u σ₂ =>
          obtain ⟨hn, hb⟩ := blt_name h2
          rcases hb with ⟨id, hb⟩ | ⟨T, hb⟩
          · refine Sim.head (v := .builtin id) (fun Q E h => wp_builtin B F i hf hn hfun hb h) ?_
            exact Sim.args hes hA F i (fun Q E hst h => cw_builtin hst h) fun l σ₁ ρ₁ H tk vs i₁ x₁ r₁ => Sim.blt B.nolimit hA.handled hb i₁ r₁
          · refine Sim.head (v := .type T) (fun Q E h => wp_builtin B F i hf hn hfun hb h) ?_
            exact Sim.args hes hA F i (fun Q E hst h => cw_type hst h) fun l σ₁ ρ₁ H tk vs i₁ x₁ r₁ => Sim.blt B.nolimit hA.handled hb i₁ r₁
end

end Mine

namespace Mine
open PySem PyProof.Rows

section
variable {prog : Program} {w : World} {h₀ : Heap} {A : Around} {W : List Addr} {ρ : Map} {s : Shared} {σ : Store} {fns : Str → Option Fn} {glob : Str → Option V} {mg mb : Str → Option Value}
variable {env : Env} {ns : Names} {loc : Loc} {C : Cfg} {n : Nat}

theorem attributeBase_plain {o : Expr} {m : Str} {whole : Sem Value} (h : isSuper o = false) : attributeBase o m env whole = whole := by
  cases o with
  | Call f as ks p =>
    cases f <;> first | rfl | (cases as <;> first | rfl | (cases ks <;> first | rfl | cases h))
  | _ => rfl

noncomputable def MTag.T : MTag → String
  | .append => "list"
  | .join => "str"
  | .index => "list"
  | .setdefault => "dict"
noncomputable def MTag.name : MTag → Str
  | .append => "append"
  | .join => "join"
  | .index => "index"
  | .setdefault => "setdefault"
noncomputable def MTag.id : MTag → String
  | .append => "list.append"
  | .join => "str.join"
  | .index => "list.index"
  | .setdefault => "dict.setdefault"
theorem MTag.attrs (t : MTag) : PlainAttrs t.T := by
  cases t with
  | append => exact F.plainAttrs_list
  | join => exact F.plainAttrs_str
  | index => exact F.plainAttrs_list
  | setdefault => exact F.plainAttrs_dict
theorem MTag.slot (t : MTag) : Slot t.T t.name t.id := by
  cases t with
  | append => exact F.slot_list_append
  | join => exact F.slot_str_join
  | index => exact F.slot_list_index
  | setdefault => exact F.slot_dict_setdefault
theorem MTag.type (t : MTag) : typeOf (.builtin t.id) = pure (.type "method_descriptor") := by
  cases t with
  | append => exact F.type_list_append
  | join => exact F.type_str_join
  | index => exact F.type_list_index
  | setdefault => exact F.type_dict_setdefault

theorem mtag_is {v : Value} {x : V} {m : Str} {t : MTag} (i : Inv prog w h₀ σ ρ s.heap) (r : Rel ρ s.heap v x) (h : mtag x m σ = some t) : m = t.name ∧ s.TypeIs v t.T ∧ ∀ a, v = .ref a → ∃ o, s.heap.get? a = some o ∧ o.dict = none := by
  unfold mtag at h
  split at h
  · cases r with
    | str _ tk _ =>
    split at h
    · cases h; exact ⟨by assumption, typeIs_str s _ tk, fun _ e => nomatch e⟩
    · cases h
  · cases r with
    | ref er =>
    rename_i k a d
    cases e : σ[k]? with
    | none => rw [e] at h; cases h
    | some o =>
      rw [e] at h
      cases o with
      | list l =>
        obtain ⟨_, vs, j, g, hl, ra⟩ := i.list e er
        dsimp only at h
        split at h
        · cases h
          exact ⟨by assumption, (isList_of g).typeIs, fun b e => by cases e; exact ⟨_, g, rfl⟩⟩
        · split at h
          · cases h
            exact ⟨by assumption, (isList_of g).typeIs, fun b e => by cases e; exact ⟨_, g, rfl⟩⟩
          · cases h
      | dict l =>
        obtain ⟨_, _, kvs, hd, hl, ra⟩ := i.dict e er
        dsimp only at h
        split at h
        · cases h
          refine ⟨by assumption, hd.typeIs, fun b e => by cases e; exact (let ⟨o, _, _, g, hx, _⟩ := hd; ⟨o, g, hx.2.1⟩)⟩
        · cases h
      | inst _ _ => cases h
  · cases h

theorem Sim.runM {t : MTag} {v : Value} {x : V} {vals : List Value} {vs : List V} (hu : A.units + 201 < cLine) (i : Inv prog w h₀ σ ρ s.heap) (r : Rel ρ s.heap v x) (rs : RelAll ρ s.heap vals vs) : Sim prog w h₀ A W (call (.builtin t.id) (v :: vals)) (runM t x vs σ) RV ρ s := by
  cases rs with
  | nil => cases t <;> exact trivial
  | cons ra rn => cases rn with
    | nil => cases t with
      | append => exact Sim.mAppend i r ra
      | join => exact Sim.mJoin i r ra
      | index => exact Sim.mIndex hu i r ra
      | setdefault => exact trivial
    | cons rb rn => cases rn with
      | nil => cases t with
        | setdefault => exact Sim.mSetdefault i r ra rb
        | _ => exact trivial
      | cons _ _ => cases t <;> exact trivial

theorem ev_callMeth {o : Expr} {m : Str} {ap pos : Pos} {es : List Expr} (ho : EvS prog w h₀ C n o) (hes : EvsS prog w h₀ C n es) : EvS prog w h₀ C n (.Call (.Attribute o m ap) es [] pos) := fun env ns loc σ ρ s A hA F i => by
  show Sim prog w h₀ A [] _ ((if ap.endLine = pos.line ∧ es.length < 30 ∧ isSuper o = false then (ev C o ns loc >>= fun v => askS (mtag v m) >>= fun tg => evs C es ns loc >>= fun vs => runM tg v vs) else M.bad) σ) RV ρ s
  refine Sim.ite fun hc => ?_
  obtain ⟨h1, h2, h3⟩ := hc
  rw [arm_eval_Call, attributeBase_plain h3]
  refine Sim.bind (ho env ns loc σ ρ s A hA F i) fun a σ₁ ρ₁ H₁ tk₁ va i₁ x₁ r₁ => Sim.standAt ?_
  cases ht : mtag a m σ₁ with
  | none => rw [bind_bad (by unfold askS; rw [ht])]; exact trivial
  | some t =>
    rw [bind_ok (a := t) (σ' := σ₁) (by unfold askS; rw [ht])]
    obtain ⟨hm, hT, hd⟩ := mtag_is (s := { s with heap := H₁, toks := tk₁ }) i₁ r₁ ht
    subst hm
    cases h4 : evs C es ns loc σ₁ with
    | bad => rw [bind_bad h4]; exact trivial
    | exc _ _ => rw [bind_exc h4]; exact trivial
    | ok l σ₂ =>
      have hst : ∀ e ∈ es, ∀ v p, e ≠ .Starred v p := fun e he v p heq => by
        obtain ⟨_, rfl, hn⟩ := evs_star (C := C) (ns := ns) (loc := loc) ⟨e, he, v, p, heq⟩ σ₁
        exact hn _ _ h4
      have hform : methodCallForm (es.length + ([] : List Keyword).length) (backTo pos (starEach es env)) (backToKw pos (keywordEach [] env)) = true := by
        show ((backTo pos (starEach es env)).all (fun x => !x.1) && true && decide (es.length + 0 + 0 < 30)) = true
        rw [(noStar hst).2]; simpa using h2
      have hpos : methodCallPos true o env ap pos = pure pos := by
        unfold methodCallPos
        rw [if_pos (by simp [h1])]
      refine Sim.wrap (t := callWith pos (.builtin t.id) [va] (backTo pos (starEach es env)) []) (fun Q E h => ?_) ?_
      · unfold methodCall
        rw [hform]
        refine wpAny_bind (wpAny_holding (getMethod_builtin hT t.attrs t.slot t.type hd ?_))
        exact wpAny_bind (wpAny_of_eq hpos h)
      · exact Sim.args hes hA (F.ext0 x₁) i₁ (fun Q E hst h => cw_builtin hst h) fun l σ₁ ρ₁ H tk vs i₁ x₁ r => Sim.runM hA.u i₁ (r₁.ext x₁) r
end

end Mine

namespace Mine
open PySem PyProof.Rows

/-! ## walks -/
/-- all but some addresses stay -/
noncomputable def KeepBut (wr : List Addr) (h h' : Heap) : Prop := ∀ b o, b ∉ wr → h.get? b = some o → h'.get? b = some o

section
variable {prog : Program} {w : World} {h₀ hb : Heap} {A : Around} {W wr : List Addr} {ρ ρ' ρb : Map} {h h' : Heap} {s : Shared} {σ : Store}

theorem KeepBut.refl : KeepBut wr h h := fun _ _ _ e => e
theorem KeepBut.trans {h'' : Heap} (x : KeepBut wr h h') (y : KeepBut wr h' h'') : KeepBut wr h h'' := fun b o hb e => y b o hb (x b o hb e)
theorem KeepBut.of_but {a : Addr} (x : Heap.ExtBut a h h') (ha : a ∈ wr) : KeepBut wr h h' := fun b o hb e => x b o (fun eq => hb (eq ▸ ha)) e

theorem Ext.but (x : Ext W ρb hb ρ h) (hk : KeepBut wr h h') (hd : ∀ b ∈ wr, hb.get? b = none) : Ext W ρb hb ρ h' := by
  have out : ∀ b o, hb.get? b = some o → b ∉ wr := fun b o e hm => by rw [hd b hm] at e; cases e
  exact {
    pre := x.pre
    keep := fun b o e hW hρ => hk b o (out b o e) (x.keep b o e hW hρ)
    tups := fun b vs n e => hk b _ (out b _ e) (x.tups b vs n e)
    alive := fun b o e => let ⟨o', e'⟩ := x.alive b o e; ⟨o', hk b o' (out b o e) e'⟩
    new := x.new }

/-- the walker's own objects: off the store, and no tuples -/
noncomputable def Own (wr : List Addr) (ρ : Map) (h : Heap) : Prop := ∀ b ∈ wr, offMap ρ b ∧ ∃ o, h.get? b = some o ∧ ∀ vs n, o ≠ tupO vs n

theorem KeepBut.sub (hk : KeepBut wr h h') (ho : Own wr ρ h) : Sub ρ h ρ h' := ⟨fun _ _ e => e, fun b vs n e => hk b _ (fun hm => by
  obtain ⟨_, o, e', hn⟩ := ho b hm
  rw [e] at e'; cases e'; exact hn vs n rfl) e⟩

theorem Inv.but (i : Inv prog w h₀ σ ρ h) (hk : KeepBut wr h h') (ho : Own wr ρ h) (h0 : ∀ b ∈ wr, h₀.get? b = none) : Inv prog w h₀ σ ρ h' where
  base := fun b o e => hk b o (fun hm => by rw [h0 b hm] at e; cases e) (i.base b o e)
  len := i.len
  objs := fun n o p e1 e2 => (i.objs n o p e1 e2).sub (hk.sub ho) (fun ob g => hk _ _ (fun hm => ((ho _ hm).1 p (List.mem_of_getElem? e2)).1 rfl) g) (fun ob g => hk _ _ (fun hm => ((ho _ hm).1 p (List.mem_of_getElem? e2)).2 rfl) g)
  fresh := i.fresh
  apart := i.apart

/-- a frame off the walker's objects stays -/
theorem Frm.but {env : Env} {ns : Names} {loc : Loc} (F : Frm env ns loc ρ h) (hk : KeepBut wr h h') (ho : Own wr ρ h) (hf : ∀ b ∈ wr, offFrame env b) : Frm env ns loc ρ h' := by
  have hloc : env.locals ∉ wr := fun hm => (hf _ hm).1 rfl
  have hcell : ∀ x c, env.cells.lookup x = some c → c ∉ wr := fun x c e hm => (hf _ hm).2 x c e rfl
  have hs := hk.sub ho
  exact {
    names := F.names
    kind := F.kind
    globals := F.globals
    blts := F.blts
    vars := by
      obtain ⟨m, hn, hv⟩ := F.vars
      obtain ⟨o, es, ep, ho, r⟩ := hn
      refine ⟨m, ⟨o, es, ep, hk _ _ hloc ho, r⟩, fun y i v h1 h2 => ?_⟩
      obtain ⟨val, e, hr⟩ := hv y i v h1 h2
      exact ⟨val, e, hr.sub hs⟩
    cell := fun y i h1 => by
      obtain ⟨c, o, e, ⟨ob, hob, hd⟩, hv⟩ := F.cell y i h1
      refine ⟨c, o, e, ⟨ob, hk _ _ (hcell _ _ e) hob, hd⟩, fun v hl => ?_⟩
      obtain ⟨val, e', hr⟩ := hv v hl
      exact ⟨val, e', hr.sub hs⟩
    live := fun y c e => by
      obtain ⟨o, ob, hob, hd⟩ := F.live y c e
      exact ⟨o, ob, hk _ _ (hcell _ _ e) hob, hd⟩
    offL := F.offL
    offC := F.offC
    apart := F.apart }

/-- a walker at a turn -/
inductive ItAt : Src → Value → List Addr → Nat → Map → Heap → Prop
  | tup {l : List V} {I t : Addr} {vs : List Value} {n i : Nat} {ρ : Map} {h : Heap} : h.IsTupleIter I t i → h.get? t = some (tupO vs n) → RelAll ρ h vs l → offMap ρ I → ItAt (.vals l) (.ref I) [I] i ρ h
  | range {a b : Int} {I : Addr} {i : Nat} {ρ : Map} {h : Heap} : IsRangeIter h I (a + i) (((b - a).toNat : Int) - i) 1 → offMap ρ I → ItAt (.vals (rangeV a b)) (.ref I) [I] i ρ h
  | sign {T : String} {x : Str} {t : Tok} {I : Addr} {i : Nat} {ρ : Map} {h : Heap} : T = "str_ascii_iterator" ∨ T = "str_iterator" → h.IsStrIter I T x t i → SOk x → offMap ρ I → ItAt (.vals (chars x)) (.ref I) [I] i ρ h
  | lst {n : Nat} {I l d : Addr} {i : Nat} {ρ : Map} {h : Heap} : h.IsListIter I l i → ρ[n]? = some (l, d) → offMap ρ I → ItAt (.lst n) (.ref I) [I] i ρ h

theorem IsTupleIter.keep {I t : Addr} {i : Nat} (x : h.IsTupleIter I t i) (e : ∀ o, h.get? I = some o → h'.get? I = some o) : h'.IsTupleIter I t i := let ⟨o, ho, r⟩ := x; ⟨o, e _ ho, r⟩

theorem ItAt.own {sr : Src} {it : Value} {i : Nat} (x : ItAt sr it wr i ρ h) : Own wr ρ h := by
  cases x with
  | tup hit _ _ off =>
    obtain ⟨o, ho, hc, hd⟩ := hit
    intro b hb
    rw [List.mem_singleton.mp hb]
    exact ⟨off, o, ho, fun vs n e => by rw [e] at hc; exact absurd (Value.type.inj hc) (by decide)⟩
  | range hit off =>
    intro b hb
    rw [List.mem_singleton.mp hb]
    exact ⟨off, _, hit, fun vs n e => absurd (Value.type.inj (congrArg Obj.cls e)) (by decide)⟩
  | sign hT hit _ off =>
    obtain ⟨o, ho, hc, hd⟩ := hit
    intro b hb
    rw [List.mem_singleton.mp hb]
    exact ⟨off, o, ho, fun vs n e => by
      rw [e] at hc
      rcases hT with rfl | rfl <;> exact absurd (Value.type.inj hc) (by decide)⟩
  | lst hit _ off =>
    obtain ⟨o, ho, hc, hd⟩ := hit
    intro b hb
    rw [List.mem_singleton.mp hb]
    exact ⟨off, o, ho, fun vs n e => by rw [e] at hc; exact absurd (Value.type.inj hc) (by decide)⟩

theorem ItAt.ext {sr : Src} {it : Value} {i : Nat} (x : Ext W ρ h ρ' h') (hW : ∀ b ∈ wr, b ∉ W) (r : ItAt sr it wr i ρ h) : ItAt sr it wr i ρ' h' := by
  have ho := r.own
  have hk : ∀ b ∈ wr, ∀ o, h.get? b = some o → h'.get? b = some o := fun b hb o e => x.keep b o e (hW b hb) (ho b hb).1
  have hoff : ∀ b ∈ wr, offMap ρ' b := fun b hb => by
    obtain ⟨off, o, e, _⟩ := ho b hb
    exact offMap.ext x e off
  cases r with
  | tup hit g ra off => exact .tup (IsTupleIter.keep hit (hk _ (List.mem_singleton.mpr rfl))) (x.tups _ _ _ g) (ra.ext x) (hoff _ (List.mem_singleton.mpr rfl))
  | range hit off => exact .range (hk _ (List.mem_singleton.mpr rfl) _ hit) (hoff _ (List.mem_singleton.mpr rfl))
  | sign hT hit hx off => exact .sign hT (let ⟨o, ho, r⟩ := hit; ⟨o, hk _ (List.mem_singleton.mpr rfl) _ ho, r⟩) hx (hoff _ (List.mem_singleton.mpr rfl))
  | lst hit e off => exact .lst (hit.at (hk _ (List.mem_singleton.mpr rfl))) (x.pre _ _ e) (hoff _ (List.mem_singleton.mpr rfl))

theorem letGo_plain {target : Expr} {I : Addr} {v : Value} {o : Obj} {T : String} {Q : Unit → Shared → Prop} {E : Value → Shared → Prop} (ho : s.heap.get? I = some o) (hc : o.cls = .type T)
    (hT : ["enumerate", "zip", "dict_itemiterator", "dict_reverseitemiterator", "odict_iterator", "itertools.zip_longest", "itertools.pairwise"].contains T = false) (h : Q () s) : wpAny (model prog w) A (letOwnedTupleGo target (.ref I) v) Q E s := by
  have key : ∀ f : Expr, (letOwnedTupleGo f (.ref I) v = Pure.pure () ∨ letOwnedTupleGo f (.ref I) v = (match v with
      | .ref a => (load I >>= fun o => match o.cls, o.data with
        | .type n, .fields vs => if (["enumerate", "zip", "dict_itemiterator", "dict_reverseitemiterator", "odict_iterator", "itertools.zip_longest", "itertools.pairwise"].contains n && vs[0]? == some (rawInt a)) = true then
            (rule "for.unpacks-the-owned-tuple" >>= fun _ => updateField I 0 .none) else Pure.pure ()
        | _, _ => Pure.pure ())
      | _ => Pure.pure ())) := by
    intro f
    cases f <;> first | exact .inl rfl | (right; cases v <;> rfl)
  rcases key target with e | e
  · rw [e]; exact wpAny_pure h
  · rw [e]
    cases v with
    | ref a =>
      refine wpAny_bind (wpAny_load ho ?_)
      rw [hc]
      cases o.data with
      | fields vs =>
        show wpAny _ _ (if (["enumerate", "zip", "dict_itemiterator", "dict_reverseitemiterator", "odict_iterator", "itertools.zip_longest", "itertools.pairwise"].contains T && _) = true then _ else _) _ _ _
        rw [hT]
        exact wpAny_pure h
      | _ => exact wpAny_pure h
    | _ => exact wpAny_pure h

theorem rangeV_get (a b : Int) (i : Nat) : (rangeV a b)[i]? = if i < (b - a).toNat then some (.int (a + i)) else none := by
  unfold rangeV
  rw [List.getElem?_map]
  by_cases h : i < (b - a).toNat
  · rw [if_pos h, List.getElem?_range h]; rfl
  · rw [if_neg h, List.getElem?_eq_none (by simpa using h)]; rfl

theorem listAt_some {n : Nat} {o : Option (Option V)} {f : List V → Option V} {r : Option V} (h : (listAt σ n).map f = some r) : ∃ l, σ[n]? = some (.list l) ∧ f l = r := by
  unfold listAt at h
  cases e : σ[n]? with
  | none => rw [e] at h; cases h
  | some ob =>
    rw [e] at h
    cases ob with
    | list l => exact ⟨l, rfl, Option.some.inj h⟩
    | dict _ => cases h
    | inst _ _ => cases h

/-- a turn of a walk -/
theorem ItAt.next {sr : Src} {it : Value} {i : Nat} {o : Option V} {target : Expr} {Q : Option Value → Shared → Prop} {E : Value → Shared → Prop} (hA : A.handled = none) (x : ItAt sr it wr i ρ s.heap) (iv : Inv prog w h₀ σ ρ s.heap) (e : sr.at σ i = some o)
    (htg : tgtOk sr target = true)
    (h1 : ∀ h', o = none → KeepBut wr s.heap h' → Q none { s with heap := h' })
    (h2 : ∀ v val h' tk, o = some v → KeepBut wr s.heap h' →
      (∀ (Q' : Unit → Shared → Prop) (E' : Value → Shared → Prop), (∀ h'', KeepBut wr s.heap h'' → Rel ρ h'' val v → ItAt sr it wr (i + 1) ρ h'' → Q' () { s with heap := h'', toks := tk }) →
        wpAny (model prog w) A (letOwnedTupleGo target it val) Q' E' { s with heap := h', toks := tk }) → Q (some val) { s with heap := h', toks := tk }) :
    wpAny (model prog w) A (pyNext it) Q E s := by
  have own := x.own
  cases x with
  | @tup l I t vs n _ _ _ hit g ra off =>
    cases e
    have hne : t ≠ I := fun eq => by
      obtain ⟨o, ho, hc, _⟩ := hit
      rw [← eq, g] at ho; cases ho; exact absurd (Value.type.inj hc) (by decide)
    cases hl : l[i]? with
    | none =>
      exact wpAny_pyNext_tuple_end hA hit (isTuple_of g) (by simpa using ra.get_none hl) fun h' hx => h1 h' hl (KeepBut.of_but hx (List.mem_singleton.mpr rfl))
    | some v =>
      obtain ⟨val, hv, r⟩ := ra.get hl
      refine wpAny_pyNext_tuple_item hit (isTuple_of g) (x := val) (by simpa using hv) fun h' hit' hx => ?_
      have hk := KeepBut.of_but (wr := [I]) hx.extBut (List.mem_singleton.mpr rfl)
      have hs := hk.sub own
      refine h2 v val h' s.toks hl hk fun Q' E' hq => ?_
      obtain ⟨ob, hob, hc, _⟩ := id hit'
      exact letGo_plain (s := { s with heap := h' }) hob hc (by decide) (hq h' hk (r.sub hs) (.tup hit' (hs.2 _ _ _ g) (ra.sub hs) off))
  | @range a b I _ _ _ hit off =>
    cases e
    rw [rangeV_get] at h1 h2
    by_cases hlt : i < (b - a).toNat
    · rw [if_pos hlt] at h2
      refine wpAny_pyNext_range_item hit (by (first | lia | omega)) fun h' hit' hx => ?_
      have hk := KeepBut.of_but (wr := [I]) hx.extBut (List.mem_singleton.mpr rfl)
      refine h2 _ _ h' (s.toks + 1) rfl hk fun Q' E' hq => ?_
      refine letGo_plain (s := { s with heap := h', toks := s.toks + 1 }) hit' rfl (by decide) (hq h' hk (.int _ _) (.range ?_ off))
      have e1 : a + (i : Int) + 1 = a + ((i + 1 : Nat) : Int) := by (first | lia | omega)
      have e2 : ((b - a).toNat : Int) - (i : Int) - 1 = ((b - a).toNat : Int) - ((i + 1 : Nat) : Int) := by (first | lia | omega)
      rw [e1, e2] at hit'; exact hit'
    · rw [if_neg hlt] at h1
      exact wpAny_pyNext_range_end hA hit (by (first | lia | omega)) fun h' hx => h1 h' rfl (KeepBut.of_but hx (List.mem_singleton.mpr rfl))
  | @sign T y t I _ _ _ hT hit hy off =>
    cases e
    have hch : (chars y)[i]? = (y.cps[i]?).map fun c => V.str (chr1 c) := by
      unfold chars
      rw [List.getElem?_map, Array.getElem?_toList]
    rw [hch] at h1 h2
    cases hc : y.cps[i]? with
    | none =>
      rw [hc] at h1
      rcases hT with rfl | rfl
      · exact wpAny_pyNext_ascii_end hA hit hc fun h' hx => h1 h' rfl (KeepBut.of_but hx (List.mem_singleton.mpr rfl))
      · exact wpAny_pyNext_wide_end hA hit hc fun h' hx => h1 h' rfl (KeepBut.of_but hx (List.mem_singleton.mpr rfl))
    | some c =>
      rw [hc] at h2
      have hck : SOk (chr1 c) := by
        refine ⟨show 1 ≤ sizeLine by decide, ?_⟩
        have h4 := hy.2
        unfold PyData.strOk at h4 ⊢
        rw [Array.all_eq_true] at h4
        have hlt : i < y.cps.size := by
          rcases Nat.lt_or_ge i y.cps.size with h | h
          · exact h
          · rw [Array.getElem?_eq_none h] at hc; cases hc
        have := h4 i hlt
        rw [Array.getElem?_eq_getElem hlt] at hc
        cases hc
        simpa [chr1] using this
      have go : ∀ h', h'.IsStrIter I T y t (i + 1) → Heap.SameBut I s.heap h' → Q (some (.str ⟨#[c]⟩ s.toks)) { s with heap := h', toks := s.toks + 1 } := fun h' hit' hx => by
        have hk := KeepBut.of_but (wr := [I]) hx.extBut (List.mem_singleton.mpr rfl)
        refine h2 _ _ h' (s.toks + 1) rfl hk fun Q' E' hq => ?_
        obtain ⟨ob, hob, hcl, _⟩ := id hit'
        exact letGo_plain (s := { s with heap := h', toks := s.toks + 1 }) hob hcl (by rcases hT with rfl | rfl <;> decide) (hq h' hk (.str _ _ hck) (.sign hT hit' hy off))
      rcases hT with rfl | rfl
      · exact wpAny_pyNext_ascii_item hit hc go
      · exact wpAny_pyNext_wide_item hit hc go
  | @lst n I l d _ _ _ hit er off =>
    obtain ⟨m, hσ, rfl⟩ := listAt_some (o := some o) e
    obtain ⟨rfl, vs, k, g, hl, ra⟩ := iv.list hσ er
    cases hm : m[i]? with
    | none =>
      exact wpAny_pyNext_list_end hA hit (isList_of g) (by simpa using ra.get_none hm) fun h' hx => h1 h' hm (KeepBut.of_but hx (List.mem_singleton.mpr rfl))
    | some v =>
      obtain ⟨val, hv, r⟩ := ra.get hm
      refine wpAny_pyNext_list_item hit (isList_of g) (x := val) (by simpa using hv) fun h' hit' hx => ?_
      have hk := KeepBut.of_but (wr := [I]) hx.extBut (List.mem_singleton.mpr rfl)
      have hs := hk.sub own
      refine h2 v val h' s.toks hm hk fun Q' E' hq => ?_
      obtain ⟨ob, hob, hc, _⟩ := id hit'
      exact letGo_plain (s := { s with heap := h' }) hob hc (by decide) (hq h' hk (r.sub hs) (.lst hit' er off))


/-! what is walked, ahead of its walker -/
noncomputable def RSrc (hb : Heap) : Src → Map → Heap → Value → Prop
  | .vals l, ρ, h, v => (∃ t vs n, v = .ref t ∧ h.get? t = some (tupO vs n) ∧ RelAll ρ h vs l) ∨
      (∃ x t, v = .str x t ∧ SOk x ∧ l = chars x) ∨
      ∃ r a b t u w, v = .ref r ∧ IsRange h r a b 1 t u w ∧ Builtin.Range.small a b 1 = true ∧ l = rangeV a b
  | .lst n, ρ, h, v => ∃ a d vs k, v = .ref a ∧ ρ[n]? = some (a, d) ∧ h.get? a = some (listO vs k)


theorem size_dead {h h' : Heap} (hk : ∀ b o, h.get? b = some o → ∃ o', h'.get? b = some o') : h.get? h'.objs.size = none := by
  cases e : h.get? h'.objs.size with
  | none => rfl
  | some o => obtain ⟨o', e'⟩ := hk _ _ e; exact absurd (Heap.lt_size e') (Nat.lt_irrefl _)

/-- a walk begins -/
theorem RSrc.iter {sr : Src} {v : Value} {Q : Value → Shared → Prop} {E : Value → Shared → Prop} (iv : Inv prog w h₀ σ ρ s.heap) (x : Ext W ρb hb ρ s.heap) (r : RSrc hb sr ρ s.heap v)
    (h : ∀ it wr h', (∀ b o, s.heap.get? b = some o → h'.get? b = some o) → ItAt sr it wr 0 ρ h' → (∀ b ∈ wr, hb.get? b = none) → Q it { s with heap := h' }) : wpAny (model prog w) A (pyIter v) Q E s := by
  have hd := size_dead x.alive
  have off := iv.off_size
  have hnew : ∀ ob b o, s.heap.get? b = some o → (s.heap.push ob).get? b = some o := fun ob b o e => Heap.get?_push_of_some _ e
  cases sr with
  | vals l =>
    rcases r with ⟨t, vs, n, rfl, g, ra⟩ | ⟨y, t, rfl, hy, rfl⟩ | ⟨r, a, b, t, u, w, rfl, hr, hsm, rfl⟩
    · refine wpAny_pyIter_tuple (isTuple_of g) (h _ [s.heap.objs.size] _ (hnew _) (.tup ⟨_, Heap.get?_push_size _ rfl, rfl, rfl⟩ (hnew _ _ _ g) (ra.sub (Sub.keeps (hnew _))) off) fun b hb => by rw [List.mem_singleton.mp hb]; exact hd)
    · cases ha : y.cps.all (· < 128) with
      | true => exact wpAny_pyIter_ascii ha (h _ [s.heap.objs.size] _ (hnew _) (.sign (.inl rfl) ⟨_, Heap.get?_push_size _ rfl, rfl, rfl⟩ hy off) fun b hb => by rw [List.mem_singleton.mp hb]; exact hd)
      | false => exact wpAny_pyIter_wide ha (h _ [s.heap.objs.size] _ (hnew _) (.sign (.inr rfl) ⟨_, Heap.get?_push_size _ rfl, rfl, rfl⟩ hy off) fun b hb => by rw [List.mem_singleton.mp hb]; exact hd)
    · refine wpAny_pyIter_range hr hsm (h _ [s.heap.objs.size] _ (hnew _) (.range ?_ off) fun b hb => by rw [List.mem_singleton.mp hb]; exact hd)
      have e : Builtin.Range.rangeSize a b 1 = ((b - a).toNat : Int) - ((0 : Nat) : Int) := by rw [rangeSize_one]; split <;> (first | lia | omega)
      have e2 : a + ((0 : Nat) : Int) = a := by (first | lia | omega)
      rw [← e, e2]
      exact Heap.get?_push_size _ rfl
  | lst n =>
    obtain ⟨a, d, vs, k, rfl, er, g⟩ := r
    exact wpAny_pyIter_list (isList_of g) (h _ [s.heap.objs.size] _ (hnew _) (.lst ⟨_, Heap.get?_push_size _ rfl, rfl, rfl⟩ er off) fun b hb => by rw [List.mem_singleton.mp hb]; exact hd)


/-- a walker is its own walker -/
theorem ItAt.self {sr : Src} {it : Value} {i : Nat} {Q : Value → Shared → Prop} {E : Value → Shared → Prop} (x : ItAt sr it wr i ρ s.heap) (h : Q it s) : wpAny (model prog w) A (pyIter it) Q E s := by
  cases x with
  | tup hit _ _ _ => exact wpAny_pyIter_tupleiter hit h
  | range hit _ => exact wpAny_pyIter_rangeiter hit h
  | sign hT hit _ _ =>
    rcases hT with rfl | rfl
    · exact wpAny_pyIter_striter_ascii hit h
    · exact wpAny_pyIter_striter_wide hit h
  | lst hit _ _ => exact wpAny_pyIter_listiter hit h
end
end Mine

namespace Mine
open PySem PyProof.Rows

section
variable {prog : Program} {w : World} {h₀ hb : Heap} {A : Around} {W wr : List Addr} {ρ ρ' ρb : Map} {s : Shared} {σ : Store} {fns : Str → Option Fn} {glob : Str → Option V} {mg mb : Str → Option Value}
variable {env : Env} {ns : Names} {loc : Loc} {C : Cfg} {n : Nat}

noncomputable def RFrm (env : Env) (ns : Names) : Loc → Map → Heap → Unit → Prop := fun loc ρ h _ => Frm env ns loc ρ h

theorem get_set_some {α : Type} {l : List α} {i j : Nat} {a b : α} (h : (l.set i a)[j]? = some b) : (i = j ∧ b = a) ∨ (i ≠ j ∧ l[j]? = some b) := by
  by_cases hij : i = j
  · subst hij
    left
    rcases Nat.lt_or_ge i l.length with hl | hl
    · rw [List.getElem?_set_self hl] at h; cases h; exact ⟨rfl, rfl⟩
    · rw [List.getElem?_eq_none (by simpa using hl)] at h; cases h
  · rw [List.getElem?_set_ne hij] at h; exact .inr ⟨hij, h⟩

theorem ns_not_tup {h : Heap} {a : Addr} {m : Str → Option Value} (hn : h.Ns a m) {o : Obj} (e : h.get? a = some o) : ∀ vs n, o ≠ tupO vs n := by
  obtain ⟨o', es, ep, ho, hd, r⟩ := hn
  rw [e] at ho; cases ho
  intro vs n e; rw [e] at hd; cases hd
theorem cell_not_tup {h : Heap} {a : Addr} {v : Option Value} (hn : h.IsCell a v) {o : Obj} (e : h.get? a = some o) : ∀ vs n, o ≠ tupO vs n := by
  obtain ⟨o', ho, hd⟩ := hn
  rw [e] at ho; cases ho
  intro vs n e; rw [e] at hd; cases hd

theorem function_not_class (F : Frm env ns loc ρ s.heap) : (env.scope.kind == .class || (env.scope.kind == .module && env.locals != env.globals)) = false := by rw [F.kind]; rfl

/-- a plain local is stored -/
theorem Sim.storeLocal {x : Str} {i : Nat} {v : Value} {a : V} (F : Frm env ns loc ρ s.heap) (iv : Inv prog w h₀ σ ρ s.heap) (hf : h₀.get? env.locals = none) (hs : slot ns x = some (i, .local)) (r : Rel ρ s.heap v a) :
    Sim prog w h₀ A [env.locals] (storeName env x v) (.ok (loc.set i (some a)) σ) (RFrm env ns) ρ s := by
  obtain ⟨m, hn, hv⟩ := F.vars
  refine wpAny_storeName_local (F.kindOf hs) hn (fun h' hn' hsb => ?_) (function_not_class F)
  have hk : ∀ b o, s.heap.get? b = some o → b ∉ [env.locals] → h'.get? b = some o := fun b o e hb => hsb.extBut b o (fun eq => hb (List.mem_singleton.mpr eq)) e
  have hx : Ext [env.locals] ρ s.heap ρ h' := Ext.of_keep hk fun b o e hm => by
    rw [List.mem_singleton.mp hm] at e ⊢
    obtain ⟨o', _, _, e', _⟩ := hn'
    exact ⟨ns_not_tup hn e, o', e'⟩
  refine ⟨ρ, h', s.toks + 1, rfl, iv.keep hx (fun b hm => by rw [List.mem_singleton.mp hm]; exact ⟨F.offL, hf⟩) hk, hx, ?_⟩
  exact {
    names := F.names
    kind := F.kind
    globals := F.globals
    blts := F.blts
    vars := by
      refine ⟨_, hn', fun y j u h1 h2 => ?_⟩
      rcases get_set_some h2 with ⟨rfl, e⟩ | ⟨hne, h2⟩
      · cases e
        rw [slot_inj h1 hs]
        exact ⟨v, if_pos rfl, r.ext hx⟩
      · obtain ⟨val, e, hr⟩ := hv y j u h1 h2
        refine ⟨val, ?_, hr.ext hx⟩
        rw [if_neg (fun eq => by rw [eq, hs] at h1; cases h1; exact hne rfl)]; exact e
    cell := fun y j h1 => by
      obtain ⟨c, o, e, ⟨ob, hob, hd⟩, hv⟩ := F.cell y j h1
      refine ⟨c, o, e, ⟨ob, hk _ _ hob (fun hm => (F.offC y c e).1 (List.mem_singleton.mp hm)), hd⟩, fun u h2 => ?_⟩
      rcases get_set_some h2 with ⟨rfl, _⟩ | ⟨hne, h2⟩
      · rw [slot_inj h1 hs, hs] at h1; cases h1
      · obtain ⟨val, e', hr⟩ := hv u h2
        exact ⟨val, e', hr.ext hx⟩
    live := fun y c e => by
      obtain ⟨o, ob, hob, hd⟩ := F.live y c e
      exact ⟨o, ob, hk _ _ hob (fun hm => (F.offC y c e).1 (List.mem_singleton.mp hm)), hd⟩
    offL := F.offL
    offC := F.offC
    apart := F.apart }

/-- a cell is stored -/
theorem Sim.storeCell {x : Str} {i : Nat} {v : Value} {a : V} (F : Frm env ns loc ρ s.heap) (iv : Inv prog w h₀ σ ρ s.heap) (hf : ∀ b ∈ frameW env, h₀.get? b = none) (hs : slot ns x = some (i, .cell)) (r : Rel ρ s.heap v a) :
    Sim prog w h₀ A (frameW env) (storeName env x v) (.ok (loc.set i (some a)) σ) (RFrm env ns) ρ s := by
  obtain ⟨c, o₀, hc, hcell, hv₀⟩ := F.cell x i hs
  have hcW : c ∈ frameW env := frameW_cell (k := .cell) (by rw [F.names]; exact mem_of_lookup (slot_lookup hs)) hc
  refine wpAny_storeName_cell F.kind (F.kindOf hs) hc hcell fun h' hn' hsb => ?_
  have hk : ∀ b o, s.heap.get? b = some o → b ∉ [c] → h'.get? b = some o := fun b o e hb => hsb.extBut b o (fun eq => hb (List.mem_singleton.mpr eq)) e
  have hx : Ext [c] ρ s.heap ρ h' := Ext.of_keep hk fun b o e hm => by
    rw [List.mem_singleton.mp hm] at e ⊢
    obtain ⟨o', e', _⟩ := hn'
    exact ⟨cell_not_tup hcell e, o', e'⟩
  refine ⟨ρ, h', s.toks, rfl, iv.keep hx (fun b hm => by rw [List.mem_singleton.mp hm]; exact ⟨(F.offC x c hc).2, hf c hcW⟩) hk, hx.weak fun b hm => .inl (by rw [List.mem_singleton.mp hm]; exact hcW), ?_⟩
  exact {
    names := F.names
    kind := F.kind
    globals := F.globals
    blts := F.blts
    vars := by
      obtain ⟨m, ⟨o, es, ep, ho, rr⟩, hv⟩ := F.vars
      refine ⟨m, ⟨o, es, ep, hk _ _ ho (fun hm => (F.offC x c hc).1 (List.mem_singleton.mp hm).symm), rr⟩, fun y j u h1 h2 => ?_⟩
      rcases get_set_some h2 with ⟨rfl, _⟩ | ⟨hne, h2⟩
      · rw [slot_inj h1 hs, hs] at h1; cases h1
      · obtain ⟨val, e, hr⟩ := hv y j u h1 h2
        exact ⟨val, e, hr.ext hx⟩
    cell := fun y j h1 => by
      obtain ⟨d, o, e, ⟨ob, hob, hd⟩, hv⟩ := F.cell y j h1
      by_cases hdc : d = c
      · subst hdc
        have hyx := F.apart y x d e hc
        subst hyx
        rw [hs] at h1; cases h1
        refine ⟨d, some v, e, hn', fun u h2 => ?_⟩
        rcases get_set_some h2 with ⟨_, e⟩ | ⟨hne, h2⟩
        · cases e; exact ⟨v, rfl, r.ext hx⟩
        · exact absurd rfl hne
      · refine ⟨d, o, e, ⟨ob, hk _ _ hob (fun hm => hdc (List.mem_singleton.mp hm)), hd⟩, fun u h2 => ?_⟩
        rcases get_set_some h2 with ⟨rfl, _⟩ | ⟨hne, h2⟩
        · rw [slot_inj h1 hs, hc] at e; cases e; exact absurd rfl hdc
        · obtain ⟨val, e', hr⟩ := hv u h2
          exact ⟨val, e', hr.ext hx⟩
    live := fun y d e => by
      obtain ⟨o, ob, hob, hd⟩ := F.live y d e
      by_cases hdc : d = c
      · subst hdc; exact ⟨_, hn'⟩
      · exact ⟨o, ob, hk _ _ hob (fun hm => hdc (List.mem_singleton.mp hm)), hd⟩
    offL := F.offL
    offC := F.offC
    apart := F.apart }

/-- a way to store a name -/
structure StS (prog : Program) (w : World) (h₀ : Heap) (env : Env) (ns : Names) (W : List Addr) (st : Str → V → Loc → M Loc) : Prop where
  store : ∀ (x : Str) (v : Value) (a : V) (loc : Loc) (σ : Store) (ρ : Map) (s : Shared) (A : Around), Frm env ns loc ρ s.heap → Inv prog w h₀ σ ρ s.heap → Rel ρ s.heap v a → Sim prog w h₀ A W (storeName env x v) (st x a loc σ) (RFrm env ns) ρ s

theorem stLocL_ok (hf : h₀.get? env.locals = none) : StS prog w h₀ env ns [env.locals] (stLocL ns) where
  store := fun x v a loc σ ρ s A F iv r => by
    unfold stLocL
    cases hs : slot ns x with
    | none => exact trivial
    | some p =>
      obtain ⟨i, k⟩ := p
      cases k <;> first | exact trivial | exact Sim.storeLocal F iv hf hs r
theorem stLoc_ok (hf : ∀ b ∈ frameW env, h₀.get? b = none) : StS prog w h₀ env ns (frameW env) (stLoc ns) where
  store := fun x v a loc σ ρ s A F iv r => by
    unfold stLoc
    cases hs : slot ns x with
    | none => exact trivial
    | some p =>
      obtain ⟨i, k⟩ := p
      cases k <;> first
        | exact trivial
        | exact Sim.storeCell F iv hf hs r
        | exact (Sim.storeLocal F iv (hf _ (List.mem_cons_self ..)) hs r).weak fun b hm => .inl (by rw [List.mem_singleton.mp hm]; exact List.mem_cons_self ..)

theorem Sim.bindName {x : Str} {v : Value} {r : Res Loc} {R : Loc → Map → Heap → Unit → Prop} (h : Sim prog w h₀ A W (storeName env x v) r R ρ s) : Sim prog w h₀ A W (PySem.bindName env x v) r R ρ s :=
  Sim.wrap (fun _ _ => wpAny_bindName) h

theorem assignEach_name {x : Str} {p : Pos} {r : List Expr} : assignEach (.Name x p :: r) env = (false, assign (.Name x p) env) :: assignEach r env := rfl

/-- names in a row -/
theorem bindNames_ok {st : Str → V → Loc → M Loc} (S : StS prog w h₀ env ns W st) : ∀ (ts : List Expr) (vs : List Value) (l : List V) (loc : Loc) (σ : Store) (ρ : Map) (s : Shared), Frm env ns loc ρ s.heap → Inv prog w h₀ σ ρ s.heap → RelAll ρ s.heap vs l →
    Sim prog w h₀ A W (assignInOrder ((assignEach ts env).map (·.2)) vs) (bindNames st ts l loc σ) (RFrm env ns) ρ s
  | [], vs, l, loc, σ, ρ, s, F, iv, r => by
    cases l with
    | nil => cases r; exact Sim.ret iv F
    | cons a l => exact trivial
  | t :: ts, vs, l, loc, σ, ρ, s, F, iv, r => by
    cases t with
    | Name x p =>
      cases r with
      | nil => exact trivial
      | cons r rs =>
        rename_i v vs a l
        rw [assignEach_name]
        show Sim prog w h₀ A W (PySem.holding vs (assign (.Name x p) env v) >>= fun _ => assignInOrder ((assignEach ts env).map (·.2)) vs) ((st x a loc >>= fun loc' => bindNames st ts l loc') σ) (RFrm env ns) ρ s
        refine Sim.bind (R := RFrm env ns) (Sim.holding ?_) fun loc₁ σ₁ ρ₁ H tk _ i₁ x₁ F₁ => bindNames_ok S ts vs l loc₁ σ₁ ρ₁ _ F₁ i₁ (rs.ext x₁)
        rw [arm_assign_Name]
        exact Sim.standAt (Sim.bindName (S.store x v a loc σ ρ s A F iv r))
    | _ => cases l <;> exact trivial

theorem bindNames_len {st : Str → V → Loc → M Loc} : ∀ {ts : List Expr} {l : List V} {loc loc' : Loc} {σ σ' : Store}, bindNames st ts l loc σ = .ok loc' σ' → ts.length = l.length ∧ (assignEach ts env).findIdx? (·.1) = none ∧ (assignEach ts env).length = ts.length
  | [], [], _, _, _, _, _ => ⟨rfl, rfl, rfl⟩
  | [], _ :: _, _, _, _, _, h => by cases h
  | .Name x p :: ts, v :: vs, loc, loc', σ, σ', h => by
    change (st x v loc >>= fun loc' => bindNames st ts vs loc') σ = .ok loc' σ' at h
    cases e : st x v loc σ with
    | bad => rw [bind_bad e] at h; cases h
    | exc _ _ => rw [bind_exc e] at h; cases h
    | ok l₁ σ₁ =>
      rw [bind_ok e] at h
      obtain ⟨h1, h2, h3⟩ := bindNames_len h
      refine ⟨by simp [h1], ?_, ?_⟩
      · rw [assignEach_name, List.findIdx?_cons, h2]; rfl
      · rw [assignEach_name]; simp [h3]
  | t :: ts, [], _, _, _, _, h => by cases t <;> cases h

/-- a target is bound -/
theorem Sim.bindTo {st : Str → V → Loc → M Loc} (S : StS prog w h₀ env ns W st) {t : Expr} {v : Value} {a : V} (hA : A.handled = none) (F : Frm env ns loc ρ s.heap) (iv : Inv prog w h₀ σ ρ s.heap) (r : Rel ρ s.heap v a) :
    Sim prog w h₀ A W (assign t env v) (bindTo st t a loc σ) (RFrm env ns) ρ s := by
  cases t with
  | Name x p =>
    rw [arm_assign_Name]
    exact Sim.standAt (Sim.bindName (S.store x v a loc σ ρ s A F iv r))
  | Tuple ts k p =>
    cases r with
    | tup g hl ra =>
      rename_i ta vs nn l
      show Sim prog w h₀ A W _ (bindNames st ts l loc σ) (RFrm env ns) ρ s
      rw [arm_assign_Tuple]
      refine Sim.standAt ?_
      cases hb : bindNames st ts l loc σ with
      | bad => exact trivial
      | exc _ _ => exact trivial
      | ok loc₁ σ₁ =>
        obtain ⟨h1, h2, h3⟩ := bindNames_len (env := env) hb
        have hlen : (assignEach ts env).length = vs.toArray.size := by rw [h3, h1, List.size_toArray, ra.length]
        unfold unpack
        refine wpAny_bind (wpAny_holding ?_)
        rw [h2, hlen]
        refine wpAny_unpackItems_tuple hA (isTuple_of g) fun h' hx => ?_
        have hk : ∀ b o, s.heap.get? b = some o → h'.get? b = some o := fun b o e => hx b o (Nat.ne_of_lt (Heap.lt_size e)) e
        have hs := bindNames_ok (A := A) S ts vs l loc σ ρ { s with heap := h' } (F.ext0 (Ext.of_keeps hk)) (iv.keeps hk) (ra.sub (Sub.keeps hk))
        rw [hb] at hs
        refine wpAny_mono hs (fun b s' hp => ?_) fun _ _ x => x
        obtain ⟨ρ₁, H, tk, rfl, i₁, x₁, F₁⟩ := hp
        exact ⟨ρ₁, H, tk, rfl, i₁, (Ext.of_keeps hk).trans x₁, F₁⟩
    | _ => exact trivial
  | _ => exact trivial
end
end Mine

namespace Mine
open PySem PyProof.Rows

section
variable {prog : Program} {w : World} {h₀ hb : Heap} {A : Around} {W wr : List Addr} {ρ ρ' ρb : Map} {s : Shared} {σ : Store} {fns : Str → Option Fn} {glob : Str → Option V} {mg mb : Str → Option Value}
variable {env : Env} {ns : Names} {loc : Loc} {C : Cfg} {n : Nat}

/-! ## what is walked -/
variable (prog w h₀ C n) in
noncomputable def SrcS (e : Expr) : Prop := ∀ (env : Env) (ns : Names) (loc : Loc) (σ : Store) (ρ : Map) (s : Shared) (A : Around), Rm A n → Frm env ns loc ρ s.heap → Inv prog w h₀ σ ρ s.heap →
  Sim prog w h₀ A [] (eval e env) (src C e ns loc (ev C e ns loc) σ) (RSrc s.heap) ρ s

/-- a step of the store's side alone -/
theorem Sim.map {α β γ : Type} {t : Sem β} {m : M α} {k : α → M γ} {R : α → Map → Heap → β → Prop} {R' : γ → Map → Heap → β → Prop} (h : Sim prog w h₀ A W t (m σ) R ρ s)
    (hk : ∀ a σ₁ ρ₁ H b c σ₂, Inv prog w h₀ σ₁ ρ₁ H → R a ρ₁ H b → k a σ₁ = .ok c σ₂ → σ₂ = σ₁ ∧ R' c ρ₁ H b) : Sim prog w h₀ A W t ((m >>= k) σ) R' ρ s := by
  cases e : m σ with
  | bad => rw [bind_bad e]; exact trivial
  | exc _ _ => rw [bind_exc e]; exact trivial
  | ok a σ₁ =>
    rw [bind_ok e]
    rw [e] at h
    cases e2 : k a σ₁ with
    | bad => exact trivial
    | exc _ _ => exact trivial
    | ok c σ₂ =>
      refine wpAny_mono h (fun b s' hp => ?_) fun _ _ x => x
      obtain ⟨ρ₁, H, tk, rfl, i, x, r⟩ := hp
      obtain ⟨rfl, r'⟩ := hk a σ₁ ρ₁ H b c σ₂ i r e2
      exact ⟨ρ₁, H, tk, rfl, i, x, r'⟩

theorem getList_ok {k : List V → M α} {m : Nat} {c : α} {σ₂ : Store} (h : (getList m >>= k) σ = .ok c σ₂) : ∃ l, σ[m]? = some (.list l) ∧ k l σ = .ok c σ₂ := by
  cases e : σ[m]? with
  | none => rw [bind_bad (by rw [getList_eq, e])] at h; cases h
  | some o =>
    cases o with
    | list l => rw [bind_ok (by rw [getList_eq, e])] at h; exact ⟨l, rfl, h⟩
    | dict _ => rw [bind_bad (by rw [getList_eq, e])] at h; cases h
    | inst _ _ => rw [bind_bad (by rw [getList_eq, e])] at h; cases h

theorem src_value {e : Expr} (he : EvS prog w h₀ C n e) (hA : Rm A n) (F : Frm env ns loc ρ s.heap) (i : Inv prog w h₀ σ ρ s.heap) :
    Sim prog w h₀ A [] (eval e env) ((ev C e ns loc >>= srcV) σ) (RSrc s.heap) ρ s := by
  refine Sim.map (he env ns loc σ ρ s A hA F i) fun a σ₁ ρ₁ H b c σ₂ i₁ r hk => ?_
  cases r with
  | tup g hl ra => cases hk; exact ⟨rfl, .inl ⟨_, _, _, rfl, g, ra⟩⟩
  | ref er =>
    obtain ⟨l, hσ, hk⟩ := getList_ok hk
    cases hk
    obtain ⟨_, vs, k, g, _, _⟩ := Inv.list (s := { s with heap := H }) i₁ hσ er
    exact ⟨rfl, _, _, vs, k, rfl, er, g⟩
  | str x t hx =>
    cases hk
    exact ⟨rfl, .inr (.inl ⟨x, t, rfl, hx, rfl⟩)⟩
  | none => cases hk
  | bool _ => cases hk
  | int _ _ => cases hk


theorem evs_one {a : Expr} {α : Type} {k : V → M α} : (ev C a ns loc >>= k) = (evs C [a] ns loc >>= fun l => match l with | [v] => k v | _ => M.bad) := by
  show _ = ((ev C a ns loc >>= fun v => (evs C [] ns loc >>= fun vs => pure (v :: vs))) >>= _)
  rw [M.assoc]; rfl

theorem Sim.rangeCall {a : Value} {x : V} (i : Inv prog w h₀ σ ρ s.heap) (ra : Rel ρ s.heap a x) : Sim prog w h₀ A [] (call (.type "range") [a]) (rangeOf x σ) (RSrc hb) ρ s := by
  cases ra with
  | int z t =>
    refine Sim.ite fun hc => ?_
    refine Sim.grown i fun Q E hQ => call_range_1 (hQ _ _ _ (fun c o e => Heap.get?_push_of_some _ e) (.inr (.inr ⟨_, 0, z, _, _, _, rfl, IsRange.new .., ?_, rfl⟩)))
    exact small_one (by decide) (by decide) (by (first | lia | omega)) (by (first | lia | omega))
  | _ => exact trivial

/-- the call of a type of one argument -/
theorem Sim.typeOne {α : Type} {f : Str} {T : String} {a : Expr} {p pos : Pos} {k : V → M α} {R : α → Map → Heap → Value → Prop} (B : Base fns glob mg mb h₀) (ha : EvS prog w h₀ C n a) (hA : Rm A n) (F : Frm env ns loc ρ s.heap) (i : Inv prog w h₀ σ ρ s.heap) (hg : isGlob ns f = true) (hf : fns f = none)
    (hn : f ∈ bltNames) (hT : bootBuiltins f = some (.type T))
    (hk : ∀ x v σ₁ ρ₁ H tk, Inv prog w h₀ σ₁ ρ₁ H → Ext [] ρ s.heap ρ₁ H → Rel ρ₁ H v x → Sim prog w h₀ A [] (call (.type T) [v]) (k x σ₁) R ρ₁ { s with heap := H, toks := tk }) :
    Sim prog w h₀ A [] (eval (.Call (.Name f p) [a] [] pos) env) ((ev C a ns loc >>= k) σ) R ρ s := by
  rw [evs_one, Call_name]
  refine Sim.head (v := .type T) (fun Q E h => wp_builtin B F i hg hn hf hT h) ?_
  refine Sim.args (evs_cons ha evs_nil) hA F i (fun Q E hst h => cw_type hst h) fun l σ₁ ρ₁ H tk vs i₁ x₁ r₁ => ?_
  cases r₁ with
  | nil => exact trivial
  | cons r rs => cases rs with
    | nil => exact hk _ _ σ₁ ρ₁ H tk i₁ x₁ r
    | cons _ _ => exact trivial

theorem src_call {f : Str} {as : List Expr} {p pos : Pos} (B : Base fns glob mg mb h₀) (hfn : ∀ f, C.isFn f = (fns f).isSome) (he : EvS prog w h₀ C n (.Call (.Name f p) as [] pos)) (has : ∀ a ∈ as, EvS prog w h₀ C n a) : SrcS prog w h₀ C n (.Call (.Name f p) as [] pos) :=
  fun env ns loc σ ρ s A hA F i => by
  have whole := src_value he hA F i
  have hc : srcTag C ns f = 1 → isGlob ns f = true ∧ fns f = none ∧ f = ("range" : Str) := by
    intro htag
    unfold srcTag at htag
    by_cases h1 : (isGlob ns f && !C.isFn f) = true
    · rw [if_pos h1] at htag
      simp only [Bool.and_eq_true, Bool.not_eq_true'] at h1
      refine ⟨h1.1, ?_, ?_⟩
      · have := h1.2; rw [hfn] at this
        cases e : fns f with
        | none => rfl
        | some _ => rw [e] at this; cases this
      · by_cases h2 : f = ("range" : Str)
        · exact h2
        · rw [if_neg h2] at htag; cases htag
    · rw [if_neg h1] at htag; cases htag
  rcases as with _ | ⟨a, _ | ⟨b, r⟩⟩
  · exact whole
  · show Sim prog w h₀ A [] _ ((if srcTag C ns f = 1 then (ev C a ns loc >>= fun v => rangeOf v) else (ev C (.Call (.Name f p) [a] [] pos) ns loc >>= fun v => srcV v)) σ) (RSrc s.heap) ρ s
    by_cases t1 : srcTag C ns f = 1
    · rw [if_pos t1]
      obtain ⟨hg, hf, rfl⟩ := hc t1
      exact Sim.typeOne B (has a (List.mem_singleton.mpr rfl)) hA F i hg hf (by decide +kernel) bb_range fun x v σ₁ ρ₁ H tk i₁ x₁ r => Sim.rangeCall i₁ r
    · rw [if_neg t1]; exact whole
  · exact whole

/-! ## comprehensions -/
theorem isCell_of {k : NameKind} (h : (k == NameKind.free) = true) : k = .free := by simpa using h

/-- the cells that a comprehension's block shares -/
theorem closure_go (env : Env) : ∀ (names : Names) (cs : List (Str × Addr)), (∀ x ∈ names, x.2 = .free → ∃ c, env.cells.lookup x.1 = some c) → (∀ x c, cs.lookup x = some c → env.cells.lookup x = some c) →
    ∃ cl, (forIn names cs fun x r => if (x.2 == NameKind.free) = true then (do let c ← cellOf env x.1; pure (ForInStep.yield ((x.1, c) :: r))) else pure (ForInStep.yield r)) = (Pure.pure cl : Sem (List (Str × Addr))) ∧
      (∀ x c, cl.lookup x = some c → env.cells.lookup x = some c) ∧ (∀ x ∈ names, x.2 = .free → ∃ c, cl.lookup x.1 = some c) ∧ ∀ x, (∃ c, cs.lookup x = some c) → ∃ c, cl.lookup x = some c
  | [], cs, _, h2 => ⟨cs, rfl, h2, fun _ hm => (nomatch hm), fun _ h => h⟩
  | (x, k) :: r, cs, h1, h2 => by
    rw [List.forIn_cons]
    by_cases hk : (k == NameKind.free) = true
    · obtain ⟨c, hc⟩ := h1 (x, k) (List.mem_cons_self ..) (isCell_of hk)
      have e : cellOf env x = Pure.pure c := by unfold cellOf; rw [show env.cells.lookup x = some c from hc]
      rw [if_pos hk, e]
      have h2' : ∀ y d, List.lookup y ((x, c) :: cs) = some d → env.cells.lookup y = some d := fun y d hd => by
        rw [List.lookup_cons] at hd
        split at hd
        · rename_i hy
          cases hd; rw [beq_iff_eq.mp hy]; exact hc
        · exact h2 y d hd
      obtain ⟨cl, e1, e2, e3, e4⟩ := closure_go env r ((x, c) :: cs) (fun y hy => h1 y (List.mem_cons_of_mem _ hy)) h2'
      refine ⟨cl, e1, e2, fun y hy hf => ?_, fun y hy => e4 y ?_⟩
      · rcases List.mem_cons.mp hy with rfl | hy
        · exact e4 x ⟨c, by rw [List.lookup_cons, beq_self_eq_true]⟩
        · exact e3 y hy hf
      · obtain ⟨d, hd⟩ := hy
        rw [List.lookup_cons]
        split
        · exact ⟨_, rfl⟩
        · exact ⟨d, hd⟩
    · rw [if_neg hk]
      obtain ⟨cl, e1, e2, e3, e4⟩ := closure_go env r cs (fun y hy => h1 y (List.mem_cons_of_mem _ hy)) h2
      refine ⟨cl, e1, e2, fun y hy hf => ?_, e4⟩
      rcases List.mem_cons.mp hy with rfl | hy
      · exact absurd (by rw [show k = NameKind.free from hf]; rfl) hk
      · exact e3 y hy hf

theorem closure_ok {scope : Scope} (h : ∀ x ∈ scope.names, x.2 = .free → ∃ c, env.cells.lookup x.1 = some c) : ∃ cl, closureFor scope env = Pure.pure cl ∧ (∀ x c, cl.lookup x = some c → env.cells.lookup x = some c) ∧ ∀ x ∈ scope.names, x.2 = .free → ∃ c, cl.lookup x.1 = some c := by
  obtain ⟨cl, e1, e2, e3, _⟩ := closure_go env scope.names [] h fun _ _ e => by cases e
  refine ⟨cl, ?_, e2, e3⟩
  show ((forIn scope.names [] fun (x : Str × NameKind) (r : List (Str × Addr)) => if (x.2 == NameKind.free) = true then (do let c ← cellOf env x.1; pure (ForInStep.yield ((x.1, c) :: r))) else pure (ForInStep.yield r)) >>= fun r => Pure.pure r) = Pure.pure cl
  rw [e1]; rfl

/-- what innerLoc says -/
theorem innerLoc_ok {loc : Loc} : ∀ {names : Names} {loc' : Loc} {σ σ' : Store}, innerLoc ns loc names σ = .ok loc' σ' → σ' = σ ∧ (∀ x ∈ names, x.2 ≠ .cell) ∧ (∀ x ∈ names, x.2 = .free → ∃ j, slot ns x.1 = some (j, .cell)) ∧
    ∀ (x : Str) (i i₀ : Nat) (k : NameKind), slotGo names x i₀ = some (i, k) → i₀ ≤ i ∧ ∃ o, loc'[i - i₀]? = some o ∧ (k ≠ .free → o = none) ∧ (k = .free → ∃ j, slot ns x = some (j, .cell) ∧ o = (loc[j]?).getD none)
  | [], loc', σ, σ', h => by
    cases h
    exact ⟨rfl, fun _ hm => (nomatch hm), fun _ hm => (nomatch hm), fun _ _ _ _ e => by cases e⟩
  | (x, k) :: r, loc', σ, σ', h => by
    have step : ∀ (o : Option V), ((innerLoc ns loc r >>= fun t => (pure (o :: t) : M Loc)) σ = .ok loc' σ') → ∃ t, loc' = o :: t ∧ innerLoc ns loc r σ = .ok t σ' := fun o h => by
      cases e : innerLoc ns loc r σ with
      | bad => rw [bind_bad e] at h; cases h
      | exc _ _ => rw [bind_exc e] at h; cases h
      | ok t σ₁ => rw [bind_ok e] at h; cases h; exact ⟨t, rfl, rfl⟩
    have fin : ∀ (o : Option V), k ≠ .cell → (k = .free → ∃ j, slot ns x = some (j, .cell) ∧ o = (loc[j]?).getD none) → (k ≠ .free → o = none) → ((innerLoc ns loc r >>= fun t => (pure (o :: t) : M Loc)) σ = .ok loc' σ') →
        σ' = σ ∧ (∀ y ∈ (x, k) :: r, y.2 ≠ .cell) ∧ (∀ y ∈ (x, k) :: r, y.2 = .free → ∃ j, slot ns y.1 = some (j, .cell)) ∧
        ∀ (y : Str) (i i₀ : Nat) (k' : NameKind), slotGo ((x, k) :: r) y i₀ = some (i, k') → i₀ ≤ i ∧ ∃ o, loc'[i - i₀]? = some o ∧ (k' ≠ .free → o = none) ∧ (k' = .free → ∃ j, slot ns y = some (j, .cell) ∧ o = (loc[j]?).getD none) := fun o hc hf hn h => by
      obtain ⟨t, rfl, e⟩ := step o h
      obtain ⟨h1, h2, h3, h4⟩ := innerLoc_ok e
      refine ⟨h1, fun y hy => ?_, fun y hy hfy => ?_, fun y i i₀ k' hs => ?_⟩
      · rcases List.mem_cons.mp hy with rfl | hy
        · exact hc
        · exact h2 y hy
      · rcases List.mem_cons.mp hy with rfl | hy
        · obtain ⟨j, hj, _⟩ := hf hfy; exact ⟨j, hj⟩
        · exact h3 y hy hfy
      · unfold slotGo at hs
        split at hs
        · rename_i hyx
          cases hs
          rw [beq_iff_eq.mp hyx]
          exact ⟨Nat.le_refl _, o, by rw [Nat.sub_self]; rfl, hn, hf⟩
        · obtain ⟨hle, o', ho', hh⟩ := h4 y i (i₀ + 1) k' hs
          refine ⟨by (first | lia | omega), o', ?_, hh⟩
          rw [show i - i₀ = (i - (i₀ + 1)) + 1 by (first | lia | omega), List.getElem?_cons_succ]; exact ho'
    cases k with
    | free =>
      cases hs : slot ns x with
      | none => unfold innerLoc at h; rw [hs] at h; cases h
      | some p =>
        obtain ⟨j, k'⟩ := p
        cases k' with
        | cell =>
          unfold innerLoc at h; rw [hs] at h
          exact fin ((loc[j]?).getD none) (by decide) (fun _ => ⟨j, hs, rfl⟩) (fun h => absurd rfl h) h
        | _ => unfold innerLoc at h; rw [hs] at h; cases h
    | cell => cases h
    | «local» => exact fin none (by decide) (fun h => by cases h) (fun _ => rfl) h
    | globalImplicit => exact fin none (by decide) (fun h => by cases h) (fun _ => rfl) h
    | globalExplicit => exact fin none (by decide) (fun h => by cases h) (fun _ => rfl) h

/-- a slot of the relabelled names -/
theorem relab_slot {names : Names} : ∀ {x : Str} {i i₀ : Nat} {k : NameKind}, slotGo (relab ns names) x i₀ = some (i, k) → ∃ k₀, slotGo names x i₀ = some (i, k₀) ∧ (k = k₀ ∨ (k₀ = .free ∧ k = .cell)) := by
  induction names with
  | nil => intro x i i₀ k h; cases h
  | cons p r ih =>
    intro x i i₀ k h
    obtain ⟨y, ky⟩ := p
    have e : relab ns ((y, ky) :: r) = (y, if (ky == .free && ns.lookup y == some .cell) = true then .cell else ky) :: relab ns r := by
      unfold relab
      rw [List.map_cons]
      by_cases hc : (ky == .free && ns.lookup y == some .cell) = true
      · dsimp only; rw [if_pos hc, if_pos hc]
      · dsimp only; rw [if_neg hc, if_neg hc]
    rw [e] at h
    unfold slotGo at h ⊢
    cases hxy : (x == y) with
    | true =>
      rw [hxy] at h
      cases h
      refine ⟨ky, rfl, ?_⟩
      by_cases hc : (ky == .free && ns.lookup y == some .cell) = true
      · rw [if_pos hc]; simp only [Bool.and_eq_true] at hc; exact .inr ⟨isCell_of hc.1, rfl⟩
      · rw [if_neg hc]; exact .inl rfl
    | false =>
      rw [hxy] at h
      exact ih h

theorem slot_mem {names : Names} {x : Str} {i : Nat} {k : NameKind} (h : slot names x = some (i, k)) : (x, k) ∈ names := mem_of_lookup (slot_lookup h)

/-- the frame of a comprehension's block -/
theorem compFrm {scope : Scope} {cl : List (Str × Addr)} {c : Addr} {loc' : Loc} {σ' : Store} {cenv : Env} {h : Heap} (F : Frm env ns loc ρ h) (hin : innerLoc ns loc scope.names σ = .ok loc' σ') (hk : scope.kind = .function)
    (hcl : ∀ x c, cl.lookup x = some c → env.cells.lookup x = some c) (hcl2 : ∀ x ∈ scope.names, x.2 = .free → ∃ c, cl.lookup x.1 = some c)
    (hce : cenv = { newEnv scope c env.globals cl env.qual none .none (some env) env.builtins with scope := relabel scope env }) (hn : h.Ns c fun _ => none) (hoff : offMap ρ c) (hne : ∀ x d, env.cells.lookup x = some d → d ≠ c) :
    Frm cenv (relab ns scope.names) loc' ρ h := by
  subst hce
  obtain ⟨_, hnc, hfr, hsl⟩ := innerLoc_ok hin
  exact {
    names := by
      show (relabel scope env).names = _
      unfold relabel relab
      have : env.scope.names = ns := F.names
      simp only [F.kind, Env.kindOf, this]
      congr 1
      funext p
      obtain ⟨y, k⟩ := p
      cases k <;> simp
    kind := hk
    globals := F.globals
    blts := F.blts
    vars := ⟨_, hn, fun x i v h1 h2 => by
      obtain ⟨k₀, hs, hkk⟩ := relab_slot h1
      rcases hkk with rfl | ⟨_, hc⟩
      · obtain ⟨_, o, ho, hno, _⟩ := hsl x i 0 _ hs
        rw [Nat.sub_zero] at ho
        rw [ho, hno (by decide)] at h2; cases h2
      · cases hc⟩
    cell := fun x i h1 => by
      obtain ⟨k₀, hs, hkk⟩ := relab_slot h1
      have hmem := slot_mem hs
      have hfree : k₀ = .free := by
        rcases hkk with rfl | ⟨h, _⟩
        · exact absurd rfl (hnc _ hmem)
        · exact h
      subst hfree
      obtain ⟨_, o, ho, _, hof⟩ := hsl x i 0 _ hs
      obtain ⟨j, hj, rfl⟩ := hof rfl
      rw [Nat.sub_zero] at ho
      obtain ⟨d, od, e1, e2, e3⟩ := F.cell x j hj
      obtain ⟨d', hd'⟩ := hcl2 _ hmem rfl
      have : env.cells.lookup x = some d' := hcl _ _ hd'
      rw [e1] at this; cases this
      refine ⟨d, od, hd', e2, fun v hv => e3 v ?_⟩
      rw [ho] at hv
      cases e : loc[j]? with
      | none => rw [e] at hv; cases hv
      | some u => rw [e] at hv; exact hv
    live := fun x d e => F.live x d (hcl _ _ e)
    offL := hoff
    offC := fun x d e => ⟨hne x d (hcl _ _ e), (F.offC x d (hcl _ _ e)).2⟩
    apart := fun x y d e1 e2 => F.apart x y d (hcl _ _ e1) (hcl _ _ e2) }
end

/-- the comprehensions that are run -/
theorem comp_cases : ∀ gens : List Comprehension, (∃ t it ifs, gens = [⟨t, it, ifs, 0⟩]) ∨ ∀ (C : Cfg) (elt : Expr) (scope : Scope) (p : Pos) (ns : Names) (loc : Loc), ev C (.ListComp elt gens scope p) ns loc = M.bad
  | [] => .inr fun _ _ _ _ _ _ => rfl
  | [⟨t, it, ifs, .ofNat 0⟩] => .inl ⟨t, it, ifs, rfl⟩
  | [⟨t, it, ifs, .ofNat (k + 1)⟩] => .inr fun _ _ _ _ _ _ => rfl
  | [⟨t, it, ifs, .negSucc k⟩] => .inr fun _ _ _ _ _ _ => rfl
  | ⟨_, _, _, .ofNat 0⟩ :: _ :: _ => .inr fun _ _ _ _ _ _ => rfl
  | ⟨_, _, _, .ofNat (_ + 1)⟩ :: _ :: _ => .inr fun _ _ _ _ _ _ => rfl
  | ⟨_, _, _, .negSucc _⟩ :: _ :: _ => .inr fun _ _ _ _ _ _ => rfl
end Mine

namespace Mine
open PySem PyProof.Rows

section
variable {prog : Program} {w : World} {h₀ hb : Heap} {A : Around} {W wr : List Addr} {ρ ρ' ρb : Map} {s sb : Shared} {σ : Store} {fns : Str → Option Fn} {glob : Str → Option V} {mg mb : Str → Option Value}
variable {env cenv : Env} {ns ns' : Names} {loc : Loc} {C : Cfg} {n : Nat}

/-- a turn of a comprehension's loop -/
theorem compLoop_turn {elt target iter : Expr} {ifs : List Expr} {scope : Scope} {pos : Pos} {it acc : Value} {R : Result → Shared → Prop}
    (h : wpAny (model prog w) A (pyNext it) (fun r s₁ => match r with
      | none => R (.ok .next) s₁
      | some v => wpAny (model prog w) A (letOwnedTupleGo target it v) (fun _ s₁' => wpAny (model prog w) A (assign target env v) (fun _ s₂ =>
          wpAny (model prog w) A (forIn ifs true fun c r => if r = true then do let ok ← isTrue c env (eval c env); pure (ForInStep.yield ok) else pure (ForInStep.yield r)) (fun ok s₃ =>
            if ok = true then wpAny (model prog w) A (eval elt env) (fun x s₄ =>
              wpAny (model prog w) A (call (.builtin "list.append") [acc, x]) (fun _ s₅ => codeAny (model prog w) A (.compLoop (.ListComp elt [⟨target, iter, ifs, 0⟩] scope pos) 0 it acc env) R s₅) (fun _ _ => False) s₄) (fun _ _ => False) s₃
            else codeAny (model prog w) A (.compLoop (.ListComp elt [⟨target, iter, ifs, 0⟩] scope pos) 0 it acc env) R s₃) (fun _ _ => False) s₂) (fun _ _ => False) s₁') (fun _ _ => False) s₁) (fun _ _ => False) s) :
    codeAny (model prog w) A (.compLoop (.ListComp elt [⟨target, iter, ifs, 0⟩] scope pos) 0 it acc env) R s := by
  refine codeAny_of_tree ?_
  show wpAny _ A ((compTurn (.ListComp elt [⟨target, iter, ifs, 0⟩] scope pos) 0 it acc env).onRaise (fun x => do noteFrame x env; theTreesLotGoes x)) _ _ s
  refine wpAny_noted ?_
  rw [compTurn_list]
  refine wpAny_bind (wpAny_standAt (wpAny_bind (wpAny_mono h (fun r s₁ h₁ => ?_) fun _ _ h' => h'.elim)))
  cases r with
  | none => exact wpAny_pure h₁
  | some v =>
    refine wpAny_bind (wpAny_mono h₁ (fun _ s₁' h₁' => ?_) fun _ _ h' => h'.elim)
    refine wpAny_bind (wpAny_mono h₁' (fun _ s₂ h₂ => wpAny_bind (wpAny_mono h₂ (fun ok s₃ h₃ => ?_) fun _ _ h' => h'.elim)) fun _ _ h' => h'.elim)
    cases ok with
    | false => exact wpAny_pure ⟨rfl, h₃⟩
    | true =>
      exact wpAny_bind (wpAny_bind (wpAny_mono h₃ (fun x s₄ h₄ => wpAny_bind (wpAny_mono h₄ (fun _ s₅ h₅ => wpAny_pure (wpAny_pure ⟨rfl, h₅⟩)) fun _ _ h' => h'.elim)) fun _ _ h' => h'.elim))

variable (prog w h₀ C n) in
/-- the tests of a comprehension -/
noncomputable def TestsS (ifs : List Expr) : Prop := ∀ (env : Env) (ns : Names) (loc : Loc) (σ : Store) (ρ : Map) (s : Shared) (A : Around), Rm A n → Frm env ns loc ρ s.heap → Inv prog w h₀ σ ρ s.heap →
  Sim prog w h₀ A [] (forIn ifs true fun c r => if r = true then do let ok ← isTrue c env (eval c env); pure (ForInStep.yield ok) else pure (ForInStep.yield r)) (tests C ifs ns loc σ) RB ρ s
theorem tests_nil : TestsS prog w h₀ C n [] := fun env ns loc σ ρ s A hA F i => Sim.ret i rfl
theorem tests_one {e : Expr} (h : TstS prog w h₀ C n e) : TestsS prog w h₀ C n [e] := fun env ns loc σ ρ s A hA F i =>
  Sim.wrap (fun _ _ => wpAny_tests_one) (h env ns loc σ ρ s A hA F i)
theorem tests_more {e f : Expr} {r : List Expr} : TestsS prog w h₀ C n (e :: f :: r) := fun env ns loc σ ρ s A hA F i => trivial

/-- the state of a comprehension's loop, but for its walk -/
structure CE (prog : Program) (w : World) (h₀ : Heap) (ρb : Map) (hb : Heap) (cenv : Env) (ns' : Names) (D : Addr) (loc : Loc) (l : List V) (σ : Store) (ρ : Map) (h : Heap) : Prop where
  inv : Inv prog w h₀ σ ρ h
  frm : Frm cenv ns' loc ρ h
  ext : Ext [] ρb hb ρ h
  acc : ∃ vs k, h.get? D = some (listO vs k) ∧ RelAll ρ h vs l
  off : offMap ρ D

/-- what stays through it -/
structure CK (h₀ : Heap) (hb : Heap) (cenv : Env) (wr : List Addr) (D : Addr) : Prop where
  deadW : ∀ b ∈ wr, hb.get? b = none
  deadD : hb.get? D = none
  deadC : hb.get? cenv.locals = none
  offW : ∀ b ∈ wr, offFrame cenv b
  offD : offFrame cenv D
  base : ∀ b o, h₀.get? b = some o → ∃ o', hb.get? b = some o'
  DW : D ∉ wr

theorem list_not_tup {vs ws : List Value} {j k : Nat} : listO vs j ≠ tupO ws k := fun e => absurd (Value.type.inj (congrArg Obj.cls e)) (by decide)

theorem bind_inv {α β : Type} {m : M α} {f : α → M β} {b : β} {σ₂ : Store} (h : (m >>= f) σ = .ok b σ₂) : ∃ a σ₁, m σ = .ok a σ₁ ∧ f a σ₁ = .ok b σ₂ := by
  cases e : m σ with
  | bad => rw [bind_bad e] at h; cases h
  | exc _ _ => rw [bind_exc e] at h; cases h
  | ok a σ₁ => rw [bind_ok e] at h; exact ⟨a, σ₁, rfl, h⟩

theorem CK.base0 {D : Addr} (K : CK h₀ hb cenv wr D) {b : Addr} (h : hb.get? b = none) : h₀.get? b = none := by
  cases e : h₀.get? b with
  | none => rfl
  | some o => obtain ⟨o', e'⟩ := K.base _ _ e; rw [h] at e'; cases e'

theorem CE.but {D : Addr} {l : List V} {h h' : Heap} (K : CK h₀ hb cenv wr D) (x : CE prog w h₀ ρb hb cenv ns' D loc l σ ρ h) (hk : KeepBut wr h h') (ho : Own wr ρ h) : CE prog w h₀ ρb hb cenv ns' D loc l σ ρ h' where
  inv := x.inv.but hk ho fun b hb => K.base0 (K.deadW b hb)
  frm := x.frm.but hk ho K.offW
  ext := x.ext.but hk K.deadW
  acc := by
    obtain ⟨vs, k, g, r⟩ := x.acc
    exact ⟨vs, k, hk _ _ K.DW g, r.sub (hk.sub ho)⟩
  off := x.off

theorem CE.step {D : Addr} {l : List V} {h h' : Heap} {σ' : Store} {loc' : Loc} (K : CK h₀ hb cenv wr D) (x : CE prog w h₀ ρb hb cenv ns' D loc l σ ρ h) (hW : ∀ b ∈ W, b = cenv.locals) (i : Inv prog w h₀ σ' ρ' h') (e : Ext W ρ h ρ' h') (F : Frm cenv ns' loc' ρ' h') :
    CE prog w h₀ ρb hb cenv ns' D loc' l σ' ρ' h' where
  inv := i
  frm := F
  ext := ((x.ext.weak (W' := W) fun _ hm => nomatch hm).trans e).weak fun b hm => .inr (by rw [hW b hm]; exact K.deadC)
  acc := by
    obtain ⟨vs, k, g, r⟩ := x.acc
    exact ⟨vs, k, e.keep _ _ g (fun hm => K.offD.1 (hW _ hm)) x.off, r.ext e⟩
  off := by
    obtain ⟨vs, k, g, r⟩ := x.acc
    exact offMap.ext e g x.off

/-- an item more -/
theorem CE.push {D : Addr} {l : List V} {v : Value} {a : V} {Q : Value → Shared → Prop} {E : Value → Shared → Prop} {sr : Src} {it : Value} {i : Nat} (K : CK h₀ hb cenv wr D) (x : CE prog w h₀ ρb hb cenv ns' D loc l σ ρ s.heap) (wk : ItAt sr it wr i ρ s.heap) (r : Rel ρ s.heap v a) (hl : l.length ≤ sizeLine)
    (h : ∀ h', CE prog w h₀ ρb hb cenv ns' D loc (l ++ [a]) σ ρ h' → ItAt sr it wr i ρ h' → Q .none { s with heap := h' }) : wpAny (model prog w) A (call (.builtin "list.append") [.ref D, v]) Q E s := by
  obtain ⟨vs, k, g, rv⟩ := x.acc
  have hlen := rv.length
  refine wpAny_list_append_plain ⟨k, g⟩ (fun h' hg hk => ?_) (by rw [List.size_toArray, hlen]; exact hl)
  obtain ⟨m', hg⟩ := hg
  have hg : h'.get? D = some (listO (vs ++ [v]) m') := by simpa [listO] using hg
  have hkk : ∀ b o, s.heap.get? b = some o → b ∉ [D] → h'.get? b = some o := fun b o e hb => hk.extBut b o (fun eq => hb (List.mem_singleton.mpr eq)) e
  have hx : Ext [D] ρ s.heap ρ h' := Ext.of_keep hkk fun b o e hm => by
    rw [List.mem_singleton.mp hm] at e ⊢
    rw [g] at e; cases e
    exact ⟨fun vs n => list_not_tup, _, hg⟩
  refine h h' ⟨x.inv.keep hx (fun b hm => by rw [List.mem_singleton.mp hm]; exact ⟨x.off, K.base0 K.deadD⟩) hkk, x.frm.ext hx (fun b hm => by rw [List.mem_singleton.mp hm]; exact K.offD), ?_, ⟨vs ++ [v], m', hg, (rv.append (.cons r .nil)).ext hx⟩, x.off⟩
    (wk.ext hx fun b hb hm => K.DW (List.mem_singleton.mp hm ▸ hb))
  exact ((x.ext.weak (W' := [D]) fun _ hm => nomatch hm).trans hx).weak fun b hm => .inr (by rw [List.mem_singleton.mp hm]; exact K.deadD)

theorem compLoop_step {sr : Src} {bt : V → Loc → M Loc} {tt : Loc → M Bool} {et : Loc → M V} {k i : Nat} {o : Option V} (h : sr.at σ i = some o) : compLoop sr bt tt et (k + 1) i loc σ =
    (match o with | none => (pure [] : M (List V)) | some v => (bt v loc >>= fun loc' => tt loc' >>= fun c => if c = true then (et loc' >>= fun x => compLoop sr bt tt et k (i + 1) loc' >>= fun r => pure (x :: r)) else compLoop sr bt tt et k (i + 1) loc')) σ := by
  show (sr.get i >>= _) σ = _
  refine (bind_ok (a := o) (σ' := σ) (by unfold Src.get askS; dsimp only; rw [h])).trans ?_
  cases o <;> rfl
theorem compLoop_bad {sr : Src} {bt : V → Loc → M Loc} {tt : Loc → M Bool} {et : Loc → M V} {k i : Nat} (h : sr.at σ i = none) : compLoop sr bt tt et (k + 1) i loc σ = .bad := by
  show (sr.get i >>= _) σ = _
  rw [bind_bad (by unfold Src.get askS; dsimp only; rw [h])]

theorem compLoop_ok {elt target iter : Expr} {ifs : List Expr} {scope : Scope} {pos : Pos} {D : Addr} {sr : Src} {it : Value} (hA : Rm A n) (K : CK h₀ hb cenv wr D) (ht : TestsS prog w h₀ C n ifs) (he : EvS prog w h₀ C n elt) (htg : tgtOk sr target = true) :
    ∀ (k i : Nat) (loc : Loc) (l₀ : List V) (σ : Store) (ρ : Map) (H : Heap) (tk : Nat) (l : List V) (σ' : Store), CE prog w h₀ ρb hb cenv ns' D loc l₀ σ ρ H → ItAt sr it wr i ρ H →
      compLoop sr (bindTo (stLocL ns') target) (tests C ifs ns') (ev C elt ns') k i loc σ = .ok l σ' → l₀.length + l.length ≤ sizeLine →
      codeAny (model prog w) A (.compLoop (.ListComp elt [⟨target, iter, ifs, 0⟩] scope pos) 0 it (.ref D) cenv)
        (fun r s' => r = .ok .next ∧ ∃ loc' ρ' H' tk', s' = { sb with heap := H', toks := tk' } ∧ CE prog w h₀ ρb hb cenv ns' D loc' (l₀ ++ l) σ' ρ' H') { sb with heap := H, toks := tk }
  | 0, _, _, _, _, _, _, _, _, _, _, _, h, _ => by cases h
  | k + 1, i, loc, l₀, σ, ρ, H, tk, l, σ', x, wk, h, hl => by
    have S := stLocL_ok (prog := prog) (w := w) (env := cenv) (ns := ns') (K.base0 K.deadC)
    cases hat : sr.at σ i with
    | none => rw [compLoop_bad hat] at h; cases h
    | some o =>
      rw [compLoop_step hat] at h
      refine compLoop_turn (s := { sb with heap := H, toks := tk }) (wk.next (s := { sb with heap := H, toks := tk }) hA.handled x.inv hat htg (fun h' hn hk => ?_) fun v val h' tk' hv hk hgo => ?_)
      · subst hn
        cases h
        exact ⟨rfl, loc, ρ, h', tk, rfl, by rw [List.append_nil]; exact x.but K hk wk.own⟩
      · subst hv
        obtain ⟨loc₁, σ₁, hb1, h⟩ := bind_inv h
        obtain ⟨b, σ₂, hb2, h⟩ := bind_inv h
        refine hgo _ _ fun h'' hk'' rv wk' => ?_
        have x1 := x.but K hk'' wk.own
        have h1 := Sim.bindTo (s := { sb with heap := h'', toks := tk' }) (t := target) S hA.handled x1.frm x1.inv rv
        rw [hb1] at h1
        refine wpAny_mono h1 (fun _ s' hp => ?_) fun _ _ f => f
        obtain ⟨ρ₁, H₁, tk₁, rfl, i₁, e₁, F₁⟩ := hp
        have x2 := x1.step K (fun b hm => List.mem_singleton.mp hm) i₁ e₁ F₁
        have wk2 := wk'.ext e₁ fun b hb hm => (K.offW b hb).1 (List.mem_singleton.mp hm)
        have h2 := ht cenv ns' loc₁ σ₁ ρ₁ { sb with heap := H₁, toks := tk₁ } A hA x2.frm x2.inv
        rw [hb2] at h2
        refine wpAny_mono h2 (fun ok s' hp => ?_) fun _ _ f => f
        obtain ⟨ρ₂, H₂, tk₂, rfl, i₂, e₂, hok⟩ := hp
        have hok : ok = b := hok
        subst hok
        have x3 := x2.step K (W := []) (fun b hm => absurd hm (List.not_mem_nil)) i₂ e₂ (x2.frm.ext0 e₂)
        have wk3 := wk2.ext e₂ fun b hb hm => absurd hm List.not_mem_nil
        cases ok with
        | false => exact compLoop_ok hA K ht he htg k (i + 1) loc₁ l₀ σ₂ ρ₂ H₂ tk₂ l σ' x3 wk3 h hl
        | true =>
          change (ev C elt ns' loc₁ >>= fun x => compLoop sr (bindTo (stLocL ns') target) (tests C ifs ns') (ev C elt ns') k (i + 1) loc₁ >>= fun r => pure (x :: r)) σ₂ = .ok l σ' at h
          obtain ⟨a, σ₃, hb3, h⟩ := bind_inv h
          obtain ⟨r, σ₄, hb4, h⟩ := bind_inv h
          cases h
          have h3 := he cenv ns' loc₁ σ₂ ρ₂ { sb with heap := H₂, toks := tk₂ } A hA x3.frm x3.inv
          rw [hb3] at h3
          refine wpAny_mono h3 (fun y s' hp => ?_) fun _ _ f => f
          obtain ⟨ρ₃, H₃, tk₃, rfl, i₃, e₃, ry⟩ := hp
          have x4 := x3.step K (W := []) (fun b hm => absurd hm (List.not_mem_nil)) i₃ e₃ (x3.frm.ext0 e₃)
          have wk4 := wk3.ext e₃ fun b hb hm => absurd hm List.not_mem_nil
          rw [List.length_cons] at hl
          refine CE.push (s := { sb with heap := H₃, toks := tk₃ }) K x4 wk4 ry (by (first | lia | omega)) fun h' x5 wk5 => ?_
          have := compLoop_ok (iter := iter) (scope := scope) (pos := pos) hA K ht he htg k (i + 1) loc₁ (l₀ ++ [a]) σ₃ ρ₃ h' tk₃ r σ' x5 wk5 hb4 (by rw [List.length_append, List.length_singleton]; (first | lia | omega))
          rw [List.append_assoc] at this
          exact this

/-- an object of the heap is taken into the store -/
theorem Inv.adopt {a : Addr} {o : O} {h : Heap} (i : Inv prog w h₀ σ ρ h) (off : offMap ρ a) (h0 : h₀.get? a = none) (ho : ORel prog w (ρ ++ [(a, a)]) h (a, a) o) : Inv prog w h₀ (σ ++ [o]) (ρ ++ [(a, a)]) h := by
  have hcase : ∀ (n : Nat) (p : Addr × Addr), (ρ ++ [(a, a)])[n]? = some p → ρ[n]? = some p ∨ (n = ρ.length ∧ p = (a, a)) := fun n p e => by
    rcases Nat.lt_or_ge n ρ.length with hl | hl
    · rw [List.getElem?_append_left hl] at e; exact .inl e
    · rw [List.getElem?_append_right hl] at e
      rcases Nat.eq_zero_or_pos (n - ρ.length) with hz | hz
      · rw [hz] at e; cases e; exact .inr ⟨Nat.le_antisymm (Nat.le_of_sub_eq_zero hz) hl, rfl⟩
      · rw [List.getElem?_eq_none (by simp; exact hz)] at e; cases e
  refine ⟨i.base, by simp [i.len], fun n o' p e1 e2 => ?_, fun n p hp hn => ?_, fun j k p q e1 e2 hjk => ?_⟩
  · rcases hcase n p e2 with e2 | ⟨rfl, rfl⟩
    · have hl : n < σ.length := by
        rcases Nat.lt_or_ge n ρ.length with hl | hl
        · rw [← i.len]; exact hl
        · rw [List.getElem?_eq_none hl] at e2; cases e2
      rw [List.getElem?_append_left hl] at e1
      exact (i.objs n o' p e1 e2).sub Sub.snoc (fun ob g => g) (fun ob g => g)
    · rw [i.len, List.getElem?_append_right (Nat.le_refl _), Nat.sub_self] at e1
      cases e1; exact ho
  · rcases hcase n p hp with hp | ⟨_, rfl⟩
    · exact i.fresh n p hp hn
    · exact ⟨h0, h0⟩
  · rcases hcase j p e1 with e1 | ⟨rfl, rfl⟩ <;> rcases hcase k q e2 with e2 | ⟨rfl, rfl⟩
    · exact i.apart j k p q e1 e2 hjk
    · have := off p (List.mem_of_getElem? e1)
      exact ⟨this.1.symm, this.1.symm, this.2.symm, this.2.symm⟩
    · have := off q (List.mem_of_getElem? e2)
      exact ⟨this.1, this.2, this.1, this.2⟩
    · exact absurd rfl hjk
theorem Ext.adopt {a : Addr} {h : Heap} (x : Ext W ρb hb ρ h) (hd : hb.get? a = none) : Ext W ρb hb (ρ ++ [(a, a)]) h where
  pre := fun n p e => Sub.snoc (h := h).1 n p (x.pre n p e)
  keep := x.keep
  tups := x.tups
  alive := x.alive
  new := fun j p e hj => by
    rcases Nat.lt_or_ge j ρ.length with hl | hl
    · rw [List.getElem?_append_left hl] at e; exact x.new j p e hj
    · rw [List.getElem?_append_right hl] at e
      rcases Nat.eq_zero_or_pos (j - ρ.length) with hz | hz
      · rw [hz] at e; cases e; exact ⟨hd, hd⟩
      · rw [List.getElem?_eq_none (by simp; exact hz)] at e; cases e
end
end Mine

namespace Mine
open PySem PyProof.Rows

section
variable {prog : Program} {w : World} {h₀ hb : Heap} {A : Around} {W wr : List Addr} {ρ ρ' ρb : Map} {s sb : Shared} {σ : Store} {fns : Str → Option Fn} {glob : Str → Option V} {mg mb : Str → Option Value}
variable {env cenv : Env} {ns ns' : Names} {loc : Loc} {C : Cfg} {n : Nat}

/-- what a comprehension answers on the store's side -/
noncomputable def compM (C : Cfg) (elt target iter : Expr) (ifs : List Expr) (scope : Scope) (ns : Names) (loc : Loc) : M V := do
  let s ← src C iter ns loc (ev C iter ns loc)
  if tgtOk s target && compOk scope.kind scope.names then do
    let n ← s.count
    let loc' ← innerLoc ns loc scope.names
    let l ← compLoop s (bindTo (stLocL (relab ns scope.names)) target) (tests C ifs (relab ns scope.names)) (ev C elt (relab ns scope.names)) (n + 1) 0 loc'
    if l.length ≤ sizeLine then newO (.list l) else M.bad
  else M.bad

theorem compOk_kind {k : ScopeKind} {names : Names} (h : compOk k names = true) : k = .function ∧ ∀ x ∈ names, x.2 = .local → names.lookup x.1 = some .local := by
  unfold compOk at h
  simp only [Bool.and_eq_true, List.all_eq_true] at h
  obtain ⟨h1, h2⟩ := h
  refine ⟨?_, fun x hx hl => ?_⟩
  · cases k <;> first | rfl | cases h1
  · have := h2 x hx
    rw [hl] at this
    dsimp only at this
    cases e : names.lookup x.1 with
    | none => rw [e] at this; cases this
    | some k' => rw [e] at this; cases k' <;> first | rfl | cases this

theorem ask_ok {α : Type} {f : Store → Option α} {a : α} {σ' : Store} (h : askS f σ = .ok a σ') : σ' = σ ∧ f σ = some a := by
  unfold askS at h
  cases e : f σ with
  | none => rw [e] at h; cases h
  | some b => rw [e] at h; cases h; exact ⟨rfl, rfl⟩

theorem ite_ok {α : Type} {c : Prop} [Decidable c] {m : M α} {a : α} {σ' : Store} (h : (if c then m else M.bad) σ = .ok a σ') : c ∧ m σ = .ok a σ' := by
  by_cases hc : c
  · rw [if_pos hc] at h; exact ⟨hc, h⟩
  · rw [if_neg hc] at h; cases h

theorem set_no_fold {iter : Expr} (h : ∀ es k p, iter ≠ .Set es k p) : ∀ x, foldedSetIterable iter env x = pure x := by
  intro x
  cases iter <;> first | rfl | exact absurd rfl (h _ _ _)

theorem src_set {es : List Expr} {k : Nat} {p : Pos} : src C (.Set es k p) ns loc (ev C (.Set es k p) ns loc) σ = .bad := rfl

/-- a comprehension up to its end -/
theorem comp_core {elt target iter : Expr} {ifs : List Expr} {scope : Scope} {pos : Pos} {v : V} {σ' : Store} {use : Option (Value → Sem Unit)} {Q : Value → Shared → Prop} {E : Value → Shared → Prop} {pp : Pos} (hA : Rm A n) (F : Frm env ns loc ρ s.heap) (iv : Inv prog w h₀ σ ρ s.heap)
    (hs : SrcS prog w h₀ C n iter) (ht : TestsS prog w h₀ C n ifs) (he : EvS prog w h₀ C n elt) (h : compM C elt target iter ifs scope ns loc σ = .ok v σ')
    (hend : ∀ D c f ρ' H tk m, Inv prog w h₀ σ' ρ' H → Ext [] ρ s.heap ρ' H → Rel ρ' H (.ref D) v → H.Ns c m → offMap ρ' c → s.heap.get? c = none → compPost (model prog w) A E use Q (.ref D) c (.ok f) { s with heap := H, toks := tk }) :
    wpAny (model prog w) A (comprehension (.ListComp elt [⟨target, iter, ifs, 0⟩] scope pos) scope env pp (newList []) false (eval iter env) use) Q E s := by
  obtain ⟨sr, σ₁, h1, k1⟩ := bind_inv h
  obtain ⟨hc, k2⟩ := ite_ok k1
  obtain ⟨N, σ₂, h2, k3⟩ := bind_inv k2
  obtain ⟨rfl, h2'⟩ := ask_ok h2
  obtain ⟨loc', σ₃, h3, k4⟩ := bind_inv k3
  obtain ⟨l, σ₄, h4, k5⟩ := bind_inv k4
  obtain ⟨hl, k6⟩ := ite_ok k5
  cases k6
  simp only [Bool.and_eq_true] at hc
  obtain ⟨htg, hco⟩ := hc
  obtain ⟨hkind, hnames⟩ := compOk_kind hco
  have hin := h3
  obtain ⟨rfl, hnc, hfr, hsl⟩ := innerLoc_ok h3
  obtain ⟨cl, hclos, hcl, hcl2⟩ := closure_ok (env := env) (scope := scope) fun x hx hf => by
    obtain ⟨j, hj⟩ := hfr x hx hf
    obtain ⟨c, o, e, _⟩ := F.cell x.1 j hj
    exact ⟨c, e⟩
  have hset : ∀ es k p, iter ≠ .Set es k p := fun es k p e => by subst e; rw [src_set] at h1; cases h1
  refine wpAny_comprehension_free (g := ⟨target, iter, ifs, 0⟩) (gs := []) (cl := cl) rfl (set_no_fold hset) hclos hkind hnames ?_
  have hsrc := hs env ns loc σ ρ s A hA F iv
  rw [h1] at hsrc
  refine wpAny_mono hsrc (fun xv s₁ hp => ?_) fun _ _ f => f.elim
  obtain ⟨ρ₁, H₁, tk₁, rfl, i₁, x₁, r₁⟩ := hp
  refine RSrc.iter (s := { s with heap := H₁, toks := tk₁ }) i₁ x₁ r₁ fun it wr h₂ hk₂ wk hdead => ?_
  have i₂ := i₁.keeps hk₂
  have x₂ : Ext [] ρ s.heap ρ₁ h₂ := x₁.trans (Ext.of_keeps hk₂)
  have F₂ : Frm env ns loc ρ₁ h₂ := F.ext0 x₂
  -- the list that grows, the block's names
  refine wpAny_newObj_type (T := "list") (wpAny_newFunctionEnv hnc (by intro y hy; simp at hy) (fun h₃ hns₃ hsb₃ => ?_) hkind)
  dsimp only at hns₃ hsb₃ ⊢
  have hD3 : ∀ b o, h₂.get? b = some o → h₃.get? b = some o := fun b o e => hsb₃.extBut b o (Nat.ne_of_lt (Heap.lt_size (Heap.get?_push_of_some _ e))) (Heap.get?_push_of_some _ (Heap.get?_push_of_some _ e))
  generalize hH2 : h₂.push { cls := .type "list", dict := none, data := .seq ([] : List Value).toArray } = H2 at hns₃ hsb₃ ⊢
  have hDg : h₃.get? h₂.objs.size = some (listO [] 0) := hsb₃.extBut _ _ (by rw [← hH2, Heap.size_push]; exact Nat.ne_of_lt (Nat.lt_succ_self _)) (Heap.get?_push_of_some _ (hH2 ▸ Heap.get?_push_size _ rfl))
  have hDC : h₂.objs.size ≠ H2.objs.size := by rw [← hH2, Heap.size_push]; exact Nat.ne_of_lt (Nat.lt_succ_self _)
  have deadD := size_dead x₂.alive
  have hs2 : H2.objs.size = h₂.objs.size + 1 := by rw [← hH2, Heap.size_push]
  have deadC2 : h₂.get? H2.objs.size = none := by
    cases e : h₂.get? H2.objs.size with
    | none => rfl
    | some o => exact absurd (Heap.lt_size e) (by rw [hs2]; exact Nat.not_lt.mpr (Nat.le_succ _))
  have deadC : s.heap.get? H2.objs.size = none := by
    cases e : s.heap.get? H2.objs.size with
    | none => rfl
    | some o => obtain ⟨o', e'⟩ := x₂.alive _ _ e; rw [deadC2] at e'; cases e'
  have i₃ := i₂.keeps hD3
  have offD : offMap ρ₁ h₂.objs.size := i₂.off_size
  have offC : offMap ρ₁ H2.objs.size := fun p hp => by
    obtain ⟨⟨o1, e1⟩, ⟨o2, e2⟩⟩ := i₂.alive hp
    exact ⟨fun e => (by rw [← e, deadC2] at e1; cases e1), fun e => (by rw [← e, deadC2] at e2; cases e2)⟩
  have F₃ : Frm env ns loc ρ₁ h₃ := F₂.ext0 (Ext.of_keeps hD3)
  generalize hce : ({ newEnv scope H2.objs.size env.globals cl env.qual none .none (some env) (builtinsNs) with scope := relabel scope env } : Env) = cenv
  have hcloc : cenv.locals = H2.objs.size := by rw [← hce]; rfl
  have hccell : cenv.cells = cl := by rw [← hce]; rfl
  have Fc : Frm cenv (relab ns scope.names) loc' ρ₁ h₃ := compFrm F₃ hin hkind hcl hcl2 (by rw [← hce]; rfl) hns₃ offC fun x d hd e => by
    obtain ⟨_, o, ho, _⟩ := F₂.live x d hd
    rw [e, deadC2] at ho; cases ho
  have hcl_live : ∀ y c, cenv.cells.lookup y = some c → ∃ o, s.heap.get? c = some o := fun y c hc => by
    rw [hccell] at hc
    obtain ⟨_, o, ho, _⟩ := F.live y c (hcl _ _ hc)
    exact ⟨o, ho⟩
  have K : CK h₀ s.heap cenv wr h₂.objs.size :=
    { deadW := hdead
      deadD := deadD
      deadC := by rw [hcloc]; exact deadC
      offW := fun b hb => by
        refine ⟨fun e => ?_, fun y c hc e => ?_⟩
        · obtain ⟨_, o, ho, _⟩ := wk.own b hb
          rw [e, hcloc, deadC2] at ho; cases ho
        · obtain ⟨o, ho⟩ := hcl_live y c hc
          rw [← e, hdead b hb] at ho; cases ho
      offD := ⟨by rw [hcloc]; exact hDC, fun y c hc e => by
          obtain ⟨o, ho⟩ := hcl_live y c hc
          rw [← e, deadD] at ho; cases ho⟩
      base := fun b o e => ⟨o, iv.base b o e⟩
      DW := fun hm => by
        obtain ⟨_, o, ho, _⟩ := wk.own _ hm
        exact absurd (Heap.lt_size ho) (Nat.lt_irrefl _) }
  have X : CE prog w h₀ ρ s.heap cenv (relab ns scope.names) h₂.objs.size loc' [] σ₃ ρ₁ h₃ :=
    { inv := i₃
      frm := Fc
      ext := x₂.trans (Ext.of_keeps hD3)
      acc := ⟨[], 0, hDg, .nil⟩
      off := offD }
  have wk3 := wk.ext (Ext.of_keeps (W := []) hD3) fun b hb hm => absurd hm List.not_mem_nil
  have loop := fun tk => compLoop_ok (iter := iter) (scope := scope) (pos := pos) (sb := s) hA K ht he htg (N + 1) 0 loc' [] σ₃ ρ₁ h₃ tk l σ₄ X wk3 h4 (by simpa using hl)
  have fin : ∀ tk, codeAny (model prog w) A (.compLoop (.ListComp elt [⟨target, iter, ifs, 0⟩] scope pos) 0 it (.ref h₂.objs.size) cenv) (compPost (model prog w) A E use Q (.ref h₂.objs.size) H2.objs.size) { s with heap := h₃, toks := tk } := fun tk => by
    refine codeAny_mono (loop tk) fun r s' hr => ?_
    obtain ⟨rfl, loc₅, ρ₅, H₅, tk₅, rfl, X₅⟩ := hr
    obtain ⟨vs, k, g, rv⟩ := X₅.acc
    obtain ⟨m, hn, _⟩ := X₅.frm.vars
    rw [hcloc] at hn
    have offC5 := X₅.frm.offL
    rw [hcloc] at offC5
    refine hend _ _ _ (ρ₅ ++ [(h₂.objs.size, h₂.objs.size)]) H₅ tk₅ m (X₅.inv.adopt X₅.off (K.base0 deadD) ⟨rfl, vs, k, g, by rw [rv.length]; simpa using hl, rv.sub Sub.snoc⟩) (X₅.ext.adopt deadD) (.ref (d := h₂.objs.size) ?_) hn (fun p hp => ?_) deadC
    · rw [← X₅.inv.len, List.getElem?_append_right (Nat.le_refl _), Nat.sub_self]; rfl
    · rcases List.mem_append.mp hp with hp | hp
      · exact offC5 p hp
      · rw [List.mem_singleton.mp hp]; exact ⟨hDC.symm, hDC.symm⟩
  exact codeAny_compStart_list (fin _) (wk3.self (s := { s with heap := h₃, toks := _ }) (fin _))
end
end Mine

namespace Mine
open PySem PyProof.Rows

section
variable {prog : Program} {w : World} {h₀ hb : Heap} {A : Around} {W wr : List Addr} {ρ ρ' ρb : Map} {s sb : Shared} {σ : Store} {fns : Str → Option Fn} {glob : Str → Option V} {mg mb : Str → Option Value}
variable {env cenv : Env} {ns ns' : Names} {loc : Loc} {C : Cfg} {n : Nat}

/-- a comprehension's names let go -/
theorem comp_end {c : Addr} {H h' : Heap} {m : Str → Option Value} (i : Inv prog w h₀ σ ρ' H) (x : Ext W ρ hb ρ' H) (h0 : ∀ b o, h₀.get? b = some o → ∃ o', hb.get? b = some o') (hn : H.Ns c m) (off : offMap ρ' c) (hd : hb.get? c = none) (hs : Heap.SameBut c H h') :
    Inv prog w h₀ σ ρ' h' ∧ Ext W ρ hb ρ' h' ∧ KeepBut [c] H h' ∧ Own [c] ρ' H := by
  have hk : KeepBut [c] H h' := KeepBut.of_but hs.extBut (List.mem_singleton.mpr rfl)
  have own : Own [c] ρ' H := fun b hb => by
    rw [List.mem_singleton.mp hb]
    obtain ⟨o, es, ep, ho, r⟩ := id hn
    exact ⟨off, o, ho, ns_not_tup hn ho⟩
  refine ⟨i.but hk own fun b hb' => ?_, x.but hk fun b hb' => by rw [List.mem_singleton.mp hb']; exact hd, hk, own⟩
  rw [List.mem_singleton.mp hb']
  cases e : h₀.get? c with
  | none => rfl
  | some o => obtain ⟨o', e'⟩ := h0 _ _ e; rw [hd] at e'; cases e'

theorem ev_listcomp {elt target iter : Expr} {ifs : List Expr} {scope : Scope} {pos : Pos} (hs : SrcS prog w h₀ C n iter) (ht : TestsS prog w h₀ C n ifs) (he : EvS prog w h₀ C n elt) : EvS prog w h₀ C n (.ListComp elt [⟨target, iter, ifs, 0⟩] scope pos) :=
  fun env ns loc σ ρ s A hA F i => by
  show Sim prog w h₀ A [] _ (compM C elt target iter ifs scope ns loc σ) RV ρ s
  cases h : compM C elt target iter ifs scope ns loc σ with
  | bad => exact trivial
  | exc _ _ => exact trivial
  | ok v σ' =>
    refine comp_core (use := none) hA F i hs ht he h fun D c f ρ' H tk m i' x' r hn off hd => ⟨m, hn, fun h' hsb => ?_⟩
    obtain ⟨i₂, x₂, hk, own⟩ := comp_end i' x' (fun b o e => ⟨o, i.base b o e⟩) hn off hd hsb
    exact ⟨ρ', h', tk, rfl, i₂, x₂, r.sub (hk.sub own)⟩

/-! ## statements -/
noncomputable def RFl (ρ : Map) (h : Heap) : Fl → Flow → Prop
  | .next, f => f = .next
  | .brk, f => f = .brk
  | .cont, f => f = .cont
  | .ret v, f => ∃ val, f = .ret val ∧ Rel ρ h val v
noncomputable def RX (env : Env) (ns : Names) : Fl × Loc → Map → Heap → Flow → Prop := fun r ρ h f => RFl ρ h r.1 f ∧ Frm env ns r.2 ρ h

variable (prog w h₀ C n) in
noncomputable def ExS (st : Stmt) : Prop := ∀ (env : Env) (ns : Names) (loc : Loc) (σ : Store) (ρ : Map) (s : Shared) (A : Around), Rm A n → (∀ b ∈ frameW env, h₀.get? b = none) → Frm env ns loc ρ s.heap → Inv prog w h₀ σ ρ s.heap →
  Sim prog w h₀ A (frameW env) (exec st env) (ex C st ns loc σ) (RX env ns) ρ s
variable (prog w h₀ C n) in
noncomputable def ExsS (sts : List Stmt) : Prop := ∀ (env : Env) (ns : Names) (loc : Loc) (σ : Store) (ρ : Map) (s : Shared) (A : Around), Rm A n → (∀ b ∈ frameW env, h₀.get? b = none) → Frm env ns loc ρ s.heap → Inv prog w h₀ σ ρ s.heap →
  Sim prog w h₀ A (frameW env) (execs sts env) (exs C sts ns loc σ) (RX env ns) ρ s

/-- an expression within a statement -/
theorem EvS.st {e : Expr} (he : EvS prog w h₀ C n e) (hA : Rm A n) (F : Frm env ns loc ρ s.heap) (i : Inv prog w h₀ σ ρ s.heap) : Sim prog w h₀ A W (eval e env) (ev C e ns loc σ) (fun v ρ' h' b => Rel ρ' h' b v ∧ Frm env ns loc ρ' h') ρ s := by
  have := he env ns loc σ ρ s A hA F i
  cases h : ev C e ns loc σ with
  | bad => exact trivial
  | exc _ _ => exact trivial
  | ok v σ' =>
    rw [h] at this
    refine wpAny_mono this (fun b s' hp => ?_) fun _ _ x => x
    obtain ⟨ρ₁, H, tk, rfl, i₁, x₁, r₁⟩ := hp
    exact ⟨ρ₁, H, tk, rfl, i₁, x₁.weak fun _ hm => absurd hm List.not_mem_nil, r₁, F.ext0 x₁⟩
theorem TstS.st {e : Expr} (he : TstS prog w h₀ C n e) (hA : Rm A n) (F : Frm env ns loc ρ s.heap) (i : Inv prog w h₀ σ ρ s.heap) : Sim prog w h₀ A W (isTrue e env (eval e env)) (tst C e ns loc (ev C e ns loc) σ) (fun v ρ' h' b => b = v ∧ Frm env ns loc ρ' h') ρ s := by
  have := he env ns loc σ ρ s A hA F i
  cases h : tst C e ns loc (ev C e ns loc) σ with
  | bad => exact trivial
  | exc _ _ => exact trivial
  | ok v σ' =>
    rw [h] at this
    refine wpAny_mono this (fun b s' hp => ?_) fun _ _ x => x
    obtain ⟨ρ₁, H, tk, rfl, i₁, x₁, r₁⟩ := hp
    exact ⟨ρ₁, H, tk, rfl, i₁, x₁.weak fun _ hm => absurd hm List.not_mem_nil, r₁, F.ext0 x₁⟩

theorem exs_nil : ExsS prog w h₀ C n [] := fun env ns loc σ ρ s A hA hf F i => Sim.ret i ⟨rfl, F⟩
theorem exs_cons {st : Stmt} {r : List Stmt} (h : ExS prog w h₀ C n st) (hr : ExsS prog w h₀ C n r) : ExsS prog w h₀ C n (st :: r) := fun env ns loc σ ρ s A hA hf F i => by
  rw [execs_cons]
  show Sim prog w h₀ A (frameW env) _ ((ex C st ns loc >>= fun x => andThen x (exs C r ns)) σ) (RX env ns) ρ s
  refine Sim.bind (h env ns loc σ ρ s A hA hf F i) fun a σ₁ ρ₁ H tk f i₁ x₁ r₁ => ?_
  obtain ⟨fl, loc₁⟩ := a
  obtain ⟨rf, F₁⟩ := r₁
  cases fl with
  | next => cases rf; exact hr env ns loc₁ σ₁ ρ₁ _ A hA hf F₁ i₁
  | brk => cases rf; exact Sim.ret i₁ ⟨rfl, F₁⟩
  | cont => cases rf; exact Sim.ret i₁ ⟨rfl, F₁⟩
  | ret v =>
    obtain ⟨val, rfl, rv⟩ := rf
    exact Sim.ret i₁ ⟨⟨val, rfl, rv⟩, F₁⟩

theorem ex_pass {pos : Pos} : ExS prog w h₀ C n (.Pass pos) := fun env ns loc σ ρ s A hA hf F i => by
  rw [arm_exec_Pass]; exact Sim.standAt (Sim.ret i ⟨rfl, F⟩)
theorem ex_return0 {pos : Pos} : ExS prog w h₀ C n (.Return none pos) := fun env ns loc σ ρ s A hA hf F i => by
  rw [arm_exec_Return]; exact Sim.standAt (Sim.ret i ⟨⟨.none, rfl, .none⟩, F⟩)
theorem ex_return {e : Expr} {pos : Pos} (he : EvS prog w h₀ C n e) : ExS prog w h₀ C n (.Return (some e) pos) := fun env ns loc σ ρ s A hA hf F i => by
  rw [arm_exec_Return]
  refine Sim.standAt (Sim.bind (he.st hA F i) fun a σ₁ ρ₁ H tk b i₁ x₁ r₁ => ?_)
  exact Sim.ret i₁ ⟨⟨b, rfl, r₁.1⟩, r₁.2⟩
theorem ex_if {t : Expr} {a b : List Stmt} {pos : Pos} (ht : TstS prog w h₀ C n t) (ha : ExsS prog w h₀ C n a) (hb : ExsS prog w h₀ C n b) : ExS prog w h₀ C n (.If t a b pos) := fun env ns loc σ ρ s A hA hf F i => by
  rw [arm_exec_If]
  refine Sim.standAt (Sim.bind (ht.st hA F i) fun c σ₁ ρ₁ H tk c' i₁ x₁ r₁ => ?_)
  obtain ⟨rfl, F₁⟩ := r₁
  cases c' with
  | true => exact ha env ns loc σ₁ ρ₁ _ A hA hf F₁ i₁
  | false => exact hb env ns loc σ₁ ρ₁ _ A hA hf F₁ i₁

theorem Sim.dropValue {e : Expr} {p : Pos} {v : Value} (i : Inv prog w h₀ σ ρ s.heap) (F : Frm env ns loc ρ s.heap) : Sim prog w h₀ A W (PySem.dropValue e p v) ((Pure.pure (Fl.next, loc) : M (Fl × Loc)) σ) (RX env ns) ρ s := by
  have fin : Post prog w h₀ W ρ s σ (fun ρ' h' => RX env ns (.next, loc) ρ' h' .next) s := ⟨ρ, s.heap, s.toks, rfl, i, Ext.refl, rfl, F⟩
  have go : wpAny (model prog w) A (do PySem.standAt p; let _ ← runValue (.builtin "proto.let_go" {}); Pure.pure Flow.next) (fun b s' => Post prog w h₀ W ρ s σ (fun ρ' h' => RX env ns (.next, loc) ρ' h' b) s') (fun _ _ => False) s :=
    wpAny_bind (wpAny_standAt (wpAny_bind (wpAny_runValue (codeAny_builtin entry_let_go (show wpAny _ _ (PySem.ret .none) _ _ s from wpAny_pure (wpAny_pure fin))))))
  cases e <;> cases v <;> first | exact wpAny_pure fin | exact go

theorem ex_expr {f : Expr} {as : List Expr} {p pos : Pos} (he : EvS prog w h₀ C n (.Call f as [] p)) : ExS prog w h₀ C n (.Expr (.Call f as [] p) pos) := fun env ns loc σ ρ s A hA hf F i => by
  rw [arm_exec_Expr]
  have hi : interactive env = false := by unfold interactive; rw [F.kind]; rfl
  have hsw : swapsWith (.Call f as [] p) none pos.line env = Pure.pure false := rfl
  rw [hi, hsw]
  refine Sim.standAt ?_
  show Sim prog w h₀ A (frameW env) (eval (.Call f as [] p) env >>= fun v => PySem.dropValue (.Call f as [] p) pos v) ((ev C (.Call f as [] p) ns loc >>= fun _ => (Pure.pure (Fl.next, loc) : M (Fl × Loc))) σ) (RX env ns) ρ s
  exact Sim.bind (he.st hA F i) fun a σ₁ ρ₁ H tk b i₁ x₁ r₁ => Sim.dropValue i₁ r₁.2

/-! assignments -/
theorem Sim.pureNext {t : Sem Unit} {m : M Loc} (h : Sim prog w h₀ A W t (m σ) (RFrm env ns) ρ s) : Sim prog w h₀ A W (t >>= fun _ => Pure.pure Flow.next) ((m >>= fun l => (Pure.pure (Fl.next, l) : M (Fl × Loc))) σ) (RX env ns) ρ s :=
  Sim.bind h fun a σ₁ ρ₁ H tk b i₁ x₁ r₁ => Sim.ret i₁ ⟨rfl, r₁⟩

variable (prog w h₀ C n) in
/-- what an assignment needs of a comprehension to its right -/
noncomputable def CompS (value : Expr) : Prop := ∀ elt t it ifs sc p, value = .ListComp elt [⟨t, it, ifs, 0⟩] sc p → SrcS prog w h₀ C n it ∧ TestsS prog w h₀ C n ifs ∧ EvS prog w h₀ C n elt

theorem ex_assignName_plain {x : Str} {p pos : Pos} {value : Expr} (hv : EvS prog w h₀ C n value) (hA : Rm A n) (hf : ∀ b ∈ frameW env, h₀.get? b = none) (F : Frm env ns loc ρ s.heap) (i : Inv prog w h₀ σ ρ s.heap) (hsw : swapsWith value (some (.Name x p)) pos.line env = pure false) :
    Sim prog w h₀ A (frameW env) (exec (.Assign [.Name x p] value pos) env) (ex C (.Assign [.Name x p] value pos) ns loc σ) (RX env ns) ρ s := by
  rw [PySem.exec_Assign_Name _ _ _ _ _ hsw]
  show Sim prog w h₀ A (frameW env) _ ((ev C value ns loc >>= fun v => stLoc ns x v loc >>= fun l => (Pure.pure (Fl.next, l) : M (Fl × Loc))) σ) (RX env ns) ρ s
  refine Sim.standAt (Sim.bind (hv.st hA F i) fun a σ₁ ρ₁ H tk b i₁ x₁ r₁ => Sim.standAt ?_)
  exact Sim.pureNext (Sim.bindName ((stLoc_ok hf).store x b a loc σ₁ ρ₁ _ A r₁.2 i₁ r₁.1))

theorem ex_assignName_used {x : Str} {p pos cp : Pos} {elt target iter : Expr} {ifs : List Expr} {scope : Scope} (hs : SrcS prog w h₀ C n iter) (ht : TestsS prog w h₀ C n ifs) (he : EvS prog w h₀ C n elt) (hA : Rm A n) (hf : ∀ b ∈ frameW env, h₀.get? b = none)
    (F : Frm env ns loc ρ s.heap) (i : Inv prog w h₀ σ ρ s.heap) (hsw : swapsWith (.ListComp elt [⟨target, iter, ifs, 0⟩] scope cp) (some (.Name x p)) pos.line env = pure true) :
    Sim prog w h₀ A (frameW env) (exec (.Assign [.Name x p] (.ListComp elt [⟨target, iter, ifs, 0⟩] scope cp) pos) env) (ex C (.Assign [.Name x p] (.ListComp elt [⟨target, iter, ifs, 0⟩] scope cp) pos) ns loc σ) (RX env ns) ρ s := by
  rw [exec_Assign_Name_used _ _ _ _ hsw]
  show Sim prog w h₀ A (frameW env) _ ((compM C elt target iter ifs scope ns loc >>= fun v => stLoc ns x v loc >>= fun l => (Pure.pure (Fl.next, l) : M (Fl × Loc))) σ) (RX env ns) ρ s
  cases h : compM C elt target iter ifs scope ns loc σ with
  | bad => rw [bind_bad h]; exact trivial
  | exc _ _ => rw [bind_exc h]; exact trivial
  | ok v σ' =>
    rw [bind_ok h]
    cases h2 : stLoc ns x v loc σ' with
    | bad => rw [bind_bad h2]; exact trivial
    | exc _ _ => rw [bind_exc h2]; exact trivial
    | ok loc' σ'' =>
      rw [bind_ok h2]
      refine wpAny_bind (wpAny_standAt (wpAny_bind ?_))
      rw [arm_evalThenUse_ListComp]
      refine wpAny_bind (comp_core (use := some (assign (.Name x p) env)) (Q := fun _ s' => _) hA F i hs ht he h fun D c f ρ' H tk m i' x' r hn off hd => ?_)
      have st := Sim.bindTo (s := { s with heap := H, toks := tk }) (t := .Name x p) (stLoc_ok (prog := prog) (w := w) (env := env) (ns := ns) hf) hA.handled (F.ext0 x') i' r
      rw [show bindTo (stLoc ns) (.Name x p) v loc σ' = .ok loc' σ'' from h2] at st
      refine wpAny_mono st (fun _ s' hp => ?_) fun _ _ f => f
      obtain ⟨ρ₁, H₁, tk₁, rfl, i₁, x₁, F₁⟩ := hp
      have hcF : offFrame env c := F.offDead hd
      obtain ⟨o, es, ep, ho, rr⟩ := id hn
      have hn1 : H₁.Ns c m := ⟨o, es, ep, x₁.keep _ _ ho hcF.notin off, rr⟩
      refine ⟨m, hn1, fun h' hsb => wpAny_pure (wpAny_pure ?_)⟩
      have x2 : Ext (frameW env) ρ s.heap ρ₁ H₁ := (x'.weak fun _ hm => absurd hm List.not_mem_nil).trans x₁
      obtain ⟨i₂, x₂, hk, own⟩ := comp_end i₁ x2 (fun b o e => ⟨o, i.base b o e⟩) hn1 (offMap.ext x₁ ho off) hd hsb
      exact ⟨ρ₁, h', tk₁, rfl, i₂, x₂, rfl, F₁.but hk own fun b hb => by rw [List.mem_singleton.mp hb]; exact hcF⟩

theorem ex_assignName {x : Str} {p pos : Pos} {value : Expr} (hv : EvS prog w h₀ C n value) (hc : CompS prog w h₀ C n value) : ExS prog w h₀ C n (.Assign [.Name x p] value pos) := fun env ns loc σ ρ s A hA hf F i => by
  have plain := fun hsw => ex_assignName_plain (x := x) (p := p) (pos := pos) hv hA hf F i hsw
  have badv : ∀ (hb : ev C value ns loc σ = .bad), Sim prog w h₀ A (frameW env) (exec (.Assign [.Name x p] value pos) env) (ex C (.Assign [.Name x p] value pos) ns loc σ) (RX env ns) ρ s := fun hb => by
    show Sim prog w h₀ A (frameW env) _ ((ev C value ns loc >>= fun v => stLoc ns x v loc >>= fun l => (Pure.pure (Fl.next, l) : M (Fl × Loc))) σ) (RX env ns) ρ s
    rw [bind_bad hb]; exact trivial
  cases value with
  | ListComp elt gens scope cp =>
    have hb : ∃ b, swapsWith (.ListComp elt gens scope cp) (some (.Name x p)) pos.line env = Pure.pure b := ⟨_, rfl⟩
    obtain ⟨b, hb⟩ := hb
    cases b with
    | false => exact plain hb
    | true =>
      rcases comp_cases gens with ⟨t, it, ifs, rfl⟩ | hbad
      · obtain ⟨h1, h2, h3⟩ := hc elt t it ifs scope cp rfl
        exact ex_assignName_used h1 h2 h3 hA hf F i hb
      · exact badv (by rw [hbad]; rfl)
  | SetComp _ _ _ _ => exact badv rfl
  | DictComp _ _ _ _ _ => exact badv rfl
  | _ => exact plain rfl

theorem ex_assignSub {o i : Expr} {p pos : Pos} {value : Expr} (hv : EvS prog w h₀ C n value) (ho : EvS prog w h₀ C n o) (hi : EvS prog w h₀ C n i) : ExS prog w h₀ C n (.Assign [.Subscript o i p] value pos) := fun env ns loc σ ρ s A hA hf F iv => by
  rw [exec_Assign_Subscript _ _ _ _ _ (by cases value <;> rfl)]
  show Sim prog w h₀ A (frameW env) _ ((ev C value ns loc >>= fun v => ev C o ns loc >>= fun a => ev C i ns loc >>= fun b => Mine.setItem a b v >>= fun _ => (Pure.pure (Fl.next, loc) : M (Fl × Loc))) σ) (RX env ns) ρ s
  refine Sim.standAt (Sim.bind (hv.st hA F iv) fun a σ₁ ρ₁ H₁ tk₁ va i₁ x₁ r₁ => ?_)
  have em : (ev C o ns loc >>= fun b => ev C i ns loc >>= fun c => Mine.setItem b c a >>= fun _ => (Pure.pure (Fl.next, loc) : M (Fl × Loc))) = ((ev C o ns loc >>= fun b => ev C i ns loc >>= fun c => Mine.setItem b c a >>= fun _ => (Pure.pure loc : M Loc)) >>= fun l => Pure.pure (Fl.next, l)) := by
    rw [M.assoc]; congr 1; funext b
    rw [M.assoc]; congr 1; funext c
    rw [M.assoc]; rfl
  rw [em]
  refine Sim.pureNext ?_
  rw [arm_assign_Subscript]
  refine Sim.bind (Sim.holding (ho.st hA r₁.2 i₁)) fun b σ₂ ρ₂ H₂ tk₂ vb i₂ x₂ r₂ => ?_
  refine Sim.bind (Sim.holding (hi.st hA r₂.2 i₂)) fun c σ₃ ρ₃ H₃ tk₃ vc i₃ x₃ r₃ => Sim.standAt ?_
  have F₃ := r₃.2
  refine Sim.bind (R := fun _ ρ' h' _ => Frm env ns loc ρ' h') (Sim.holding ?_) fun _ σ₄ ρ₄ H₄ tk₄ _ i₄ x₄ F₄ => Sim.of_wp (wpAny_release ⟨ρ₄, H₄, tk₄, rfl, i₄, Ext.refl, F₄⟩)
  have hset := Sim.setItem (prog := prog) (w := w) (A := A) (W := []) (s := { s with heap := H₃, toks := tk₃ }) i₃ (r₂.1.ext x₃) r₃.1 ((r₁.1.ext x₂).ext x₃)
  cases h : Mine.setItem b c a σ₃ with
  | bad => exact trivial
  | exc _ _ => exact trivial
  | ok u σ' =>
    rw [h] at hset
    refine wpAny_mono hset (fun _ s' hp => ?_) fun _ _ f => f
    obtain ⟨ρ₅, H₅, tk₅, rfl, i₅, x₅, _⟩ := hp
    exact ⟨ρ₅, H₅, tk₅, rfl, i₅, x₅.weak fun _ hm => absurd hm List.not_mem_nil, F₃.ext0 x₅⟩
end
end Mine

namespace Mine
open PySem PyProof.Rows

section
variable {prog : Program} {w : World} {h₀ hb : Heap} {A : Around} {W wr : List Addr} {ρ ρ' ρb : Map} {s sb : Shared} {σ : Store} {fns : Str → Option Fn} {glob : Str → Option V} {mg mb : Str → Option Value}
variable {env cenv : Env} {ns ns' : Names} {loc : Loc} {C : Cfg} {n : Nat}

/-! ## for -/
theorem forLoop_turn {R : Result → Shared → Prop} {target : Expr} {it : Value} {body : List Stmt}
    (h : wpAny (model prog w) A (pyNext it) (fun r s₁ => match r with
      | none => R (.ok .next) s₁
      | some v => wpAny (model prog w) A (letOwnedTupleGo target it v) (fun _ s₁' =>
          wpAny (model prog w) A (assign target env v) (fun _ s₂ => wpAny (model prog w) A (execs body env) (fun f s₃ => match f with
            | .next | .cont => codeAny (model prog w) A (.forLoop target it body [] env) R s₃
            | .brk => R (.ok .next) s₃
            | .ret v => R (.ok (.ret v)) s₃) (fun _ _ => False) s₂) (fun _ _ => False) s₁') (fun _ _ => False) s₁) (fun _ _ => False) s) :
    codeAny (model prog w) A (.forLoop target it body [] env) R s := by
  refine codeAny_of_tree ?_
  show wpAny _ A ((forTurn target it body [] env).onRaise (fun x => do noteFrame x env; theTreesLotGoes x)) _ _ s
  refine wpAny_noted ?_
  simp only [forTurn]
  refine wpAny_bind (wpAny_standAt (wpAny_bind (wpAny_onRaise (wpAny_mono h (fun r s₁ h₁ => ?_) fun _ _ h' => h'.elim))))
  cases r with
  | none => exact wpAny_pure ⟨rfl, codeAny_block (wpAny_execs_nil h₁)⟩
  | some v =>
    refine wpAny_bind (wpAny_mono h₁ (fun _ s₁' h₁' => ?_) fun _ _ h' => h'.elim)
    refine wpAny_bind (wpAny_mono h₁' (fun _ s₂ h₂ => wpAny_bind (wpAny_mono h₂ (fun f s₃ h₃ => ?_) fun _ _ h' => h'.elim)) fun _ _ h' => h'.elim)
    cases f with
    | next => exact wpAny_pure ⟨rfl, h₃⟩
    | cont => exact wpAny_pure ⟨rfl, h₃⟩
    | brk => exact wpAny_pure h₃
    | ret v => exact wpAny_pure h₃

/-- the state of a loop, but for its walk -/
structure FE (prog : Program) (w : World) (h₀ : Heap) (ρb : Map) (hb : Heap) (env : Env) (ns : Names) (loc : Loc) (σ : Store) (ρ : Map) (h : Heap) : Prop where
  inv : Inv prog w h₀ σ ρ h
  frm : Frm env ns loc ρ h
  ext : Ext (frameW env) ρb hb ρ h
structure FK (h₀ : Heap) (hb : Heap) (env : Env) (wr : List Addr) : Prop where
  deadW : ∀ b ∈ wr, hb.get? b = none
  dead0 : ∀ b ∈ wr, h₀.get? b = none
  offW : ∀ b ∈ wr, offFrame env b

theorem FE.but {h h' : Heap} (K : FK h₀ hb env wr) (x : FE prog w h₀ ρb hb env ns loc σ ρ h) (hk : KeepBut wr h h') (ho : Own wr ρ h) : FE prog w h₀ ρb hb env ns loc σ ρ h' where
  inv := x.inv.but hk ho K.dead0
  frm := x.frm.but hk ho K.offW
  ext := x.ext.but hk K.deadW

theorem forLoop_step {sr : Src} {bt : V → Loc → M Loc} {body : Loc → M (Fl × Loc)} {k i : Nat} {o : Option V} (h : sr.at σ i = some o) : forLoop sr bt body (k + 1) i loc σ =
    (match o with | none => (pure (.next, loc) : M (Fl × Loc)) | some v => (bt v loc >>= fun loc' => body loc' >>= fun r => match r.1 with
      | .next => forLoop sr bt body k (i + 1) r.2
      | .cont => forLoop sr bt body k (i + 1) r.2
      | .brk => pure (.next, r.2)
      | .ret v => pure (.ret v, r.2))) σ := by
  show (sr.get i >>= _) σ = _
  refine (bind_ok (a := o) (σ' := σ) (by unfold Src.get askS; dsimp only; rw [h])).trans ?_
  cases o <;> rfl
theorem forLoop_bad {sr : Src} {bt : V → Loc → M Loc} {body : Loc → M (Fl × Loc)} {k i : Nat} (h : sr.at σ i = none) : forLoop sr bt body (k + 1) i loc σ = .bad := by
  show (sr.get i >>= _) σ = _
  rw [bind_bad (by unfold Src.get askS; dsimp only; rw [h])]

theorem forLoop_ok {target : Expr} {body : List Stmt} {sr : Src} {it : Value} (hA : Rm A n) (K : FK h₀ hb env wr) (hf : ∀ b ∈ frameW env, h₀.get? b = none) (hbd : ExsS prog w h₀ C n body) (htg : tgtOk sr target = true) :
    ∀ (k i : Nat) (loc : Loc) (σ : Store) (ρ : Map) (H : Heap) (tk : Nat) (r : Fl × Loc) (σ' : Store), FE prog w h₀ ρb hb env ns loc σ ρ H → ItAt sr it wr i ρ H →
      forLoop sr (bindTo (stLoc ns) target) (exs C body ns) k i loc σ = .ok r σ' →
      codeAny (model prog w) A (.forLoop target it body [] env)
        (fun res s' => ∃ f ρ' H' tk', res = .ok f ∧ s' = { sb with heap := H', toks := tk' } ∧ RFl ρ' H' r.1 f ∧ FE prog w h₀ ρb hb env ns r.2 σ' ρ' H') { sb with heap := H, toks := tk }
  | 0, _, _, _, _, _, _, _, _, _, _, h => by cases h
  | k + 1, i, loc, σ, ρ, H, tk, r, σ', x, wk, h => by
    have S := stLoc_ok (prog := prog) (w := w) (env := env) (ns := ns) hf
    have offW : ∀ b ∈ wr, b ∉ frameW env := fun b hb => (K.offW b hb).notin
    cases hat : sr.at σ i with
    | none => rw [forLoop_bad hat] at h; cases h
    | some o =>
      rw [forLoop_step hat] at h
      refine forLoop_turn (s := { sb with heap := H, toks := tk }) (wk.next (s := { sb with heap := H, toks := tk }) hA.handled x.inv hat htg (fun h' hn hk => ?_) fun v val h' tk' hv hk hgo => ?_)
      · subst hn
        cases h
        exact ⟨.next, ρ, h', tk, rfl, rfl, rfl, x.but K hk wk.own⟩
      · subst hv
        obtain ⟨loc₁, σ₁, hb1, k1⟩ := bind_inv h
        obtain ⟨⟨fl, loc₂⟩, σ₂, hb2, k2⟩ := bind_inv k1
        refine hgo _ _ fun h'' hk'' rv wk' => ?_
        have x1 := x.but K hk'' wk.own
        have h1 := Sim.bindTo (s := { sb with heap := h'', toks := tk' }) (t := target) S hA.handled x1.frm x1.inv rv
        rw [hb1] at h1
        refine wpAny_mono h1 (fun _ s' hp => ?_) fun _ _ f => f
        obtain ⟨ρ₁, H₁, tk₁, rfl, i₁, e₁, F₁⟩ := hp
        have x2 : FE prog w h₀ ρb hb env ns loc₁ σ₁ ρ₁ H₁ := ⟨i₁, F₁, x1.ext.trans e₁⟩
        have wk2 := wk'.ext e₁ offW
        have h2 := hbd env ns loc₁ σ₁ ρ₁ { sb with heap := H₁, toks := tk₁ } A hA hf x2.frm x2.inv
        rw [hb2] at h2
        refine wpAny_mono h2 (fun f s' hp => ?_) fun _ _ f => f
        obtain ⟨ρ₂, H₂, tk₂, rfl, i₂, e₂, rf, F₂⟩ := hp
        have x3 : FE prog w h₀ ρb hb env ns loc₂ σ₂ ρ₂ H₂ := ⟨i₂, F₂, x2.ext.trans e₂⟩
        have wk3 := wk2.ext e₂ offW
        cases fl with
        | next => cases rf; exact forLoop_ok hA K hf hbd htg k (i + 1) loc₂ σ₂ ρ₂ H₂ tk₂ r σ' x3 wk3 k2
        | cont => cases rf; exact forLoop_ok hA K hf hbd htg k (i + 1) loc₂ σ₂ ρ₂ H₂ tk₂ r σ' x3 wk3 k2
        | brk => cases rf; cases k2; exact ⟨.next, ρ₂, H₂, tk₂, rfl, rfl, rfl, x3⟩
        | ret u =>
          obtain ⟨val, rfl, ru⟩ := rf
          cases k2
          exact ⟨.ret val, ρ₂, H₂, tk₂, rfl, rfl, ⟨val, rfl, ru⟩, x3⟩

theorem ex_for {target iter : Expr} {body : List Stmt} {pos : Pos} (hs : SrcS prog w h₀ C n iter) (hbd : ExsS prog w h₀ C n body) : ExS prog w h₀ C n (.For target iter body [] pos) := fun env ns loc σ ρ s A hA hf F iv => by
  show Sim prog w h₀ A (frameW env) _ ((src C iter ns loc (ev C iter ns loc) >>= fun sr => if tgtOk sr target = true then (sr.count >>= fun N => forLoop sr (bindTo (stLoc ns) target) (exs C body ns) (N + 1) 0 loc) else M.bad) σ) (RX env ns) ρ s
  cases h1 : src C iter ns loc (ev C iter ns loc) σ with
  | bad => rw [bind_bad h1]; exact trivial
  | exc _ _ => rw [bind_exc h1]; exact trivial
  | ok sr σ₁ =>
    rw [bind_ok h1]
    refine Sim.ite fun htg => ?_
    cases h2 : sr.count σ₁ with
    | bad => rw [bind_bad h2]; exact trivial
    | exc _ _ => rw [bind_exc h2]; exact trivial
    | ok N σ₂ =>
      rw [bind_ok h2]
      obtain ⟨rfl, h2'⟩ := ask_ok h2
      cases h3 : forLoop sr (bindTo (stLoc ns) target) (exs C body ns) (N + 1) 0 loc σ₂ with
      | bad => exact trivial
      | exc _ _ => exact trivial
      | ok r σ' =>
        have hset : ∀ es k p, iter ≠ .Set es k p := fun es k p e => by subst e; rw [src_set] at h1; cases h1
        have hsrc := hs env ns loc σ ρ s A hA F iv
        rw [h1] at hsrc
        refine wpAny_For (wpAny_mono hsrc (fun xv s₁ hp => ?_) fun _ _ f => f.elim) (set_no_fold hset)
        obtain ⟨ρ₁, H₁, tk₁, rfl, i₁, x₁, r₁⟩ := hp
        refine RSrc.iter (s := { s with heap := H₁, toks := tk₁ }) i₁ x₁ r₁ fun it wr h₂ hk₂ wk hdead => ?_
        have i₂ := i₁.keeps hk₂
        have x₂ : Ext [] ρ s.heap ρ₁ h₂ := x₁.trans (Ext.of_keeps hk₂)
        have K : FK h₀ s.heap env wr :=
          { deadW := hdead
            dead0 := fun b hb => by
              cases e : h₀.get? b with
              | none => rfl
              | some o => have := iv.base _ _ e; rw [hdead b hb] at this; cases this
            offW := fun b hb => F.offDead (hdead b hb) }
        have X : FE prog w h₀ ρ s.heap env ns loc σ₂ ρ₁ h₂ := ⟨i₂, F.ext0 x₂, x₂.weak fun _ hm => absurd hm List.not_mem_nil⟩
        refine codeAny_mono (forLoop_ok (sb := s) hA K hf hbd htg (N + 1) 0 loc σ₂ ρ₁ h₂ tk₁ r σ' X wk h3) fun res s' hr => ?_
        obtain ⟨f, ρ', H', tk', rfl, rfl, rf, X'⟩ := hr
        exact ⟨ρ', H', tk', rfl, X'.inv, X'.ext, rf, X'.frm⟩
end

/-! ## all expressions, all statements -/
section
variable {prog : Program} {w : World} {h₀ : Heap} {fns : Str → Option Fn} {glob : Str → Option V} {mg mb : Str → Option Value} {C : Cfg} {n : Nat}

theorem evS_bad {e : Expr} (h : ∀ ns loc, ev C e ns loc = M.bad) : EvS prog w h₀ C n e := fun env ns loc σ ρ s A hA F i => by rw [h]; exact trivial
theorem srcS_value {e : Expr} (he : EvS prog w h₀ C n e) (h : ∀ ns loc whole, src C e ns loc whole = (whole >>= srcV)) : SrcS prog w h₀ C n e := fun env ns loc σ ρ s A hA F i => by
  rw [h]; exact src_value he hA F i

end

end Mine

namespace Mine
open PySem PyProof.Rows

section
variable {prog : Program} {w : World} {h₀ : Heap} {fns : Str → Option Fn} {glob : Str → Option V} {mg mb : Str → Option Value} {C : Cfg} {n : Nat}

/-- what holds of every expression -/
structure Al (prog : Program) (w : World) (h₀ : Heap) (C : Cfg) (n : Nat) (e : Expr) : Prop where
  ev : EvS prog w h₀ C n e
  tst : TstS prog w h₀ C n e
  src : SrcS prog w h₀ C n e
  comp : CompS prog w h₀ C n e
  slice : ∀ lo hi q, e = .Slice lo hi none q → EvOptS prog w h₀ C n lo ∧ EvOptS prog w h₀ C n hi
  attr : ∀ o m q, e = .Attribute o m q → EvS prog w h₀ C n o

structure Hyp (prog : Program) (w : World) (h₀ : Heap) (fns : Str → Option Fn) (glob : Str → Option V) (mg mb : Str → Option Value) (C : Cfg) (n : Nat) : Prop where
  B : Base fns glob mg mb h₀
  fn : ∀ f, C.isFn f = (fns f).isSome
  glob : C.glob = glob
  ns : NoShadow fns
  call : CallS prog w h₀ mg C n

theorem evsS_of : ∀ {es : List Expr}, (∀ e ∈ es, EvS prog w h₀ C n e) → EvsS prog w h₀ C n es
  | [], _ => evs_nil
  | e :: r, h => evs_cons (h e (List.mem_cons_self ..)) (evsS_of fun e he => h e (List.mem_cons_of_mem _ he))
theorem evBoolS_of : ∀ {es : List Expr}, (∀ e ∈ es, EvS prog w h₀ C n e) → EvBoolS prog w h₀ C n es
  | [], _ => evBool_nil
  | e :: r, h => evBool_cons (h e (List.mem_cons_self ..)) (evBoolS_of fun e he => h e (List.mem_cons_of_mem _ he))
theorem tstAllS_of : ∀ {es : List Expr}, (∀ e ∈ es, TstS prog w h₀ C n e) → TstAllS prog w h₀ C n es
  | [], _ => tstAll_nil
  | e :: r, h => tstAll_cons (h e (List.mem_cons_self ..)) (tstAllS_of fun e he => h e (List.mem_cons_of_mem _ he))
theorem testsS_of : ∀ {es : List Expr}, (∀ e ∈ es, TstS prog w h₀ C n e) → TestsS prog w h₀ C n es
  | [], _ => tests_nil
  | [e], h => tests_one (h e (List.mem_cons_self ..))
  | _ :: _ :: _, _ => tests_more
theorem nameOf_is {b : Expr} {t : Str} (h : nameOf b = some t) : ∃ q, b = .Name t q := by
  cases b with
  | Name x q => cases h; exact ⟨q, rfl⟩
  | _ => cases h
theorem isiS_of (B : Base fns glob mg mb h₀) (hns : NoShadow fns) : ∀ {es : List Expr}, (∀ e ∈ es, EvS prog w h₀ C n e) → IsiS prog w h₀ C n es
  | [], _ => fun _ _ _ _ _ _ _ _ _ _ _ _ _ _ _ => trivial
  | [_], _ => fun _ _ _ _ _ _ _ _ _ _ _ _ _ _ _ => trivial
  | [a, b], h => by
    intro f p pos env ns loc σ ρ s A hA F i hf hi
    show Sim prog w h₀ A [] _ ((match nameOf b with | some t => if isGlob ns t = true then (ev C a ns loc >>= fun v => ofOpt (kdOf t) >>= fun kd => isKd kd v) else M.bad | none => M.bad) σ) RV ρ s
    cases hb : nameOf b with
    | none => exact trivial
    | some t =>
      obtain ⟨q, rfl⟩ := nameOf_is hb
      exact Sim.ite fun ht => ev_isinstance B hns (h a (List.mem_cons_self ..)) hA F i hf hi ht
  | _ :: _ :: _ :: _, _ => fun _ _ _ _ _ _ _ _ _ _ _ _ _ _ _ => trivial

theorem noComp {e : Expr} (h : isCompE e = false) : CompS prog w h₀ C n e := fun elt t it ifs sc p e' => by rw [e'] at h; cases h
theorem noSlice {e : Expr} (h : isSliceE e = false) : ∀ lo hi q, e = .Slice lo hi none q → EvOptS prog w h₀ C n lo ∧ EvOptS prog w h₀ C n hi := fun lo hi q e' => by rw [e'] at h; cases h
theorem noAttr {e : Expr} (h : isAttrE e = false) : ∀ o m q, e = .Attribute o m q → EvS prog w h₀ C n o := fun o m q e' => by rw [e'] at h; cases h

/-- an expression that is no test, no walk of its own kind -/
theorem Al.plain {e : Expr} (he : EvS prog w h₀ C n e) (h1 : ∀ (ns : Names) (loc : Loc) (whole : M V), Mine.tst C e ns loc whole = (whole >>= fun v => truth v)) (h2 : ∀ (env : Env) (whole : Sem Value), isTrue e env whole = (do let v ← whole; standAt e.pos; holding [v] (truthy v)))
    (h3 : ∀ ns loc whole, Mine.src C e ns loc whole = (whole >>= srcV)) (h4 : isCompE e = false) (h5 : isSliceE e = false) (h6 : isAttrE e = false) : Al prog w h₀ C n e where
  ev := he
  tst := tst_value he h1 h2
  src := srcS_value he h3
  comp := noComp h4
  slice := noSlice h5
  attr := noAttr h6

theorem tst_bad {e : Expr} (h : ∀ ns loc, Mine.ev C e ns loc = M.bad) (h1 : ∀ (ns : Names) (loc : Loc) (whole : M V), Mine.tst C e ns loc whole = (whole >>= fun v => truth v)) : TstS prog w h₀ C n e := fun env ns loc σ ρ s A hA F i => by
  rw [h1, h]; exact trivial

theorem Al.nothing {e : Expr} (h : ∀ ns loc, Mine.ev C e ns loc = M.bad) (h1 : ∀ (ns : Names) (loc : Loc) (whole : M V), Mine.tst C e ns loc whole = (whole >>= fun v => truth v))
    (h3 : ∀ ns loc whole, Mine.src C e ns loc whole = (whole >>= srcV)) (h4 : isCompE e = false) (h5 : isSliceE e = false) (h6 : isAttrE e = false) : Al prog w h₀ C n e where
  ev := evS_bad h
  tst := tst_bad h h1
  src := srcS_value (evS_bad h) h3
  comp := noComp h4
  slice := noSlice h5
  attr := noAttr h6

mutual
theorem al_ok (H : Hyp prog w h₀ fns glob mg mb C n) : ∀ e : Expr, Al prog w h₀ C n e
  | .Constant c k p => .plain ev_const (fun _ _ _ => rfl) (fun _ _ => rfl) (fun _ _ _ => rfl) rfl rfl rfl
  | .Name x p => .plain (fun env ns loc σ ρ s A hA F i => Sim.name H.B H.glob F i) (fun _ _ _ => rfl) (fun _ _ => rfl) (fun _ _ _ => rfl) rfl rfl rfl
  | .BinOp l op r p => .plain (ev_binop (al_ok H l).ev (al_ok H r).ev) (fun _ _ _ => rfl) (fun _ _ => rfl) (fun _ _ _ => rfl) rfl rfl rfl
  | .UnaryOp op x p => by
    have hx := al_ok H x
    cases op with
    | Not => exact ⟨ev_not hx.ev, tst_not hx.tst, srcS_value (ev_not hx.ev) (fun _ _ _ => rfl), noComp rfl, noSlice rfl, noAttr rfl⟩
    | USub =>
      cases x with
      | Constant c k q =>
        cases c with
        | int z => exact .plain ev_usub (fun _ _ _ => rfl) (fun _ _ => rfl) (fun _ _ _ => rfl) rfl rfl rfl
        | _ => exact .nothing (fun _ _ => rfl) (fun _ _ _ => rfl) (fun _ _ _ => rfl) rfl rfl rfl
      | _ => exact .nothing (fun _ _ => rfl) (fun _ _ _ => rfl) (fun _ _ _ => rfl) rfl rfl rfl
    | _ => exact .nothing (fun _ _ => rfl) (fun _ _ _ => rfl) (fun _ _ _ => rfl) rfl rfl rfl
  | .BoolOp op vs p => by
    have hv := als_ok H vs
    have he : EvS prog w h₀ C n (.BoolOp op vs p) := ev_boolop (evBoolS_of fun e he => (hv e he).ev)
    exact ⟨he, tst_boolop (tstAllS_of fun e he => (hv e he).tst), srcS_value he (fun _ _ _ => rfl), noComp rfl, noSlice rfl, noAttr rfl⟩
  | .Compare l ops rs p => by
    have hl := al_ok H l
    have hr := als_ok H rs
    match ops, rs with
    | [op], [r] =>
      have he : EvS prog w h₀ C n (.Compare l [op] [r] p) := ev_compare hl.ev (hr r (List.mem_cons_self ..)).ev
      exact ⟨he, tst_compare hl.ev (hr r (List.mem_cons_self ..)).ev, srcS_value he (fun _ _ _ => rfl), noComp rfl, noSlice rfl, noAttr rfl⟩
    | [], _ => exact .nothing (fun _ _ => rfl) (fun _ _ _ => rfl) (fun _ _ _ => rfl) rfl rfl rfl
    | [op, op2], [m, r] =>
      have h1 := (hr m (List.mem_cons_self ..)).ev
      have h2 := (hr r (List.mem_cons_of_mem _ (List.mem_cons_self ..))).ev
      have he : EvS prog w h₀ C n (.Compare l [op, op2] [m, r] p) := ev_chain hl.ev h1 h2
      exact ⟨he, tst_chain hl.ev h1 h2, srcS_value he (fun _ _ _ => rfl), noComp rfl, noSlice rfl, noAttr rfl⟩
    | [_], [] | [_], _ :: _ :: _ | [_, _], [] | [_, _], [_] | [_, _], _ :: _ :: _ :: _ | _ :: _ :: _ :: _, _ => exact .nothing (fun _ _ => rfl) (fun _ _ _ => rfl) (fun _ _ _ => rfl) rfl rfl rfl
  | .IfExp _ _ _ _ => .nothing (fun _ _ => rfl) (fun _ _ _ => rfl) (fun _ _ _ => rfl) rfl rfl rfl
  | .Slice lo hi st p => ⟨evS_bad fun _ _ => rfl, tst_bad (fun _ _ => rfl) (fun _ _ _ => rfl), srcS_value (evS_bad fun _ _ => rfl) (fun _ _ _ => rfl), noComp rfl, by
      have hlo := opt_ok H lo
      have hhi := opt_ok H hi
      intro lo' hi' q e
      cases e
      exact ⟨hlo, hhi⟩, noAttr rfl⟩
  | .Subscript o i p => by
    have ho := al_ok H o
    have hi := al_ok H i
    have he : EvS prog w h₀ C n (.Subscript o i p) := by
      cases i with
      | Slice lo hi' st q =>
        cases st with
        | none => obtain ⟨h1, h2⟩ := hi.slice lo hi' q rfl; exact ev_slice ho.ev h1 h2
        | some st => exact ev_sub ho.ev hi.ev (fun _ _ => rfl)
      | _ => exact ev_sub ho.ev hi.ev (fun _ _ => rfl)
    exact .plain he (fun _ _ _ => rfl) (fun _ _ => rfl) (fun _ _ _ => rfl) rfl rfl rfl
  | .List es p => .plain (ev_list (evsS_of fun e he => (als_ok H es e he).ev)) (fun _ _ _ => rfl) (fun _ _ => rfl) (fun _ _ _ => rfl) rfl rfl rfl
  | .Tuple es k p => .plain (ev_tuple (evsS_of fun e he => (als_ok H es e he).ev)) (fun _ _ _ => rfl) (fun _ _ => rfl) (fun _ _ _ => rfl) rfl rfl rfl
  | .Attribute o m p => ⟨evS_bad fun _ _ => rfl, tst_bad (fun _ _ => rfl) (fun _ _ _ => rfl), srcS_value (evS_bad fun _ _ => rfl) (fun _ _ _ => rfl), noComp rfl, noSlice rfl, by
      have ho := al_ok H o
      intro o' m' q e
      cases e
      exact ho.ev⟩
  | .Call f as ks p => by
    have hf := al_ok H f
    have has := als_ok H as
    cases ks with
    | cons k ks =>
      have hb : ∀ ns loc, Mine.ev C (.Call f as (k :: ks) p) ns loc = M.bad := fun ns loc => by cases f <;> rfl
      have hsr : ∀ ns loc whole, Mine.src C (.Call f as (k :: ks) p) ns loc whole = (whole >>= srcV) := fun ns loc whole => by cases f <;> rfl
      exact .nothing hb (fun _ _ _ => rfl) hsr rfl rfl rfl
    | nil =>
      cases f with
      | Name x q =>
        have he : EvS prog w h₀ C n (.Call (.Name x q) as [] p) := ev_callName H.B H.fn H.call (evsS_of fun e he => (has e he).ev) (isiS_of H.B H.ns fun e he => (has e he).ev)
        exact ⟨he, tst_value he (fun _ _ _ => rfl) (fun _ _ => rfl), src_call H.B H.fn he (fun e he => (has e he).ev), noComp rfl, noSlice rfl, noAttr rfl⟩
      | Attribute o m q =>
        have he : EvS prog w h₀ C n (.Call (.Attribute o m q) as [] p) := ev_callMeth (hf.attr o m q rfl) (evsS_of fun e he => (has e he).ev)
        exact .plain he (fun _ _ _ => rfl) (fun _ _ => rfl) (fun _ _ _ => rfl) rfl rfl rfl
      | _ => exact .nothing (fun _ _ => rfl) (fun _ _ _ => rfl) (fun _ _ _ => rfl) rfl rfl rfl
  | .ListComp elt gens scope p => by
    have he := al_ok H elt
    have hg := gens_ok H gens
    have hc : CompS prog w h₀ C n (.ListComp elt gens scope p) := fun elt' t' it' ifs' sc' p' e => by
      cases e
      obtain ⟨h1, h2⟩ := hg _ (List.mem_cons_self ..)
      exact ⟨h1, h2, he.ev⟩
    have hev : EvS prog w h₀ C n (.ListComp elt gens scope p) := by
      rcases comp_cases gens with ⟨t, it, ifs, rfl⟩ | hbad
      · obtain ⟨h1, h2⟩ := hg _ (List.mem_cons_self ..)
        exact ev_listcomp h1 h2 he.ev
      · exact evS_bad fun ns loc => hbad C elt scope p ns loc
    exact ⟨hev, tst_value hev (fun _ _ _ => rfl) (fun _ _ => rfl), srcS_value hev (fun _ _ _ => rfl), hc, noSlice rfl, noAttr rfl⟩
  | .NamedExpr _ _ _ => .nothing (fun _ _ => rfl) (fun _ _ _ => rfl) (fun _ _ _ => rfl) rfl rfl rfl
  | .Lambda _ _ _ _ => .nothing (fun _ _ => rfl) (fun _ _ _ => rfl) (fun _ _ _ => rfl) rfl rfl rfl
  | .Dict ks vs p => by
    match ks, vs with
    | [], [] => exact .plain (ev_dict0 H.B.nolimit) (fun _ _ _ => rfl) (fun _ _ => rfl) (fun _ _ _ => rfl) rfl rfl rfl
    | [some e], [v] => exact .plain (ev_dict1 H.B.nolimit) (fun _ _ _ => rfl) (fun _ _ => rfl) (fun _ _ _ => rfl) rfl rfl rfl
    | [], _ :: _ | [none], _ | [some _], [] | [some _], _ :: _ :: _ | none :: _ :: _, _ | some _ :: _ :: _, _ => exact .nothing (fun _ _ => rfl) (fun _ _ _ => rfl) (fun _ _ _ => rfl) rfl rfl rfl
  | .Set _ _ _ => .nothing (fun _ _ => rfl) (fun _ _ _ => rfl) (fun _ _ _ => rfl) rfl rfl rfl
  | .SetComp _ _ _ _ => .nothing (fun _ _ => rfl) (fun _ _ _ => rfl) (fun _ _ _ => rfl) rfl rfl rfl
  | .DictComp _ _ _ _ _ => .nothing (fun _ _ => rfl) (fun _ _ _ => rfl) (fun _ _ _ => rfl) rfl rfl rfl
  | .GeneratorExp _ _ _ _ => .nothing (fun _ _ => rfl) (fun _ _ _ => rfl) (fun _ _ _ => rfl) rfl rfl rfl
  | .Await _ _ => .nothing (fun _ _ => rfl) (fun _ _ _ => rfl) (fun _ _ _ => rfl) rfl rfl rfl
  | .Yield _ _ => .nothing (fun _ _ => rfl) (fun _ _ _ => rfl) (fun _ _ _ => rfl) rfl rfl rfl
  | .YieldFrom _ _ => .nothing (fun _ _ => rfl) (fun _ _ _ => rfl) (fun _ _ _ => rfl) rfl rfl rfl
  | .FormattedValue _ _ _ _ => .nothing (fun _ _ => rfl) (fun _ _ _ => rfl) (fun _ _ _ => rfl) rfl rfl rfl
  | .JoinedStr _ _ => .nothing (fun _ _ => rfl) (fun _ _ _ => rfl) (fun _ _ _ => rfl) rfl rfl rfl
  | .Starred _ _ => .nothing (fun _ _ => rfl) (fun _ _ _ => rfl) (fun _ _ _ => rfl) rfl rfl rfl
theorem als_ok (H : Hyp prog w h₀ fns glob mg mb C n) : ∀ es : List Expr, ∀ e ∈ es, Al prog w h₀ C n e
  | [] => fun _ hm => absurd hm List.not_mem_nil
  | e :: r => fun e' hm => by
    have h1 := al_ok H e
    have h2 := als_ok H r
    rcases List.mem_cons.mp hm with rfl | hm
    · exact h1
    · exact h2 e' hm
theorem opt_ok (H : Hyp prog w h₀ fns glob mg mb C n) : ∀ o : Option Expr, EvOptS prog w h₀ C n o
  | none => evOpt_none
  | some e => evOpt_some (al_ok H e).ev
theorem gens_ok (H : Hyp prog w h₀ fns glob mg mb C n) : ∀ gs : List Comprehension, ∀ g ∈ gs, SrcS prog w h₀ C n g.iter ∧ TestsS prog w h₀ C n g.ifs
  | [] => fun _ hm => absurd hm List.not_mem_nil
  | ⟨t, it, ifs, k⟩ :: r => fun g hm => by
    have h1 := al_ok H it
    have h2 := als_ok H ifs
    have h3 := gens_ok H r
    rcases List.mem_cons.mp hm with rfl | hm
    · exact ⟨h1.src, testsS_of fun e he => (h2 e he).tst⟩
    · exact h3 g hm
end

mutual
theorem ex_ok (H : Hyp prog w h₀ fns glob mg mb C n) : ∀ st : Stmt, ExS prog w h₀ C n st
  | .Expr e p => by
    have he := al_ok H e
    cases e with
    | Call f as ks q =>
      cases ks with
      | nil => exact ex_expr he.ev
      | cons _ _ => exact fun env ns loc σ ρ s A hA hf F i => trivial
    | _ => exact fun env ns loc σ ρ s A hA hf F i => trivial
  | .Pass p => ex_pass
  | .Return none p => ex_return0
  | .Return (some e) p => ex_return (al_ok H e).ev
  | .Assign ts v p => by
    have hv := al_ok H v
    match ts with
    | [] => exact fun env ns loc σ ρ s A hA hf F i => trivial
    | [.Name x q] => exact ex_assignName hv.ev hv.comp
    | [.Subscript o i q] => exact ex_assignSub hv.ev (al_ok H o).ev (al_ok H i).ev
    | [.BoolOp _ _ _] | [.NamedExpr _ _ _] | [.BinOp _ _ _ _] | [.UnaryOp _ _ _] | [.Lambda _ _ _ _] | [.IfExp _ _ _ _] | [.Dict _ _ _] | [.Set _ _ _] | [.ListComp _ _ _ _] | [.SetComp _ _ _ _] | [.DictComp _ _ _ _ _] | [.GeneratorExp _ _ _ _]
    | [.Await _ _] | [.Yield _ _] | [.YieldFrom _ _] | [.Compare _ _ _ _] | [.Call _ _ _ _] | [.FormattedValue _ _ _ _] | [.JoinedStr _ _] | [.Constant _ _ _] | [.Attribute _ _ _] | [.Starred _ _] | [.List _ _] | [.Tuple _ _ _] | [.Slice _ _ _ _] => exact fun env ns loc σ ρ s A hA hf F i => trivial
    | t :: _ :: _ =>
      intro env ns loc σ ρ s A hA hf F i
      cases t <;> exact trivial
  | .If t a b p => ex_if (al_ok H t).tst (exs_ok H a) (exs_ok H b)
  | .For t it body els p => by
    have h1 := al_ok H it
    have h2 := exs_ok H body
    cases els with
    | nil => exact ex_for h1.src h2
    | cons _ _ => exact fun env ns loc σ ρ s A hA hf F i => trivial
  | .FunctionDef .. => fun env ns loc σ ρ s A hA hf F i => trivial
  | .AsyncFunctionDef .. => fun env ns loc σ ρ s A hA hf F i => trivial
  | .ClassDef .. => fun env ns loc σ ρ s A hA hf F i => trivial
  | .Delete .. => fun env ns loc σ ρ s A hA hf F i => trivial
  | .TypeAlias .. => fun env ns loc σ ρ s A hA hf F i => trivial
  | .AugAssign .. => fun env ns loc σ ρ s A hA hf F i => trivial
  | .AnnAssign .. => fun env ns loc σ ρ s A hA hf F i => trivial
  | .AsyncFor .. => fun env ns loc σ ρ s A hA hf F i => trivial
  | .While .. => fun env ns loc σ ρ s A hA hf F i => trivial
  | .With .. => fun env ns loc σ ρ s A hA hf F i => trivial
  | .AsyncWith .. => fun env ns loc σ ρ s A hA hf F i => trivial
  | .Match .. => fun env ns loc σ ρ s A hA hf F i => trivial
  | .Raise .. => fun env ns loc σ ρ s A hA hf F i => trivial
  | .Try .. => fun env ns loc σ ρ s A hA hf F i => trivial
  | .TryStar .. => fun env ns loc σ ρ s A hA hf F i => trivial
  | .Assert .. => fun env ns loc σ ρ s A hA hf F i => trivial
  | .Import .. => fun env ns loc σ ρ s A hA hf F i => trivial
  | .ImportFrom .. => fun env ns loc σ ρ s A hA hf F i => trivial
  | .Global .. => fun env ns loc σ ρ s A hA hf F i => trivial
  | .Nonlocal .. => fun env ns loc σ ρ s A hA hf F i => trivial
  | .Break .. => fun env ns loc σ ρ s A hA hf F i => trivial
  | .Continue .. => fun env ns loc σ ρ s A hA hf F i => trivial
theorem exs_ok (H : Hyp prog w h₀ fns glob mg mb C n) : ∀ sts : List Stmt, ExsS prog w h₀ C n sts
  | [] => exs_nil
  | st :: r => exs_cons (ex_ok H st) (exs_ok H r)
end
end
end Mine

namespace Mine
open PySem PyProof.Rows

/-! ## calls of the text's own defs -/
theorem cellsFrom_some {x : Str} : ∀ (names : Names) (n : Nat) (acc : List (Str × Addr)), names.lookup x = some .cell ∨ (acc.lookup x).isSome = true → ((cellsFrom n names acc).lookup x).isSome = true
  | [], _, _, h => by
    rcases h with h | h
    · cases h
    · exact h
  | (y, k) :: r, n, acc, h => by
    unfold cellsFrom
    by_cases hk : (k == NameKind.cell) = true
    · rw [if_pos hk]
      refine cellsFrom_some r (n + 1) _ ?_
      cases hxy : x == y with
      | true => right; rw [List.lookup_cons, hxy]; rfl
      | false =>
        rcases h with h | h
        · left; rw [List.lookup_cons, hxy] at h; exact h
        · right; rw [List.lookup_cons, hxy]; exact h
    · rw [if_neg hk]
      refine cellsFrom_some r n acc ?_
      rcases h with h | h
      · cases hxy : x == y with
        | true => rw [List.lookup_cons, hxy] at h; cases h; exact absurd rfl hk
        | false => left; rw [List.lookup_cons, hxy] at h; exact h
      · exact .inr h

theorem initLoc_get {params : List Str} {args : List V} {x : Str} : ∀ {names : Names} {i j : Nat} {k : NameKind}, slotGo names x i = some (j, k) → i ≤ j ∧ (initLoc params args names)[j - i]? = some ((params.zip args).lookup x)
  | [], _, _, _, h => by cases h
  | (y, k') :: r, i, j, k, h => by
    unfold slotGo at h
    split at h
    · rename_i e
      cases h
      rw [beq_iff_eq.mp e]
      exact ⟨Nat.le_refl _, by rw [Nat.sub_self]; rfl⟩
    · obtain ⟨h1, h2⟩ := initLoc_get (params := params) (args := args) h
      refine ⟨by (first | lia | omega), ?_⟩
      rw [show j - i = (j - (i + 1)) + 1 by (first | lia | omega)]
      exact h2

section
variable {ρ : Map} {h : Heap}
theorem zip_lookup {x : Str} : ∀ {params : List Str} {vals : List Value} {args : List V} {a : V}, RelAll ρ h vals args → (params.zip args).lookup x = some a → ∃ v, (params.zip vals).lookup x = some v ∧ Rel ρ h v a
  | [], _, _, _, _, e => by cases e
  | p :: ps, _, _, _, .nil, e => by cases e
  | p :: ps, _, _, _, .cons r rs, e => by
    rw [List.zip_cons_cons, List.lookup_cons] at e ⊢
    cases hx : x == p with
    | true => rw [hx] at e; cases e; exact ⟨_, rfl, r⟩
    | false => rw [hx] at e; exact zip_lookup rs e
end

theorem bindL_out {kindOf : Str → Option NameKind} {x : Str} : ∀ {binds : List (Str × Value)} {m : Str → Option Value}, (∀ p ∈ binds, p.1 ≠ x) → bindL kindOf binds m x = m x
  | [], _, _ => rfl
  | (y, v) :: r, m, h => by
    unfold bindL
    rw [bindL_out fun p hp => h p (List.mem_cons_of_mem _ hp)]
    split
    · exact if_neg fun e => h (y, v) (List.mem_cons_self ..) e.symm
    · rfl
theorem bindL_in {kindOf : Str → Option NameKind} {x : Str} {v : Value} (hk : kindOf x = some .local) : ∀ {binds : List (Str × Value)} {m : Str → Option Value}, (binds.map (·.1)).Nodup → binds.lookup x = some v → bindL kindOf binds m x = some v
  | [], _, _, h => by cases h
  | (y, u) :: r, m, hn, h => by
    unfold bindL
    rw [List.lookup_cons] at h
    rw [List.map_cons, List.nodup_cons] at hn
    cases hx : x == y with
    | true =>
      rw [hx] at h; cases h
      have e := beq_iff_eq.mp hx
      subst e
      rw [bindL_out fun p hp e => hn.1 (List.mem_map.mpr ⟨p, hp, e⟩), if_pos hk]
      exact if_pos rfl
    | false => rw [hx] at h; exact bindL_in hk hn.2 h
theorem bindC_out {kindOf : Str → Option NameKind} {x : Str} : ∀ {binds : List (Str × Value)} {m : Str → Option Value}, (∀ p ∈ binds, p.1 ≠ x) → bindC kindOf binds m x = m x
  | [], _, _ => rfl
  | (y, v) :: r, m, h => by
    unfold bindC
    rw [bindC_out fun p hp => h p (List.mem_cons_of_mem _ hp)]
    split
    · rfl
    · exact if_neg fun e => h (y, v) (List.mem_cons_self ..) e.symm
theorem bindC_in {kindOf : Str → Option NameKind} {x : Str} {v : Value} (hk : kindOf x = some .cell) : ∀ {binds : List (Str × Value)} {m : Str → Option Value}, (binds.map (·.1)).Nodup → binds.lookup x = some v → bindC kindOf binds m x = some v
  | [], _, _, h => by cases h
  | (y, u) :: r, m, hn, h => by
    unfold bindC
    rw [List.lookup_cons] at h
    rw [List.map_cons, List.nodup_cons] at hn
    cases hx : x == y with
    | true =>
      rw [hx] at h; cases h
      have e := beq_iff_eq.mp hx
      subst e
      rw [bindC_out fun p hp e => hn.1 (List.mem_map.mpr ⟨p, hp, e⟩), if_neg (by rw [hk]; decide)]
      exact if_pos rfl
    | false => rw [hx] at h; exact bindC_in hk hn.2 h

theorem zip_fst_mem {x : Str} : ∀ {params : List Str} {vals : List Value}, x ∈ (params.zip vals).map (·.1) → x ∈ params
  | [], _, h => by cases h
  | _ :: _, [], h => by cases h
  | p :: ps, v :: vs, h => by
    rw [List.zip_cons_cons, List.map_cons] at h
    rcases List.mem_cons.mp h with h | h
    · exact h ▸ List.mem_cons_self ..
    · exact List.mem_cons_of_mem _ (zip_fst_mem h)
theorem zip_fst_nodup : ∀ {params : List Str} {vals : List Value}, params.Nodup → ((params.zip vals).map (·.1)).Nodup
  | [], _, _ => List.nodup_nil
  | _ :: _, [], _ => List.nodup_nil
  | p :: ps, v :: vs, hn => by
    rw [List.zip_cons_cons, List.map_cons, List.nodup_cons]
    rw [List.nodup_cons] at hn
    exact ⟨fun hm => hn.1 (zip_fst_mem hm), zip_fst_nodup hn.2⟩

section
variable {prog : Program} {w : World} {h₀ : Heap} {A : Around} {ρ : Map} {s : Shared} {σ : Store} {fns : Str → Option Fn} {glob : Str → Option V} {mg mb : Str → Option Value}

theorem Rm.deeper {n : Nat} {env : Env} (h : Rm A (n + 1)) : Rm (A.deeper env) n where
  handled := h.handled
  depth := by show A.depth + 1 + n < recursionLimit; have := h.depth; (first | lia | omega)
  units := by show A.units + 3 + 8 * n + 300 < cLine; have := h.units; (first | lia | omega)

/-- the frame of a call -/
theorem callFrm {fd : FuncData} {f : Fn} {a : Addr} {vals : List Value} {args : List V} {s₁ : Shared} (ok : FdOk fd f) (i : Inv prog w h₀ σ ρ s.heap) (r : RelAll ρ s.heap vals args)
    (x : InCallC s (callEnvC fd s.heap.objs.size a).locals (bindL (callEnvC fd s.heap.objs.size a).kindOf (f.params.zip vals) fun _ => none) (callEnvC fd s.heap.objs.size a).cells (bindC (callEnvC fd s.heap.objs.size a).kindOf (f.params.zip vals) fun _ => none) s₁) :
    Frm (callEnvC fd s.heap.objs.size a) f.names (initLoc f.params args f.names) ρ s₁.heap := by
  have hk : ∀ b o, s.heap.get? b = some o → s₁.heap.get? b = some o := x.toInCall.keep
  have hnm : (callEnvC fd s.heap.objs.size a).scope.names = f.names := ok.names
  have hkind : ∀ y i k, slot f.names y = some (i, k) → (callEnvC fd s.heap.objs.size a).kindOf y = some k := fun y i k h => by
    show (callEnvC fd s.heap.objs.size a).scope.names.lookup y = _
    rw [hnm]; exact slot_lookup h
  have hlc : ∀ y c, (callEnvC fd s.heap.objs.size a).cells.lookup y = some c → s.heap.objs.size < c := fun y c hc => x.above y c (mem_of_lookup hc)
  have off : ∀ b : Addr, s.heap.objs.size ≤ b → offMap ρ b := fun b hb p hp => by
    obtain ⟨⟨o1, e1⟩, ⟨o2, e2⟩⟩ := i.alive hp
    exact ⟨fun e => absurd (Heap.lt_size e1) (Nat.not_lt.mpr (e ▸ hb)), fun e => absurd (Heap.lt_size e2) (Nat.not_lt.mpr (e ▸ hb))⟩
  exact {
    names := hnm
    kind := ok.kind
    globals := ok.globals
    blts := ok.blts
    vars := ⟨_, x.toInCall.ns, fun y j v h1 h2 => by
      obtain ⟨_, h3⟩ := initLoc_get (params := f.params) (args := args) h1
      rw [Nat.sub_zero, h2] at h3
      obtain ⟨val, hv, rv⟩ := zip_lookup r (Option.some.inj h3).symm
      exact ⟨val, bindL_in (hkind y j _ h1) (zip_fst_nodup ok.nodup) hv, rv.sub (Sub.keeps hk)⟩⟩
    cell := fun y j h1 => by
      have hsome := cellsFrom_some f.names (s.heap.objs.size + 1) [] (.inl (slot_lookup h1))
      obtain ⟨c, hc⟩ := Option.isSome_iff_exists.mp hsome
      have hc' : (callEnvC fd s.heap.objs.size a).cells.lookup y = some c := by
        show (cellsFrom (s.heap.objs.size + 1) fd.scope.names []).lookup y = some c
        rw [ok.names]; exact hc
      refine ⟨c, _, hc', x.cell y c hc', fun v h2 => ?_⟩
      obtain ⟨_, h3⟩ := initLoc_get (params := f.params) (args := args) h1
      rw [Nat.sub_zero, h2] at h3
      obtain ⟨val, hv, rv⟩ := zip_lookup r (Option.some.inj h3).symm
      exact ⟨val, bindC_in (hkind y j _ h1) (zip_fst_nodup ok.nodup) hv, rv.sub (Sub.keeps hk)⟩
    live := fun y c hc => ⟨_, x.cell y c hc⟩
    offL := off _ (Nat.le_refl _)
    offC := fun y c hc => ⟨Nat.ne_of_gt (hlc y c hc), off _ (Nat.le_of_lt (hlc y c hc))⟩
    apart := fun y z c h1 h2 => name_of_addr x.apart (mem_of_lookup h1) (mem_of_lookup h2) }

/-- a call of a def of the text's own -/
theorem callFn_ok {n : Nat} {C : Cfg} {f : Str} {fn : Fn} {a : Addr} {args : List V} {vals : List Value} (H : Hyp prog w h₀ fns glob mg mb C n) (hf : fns f = some fn) (hm : mg f = some (.ref a)) (hA : Rm A (n + 1)) (r : RelAll ρ s.heap vals args) (i : Inv prog w h₀ σ ρ s.heap) :
    Sim prog w h₀ A [] (call (.ref a) vals) (callFn C fn args σ) RV ρ s := by
  obtain ⟨a', o, fd, hm', ho, hd, ok, hcd⟩ := H.B.fn f fn hf
  rw [hm] at hm'; cases hm'
  unfold callFn
  refine Sim.ite fun hlen => ?_
  cases h1 : exs C fn.body fn.names (initLoc fn.params args fn.names) σ with
  | bad => rw [bind_bad h1]; exact trivial
  | exc _ _ => rw [bind_exc h1]; exact trivial
  | ok res σ' =>
    rw [bind_ok h1]
    have hvl : vals.length = fn.params.length := by rw [r.length, hlen]
    refine wpAny_call (codeAny_call_cells (binds := fn.params.zip vals) (by have := hA.depth; (first | lia | omega)) (i.base _ _ ho) hd (H.B.nolimit.keeps i.base) (hcd.keeps i.base) ok.body (ok.binds vals hvl) ok.clo (fun y hy => ?_) (fun s₁ x => ?_) ok.co ok.gen ok.kind)
    · have hp : y.1 ∈ fn.params := zip_fst_mem (List.mem_map.mpr ⟨y, hy, rfl⟩)
      rw [ok.names]
      rcases ok.pkind y.1 hp with h | h
      · exact .inl h
      · exact .inr ⟨h, cellsFrom_some _ _ _ (.inl h)⟩
    · have F := callFrm ok i r x
      obtain ⟨H₁, tk₁, rfl⟩ := x.toInCall.same
      have hk : ∀ b o, s.heap.get? b = some o → H₁.get? b = some o := x.toInCall.keep
      have dead : ∀ b ∈ frameW (callEnvC fd s.heap.objs.size a), s.heap.get? b = none := fun b hb => by
        have hge : s.heap.objs.size ≤ b := by
          rcases List.mem_cons.mp hb with rfl | hb
          · exact Nat.le_refl _
          · obtain ⟨⟨y, k⟩, _, hc⟩ := List.mem_filterMap.mp hb
            exact Nat.le_of_lt (x.above y b (mem_of_lookup hc))
        cases e : s.heap.get? b with
        | none => rfl
        | some o => exact absurd (Heap.lt_size e) (Nat.not_lt.mpr hge)
      have dead0 : ∀ b ∈ frameW (callEnvC fd s.heap.objs.size a), h₀.get? b = none := fun b hb => by
        cases e : h₀.get? b with
        | none => rfl
        | some o => have := i.base _ _ e; rw [dead b hb] at this; cases this
      have hs := exs_ok H fn.body (callEnvC fd s.heap.objs.size a) fn.names (initLoc fn.params args fn.names) σ ρ { s with heap := H₁, toks := tk₁ } (A.deeper (callEnvC fd s.heap.objs.size a)) hA.deeper dead0 F (i.keeps hk)
      rw [h1] at hs
      refine wpAny_mono hs (fun fl s' hp => ?_) fun _ _ f => f.elim
      obtain ⟨ρ', H', tk', rfl, i', x', rf, F'⟩ := hp
      have hx : Ext [] ρ s.heap ρ' H' := ((Ext.of_keeps hk).trans x').weak fun b hb => .inr (dead b hb)
      obtain ⟨fl', loc'⟩ := res
      cases fl' with
      | next => cases rf; exact ⟨ρ', H', tk', rfl, i', hx, .none⟩
      | brk => cases rf; exact ⟨ρ', H', tk', rfl, i', hx, .none⟩
      | cont => cases rf; exact ⟨ρ', H', tk', rfl, i', hx, .none⟩
      | ret v =>
        obtain ⟨val, rfl, rv⟩ := rf
        exact ⟨ρ', H', tk', rfl, i', hx, rv⟩

/-- the run of a text: its defs, its plain values, calls of at most so many deep -/

theorem callN_ok (B : Base fns glob mg mb h₀) (hns : NoShadow fns) : ∀ d : Nat, CallS prog w h₀ mg (cfgN fns glob d) d
  | 0 => fun f a args vals σ ρ s A hA hf hm r i => trivial
  | d + 1 => fun f a args vals σ ρ s A hA hf hm r i => by
    show Sim prog w h₀ A [] _ (callN fns glob (d + 1) f args σ) RV ρ s
    unfold callN
    cases hfn : fns f with
    | none => exact trivial
    | some fn =>
      exact callFn_ok (C := cfgN fns glob d) ⟨B, fun _ => rfl, rfl, hns, callN_ok B hns d⟩ hfn hm hA r i
end
end Mine

namespace Mine
open PySem PySem.W PyProof.Rows

/-! ## the head: from the top of a text to its defs -/
theorem zip_find : ∀ {ps : List Str} {vals : List Value}, ps.Nodup → vals.length = ps.length → (ps.filterMap fun n => ((ps.zip vals).lookup n).map (n, ·)) = ps.zip vals := by
  intro ps vals hn hl
  have key : ∀ (pre : List (Str × Value)) (ps : List Str) (vals : List Value), ps.Nodup → vals.length = ps.length → (∀ x ∈ ps, pre.lookup x = none) → (ps.filterMap fun n => ((pre ++ ps.zip vals).lookup n).map (n, ·)) = ps.zip vals := by
    intro pre ps
    induction ps generalizing pre with
    | nil => intro vals _ _ _; rfl
    | cons p ps ih =>
      intro vals hn hl hp
      cases vals with
      | nil => cases hl
      | cons v vs =>
        rw [List.nodup_cons] at hn
        have e1 : (pre ++ (p :: ps).zip (v :: vs)).lookup p = some v := by
          rw [List.lookup_append, hp p (List.mem_cons_self ..), List.zip_cons_cons, List.lookup_cons, beq_self_eq_true]; rfl
        rw [List.filterMap_cons, e1]
        dsimp only [Option.map]
        rw [List.zip_cons_cons]
        congr 1
        have := ih (pre ++ [(p, v)]) vs hn.2 (by simpa using hl) (fun x hx => by
          rw [List.lookup_append, hp x (List.mem_cons_of_mem _ hx), List.lookup_cons]
          have : (x == p) = false := by
            cases e : x == p with
            | false => rfl
            | true => rw [beq_iff_eq.mp e] at hx; exact absurd hx hn.1
          rw [this]; rfl)
        rw [List.append_assoc] at this
        exact this
  exact key [] ps vals hn hl (fun _ _ => rfl)

theorem bind_plain {name : Str} {as : List Arg} {body : List Stmt} {scope : Scope} {pm code doc : Value} {vals : List Value} (hn : (as.map (·.arg)).Nodup) (hl : vals.length = (as.map (·.arg)).length) :
    bindArgs (Calls.docDef name ⟨[], as, none, [], [], none, []⟩ body scope pm code doc) ⟨vals, []⟩ = pure ((as.map (·.arg)).zip vals) := by
  have hm : ((as.map (·.arg)).filter fun n => (((as.map (·.arg)).zip vals).lookup n).isNone) = [] := by
    rw [List.filter_eq_nil_iff]
    intro n hn'
    have : ∀ (ps : List Str) (vals : List Value), n ∈ ps → vals.length = ps.length → ((ps.zip vals).lookup n).isNone = false := by
      intro ps
      induction ps with
      | nil => intro _ h; cases h
      | cons p ps ih =>
        intro vals h hl
        cases vals with
        | nil => cases hl
        | cons v vs =>
          rw [List.zip_cons_cons, List.lookup_cons]
          cases e : n == p with
          | true => rfl
          | false =>
            rcases List.mem_cons.mp h with h | h
            · rw [h, beq_self_eq_true] at e; cases e
            · exact ih vs h (by simpa using hl)
    rw [this _ _ hn' hl]; decide
  unfold bindArgs Calls.docDef
  have hs : seqItems? .none = (Pure.pure none : Sem (Option (Array Value))) := by kernel_rfl
  dsimp only
  rw [hs]
  simp only [List.map_nil, List.nil_append, List.append_nil, List.forIn_nil, pure_bind, Option.isNone_none, Bool.and_true]
  have he : ((none : Option (Array Value)).getD #[]).toList = [] := rfl
  rw [if_neg (by rw [hl]; simp)]
  simp only [he, List.length_nil, Nat.zero_sub, List.drop_zero, Nat.sub_zero, List.take_length, hm, List.isEmpty_nil, Bool.not_true, Bool.false_eq_true, if_false, List.drop_length, List.zip_nil_left, List.forIn_nil, pure_bind]
  rw [zip_find hn hl]

/-- a def that can be run -/
noncomputable def recOk (d : DefRec) : Bool :=
  (d.params.posonlyargs.isEmpty && d.params.vararg.isNone && d.params.kwonlyargs.isEmpty && d.params.kw_defaults.isEmpty && d.params.kwarg.isNone && d.params.defaults.isEmpty) && (match d.scope.kind with | .function => true | _ => false) && !d.scope.isCoroutine && !d.scope.isGenerator &&
  decide (d.params.args.map (·.arg)).Nodup && (d.params.args.map (·.arg)).all fun x => match d.scope.names.lookup x with | some .local => true | some .cell => true | _ => false

theorem recOk_fd {d : DefRec} {pm code doc : Value} (h : recOk d = true) : FdOk (Calls.docDef d.name d.params d.body d.scope pm code doc) (defOf d).2 := by
  obtain ⟨name, params, body, scope, pos⟩ := d
  unfold recOk at h
  simp only [Bool.and_eq_true] at h
  obtain ⟨⟨⟨⟨⟨h1, h2⟩, h3⟩, h4⟩, h5⟩, h6⟩ := h
  obtain ⟨po, as, va, ko, kd, kw, df⟩ := params
  simp only [Bool.and_eq_true, List.isEmpty_iff, Option.isNone_iff_eq_none] at h1
  obtain ⟨⟨⟨⟨⟨rfl, rfl⟩, rfl⟩, rfl⟩, rfl⟩, rfl⟩ := h1
  have hn : (as.map (·.arg)).Nodup := of_decide_eq_true h5
  exact {
    body := rfl
    names := rfl
    kind := by
      show scope.kind = .function
      split at h2
      · assumption
      · cases h2
    co := by show scope.isCoroutine = false; simpa using h3
    gen := by show scope.isGenerator = false; simpa using h4
    clo := rfl
    globals := rfl
    blts := rfl
    binds := fun vals hl => bind_plain hn hl
    pkind := fun x hx => by
      have := List.all_eq_true.mp h6 x hx
      show scope.names.lookup x = some .local ∨ scope.names.lookup x = some .cell
      split at this
      · left; assumption
      · right; assumption
      · cases this
    nodup := hn }

/-- the built-in names that a text leaves alone -/
noncomputable def bltFree (q : Program) (loose : List Str) : Bool := bltNames.all fun x => !startupNames.contains x && !loose.contains x && !((recsOf q).map (·.name)).contains x && !((litsOf q).map (·.1)).contains x && !((clssOf q loose).map (·.name)).contains x

theorem lookup_map {x : Str} {fn : Fn} : ∀ {ds : List DefRec}, (ds.map defOf).lookup x = some fn → ∃ d ∈ ds, d.name = x ∧ (defOf d).2 = fn
  | [], h => by cases h
  | d :: ds, h => by
    rw [List.map_cons] at h
    unfold defOf at h
    rw [List.lookup_cons] at h
    split at h
    · rename_i e
      cases h
      exact ⟨d, List.mem_cons_self .., (beq_iff_eq.mp e).symm, rfl⟩
    · obtain ⟨d', hd, r⟩ := lookup_map (ds := ds) h
      exact ⟨d', List.mem_cons_of_mem _ hd, r⟩

theorem intOf_is {v : V} {a : Int} (h : intOf v = some a) : v = .int a := by
  cases v with
  | int _ => cases h; rfl
  | _ => cases h
theorem strOf_is {v : V} {a : Str} (h : strOf v = some a) : v = .str a := by
  cases v with
  | str _ => cases h; rfl
  | _ => cases h
theorem sameV_is {o : Option V} {v : V} (h : sameV o v = true) : o = some v := by
  unfold sameV at h
  rw [Bool.or_eq_true, Bool.and_eq_true, Bool.and_eq_true, beq_iff_eq, beq_iff_eq] at h
  rcases h with ⟨h1, h2⟩ | ⟨h1, h2⟩
  · obtain ⟨a, ha⟩ := Option.isSome_iff_exists.mp h1
    rw [ha] at h2
    obtain ⟨u, rfl, hu⟩ := Option.bind_eq_some_iff.mp h2
    rw [intOf_is ha, intOf_is hu]
  · obtain ⟨a, ha⟩ := Option.isSome_iff_exists.mp h1
    rw [ha] at h2
    obtain ⟨u, rfl, hu⟩ := Option.bind_eq_some_iff.mp h2
    rw [strOf_is ha, strOf_is hu]
theorem base_of {q : Program} {loose : List Str} {mean : ExcName → Option Value} {mg mb : Str → Option Value} {h : Heap} {tab : List (Str × Fn)} {gs : List (Str × V)} (T : Top q loose mean mg mb h) (hgl : globOk q gs = true) (he : defsV q = tab) (hr : (recsOf q).all recOk = true) (hb : bltFree q loose = true) :
    Base (fnsT tab) (globT gs) mg mb h where
  g := T.g
  b := T.b
  nolimit := T.nolimit
  fn := fun f fn hf => by
    subst he
    obtain ⟨d, hd, rfl, rfl⟩ := lookup_map hf
    obtain ⟨a, o, pm, code, doc, h1, h2, h3, h4⟩ := T.fn d hd
    exact ⟨a, o, _, h1, h2, h3, recOk_fd (List.all_eq_true.mp hr d hd), h4⟩
  blt := fun f hf hn => by
    have := List.all_eq_true.mp hb f hf
    simp only [Bool.and_eq_true, Bool.not_eq_true'] at this
    obtain ⟨⟨⟨⟨h1, h2⟩, h3⟩, h4⟩, h5⟩ := this
    have nc : ∀ {l : List Str}, l.contains f = false → f ∉ l := fun h hm => by
      rw [List.contains_iff_mem.mpr hm] at h; cases h
    exact ⟨T.free f (nc h1) (nc h2) (nc h3) (nc h4) (nc h5), T.builtins f (by
      intro e; subst e
      exact absurd h1 (by decide +kernel))⟩
  const := fun x v hx => by
    have hx : globV q x = some v := sameV_is (List.all_eq_true.mp hgl _ (mem_of_lookup (show gs.lookup x = some v from hx)))
    obtain ⟨d, h1, h2⟩ := Option.bind_eq_some_iff.mp hx
    obtain ⟨val, hm, hr⟩ := T.const x d h1
    refine ⟨val, hm, fun ρ h' => ?_⟩
    have hr := hr h'
    cases d with
    | none => cases h2; cases hr; exact .none
    | bool b => cases h2; cases hr; exact .bool b
    | int i => cases h2; cases hr; exact .int i _
    | str s =>
      have h2 : (if SOk s then some (V.str s) else none) = some v := h2
      split at h2
      · rename_i hs; cases h2; cases hr; exact .str s _ hs
      · cases h2
    | _ => cases h2

theorem ints_rel {ρ : Map} {h : Heap} : ∀ {vs : List Value} {zs : List Int}, IntsAre vs zs → RelAll ρ h vs (zs.map .int)
  | _, _, .nil => .nil
  | _, _, .cons i t r => .cons (.int i t) (ints_rel r)

theorem law_run {prog : Program} {w : World} {mg mb : Str → Option Value} {s₁ : Shared} {tab : List (Str × Fn)} {fa la : Addr} {vs : List Value} {n d : Nat} {zs : List Int} {A : Around} {glob : Str → Option V} (B : Base (fnsT tab) glob mg mb s₁.heap) (hns : bltNames.all (fun x => (fnsT tab x).isNone) = true) (hm : mg "law" = some (.ref fa))
    (hf : (fnsT tab "law").isSome = true) (hl : s₁.heap.get? la = some (listO vs n)) (hI : IntsAre vs zs) (hlen : zs.length ≤ 63) (ok : LawOk tab glob d) (hA : Rm A d) :
    wpAny (model prog w) A (call (.ref fa) [.ref la]) (fun v s' => v = .bool true ∧ (∀ b o, s₁.heap.get? b = some o → s'.heap.get? b = some o) ∧ s'.os = s₁.os ∧ s'.gens = s₁.gens) (fun _ _ => False) s₁ := by
  obtain ⟨σ', hok⟩ := ok zs hlen
  have hns' : NoShadow (fnsT tab) := fun f hf => by
    have := List.all_eq_true.mp hns f hf
    cases e : fnsT tab f with
    | none => rfl
    | some _ => rw [e] at this; cases this
  have hvl : vs.length ≤ sizeLine := by
    have h1 : ∀ {vs : List Value} {zs : List Int}, IntsAre vs zs → vs.length = zs.length := by
      intro vs zs h
      induction h with
      | nil => rfl
      | cons _ _ _ ih => simp [ih]
    rw [h1 hI]
    exact Nat.le_trans hlen (by decide)
  have hinv : Inv prog w s₁.heap [.list (zs.map .int)] [(la, la)] s₁.heap :=
    { base := fun _ _ e => e
      len := rfl
      objs := fun k o p e1 e2 => by
        cases k with
        | zero => cases e1; cases e2; exact ⟨rfl, vs, n, hl, hvl, ints_rel hI⟩
        | succ k => cases e2
      fresh := fun k p e hk => by
        cases k with
        | zero => cases hk
        | succ k => cases e
      apart := fun i j p q e1 e2 hij => by
        cases i with
        | zero =>
          cases j with
          | zero => exact absurd rfl hij
          | succ j => cases e2
        | succ i => cases e1 }
  have := callN_ok (prog := prog) (w := w) B hns' d "law" fa [.ref 0] [.ref la] _ _ s₁ A hA hf hm (.cons (.ref (d := la) rfl) .nil) hinv
  rw [show (cfgN (fnsT tab) glob d).call "law" [.ref 0] [.list (zs.map .int)] = .ok (.bool true) σ' from hok] at this
  refine wpAny_mono this (fun v s' hp => ?_) fun _ _ f => f
  obtain ⟨ρ', h', tk, rfl, i, x, r⟩ := hp
  cases r
  exact ⟨rfl, i.base, rfl, rfl⟩

theorem list_at {P : Params} {h : Heap} {la : Addr} {vs : List Value} {xs : List WData} (hL : h.IsList la vs.toArray) (hw : Well P h (.ref la) (.list xs)) : h.get? la = some (listO vs 0) := by
  cases hw with
  | list hget _ =>
    obtain ⟨ob, hob, _, nn, hdat⟩ := hL
    rw [hget] at hob
    cases hob
    have e : _ = vs.toArray := (Data.seq.inj hdat).1
    rw [hget, e]; rfl
theorem room_caller {d : Nat} (h : d ≤ 400) : Rm callerA d where
  handled := rfl
  depth := by show 1 + claimMargin + d < recursionLimit; have : 1 + claimMargin + 400 < recursionLimit := by decide
              (first | lia | omega)
  units := by show 4 + 8 * d + 300 < cLine; have : (4 : Nat) + 8 * 400 + 300 < cLine := by decide
              (first | lia | omega)
end Mine

namespace Mine
open PySem

/-! ## plain runs -/
/-- a run comes to an end, with -/
noncomputable def Wp {α : Type} (m : M α) (σ : Store) (Q : α → Store → Prop) : Prop := ∃ a σ', m σ = .ok a σ' ∧ Q a σ'

section
variable {α β : Type} {σ : Store} {m : M α} {f : α → M β}

theorem Wp.intro {Q : α → Store → Prop} {a : α} {σ' : Store} (h : m σ = .ok a σ') (q : Q a σ') : Wp m σ Q := ⟨a, σ', h, q⟩
theorem Wp_ok {Q : α → Store → Prop} {a : α} {σ' : Store} (h : m σ = .ok a σ') : Wp m σ Q ↔ Q a σ' := by
  constructor
  · rintro ⟨b, τ, e, q⟩; rw [h] at e; cases e; exact q
  · exact fun q => ⟨a, σ', h, q⟩
theorem Wp_bind {Q : β → Store → Prop} : Wp (m >>= f) σ Q ↔ Wp m σ fun a σ' => Wp (f a) σ' Q := by
  constructor
  · rintro ⟨b, τ, e, q⟩
    obtain ⟨a, σ₁, h1, h2⟩ := bind_inv e
    exact ⟨a, σ₁, h1, b, τ, h2, q⟩
  · rintro ⟨a, σ₁, h1, b, τ, h2, q⟩
    exact ⟨b, τ, by rw [bind_ok h1]; exact h2, q⟩
theorem Wp.mono {Q Q' : α → Store → Prop} (h : Wp m σ Q) (hq : ∀ a σ', Q a σ' → Q' a σ') : Wp m σ Q' := let ⟨a, σ', e, q⟩ := h; ⟨a, σ', e, hq a σ' q⟩
/-- a step, then the rest -/
theorem Wp.step {Q : α → Store → Prop} {Q' : β → Store → Prop} (h : Wp m σ Q) (hq : ∀ a σ', Q a σ' → Wp (f a) σ' Q') : Wp (m >>= f) σ Q' := Wp_bind.mpr (h.mono hq)
theorem Wp_pure {Q : α → Store → Prop} {a : α} : Wp (Pure.pure a : M α) σ Q ↔ Q a σ := Wp_ok rfl
theorem Wp_newO {Q : V → Store → Prop} {o : O} : Wp (newO o) σ Q ↔ Q (.ref σ.length) (σ ++ [o]) := Wp_ok rfl
theorem Wp_ofOpt {Q : α → Store → Prop} {a : α} : Wp (ofOpt (some a)) σ Q ↔ Q a σ := Wp_ok rfl

/-! numbers -/
variable {a b : Int} {Q : V → Store → Prop}
theorem Wp_add : Wp (binop .Add (.int a) (.int b)) σ Q ↔ Q (.int (a + b)) σ := Wp_ok rfl
theorem Wp_sub : Wp (binop .Sub (.int a) (.int b)) σ Q ↔ Q (.int (a - b)) σ := Wp_ok rfl
theorem Wp_mul (h : Small a ∨ Small b) : Wp (binop .Mult (.int a) (.int b)) σ Q ↔ Q (.int (a * b)) σ := Wp_ok (by show (if Small a ∨ Small b then pure (V.int (a * b)) else M.bad : M V) σ = _; rw [if_pos h]; rfl)
theorem fdiv_pos {a b : Int} (hb : 0 < b) : a.fdiv b = a / b := Int.fdiv_eq_ediv_of_nonneg a (Int.le_of_lt hb)
theorem fmod_pos {a b : Int} (hb : 0 < b) : a.fmod b = a % b := Int.fmod_eq_emod_of_nonneg a (Int.le_of_lt hb)
theorem Wp_div (h : 0 < b) (h' : b < 18446744073709551616) : Wp (binop .FloorDiv (.int a) (.int b)) σ Q ↔ Q (.int (a / b)) σ := Wp_ok (by
  show (if b ≠ 0 ∧ Small b then pure (V.int (a.fdiv b)) else M.bad : M V) σ = _
  rw [if_pos ⟨by (first | lia | omega), by unfold Small; (first | lia | omega)⟩, fdiv_pos h]; rfl)
theorem Wp_mod (h : 0 < b) (h' : b < 18446744073709551616) : Wp (binop .Mod (.int a) (.int b)) σ Q ↔ Q (.int (a % b)) σ := Wp_ok (by
  show (if b ≠ 0 ∧ Small b then pure (V.int (a.fmod b)) else M.bad : M V) σ = _
  rw [if_pos ⟨by (first | lia | omega), by unfold Small; (first | lia | omega)⟩, fmod_pos h]; rfl)
theorem Wp_lt : Wp (cmp .Lt (.int a) (.int b)) σ Q ↔ Q (.bool (decide (a < b))) σ := Wp_ok rfl
theorem Wp_le : Wp (cmp .LtE (.int a) (.int b)) σ Q ↔ Q (.bool (decide (a ≤ b))) σ := Wp_ok rfl
theorem Wp_gt : Wp (cmp .Gt (.int a) (.int b)) σ Q ↔ Q (.bool (decide (b < a))) σ := Wp_ok rfl
theorem Wp_ge : Wp (cmp .GtE (.int a) (.int b)) σ Q ↔ Q (.bool (decide (b ≤ a))) σ := Wp_ok rfl
theorem Wp_truthB {c : Bool} {Q : Bool → Store → Prop} : Wp (truth (.bool c)) σ Q ↔ Q c σ := Wp_ok rfl

/-! lists of the store -/
theorem getO_at {n : Nat} {o : O} (h : σ[n]? = some o) : getO n σ = .ok o σ := by rw [getO_eq, h]
theorem getList_at {n : Nat} {l : List V} (h : σ[n]? = some (.list l)) : getList n σ = .ok l σ := by rw [getList_eq, h]
theorem Wp_getList {n : Nat} {l : List V} {Q : List V → Store → Prop} (h : σ[n]? = some (.list l)) : Wp (getList n) σ Q ↔ Q l σ := Wp_ok (getList_at h)
theorem Wp_itemRef {n : Nat} {l : List V} {k : Int} {x : V} (h : σ[n]? = some (.list l)) (hk : 0 ≤ k) (hx : l[k.toNat]? = some x) : Wp (item (.ref n) (.int k)) σ Q ↔ Q x σ := Wp_ok (by
  have hl : k < l.length := by have := lt_of_get hx; (first | lia | omega)
  show (getO n >>= fun o => match o with | .list l => itemL l (.int k) | .dict l => ofOpt ((keyOf (.int k)).bind (dGet l)) | _ => M.bad) σ = _
  rw [bind_ok (getO_at h)]
  show ofOpt ((place k l.length).bind fun j => l[j]?) σ = _
  unfold place
  rw [if_pos hk, if_pos hl]
  show ofOpt (l[k.toNat]?) σ = _
  rw [hx]; rfl)
theorem Wp_itemTup {l : List V} {k : Int} {x : V} (hk : 0 ≤ k) (hx : l[k.toNat]? = some x) : Wp (item (.tup l) (.int k)) σ Q ↔ Q x σ := Wp_ok (by
  have hl : k < l.length := by have := lt_of_get hx; (first | lia | omega)
  show ofOpt ((place k l.length).bind fun j => l[j]?) σ = _
  unfold place
  rw [if_pos hk, if_pos hl]
  show ofOpt (l[k.toNat]?) σ = _
  rw [hx]; rfl)
theorem Wp_lenRef {n : Nat} {l : List V} (h : σ[n]? = some (.list l)) : Wp (bLen (.ref n)) σ Q ↔ Q (.int l.length) σ := Wp_ok (by
  show (getO n >>= fun o => match o with | .list l => pure (V.int l.length) | .dict l => pure (V.int l.length) | _ => M.bad) σ = _
  rw [bind_ok (getO_at h)]; rfl)
theorem Wp_setItem {n : Nat} {l : List V} {k : Int} {v : V} {Q : Unit → Store → Prop} (h : σ[n]? = some (.list l)) (hn : 0 < n) (hk : 0 ≤ k) (hl : k < l.length) : Wp (setItem (.ref n) (.int k) v) σ Q ↔ Q () (σ.set n (.list (l.set k.toNat v))) := Wp_ok (by
  show (getO n >>= fun o => match o with | .list l => setL n l (.int k) v | .dict l => setD n l (.int k) v | _ => M.bad) σ = _
  rw [bind_ok (getO_at h)]
  show (if 0 ≤ k ∧ k < l.length then setO n (.list (l.set k.toNat v)) else M.bad) σ = _
  rw [if_pos ⟨hk, hl⟩, setO_ok hn (lt_of_get h)])
theorem Wp_srcRef {n : Nat} {l : List V} {Q : Src → Store → Prop} (h : σ[n]? = some (.list l)) : Wp (srcV (.ref n)) σ Q ↔ Q (.lst n) σ := Wp_ok (by
  show (getList n >>= fun _ => pure (Src.lst n)) σ = _
  rw [bind_ok (getList_at h)]; rfl)
theorem Wp_srcTup {l : List V} {Q : Src → Store → Prop} : Wp (srcV (.tup l)) σ Q ↔ Q (.vals l) σ := Wp_ok rfl
theorem Wp_range {n : Int} {Q : Src → Store → Prop} (h : -1000000 ≤ n) (h' : n ≤ 1000000) : Wp (rangeOf (.int n)) σ Q ↔ Q (.vals (rangeV 0 n)) σ := Wp_ok (by
  show (if -1000000 ≤ n ∧ n ≤ 1000000 then pure (Src.vals (rangeV 0 n)) else M.bad : M Src) σ = _
  rw [if_pos ⟨h, h'⟩]; rfl)
theorem Wp_tupleRef {n : Nat} {l : List V} (h : σ[n]? = some (.list l)) : Wp (bTuple (.ref n)) σ Q ↔ Q (.tup l) σ := Wp_ok (by
  show (getList n >>= fun l => pure (V.tup l)) σ = _
  rw [bind_ok (getList_at h)]; rfl)
theorem Wp_append {n : Nat} {l : List V} {v : V} {R : V → Store → Prop} (h : σ[n]? = some (.list l)) (hn : 0 < n) (hl : l.length < sizeLine) : Wp (runM .append (.ref n) [v]) σ R ↔ R .none (σ.set n (.list (l ++ [v]))) := Wp_ok (by
  show (getList n >>= fun l => if l.length + 1 ≤ sizeLine then (setO n (.list (l ++ [v])) >>= fun _ => pure V.none) else M.bad) σ = _
  rw [bind_ok (getList_at h), if_pos (by (first | lia | omega)), bind_ok (setO_ok hn (lt_of_get h))]; rfl)
theorem Wp_mtag {n : Nat} {l : List V} {Q : MTag → Store → Prop} (h : σ[n]? = some (.list l)) : Wp (askS (mtag (.ref n) "append")) σ Q ↔ Q .append σ := Wp_ok (by
  unfold askS mtag
  dsimp only
  rw [h]
  dsimp only
  rw [if_pos rfl])
theorem Wp_addRef {n m : Nat} {l k : List V} (h : σ[n]? = some (.list l)) (h' : σ[m]? = some (.list k)) (hl : l.length + k.length ≤ sizeLine) : Wp (binop .Add (.ref n) (.ref m)) σ Q ↔ Q (.ref σ.length) (σ ++ [.list (l ++ k)]) := Wp_ok (by
  show (getList n >>= fun l => getList m >>= fun k => if l.length + k.length ≤ sizeLine then newO (.list (l ++ k)) else M.bad) σ = _
  rw [bind_ok (getList_at h), bind_ok (getList_at h'), if_pos hl]; rfl)
theorem Wp_addTup {l k : List V} (hl : l.length + k.length ≤ sizeLine) : Wp (binop .Add (.tup l) (.tup k)) σ Q ↔ Q (.tup (l ++ k)) σ := Wp_ok (by
  show (if l.length + k.length ≤ sizeLine then pure (V.tup (l ++ k)) else M.bad : M V) σ = _
  rw [if_pos hl]; rfl)
/-! dicts of the store -/
theorem Wp_itemD {n : Nat} {l : Tab} {b x : V} {k : Key} (h : σ[n]? = some (.dict l)) (hb : keyOf b = some k) (hx : dGet l k = some x) : Wp (item (.ref n) b) σ Q ↔ Q x σ := Wp_ok (by
  show (getO n >>= fun o => match o with | .list l => itemL l b | .dict l => ofOpt ((keyOf b).bind (dGet l)) | _ => M.bad) σ = _
  rw [bind_ok (getO_at h)]
  show ofOpt ((keyOf b).bind (dGet l)) σ = _
  rw [hb]
  show ofOpt (dGet l k) σ = _
  rw [hx]; rfl)
theorem Wp_setD {n : Nat} {l : Tab} {b v : V} {k : Key} {Q : Unit → Store → Prop} (h : σ[n]? = some (.dict l)) (hn : 0 < n) (hb : keyOf b = some k) (hl : l.length < sizeLine) : Wp (setItem (.ref n) b v) σ Q ↔ Q () (σ.set n (.dict (dSet l k v))) := Wp_ok (by
  show (getO n >>= fun o => match o with | .list l => setL n l b v | .dict l => setD n l b v | _ => M.bad) σ = _
  rw [bind_ok (getO_at h)]
  show setD n l b v σ = _
  unfold setD
  rw [hb]
  show (if l.length + 1 ≤ sizeLine then setO n (.dict (dSet l k v)) else M.bad) σ = _
  rw [if_pos (by (first | lia | omega)), setO_ok hn (lt_of_get h)])
theorem Wp_lenD {n : Nat} {l : Tab} (h : σ[n]? = some (.dict l)) : Wp (bLen (.ref n)) σ Q ↔ Q (.int l.length) σ := Wp_ok (by
  show (getO n >>= fun o => match o with | .list l => pure (V.int l.length) | .dict l => pure (V.int l.length) | _ => M.bad) σ = _
  rw [bind_ok (getO_at h)]; rfl)
theorem Wp_inD {n : Nat} {l : Tab} {a : V} {k : Key} (h : σ[n]? = some (.dict l)) (ha : keyOf a = some k) : Wp (cmp .In a (.ref n)) σ Q ↔ Q (.bool (dGet l k).isSome) σ := Wp_ok (by
  have e : cmp .In a (.ref n) = (among a n >>= fun b => pure (V.bool b)) := by cases a <;> first | rfl | cases ha
  rw [e]
  unfold among
  rw [M.assoc, bind_ok (getO_at h)]
  show (ofOpt ((keyOf a).map fun k => (dGet l k).isSome) >>= fun b => (pure (V.bool b) : M V)) σ = _
  rw [ha]; rfl)
theorem Wp_notInD {n : Nat} {l : Tab} {a : V} {k : Key} (h : σ[n]? = some (.dict l)) (ha : keyOf a = some k) : Wp (cmp .NotIn a (.ref n)) σ Q ↔ Q (.bool (!(dGet l k).isSome)) σ := Wp_ok (by
  have e : cmp .NotIn a (.ref n) = (among a n >>= fun b => pure (V.bool (!b))) := by cases a <;> first | rfl | cases ha
  rw [e]
  unfold among
  rw [M.assoc, bind_ok (getO_at h)]
  show (ofOpt ((keyOf a).map fun k => (dGet l k).isSome) >>= fun b => (pure (V.bool (!b)) : M V)) σ = _
  rw [ha]; rfl)
theorem Wp_sorted {n : Nat} {l : List V} {ss : List Str} (h : σ[n]? = some (.list l)) (hs : allStrs l = some ss) (h64 : ss.length < 64) : Wp (bSorted (.ref n)) σ Q ↔ Q (.ref σ.length) (σ ++ [.list ((sortS ss).map V.str)]) := Wp_ok (by
  show (getList n >>= fun l => ofOpt (allStrs l) >>= fun ss => if ss.length < 64 then newO (.list ((sortS ss).map V.str)) else M.bad) σ = _
  rw [bind_ok (getList_at h), hs]
  show (if ss.length < 64 then newO (.list ((sortS ss).map V.str)) else M.bad) σ = _
  rw [if_pos h64]; rfl)
theorem Wp_inL {n : Nat} {l : List V} {a : V} {b : Bool} (h : σ[n]? = some (.list l)) (hv : vin σ a l = some b) : Wp (cmp .In a (.ref n)) σ Q ↔ Q (.bool b) σ := Wp_ok (by
  have e : cmp .In a (.ref n) = (among a n >>= fun b => pure (V.bool b)) := by cases a <;> rfl
  rw [e]
  unfold among
  rw [M.assoc, bind_ok (getO_at h)]
  show (askS (fun σ => vin σ a l) >>= fun b => (pure (V.bool b) : M V)) σ = _
  rw [bind_ok (a := b) (σ' := σ) (by unfold askS; dsimp only; rw [hv])]; rfl)
theorem Wp_notInL {n : Nat} {l : List V} {a : V} {b : Bool} (h : σ[n]? = some (.list l)) (hv : vin σ a l = some b) : Wp (cmp .NotIn a (.ref n)) σ Q ↔ Q (.bool (!b)) σ := Wp_ok (by
  have e : cmp .NotIn a (.ref n) = (among a n >>= fun b => pure (V.bool (!b))) := by cases a <;> rfl
  rw [e]
  unfold among
  rw [M.assoc, bind_ok (getO_at h)]
  show (askS (fun σ => vin σ a l) >>= fun b => (pure (V.bool (!b)) : M V)) σ = _
  rw [bind_ok (a := b) (σ' := σ) (by unfold askS; dsimp only; rw [hv])]; rfl)
theorem Wp_index {n : Nat} {l : List V} {a : V} {k : Nat} (h : σ[n]? = some (.list l)) (hv : vin σ a l = some true) (hk : vidx σ a l 0 = some k) : Wp (runM .index (.ref n) [a]) σ Q ↔ Q (.int k) σ := Wp_ok (by
  show (getList n >>= fun l => askS fun σ => match vin σ a l with | some true => (vidx σ a l 0).map fun (k : Nat) => V.int (k : Int) | _ => none) σ = _
  rw [bind_ok (getList_at h)]
  unfold askS
  dsimp only
  rw [hv, hk]; rfl)
theorem Wp_mtagI {n : Nat} {l : List V} {Q : MTag → Store → Prop} (h : σ[n]? = some (.list l)) : Wp (askS (mtag (.ref n) "index")) σ Q ↔ Q .index σ := Wp_ok (by
  unfold askS mtag
  dsimp only
  rw [h]
  dsimp only
  rw [if_neg (by decide +kernel), if_pos rfl])
theorem Wp_isNotTrue {b : Bool} : Wp (cmp .IsNot (.bool b) (.bool true)) σ Q ↔ Q (.bool (!b)) σ := Wp_ok (by cases b <;> rfl)
theorem Wp_isTrue {b : Bool} : Wp (cmp .Is (.bool b) (.bool true)) σ Q ↔ Q (.bool b) σ := Wp_ok (by cases b <;> rfl)
theorem Wp_kd {k : Kd} {l : List V} : Wp (isKd k (.tup l)) σ Q ↔ Q (.bool (match k with | .tuple => true | _ => false)) σ := Wp_ok rfl
end

/-! loops -/
section
variable {C : Cfg} {target elt : Expr} {body : List Stmt} {ifs : List Expr} {scope : Scope} {ns : Names} {σ : Store}

/-- a walk of a source as long as something holds -/
noncomputable def Walks (sr : Src) (l : List V) (J : Store → Prop) : Prop := ∀ σ, J σ → (∀ i, sr.at σ i = some l[i]?) ∧ sr.size σ = some l.length
theorem walks_vals {l : List V} {J : Store → Prop} : Walks (.vals l) l J := fun σ _ => ⟨fun _ => rfl, rfl⟩
theorem walks_lst {n : Nat} {l : List V} {J : Store → Prop} (h : ∀ σ, J σ → σ[n]? = some (.list l)) : Walks (.lst n) l J := fun σ hj => by
  have e : listAt σ n = some l := by unfold listAt; rw [h σ hj]
  exact ⟨fun i => by show (listAt σ n).map _ = _; rw [e]; rfl, by show (listAt σ n).map _ = _; rw [e]; rfl⟩
theorem forLoop_wp {sr : Src} {l : List V} {bt : V → Loc → M Loc} {bd : Loc → M (Fl × Loc)} {J : Store → Prop} (hw : Walks sr l J) (P : Nat → Loc → Store → Prop) (hJ : ∀ i loc σ, P i loc σ → J σ) {Q : Fl × Loc → Store → Prop}
    (step : ∀ i v loc σ, l[i]? = some v → P i loc σ → Wp (bt v loc >>= bd) σ fun r σ' => (r.1 = .next ∧ P (i + 1) r.2 σ') ∨ (∃ u, r.1 = .ret u ∧ Q r σ'))
    (fin : ∀ loc σ, P l.length loc σ → Q (.next, loc) σ) : ∀ (k i : Nat) (loc : Loc) (σ : Store), l.length + 1 ≤ i + k → i ≤ l.length → P i loc σ → Wp (forLoop sr bt bd k i loc) σ Q
  | 0, i, loc, σ, h1, h2, _ => by (first | lia | omega)
  | k + 1, i, loc, σ, h1, h2, p => by
    obtain ⟨hat, _⟩ := hw σ (hJ i loc σ p)
    rcases Nat.lt_or_ge i l.length with hl | hl
    · have hv : l[i]? = some l[i] := List.getElem?_eq_getElem hl
      obtain ⟨r, σ', e, hr⟩ := step i l[i] loc σ hv p
      have e1 : forLoop sr bt bd (k + 1) i loc σ = (bt l[i] loc >>= fun loc' => bd loc' >>= fun r => match r.1 with
        | .next => forLoop sr bt bd k (i + 1) r.2
        | .cont => forLoop sr bt bd k (i + 1) r.2
        | .brk => pure (.next, r.2)
        | .ret v => pure (.ret v, r.2)) σ := by rw [forLoop_step (hat i), hv] <;> rfl
      have e2 : forLoop sr bt bd (k + 1) i loc σ = (match r.1 with
        | .next => forLoop sr bt bd k (i + 1) r.2
        | .cont => forLoop sr bt bd k (i + 1) r.2
        | .brk => pure (.next, r.2)
        | .ret v => pure (.ret v, r.2) : M (Fl × Loc)) σ' := by
        rw [e1, ← M.assoc, bind_ok e]
      obtain ⟨fl, loc'⟩ := r
      rcases hr with ⟨hn, p'⟩ | ⟨u, hu, q⟩
      · cases hn
        obtain ⟨a, τ, e3, q⟩ := forLoop_wp hw P hJ step fin k (i + 1) loc' σ' (by (first | lia | omega)) (by (first | lia | omega)) p'
        exact ⟨a, τ, by rw [e2]; exact e3, q⟩
      · cases hu
        exact ⟨_, σ', by rw [e2]; rfl, q⟩
    · have : i = l.length := by (first | lia | omega)
      subst this
      have hv : l[l.length]? = none := List.getElem?_eq_none (Nat.le_refl _)
      refine ⟨_, σ, by rw [forLoop_step (hat l.length), hv]; rfl, fin loc σ p⟩

theorem Wp_forAll {sr : Src} {l : List V} {J : Store → Prop} (hw : Walks sr l J) (htg : tgtOk sr target = true) (P : Nat → Loc → Store → Prop) (hJ : ∀ i loc σ, P i loc σ → J σ) {Q : Fl × Loc → Store → Prop} {loc : Loc} (h0 : P 0 loc σ)
    (step : ∀ i v loc σ, l[i]? = some v → P i loc σ → Wp (bindTo (stLoc ns) target v loc >>= exs C body ns) σ fun r σ' => (r.1 = .next ∧ P (i + 1) r.2 σ') ∨ (∃ u, r.1 = .ret u ∧ Q r σ'))
    (fin : ∀ loc σ, P l.length loc σ → Q (.next, loc) σ) : Wp (forAll C target body sr ns loc) σ Q := by
  obtain ⟨_, hsz⟩ := hw σ (hJ 0 loc σ h0)
  unfold forAll
  rw [if_pos htg]
  refine Wp_bind.mpr ((Wp_ok (σ' := σ) (a := l.length) ?_).mpr (forLoop_wp hw P hJ step fin (l.length + 1) 0 loc σ (by (first | lia | omega)) (by (first | lia | omega)) h0))
  unfold Src.count askS; dsimp only; rw [hsz]

theorem compLoop_wp {sr : Src} {l : List V} {bt : V → Loc → M Loc} {tt : Loc → M Bool} {et : Loc → M V} {J : Store → Prop} (hw : Walks sr l J) (P : Nat → List V → Loc → Store → Prop) (hJ : ∀ i acc loc σ, P i acc loc σ → J σ)
    (step : ∀ i v acc loc σ, l[i]? = some v → P i acc loc σ → Wp (bt v loc) σ fun loc' σ₁ => Wp (tt loc') σ₁ fun b σ₂ => if b = true then Wp (et loc') σ₂ fun y σ₃ => P (i + 1) (acc ++ [y]) loc' σ₃ else P (i + 1) acc loc' σ₂) :
    ∀ (k i : Nat) (acc : List V) (loc : Loc) (σ : Store), l.length + 1 ≤ i + k → i ≤ l.length → P i acc loc σ → Wp (compLoop sr bt tt et k i loc) σ fun out σ' => ∃ loc', P l.length (acc ++ out) loc' σ'
  | 0, i, acc, loc, σ, h1, h2, _ => by (first | lia | omega)
  | k + 1, i, acc, loc, σ, h1, h2, p => by
    obtain ⟨hat, _⟩ := hw σ (hJ i acc loc σ p)
    rcases Nat.lt_or_ge i l.length with hl | hl
    · have hv : l[i]? = some l[i] := List.getElem?_eq_getElem hl
      have e1 : compLoop sr bt tt et (k + 1) i loc σ = (bt l[i] loc >>= fun loc' => tt loc' >>= fun c => if c = true then (et loc' >>= fun x => compLoop sr bt tt et k (i + 1) loc' >>= fun r => pure (x :: r)) else compLoop sr bt tt et k (i + 1) loc') σ := by
        rw [compLoop_step (hat i), hv]
      obtain ⟨loc', σ₁, e2, b, σ₂, e3, hb⟩ := step i l[i] acc loc σ hv p
      rw [bind_ok e2, bind_ok e3] at e1
      cases b with
      | false =>
        obtain ⟨a, τ, e4, q⟩ := compLoop_wp hw P hJ step k (i + 1) acc loc' σ₂ (by (first | lia | omega)) (by (first | lia | omega)) hb
        exact ⟨a, τ, by rw [e1]; exact e4, q⟩
      | true =>
        obtain ⟨y, σ₃, e4, p'⟩ := hb
        obtain ⟨a, τ, e5, loc'', q⟩ := compLoop_wp hw P hJ step k (i + 1) (acc ++ [y]) loc' σ₃ (by (first | lia | omega)) (by (first | lia | omega)) p'
        refine ⟨y :: a, τ, ?_, loc'', by rw [List.append_assoc] at q; exact q⟩
        rw [e1]
        show (et loc' >>= fun x => compLoop sr bt tt et k (i + 1) loc' >>= fun r => pure (x :: r)) σ₂ = _
        rw [bind_ok e4, bind_ok e5]; rfl
    · have : i = l.length := by (first | lia | omega)
      subst this
      have hv : l[l.length]? = none := List.getElem?_eq_none (Nat.le_refl _)
      exact ⟨[], σ, by rw [compLoop_step (hat l.length), hv]; rfl, loc, by rw [List.append_nil]; exact p⟩

theorem Wp_compAll {sr : Src} {l : List V} {J : Store → Prop} (hw : Walks sr l J) (htg : tgtOk sr target = true) (hok : compOk scope.kind scope.names = true) {loc loc₀ : Loc} (hin : innerLoc ns loc scope.names = pure loc₀) (P : Nat → List V → Loc → Store → Prop)
    (hJ : ∀ i acc loc σ, P i acc loc σ → J σ) (h0 : P 0 [] loc₀ σ)
    (step : ∀ i v acc loc σ, l[i]? = some v → P i acc loc σ → Wp (bindTo (stLocL (relab ns scope.names)) target v loc) σ fun loc' σ₁ => Wp (tests C ifs (relab ns scope.names) loc') σ₁ fun b σ₂ => if b = true then Wp (ev C elt (relab ns scope.names) loc') σ₂ fun y σ₃ => P (i + 1) (acc ++ [y]) loc' σ₃ else P (i + 1) acc loc' σ₂)
    {Q : V → Store → Prop} (fin : ∀ out loc σ', P l.length out loc σ' → out.length ≤ sizeLine ∧ Q (.ref σ'.length) (σ' ++ [.list out])) : Wp (compAll C elt target ifs scope sr ns loc) σ Q := by
  obtain ⟨_, hsz⟩ := hw σ (hJ 0 [] _ σ h0)
  unfold compAll
  rw [if_pos (by rw [htg, hok]; rfl)]
  refine Wp_bind.mpr ((Wp_ok (σ' := σ) (a := l.length) (by unfold Src.count askS; dsimp only; rw [hsz])).mpr ?_)
  rw [hin]
  refine Wp_bind.mpr (Wp_pure.mpr (Wp_bind.mpr ((compLoop_wp hw P hJ step (l.length + 1) 0 [] loc₀ σ (by (first | lia | omega)) (by (first | lia | omega)) h0).mono fun out σ' ⟨loc', p⟩ => ?_)))
  rw [List.nil_append] at p
  obtain ⟨hl, q⟩ := fin out loc' σ' p
  rw [if_pos hl]
  exact Wp_newO.mpr q

/-- a comprehension that leaves the store as it is -/
theorem Wp_compPure {sr : Src} {l : List V} (hw : Walks sr l fun τ => τ = σ) (htg : tgtOk sr target = true) (hok : compOk scope.kind scope.names = true) {loc loc₀ : Loc} (hin : innerLoc ns loc scope.names = pure loc₀) (S : Loc → Prop) (hS : S loc₀) (g : V → Option V)
    (step : ∀ v loc, v ∈ l → S loc → Wp (bindTo (stLocL (relab ns scope.names)) target v loc) σ fun loc' σ₁ => σ₁ = σ ∧ S loc' ∧ Wp (tests C ifs (relab ns scope.names) loc') σ fun b σ₂ => σ₂ = σ ∧ (if b = true then Wp (ev C elt (relab ns scope.names) loc') σ fun y σ₃ => σ₃ = σ ∧ g v = some y else g v = none))
    {Q : V → Store → Prop} (hl : (l.filterMap g).length ≤ sizeLine) (fin : Q (.ref σ.length) (σ ++ [.list (l.filterMap g)])) : Wp (compAll C elt target ifs scope sr ns loc) σ Q := by
  refine Wp_compAll hw htg hok hin (fun i acc loc τ => τ = σ ∧ S loc ∧ acc = (l.take i).filterMap g) (fun _ _ _ _ h => h.1) ⟨rfl, hS, rfl⟩ (fun i v acc loc τ hv hp => ?_) fun out loc τ hp => ?_
  · obtain ⟨rfl, hs, rfl⟩ := hp
    have htake : l.take (i + 1) = l.take i ++ [v] := by rw [List.take_add_one, hv]; rfl
    refine (step v loc (List.mem_of_getElem? hv) hs).mono fun loc' σ₁ h => ?_
    obtain ⟨rfl, hs', h⟩ := h
    refine h.mono fun b σ₂ h => ?_
    obtain ⟨rfl, h⟩ := h
    cases b with
    | false => exact ⟨rfl, hs', by rw [htake, List.filterMap_append]; have h : g v = none := h; simp [h]⟩
    | true => exact h.mono fun y σ₃ h => ⟨h.1, hs', by rw [htake, List.filterMap_append]; simp [h.2]⟩
  · obtain ⟨rfl, _, rfl⟩ := hp
    rw [List.take_length]
    exact ⟨hl, fin⟩
theorem tgtOk_vals {l : List V} : tgtOk (.vals l) target = true := by cases target <;> rfl
theorem tgtOk_lst {n : Nat} : tgtOk (.lst n) target = true := by cases target <;> rfl
end

/-! what stays of a store -/
noncomputable def Le (σ σ' : Store) : Prop := ∀ (n : Nat) (o : O), σ[n]? = some o → σ'[n]? = some o
theorem Le.refl {σ : Store} : Le σ σ := fun _ _ h => h
theorem Le.trans {σ σ' σ'' : Store} (h : Le σ σ') (h' : Le σ' σ'') : Le σ σ'' := fun n o e => h' n o (h n o e)
theorem Le.append {σ τ : Store} : Le σ (σ ++ τ) := fun n o e => by rw [List.getElem?_append_left (lt_of_get e)]; exact e
theorem Le.len {σ σ' : Store} (h : Le σ σ') : σ.length ≤ σ'.length := by
  rcases Nat.lt_or_ge σ'.length σ.length with hl | hl
  · have := h σ'.length _ (List.getElem?_eq_getElem hl)
    rw [List.getElem?_eq_none (Nat.le_refl _)] at this; cases this
  · exact hl
theorem get_new {σ : Store} {o : O} : (σ ++ [o])[σ.length]? = some o := by rw [List.getElem?_append_right (Nat.le_refl _), Nat.sub_self]; rfl
/-- all but one -/
noncomputable def LeBut (k : Nat) (σ σ' : Store) : Prop := ∀ (n : Nat) (o : O), n ≠ k → σ[n]? = some o → σ'[n]? = some o
theorem LeBut.refl {k : Nat} {σ : Store} : LeBut k σ σ := fun _ _ _ h => h
theorem LeBut.trans {k : Nat} {σ σ' σ'' : Store} (h : LeBut k σ σ') (h' : LeBut k σ' σ'') : LeBut k σ σ'' := fun n o hn e => h' n o hn (h n o hn e)
theorem Le.but {k : Nat} {σ σ' : Store} (h : Le σ σ') : LeBut k σ σ' := fun n o _ e => h n o e
theorem LeBut.set {k : Nat} {σ : Store} {o : O} : LeBut k σ (σ.set k o) := fun n o' hn e => by rw [List.getElem?_set_ne (Ne.symm hn)]; exact e
end Mine

namespace Mine
open PySem PyProof.Rows

/-! ## rules that serve every law -/
theorem set_get {σ : Store} {n : Nat} {o o' : O} (h : σ[n]? = some o) : (σ.set n o')[n]? = some o' := List.getElem?_set_self (lt_of_get h)

theorem Wp_pow {σ : Store} {Q : V → Store → Prop} {a b : Int} (h : 0 ≤ b) (h1 : b ≤ 1000) (h2 : a.natAbs < 1000) : Wp (binop .Pow (.int a) (.int b)) σ Q ↔ Q (.int (a ^ b.toNat)) σ := Wp_ok (by
  show (if 0 ≤ b ∧ b ≤ 1000 ∧ a.natAbs < 1000 then pure (V.int (a ^ b.toNat)) else M.bad : M V) σ = _
  rw [if_pos ⟨h, h1, h2⟩]; rfl)

theorem Le.setNew {σ τ : Store} {k : Nat} {o : O} (h : Le σ τ) (hk : σ.length ≤ k) : Le σ (τ.set k o) := fun n o' e => by
  rw [List.getElem?_set_ne (fun eq => by have := lt_of_get e; (first | lia | omega))]; exact h n o' e
theorem Wp_mtagJoin {σ : Store} {s : Str} {Q : MTag → Store → Prop} : Wp (askS (mtag (.str s) "join")) σ Q ↔ Q .join σ := Wp_ok (by
  unfold askS mtag
  dsimp only
  rw [if_pos rfl])
theorem Wp_itemStr {σ : Store} {Q : V → Store → Prop} {s : Str} {k : Int} {c : Nat} (hk : 0 ≤ k) (hl : k < s.length) (hx : s.cps[k.toNat]? = some c) : Wp (item (.str s) (.int k)) σ Q ↔ Q (.str (chr1 c)) σ := Wp_ok (by
  show ofOpt ((place k s.length).bind fun j => (s.cps[j]?).map fun c => V.str (chr1 c)) σ = _
  unfold place
  rw [if_pos hk, if_pos hl]
  show ofOpt ((s.cps[k.toNat]?).map fun c => V.str (chr1 c)) σ = _
  rw [hx]; rfl)
theorem Wp_addStr {σ : Store} {Q : V → Store → Prop} {x y : Str} (hl : x.length + y.length ≤ sizeLine) : Wp (binop .Add (.str x) (.str y)) σ Q ↔ Q (.str (x ++ y)) σ := Wp_ok (by
  show (if x.length + y.length ≤ sizeLine then pure (V.str (x ++ y)) else M.bad : M V) σ = _
  rw [if_pos hl]; rfl)
theorem cutStr_le (s : Str) (lo hi : Option Int) : (cutStr s lo hi).length ≤ s.length := by
  show (cut s.cps.toList lo hi).toArray.size ≤ s.cps.size
  rw [List.size_toArray, ← Array.length_toList]
  exact cut_length_le _ _ _

theorem allStrs_ok : ∀ (l : List V), (∀ x ∈ l, ∃ c, x = .str (chr1 c)) → ∃ ss, allStrs l = some ss ∧ ss.length = l.length ∧ (ss.map (·.length)).sum = l.length
  | [], _ => ⟨[], rfl, rfl, rfl⟩
  | x :: r, h => by
    obtain ⟨c, rfl⟩ := h x (List.mem_cons_self ..)
    obtain ⟨ss, h1, h2, h3⟩ := allStrs_ok r fun y hy => h y (List.mem_cons_of_mem _ hy)
    refine ⟨chr1 c :: ss, by show (allStrs r).map _ = _; rw [h1]; rfl, by simp [h2], ?_⟩
    rw [List.map_cons, List.sum_cons, h3, List.length_cons, show (chr1 c).length = 1 from rfl]; (first | lia | omega)

theorem Wp_joinChars {σ : Store} {Q : V → Store → Prop} {n : Nat} {l : List V} (h : σ[n]? = some (.list l)) (hl : ∀ x ∈ l, ∃ c, x = .str (chr1 c)) (hlen : l.length ≤ 100) (q : ∀ s : Str, s.length ≤ 100 → Q (.str s) σ) :
    Wp (runM .join (.str (Str.ofString "")) [.ref n]) σ Q := by
  obtain ⟨ss, h1, h2, h3⟩ := allStrs_ok l hl
  have h0 : (Str.ofString "").length = 0 := by decide +kernel
  have hc : (ss.map (·.length)).sum + ss.length * (Str.ofString "").length ≤ 16777216 := by rw [h0, h3]; (first | lia | omega)
  refine ⟨.str (Txt.join (Str.ofString "") ss), σ, ?_, q _ ?_⟩
  · show (getList n >>= fun l => ofOpt (allStrs l) >>= fun ss => if (ss.map (·.length)).sum + ss.length * (Str.ofString "").length ≤ 16777216 then pure (V.str (Txt.join (Str.ofString "") ss)) else M.bad) σ = _
    rw [bind_ok (getList_at h), bind_ok (a := ss) (σ' := σ) (by rw [h1]; rfl), if_pos hc]; rfl
  · show (Builtin.Str.glued (Str.ofString "") ss).length ≤ 100
    rw [size_glued, h0, h3]; (first | lia | omega)

theorem signs_at {k : Int} (h0 : 0 ≤ k) (h1 : k < 26) : ∃ c, (Str.ofString "abcdefghijklmnopqrstuvwxyz").cps[k.toNat]? = some c := by
  have hs : (Str.ofString "abcdefghijklmnopqrstuvwxyz").cps.size = 26 := by decide +kernel
  exact ⟨_, Array.getElem?_eq_getElem (by rw [hs]; (first | lia | omega))⟩
theorem signs_len : (Str.ofString "abcdefghijklmnopqrstuvwxyz").length = 26 := by decide +kernel

theorem range_val {n : Int} {i : Nat} {v : V} (h : (rangeV 0 n)[i]? = some v) : v = .int i ∧ (i : Int) < n := by
  rw [rangeV_get] at h
  split at h
  · cases h; exact ⟨by rw [Int.zero_add], by (first | lia | omega)⟩
  · cases h
theorem range_len {n : Int} : (rangeV 0 n).length = n.toNat := by unfold rangeV; simp

theorem LeBut.setNew {st : Nat} {σ τ : Store} {k : Nat} {o : O} (h : LeBut st σ τ) (hk : σ.length ≤ k) : LeBut st σ (τ.set k o) := fun n o' hn e => by
  rw [List.getElem?_set_ne (fun eq => by have := lt_of_get e; (first | lia | omega))]; exact h n o' hn e
theorem toPy_list {σ : Store} {n : Nat} {l : List V} {ds : List PyData} (h : σ[n]? = some (.list l)) (hd : toPyTs (toPyF σ 3) l = some ds) : toPy σ (.ref n) = some (.list ds) := by
  show toPyF σ 4 n = _
  show (match σ[n]? with | some (.list l) => (toPyTs (toPyF σ 3) l).map PyData.list | _ => none) = _
  rw [h]; dsimp only; rw [hd]; rfl
noncomputable def pairV (p : Str × V) : V := .tup [.str p.1, p.2]

noncomputable def NewList (σ : Store) (l : List V) (r : V) (σ' : Store) : Prop := Le σ σ' ∧ ∃ m, r = .ref m ∧ σ.length ≤ m ∧ σ'[m]? = some (.list l)
theorem NewList.new {σ : Store} {l : List V} : NewList σ l (.ref σ.length) (σ ++ [.list l]) := ⟨Le.append, _, rfl, Nat.le_refl _, get_new⟩

theorem eq_str {σ : Store} {Q : V → Store → Prop} {a b : Str} : Wp (cmp .Eq (.str a) (.str b)) σ Q ↔ Q (.bool (a == b)) σ := Wp_ok rfl
theorem Wp_item0 {σ : Store} {Q : V → Store → Prop} {a : V} {r : List V} : Wp (item (.tup (a :: r)) (.int 0)) σ Q ↔ Q a σ := Wp_itemTup (by decide) rfl
theorem Wp_item1 {σ : Store} {Q : V → Store → Prop} {a b : V} {r : List V} : Wp (item (.tup (a :: b :: r)) (.int 1)) σ Q ↔ Q b σ := Wp_itemTup (by decide) rfl
theorem Wp_item2 {σ : Store} {Q : V → Store → Prop} {a b c : V} {r : List V} : Wp (item (.tup (a :: b :: c :: r)) (.int 2)) σ Q ↔ Q c σ := Wp_itemTup (by decide) rfl
theorem Wp_item3 {σ : Store} {Q : V → Store → Prop} {a b c e : V} {r : List V} : Wp (item (.tup (a :: b :: c :: e :: r)) (.int 3)) σ Q ↔ Q e σ := Wp_itemTup (by decide) rfl
theorem Wp_boundInt {σ : Store} {Q : Option Int → Store → Prop} {k : Int} : Wp (bound (.int k)) σ Q ↔ Q (some k) σ := Wp_ok rfl
theorem Wp_boundNone {σ : Store} {Q : Option Int → Store → Prop} : Wp (bound .none) σ Q ↔ Q none σ := Wp_ok rfl
theorem Wp_sliceTup {σ : Store} {Q : V → Store → Prop} {lo hi : Option Int} {l : List V} : Wp (sliceV lo hi (.tup l)) σ Q ↔ Q (.tup (cut l lo hi)) σ := Wp_ok rfl
theorem Wp_kdInt {σ : Store} {Q : V → Store → Prop} {k : Kd} {i : Int} : Wp (isKd k (.int i)) σ Q ↔ Q (.bool (match k with | .int => true | _ => false)) σ := Wp_ok rfl
theorem Wp_kdStr {σ : Store} {Q : V → Store → Prop} {k : Kd} {s : Str} : Wp (isKd k (.str s)) σ Q ↔ Q (.bool (match k with | .str => true | _ => false)) σ := Wp_ok rfl
/-- all but the first -/
theorem Wp_rest {σ : Store} {Q : V → Store → Prop} {a : V} {r : List V} {f : V → M V} : Wp (bound (V.int 1) >>= fun i => bound V.none >>= fun j => sliceV i j (.tup (a :: r)) >>= f) σ Q ↔ Wp (f (.tup r)) σ Q := by
  have e : cut (a :: r) (some 1) none = r := by
    unfold cut
    have h1 : clipAt (a :: r).length 1 = 1 := by
      unfold clipAt
      simp
      (first | lia | omega)
    show ((a :: r).drop (clipAt (a :: r).length 1)).take ((a :: r).length - clipAt (a :: r).length 1) = r
    rw [h1]; simp
  rw [Wp_bind, Wp_boundInt, Wp_bind, Wp_boundNone, Wp_bind, Wp_sliceTup, e]

theorem Wp_kdRef {σ : Store} {Q : V → Store → Prop} {k : Kd} {n : Nat} {l : List V} (h : σ[n]? = some (.list l)) : Wp (isKd k (.ref n)) σ Q ↔ Q (.bool (match k with | .list => true | _ => false)) σ := Wp_ok (by
  show (getList n >>= fun _ => pure (V.bool (match k with | .list => true | _ => false))) σ = _
  rw [bind_ok (getList_at h)]; rfl)

end Mine

namespace Mine
open PySem PyProof.Rows

/-! ## the law's own functions, in plain form (printed by gen.py) -/
noncomputable def tab02 : List (Str × Fn) := defsV PySem.Challenge.pw_uf010004_02
noncomputable def gs02 : List (Str × V) := [(Str.ofString "MOST_KNOTS", (V.int 200)), (Str.ofString "MOST_DEEP", (V.int 12)), (Str.ofString "MOST_LETTERS", (V.int 8)), (Str.ofString "LETTERS", (V.str (Str.ofString "abcdefghijklmnopqrstuvwxyz")))]
noncomputable def gl02 : Str → Option V := globT gs02
noncomputable def cl02 (d : Nat) (f : Str) (as : List V) : M V := callN (fnsT tab02) gl02 d f as
noncomputable def cf02 (d : Nat) : Cfg := cfgN (fnsT tab02) gl02 d
theorem cl02_succ {f : Str} {fn : Fn} (h : fnsT tab02 f = some fn) (d : Nat) (as : List V) : cl02 (d + 1) f as = callFn (cf02 d) fn as := by
  show callN _ _ (d + 1) f as = _
  unfold callN
  rw [h]; rfl

noncomputable def P_is_word_F : Fn := (fnsT tab02 "is_word").getD ⟨[], [], []⟩
theorem P_is_word_K : fnsT tab02 "is_word" = some P_is_word_F := by kernel_rfl
noncomputable def P_is_word_c1 : Expr := (ePart (sVal (nthS P_is_word_F.body 1)) 1)
theorem P_is_word_c1_in (v_thing : V) : innerLoc P_is_word_F.names [some v_thing, none, none, none, none, none] (cScope P_is_word_c1).names = pure [none, none, none] := by kernel_rfl
theorem P_is_word_c1_bind (o_signx : Option V) (v_signx : V) : bindTo (stLocL (relab P_is_word_F.names (cScope P_is_word_c1).names)) (cTgt P_is_word_c1) v_signx [none, o_signx, none] = pure [none, some v_signx, none] := by kernel_rfl
theorem P_is_word_c1_elt (d : Nat) (v_signx : V) : ev (cf02 d) (cElt P_is_word_c1) (relab P_is_word_F.names (cScope P_is_word_c1).names) [none, some v_signx, none] = (cmp .In v_signx (V.str (Str.ofString "abcdefghijklmnopqrstuvwxyz")) >>= fun t1 => (pure t1 : M V)) := by rw [ev_K]; kernel_rfl
theorem P_is_word_c1_tst (d : Nat) (loc : Loc) : tests (cf02 d) (cIfs P_is_word_c1) (relab P_is_word_F.names (cScope P_is_word_c1).names) loc = (pure true : M Bool) := by kernel_rfl
theorem P_is_word_c1_ok : compOk (cScope P_is_word_c1).kind (cScope P_is_word_c1).names = true := by kernel_rfl
noncomputable def P_is_word_t1 (d : Nat) (v_thing : V) : M V := (srcV v_thing >>= fun s3 => (compAll (cf02 d) (cElt P_is_word_c1) (cTgt P_is_word_c1) (cIfs P_is_word_c1) (cScope P_is_word_c1) s3 P_is_word_F.names [some v_thing, none, none, none, none, none] >>= fun t2 => (bAll t2 >>= fun t4 => (pure t4 : M V))))
theorem P_is_word_sh (d : Nat) (v_thing : V) : cl02 (d + 1) "is_word" [v_thing] = (isKd Kd.str v_thing >>= fun t5 => (truth t5 >>= fun b6 => (cond (!b6) (pure (V.bool false) : M V) (bLen v_thing >>= fun t7 => (cmp .LtE (V.int 1) t7 >>= fun t8 => boolK t8 (cmp .LtE t7 (V.int 8) >>= fun t9 => (truth t9 >>= fun b10 => (cond (!b10) (pure (V.bool false) : M V) (P_is_word_t1 d v_thing)))) (truth (V.bool false) >>= fun b11 => (cond (!b11) (pure (V.bool false) : M V) (P_is_word_t1 d v_thing)))))))) := by
  rw [cl02_succ P_is_word_K, callFn_K]; kernel_rfl

noncomputable def P_is_count_F : Fn := (fnsT tab02 "is_count").getD ⟨[], [], []⟩
theorem P_is_count_K : fnsT tab02 "is_count" = some P_is_count_F := by kernel_rfl
theorem P_is_count_sh (d : Nat) (v_thing : V) : cl02 (d + 1) "is_count" [v_thing] = (isKd Kd.int v_thing >>= fun t12 => (truth t12 >>= fun b13 => cond b13 (isKd Kd.bool v_thing >>= fun t14 => (truth t14 >>= fun b15 => (truth (V.bool (!b15)) >>= fun b16 => cond b16 (cmp .GtE v_thing (V.int 0) >>= fun t17 => (pure t17 : M V)) (pure (V.bool (!b15)) : M V)))) (pure t12 : M V))) := by
  rw [cl02_succ P_is_count_K, callFn_K]; kernel_rfl

noncomputable def P_is_row_F : Fn := (fnsT tab02 "is_row").getD ⟨[], [], []⟩
theorem P_is_row_K : fnsT tab02 "is_row" = some P_is_row_F := by kernel_rfl
noncomputable def P_is_row_l1 : Stmt := (nthS P_is_row_F.body 2)
noncomputable def P_is_row_t2 (d : Nat) (v_fields : V) (v_rest : V) (v_left : V) (v_ahead : V) (v_field : V) : M (Fl × Loc) := (item v_field (V.int 0) >>= fun t18 => (item v_field (V.int 1) >>= fun t19 => (cl02 d "is_form" [t19, v_left] >>= fun t20 => (truth t20 >>= fun b21 => (if (!b21) = true then (pure (Fl.ret (V.bool false), [some v_fields, some v_rest, some v_left, some t18, some v_field, none, none, none, none, none, none]) : M (Fl × Loc)) else (pure (Fl.next, [some v_fields, some v_rest, some v_left, some t18, some v_field, none, none, none, none, none, none]) : M (Fl × Loc)))))))
theorem P_is_row_l1_step (d : Nat) (v_fieldx : V) (v_fields : V) (v_rest : V) (v_left : V) (v_ahead : V) (o_field : Option V) : (bindTo (stLoc P_is_row_F.names) (sTgt P_is_row_l1) v_fieldx [some v_fields, some v_rest, some v_left, some v_ahead, o_field, none, none, none, none, none, none] >>= exs (cf02 d) (sBody P_is_row_l1) P_is_row_F.names) = (isKd Kd.tuple v_fieldx >>= fun t22 => (truth t22 >>= fun b23 => (cond (!b23) (pure (Fl.ret (V.bool false), [some v_fields, some v_rest, some v_left, some v_ahead, some v_fieldx, none, none, none, none, none, none]) : M (Fl × Loc)) (bLen v_fieldx >>= fun t24 => (cmp .NotEq t24 (V.int 2) >>= fun t25 => (truth t25 >>= fun b26 => (cond b26 (pure (Fl.ret (V.bool false), [some v_fields, some v_rest, some v_left, some v_ahead, some v_fieldx, none, none, none, none, none, none]) : M (Fl × Loc)) (item v_fieldx (V.int 0) >>= fun t27 => (cl02 d "is_word" [t27] >>= fun t28 => (truth t28 >>= fun b29 => (cond (!b29) (pure (Fl.ret (V.bool false), [some v_fields, some v_rest, some v_left, some v_ahead, some v_fieldx, none, none, none, none, none, none]) : M (Fl × Loc)) (item v_fieldx (V.int 0) >>= fun t30 => (cmp .LtE t30 v_ahead >>= fun t31 => (truth t31 >>= fun b32 => (cond b32 (pure (Fl.ret (V.bool false), [some v_fields, some v_rest, some v_left, some v_ahead, some v_fieldx, none, none, none, none, none, none]) : M (Fl × Loc)) (P_is_row_t2 d v_fields v_rest v_left v_ahead v_fieldx)))))))))))))))) := by
  refine Eq.trans (show _ = exs (cf02 d) (sBody P_is_row_l1) P_is_row_F.names [some v_fields, some v_rest, some v_left, some v_ahead, some v_fieldx, none, none, none, none, none, none] from by kernel_rfl) ?_
  rw [exs_K]; kernel_rfl
noncomputable def P_is_row_a1 (d : Nat) (loc : Loc) : M V := exsK (cf02 d) (List.drop 3 P_is_row_F.body) P_is_row_F.names loc retK
theorem P_is_row_a1_eq (d : Nat) (v_fields : V) (v_rest : V) (v_left : V) (v_ahead : V) (o_field : Option V) : P_is_row_a1 d [some v_fields, some v_rest, some v_left, some v_ahead, o_field, none, none, none, none, none, none] = (pure (V.bool true) : M V) := by kernel_rfl
noncomputable def P_is_row_t1 (d : Nat) (v_fields : V) (v_rest : V) (v_left : V) : M V := (srcV v_fields >>= fun s33 => (forAll (cf02 d) (sTgt P_is_row_l1) (sBody P_is_row_l1) s33 P_is_row_F.names [some v_fields, some v_rest, some v_left, some (V.str (Str.ofString "")), none, none, none, none, none, none, none] >>= flK retK (P_is_row_a1 d)))
theorem P_is_row_sh (d : Nat) (v_fields : V) (v_rest : V) (v_left : V) : cl02 (d + 1) "is_row" [v_fields, v_rest, v_left] = (isKd Kd.tuple v_fields >>= fun t34 => (truth t34 >>= fun b35 => (cond (!b35) (pure (V.bool false) : M V) (cmp .IsNot v_rest V.none >>= fun t36 => (truth t36 >>= fun b37 => (cond b37 (cl02 d "is_count" [v_rest] >>= fun t38 => (truth t38 >>= fun b39 => (cond (!b39) (cond true (pure (V.bool false) : M V) (P_is_row_t1 d v_fields v_rest v_left)) (cond false (pure (V.bool false) : M V) (P_is_row_t1 d v_fields v_rest v_left))))) (cond false (pure (V.bool false) : M V) (P_is_row_t1 d v_fields v_rest v_left)))))))) := by
  rw [cl02_succ P_is_row_K, callFn_K]; kernel_rfl

noncomputable def P_is_form_F : Fn := (fnsT tab02 "is_form").getD ⟨[], [], []⟩
theorem P_is_form_K : fnsT tab02 "is_form" = some P_is_form_F := by kernel_rfl
noncomputable def P_is_form_t3 (d : Nat) (v_thing : V) (v_left : V) : M V := (item v_thing (V.int 0) >>= fun t40 => (cmp .Eq t40 (V.str (Str.ofString "record")) >>= fun t41 => (truth t41 >>= fun b42 => cond b42 (bLen v_thing >>= fun t43 => (cmp .Eq t43 (V.int 3) >>= fun t44 => (truth t44 >>= fun b45 => cond b45 (item v_thing (V.int 1) >>= fun t46 => (item v_thing (V.int 2) >>= fun t47 => (binop .Sub v_left (V.int 1) >>= fun t48 => (cl02 d "is_row" [t46, t47, t48] >>= fun t49 => (pure t49 : M V))))) (pure t44 : M V)))) (pure t41 : M V))))
noncomputable def P_is_form_t2 (d : Nat) (v_thing : V) (v_left : V) : M V := (item v_thing (V.int 0) >>= fun t50 => (cmp .Eq t50 (V.str (Str.ofString "blank")) >>= fun t51 => (truth t51 >>= fun b52 => (if b52 = true then (bLen v_thing >>= fun t53 => (cmp .Eq t53 (V.int 2) >>= fun t54 => (truth t54 >>= fun b55 => cond b55 (item v_thing (V.int 1) >>= fun t56 => (cl02 d "is_count" [t56] >>= fun t57 => (pure t57 : M V))) (pure t54 : M V)))) else (P_is_form_t3 d v_thing v_left)))))
noncomputable def P_is_form_t1 (d : Nat) (v_thing : V) (v_left : V) : M V := (item v_thing (V.int 0) >>= fun t58 => (cmp .Eq t58 (V.str (Str.ofString "number")) >>= fun t59 => (truth t59 >>= fun b60 => (if b60 = true then (bLen v_thing >>= fun t61 => (cmp .Eq t61 (V.int 1) >>= fun t62 => (pure t62 : M V))) else (P_is_form_t2 d v_thing v_left)))))
theorem P_is_form_sh (d : Nat) (v_thing : V) (v_left : V) : cl02 (d + 1) "is_form" [v_thing, v_left] = (cmp .Eq v_left (V.int 0) >>= fun t63 => (truth t63 >>= fun b64 => (cond b64 (pure (V.bool false) : M V) (isKd Kd.tuple v_thing >>= fun t65 => (truth t65 >>= fun b66 => (cond (!b66) (pure (V.bool false) : M V) (bLen v_thing >>= fun t67 => (cmp .Eq t67 (V.int 0) >>= fun t68 => (truth t68 >>= fun b69 => (cond b69 (pure (V.bool false) : M V) (item v_thing (V.int 0) >>= fun t70 => (isKd Kd.str t70 >>= fun t71 => (truth t71 >>= fun b72 => (cond (!b72) (pure (V.bool false) : M V) (P_is_form_t1 d v_thing v_left))))))))))))))) := by
  rw [cl02_succ P_is_form_K, callFn_K]; kernel_rfl

noncomputable def P_knots_of_F : Fn := (fnsT tab02 "knots_of").getD ⟨[], [], []⟩
theorem P_knots_of_K : fnsT tab02 "knots_of" = some P_knots_of_F := by kernel_rfl
noncomputable def P_knots_of_c1 : Expr := (ePart (ePart (sVal (nthS P_knots_of_F.body 1)) 1) 1)
theorem P_knots_of_c1_in (v_kind : V) : innerLoc P_knots_of_F.names [some v_kind, none] (cScope P_knots_of_c1).names = pure [none, none, none, none] := by kernel_rfl
theorem P_knots_of_c1_bind (o_labelx : Option V) (o_innerx : Option V) (v_labelx : V) (v_innerx : V) : bindTo (stLocL (relab P_knots_of_F.names (cScope P_knots_of_c1).names)) (cTgt P_knots_of_c1) (.tup [v_labelx, v_innerx]) [none, o_labelx, o_innerx, none] = pure [none, some v_labelx, some v_innerx, none] := by kernel_rfl
theorem P_knots_of_c1_elt (d : Nat) (v_labelx : V) (v_innerx : V) : ev (cf02 d) (cElt P_knots_of_c1) (relab P_knots_of_F.names (cScope P_knots_of_c1).names) [none, some v_labelx, some v_innerx, none] = (cl02 d "knots_of" [v_innerx] >>= fun t73 => (pure t73 : M V)) := by rw [ev_K]; kernel_rfl
theorem P_knots_of_c1_tst (d : Nat) (loc : Loc) : tests (cf02 d) (cIfs P_knots_of_c1) (relab P_knots_of_F.names (cScope P_knots_of_c1).names) loc = (pure true : M Bool) := by kernel_rfl
theorem P_knots_of_c1_ok : compOk (cScope P_knots_of_c1).kind (cScope P_knots_of_c1).names = true := by kernel_rfl
noncomputable def P_knots_of_t1 (d : Nat) (v_kind : V) : M V := (item v_kind (V.int 1) >>= fun t75 => (srcV t75 >>= fun s76 => (compAll (cf02 d) (cElt P_knots_of_c1) (cTgt P_knots_of_c1) (cIfs P_knots_of_c1) (cScope P_knots_of_c1) s76 P_knots_of_F.names [some v_kind, none] >>= fun t74 => (bSum t74 >>= fun t77 => (binop .Add (V.int 1) t77 >>= fun t78 => (pure t78 : M V))))))
theorem P_knots_of_sh (d : Nat) (v_kind : V) : cl02 (d + 1) "knots_of" [v_kind] = (item v_kind (V.int 0) >>= fun t79 => (cmp .NotEq t79 (V.str (Str.ofString "record")) >>= fun t80 => (truth t80 >>= fun b81 => (if b81 = true then (pure (V.int 1) : M V) else (P_knots_of_t1 d v_kind))))) := by
  rw [cl02_succ P_knots_of_K, callFn_K]; kernel_rfl

noncomputable def P_note_blanks_F : Fn := (fnsT tab02 "note_blanks").getD ⟨[], [], []⟩
theorem P_note_blanks_K : fnsT tab02 "note_blanks" = some P_note_blanks_F := by kernel_rfl
noncomputable def P_note_blanks_l1 : Stmt := (nthS (sBody (nthS P_note_blanks_F.body 1)) 0)
theorem P_note_blanks_l1_step (d : Nat) (v_labelx : V) (v_innerx : V) (v_kind : V) (v_found : V) (o_label : Option V) (o_inner : Option V) : (bindTo (stLoc P_note_blanks_F.names) (sTgt P_note_blanks_l1) (.tup [v_labelx, v_innerx]) [some v_kind, some v_found, o_label, o_inner, none, none] >>= exs (cf02 d) (sBody P_note_blanks_l1) P_note_blanks_F.names) = (cl02 d "note_blanks" [v_innerx, v_found] >>= fun t85 => (pure (Fl.next, [some v_kind, some v_found, some v_labelx, some v_innerx, none, none]) : M (Fl × Loc))) := by
  refine Eq.trans (show _ = exs (cf02 d) (sBody P_note_blanks_l1) P_note_blanks_F.names [some v_kind, some v_found, some v_labelx, some v_innerx, none, none] from by kernel_rfl) ?_
  rw [exs_K]; kernel_rfl
noncomputable def P_note_blanks_a1 (d : Nat) (loc : Loc) : M V := exsK (cf02 d) (List.drop 1 (sBody (nthS P_note_blanks_F.body 1))) P_note_blanks_F.names loc (flK retK (fun loc' => exsK (cf02 d) (List.drop 2 P_note_blanks_F.body) P_note_blanks_F.names loc' retK))
noncomputable def P_note_blanks_c1 : Expr := (ePart (ePart (ePart (sVal (nthS (sBody (nthS (sBody (nthS P_note_blanks_F.body 1)) 1)) 0)) 1) 1) 1)
theorem P_note_blanks_c1_in (v_kind : V) (v_found : V) (o_label : Option V) (o_inner : Option V) : innerLoc P_note_blanks_F.names [some v_kind, some v_found, o_label, o_inner, none, none] (cScope P_note_blanks_c1).names = pure [none, none, none] := by kernel_rfl
theorem P_note_blanks_c1_bind (o_labelx : Option V) (o_innerx : Option V) (v_labelx : V) (v_innerx : V) : bindTo (stLocL (relab P_note_blanks_F.names (cScope P_note_blanks_c1).names)) (cTgt P_note_blanks_c1) (.tup [v_labelx, v_innerx]) [none, o_labelx, o_innerx] = pure [none, some v_labelx, some v_innerx] := by kernel_rfl
theorem P_note_blanks_c1_elt (d : Nat) (v_labelx : V) (v_innerx : V) : ev (cf02 d) (cElt P_note_blanks_c1) (relab P_note_blanks_F.names (cScope P_note_blanks_c1).names) [none, some v_labelx, some v_innerx] = (pure v_labelx : M V) := by rw [ev_K]; kernel_rfl
theorem P_note_blanks_c1_tst (d : Nat) (loc : Loc) : tests (cf02 d) (cIfs P_note_blanks_c1) (relab P_note_blanks_F.names (cScope P_note_blanks_c1).names) loc = (pure true : M Bool) := by kernel_rfl
theorem P_note_blanks_c1_ok : compOk (cScope P_note_blanks_c1).kind (cScope P_note_blanks_c1).names = true := by kernel_rfl
theorem P_note_blanks_a1_eq (d : Nat) (v_kind : V) (v_found : V) (o_label : Option V) (o_inner : Option V) : P_note_blanks_a1 d [some v_kind, some v_found, o_label, o_inner, none, none] = (item v_kind (V.int 2) >>= fun t86 => (cmp .IsNot t86 V.none >>= fun t87 => (truth t87 >>= fun b88 => (if b88 = true then (askS (mtag v_found "append") >>= fun g89 => (item v_kind (V.int 2) >>= fun t90 => (item v_kind (V.int 1) >>= fun t92 => (srcV t92 >>= fun s93 => (compAll (cf02 d) (cElt P_note_blanks_c1) (cTgt P_note_blanks_c1) (cIfs P_note_blanks_c1) (cScope P_note_blanks_c1) s93 P_note_blanks_F.names [some v_kind, some v_found, o_label, o_inner, none, none] >>= fun t91 => (bTuple t91 >>= fun t94 => (runM g89 v_found [(V.tup [t90, t94])] >>= fun t95 => (pure V.none : M V)))))))) else (pure V.none : M V))))) := by kernel_rfl
noncomputable def P_note_blanks_t1 (d : Nat) (v_kind : V) (v_found : V) : M V := (item v_kind (V.int 0) >>= fun t82 => (cmp .Eq t82 (V.str (Str.ofString "record")) >>= fun t83 => (truth t83 >>= fun b84 => (if b84 = true then (item v_kind (V.int 1) >>= fun t96 => (srcV t96 >>= fun s97 => (forAll (cf02 d) (sTgt P_note_blanks_l1) (sBody P_note_blanks_l1) s97 P_note_blanks_F.names [some v_kind, some v_found, none, none, none, none] >>= flK (flK retK (fun loc' => exsK (cf02 d) (List.drop 2 P_note_blanks_F.body) P_note_blanks_F.names loc' retK)) (P_note_blanks_a1 d)))) else (pure V.none : M V)))))
theorem P_note_blanks_sh (d : Nat) (v_kind : V) (v_found : V) : cl02 (d + 1) "note_blanks" [v_kind, v_found] = (item v_kind (V.int 0) >>= fun t98 => (cmp .Eq t98 (V.str (Str.ofString "blank")) >>= fun t99 => (truth t99 >>= fun b100 => (if b100 = true then (askS (mtag v_found "append") >>= fun g101 => (item v_kind (V.int 1) >>= fun t102 => (runM g101 v_found [(V.tup [t102, V.none])] >>= fun t103 => (P_note_blanks_t1 d v_kind v_found)))) else (P_note_blanks_t1 d v_kind v_found))))) := by
  rw [cl02_succ P_note_blanks_K, callFn_K]; kernel_rfl

noncomputable def P_blanks_of_F : Fn := (fnsT tab02 "blanks_of").getD ⟨[], [], []⟩
theorem P_blanks_of_K : fnsT tab02 "blanks_of" = some P_blanks_of_F := by kernel_rfl
noncomputable def P_blanks_of_l1 : Stmt := (nthS P_blanks_of_F.body 1)
theorem P_blanks_of_l1_step (d : Nat) (v_kindx : V) (v_kinds : V) (v_met : V) (o_kind : Option V) : (bindTo (stLoc P_blanks_of_F.names) (sTgt P_blanks_of_l1) v_kindx [some v_kinds, some v_met, o_kind, none, none, none, none] >>= exs (cf02 d) (sBody P_blanks_of_l1) P_blanks_of_F.names) = (cl02 d "note_blanks" [v_kindx, v_met] >>= fun t105 => (pure (Fl.next, [some v_kinds, some v_met, some v_kindx, none, none, none, none]) : M (Fl × Loc))) := by
  refine Eq.trans (show _ = exs (cf02 d) (sBody P_blanks_of_l1) P_blanks_of_F.names [some v_kinds, some v_met, some v_kindx, none, none, none, none] from by kernel_rfl) ?_
  rw [exs_K]; kernel_rfl
noncomputable def P_blanks_of_a1 (d : Nat) (loc : Loc) : M V := exsK (cf02 d) (List.drop 2 P_blanks_of_F.body) P_blanks_of_F.names loc retK
noncomputable def P_blanks_of_l2 : Stmt := (nthS P_blanks_of_F.body 3)
theorem P_blanks_of_l2_step (d : Nat) (v_numberx : V) (v_labelsx : V) (v_kinds : V) (v_met : V) (o_kind : Option V) (v_found : V) (o_labels : Option V) (o_number : Option V) : (bindTo (stLoc P_blanks_of_F.names) (sTgt P_blanks_of_l2) (.tup [v_numberx, v_labelsx]) [some v_kinds, some v_met, o_kind, some v_found, o_number, o_labels, none] >>= exs (cf02 d) (sBody P_blanks_of_l2) P_blanks_of_F.names) = (askS (mtag v_found "setdefault") >>= fun g107 => (runM g107 v_found [v_numberx, v_labelsx] >>= fun t108 => (cmp .NotEq t108 v_labelsx >>= fun t109 => (truth t109 >>= fun b110 => (if b110 = true then (pure (Fl.ret V.none, [some v_kinds, some v_met, o_kind, some v_found, some v_numberx, some v_labelsx, none]) : M (Fl × Loc)) else (pure (Fl.next, [some v_kinds, some v_met, o_kind, some v_found, some v_numberx, some v_labelsx, none]) : M (Fl × Loc))))))) := by
  refine Eq.trans (show _ = exs (cf02 d) (sBody P_blanks_of_l2) P_blanks_of_F.names [some v_kinds, some v_met, o_kind, some v_found, some v_numberx, some v_labelsx, none] from by kernel_rfl) ?_
  rw [exs_K]; kernel_rfl
noncomputable def P_blanks_of_a2 (d : Nat) (loc : Loc) : M V := exsK (cf02 d) (List.drop 4 P_blanks_of_F.body) P_blanks_of_F.names loc retK
theorem P_blanks_of_a2_eq (d : Nat) (v_kinds : V) (v_met : V) (o_kind : Option V) (v_found : V) (o_labels : Option V) (o_number : Option V) : P_blanks_of_a2 d [some v_kinds, some v_met, o_kind, some v_found, o_number, o_labels, none] = (pure v_found : M V) := by kernel_rfl
theorem P_blanks_of_a1_eq (d : Nat) (v_kinds : V) (v_met : V) (o_kind : Option V) : P_blanks_of_a1 d [some v_kinds, some v_met, o_kind, none, none, none, none] = (newO (.dict []) >>= fun t106 => (srcV v_met >>= fun s111 => (forAll (cf02 d) (sTgt P_blanks_of_l2) (sBody P_blanks_of_l2) s111 P_blanks_of_F.names [some v_kinds, some v_met, o_kind, some t106, none, none, none] >>= flK retK (P_blanks_of_a2 d)))) := by kernel_rfl
theorem P_blanks_of_sh (d : Nat) (v_kinds : V) : cl02 (d + 1) "blanks_of" [v_kinds] = (newO (.list []) >>= fun t104 => (srcV v_kinds >>= fun s112 => (forAll (cf02 d) (sTgt P_blanks_of_l1) (sBody P_blanks_of_l1) s112 P_blanks_of_F.names [some v_kinds, some t104, none, none, none, none, none] >>= flK retK (P_blanks_of_a1 d)))) := by
  rw [cl02_succ P_blanks_of_K, callFn_K]; kernel_rfl

noncomputable def P_is_kind_F : Fn := (fnsT tab02 "is_kind").getD ⟨[], [], []⟩
theorem P_is_kind_K : fnsT tab02 "is_kind" = some P_is_kind_F := by kernel_rfl
theorem P_is_kind_sh (d : Nat) (v_thing : V) : cl02 (d + 1) "is_kind" [v_thing] = (cl02 d "is_form" [v_thing, (V.int 12)] >>= fun t113 => (truth t113 >>= fun b114 => cond b114 (cl02 d "knots_of" [v_thing] >>= fun t115 => (cmp .LtE t115 (V.int 200) >>= fun t116 => (truth t116 >>= fun b117 => cond b117 (newO (.list [v_thing]) >>= fun t118 => (cl02 d "blanks_of" [t118] >>= fun t119 => (cmp .IsNot t119 V.none >>= fun t120 => (pure t120 : M V)))) (pure t116 : M V)))) (pure t113 : M V))) := by
  rw [cl02_succ P_is_kind_K, callFn_K]; kernel_rfl

noncomputable def L_cell_F : Fn := (fnsT tab02 "_law_cell").getD ⟨[], [], []⟩
theorem L_cell_K : fnsT tab02 "_law_cell" = some L_cell_F := by kernel_rfl
noncomputable def L_cell_t1 (d : Nat) (v_script : V) (v_k : V) : M V := (pure (V.int 0) : M V)
theorem L_cell_sh (d : Nat) (v_script : V) (v_k : V) : cl02 (d + 1) "_law_cell" [v_script, v_k] = (bLen v_script >>= fun t121 => (cmp .Lt v_k t121 >>= fun t122 => (truth t122 >>= fun b123 => (if b123 = true then (item v_script v_k >>= fun t124 => (binop .Mult t124 (V.int 48271) >>= fun t125 => (binop .Mod t125 (V.int 2147483647) >>= fun t126 => (pure t126 : M V)))) else (L_cell_t1 d v_script v_k))))) := by
  rw [cl02_succ L_cell_K, callFn_K]; kernel_rfl

noncomputable def L_next_F : Fn := (fnsT tab02 "_law_next").getD ⟨[], [], []⟩
theorem L_next_K : fnsT tab02 "_law_next" = some L_next_F := by kernel_rfl
theorem L_next_sh (d : Nat) (v_state : V) : cl02 (d + 1) "_law_next" [v_state] = (item v_state (V.int 0) >>= fun t127 => (binop .Mult t127 (V.int 48271) >>= fun t128 => (binop .Add t128 (V.int 11) >>= fun t129 => (binop .Mod t129 (V.int 2147483647) >>= fun t130 => (setItem v_state (V.int 0) t130 >>= fun _ => (item v_state (V.int 1) >>= fun t131 => (binop .Sub t131 (V.int 1) >>= fun t132 => (setItem v_state (V.int 1) t132 >>= fun _ => (item v_state (V.int 0) >>= fun t133 => (binop .FloorDiv t133 (V.int 7) >>= fun t134 => (pure t134 : M V))))))))))) := by
  rw [cl02_succ L_next_K, callFn_K]; kernel_rfl

noncomputable def L_labels_F : Fn := (fnsT tab02 "_law_labels").getD ⟨[], [], []⟩
theorem L_labels_K : fnsT tab02 "_law_labels" = some L_labels_F := by kernel_rfl
noncomputable def L_labels_c1 : Expr := (ePart (sVal (nthS L_labels_F.body 4)) 1)
theorem L_labels_c1_in (v_cell_here : V) (v_many : V) (v_signs : V) (v_size : V) (v_at : V) (v_step : V) : innerLoc L_labels_F.names [some v_cell_here, some v_many, some v_signs, some v_size, some v_at, some v_step, none, none, none, none, none] (cScope L_labels_c1).names = pure [none, none, some v_cell_here, some v_signs, some v_step] := by kernel_rfl
theorem L_labels_c1_bind (v_cell_here : V) (v_signs : V) (v_step : V) (o_kx : Option V) (v_kx : V) : bindTo (stLocL (relab L_labels_F.names (cScope L_labels_c1).names)) (cTgt L_labels_c1) v_kx [none, o_kx, some v_cell_here, some v_signs, some v_step] = pure [none, some v_kx, some v_cell_here, some v_signs, some v_step] := by kernel_rfl
theorem L_labels_c1_elt (d : Nat) (v_cell_here : V) (v_signs : V) (v_step : V) (v_kx : V) : ev (cf02 d) (cElt L_labels_c1) (relab L_labels_F.names (cScope L_labels_c1).names) [none, some v_kx, some v_cell_here, some v_signs, some v_step] = (binop .FloorDiv v_cell_here (V.int 1274) >>= fun t142 => (binop .Mult t142 v_kx >>= fun t143 => (binop .Add v_step t143 >>= fun t144 => (binop .Mod t144 (V.int 26) >>= fun t145 => (item v_signs t145 >>= fun t146 => (pure t146 : M V)))))) := by rw [ev_K]; kernel_rfl
theorem L_labels_c1_tst (d : Nat) (loc : Loc) : tests (cf02 d) (cIfs L_labels_c1) (relab L_labels_F.names (cScope L_labels_c1).names) loc = (pure true : M Bool) := by kernel_rfl
theorem L_labels_c1_ok : compOk (cScope L_labels_c1).kind (cScope L_labels_c1).names = true := by kernel_rfl
noncomputable def L_labels_l1 : Stmt := (nthS L_labels_F.body 6)
theorem L_labels_l1_step (d : Nat) (v_kx : V) (v_cell_here : V) (v_many : V) (v_signs : V) (v_size : V) (v_at : V) (v_step : V) (v_base : V) (v_found : V) (o_k : Option V) (o_sign : Option V) : (bindTo (stLoc L_labels_F.names) (sTgt L_labels_l1) v_kx [some v_cell_here, some v_many, some v_signs, some v_size, some v_at, some v_step, o_k, some v_base, some v_found, o_sign, none] >>= exs (cf02 d) (sBody L_labels_l1) L_labels_F.names) = (binop .FloorDiv v_cell_here (V.int 49) >>= fun t151 => (binop .Mult (V.int 3) v_kx >>= fun t152 => (binop .Add t151 t152 >>= fun t153 => (binop .Mod t153 (V.int 26) >>= fun t154 => (item v_signs t154 >>= fun t155 => (askS (mtag v_found "append") >>= fun g156 => (bound V.none >>= fun i157 => bound v_at >>= fun i158 => sliceV i157 i158 v_base >>= fun t159 => (binop .Add t159 t155 >>= fun t160 => (bound v_at >>= fun i161 => bound V.none >>= fun i162 => sliceV i161 i162 v_base >>= fun t163 => (binop .Add t160 t163 >>= fun t164 => (runM g156 v_found [t164] >>= fun t165 => (pure (Fl.next, [some v_cell_here, some v_many, some v_signs, some v_size, some v_at, some v_step, some v_kx, some v_base, some v_found, some t155, none]) : M (Fl × Loc))))))))))))) := by
  refine Eq.trans (show _ = exs (cf02 d) (sBody L_labels_l1) L_labels_F.names [some v_cell_here, some v_many, some v_signs, some v_size, some v_at, some v_step, some v_kx, some v_base, some v_found, o_sign, none] from by kernel_rfl) ?_
  rw [exs_K]; kernel_rfl
noncomputable def L_labels_a1 (d : Nat) (loc : Loc) : M V := exsK (cf02 d) (List.drop 7 L_labels_F.body) L_labels_F.names loc retK
theorem L_labels_a1_eq (d : Nat) (v_cell_here : V) (v_many : V) (v_signs : V) (v_size : V) (v_at : V) (v_step : V) (v_base : V) (v_found : V) (o_k : Option V) (o_sign : Option V) : L_labels_a1 d [some v_cell_here, some v_many, some v_signs, some v_size, some v_at, some v_step, o_k, some v_base, some v_found, o_sign, none] = (pure v_found : M V) := by kernel_rfl
theorem L_labels_sh (d : Nat) (v_cell_here : V) (v_many : V) : cl02 (d + 1) "_law_labels" [v_cell_here, v_many] = (binop .Mod v_cell_here (V.int 7) >>= fun t135 => (binop .FloorDiv v_cell_here (V.int 7) >>= fun t136 => (binop .Add t135 (V.int 1) >>= fun t137 => (binop .Mod t136 t137 >>= fun t138 => (binop .FloorDiv v_cell_here (V.int 49) >>= fun t139 => (binop .Mod t139 (V.int 26) >>= fun t140 => (askS (mtag (V.str (Str.ofString "")) "join") >>= fun g141 => (rangeOf t135 >>= fun s148 => (compAll (cf02 d) (cElt L_labels_c1) (cTgt L_labels_c1) (cIfs L_labels_c1) (cScope L_labels_c1) s148 L_labels_F.names [some v_cell_here, some v_many, some (V.str (Str.ofString "abcdefghijklmnopqrstuvwxyz")), some t135, some t138, some t140, none, none, none, none, none] >>= fun t147 => (runM g141 (V.str (Str.ofString "")) [t147] >>= fun t149 => (newO (.list []) >>= fun t150 => (rangeOf v_many >>= fun s166 => (forAll (cf02 d) (sTgt L_labels_l1) (sBody L_labels_l1) s166 L_labels_F.names [some v_cell_here, some v_many, some (V.str (Str.ofString "abcdefghijklmnopqrstuvwxyz")), some t135, some t138, some t140, none, some t149, some t150, none, none] >>= flK retK (L_labels_a1 d)))))))))))))) := by
  rw [cl02_succ L_labels_K, callFn_K]; kernel_rfl

noncomputable def L_kind_F : Fn := (fnsT tab02 "_law_kind").getD ⟨[], [], []⟩
theorem L_kind_K : fnsT tab02 "_law_kind" = some L_kind_F := by kernel_rfl
noncomputable def L_kind_c1 : Expr := (sVal (nthS L_kind_F.body 4))
theorem L_kind_c1_in (v_state : V) (v_labels_here : V) (v_met : V) (v_left : V) (v_number_here : V) (v_picked : V) : innerLoc L_kind_F.names [some v_state, some v_labels_here, some v_met, some v_left, some v_number_here, some v_picked, none, none, none, none, none] (cScope L_kind_c1).names = pure [none, none, some v_picked] := by kernel_rfl
theorem L_kind_c1_bind (v_picked : V) (o_labelx : Option V) (v_labelx : V) : bindTo (stLocL (relab L_kind_F.names (cScope L_kind_c1).names)) (cTgt L_kind_c1) v_labelx [none, o_labelx, some v_picked] = pure [none, some v_labelx, some v_picked] := by kernel_rfl
theorem L_kind_c1_elt (d : Nat) (v_picked : V) (v_labelx : V) : ev (cf02 d) (cElt L_kind_c1) (relab L_kind_F.names (cScope L_kind_c1).names) [none, some v_labelx, some v_picked] = (pure v_labelx : M V) := by rw [ev_K]; kernel_rfl
theorem L_kind_c1_tst (d : Nat) (v_picked : V) (v_labelx : V) : tests (cf02 d) (cIfs L_kind_c1) (relab L_kind_F.names (cScope L_kind_c1).names) [none, some v_labelx, some v_picked] = (cmp .In v_labelx v_picked >>= fun t183 => (truth t183 >>= fun b184 => (pure b184 : M Bool))) := by rw [show cIfs L_kind_c1 = [ePart L_kind_c1 3] from by kernel_rfl, tests_K]; kernel_rfl
theorem L_kind_c1_ok : compOk (cScope L_kind_c1).kind (cScope L_kind_c1).names = true := by kernel_rfl
noncomputable def L_kind_c2 : Expr := (ePart (sVal (nthS L_kind_F.body 5)) 1)
theorem L_kind_c2_in (v_state : V) (v_labels_here : V) (v_met : V) (v_left : V) (v_number_here : V) (v_picked : V) (v_words : V) : innerLoc L_kind_F.names [some v_state, some v_labels_here, some v_met, some v_left, some v_number_here, some v_picked, some v_words, none, none, none, none] (cScope L_kind_c2).names = pure [none, none, none, some v_labels_here, some v_left, some v_met, some v_state] := by kernel_rfl
theorem L_kind_c2_bind (v_state : V) (v_labels_here : V) (v_met : V) (v_left : V) (o_labelx : Option V) (v_labelx : V) : bindTo (stLocL (relab L_kind_F.names (cScope L_kind_c2).names)) (cTgt L_kind_c2) v_labelx [none, o_labelx, none, some v_labels_here, some v_left, some v_met, some v_state] = pure [none, some v_labelx, none, some v_labels_here, some v_left, some v_met, some v_state] := by kernel_rfl
theorem L_kind_c2_elt (d : Nat) (v_state : V) (v_labels_here : V) (v_met : V) (v_left : V) (v_labelx : V) : ev (cf02 d) (cElt L_kind_c2) (relab L_kind_F.names (cScope L_kind_c2).names) [none, some v_labelx, none, some v_labels_here, some v_left, some v_met, some v_state] = (binop .Sub v_left (V.int 1) >>= fun t188 => (cl02 d "_law_kind" [v_state, v_labels_here, v_met, t188] >>= fun t189 => (pure (V.tup [v_labelx, t189]) : M V))) := by rw [ev_K]; kernel_rfl
theorem L_kind_c2_tst (d : Nat) (loc : Loc) : tests (cf02 d) (cIfs L_kind_c2) (relab L_kind_F.names (cScope L_kind_c2).names) loc = (pure true : M Bool) := by kernel_rfl
theorem L_kind_c2_ok : compOk (cScope L_kind_c2).kind (cScope L_kind_c2).names = true := by kernel_rfl
noncomputable def L_kind_t4 (d : Nat) (v_state : V) (v_labels_here : V) (v_met : V) (v_left : V) (v_number_here : V) (v_picked : V) (v_words : V) (v_fields : V) : M V := (item v_met (V.int 0) >>= fun t193 => (item v_met (V.int 1) >>= fun t194 => (askS (mtag t194 "index") >>= fun g195 => (runM g195 t194 [v_words] >>= fun t196 => (binop .Mult (V.int 2) t196 >>= fun t197 => (binop .Add (V.int 1) t197 >>= fun t198 => (binop .Mult t193 t198 >>= fun t199 => (pure (V.tup [(V.str (Str.ofString "record")), v_fields, t199]) : M V))))))))
noncomputable def L_kind_t3 (d : Nat) (v_state : V) (v_labels_here : V) (v_met : V) (v_left : V) (v_number_here : V) (v_picked : V) (v_words : V) (v_fields : V) : M V := (item v_met (V.int 1) >>= fun t200 => (cmp .NotIn v_words t200 >>= fun t201 => (truth t201 >>= fun b202 => (if b202 = true then (item v_met (V.int 1) >>= fun t203 => (askS (mtag t203 "append") >>= fun g204 => (runM g204 t203 [v_words] >>= fun t205 => (L_kind_t4 d v_state v_labels_here v_met v_left v_number_here v_picked v_words v_fields)))) else (L_kind_t4 d v_state v_labels_here v_met v_left v_number_here v_picked v_words v_fields)))))
noncomputable def L_kind_t2 (d : Nat) (v_state : V) (v_labels_here : V) (v_met : V) (v_left : V) (v_number_here : V) : M V := (binop .FloorDiv v_number_here (V.int 7) >>= fun t168 => (binop .Mod t168 (V.int 4) >>= fun t169 => (item v_labels_here t169 >>= fun t170 => (binop .FloorDiv v_number_here (V.int 28) >>= fun t171 => (binop .Mod t171 (V.int 4) >>= fun t172 => (item v_labels_here t172 >>= fun t173 => (binop .FloorDiv v_number_here (V.int 112) >>= fun t174 => (binop .Mod t174 (V.int 4) >>= fun t175 => (item v_labels_here t175 >>= fun t176 => (newO (.list [t170, t173, t176]) >>= fun t177 => (binop .FloorDiv v_number_here (V.int 448) >>= fun t178 => (binop .Mod t178 (V.int 4) >>= fun t179 => (bound V.none >>= fun i180 => bound t179 >>= fun i181 => sliceV i180 i181 t177 >>= fun t182 => (bSorted v_labels_here >>= fun t186 => (srcV t186 >>= fun s187 => (compAll (cf02 d) (cElt L_kind_c1) (cTgt L_kind_c1) (cIfs L_kind_c1) (cScope L_kind_c1) s187 L_kind_F.names [some v_state, some v_labels_here, some v_met, some v_left, some v_number_here, some t182, none, none, none, none, none] >>= fun t185 => (srcV t185 >>= fun s191 => (compAll (cf02 d) (cElt L_kind_c2) (cTgt L_kind_c2) (cIfs L_kind_c2) (cScope L_kind_c2) s191 L_kind_F.names [some v_state, some v_labels_here, some v_met, some v_left, some v_number_here, some t182, some t185, none, none, none, none] >>= fun t190 => (bTuple t190 >>= fun t192 => (binop .FloorDiv v_number_here (V.int 1792) >>= fun t206 => (binop .Mod t206 (V.int 2) >>= fun t207 => (cmp .Eq t207 (V.int 0) >>= fun t208 => (truth t208 >>= fun b209 => (if b209 = true then (pure (V.tup [(V.str (Str.ofString "record")), t192, V.none]) : M V) else (L_kind_t3 d v_state v_labels_here v_met v_left v_number_here t182 t185 t192)))))))))))))))))))))))))
noncomputable def L_kind_t1 (d : Nat) (v_state : V) (v_labels_here : V) (v_met : V) (v_left : V) (v_number_here : V) : M V := (binop .Mod v_number_here (V.int 7) >>= fun t210 => (cmp .Eq t210 (V.int 2) >>= fun t211 => (truth t211 >>= fun b212 => (if b212 = true then (item v_met (V.int 0) >>= fun t213 => (binop .Mult t213 (V.int 2) >>= fun t214 => (binop .FloorDiv v_number_here (V.int 7) >>= fun t215 => (binop .Mod t215 (V.int 3) >>= fun t216 => (binop .Mult t214 t216 >>= fun t217 => (pure (V.tup [(V.str (Str.ofString "blank")), t217]) : M V)))))) else (L_kind_t2 d v_state v_labels_here v_met v_left v_number_here)))))
theorem L_kind_sh (d : Nat) (v_state : V) (v_labels_here : V) (v_met : V) (v_left : V) : cl02 (d + 1) "_law_kind" [v_state, v_labels_here, v_met, v_left] = (cl02 d "_law_next" [v_state] >>= fun t167 => (cmp .LtE v_left (V.int 1) >>= fun t218 => (truth t218 >>= fun b219 => (cond b219 (pure (V.tup [(V.str (Str.ofString "number"))]) : M V) (item v_state (V.int 1) >>= fun t220 => (cmp .LtE t220 (V.int 0) >>= fun t221 => (truth t221 >>= fun b222 => (cond b222 (pure (V.tup [(V.str (Str.ofString "number"))]) : M V) (binop .Mod t167 (V.int 7) >>= fun t223 => (cmp .Lt t223 (V.int 2) >>= fun t224 => (truth t224 >>= fun b225 => (cond b225 (pure (V.tup [(V.str (Str.ofString "number"))]) : M V) (L_kind_t1 d v_state v_labels_here v_met v_left t167))))))))))))) := by
  rw [cl02_succ L_kind_K, callFn_K]; kernel_rfl

noncomputable def L_odd_F : Fn := (fnsT tab02 "_law_odd").getD ⟨[], [], []⟩
theorem L_odd_K : fnsT tab02 "_law_odd" = some L_odd_F := by kernel_rfl
theorem L_odd_sh (d : Nat) (v_number_here : V) (v_inner : V) : cl02 (d + 1) "_law_odd" [v_number_here, v_inner] = (newO (.list []) >>= fun t226 => (newO (.list [(V.str (Str.ofString "number"))]) >>= fun t227 => (newO (.list [V.none, (V.bool true), (V.int 0), (V.str (Str.ofString "number")), t226, (V.tup []), (V.tup [(V.str (Str.ofString "number")), (V.int 1)]), (V.tup [(V.str (Str.ofString "number"))]), t227, (V.tup [(V.str (Str.ofString "blank"))]), (V.tup [(V.str (Str.ofString "blank")), (V.int (-1))])]) >>= fun t228 => (newO (.list [(V.tup [(V.str (Str.ofString "blank")), (V.bool true)]), (V.tup [(V.str (Str.ofString "blank")), (V.str (Str.ofString "0"))]), (V.tup [(V.str (Str.ofString "blank")), (V.int 0)]), (V.tup [(V.str (Str.ofString "blank")), (V.int 7), (V.int 7)])]) >>= fun t229 => (binop .Add t228 t229 >>= fun t230 => (newO (.list [(V.tup [(V.str (Str.ofString "blanks")), (V.int 7)]), (V.tup [(V.str (Str.ofString "Number"))]), (V.tup [(V.str (Str.ofString "n"))])]) >>= fun t231 => (binop .Add t230 t231 >>= fun t232 => (newO (.list []) >>= fun t233 => (newO (.list [(V.tup [(V.str (Str.ofString "record")), (V.tup []), V.none]), (V.tup [(V.str (Str.ofString "record")), t233, V.none]), (V.tup [(V.str (Str.ofString "record")), (V.tup [])])]) >>= fun t234 => (binop .Add t232 t234 >>= fun t235 => (newO (.list [(V.tup [(V.str (Str.ofString "record")), (V.tup []), (V.bool true)]), (V.tup [(V.str (Str.ofString "record")), (V.tup []), (V.int (-1))])]) >>= fun t236 => (binop .Add t235 t236 >>= fun t237 => (newO (.list [(V.tup [(V.str (Str.ofString "record")), (V.tup []), (V.str (Str.ofString "1"))]), (V.tup [(V.str (Str.ofString "record")), (V.tup []), (V.int 7)]), (V.tup [(V.str (Str.ofString "record")), (V.tup [(V.tup [(V.str (Str.ofString "a")), v_inner])]), (V.int 7)]), (V.tup [(V.str (Str.ofString "record")), (V.tup [(V.str (Str.ofString "a"))]), V.none])]) >>= fun t238 => (binop .Add t237 t238 >>= fun t239 => (newO (.list [(V.tup [(V.str (Str.ofString "record")), (V.tup [(V.tup [(V.str (Str.ofString "b")), v_inner]), (V.tup [(V.str (Str.ofString "a")), v_inner])]), V.none]), (V.tup [(V.str (Str.ofString "record")), (V.tup [(V.tup [(V.str (Str.ofString "a")), v_inner]), (V.tup [(V.str (Str.ofString "a")), v_inner])]), V.none])]) >>= fun t240 => (binop .Add t239 t240 >>= fun t241 => (newO (.list [(V.tup [(V.str (Str.ofString "record")), (V.tup [(V.tup [(V.str (Str.ofString "")), v_inner])]), V.none]), (V.tup [(V.str (Str.ofString "record")), (V.tup [(V.tup [(V.str (Str.ofString "abcdefghi")), v_inner])]), V.none])]) >>= fun t242 => (binop .Add t241 t242 >>= fun t243 => (newO (.list [(V.tup [(V.str (Str.ofString "record")), (V.tup [(V.tup [(V.str (Str.ofString "abcdefgh")), v_inner])]), V.none]), (V.tup [(V.str (Str.ofString "record")), (V.tup [(V.tup [(V.str (Str.ofString "A")), v_inner])]), V.none])]) >>= fun t244 => (binop .Add t243 t244 >>= fun t245 => (newO (.list [(V.tup [(V.str (Str.ofString "record")), (V.tup [(V.tup [(V.str (Str.ofString "a1")), v_inner])]), V.none]), (V.tup [(V.str (Str.ofString "record")), (V.tup [(V.tup [(V.int 5), v_inner])]), V.none])]) >>= fun t246 => (binop .Add t245 t246 >>= fun t247 => (newO (.list [(V.tup [(V.str (Str.ofString "record")), (V.tup [(V.tup [V.none, v_inner])]), V.none])]) >>= fun t248 => (binop .Add t247 t248 >>= fun t249 => (newO (.list [(V.str (Str.ofString "a")), v_inner]) >>= fun t250 => (newO (.list [(V.tup [(V.str (Str.ofString "record")), (V.tup [t250]), V.none]), (V.tup [(V.str (Str.ofString "record")), (V.tup [(V.tup [(V.str (Str.ofString "a")), v_inner, (V.int 1)])]), V.none])]) >>= fun t251 => (binop .Add t249 t251 >>= fun t252 => (newO (.list [(V.tup [(V.str (Str.ofString "record")), (V.tup [(V.tup [(V.str (Str.ofString "a"))])]), V.none])]) >>= fun t253 => (binop .Add t252 t253 >>= fun t254 => (newO (.list [(V.tup [(V.str (Str.ofString "record")), (V.tup [(V.tup [(V.str (Str.ofString "a")), (V.tup [(V.str (Str.ofString "blank")), (V.int 8)])]), (V.tup [(V.str (Str.ofString "b")), (V.tup [(V.str (Str.ofString "blank")), (V.int 8)])])]), (V.int 8)]), (V.tup [(V.str (Str.ofString "record")), (V.tup [(V.tup [(V.str (Str.ofString "a")), v_inner])]), V.none, (V.int 1)])]) >>= fun t255 => (binop .Add t254 t255 >>= fun t256 => (newO (.list [(V.tup [(V.str (Str.ofString "record")), (V.tup [(V.tup [(V.str (Str.ofString "a")), (V.tup [(V.str (Str.ofString "record")), (V.tup []), (V.int 9)])])]), (V.int 9)]), (V.tup [(V.str (Str.ofString "record")), (V.tup [(V.tup [(V.str (Str.ofString "a")), (V.tup [(V.str (Str.ofString "blank")), (V.int 9)])])]), (V.int 10)])]) >>= fun t257 => (binop .Add t256 t257 >>= fun t258 => (newO (.list [(V.tup [(V.str (Str.ofString "records")), (V.tup []), V.none])]) >>= fun t259 => (binop .Add t258 t259 >>= fun t260 => (newO (.list [(V.tup [(V.str (Str.ofString "record")), (V.tup [(V.tup [(V.str (Str.ofString "a")), (V.tup [(V.str (Str.ofString "record")), (V.tup [(V.tup [(V.str (Str.ofString "a")), v_inner])]), (V.int 9)])])]), (V.int 9)]), (V.tup [(V.int 5)]), (V.tup [V.none, (V.int 1)]), (V.tup [(V.str (Str.ofString "record")), V.none, V.none])]) >>= fun t261 => (binop .Add t260 t261 >>= fun t262 => (bLen t262 >>= fun t263 => (binop .Mod v_number_here t263 >>= fun t264 => (item t262 t264 >>= fun t265 => (pure t265 : M V))))))))))))))))))))))))))))))))))))))))) := by
  rw [cl02_succ L_odd_K, callFn_K]; kernel_rfl

noncomputable def L_changed_F : Fn := (fnsT tab02 "_law_changed").getD ⟨[], [], []⟩
theorem L_changed_K : fnsT tab02 "_law_changed" = some L_changed_F := by kernel_rfl
noncomputable def L_changed_t1 (d : Nat) (v_kind_here : V) (v_path : V) (v_odd_here : V) : M V := (binop .FloorDiv v_path (V.int 4) >>= fun t266 => (item v_kind_here (V.int 1) >>= fun t267 => (bLen t267 >>= fun t268 => (binop .Mod t266 t268 >>= fun t269 => (item v_kind_here (V.int 1) >>= fun t270 => (item t270 t269 >>= fun t271 => (item t271 (V.int 0) >>= fun t272 => (item v_kind_here (V.int 1) >>= fun t273 => (item t273 t269 >>= fun t274 => (item t274 (V.int 1) >>= fun t275 => (binop .FloorDiv v_path (V.int 16) >>= fun t276 => (cl02 d "_law_changed" [t275, t276, v_odd_here] >>= fun t277 => (item v_kind_here (V.int 1) >>= fun t278 => (bound V.none >>= fun i279 => bound t269 >>= fun i280 => sliceV i279 i280 t278 >>= fun t281 => (binop .Add t281 (V.tup [(V.tup [t272, t277])]) >>= fun t282 => (item v_kind_here (V.int 1) >>= fun t283 => (binop .Add t269 (V.int 1) >>= fun t284 => (bound t284 >>= fun i285 => bound V.none >>= fun i286 => sliceV i285 i286 t283 >>= fun t287 => (binop .Add t282 t287 >>= fun t288 => (item v_kind_here (V.int 2) >>= fun t289 => (pure (V.tup [(V.str (Str.ofString "record")), t288, t289]) : M V)))))))))))))))))))))
theorem L_changed_sh (d : Nat) (v_kind_here : V) (v_path : V) (v_odd_here : V) : cl02 (d + 1) "_law_changed" [v_kind_here, v_path, v_odd_here] = (item v_kind_here (V.int 0) >>= fun t290 => (cmp .NotEq t290 (V.str (Str.ofString "record")) >>= fun t291 => (truth t291 >>= fun b292 => (cond b292 (pure v_odd_here : M V) (item v_kind_here (V.int 1) >>= fun t293 => (cmp .Eq t293 (V.tup []) >>= fun t294 => (truth t294 >>= fun b295 => (cond b295 (pure v_odd_here : M V) (binop .Mod v_path (V.int 4) >>= fun t296 => (cmp .Eq t296 (V.int 0) >>= fun t297 => (truth t297 >>= fun b298 => (cond b298 (pure v_odd_here : M V) (L_changed_t1 d v_kind_here v_path v_odd_here))))))))))))) := by
  rw [cl02_succ L_changed_K, callFn_K]; kernel_rfl

noncomputable def L_word_F : Fn := (fnsT tab02 "_law_word").getD ⟨[], [], []⟩
theorem L_word_K : fnsT tab02 "_law_word" = some L_word_F := by kernel_rfl
noncomputable def L_word_c1 : Expr := (ePart (sVal (nthS L_word_F.body 1)) 1)
theorem L_word_c1_in (v_thing_here : V) : innerLoc L_word_F.names [some v_thing_here, none, none, none, none] (cScope L_word_c1).names = pure [none, none] := by kernel_rfl
theorem L_word_c1_bind (o_signx : Option V) (v_signx : V) : bindTo (stLocL (relab L_word_F.names (cScope L_word_c1).names)) (cTgt L_word_c1) v_signx [none, o_signx] = pure [none, some v_signx] := by kernel_rfl
theorem L_word_c1_elt (d : Nat) (v_signx : V) : ev (cf02 d) (cElt L_word_c1) (relab L_word_F.names (cScope L_word_c1).names) [none, some v_signx] = (cmp .In v_signx (V.str (Str.ofString "abcdefghijklmnopqrstuvwxyz")) >>= fun t299 => (pure t299 : M V)) := by rw [ev_K]; kernel_rfl
theorem L_word_c1_tst (d : Nat) (loc : Loc) : tests (cf02 d) (cIfs L_word_c1) (relab L_word_F.names (cScope L_word_c1).names) loc = (pure true : M Bool) := by kernel_rfl
theorem L_word_c1_ok : compOk (cScope L_word_c1).kind (cScope L_word_c1).names = true := by kernel_rfl
noncomputable def L_word_t1 (d : Nat) (v_thing_here : V) : M V := (srcV v_thing_here >>= fun s301 => (compAll (cf02 d) (cElt L_word_c1) (cTgt L_word_c1) (cIfs L_word_c1) (cScope L_word_c1) s301 L_word_F.names [some v_thing_here, none, none, none, none] >>= fun t300 => (bAll t300 >>= fun t302 => (pure t302 : M V))))
theorem L_word_sh (d : Nat) (v_thing_here : V) : cl02 (d + 1) "_law_word" [v_thing_here] = (isKd Kd.str v_thing_here >>= fun t303 => (truth t303 >>= fun b304 => (cond (!b304) (pure (V.bool false) : M V) (bLen v_thing_here >>= fun t305 => (cmp .LtE (V.int 1) t305 >>= fun t306 => boolK t306 (cmp .LtE t305 (V.int 8) >>= fun t307 => (truth t307 >>= fun b308 => (cond (!b308) (pure (V.bool false) : M V) (L_word_t1 d v_thing_here)))) (truth (V.bool false) >>= fun b309 => (cond (!b309) (pure (V.bool false) : M V) (L_word_t1 d v_thing_here)))))))) := by
  rw [cl02_succ L_word_K, callFn_K]; kernel_rfl

noncomputable def L_number_F : Fn := (fnsT tab02 "_law_number").getD ⟨[], [], []⟩
theorem L_number_K : fnsT tab02 "_law_number" = some L_number_F := by kernel_rfl
theorem L_number_sh (d : Nat) (v_thing_here : V) : cl02 (d + 1) "_law_number" [v_thing_here] = (isKd Kd.int v_thing_here >>= fun t310 => (truth t310 >>= fun b311 => cond b311 (isKd Kd.bool v_thing_here >>= fun t312 => (truth t312 >>= fun b313 => (truth (V.bool (!b313)) >>= fun b314 => cond b314 (cmp .GtE v_thing_here (V.int 0) >>= fun t315 => (pure t315 : M V)) (pure (V.bool (!b313)) : M V)))) (pure t310 : M V))) := by
  rw [cl02_succ L_number_K, callFn_K]; kernel_rfl

noncomputable def L_blank_F : Fn := (fnsT tab02 "_law_blank").getD ⟨[], [], []⟩
theorem L_blank_K : fnsT tab02 "_law_blank" = some L_blank_F := by kernel_rfl
noncomputable def L_blank_t1 (d : Nat) (v_seen : V) (v_number_here : V) (v_labels_here : V) : M V := (setItem v_seen v_number_here v_labels_here >>= fun _ => (pure (V.bool true) : M V))
theorem L_blank_sh (d : Nat) (v_seen : V) (v_number_here : V) (v_labels_here : V) : cl02 (d + 1) "_law_blank" [v_seen, v_number_here, v_labels_here] = (cmp .In v_number_here v_seen >>= fun t316 => (truth t316 >>= fun b317 => (cond b317 (item v_seen v_number_here >>= fun t318 => (cmp .NotEq t318 v_labels_here >>= fun t319 => (truth t319 >>= fun b320 => (cond b320 (pure (V.bool false) : M V) (L_blank_t1 d v_seen v_number_here v_labels_here))))) (L_blank_t1 d v_seen v_number_here v_labels_here)))) := by
  rw [cl02_succ L_blank_K, callFn_K]; kernel_rfl

noncomputable def L_good_F : Fn := (fnsT tab02 "_law_good").getD ⟨[], [], []⟩
theorem L_good_K : fnsT tab02 "_law_good" = some L_good_F := by kernel_rfl
noncomputable def L_good_l1 : Stmt := (nthS L_good_F.body 6)
noncomputable def L_good_t6 (d : Nat) (v_thing_here : V) (v_left : V) (v_seen : V) (v_labels_here : V) (v_pair : V) : M (Fl × Loc) := (askS (mtag v_labels_here "append") >>= fun g324 => (item v_pair (V.int 0) >>= fun t325 => (runM g324 v_labels_here [t325] >>= fun t326 => (pure (Fl.next, [some v_thing_here, some v_left, some v_seen, some v_labels_here, some v_pair, none, none, none, none, none, none, none, none]) : M (Fl × Loc)))))
noncomputable def L_good_t5 (d : Nat) (v_thing_here : V) (v_left : V) (v_seen : V) (v_labels_here : V) (v_pair : V) : M (Fl × Loc) := (newO (.list []) >>= fun t327 => (cmp .NotEq v_labels_here t327 >>= fun t328 => (truth t328 >>= fun b329 => (cond b329 (item v_labels_here (V.int (-1)) >>= fun t330 => (item v_pair (V.int 0) >>= fun t331 => (cmp .GtE t330 t331 >>= fun t332 => (truth t332 >>= fun b333 => (cond b333 (cond true (pure (Fl.ret (V.bool false), [some v_thing_here, some v_left, some v_seen, some v_labels_here, some v_pair, none, none, none, none, none, none, none, none]) : M (Fl × Loc)) (item v_pair (V.int 1) >>= fun t334 => (binop .Sub v_left (V.int 1) >>= fun t335 => (cl02 d "_law_good" [t334, t335, v_seen] >>= fun t336 => (truth t336 >>= fun b337 => (cond (!b337) (pure (Fl.ret (V.bool false), [some v_thing_here, some v_left, some v_seen, some v_labels_here, some v_pair, none, none, none, none, none, none, none, none]) : M (Fl × Loc)) (L_good_t6 d v_thing_here v_left v_seen v_labels_here v_pair))))))) (cond false (pure (Fl.ret (V.bool false), [some v_thing_here, some v_left, some v_seen, some v_labels_here, some v_pair, none, none, none, none, none, none, none, none]) : M (Fl × Loc)) (item v_pair (V.int 1) >>= fun t338 => (binop .Sub v_left (V.int 1) >>= fun t339 => (cl02 d "_law_good" [t338, t339, v_seen] >>= fun t340 => (truth t340 >>= fun b341 => (cond (!b341) (pure (Fl.ret (V.bool false), [some v_thing_here, some v_left, some v_seen, some v_labels_here, some v_pair, none, none, none, none, none, none, none, none]) : M (Fl × Loc)) (L_good_t6 d v_thing_here v_left v_seen v_labels_here v_pair)))))))))))) (cond false (pure (Fl.ret (V.bool false), [some v_thing_here, some v_left, some v_seen, some v_labels_here, some v_pair, none, none, none, none, none, none, none, none]) : M (Fl × Loc)) (item v_pair (V.int 1) >>= fun t342 => (binop .Sub v_left (V.int 1) >>= fun t343 => (cl02 d "_law_good" [t342, t343, v_seen] >>= fun t344 => (truth t344 >>= fun b345 => (cond (!b345) (pure (Fl.ret (V.bool false), [some v_thing_here, some v_left, some v_seen, some v_labels_here, some v_pair, none, none, none, none, none, none, none, none]) : M (Fl × Loc)) (L_good_t6 d v_thing_here v_left v_seen v_labels_here v_pair)))))))))))
theorem L_good_l1_step (d : Nat) (v_pairx : V) (v_thing_here : V) (v_left : V) (v_seen : V) (v_labels_here : V) (o_pair : Option V) : (bindTo (stLoc L_good_F.names) (sTgt L_good_l1) v_pairx [some v_thing_here, some v_left, some v_seen, some v_labels_here, o_pair, none, none, none, none, none, none, none, none] >>= exs (cf02 d) (sBody L_good_l1) L_good_F.names) = (isKd Kd.tuple v_pairx >>= fun t346 => (truth t346 >>= fun b347 => (cond (!b347) (pure (Fl.ret (V.bool false), [some v_thing_here, some v_left, some v_seen, some v_labels_here, some v_pairx, none, none, none, none, none, none, none, none]) : M (Fl × Loc)) (bLen v_pairx >>= fun t348 => (cmp .NotEq t348 (V.int 2) >>= fun t349 => (truth t349 >>= fun b350 => (cond b350 (pure (Fl.ret (V.bool false), [some v_thing_here, some v_left, some v_seen, some v_labels_here, some v_pairx, none, none, none, none, none, none, none, none]) : M (Fl × Loc)) (item v_pairx (V.int 0) >>= fun t351 => (cl02 d "_law_word" [t351] >>= fun t352 => (truth t352 >>= fun b353 => (cond (!b353) (pure (Fl.ret (V.bool false), [some v_thing_here, some v_left, some v_seen, some v_labels_here, some v_pairx, none, none, none, none, none, none, none, none]) : M (Fl × Loc)) (L_good_t5 d v_thing_here v_left v_seen v_labels_here v_pairx)))))))))))) := by
  refine Eq.trans (show _ = exs (cf02 d) (sBody L_good_l1) L_good_F.names [some v_thing_here, some v_left, some v_seen, some v_labels_here, some v_pairx, none, none, none, none, none, none, none, none] from by kernel_rfl) ?_
  rw [exs_K]; kernel_rfl
noncomputable def L_good_a1 (d : Nat) (loc : Loc) : M V := exsK (cf02 d) (List.drop 7 L_good_F.body) L_good_F.names loc retK
theorem L_good_a1_eq (d : Nat) (v_thing_here : V) (v_left : V) (v_seen : V) (v_labels_here : V) (o_pair : Option V) : L_good_a1 d [some v_thing_here, some v_left, some v_seen, some v_labels_here, o_pair, none, none, none, none, none, none, none, none] = (item v_thing_here (V.int 2) >>= fun t354 => (cmp .Is t354 V.none >>= fun t355 => (truth t355 >>= fun b356 => cond b356 (pure t355 : M V) (item v_thing_here (V.int 2) >>= fun t357 => (cl02 d "_law_number" [t357] >>= fun t358 => (truth t358 >>= fun b359 => cond b359 (item v_thing_here (V.int 2) >>= fun t360 => (cl02 d "_law_blank" [v_seen, t360, v_labels_here] >>= fun t361 => (pure t361 : M V))) (pure t358 : M V))))))) := by kernel_rfl
noncomputable def L_good_t4 (d : Nat) (v_thing_here : V) (v_left : V) (v_seen : V) : M V := (newO (.list []) >>= fun t323 => (item v_thing_here (V.int 1) >>= fun t362 => (srcV t362 >>= fun s363 => (forAll (cf02 d) (sTgt L_good_l1) (sBody L_good_l1) s363 L_good_F.names [some v_thing_here, some v_left, some v_seen, some t323, none, none, none, none, none, none, none, none, none] >>= flK retK (L_good_a1 d)))))
noncomputable def L_good_t3 (d : Nat) (v_thing_here : V) (v_left : V) (v_seen : V) : M V := (item v_thing_here (V.int 0) >>= fun t364 => (cmp .NotEq t364 (V.str (Str.ofString "record")) >>= fun t365 => (truth t365 >>= fun b366 => (cond b366 (pure (V.bool false) : M V) (bLen v_thing_here >>= fun t367 => (cmp .NotEq t367 (V.int 3) >>= fun t368 => (truth t368 >>= fun b369 => (cond b369 (pure (V.bool false) : M V) (item v_thing_here (V.int 1) >>= fun t370 => (isKd Kd.tuple t370 >>= fun t371 => (truth t371 >>= fun b372 => (cond (!b372) (pure (V.bool false) : M V) (L_good_t4 d v_thing_here v_left v_seen)))))))))))))
noncomputable def L_good_t2 (d : Nat) (v_thing_here : V) (v_left : V) (v_seen : V) : M V := (item v_thing_here (V.int 0) >>= fun t373 => (cmp .Eq t373 (V.str (Str.ofString "blank")) >>= fun t374 => (truth t374 >>= fun b375 => (if b375 = true then (bLen v_thing_here >>= fun t376 => (cmp .Eq t376 (V.int 2) >>= fun t377 => (truth t377 >>= fun b378 => cond b378 (item v_thing_here (V.int 1) >>= fun t379 => (cl02 d "_law_number" [t379] >>= fun t380 => (truth t380 >>= fun b381 => cond b381 (item v_thing_here (V.int 1) >>= fun t382 => (cl02 d "_law_blank" [v_seen, t382, V.none] >>= fun t383 => (pure t383 : M V))) (pure t380 : M V)))) (pure t377 : M V)))) else (L_good_t3 d v_thing_here v_left v_seen)))))
noncomputable def L_good_t1 (d : Nat) (v_thing_here : V) (v_left : V) (v_seen : V) : M V := (item v_seen (V.int (-1)) >>= fun t321 => (binop .Add t321 (V.int 1) >>= fun t322 => (setItem v_seen (V.int (-1)) t322 >>= fun _ => (item v_thing_here (V.int 0) >>= fun t384 => (cmp .Eq t384 (V.str (Str.ofString "number")) >>= fun t385 => (truth t385 >>= fun b386 => (if b386 = true then (bLen v_thing_here >>= fun t387 => (cmp .Eq t387 (V.int 1) >>= fun t388 => (pure t388 : M V))) else (L_good_t2 d v_thing_here v_left v_seen))))))))
theorem L_good_sh (d : Nat) (v_thing_here : V) (v_left : V) (v_seen : V) : cl02 (d + 1) "_law_good" [v_thing_here, v_left, v_seen] = (cmp .Eq v_left (V.int 0) >>= fun t389 => (truth t389 >>= fun b390 => (cond b390 (pure (V.bool false) : M V) (isKd Kd.tuple v_thing_here >>= fun t391 => (truth t391 >>= fun b392 => (cond (!b392) (pure (V.bool false) : M V) (bLen v_thing_here >>= fun t393 => (cmp .Eq t393 (V.int 0) >>= fun t394 => (truth t394 >>= fun b395 => (cond b395 (pure (V.bool false) : M V) (item v_thing_here (V.int 0) >>= fun t396 => (isKd Kd.str t396 >>= fun t397 => (truth t397 >>= fun b398 => (cond (!b398) (pure (V.bool false) : M V) (L_good_t1 d v_thing_here v_left v_seen))))))))))))))) := by
  rw [cl02_succ L_good_K, callFn_K]; kernel_rfl

noncomputable def L_due_F : Fn := (fnsT tab02 "_law_due").getD ⟨[], [], []⟩
theorem L_due_K : fnsT tab02 "_law_due" = some L_due_F := by kernel_rfl
theorem L_due_sh (d : Nat) (v_thing_here : V) : cl02 (d + 1) "_law_due" [v_thing_here] = (newO (.dict [(.inl (-1), V.int (0))]) >>= fun t399 => (cl02 d "_law_good" [v_thing_here, (V.int 12), t399] >>= fun t400 => (truth t400 >>= fun b401 => cond b401 (item t399 (V.int (-1)) >>= fun t402 => (cmp .LtE t402 (V.int 200) >>= fun t403 => (pure t403 : M V))) (pure t400 : M V)))) := by
  rw [cl02_succ L_due_K, callFn_K]; kernel_rfl

noncomputable def L_merged_F : Fn := (fnsT tab02 "_law_merged").getD ⟨[], [], []⟩
theorem L_merged_K : fnsT tab02 "_law_merged" = some L_merged_F := by kernel_rfl
noncomputable def L_merged_c1 : Expr := (ePart (ePart (sVal (nthS L_merged_F.body 4)) 1) 1)
theorem L_merged_c1_in (v_kind_here : V) (v_many : V) (v_rest : V) : innerLoc L_merged_F.names [some v_kind_here, some v_many, some v_rest, none] (cScope L_merged_c1).names = pure [none, none, none, none, some v_many] := by kernel_rfl
theorem L_merged_c1_bind (v_many : V) (o_labelx : Option V) (o_innerx : Option V) (v_labelx : V) (v_innerx : V) : bindTo (stLocL (relab L_merged_F.names (cScope L_merged_c1).names)) (cTgt L_merged_c1) (.tup [v_labelx, v_innerx]) [none, o_labelx, o_innerx, none, some v_many] = pure [none, some v_labelx, some v_innerx, none, some v_many] := by kernel_rfl
theorem L_merged_c1_elt (d : Nat) (v_many : V) (v_labelx : V) (v_innerx : V) : ev (cf02 d) (cElt L_merged_c1) (relab L_merged_F.names (cScope L_merged_c1).names) [none, some v_labelx, some v_innerx, none, some v_many] = (cl02 d "_law_merged" [v_innerx, v_many] >>= fun t405 => (pure (V.tup [v_labelx, t405]) : M V)) := by rw [ev_K]; kernel_rfl
theorem L_merged_c1_tst (d : Nat) (loc : Loc) : tests (cf02 d) (cIfs L_merged_c1) (relab L_merged_F.names (cScope L_merged_c1).names) loc = (pure true : M Bool) := by kernel_rfl
theorem L_merged_c1_ok : compOk (cScope L_merged_c1).kind (cScope L_merged_c1).names = true := by kernel_rfl
noncomputable def L_merged_t3 (d : Nat) (v_kind_here : V) (v_many : V) (v_rest : V) : M V := (item v_kind_here (V.int 1) >>= fun t407 => (srcV t407 >>= fun s408 => (compAll (cf02 d) (cElt L_merged_c1) (cTgt L_merged_c1) (cIfs L_merged_c1) (cScope L_merged_c1) s408 L_merged_F.names [some v_kind_here, some v_many, some v_rest, none] >>= fun t406 => (bTuple t406 >>= fun t409 => (pure (V.tup [(V.str (Str.ofString "record")), t409, v_rest]) : M V)))))
noncomputable def L_merged_t2 (d : Nat) (v_kind_here : V) (v_many : V) : M V := (item v_kind_here (V.int 2) >>= fun t404 => (cmp .IsNot t404 V.none >>= fun t410 => (truth t410 >>= fun b411 => (if b411 = true then (binop .Mod t404 v_many >>= fun t412 => (L_merged_t3 d v_kind_here v_many t412)) else (L_merged_t3 d v_kind_here v_many t404)))))
noncomputable def L_merged_t1 (d : Nat) (v_kind_here : V) (v_many : V) : M V := (item v_kind_here (V.int 0) >>= fun t413 => (cmp .Eq t413 (V.str (Str.ofString "number")) >>= fun t414 => (truth t414 >>= fun b415 => (if b415 = true then (pure v_kind_here : M V) else (L_merged_t2 d v_kind_here v_many)))))
theorem L_merged_sh (d : Nat) (v_kind_here : V) (v_many : V) : cl02 (d + 1) "_law_merged" [v_kind_here, v_many] = (item v_kind_here (V.int 0) >>= fun t416 => (cmp .Eq t416 (V.str (Str.ofString "blank")) >>= fun t417 => (truth t417 >>= fun b418 => (if b418 = true then (item v_kind_here (V.int 1) >>= fun t419 => (binop .Mod t419 v_many >>= fun t420 => (pure (V.tup [(V.str (Str.ofString "blank")), t420]) : M V))) else (L_merged_t1 d v_kind_here v_many))))) := by
  rw [cl02_succ L_merged_K, callFn_K]; kernel_rfl

noncomputable def L_thing_F : Fn := (fnsT tab02 "_law_thing").getD ⟨[], [], []⟩
theorem L_thing_K : fnsT tab02 "_law_thing" = some L_thing_F := by kernel_rfl
noncomputable def L_thing_t3 (d : Nat) (v_kind_here : V) (v_labels_here : V) (v_way : V) (v_number_here : V) (o_thing_here : Option V) (o_k : Option V) (o_signs : Option V) (o_size : Option V) (o_words : Option V) : M V := (binop .FloorDiv v_way (V.int 4) >>= fun t421 => (cl02 d "_law_odd" [v_number_here, (V.tup [(V.str (Str.ofString "number"))])] >>= fun t422 => (cl02 d "_law_changed" [v_kind_here, t421, t422] >>= fun t423 => (pure t423 : M V))))
noncomputable def L_thing_c1 : Expr := (sVal (nthS (sBody (nthS L_thing_F.body 2)) 2))
theorem L_thing_c1_in (v_kind_here : V) (v_labels_here : V) (v_way : V) (v_number_here : V) (o_thing_here : Option V) (o_k : Option V) (v_signs : V) (v_size : V) : innerLoc L_thing_F.names [some v_kind_here, some v_labels_here, some v_way, some v_number_here, o_thing_here, o_k, some v_signs, some v_size, none, none, none, none, none, none] (cScope L_thing_c1).names = pure [none, none, some v_signs] := by kernel_rfl
theorem L_thing_c1_bind (v_signs : V) (o_kx : Option V) (v_kx : V) : bindTo (stLocL (relab L_thing_F.names (cScope L_thing_c1).names)) (cTgt L_thing_c1) v_kx [none, o_kx, some v_signs] = pure [none, some v_kx, some v_signs] := by kernel_rfl
theorem L_thing_c1_elt (d : Nat) (v_signs : V) (v_kx : V) : ev (cf02 d) (cElt L_thing_c1) (relab L_thing_F.names (cScope L_thing_c1).names) [none, some v_kx, some v_signs] = (binop .FloorDiv v_kx (V.int 26) >>= fun t439 => (item v_signs t439 >>= fun t440 => (binop .Mod v_kx (V.int 26) >>= fun t441 => (item v_signs t441 >>= fun t442 => (binop .Add t440 t442 >>= fun t443 => (pure t443 : M V)))))) := by rw [ev_K]; kernel_rfl
theorem L_thing_c1_tst (d : Nat) (loc : Loc) : tests (cf02 d) (cIfs L_thing_c1) (relab L_thing_F.names (cScope L_thing_c1).names) loc = (pure true : M Bool) := by kernel_rfl
theorem L_thing_c1_ok : compOk (cScope L_thing_c1).kind (cScope L_thing_c1).names = true := by kernel_rfl
noncomputable def L_thing_c2 : Expr := (ePart (ePart (sVal (nthS (sBody (nthS L_thing_F.body 2)) 3)) 1) 1)
theorem L_thing_c2_in (v_kind_here : V) (v_labels_here : V) (v_way : V) (v_number_here : V) (o_thing_here : Option V) (o_k : Option V) (v_signs : V) (v_size : V) (v_words : V) : innerLoc L_thing_F.names [some v_kind_here, some v_labels_here, some v_way, some v_number_here, o_thing_here, o_k, some v_signs, some v_size, some v_words, none, none, none, none, none] (cScope L_thing_c2).names = pure [none, none] := by kernel_rfl
theorem L_thing_c2_bind (o_word_herex : Option V) (v_word_herex : V) : bindTo (stLocL (relab L_thing_F.names (cScope L_thing_c2).names)) (cTgt L_thing_c2) v_word_herex [none, o_word_herex] = pure [none, some v_word_herex] := by kernel_rfl
theorem L_thing_c2_elt (d : Nat) (v_word_herex : V) : ev (cf02 d) (cElt L_thing_c2) (relab L_thing_F.names (cScope L_thing_c2).names) [none, some v_word_herex] = (pure (V.tup [v_word_herex, (V.tup [(V.str (Str.ofString "number"))])]) : M V) := by rw [ev_K]; kernel_rfl
theorem L_thing_c2_tst (d : Nat) (loc : Loc) : tests (cf02 d) (cIfs L_thing_c2) (relab L_thing_F.names (cScope L_thing_c2).names) loc = (pure true : M Bool) := by kernel_rfl
theorem L_thing_c2_ok : compOk (cScope L_thing_c2).kind (cScope L_thing_c2).names = true := by kernel_rfl
noncomputable def L_thing_t2 (d : Nat) (v_kind_here : V) (v_labels_here : V) (v_way : V) (v_number_here : V) (o_thing_here : Option V) (o_k : Option V) : M V := (binop .Mod v_way (V.int 4) >>= fun t424 => (cmp .Eq t424 (V.int 2) >>= fun t425 => (truth t425 >>= fun b426 => (cond b426 (binop .FloorDiv v_way (V.int 4) >>= fun t427 => (binop .Mod t427 (V.int 4) >>= fun t428 => (cmp .Eq t428 (V.int 0) >>= fun t429 => (truth t429 >>= fun b430 => (cond b430 (binop .FloorDiv v_number_here (V.int 2) >>= fun t431 => (binop .Mod t431 (V.int 210) >>= fun t432 => (binop .FloorDiv v_number_here (V.int 2) >>= fun t433 => (binop .Mod t433 (V.int 3) >>= fun t434 => (binop .Add (V.int 199) t434 >>= fun t435 => (newO (.list [t432, t435]) >>= fun t436 => (binop .Mod v_number_here (V.int 2) >>= fun t437 => (item t436 t437 >>= fun t438 => (rangeOf t438 >>= fun s445 => (compAll (cf02 d) (cElt L_thing_c1) (cTgt L_thing_c1) (cIfs L_thing_c1) (cScope L_thing_c1) s445 L_thing_F.names [some v_kind_here, some v_labels_here, some v_way, some v_number_here, o_thing_here, o_k, some (V.str (Str.ofString "abcdefghijklmnopqrstuvwxyz")), some t438, none, none, none, none, none, none] >>= fun t444 => (srcV t444 >>= fun s447 => (compAll (cf02 d) (cElt L_thing_c2) (cTgt L_thing_c2) (cIfs L_thing_c2) (cScope L_thing_c2) s447 L_thing_F.names [some v_kind_here, some v_labels_here, some v_way, some v_number_here, o_thing_here, o_k, some (V.str (Str.ofString "abcdefghijklmnopqrstuvwxyz")), some t438, some t444, none, none, none, none, none] >>= fun t446 => (bTuple t446 >>= fun t448 => (pure (V.tup [(V.str (Str.ofString "record")), t448, V.none]) : M V)))))))))))))) (L_thing_t3 d v_kind_here v_labels_here v_way v_number_here o_thing_here o_k none none none)))))) (L_thing_t3 d v_kind_here v_labels_here v_way v_number_here o_thing_here o_k none none none)))))
noncomputable def L_thing_l1 : Stmt := (nthS (sBody (nthS L_thing_F.body 1)) 1)
theorem L_thing_l1_step (d : Nat) (v_kx : V) (v_kind_here : V) (v_labels_here : V) (v_way : V) (v_number_here : V) (v_thing_here : V) (o_k : Option V) : (bindTo (stLoc L_thing_F.names) (sTgt L_thing_l1) v_kx [some v_kind_here, some v_labels_here, some v_way, some v_number_here, some v_thing_here, o_k, none, none, none, none, none, none, none, none] >>= exs (cf02 d) (sBody L_thing_l1) L_thing_F.names) = (binop .Mod v_kx (V.int 4) >>= fun t452 => (item v_labels_here t452 >>= fun t453 => (pure (Fl.next, [some v_kind_here, some v_labels_here, some v_way, some v_number_here, some (V.tup [(V.str (Str.ofString "record")), (V.tup [(V.tup [t453, v_thing_here])]), V.none]), some v_kx, none, none, none, none, none, none, none, none]) : M (Fl × Loc)))) := by
  refine Eq.trans (show _ = exs (cf02 d) (sBody L_thing_l1) L_thing_F.names [some v_kind_here, some v_labels_here, some v_way, some v_number_here, some v_thing_here, some v_kx, none, none, none, none, none, none, none, none] from by kernel_rfl) ?_
  rw [exs_K]; kernel_rfl
noncomputable def L_thing_a1 (d : Nat) (loc : Loc) : M V := exsK (cf02 d) (List.drop 2 (sBody (nthS L_thing_F.body 1))) L_thing_F.names loc (flK retK (fun loc' => exsK (cf02 d) (List.drop 2 L_thing_F.body) L_thing_F.names loc' retK))
theorem L_thing_a1_eq (d : Nat) (v_kind_here : V) (v_labels_here : V) (v_way : V) (v_number_here : V) (v_thing_here : V) (o_k : Option V) : L_thing_a1 d [some v_kind_here, some v_labels_here, some v_way, some v_number_here, some v_thing_here, o_k, none, none, none, none, none, none, none, none] = (pure v_thing_here : M V) := by kernel_rfl
noncomputable def L_thing_t1 (d : Nat) (v_kind_here : V) (v_labels_here : V) (v_way : V) (v_number_here : V) : M V := (binop .Mod v_way (V.int 4) >>= fun t449 => (cmp .Eq t449 (V.int 1) >>= fun t450 => (truth t450 >>= fun b451 => (if b451 = true then (binop .Mod v_number_here (V.int 12) >>= fun t454 => (rangeOf t454 >>= fun s455 => (forAll (cf02 d) (sTgt L_thing_l1) (sBody L_thing_l1) s455 L_thing_F.names [some v_kind_here, some v_labels_here, some v_way, some v_number_here, some v_kind_here, none, none, none, none, none, none, none, none, none] >>= flK (flK retK (fun loc' => exsK (cf02 d) (List.drop 2 L_thing_F.body) L_thing_F.names loc' retK)) (L_thing_a1 d)))) else (L_thing_t2 d v_kind_here v_labels_here v_way v_number_here none none)))))
theorem L_thing_sh (d : Nat) (v_kind_here : V) (v_labels_here : V) (v_way : V) (v_number_here : V) : cl02 (d + 1) "_law_thing" [v_kind_here, v_labels_here, v_way, v_number_here] = (binop .Mod v_way (V.int 4) >>= fun t456 => (cmp .Eq t456 (V.int 0) >>= fun t457 => (truth t457 >>= fun b458 => (if b458 = true then (binop .Mod v_number_here (V.int 3) >>= fun t459 => (binop .Add (V.int 2) t459 >>= fun t460 => (cl02 d "_law_merged" [v_kind_here, t460] >>= fun t461 => (pure t461 : M V)))) else (L_thing_t1 d v_kind_here v_labels_here v_way v_number_here))))) := by
  rw [cl02_succ L_thing_K, callFn_K]; kernel_rfl

noncomputable def L_law_F : Fn := (fnsT tab02 "law").getD ⟨[], [], []⟩
theorem L_law_K : fnsT tab02 "law" = some L_law_F := by kernel_rfl
noncomputable def L_law_l1 : Stmt := (nthS L_law_F.body 5)
theorem L_law_l1_step (d : Nat) (v_sizex : V) (v_script : V) (v_labels_here : V) (v_state : V) (v_met : V) (v_kind_here : V) (v_things : V) (o_size : Option V) : (bindTo (stLoc L_law_F.names) (sTgt L_law_l1) v_sizex [some v_script, some v_labels_here, some v_state, some v_met, some v_kind_here, some v_things, o_size, none, none, none, none, none, none, none, none, none, none, none, none] >>= exs (cf02 d) (sBody L_law_l1) L_law_F.names) = (askS (mtag v_things "append") >>= fun g483 => (item v_labels_here (V.int 0) >>= fun t484 => (binop .Add t484 (V.str (Str.ofString "aaaaaaaaa")) >>= fun t485 => (bound V.none >>= fun i486 => bound v_sizex >>= fun i487 => sliceV i486 i487 t485 >>= fun t488 => (runM g483 v_things [(V.tup [(V.str (Str.ofString "record")), (V.tup [(V.tup [t488, (V.tup [(V.str (Str.ofString "number"))])])]), V.none])] >>= fun t489 => (pure (Fl.next, [some v_script, some v_labels_here, some v_state, some v_met, some v_kind_here, some v_things, some v_sizex, none, none, none, none, none, none, none, none, none, none, none, none]) : M (Fl × Loc))))))) := by
  refine Eq.trans (show _ = exs (cf02 d) (sBody L_law_l1) L_law_F.names [some v_script, some v_labels_here, some v_state, some v_met, some v_kind_here, some v_things, some v_sizex, none, none, none, none, none, none, none, none, none, none, none, none] from by kernel_rfl) ?_
  rw [exs_K]; kernel_rfl
noncomputable def L_law_a1 (d : Nat) (loc : Loc) : M V := exsK (cf02 d) (List.drop 6 L_law_F.body) L_law_F.names loc retK
noncomputable def L_law_l2 : Stmt := (nthS L_law_F.body 6)
theorem L_law_l2_step (d : Nat) (v_kx : V) (v_script : V) (v_labels_here : V) (v_state : V) (v_met : V) (v_kind_here : V) (v_things : V) (o_size : Option V) (o_k : Option V) : (bindTo (stLoc L_law_F.names) (sTgt L_law_l2) v_kx [some v_script, some v_labels_here, some v_state, some v_met, some v_kind_here, some v_things, o_size, o_k, none, none, none, none, none, none, none, none, none, none, none] >>= exs (cf02 d) (sBody L_law_l2) L_law_F.names) = (askS (mtag v_things "append") >>= fun g490 => (binop .Mult (V.int 2) v_kx >>= fun t491 => (binop .Add (V.int 4) t491 >>= fun t492 => (cl02 d "_law_cell" [v_script, t492] >>= fun t493 => (binop .Mult (V.int 2) v_kx >>= fun t494 => (binop .Add (V.int 5) t494 >>= fun t495 => (cl02 d "_law_cell" [v_script, t495] >>= fun t496 => (cl02 d "_law_thing" [v_kind_here, v_labels_here, t493, t496] >>= fun t497 => (runM g490 v_things [t497] >>= fun t498 => (pure (Fl.next, [some v_script, some v_labels_here, some v_state, some v_met, some v_kind_here, some v_things, o_size, some v_kx, none, none, none, none, none, none, none, none, none, none, none]) : M (Fl × Loc))))))))))) := by
  refine Eq.trans (show _ = exs (cf02 d) (sBody L_law_l2) L_law_F.names [some v_script, some v_labels_here, some v_state, some v_met, some v_kind_here, some v_things, o_size, some v_kx, none, none, none, none, none, none, none, none, none, none, none] from by kernel_rfl) ?_
  rw [exs_K]; kernel_rfl
noncomputable def L_law_a2 (d : Nat) (loc : Loc) : M V := exsK (cf02 d) (List.drop 7 L_law_F.body) L_law_F.names loc retK
noncomputable def L_law_l3 : Stmt := (nthS L_law_F.body 7)
theorem L_law_l3_step (d : Nat) (v_thing_herex : V) (v_script : V) (v_labels_here : V) (v_state : V) (v_met : V) (v_kind_here : V) (v_things : V) (o_size : Option V) (o_k : Option V) (o_found : Option V) (o_thing_here : Option V) : (bindTo (stLoc L_law_F.names) (sTgt L_law_l3) v_thing_herex [some v_script, some v_labels_here, some v_state, some v_met, some v_kind_here, some v_things, o_size, o_k, o_thing_here, o_found, none, none, none, none, none, none, none, none, none] >>= exs (cf02 d) (sBody L_law_l3) L_law_F.names) = (cl02 d "is_kind" [v_thing_herex] >>= fun t499 => (isKd Kd.bool t499 >>= fun t500 => (truth t500 >>= fun b501 => (cond (!b501) (pure (Fl.ret (V.bool false), [some v_script, some v_labels_here, some v_state, some v_met, some v_kind_here, some v_things, o_size, o_k, some v_thing_herex, some t499, none, none, none, none, none, none, none, none, none]) : M (Fl × Loc)) (cl02 d "_law_due" [v_thing_herex] >>= fun t502 => (cmp .NotEq t499 t502 >>= fun t503 => (truth t503 >>= fun b504 => (cond b504 (pure (Fl.ret (V.bool false), [some v_script, some v_labels_here, some v_state, some v_met, some v_kind_here, some v_things, o_size, o_k, some v_thing_herex, some t499, none, none, none, none, none, none, none, none, none]) : M (Fl × Loc)) (pure (Fl.next, [some v_script, some v_labels_here, some v_state, some v_met, some v_kind_here, some v_things, o_size, o_k, some v_thing_herex, some t499, none, none, none, none, none, none, none, none, none]) : M (Fl × Loc)))))))))) := by
  refine Eq.trans (show _ = exs (cf02 d) (sBody L_law_l3) L_law_F.names [some v_script, some v_labels_here, some v_state, some v_met, some v_kind_here, some v_things, o_size, o_k, some v_thing_herex, o_found, none, none, none, none, none, none, none, none, none] from by kernel_rfl) ?_
  rw [exs_K]; kernel_rfl
noncomputable def L_law_a3 (d : Nat) (loc : Loc) : M V := exsK (cf02 d) (List.drop 8 L_law_F.body) L_law_F.names loc retK
theorem L_law_a3_eq (d : Nat) (v_script : V) (v_labels_here : V) (v_state : V) (v_met : V) (v_kind_here : V) (v_things : V) (o_size : Option V) (o_k : Option V) (o_found : Option V) (o_thing_here : Option V) : L_law_a3 d [some v_script, some v_labels_here, some v_state, some v_met, some v_kind_here, some v_things, o_size, o_k, o_thing_here, o_found, none, none, none, none, none, none, none, none, none] = (pure (V.bool true) : M V) := by kernel_rfl
theorem L_law_a2_eq (d : Nat) (v_script : V) (v_labels_here : V) (v_state : V) (v_met : V) (v_kind_here : V) (v_things : V) (o_size : Option V) (o_k : Option V) : L_law_a2 d [some v_script, some v_labels_here, some v_state, some v_met, some v_kind_here, some v_things, o_size, o_k, none, none, none, none, none, none, none, none, none, none, none] = (bound V.none >>= fun i505 => bound (V.int 2) >>= fun i506 => sliceV i505 i506 v_things >>= fun t507 => (binop .Add v_things t507 >>= fun t508 => (srcV t508 >>= fun s509 => (forAll (cf02 d) (sTgt L_law_l3) (sBody L_law_l3) s509 L_law_F.names [some v_script, some v_labels_here, some v_state, some v_met, some v_kind_here, some v_things, o_size, o_k, none, none, none, none, none, none, none, none, none, none, none] >>= flK retK (L_law_a3 d))))) := by kernel_rfl
theorem L_law_a1_eq (d : Nat) (v_script : V) (v_labels_here : V) (v_state : V) (v_met : V) (v_kind_here : V) (v_things : V) (o_size : Option V) : L_law_a1 d [some v_script, some v_labels_here, some v_state, some v_met, some v_kind_here, some v_things, o_size, none, none, none, none, none, none, none, none, none, none, none, none] = (rangeOf (V.int 4) >>= fun s510 => (forAll (cf02 d) (sTgt L_law_l2) (sBody L_law_l2) s510 L_law_F.names [some v_script, some v_labels_here, some v_state, some v_met, some v_kind_here, some v_things, o_size, none, none, none, none, none, none, none, none, none, none, none, none] >>= flK retK (L_law_a2 d))) := by kernel_rfl
theorem L_law_sh (d : Nat) (v_script : V) : cl02 (d + 1) "law" [v_script] = (cl02 d "_law_cell" [v_script, (V.int 2)] >>= fun t462 => (cl02 d "_law_labels" [t462, (V.int 4)] >>= fun t463 => (cl02 d "_law_cell" [v_script, (V.int 0)] >>= fun t464 => (binop .Mod t464 (V.int 2147483645) >>= fun t465 => (binop .Add (V.int 1) t465 >>= fun t466 => (cl02 d "_law_cell" [v_script, (V.int 1)] >>= fun t467 => (binop .Mod t467 (V.int 40) >>= fun t468 => (binop .Add (V.int 1) t468 >>= fun t469 => (newO (.list [t466, t469]) >>= fun t470 => (cl02 d "_law_cell" [v_script, (V.int 3)] >>= fun t471 => (binop .Pow (V.int 10) (V.int 6) >>= fun t472 => (binop .Mod t471 t472 >>= fun t473 => (binop .Add (V.int 1) t473 >>= fun t474 => (newO (.list []) >>= fun t475 => (newO (.list [t474, t475]) >>= fun t476 => (cl02 d "_law_cell" [v_script, (V.int 1)] >>= fun t477 => (binop .FloorDiv t477 (V.int 40) >>= fun t478 => (binop .Mod t478 (V.int 11) >>= fun t479 => (binop .Add (V.int 2) t479 >>= fun t480 => (cl02 d "_law_kind" [t470, t463, t476, t480] >>= fun t481 => (newO (.list [t481]) >>= fun t482 => (newO (.list [(V.int 8), (V.int 9)]) >>= fun t511 => (srcV t511 >>= fun s512 => (forAll (cf02 d) (sTgt L_law_l1) (sBody L_law_l1) s512 L_law_F.names [some v_script, some t463, some t470, some t476, some t481, some t482, none, none, none, none, none, none, none, none, none, none, none, none, none] >>= flK retK (L_law_a1 d))))))))))))))))))))))))) := by
  rw [cl02_succ L_law_K, callFn_K]; kernel_rfl

end Mine

namespace Mine
open PySem PyProof.Rows

/-! ## what every law draws -/
theorem cell_ok {d : Nat} {zs : List Int} {σ : Store} {k : Int} (h : σ[0]? = some (.list (zs.map .int))) (hk : 0 ≤ k) : Wp (cl02 (d + 1) "_law_cell" [.ref 0, .int k]) σ (fun r σ' => σ' = σ ∧ ∃ c, r = .int c ∧ 0 ≤ c ∧ c < 2147483647) := by
  rw [L_cell_sh]
  simp only [Wp_bind, Wp_lenRef h, Wp_lt, Wp_truthB]
  by_cases hl : k < ((zs.map V.int).length : Nat)
  · rw [if_pos (decide_eq_true hl)]
    have hx : (zs.map V.int)[k.toNat]? = some (.int (zs[k.toNat]'(by simp at hl; (first | lia | omega)))) := by
      rw [List.getElem?_map, List.getElem?_eq_getElem (by simp at hl; (first | lia | omega))]; rfl
    simp only [Wp_bind, Wp_itemRef h hk hx, Wp_mul (Or.inr (show Small 48271 by decide)), Wp_mod (show (0 : Int) < 2147483647 by decide) (show (2147483647 : Int) < 18446744073709551616 by decide), Wp_pure]
    exact ⟨trivial, _, rfl, by (first | lia | omega), by (first | lia | omega)⟩
  · rw [if_neg (by simpa using hl)]
    exact Wp_pure.mpr ⟨rfl, 0, rfl, by decide, by decide⟩

theorem next_ok {d : Nat} {σ : Store} {n : Nat} {s c : Int} (h : σ[n]? = some (.list [.int s, .int c])) (hn : 0 < n) : Wp (cl02 (d + 1) "_law_next" [.ref n]) σ (fun r σ' => ∃ z s', r = .int z ∧ 0 ≤ z ∧ z < 2147483647 ∧ σ' = σ.set n (.list [.int s', .int (c - 1)])) := by
  rw [L_next_sh]
  simp only [Wp_bind, Wp_itemRef h (show (0 : Int) ≤ 0 by decide) (show ([V.int s, V.int c])[(0 : Int).toNat]? = some (.int s) from rfl), Wp_mul (Or.inr (show Small 48271 by decide)), Wp_add,
    Wp_mod (show (0 : Int) < 2147483647 by decide) (show (2147483647 : Int) < 18446744073709551616 by decide), Wp_setItem h hn (show (0 : Int) ≤ 0 by decide) (show (0 : Int) < ([V.int s, V.int c].length : Nat) from by show (0 : Int) < ((2 : Nat) : Int); decide)]
  generalize hs' : (s * 48271 + 11) % 2147483647 = s'
  have h1 : (σ.set n (.list ([V.int s, V.int c].set (0 : Int).toNat (.int s'))))[n]? = some (.list [.int s', .int c]) := set_get h
  simp only [Wp_itemRef h1 (show (0 : Int) ≤ 1 by decide) (show ([V.int s', V.int c])[(1 : Int).toNat]? = some (.int c) from rfl), Wp_sub, Wp_setItem h1 hn (show (0 : Int) ≤ 1 by decide) (show (1 : Int) < ([V.int s', V.int c].length : Nat) from by show (1 : Int) < ((2 : Nat) : Int); decide)]
  have h2 : ((σ.set n (.list ([V.int s, V.int c].set (0 : Int).toNat (.int s')))).set n (.list ([V.int s', V.int c].set (1 : Int).toNat (.int (c - 1)))))[n]? = some (.list [.int s', .int (c - 1)]) := set_get h1
  simp only [Wp_itemRef h2 (show (0 : Int) ≤ 0 by decide) (show ([V.int s', V.int (c - 1)])[(0 : Int).toNat]? = some (.int s') from rfl), Wp_div (show (0 : Int) < 7 by decide) (show (7 : Int) < 18446744073709551616 by decide), Wp_pure]
  refine ⟨s' / 7, s', rfl, by (first | lia | omega), by (first | lia | omega), ?_⟩
  rw [List.set_set]; rfl

/-- a label: a sign put into a base -/
noncomputable def lab (base : Str) (at' z : Int) (k : Nat) : Str := cutStr base none (some at') ++ chr1 (97 + ((z + 3 * (k : Int)) % 26).toNat) ++ cutStr base (some at') none
theorem sign_is {k : Int} (h0 : 0 ≤ k) (h1 : k < 26) : (Str.ofString "abcdefghijklmnopqrstuvwxyz").cps[k.toNat]? = some (97 + k.toNat) := by
  have : ∀ j : Fin 26, (Str.ofString "abcdefghijklmnopqrstuvwxyz").cps[j.val]? = some (97 + j.val) := by decide +kernel
  exact this ⟨k.toNat, by (first | lia | omega)⟩
theorem lab_inj {base : Str} {at' z : Int} {j k : Nat} (hj : j < 4) (hk : k < 4) (h : lab base at' z j = lab base at' z k) : j = k := by
  unfold lab at h
  have h1 := congrArg (fun s : Str => s.cps.toList) h
  have e : ∀ (x y : Str) (c : Nat), (x ++ chr1 c ++ y).cps.toList = x.cps.toList ++ c :: y.cps.toList := fun x y c => by
    show ((x.cps ++ #[c]) ++ y.cps).toList = _
    simp
  rw [e, e] at h1
  have h2 := List.append_cancel_left h1
  have h3 : 97 + ((z + 3 * (j : Int)) % 26).toNat = 97 + ((z + 3 * (k : Int)) % 26).toNat := (List.cons.inj h2).1
  (first | lia | omega)
theorem lab_nodup (base : Str) (at' z : Int) : ((List.range (4 : Int).toNat).map (lab base at' z)).Nodup := by
  have h : ∀ i j : Nat, i < 4 → j < 4 → i ≠ j → lab base at' z i ≠ lab base at' z j := fun i j hi hj hne e => hne (lab_inj hi hj e)
  show [lab base at' z 0, lab base at' z 1, lab base at' z 2, lab base at' z 3].Nodup
  have := h 0 1 (by decide) (by decide) (by decide)
  have := h 0 2 (by decide) (by decide) (by decide)
  have := h 0 3 (by decide) (by decide) (by decide)
  have := h 1 2 (by decide) (by decide) (by decide)
  have := h 1 3 (by decide) (by decide) (by decide)
  have := h 2 3 (by decide) (by decide) (by decide)
  simp only [List.nodup_cons, List.mem_cons, List.not_mem_nil, not_or, or_false]
  simp_all
theorem labels_ok {d : Nat} {σ : Store} {c : Int} : Wp (cl02 (d + 1) "_law_labels" [.int c, .int 4]) σ (fun r σ' => Le σ σ' ∧ ∃ (n : Nat) (ls : List Str), r = .ref n ∧ σ.length ≤ n ∧ σ'[n]? = some (.list (ls.map V.str)) ∧ ls.length = 4 ∧ ls.Nodup ∧ ∀ s ∈ ls, s.length ≤ 1000) := by
  rw [L_labels_sh]
  have hsz : 0 ≤ c % 7 ∧ c % 7 < 7 := by (first | lia | omega)
  generalize hsize : c % 7 = size at hsz
  simp only [Wp_bind, Wp_mod (b := 7) (by decide) (by decide), hsize, Wp_div (b := 7) (by decide) (by decide), Wp_add, Wp_mod (b := size + 1) (by (first | lia | omega)) (by (first | lia | omega)), Wp_div (b := 49) (by decide) (by decide), Wp_mod (b := 26) (by decide) (by decide), Wp_mtagJoin, Wp_range (n := size) (by (first | lia | omega)) (by (first | lia | omega))]
  generalize c / 7 % (size + 1) = at'
  generalize hst : c / 49 % 26 = stp
  refine Wp_compAll (J := fun τ => True) walks_vals tgtOk_vals L_labels_c1_ok (L_labels_c1_in ..) (fun i acc loc τ => τ = σ ∧ (∃ o, loc = [none, o, some (.int c), some (.str (Str.ofString "abcdefghijklmnopqrstuvwxyz")), some (.int stp)]) ∧ acc.length = i ∧ ∀ x ∈ acc, ∃ c, x = .str (chr1 c)) (fun _ _ _ _ _ => trivial) ⟨rfl, ⟨_, rfl⟩, rfl, by simp⟩ (fun i v acc loc τ hv hp => ?_) fun out loc τ hp => ?_
  · obtain ⟨rfl, ⟨o, rfl⟩, hlen, hall⟩ := hp
    obtain ⟨rfl, hi⟩ := range_val hv
    rw [L_labels_c1_bind, Wp_pure, L_labels_c1_tst, Wp_pure, if_pos rfl, L_labels_c1_elt]
    simp only [Wp_bind, Wp_div (b := 1274) (by decide) (by decide), Wp_mul (b := (i : Int)) (.inr (by unfold Small; (first | lia | omega))), Wp_add, Wp_mod (b := 26) (by decide) (by decide)]
    have hm : 0 ≤ (stp + c / 1274 * (i : Int)) % 26 ∧ (stp + c / 1274 * (i : Int)) % 26 < 26 := by (first | lia | omega)
    generalize (stp + c / 1274 * (i : Int)) % 26 = m at hm
    obtain ⟨ch, hch⟩ := signs_at hm.1 hm.2
    rw [Wp_itemStr hm.1 (by rw [signs_len]; exact hm.2) hch, Wp_pure]
    refine ⟨rfl, ⟨_, rfl⟩, by simp [hlen], fun x hx => ?_⟩
    rcases List.mem_append.mp hx with hx | hx
    · exact hall x hx
    · rw [List.mem_singleton.mp hx]; exact ⟨ch, rfl⟩
  · obtain ⟨rfl, _, hlen, hall⟩ := hp
    rw [range_len] at hlen
    refine ⟨by rw [hlen]; have : (16777216 : Nat) = sizeLine := rfl; (first | lia | omega), ?_⟩
    refine Wp_joinChars get_new hall (by (first | lia | omega)) fun base hbase => ?_
    simp only [Wp_newO, Wp_range (n := 4) (by decide) (by decide)]
    have hk1 : (τ ++ [O.list out] ++ [O.list []])[(τ ++ [O.list out]).length]? = some (.list []) := get_new
    generalize hf : (τ ++ [O.list out]).length = f at hk1 ⊢
    have hfl : τ.length < f := by rw [← hf]; simp
    have hLe : Le τ (τ ++ [O.list out] ++ [O.list []]) := Le.append.trans Le.append
    generalize τ ++ [O.list out] ++ [O.list []] = τ' at hk1 hLe ⊢
    refine Wp_forAll (J := fun τ => True) walks_vals tgtOk_vals (fun i loc τ₁ => Le τ τ₁ ∧ (∃ o1 o2, loc = [some (.int c), some (.int 4), some (.str (Str.ofString "abcdefghijklmnopqrstuvwxyz")), some (.int size), some (.int at'), some (.int stp), o1, some (.str base), some (.ref f), o2, none]) ∧
      τ₁[f]? = some (.list (((List.range i).map (lab base at' (c / 49))).map V.str))) (fun _ _ _ _ => trivial) ⟨hLe, ⟨_, _, rfl⟩, hk1⟩ (fun i v loc τ₁ hv hp => ?_) fun loc τ₁ hp => ?_
    · obtain ⟨hle, ⟨o1, o2, rfl⟩, hl⟩ := hp
      obtain ⟨rfl, hi⟩ := range_val hv
      rw [L_labels_l1_step]
      have hm : 0 ≤ (c / 49 + 3 * (i : Int)) % 26 ∧ (c / 49 + 3 * (i : Int)) % 26 < 26 := by (first | lia | omega)
      simp only [Wp_bind, Wp_div (b := 49) (by decide) (by decide), Wp_mul (a := 3) (.inl (by decide)), Wp_add, Wp_mod (b := 26) (by decide) (by decide)]
      have hlab : lab base at' (c / 49) i = cutStr base none (some at') ++ chr1 (97 + ((c / 49 + 3 * (i : Int)) % 26).toNat) ++ cutStr base (some at') none := rfl
      generalize (c / 49 + 3 * (i : Int)) % 26 = m at hm hlab
      have hch := sign_is hm.1 hm.2
      generalize 97 + m.toNat = ch at hch hlab
      have hs1 : (cutStr base none (some at')).length ≤ base.length := cutStr_le _ _ _
      have hs2 : (cutStr base (some at') none).length ≤ base.length := cutStr_le _ _ _
      have hsl : (16777216 : Nat) = sizeLine := rfl
      have hc1 : (chr1 ch).length = 1 := rfl
      simp only [Wp_itemStr hm.1 (by rw [signs_len]; exact hm.2) hch, Wp_mtag hl]
      refine (Wp_ok (a := none) (σ' := τ₁) rfl).mpr ((Wp_ok (a := some at') (σ' := τ₁) rfl).mpr ((Wp_ok (a := V.str (cutStr base none (some at'))) (σ' := τ₁) rfl).mpr ?_))
      rw [Wp_addStr (by (first | lia | omega))]
      refine (Wp_ok (a := some at') (σ' := τ₁) rfl).mpr ((Wp_ok (a := none) (σ' := τ₁) rfl).mpr ((Wp_ok (a := V.str (cutStr base (some at') none)) (σ' := τ₁) rfl).mpr ?_))
      rw [Wp_addStr (by rw [length_append]; (first | lia | omega)), Wp_append hl (by (first | lia | omega)) (by simp; (first | lia | omega)), Wp_pure]
      refine .inl ⟨rfl, hle.setNew (Nat.le_of_lt hfl), ⟨_, _, rfl⟩, ?_⟩
      rw [List.range_succ, List.map_append, List.map_append, List.map_singleton, List.map_singleton, hlab]
      exact set_get hl
    · obtain ⟨hle, ⟨o1, o2, rfl⟩, hl⟩ := hp
      show Wp (L_labels_a1 d _) _ _
      rw [L_labels_a1_eq, Wp_pure]
      rw [range_len] at hl
      exact ⟨hle, f, _, rfl, Nat.le_of_lt hfl, hl, rfl, lab_nodup _ _ _, fun s hs => by
        obtain ⟨k, _, rfl⟩ := List.mem_map.mp hs
        have hs1 : (cutStr base none (some at')).length ≤ base.length := cutStr_le _ _ _
        have hs2 : (cutStr base (some at') none).length ≤ base.length := cutStr_le _ _ _
        unfold lab
        rw [length_append, length_append]
        show _ + 1 + _ ≤ 1000
        (first | lia | omega)⟩
end Mine

namespace Mine
open PySem PyProof.Rows

/-! ## things -/
inductive Dat (σ : Store) : V → Prop
  | none : Dat σ .none
  | bool (b : Bool) : Dat σ (.bool b)
  | int (i : Int) : Dat σ (.int i)
  | str (s : Str) : Dat σ (.str s)
  | lst {r : Nat} {l : List V} : σ[r]? = some (.list l) → Dat σ (.ref r)
  | tup {l : List V} : (∀ x ∈ l, Dat σ x) → Dat σ (.tup l)
/-- lists stay lists -/
noncomputable def Kp (σ σ' : Store) : Prop := ∀ (r : Nat) (l : List V), σ[r]? = some (.list l) → ∃ l', σ'[r]? = some (.list l')
theorem Le.kp {σ σ' : Store} (h : Le σ σ') : Kp σ σ' := fun r l e => ⟨l, h _ _ e⟩
theorem Kp.trans {σ σ' σ'' : Store} (h : Kp σ σ') (h' : Kp σ' σ'') : Kp σ σ'' := fun r l e => let ⟨l', e'⟩ := h r l e; h' r l' e'
theorem Dat.kp {σ σ' : Store} (h : Kp σ σ') {v : V} (d : Dat σ v) : Dat σ' v := by
  induction d with
  | none => exact .none
  | bool b => exact .bool b
  | int i => exact .int i
  | str s => exact .str s
  | lst e => obtain ⟨l', e'⟩ := h _ _ e; exact .lst e'
  | tup _ ih => exact .tup ih

noncomputable def isTupV : V → Bool
  | .tup _ => true
  | _ => false
noncomputable def isStrV : V → Bool
  | .str _ => true
  | _ => false
noncomputable def isNoneV : V → Bool
  | .none => true
  | _ => false
theorem Wp_kdTup {σ : Store} {Q : V → Store → Prop} {v : V} (h : Dat σ v) : Wp (isKd .tuple v) σ Q ↔ Q (.bool (isTupV v)) σ := by
  cases h with
  | lst e => exact Wp_kdRef e
  | _ => exact Wp_ok rfl
theorem Wp_kdStrV {σ : Store} {Q : V → Store → Prop} {v : V} (h : Dat σ v) : Wp (isKd .str v) σ Q ↔ Q (.bool (isStrV v)) σ := by
  cases h with
  | lst e => exact Wp_kdRef e
  | _ => exact Wp_ok rfl

/-! ## words and counts -/
noncomputable def letters : Str := Str.ofString "abcdefghijklmnopqrstuvwxyz"
noncomputable def wordB : V → Bool
  | .str s => decide ((1 : Int) ≤ s.length) && decide ((s.length : Int) ≤ 8) && s.cps.toList.all fun c => Txt.contains letters (chr1 c)
  | _ => false
noncomputable def countB : V → Bool
  | .int i => decide (0 ≤ i)
  | _ => false
theorem Wp_lenStr {σ : Store} {Q : V → Store → Prop} {s : Str} : Wp (bLen (.str s)) σ Q ↔ Q (.int s.length) σ := Wp_ok rfl
theorem Wp_inStr {σ : Store} {Q : V → Store → Prop} {a b : Str} : Wp (cmp .In (.str a) (.str b)) σ Q ↔ Q (.bool (Txt.contains b a)) σ := Wp_ok rfl
theorem bools_all : ∀ bs : List Bool, allBools (bs.map V.bool) = some bs
  | [] => rfl
  | b :: r => by
    show (allBools (r.map V.bool)).map (b :: ·) = _
    rw [bools_all r]; rfl
theorem Wp_all {σ : Store} {Q : V → Store → Prop} {n : Nat} {bs : List Bool} (h : σ[n]? = some (.list (bs.map V.bool))) : Wp (bAll (.ref n)) σ Q ↔ Q (.bool (bs.all id)) σ := Wp_ok (by
  show (getList n >>= fun l => ofOpt (allBools l) >>= fun bs => pure (V.bool (bs.all id))) σ = _
  rw [bind_ok (getList_at h), bools_all]; rfl)
theorem Wp_boolK {σ : Store} {Q : V → Store → Prop} {b : Bool} {m n : M V} : Wp (boolK (.bool b) m n) σ Q ↔ Wp (cond b m n) σ Q := Iff.rfl
theorem isWord_ok {d : Nat} {σ : Store} {v : V} (h : Dat σ v) : Wp (cl02 (d + 1) "is_word" [v]) σ (fun r σ' => Le σ σ' ∧ r = .bool (wordB v)) := by
  rw [P_is_word_sh, Wp_bind, Wp_kdStrV h, Wp_bind, Wp_truthB]
  cases h with
  | str s =>
    have hsl : (16777216 : Nat) = sizeLine := rfl
    show Wp (bLen (.str s) >>= _) σ _
    rw [Wp_bind, Wp_lenStr, Wp_bind, Wp_le, Wp_boolK]
    have hw : wordB (.str s) = (decide ((1 : Int) ≤ s.length) && decide ((s.length : Int) ≤ 8) && s.cps.toList.all fun c => Txt.contains letters (chr1 c)) := rfl
    rw [hw]
    by_cases h1 : (1 : Int) ≤ s.length
    · rw [decide_eq_true h1, cond_true, Wp_bind, Wp_le, Wp_bind, Wp_truthB]
      by_cases h2 : (s.length : Int) ≤ 8
      · rw [decide_eq_true h2]
        show Wp (P_is_word_t1 d (.str s)) σ _
        unfold P_is_word_t1
        rw [Wp_bind]
        refine (Wp_ok (a := Src.vals (chars s)) (σ' := σ) rfl).mpr ?_
        rw [Wp_bind]
        have hfm : (chars s).filterMap (fun v => match v with | .str c => some (V.bool (Txt.contains letters c)) | _ => none) = (s.cps.toList.map fun c => Txt.contains letters (chr1 c)).map V.bool := by
          unfold chars
          rw [List.filterMap_map, List.map_map, ← List.filterMap_eq_map]; rfl
        refine Wp_compPure walks_vals tgtOk_vals P_is_word_c1_ok (P_is_word_c1_in ..) (fun loc => ∃ o, loc = [none, o, none]) ⟨_, rfl⟩ (fun v => match v with | .str c => some (V.bool (Txt.contains letters c)) | _ => none) (fun v loc hv hS => ?_) ?_ ?_
        · obtain ⟨o, rfl⟩ := hS
          obtain ⟨c, _, rfl⟩ := List.mem_map.mp hv
          rw [P_is_word_c1_bind, Wp_pure]
          refine ⟨rfl, ⟨_, rfl⟩, ?_⟩
          rw [P_is_word_c1_tst, Wp_pure]
          refine ⟨rfl, ?_⟩
          rw [if_pos rfl, P_is_word_c1_elt, Wp_bind, Wp_inStr, Wp_pure]
          exact ⟨rfl, rfl⟩
        · rw [hfm, List.length_map, List.length_map]
          show s.cps.toList.length ≤ _
          have : s.cps.toList.length = s.length := Array.length_toList
          omega
        · rw [hfm, Wp_bind, Wp_all (get_new (σ := σ)), Wp_pure]
          refine ⟨Le.append, ?_⟩
          rw [List.all_map]; rfl
      · rw [decide_eq_false h2]
        show Wp (pure (V.bool false)) σ _
        rw [Wp_pure]
        exact ⟨Le.refl, rfl⟩
    · rw [decide_eq_false h1]
      show Wp (truth (.bool false) >>= _) σ _
      rw [Wp_bind, Wp_truthB]
      show Wp (pure (V.bool false)) σ _
      rw [Wp_pure]
      exact ⟨Le.refl, rfl⟩
  | _ =>
    show Wp (pure (V.bool false)) σ _
    rw [Wp_pure]
    exact ⟨Le.refl, rfl⟩
theorem isCount_ok {d : Nat} {σ : Store} {v : V} (h : Dat σ v) : Wp (cl02 (d + 1) "is_count" [v]) σ (fun r σ' => Le σ σ' ∧ r = .bool (countB v)) := by
  rw [P_is_count_sh, Wp_bind]
  cases h with
  | int i =>
    refine (Wp_ok (a := V.bool true) (σ' := σ) rfl).mpr ?_
    rw [Wp_bind, Wp_truthB]
    show Wp (isKd .bool (.int i) >>= _) σ _
    rw [Wp_bind]
    refine (Wp_ok (a := V.bool false) (σ' := σ) rfl).mpr ?_
    rw [Wp_bind, Wp_truthB, Wp_bind, Wp_truthB]
    show Wp (cmp .GtE (.int i) (.int 0) >>= _) σ _
    rw [Wp_bind, Wp_ge, Wp_pure]
    exact ⟨Le.refl, rfl⟩
  | bool b =>
    refine (Wp_ok (a := V.bool true) (σ' := σ) rfl).mpr ?_
    rw [Wp_bind, Wp_truthB]
    show Wp (isKd .bool (.bool b) >>= _) σ _
    rw [Wp_bind]
    refine (Wp_ok (a := V.bool true) (σ' := σ) rfl).mpr ?_
    rw [Wp_bind, Wp_truthB, Wp_bind, Wp_truthB]
    show Wp (pure (V.bool false)) σ _
    rw [Wp_pure]
    exact ⟨Le.refl, rfl⟩
  | lst e =>
    rw [Wp_kdRef e, Wp_bind, Wp_truthB]
    show Wp (pure (V.bool false)) σ _
    rw [Wp_pure]
    exact ⟨Le.refl, rfl⟩
  | _ =>
    refine (Wp_ok (a := V.bool false) (σ' := σ) rfl).mpr ?_
    rw [Wp_bind, Wp_truthB]
    show Wp (pure (V.bool false)) σ _
    rw [Wp_pure]
    exact ⟨Le.refl, rfl⟩
theorem lword_ok {d : Nat} {σ : Store} {v : V} (h : Dat σ v) : Wp (cl02 (d + 1) "_law_word" [v]) σ (fun r σ' => Le σ σ' ∧ r = .bool (wordB v)) := by
  rw [L_word_sh, Wp_bind, Wp_kdStrV h, Wp_bind, Wp_truthB]
  cases h with
  | str s =>
    have hsl : (16777216 : Nat) = sizeLine := rfl
    show Wp (bLen (.str s) >>= _) σ _
    rw [Wp_bind, Wp_lenStr, Wp_bind, Wp_le, Wp_boolK]
    have hw : wordB (.str s) = (decide ((1 : Int) ≤ s.length) && decide ((s.length : Int) ≤ 8) && s.cps.toList.all fun c => Txt.contains letters (chr1 c)) := rfl
    rw [hw]
    by_cases h1 : (1 : Int) ≤ s.length
    · rw [decide_eq_true h1, cond_true, Wp_bind, Wp_le, Wp_bind, Wp_truthB]
      by_cases h2 : (s.length : Int) ≤ 8
      · rw [decide_eq_true h2]
        show Wp (L_word_t1 d (.str s)) σ _
        unfold L_word_t1
        rw [Wp_bind]
        refine (Wp_ok (a := Src.vals (chars s)) (σ' := σ) rfl).mpr ?_
        rw [Wp_bind]
        have hfm : (chars s).filterMap (fun v => match v with | .str c => some (V.bool (Txt.contains letters c)) | _ => none) = (s.cps.toList.map fun c => Txt.contains letters (chr1 c)).map V.bool := by
          unfold chars
          rw [List.filterMap_map, List.map_map, ← List.filterMap_eq_map]; rfl
        refine Wp_compPure walks_vals tgtOk_vals L_word_c1_ok (L_word_c1_in ..) (fun loc => ∃ o, loc = [none, o]) ⟨_, rfl⟩ (fun v => match v with | .str c => some (V.bool (Txt.contains letters c)) | _ => none) (fun v loc hv hS => ?_) ?_ ?_
        · obtain ⟨o, rfl⟩ := hS
          obtain ⟨c, _, rfl⟩ := List.mem_map.mp hv
          rw [L_word_c1_bind, Wp_pure]
          refine ⟨rfl, ⟨_, rfl⟩, ?_⟩
          rw [L_word_c1_tst, Wp_pure]
          refine ⟨rfl, ?_⟩
          rw [if_pos rfl, L_word_c1_elt, Wp_bind, Wp_inStr, Wp_pure]
          exact ⟨rfl, rfl⟩
        · rw [hfm, List.length_map, List.length_map]
          show s.cps.toList.length ≤ _
          have : s.cps.toList.length = s.length := Array.length_toList
          omega
        · rw [hfm, Wp_bind, Wp_all (get_new (σ := σ)), Wp_pure]
          refine ⟨Le.append, ?_⟩
          rw [List.all_map]; rfl
      · rw [decide_eq_false h2]
        show Wp (pure (V.bool false)) σ _
        rw [Wp_pure]
        exact ⟨Le.refl, rfl⟩
    · rw [decide_eq_false h1]
      show Wp (truth (.bool false) >>= _) σ _
      rw [Wp_bind, Wp_truthB]
      show Wp (pure (V.bool false)) σ _
      rw [Wp_pure]
      exact ⟨Le.refl, rfl⟩
  | _ =>
    show Wp (pure (V.bool false)) σ _
    rw [Wp_pure]
    exact ⟨Le.refl, rfl⟩
theorem lnumber_ok {d : Nat} {σ : Store} {v : V} (h : Dat σ v) : Wp (cl02 (d + 1) "_law_number" [v]) σ (fun r σ' => Le σ σ' ∧ r = .bool (countB v)) := by
  rw [L_number_sh, Wp_bind]
  cases h with
  | int i =>
    refine (Wp_ok (a := V.bool true) (σ' := σ) rfl).mpr ?_
    rw [Wp_bind, Wp_truthB]
    show Wp (isKd .bool (.int i) >>= _) σ _
    rw [Wp_bind]
    refine (Wp_ok (a := V.bool false) (σ' := σ) rfl).mpr ?_
    rw [Wp_bind, Wp_truthB, Wp_bind, Wp_truthB]
    show Wp (cmp .GtE (.int i) (.int 0) >>= _) σ _
    rw [Wp_bind, Wp_ge, Wp_pure]
    exact ⟨Le.refl, rfl⟩
  | bool b =>
    refine (Wp_ok (a := V.bool true) (σ' := σ) rfl).mpr ?_
    rw [Wp_bind, Wp_truthB]
    show Wp (isKd .bool (.bool b) >>= _) σ _
    rw [Wp_bind]
    refine (Wp_ok (a := V.bool true) (σ' := σ) rfl).mpr ?_
    rw [Wp_bind, Wp_truthB, Wp_bind, Wp_truthB]
    show Wp (pure (V.bool false)) σ _
    rw [Wp_pure]
    exact ⟨Le.refl, rfl⟩
  | lst e =>
    rw [Wp_kdRef e, Wp_bind, Wp_truthB]
    show Wp (pure (V.bool false)) σ _
    rw [Wp_pure]
    exact ⟨Le.refl, rfl⟩
  | _ =>
    refine (Wp_ok (a := V.bool false) (σ' := σ) rfl).mpr ?_
    rw [Wp_bind, Wp_truthB]
    show Wp (pure (V.bool false)) σ _
    rw [Wp_pure]
    exact ⟨Le.refl, rfl⟩
end Mine

namespace Mine
open PySem PyProof.Rows

/-! ## forms -/
noncomputable def rowsB (F : V → Bool) : Str → List V → Bool
  | _, [] => true
  | a, x :: r => match x with
    | .tup [.str s, k] => wordB (.str s) && strLt a s && F k && rowsB F s r
    | _ => false
noncomputable def formB : Nat → V → Bool
  | 0, _ => false
  | n + 1, v => match v with
    | .tup [.str w] => w == Str.ofString "number"
    | .tup [.str w, x] => w == Str.ofString "blank" && countB x
    | .tup [.str w, .tup fs, t] => w == Str.ofString "record" && (isNoneV t || countB t) && rowsB (formB n) (Str.ofString "") fs
    | _ => false
theorem eq_ints {σ : Store} {Q : V → Store → Prop} {a b : Int} : Wp (cmp .Eq (.int a) (.int b)) σ Q ↔ Q (.bool (a == b)) σ := Wp_ok rfl
theorem ne_ints {σ : Store} {Q : V → Store → Prop} {a b : Int} : Wp (cmp .NotEq (.int a) (.int b)) σ Q ↔ Q (.bool (!(a == b))) σ := Wp_ok rfl
theorem ne_str {σ : Store} {Q : V → Store → Prop} {a b : Str} : Wp (cmp .NotEq (.str a) (.str b)) σ Q ↔ Q (.bool (!(a == b))) σ := Wp_ok rfl
theorem le_strs {σ : Store} {Q : V → Store → Prop} {a b : Str} : Wp (cmp .LtE (.str a) (.str b)) σ Q ↔ Q (.bool (!strLt b a)) σ := Wp_ok rfl
theorem ge_strs {σ : Store} {Q : V → Store → Prop} {a b : Str} : Wp (cmp .GtE (.str a) (.str b)) σ Q ↔ Q (.bool (!strLt a b)) σ := Wp_ok rfl
theorem Wp_lenTup {σ : Store} {Q : V → Store → Prop} {l : List V} : Wp (bLen (.tup l)) σ Q ↔ Q (.int l.length) σ := Wp_ok rfl
theorem Wp_notNone {σ : Store} {Q : V → Store → Prop} {r : V} : Wp (cmp .IsNot r .none) σ Q ↔ Q (.bool (!isNoneV r)) σ := Wp_ok (by cases r <;> rfl)
theorem Wp_isNone {σ : Store} {Q : V → Store → Prop} {r : V} : Wp (cmp .Is r .none) σ Q ↔ Q (.bool (isNoneV r)) σ := Wp_ok (by cases r <;> rfl)
theorem ne_bn : (Str.ofString "number" == Str.ofString "blank") = false := by decide +kernel
theorem ne_rb : (Str.ofString "record" == Str.ofString "blank") = false := by decide +kernel
theorem ne_rn : (Str.ofString "record" == Str.ofString "number") = false := by decide +kernel
theorem ne_br : (Str.ofString "blank" == Str.ofString "record") = false := by decide +kernel
theorem ne_bln : (Str.ofString "blank" == Str.ofString "number") = false := by decide +kernel
theorem word_str {v : V} (h : wordB v = true) : ∃ s, v = .str s := by
  cases v with
  | str s => exact ⟨s, rfl⟩
  | _ => cases h
/-- a pair, or none -/
theorem two_cases (v : V) : (∃ a b, v = .tup [a, b]) ∨ (isTupV v = false) ∨ (∃ l, v = .tup l ∧ l.length ≠ 2) := by
  cases v with
  | tup l =>
    by_cases h : l.length = 2
    · match l, h with
      | [a, b], _ => exact .inl ⟨a, b, rfl⟩
    · exact .inr (.inr ⟨l, rfl, h⟩)
  | _ => exact .inr (.inl rfl)
theorem rowsB_no {F : V → Bool} {a : Str} {x : V} {r : List V} (h : ∀ s k, x = .tup [.str s, k] → (wordB (.str s) && strLt a s && F k) = false) : rowsB F a (x :: r) = false := by
  cases x with
  | tup l =>
    rcases l with _ | ⟨y, _ | ⟨k, _ | ⟨_, _⟩⟩⟩
    · rfl
    · cases y <;> rfl
    · cases y with
      | str s =>
        show (wordB (.str s) && strLt a s && F k && rowsB F s r) = _
        rw [h s k rfl]; rfl
      | _ => rfl
    · cases y <;> rfl
  | _ => rfl
theorem rowsB_yes {F : V → Bool} {a s : Str} {k : V} {r : List V} (h : (wordB (.str s) && strLt a s && F k) = true) : rowsB F a (.tup [.str s, k] :: r) = rowsB F s r := by
  show (wordB (.str s) && strLt a s && F k && rowsB F s r) = _
  rw [h]; rfl

noncomputable def rowB (n : Nat) (f t : V) : Bool := match f with
  | .tup fs => (isNoneV t || countB t) && rowsB (formB n) (Str.ofString "") fs
  | _ => false
theorem isRow_ok {n d : Nat} (ih : ∀ (v : V) (σ : Store), Dat σ v → Wp (cl02 d "is_form" [v, .int n]) σ (fun r σ' => Le σ σ' ∧ r = .bool (formB n v))) (hd : 1 ≤ d) {f t : V} {σ : Store} (hf : Dat σ f) (ht : Dat σ t) :
    Wp (cl02 (d + 1) "is_row" [f, t, .int n]) σ (fun r σ' => Le σ σ' ∧ r = .bool (rowB n f t)) := by
  rw [P_is_row_sh, Wp_bind, Wp_kdTup hf, Wp_bind, Wp_truthB]
  cases hf with
  | tup hall =>
    rename_i fs
    have rows : ∀ σ₁, Le σ σ₁ → (isNoneV t || countB t) = true → Wp (P_is_row_t1 d (.tup fs) t (.int n)) σ₁ (fun r σ' => Le σ σ' ∧ r = .bool ((isNoneV t || countB t) && rowsB (formB n) (Str.ofString "") fs)) := by
      intro σ₁ hle hc
      rw [hc, Bool.true_and]
      unfold P_is_row_t1
      rw [Wp_bind, Wp_srcTup, Wp_bind]
      refine Wp_forAll (J := fun τ => True) walks_vals tgtOk_vals (fun i loc τ => Le σ τ ∧ ∃ a o, loc = [some (.tup fs), some t, some (.int n), some (.str a), o, none, none, none, none, none, none] ∧ rowsB (formB n) (Str.ofString "") fs = rowsB (formB n) a (fs.drop i)) (fun _ _ _ _ => trivial) ⟨hle, _, _, rfl, rfl⟩ (fun i x loc τ hx hp => ?_) fun loc τ hp => ?_
      · obtain ⟨hlt, a, o, rfl, hrow⟩ := hp
        have hdrop : fs.drop i = x :: fs.drop (i + 1) := by
          have hl := lt_of_get hx
          rw [List.drop_eq_getElem_cons hl]
          rw [List.getElem?_eq_getElem hl] at hx
          rw [Option.some.inj hx]
        rw [hdrop] at hrow
        have hxd : Dat τ x := (hall x (List.mem_of_getElem? hx)).kp hlt.kp
        -- what ends the walk
        have stop : ∀ (τ' : Store) (loc' : Loc), Le σ τ' → rowsB (formB n) a (x :: fs.drop (i + 1)) = false → ((Fl.ret (V.bool false), loc').1 = .next ∧ (Le σ τ' ∧ ∃ a o, (Fl.ret (V.bool false), loc').2 = [some (.tup fs), some t, some (.int n), some (.str a), o, none, none, none, none, none, none] ∧ rowsB (formB n) (Str.ofString "") fs = rowsB (formB n) a (fs.drop (i + 1)))) ∨ (∃ u, (Fl.ret (V.bool false), loc').1 = .ret u ∧ Wp (flK retK (P_is_row_a1 d) (Fl.ret (V.bool false), loc')) τ' (fun r σ' => Le σ σ' ∧ r = .bool (rowsB (formB n) (Str.ofString "") fs))) := by
          intro τ' loc' hl' hfalse
          refine .inr ⟨_, rfl, ?_⟩
          show Wp (Pure.pure (V.bool false)) τ' _
          rw [Wp_pure, hrow, hfalse]
          exact ⟨hl', rfl⟩
        rw [P_is_row_l1_step, Wp_bind, Wp_kdTup hxd, Wp_bind, Wp_truthB]
        rcases two_cases x with ⟨l, k, rfl⟩ | hno | ⟨q, rfl, hq⟩
        · show Wp (bLen (.tup [l, k]) >>= _) τ _
          rw [Wp_bind, Wp_lenTup, Wp_bind, ne_ints, Wp_bind, Wp_truthB]
          show Wp (item (.tup [l, k]) (.int 0) >>= _) τ _
          rw [Wp_bind, Wp_item0]
          obtain ⟨d, rfl⟩ : ∃ e, d = e + 1 := ⟨d - 1, by (first | lia | omega)⟩
          have hl : Dat τ l := by cases hxd with | tup h => exact h l (List.mem_cons_self ..)
          have hk : Dat τ k := by cases hxd with | tup h => exact h k (List.mem_cons_of_mem _ (List.mem_singleton.mpr rfl))
          refine Wp_bind.mpr ((isWord_ok hl).mono fun r τ₁ h => ?_)
          obtain ⟨hle1, rfl⟩ := h
          rw [Wp_bind, Wp_truthB]
          cases hw : wordB l with
          | false =>
            show Wp (pure _) τ₁ _
            rw [Wp_pure]
            exact stop τ₁ _ (hlt.trans hle1) (rowsB_no fun s k' e => by cases e; rw [hw]; rfl)
          | true =>
            obtain ⟨s, rfl⟩ := word_str hw
            show Wp (item (.tup [.str s, k]) (.int 0) >>= _) τ₁ _
            rw [Wp_bind, Wp_item0, Wp_bind, le_strs, Wp_bind, Wp_truthB]
            cases hs : strLt a s with
            | false =>
              show Wp (pure _) τ₁ _
              rw [Wp_pure]
              exact stop τ₁ _ (hlt.trans hle1) (rowsB_no fun s k' e => by cases e; rw [hw, hs]; rfl)
            | true =>
              show Wp (P_is_row_t2 (d + 1) (.tup fs) t (.int n) (.str a) (.tup [.str s, k])) τ₁ _
              unfold P_is_row_t2
              rw [Wp_bind, Wp_item0, Wp_bind, Wp_item1]
              refine Wp_bind.mpr ((ih k τ₁ (hk.kp hle1.kp)).mono fun r τ₂ h => ?_)
              obtain ⟨hle2, rfl⟩ := h
              rw [Wp_bind, Wp_truthB]
              cases hF : formB n k with
              | false =>
                rw [if_pos (by decide), Wp_pure]
                exact stop τ₂ _ ((hlt.trans hle1).trans hle2) (rowsB_no fun s k' e => by cases e; rw [hw, hs, hF]; rfl)
              | true =>
                rw [if_neg (by decide), Wp_pure]
                exact .inl ⟨rfl, (hlt.trans hle1).trans hle2, s, _, rfl, by rw [hrow, rowsB_yes (by rw [hw, hs, hF]; rfl)]⟩
        · rw [hno]
          show Wp (pure _) τ _
          rw [Wp_pure]
          exact stop τ _ hlt (rowsB_no fun s k e => by subst e; cases hno)
        · show Wp (bLen (.tup q) >>= _) τ _
          rw [Wp_bind, Wp_lenTup, Wp_bind, ne_ints, Wp_bind, Wp_truthB]
          have : ((q.length : Int) == 2) = false := beq_false_of_ne (by (first | lia | omega))
          rw [this]
          show Wp (pure _) τ _
          rw [Wp_pure]
          exact stop τ _ hlt (rowsB_no fun s k e => by cases e; exact absurd rfl hq)
      · obtain ⟨hlt, a, o, rfl, hrow⟩ := hp
        show Wp (P_is_row_a1 d _) _ _
        rw [P_is_row_a1_eq, Wp_pure, hrow, List.drop_length]
        exact ⟨hlt, rfl⟩
    show Wp (cmp .IsNot t .none >>= _) σ _
    rw [show rowB n (.tup fs) t = ((isNoneV t || countB t) && rowsB (formB n) (Str.ofString "") fs) from rfl]
    rw [Wp_bind, Wp_notNone, Wp_bind, Wp_truthB]
    cases hn : isNoneV t with
    | true => 
      have := rows σ Le.refl (by rw [hn]; rfl)
      rw [hn] at this; exact this
    | false =>
      obtain ⟨d, rfl⟩ : ∃ e, d = e + 1 := ⟨d - 1, by (first | lia | omega)⟩
      show Wp (cl02 (d + 1) "is_count" [t] >>= _) σ _
      refine Wp_bind.mpr ((isCount_ok ht).mono fun r σ₁ h => ?_)
      obtain ⟨hle, rfl⟩ := h
      rw [Wp_bind, Wp_truthB]
      cases hc : countB t with
      | true =>
        have := rows σ₁ hle (by rw [hc, Bool.or_true])
        rw [hn, hc] at this; exact this
      | false =>
        show Wp (pure (V.bool false)) σ₁ _
        rw [Wp_pure]
        exact ⟨hle, rfl⟩
  | _ =>
    show Wp (pure (V.bool false)) σ _
    rw [Wp_pure]
    exact ⟨Le.refl, rfl⟩
end Mine

namespace Mine
open PySem PyProof.Rows

theorem ne_len {a b : Nat} (h : a ≠ b) : ((a : Int) == (b : Int)) = false := beq_false_of_ne (by (first | lia | omega))
theorem form_num {n : Nat} {r : List V} : formB (n + 1) (.tup (.str (Str.ofString "number") :: r)) = (((r.length + 1 : Nat) : Int) == 1) := by
  match r with
  | [] => show (Str.ofString "number" == Str.ofString "number") = _; rw [beq_self_eq_true]; rfl
  | [x] => show (Str.ofString "number" == Str.ofString "blank" && countB x) = _; rw [ne_bn]; rfl
  | [.tup fs, t] => show (Str.ofString "number" == Str.ofString "record" && (isNoneV t || countB t) && rowsB (formB n) (Str.ofString "") fs) = _; rw [show (Str.ofString "number" == Str.ofString "record") = false from by decide +kernel]; rfl
  | [.none, _] | [.bool _, _] | [.int _, _] | [.str _, _] | [.ref _, _] => rfl
  | x :: y :: z :: r =>
    have : (((x :: y :: z :: r).length + 1 : Nat) : Int) ≠ 1 := by simp only [List.length_cons]; (first | lia | omega)
    rw [beq_false_of_ne this]
    cases x <;> rfl
theorem form_blank {n : Nat} {r : List V} : formB (n + 1) (.tup (.str (Str.ofString "blank") :: r)) = (match r with | [x] => countB x | _ => false) := by
  match r with
  | [] => show (Str.ofString "blank" == Str.ofString "number") = _; rw [ne_bln]
  | [x] => show (Str.ofString "blank" == Str.ofString "blank" && countB x) = _; rw [beq_self_eq_true]; rfl
  | [.tup fs, t] => show (Str.ofString "blank" == Str.ofString "record" && (isNoneV t || countB t) && rowsB (formB n) (Str.ofString "") fs) = _; rw [ne_br]; rfl
  | [.none, _] | [.bool _, _] | [.int _, _] | [.str _, _] | [.ref _, _] => rfl
  | x :: y :: z :: r => cases x <;> rfl
theorem form_rec {n : Nat} {r : List V} : formB (n + 1) (.tup (.str (Str.ofString "record") :: r)) = (match r with | [f, t] => rowB n f t | _ => false) := by
  match r with
  | [] => show (Str.ofString "record" == Str.ofString "number") = _; rw [ne_rn]
  | [x] => show (Str.ofString "record" == Str.ofString "blank" && countB x) = _; rw [ne_rb]; rfl
  | [.tup fs, t] => show (Str.ofString "record" == Str.ofString "record" && (isNoneV t || countB t) && rowsB (formB n) (Str.ofString "") fs) = _; rw [beq_self_eq_true]; rfl
  | [.none, _] | [.bool _, _] | [.int _, _] | [.str _, _] | [.ref _, _] => rfl
  | x :: y :: z :: r => cases x <;> rfl
theorem form_other {n : Nat} {w : Str} {r : List V} (h1 : (w == Str.ofString "number") = false) (h2 : (w == Str.ofString "blank") = false) (h3 : (w == Str.ofString "record") = false) : formB (n + 1) (.tup (.str w :: r)) = false := by
  match r with
  | [] => exact h1
  | [x] => show (w == Str.ofString "blank" && countB x) = _; rw [h2]; rfl
  | [.tup fs, t] => show (w == Str.ofString "record" && (isNoneV t || countB t) && rowsB (formB n) (Str.ofString "") fs) = _; rw [h3]; rfl
  | [.none, _] | [.bool _, _] | [.int _, _] | [.str _, _] | [.ref _, _] => rfl
  | x :: y :: z :: r => cases x <;> rfl
theorem form_head {n : Nat} {x : V} {r : List V} (h : isStrV x = false) : formB (n + 1) (.tup (x :: r)) = false := by
  cases x with
  | str s => cases h
  | _ => match r with
    | [] | [_] | [.tup _, _] | [.none, _] | [.bool _, _] | [.int _, _] | [.str _, _] | [.ref _, _] => rfl
    | y :: z :: u :: r => cases y <;> rfl
theorem len_zero {x : V} {r : List V} : (((x :: r).length : Int) == 0) = false := ne_len (by simp)

theorem isForm_ok : ∀ (n d : Nat) (v : V) (σ : Store), Dat σ v → 2 * n + 2 ≤ d → Wp (cl02 d "is_form" [v, .int n]) σ (fun r σ' => Le σ σ' ∧ r = .bool (formB n v)) := by
  intro n
  induction n with
  | zero =>
    intro d v σ hv hd
    obtain ⟨d, rfl⟩ : ∃ e, d = e + 1 := ⟨d - 1, by (first | lia | omega)⟩
    rw [P_is_form_sh, Wp_bind, eq_ints, Wp_bind, Wp_truthB]
    show Wp (pure (V.bool false)) σ _
    rw [Wp_pure]
    exact ⟨Le.refl, rfl⟩
  | succ n ih =>
    intro d v σ hv hd
    obtain ⟨d, rfl⟩ : ∃ e, d = e + 2 := ⟨d - 2, by (first | lia | omega)⟩
    rw [P_is_form_sh, Wp_bind, eq_ints, Wp_bind, Wp_truthB]
    rw [show (((n + 1 : Nat) : Int) == 0) = false from beq_false_of_ne (by (first | lia | omega)), cond_false, Wp_bind, Wp_kdTup hv, Wp_bind, Wp_truthB]
    cases hv with
    | tup hall =>
      rename_i l
      show Wp (bLen (.tup l) >>= _) σ _
      rw [Wp_bind, Wp_lenTup, Wp_bind, eq_ints, Wp_bind, Wp_truthB]
      cases l with
      | nil =>
        show Wp (pure (V.bool false)) σ _
        rw [Wp_pure]
        exact ⟨Le.refl, rfl⟩
      | cons x r =>
        have hx := hall x (List.mem_cons_self ..)
        rw [len_zero, cond_false, Wp_bind, Wp_item0, Wp_bind, Wp_kdStrV hx, Wp_bind, Wp_truthB]
        cases hs : isStrV x with
        | false =>
          show Wp (pure (V.bool false)) σ _
          rw [Wp_pure, form_head hs]
          exact ⟨Le.refl, rfl⟩
        | true =>
          cases x with
          | str w =>
            show Wp (P_is_form_t1 (d + 1) (.tup (.str w :: r)) (.int ((n + 1 : Nat) : Int))) σ _
            unfold P_is_form_t1
            rw [Wp_bind, Wp_item0, Wp_bind, eq_str, Wp_bind, Wp_truthB]
            cases h1 : (w == Str.ofString "number") with
            | true =>
              rw [if_pos rfl, Wp_bind, Wp_lenTup, Wp_bind, eq_ints, Wp_pure, beq_iff_eq.mp h1, form_num]
              exact ⟨Le.refl, rfl⟩
            | false =>
              rw [if_neg (by decide)]
              unfold P_is_form_t2
              rw [Wp_bind, Wp_item0, Wp_bind, eq_str, Wp_bind, Wp_truthB]
              cases h2 : (w == Str.ofString "blank") with
              | true =>
                rw [if_pos rfl, Wp_bind, Wp_lenTup, Wp_bind, eq_ints, Wp_bind, Wp_truthB, beq_iff_eq.mp h2, form_blank]
                by_cases hl : r.length = 1
                · match r, hl with
                  | [y], _ =>
                    show Wp (item (.tup [_, y]) (.int 1) >>= _) σ _
                    rw [Wp_bind, Wp_item1]
                    refine Wp_bind.mpr ((isCount_ok (hall y (List.mem_cons_of_mem _ (List.mem_singleton.mpr rfl)))).mono fun q σ' h => ?_)
                    rw [Wp_pure]; exact h
                · have : (((V.str (Str.ofString "blank") :: r).length : Int) == 2) = false := beq_false_of_ne (by simp only [List.length_cons]; (first | lia | omega))
                  rw [this, cond_false, Wp_pure]
                  refine ⟨Le.refl, ?_⟩
                  match r, hl with
                  | [], _ => rfl
                  | _ :: _ :: _, _ => rfl
              | false =>
                rw [if_neg (by decide)]
                unfold P_is_form_t3
                rw [Wp_bind, Wp_item0, Wp_bind, eq_str, Wp_bind, Wp_truthB]
                cases h3 : (w == Str.ofString "record") with
                | false =>
                  rw [cond_false, Wp_pure, form_other h1 h2 h3]
                  exact ⟨Le.refl, rfl⟩
                | true =>
                  rw [cond_true, Wp_bind, Wp_lenTup, Wp_bind, eq_ints, Wp_bind, Wp_truthB, beq_iff_eq.mp h3, form_rec]
                  by_cases hl : r.length = 2
                  · match r, hl with
                    | [f, t], _ =>
                      show Wp (item (.tup [_, f, t]) (.int 1) >>= _) σ _
                      rw [Wp_bind, Wp_item1, Wp_bind, Wp_item2, Wp_bind, Wp_sub, show ((n + 1 : Nat) : Int) - 1 = (n : Int) by (first | lia | omega)]
                      refine Wp_bind.mpr ((isRow_ok (n := n) (d := d) (fun v σ hv => ih d v σ hv (by (first | lia | omega))) (by (first | lia | omega)) (hall f (List.mem_cons_of_mem _ (List.mem_cons_self ..))) (hall t (List.mem_cons_of_mem _ (List.mem_cons_of_mem _ (List.mem_singleton.mpr rfl))))).mono fun q σ' h => ?_)
                      rw [Wp_pure]; exact h
                  · have : (((V.str (Str.ofString "record") :: r).length : Int) == 3) = false := beq_false_of_ne (by simp only [List.length_cons]; (first | lia | omega))
                    rw [this, cond_false, Wp_pure]
                    refine ⟨Le.refl, ?_⟩
                    match r, hl with
                    | [], _ => rfl
                    | [_], _ => rfl
                    | _ :: _ :: _ :: _, _ => rfl
          | _ => cases hs
    | _ =>
      show Wp (pure (V.bool false)) σ _
      rw [Wp_pure]
      exact ⟨Le.refl, rfl⟩
end Mine

namespace Mine
open PySem PyProof.Rows

/-! ## sizes -/
mutual
noncomputable def sz : V → Nat
  | .tup l => 1 + szs l
  | .none => 1
  | .bool _ => 1
  | .int _ => 1
  | .str _ => 1
  | .ref _ => 1
noncomputable def szs : List V → Nat
  | [] => 0
  | x :: r => sz x + szs r
end
theorem sz_pos (v : V) : 1 ≤ sz v := by
  cases v with
  | tup l => show 1 ≤ 1 + szs l; (first | lia | omega)
  | _ => exact Nat.le_refl _
theorem sz_tup (l : List V) : sz (.tup l) = 1 + szs l := rfl
theorem szs_cons (x : V) (r : List V) : szs (x :: r) = sz x + szs r := rfl
theorem szs_len : ∀ l : List V, l.length ≤ szs l
  | [] => Nat.le_refl _
  | x :: r => by
    rw [szs_cons, List.length_cons]
    have := szs_len r
    have := sz_pos x
    (first | lia | omega)
theorem szs_append : ∀ l m : List V, szs (l ++ m) = szs l + szs m
  | [], m => by rw [List.nil_append]; show szs m = 0 + szs m; (first | lia | omega)
  | x :: r, m => by
    rw [List.cons_append, szs_cons, szs_cons, szs_append r m]; (first | lia | omega)

/-! ## the parts of a form -/
noncomputable def sndV : V → V
  | .tup [_, k] => k
  | _ => .none
noncomputable def fstS : V → Str
  | .tup [.str s, _] => s
  | _ => Str.ofString ""
abbrev Lb := Option (List Str)
noncomputable def kn : Nat → V → Nat
  | 0, _ => 0
  | n + 1, v => match v with
    | .tup [_, .tup fs, _] => 1 + (fs.map fun x => kn n (sndV x)).sum
    | _ => 1
noncomputable def endE (t : V) (ls : List Str) : List (Int × Lb) := match t with
  | .int i => [(i, some ls)]
  | _ => []
noncomputable def ev2 : Nat → V → List (Int × Lb)
  | 0, _ => []
  | n + 1, v => match v with
    | .tup [_, .int i] => [(i, none)]
    | .tup [_, .tup fs, t] => (fs.flatMap fun x => ev2 n (sndV x)) ++ endE t (fs.map fstS)
    | _ => []
theorem rows_ps {F : V → Bool} : ∀ {fs : List V} {a : Str}, rowsB F a fs = true → ∃ ps : List (Str × V), fs = ps.map pairV ∧ ∀ p ∈ ps, F p.2 = true
  | [], _, _ => ⟨[], rfl, by simp⟩
  | x :: r, a, h => by
    by_cases hx : ∃ s k, x = .tup [.str s, k]
    · obtain ⟨s, k, rfl⟩ := hx
      have h : (wordB (.str s) && strLt a s && F k && rowsB F s r) = true := h
      rw [Bool.and_eq_true, Bool.and_eq_true] at h
      obtain ⟨ps, rfl, hp⟩ := rows_ps h.2
      exact ⟨(s, k) :: ps, rfl, fun p hm => (List.mem_cons.mp hm).elim (fun e => e ▸ h.1.2) (hp p)⟩
    · rw [rowsB_no fun s k e => absurd ⟨s, k, e⟩ hx] at h; cases h
theorem form_cases {n : Nat} {v : V} (h : formB (n + 1) v = true) : v = .tup [.str (Str.ofString "number")] ∨ (∃ i, 0 ≤ i ∧ v = .tup [.str (Str.ofString "blank"), .int i]) ∨
    ∃ (ps : List (Str × V)) (t : V), v = .tup [.str (Str.ofString "record"), .tup (ps.map pairV), t] ∧ (t = .none ∨ ∃ i, 0 ≤ i ∧ t = .int i) ∧ (∀ p ∈ ps, formB n p.2 = true) ∧ rowsB (formB n) (Str.ofString "") (ps.map pairV) = true := by
  have hc : ∀ {x : V}, countB x = true → ∃ i, 0 ≤ i ∧ x = .int i := fun {x} hx => by
    cases x with
    | int i => exact ⟨i, of_decide_eq_true hx, rfl⟩
    | _ => cases hx
  cases v with
  | tup l =>
    cases l with
    | nil => cases h
    | cons x r =>
      cases hs : isStrV x with
      | false => rw [form_head hs] at h; cases h
      | true =>
        cases x with
        | str w =>
          cases h1 : (w == Str.ofString "number") with
          | true =>
            rw [beq_iff_eq.mp h1, form_num] at h
            have : r.length = 0 := by have := beq_iff_eq.mp h; (first | lia | omega)
            rw [List.length_eq_zero_iff.mp this, beq_iff_eq.mp h1]
            exact .inl rfl
          | false =>
            cases h2 : (w == Str.ofString "blank") with
            | true =>
              rw [beq_iff_eq.mp h2, form_blank] at h
              match r, h with
              | [x], h =>
                obtain ⟨i, hi, rfl⟩ := hc h
                rw [beq_iff_eq.mp h2]
                exact .inr (.inl ⟨i, hi, rfl⟩)
            | false =>
              cases h3 : (w == Str.ofString "record") with
              | false => rw [form_other h1 h2 h3] at h; cases h
              | true =>
                rw [beq_iff_eq.mp h3, form_rec] at h
                match r, h with
                | [f, t], h =>
                  cases f with
                  | tup fs =>
                    have h : ((isNoneV t || countB t) && rowsB (formB n) (Str.ofString "") fs) = true := h
                    rw [Bool.and_eq_true, Bool.or_eq_true] at h
                    obtain ⟨ps, rfl, hp⟩ := rows_ps h.2
                    rw [beq_iff_eq.mp h3]
                    refine .inr (.inr ⟨ps, t, rfl, ?_, hp, h.2⟩)
                    rcases h.1 with h | h
                    · cases t with
                      | none => exact .inl rfl
                      | _ => cases h
                    · exact .inr (hc h)
                  | _ => cases h
        | _ => cases hs
  | _ => cases h
theorem kn_rec {n : Nat} {w t : V} {ps : List (Str × V)} : kn (n + 1) (.tup [w, .tup (ps.map pairV), t]) = 1 + (ps.map fun p => kn n p.2).sum := by
  show 1 + ((ps.map pairV).map fun x => kn n (sndV x)).sum = _
  rw [List.map_map]; rfl
theorem ev_rec {n : Nat} {w t : V} {ps : List (Str × V)} : ev2 (n + 1) (.tup [w, .tup (ps.map pairV), t]) = (ps.flatMap fun p => ev2 n p.2) ++ endE t (ps.map (·.1)) := by
  show ((ps.map pairV).flatMap fun x => ev2 n (sndV x)) ++ endE t ((ps.map pairV).map fstS) = _
  rw [List.flatMap_map, List.map_map]; rfl
theorem szs_ps {ps : List (Str × V)} {p : Str × V} (h : p ∈ ps) : sz p.2 + 1 ≤ szs (ps.map pairV) := by
  induction ps with
  | nil => cases h
  | cons q r ih =>
    rw [List.map_cons, szs_cons]
    have e : sz (pairV q) = 1 + (1 + (sz q.2 + 0)) := rfl
    rcases List.mem_cons.mp h with rfl | h
    · rw [e]; (first | lia | omega)
    · have := ih h; (first | lia | omega)
theorem ev_len : ∀ (n : Nat) (v : V), (ev2 n v).length ≤ sz v
  | 0, v => Nat.zero_le _
  | n + 1, v => by
    have hfl : ∀ fs : List V, (fs.flatMap fun x => ev2 n (sndV x)).length ≤ szs fs := by
      intro fs
      induction fs with
      | nil => exact Nat.le_refl _
      | cons x r ih =>
        rw [List.flatMap_cons, List.length_append, szs_cons]
        have h1 := ev_len n (sndV x)
        have h2 : sz (sndV x) ≤ sz x := by
          cases x with
          | tup l =>
            rcases l with _ | ⟨a, _ | ⟨k, _ | ⟨_, _⟩⟩⟩
            · exact sz_pos _
            · exact sz_pos _
            · show sz k ≤ _
              rw [sz_tup, szs_cons, szs_cons]; (first | lia | omega)
            · exact sz_pos _
          | _ => exact sz_pos _
        (first | lia | omega)
    cases v with
    | tup l =>
      rcases l with _ | ⟨w, _ | ⟨x, _ | ⟨t, _ | ⟨_, _⟩⟩⟩⟩
      · exact Nat.zero_le _
      · exact Nat.zero_le _
      · cases x <;> first | exact sz_pos _ | exact Nat.zero_le _
      · cases x with
        | tup fs =>
          show ((fs.flatMap fun x => ev2 n (sndV x)) ++ endE t (fs.map fstS)).length ≤ _
          rw [List.length_append, sz_tup, szs_cons, szs_cons, szs_cons, sz_tup]
          have h1 := hfl fs
          have h2 := sz_pos w
          have h3 := sz_pos t
          have h4 : (endE t (fs.map fstS)).length ≤ 1 := by cases t <;> first | exact Nat.le_refl _ | exact Nat.zero_le _
          (first | lia | omega)
        | _ => exact Nat.zero_le _
      · cases x <;> exact Nat.zero_le _
    | _ => exact Nat.zero_le _
end Mine

namespace Mine
open PySem PyProof.Rows

theorem map_at {fs : List (Str × V)} {i : Nat} {v : V} (h : (fs.map pairV)[i]? = some v) : ∃ f, fs[i]? = some f ∧ v = .tup [.str f.1, f.2] := by
  rw [List.getElem?_map] at h
  obtain ⟨f, hf, e⟩ := Option.map_eq_some_iff.mp h
  exact ⟨f, hf, e.symm⟩
theorem ints_all : ∀ is : List Int, allInts (is.map V.int) = some is
  | [] => rfl
  | b :: r => by
    show (allInts (r.map V.int)).map (b :: ·) = _
    rw [ints_all r]; rfl
theorem Wp_sum {σ : Store} {Q : V → Store → Prop} {n : Nat} {is : List Int} (h : σ[n]? = some (.list (is.map V.int))) : Wp (bSum (.ref n)) σ Q ↔ Q (.int is.sum) σ := Wp_ok (by
  show (getList n >>= fun l => ofOpt (allInts l) >>= fun bs => pure (V.int bs.sum)) σ = _
  rw [bind_ok (getList_at h), ints_all]; rfl)
theorem sum_cast : ∀ ks : List Nat, (ks.map fun (k : Nat) => (k : Int)).sum = ((ks.sum : Nat) : Int)
  | [] => rfl
  | k :: r => by rw [List.map_cons, List.sum_cons, List.sum_cons, sum_cast r]; (first | lia | omega)

/-! ## knots -/
theorem knots_ok : ∀ (n d : Nat) (v : V) (σ : Store), formB n v = true → sz v ≤ 10000000 → n + 1 ≤ d → Wp (cl02 d "knots_of" [v]) σ (fun r σ' => Le σ σ' ∧ r = .int (kn n v)) := by
  intro n
  induction n with
  | zero => intro d v σ h; cases h
  | succ n ih =>
    intro d v σ h hz hd
    obtain ⟨d, rfl⟩ : ∃ e, d = e + 1 := ⟨d - 1, by (first | lia | omega)⟩
    rw [P_knots_of_sh]
    have hsl : (16777216 : Nat) = sizeLine := rfl
    rcases form_cases h with rfl | ⟨i, hi, rfl⟩ | ⟨ps, t, rfl, ht, hps, _⟩
    · rw [Wp_bind, Wp_item0, Wp_bind, ne_str, Wp_bind, Wp_truthB, show (Str.ofString "number" == Str.ofString "record") = false from by decide +kernel, if_pos (by decide), Wp_pure]
      exact ⟨Le.refl, rfl⟩
    · rw [Wp_bind, Wp_item0, Wp_bind, ne_str, Wp_bind, Wp_truthB, ne_br, if_pos (by decide), Wp_pure]
      exact ⟨Le.refl, rfl⟩
    · rw [Wp_bind, Wp_item0, Wp_bind, ne_str, Wp_bind, Wp_truthB, beq_self_eq_true, if_neg (by decide), kn_rec]
      unfold P_knots_of_t1
      rw [sz_tup, szs_cons, szs_cons, sz_tup] at hz
      have hl : ps.length ≤ szs (ps.map pairV) := by have := szs_len (ps.map pairV); rw [List.length_map] at this; exact this
      rw [Wp_bind, Wp_item1, Wp_bind, Wp_srcTup, Wp_bind]
      refine Wp_compAll (J := fun τ => True) walks_vals tgtOk_vals P_knots_of_c1_ok (P_knots_of_c1_in ..) (fun i acc loc τ => Le σ τ ∧ (∃ o1 o2, loc = [none, o1, o2, none]) ∧ acc = (((ps.take i).map fun p => kn n p.2).map fun (k : Nat) => (k : Int)).map V.int) (fun _ _ _ _ _ => trivial) ⟨Le.refl, ⟨_, _, rfl⟩, rfl⟩ (fun i x acc loc τ hx hp => ?_) fun out loc τ hp => ?_
      · obtain ⟨hle, ⟨o1, o2, rfl⟩, rfl⟩ := hp
        obtain ⟨p, hp, rfl⟩ := map_at hx
        have hpm := List.mem_of_getElem? hp
        rw [P_knots_of_c1_bind, Wp_pure, P_knots_of_c1_tst, Wp_pure, if_pos rfl, P_knots_of_c1_elt]
        refine Wp_bind.mpr ((ih d p.2 τ (hps p hpm) (by have := szs_ps hpm; (first | lia | omega)) (by (first | lia | omega))).mono fun r τ' h => ?_)
        obtain ⟨hle', rfl⟩ := h
        rw [Wp_pure]
        refine ⟨hle.trans hle', ⟨_, _, rfl⟩, ?_⟩
        rw [List.take_add_one, hp]
        simp only [List.map_append, Option.toList]; rfl
      · obtain ⟨hle, _, rfl⟩ := hp
        have htl : ps.take (ps.map pairV).length = ps := by rw [List.length_map, List.take_length]
        rw [htl]
        refine ⟨by rw [List.length_map, List.length_map, List.length_map]; (first | lia | omega), ?_⟩
        rw [Wp_bind, Wp_sum (get_new (σ := τ)), Wp_bind, Wp_add, Wp_pure, sum_cast]
        exact ⟨hle.trans Le.append, rfl⟩

/-! ## blanks -/
noncomputable def labV : Lb → V
  | none => .none
  | some ws => .tup (ws.map V.str)
noncomputable def evV (e : Int × Lb) : V := .tup [.int e.1, labV e.2]
noncomputable def LeEx (X : List Nat) (σ σ' : Store) : Prop := ∀ (n : Nat) (o : O), n ∉ X → σ[n]? = some o → σ'[n]? = some o
theorem LeEx.trans {X : List Nat} {σ σ' σ'' : Store} (h : LeEx X σ σ') (h' : LeEx X σ' σ'') : LeEx X σ σ'' := fun n o hn e => h' n o hn (h n o hn e)
theorem Le.ex {X : List Nat} {σ σ' : Store} (h : Le σ σ') : LeEx X σ σ' := fun n o _ e => h n o e
theorem LeEx.set {X : List Nat} {σ : Store} {k : Nat} {o : O} (hk : k ∈ X) : LeEx X σ (σ.set k o) := fun n o' hn e => by
  rw [List.getElem?_set_ne (show k ≠ n from fun e => hn (e ▸ hk))]; exact e
theorem LeEx.setNew {X : List Nat} {σ τ : Store} {k : Nat} {o : O} (h : LeEx X σ τ) (hk : σ.length ≤ k) : LeEx X σ (τ.set k o) := fun n o' hn e => by
  rw [List.getElem?_set_ne (fun eq => by have := lt_of_get e; (first | lia | omega))]; exact h n o' hn e
theorem LeEx.mono {X Y : List Nat} {σ σ' : Store} (h : LeEx X σ σ') (hs : ∀ n ∈ X, n ∈ Y) : LeEx Y σ σ' := fun n o hn e => h n o (fun hm => hn (hs n hm)) e

theorem note_ok {F : Nat} (hF : 0 < F) : ∀ (n d : Nat) (v : V) (l : List V) (σ : Store), formB n v = true → sz v ≤ 10000000 → n + 1 ≤ d → σ[F]? = some (.list l) → l.length + (ev2 n v).length ≤ 10000000 →
    Wp (cl02 d "note_blanks" [v, .ref F]) σ (fun r σ' => LeEx [F] σ σ' ∧ σ'[F]? = some (.list (l ++ (ev2 n v).map evV))) := by
  intro n
  induction n with
  | zero => intro d v l σ h; cases h
  | succ n ih =>
    intro d v l σ h hz hd hl hb
    obtain ⟨d, rfl⟩ : ∃ e, d = e + 1 := ⟨d - 1, by (first | lia | omega)⟩
    rw [P_note_blanks_sh]
    have hsl : (16777216 : Nat) = sizeLine := rfl
    rcases form_cases h with rfl | ⟨i, hi, rfl⟩ | ⟨ps, t, rfl, ht, hps, _⟩
    · rw [Wp_bind, Wp_item0, Wp_bind, eq_str, Wp_bind, Wp_truthB, ne_bn, if_neg (by decide)]
      unfold P_note_blanks_t1
      rw [Wp_bind, Wp_item0, Wp_bind, eq_str, Wp_bind, Wp_truthB, show (Str.ofString "number" == Str.ofString "record") = false from by decide +kernel, if_neg (by decide), Wp_pure]
      exact ⟨Le.refl.ex, by rw [hl]; show _ = some (O.list (l ++ [])); rw [List.append_nil]⟩
    · rw [Wp_bind, Wp_item0, Wp_bind, eq_str, Wp_bind, Wp_truthB, beq_self_eq_true, if_pos rfl, Wp_bind, Wp_mtag hl, Wp_bind, Wp_item1, Wp_bind, Wp_append hl hF (by (first | lia | omega))]
      unfold P_note_blanks_t1
      rw [Wp_bind, Wp_item0, Wp_bind, eq_str, Wp_bind, Wp_truthB, ne_br, if_neg (by decide), Wp_pure]
      exact ⟨LeEx.set (List.mem_singleton.mpr rfl), set_get hl⟩
    · rw [Wp_bind, Wp_item0, Wp_bind, eq_str, Wp_bind, Wp_truthB, ne_rb, if_neg (by decide)]
      unfold P_note_blanks_t1
      rw [Wp_bind, Wp_item0, Wp_bind, eq_str, Wp_bind, Wp_truthB, beq_self_eq_true, if_pos rfl, Wp_bind, Wp_item1, Wp_bind, Wp_srcTup, Wp_bind]
      rw [ev_rec] at hb ⊢
      rw [List.length_append] at hb
      rw [sz_tup, szs_cons, szs_cons, sz_tup] at hz
      have hpl : ps.length ≤ szs (ps.map pairV) := by have := szs_len (ps.map pairV); rw [List.length_map] at this; exact this
      generalize hK : V.tup [.str (Str.ofString "record"), .tup (ps.map pairV), t] = K
      refine Wp_forAll (J := fun τ => True) walks_vals tgtOk_vals (fun i loc τ => LeEx [F] σ τ ∧ (∃ o1 o2, loc = [some K, some (.ref F), o1, o2, none, none]) ∧ τ[F]? = some (.list (l ++ ((ps.take i).flatMap fun p => ev2 n p.2).map evV))) (fun _ _ _ _ => trivial) ⟨Le.refl.ex, ⟨_, _, rfl⟩, by rw [hl]; show _ = some (O.list (l ++ [])); rw [List.append_nil]⟩ (fun i x loc τ hx hp => ?_) fun loc τ hp => ?_
      · obtain ⟨hle, ⟨o1, o2, rfl⟩, hFt⟩ := hp
        obtain ⟨p, hp, rfl⟩ := map_at hx
        have hpm := List.mem_of_getElem? hp
        have htake : (ps.take (i + 1)).flatMap (fun p => ev2 n p.2) = ((ps.take i).flatMap fun p => ev2 n p.2) ++ ev2 n p.2 := by rw [List.take_add_one, hp, List.flatMap_append]; simp
        have hlen : ((ps.take (i + 1)).flatMap fun p => ev2 n p.2).length ≤ (ps.flatMap fun p => ev2 n p.2).length := by
          conv => rhs; rw [← List.take_append_drop (i + 1) ps, List.flatMap_append, List.length_append]
          (first | lia | omega)
        rw [htake, List.length_append] at hlen
        rw [P_note_blanks_l1_step]
        refine Wp_bind.mpr ((ih d p.2 _ τ (hps p hpm) (by have := szs_ps hpm; (first | lia | omega)) (by (first | lia | omega)) hFt (by rw [List.length_append, List.length_map]; (first | lia | omega))).mono fun r τ' h => ?_)
        obtain ⟨hle', hF'⟩ := h
        rw [Wp_pure]
        refine .inl ⟨rfl, hle.trans hle', ⟨_, _, rfl⟩, ?_⟩
        rw [htake, List.map_append, ← List.append_assoc]; exact hF'
      · obtain ⟨hle, ⟨o1, o2, rfl⟩, hFt⟩ := hp
        rw [List.length_map, List.take_length] at hFt
        show Wp (P_note_blanks_a1 d _) _ _
        rw [P_note_blanks_a1_eq]
        subst hK
        rw [Wp_bind, Wp_item2, Wp_bind, Wp_notNone, Wp_bind, Wp_truthB, List.map_append, ← List.append_assoc]
        rcases ht with rfl | ⟨i, hi, rfl⟩
        · show Wp (pure V.none) τ _
          rw [Wp_pure]
          exact ⟨hle, by rw [hFt]; show _ = some (O.list (_ ++ [])); rw [List.append_nil]⟩
        · show Wp (askS (mtag (.ref F) "append") >>= _) τ _
          rw [Wp_bind, Wp_mtag hFt, Wp_bind, Wp_item2, Wp_bind, Wp_item1, Wp_bind, Wp_srcTup, Wp_bind]
          have hfm : (ps.map pairV).filterMap (fun v => some (V.str (fstS v))) = (ps.map (·.1)).map V.str := by
            rw [List.filterMap_map, List.map_map, ← List.filterMap_eq_map]; rfl
          refine Wp_compPure (σ := τ) walks_vals tgtOk_vals P_note_blanks_c1_ok (P_note_blanks_c1_in ..) (fun loc => ∃ o1 o2, loc = [none, o1, o2]) ⟨_, _, rfl⟩ (fun v => some (V.str (fstS v))) (fun v loc hv hS => ?_) ?_ ?_
          · obtain ⟨o1, o2, rfl⟩ := hS
            obtain ⟨p, _, rfl⟩ := List.mem_map.mp hv
            unfold pairV
            rw [P_note_blanks_c1_bind, Wp_pure]
            refine ⟨rfl, ⟨_, _, rfl⟩, ?_⟩
            rw [P_note_blanks_c1_tst, Wp_pure]
            refine ⟨rfl, ?_⟩
            rw [if_pos rfl, P_note_blanks_c1_elt, Wp_pure]
            exact ⟨rfl, rfl⟩
          · rw [hfm, List.length_map, List.length_map]; (first | lia | omega)
          · rw [hfm, Wp_bind, Wp_tupleRef (get_new (σ := τ)), Wp_bind]
            have hF2 := Le.append (τ := [O.list ((ps.map (·.1)).map V.str)]) _ _ hFt
            have h1 : (endE (.int i) (ps.map (·.1))).length = 1 := rfl
            rw [Wp_append hF2 hF (by rw [List.length_append, List.length_map]; (first | lia | omega)), Wp_pure]
            exact ⟨hle.trans (Le.append.ex.trans (LeEx.set (List.mem_singleton.mpr rfl))), set_get hF2⟩
end Mine

namespace Mine
open PySem PyProof.Rows

/-! ## what is met -/
abbrev Met := Int → Option Lb
noncomputable def upd (m : Met) (i : Int) (L : Lb) : Met := fun j => if j = i then some L else m j
noncomputable def stepE (m : Met) (e : Int × Lb) : Option Met := match m e.1 with
  | none => some (upd m e.1 e.2)
  | some L => if L = e.2 then some m else none
noncomputable def foldE (m : Met) : List (Int × Lb) → Option Met
  | [] => some m
  | e :: r => (stepE m e).bind fun m' => foldE m' r
theorem foldE_append : ∀ (a b : List (Int × Lb)) (m : Met), foldE m (a ++ b) = (foldE m a).bind fun m' => foldE m' b
  | [], b, m => rfl
  | e :: r, b, m => by
    show (stepE m e).bind (fun m' => foldE m' (r ++ b)) = ((stepE m e).bind fun m' => foldE m' r).bind _
    cases stepE m e with
    | none => rfl
    | some m' => exact foldE_append r b m'

theorem eqv_strs : ∀ x y : List Str, PyData.eqvAll (x.map PyData.str) (y.map PyData.str) = decide (x = y)
  | [], [] => rfl
  | [], y :: r => rfl
  | x :: r, [] => rfl
  | x :: r, y :: q => by
    rw [List.map_cons, List.map_cons, PyData.eqvAll, eqv_strs r q, PyData.eqv]
    by_cases h : x = y
    · subst h
      by_cases hr : r = q
      · subst hr; simp
      · simp [hr]
    · have : (x == y) = false := beq_false_of_ne h
      rw [this]; simp [h]
theorem strs_data (f : Nat → Option PyData) : ∀ ss : List Str, toPyTs f (ss.map V.str) = some (ss.map PyData.str) ∧ PyData.depthAll (ss.map PyData.str) ≤ 0
  | [] => ⟨rfl, Nat.le_refl _⟩
  | s :: r => by
    obtain ⟨h1, h2⟩ := strs_data f r
    refine ⟨?_, ?_⟩
    · show (match toPyT f (.str s), toPyTs f (r.map V.str) with | some d, some ds => some (d :: ds) | _, _ => none) = _
      rw [h1]; rfl
    · rw [List.map_cons, PyData.depthAll]
      exact Nat.max_le.mpr ⟨Nat.le_refl _, h2⟩
theorem lab_veq {σ : Store} (a b : Lb) : veq σ (labV a) (labV b) = some (decide (a = b)) := by
  cases a with
  | none => cases b with
    | none => rfl
    | some y =>
      unfold veq toPy labV
      show (match some PyData.none, (toPyTs _ (y.map V.str)).map PyData.tuple with | some x, some y => if min x.depth y.depth ≤ 200 then some (PyData.eqv x y) else none | _, _ => none) = _
      rw [(strs_data _ y).1]
      show (if min PyData.none.depth (PyData.tuple (y.map PyData.str)).depth ≤ 200 then some (PyData.eqv .none (.tuple (y.map PyData.str))) else none) = _
      rw [if_pos (Nat.le_trans (Nat.min_le_left _ _) (show PyData.none.depth ≤ 200 by decide))]; rfl
  | some x => cases b with
    | none =>
      unfold veq toPy labV
      show (match (toPyTs _ (x.map V.str)).map PyData.tuple, some PyData.none with | some x, some y => if min x.depth y.depth ≤ 200 then some (PyData.eqv x y) else none | _, _ => none) = _
      rw [(strs_data _ x).1]
      show (if min (PyData.tuple (x.map PyData.str)).depth PyData.none.depth ≤ 200 then some (PyData.eqv (.tuple (x.map PyData.str)) .none) else none) = _
      rw [if_pos (Nat.le_trans (Nat.min_le_right _ _) (show PyData.none.depth ≤ 200 by decide))]; rfl
    | some y =>
      unfold veq toPy labV
      show (match (toPyTs _ (x.map V.str)).map PyData.tuple, (toPyTs _ (y.map V.str)).map PyData.tuple with | some x, some y => if min x.depth y.depth ≤ 200 then some (PyData.eqv x y) else none | _, _ => none) = _
      rw [(strs_data _ x).1, (strs_data _ y).1]
      show (if min (PyData.tuple (x.map PyData.str)).depth (PyData.tuple (y.map PyData.str)).depth ≤ 200 then some (PyData.eqv (.tuple (x.map PyData.str)) (.tuple (y.map PyData.str))) else none) = _
      have h : (PyData.tuple (x.map PyData.str)).depth ≤ 1 := by rw [PyData.depth]; have := (strs_data (fun _ => none) x).2; (first | lia | omega)
      rw [if_pos (Nat.le_trans (Nat.min_le_left _ _) (by (first | lia | omega))), PyData.eqv, eqv_strs]
      congr 1
      by_cases hxy : x = y
      · subst hxy; simp
      · simp [hxy]
theorem ne_lab {σ : Store} {Q : V → Store → Prop} {a b : Lb} : Wp (cmp .NotEq (labV a) (labV b)) σ Q ↔ Q (.bool (!decide (a = b))) σ := Wp_ok (by
  show askS (fun σ => (veq σ (labV a) (labV b)).map fun e => V.bool (!e)) σ = _
  unfold askS; dsimp only; rw [lab_veq]; rfl)

/-! tables of numbers -/
theorem dGet_snoc {l : Tab} {k k' : Key} {v : V} (h : dGet l k = none) : dGet (l ++ [(k, v)]) k' = if k' = k then some v else dGet l k' := by
  unfold dGet at *
  rw [List.find?_append]
  by_cases hk : k' = k
  · subst hk
    rw [Option.map_eq_none_iff.mp h]; simp
  · rw [if_neg hk]
    have : List.find? (fun p : Key × V => decide (p.1 = k')) [(k, v)] = none := by
      have hk' : ¬ k = k' := fun e => hk e.symm
      simp [hk']
    rw [this]
    cases List.find? (fun p : Key × V => decide (p.1 = k')) l <;> rfl
theorem Wp_mtagD {σ : Store} {n : Nat} {l : Tab} {Q : MTag → Store → Prop} (h : σ[n]? = some (.dict l)) : Wp (askS (mtag (.ref n) "setdefault")) σ Q ↔ Q .setdefault σ := Wp_ok (by
  unfold askS mtag
  dsimp only
  rw [h]
  dsimp only
  rw [if_pos rfl])
theorem getDict_at {σ : Store} {n : Nat} {l : Tab} (h : σ[n]? = some (.dict l)) : getDict n σ = .ok l σ := by
  unfold getDict
  rw [bind_ok (getO_at h)]; rfl
theorem Wp_sdThere {σ : Store} {Q : V → Store → Prop} {n : Nat} {l : Tab} {i : Int} {v x : V} (h : σ[n]? = some (.dict l)) (hx : dGet l (.inl i) = some x) : Wp (runM .setdefault (.ref n) [.int i, v]) σ Q ↔ Q x σ := Wp_ok (by
  show (getDict n >>= fun l => ofOpt (some (.inl i)) >>= fun k => match dGet l k with | some x => pure x | none => if l.length + 1 ≤ sizeLine then (setO n (.dict (l ++ [(k, v)])) >>= fun _ => pure v) else M.bad) σ = _
  rw [bind_ok (getDict_at h)]
  show (match dGet l (.inl i) with | some x => pure x | none => if l.length + 1 ≤ sizeLine then (setO n (.dict (l ++ [(.inl i, v)])) >>= fun _ => pure v) else M.bad : M V) σ = _
  rw [hx]; rfl)
theorem Wp_sdNew {σ : Store} {Q : V → Store → Prop} {n : Nat} {l : Tab} {i : Int} {v : V} (h : σ[n]? = some (.dict l)) (hn : 0 < n) (hx : dGet l (.inl i) = none) (hl : l.length < sizeLine) : Wp (runM .setdefault (.ref n) [.int i, v]) σ Q ↔ Q v (σ.set n (.dict (l ++ [(.inl i, v)]))) := Wp_ok (by
  show (getDict n >>= fun l => ofOpt (some (.inl i)) >>= fun k => match dGet l k with | some x => pure x | none => if l.length + 1 ≤ sizeLine then (setO n (.dict (l ++ [(k, v)])) >>= fun _ => pure v) else M.bad) σ = _
  rw [bind_ok (getDict_at h)]
  show (match dGet l (.inl i) with | some x => pure x | none => if l.length + 1 ≤ sizeLine then (setO n (.dict (l ++ [(.inl i, v)])) >>= fun _ => pure v) else M.bad : M V) σ = _
  rw [hx]
  show (if l.length + 1 ≤ sizeLine then (setO n (.dict (l ++ [(.inl i, v)])) >>= fun _ => pure v) else M.bad : M V) σ = _
  rw [if_pos (by (first | lia | omega)), bind_ok (setO_ok hn (lt_of_get h))]; rfl)

theorem blanks_ok {n d : Nat} {v : V} {σ : Store} {k : Nat} (hk : σ[k]? = some (.list [v])) (h0 : 0 < σ.length) (hf : formB n v = true) (hz : sz v ≤ 10000000) (hd : n + 2 ≤ d) :
    Wp (cl02 d "blanks_of" [.ref k]) σ (fun r σ' => Le σ σ' ∧ isNoneV r = !(foldE (fun _ => none) (ev2 n v)).isSome) := by
  obtain ⟨d, rfl⟩ : ∃ e, d = e + 1 := ⟨d - 1, by (first | lia | omega)⟩
  have hsl : (16777216 : Nat) = sizeLine := rfl
  have hel := ev_len n v
  rw [P_blanks_of_sh, Wp_bind, Wp_newO, Wp_bind, Wp_srcRef (Le.append _ _ hk), Wp_bind]
  have hF0 := get_new (σ := σ) (o := .list [])
  have hle0 : Le σ (σ ++ [O.list []]) := Le.append
  have hkF : k < σ.length := lt_of_get hk
  generalize σ ++ [O.list []] = σ₁ at hF0 hle0 ⊢
  generalize hFe : σ.length = F at hF0 h0 hkF ⊢
  -- the blanks are noted
  refine Wp_forAll (J := fun τ => τ[k]? = some (.list [v])) (walks_lst fun τ h => h) tgtOk_lst (fun i loc τ => τ[k]? = some (.list [v]) ∧ Le σ τ ∧ (∃ o, loc = [some (.ref k), some (.ref F), o, none, none, none, none]) ∧ ((i = 0 ∧ τ[F]? = some (.list [])) ∨ (i = 1 ∧ τ[F]? = some (.list ((ev2 n v).map evV))))) (fun _ _ _ h => h.1) ⟨hle0 _ _ hk, hle0, ⟨_, rfl⟩, .inl ⟨rfl, hF0⟩⟩ (fun i x loc τ hx hp => ?_) fun loc τ hp => ?_
  · obtain ⟨hkt, hle, ⟨o, rfl⟩, hF⟩ := hp
    have hi : i = 0 := by have := lt_of_get hx; simp at this; exact this
    subst hi
    cases hx
    obtain ⟨_, hF⟩ | ⟨h, _⟩ := hF
    · rw [P_blanks_of_l1_step]
      refine Wp_bind.mpr ((note_ok h0 n d v [] τ hf hz (by (first | lia | omega)) hF (by simp; (first | lia | omega))).mono fun r τ' h => ?_)
      obtain ⟨hx', hF'⟩ := h
      rw [Wp_pure]
      refine .inl ⟨rfl, hx' _ _ (fun hm => by have := List.mem_singleton.mp hm; (first | lia | omega)) hkt, fun m o e => hx' _ _ (fun hm => by have := List.mem_singleton.mp hm; have := lt_of_get e; (first | lia | omega)) (hle _ _ e), ⟨_, rfl⟩, .inr ⟨rfl, by rw [hF', List.nil_append]⟩⟩
    · cases h
  · obtain ⟨hkt, hle, ⟨o, rfl⟩, hF⟩ := hp
    obtain ⟨h, _⟩ | ⟨_, hF⟩ := hF
    · cases h
    show Wp (P_blanks_of_a1 d _) _ _
    rw [P_blanks_of_a1_eq, Wp_bind, Wp_newO, Wp_bind, Wp_srcRef (Le.append _ _ hF), Wp_bind]
    have hD0 := get_new (σ := τ) (o := .dict [])
    have hF1 := Le.append (τ := [O.dict []]) _ _ hF
    have hle1 : Le σ (τ ++ [O.dict []]) := hle.trans Le.append
    have hDF : F < τ.length := lt_of_get hF
    have hDσ : σ.length ≤ τ.length := hle.len
    generalize τ ++ [O.dict []] = τ₁ at hD0 hF1 hle1 ⊢
    generalize τ.length = D at hD0 hDF hDσ ⊢
    generalize hes : ev2 n v = es at hF1 hel ⊢
    refine Wp_forAll (J := fun τ => τ[F]? = some (.list (es.map evV))) (walks_lst fun τ h => h) tgtOk_lst (fun i loc τ => τ[F]? = some (.list (es.map evV)) ∧ Le σ τ ∧ (∃ o1 o2, loc = [some (.ref k), some (.ref F), o, some (.ref D), o1, o2, none]) ∧ ∃ (T : Tab) (m : Met), τ[D]? = some (.dict T) ∧ T.length ≤ i ∧ (∀ j, dGet T (.inl j) = (m j).map labV) ∧ foldE (fun _ => none) es = foldE m (es.drop i)) (fun _ _ _ h => h.1) ⟨hF1, hle1, ⟨_, _, rfl⟩, [], fun _ => none, hD0, Nat.zero_le _, fun _ => rfl, rfl⟩ (fun i x loc τ₂ hx hp => ?_) fun loc τ₂ hp => ?_
    · obtain ⟨hF2, hle2, ⟨o1, o2, rfl⟩, T, m, hD, hT, hm, hfold⟩ := hp
      rw [List.getElem?_map] at hx
      obtain ⟨e, he, rfl⟩ := Option.map_eq_some_iff.mp hx
      have hie := lt_of_get he
      have hdrop : es.drop i = e :: es.drop (i + 1) := by
        rw [List.drop_eq_getElem_cons hie]
        rw [List.getElem?_eq_getElem hie] at he
        rw [Option.some.inj he]
      rw [hdrop] at hfold
      have hfold : foldE (fun _ => none) es = (stepE m e).bind fun m' => foldE m' (es.drop (i + 1)) := hfold
      unfold evV
      rw [P_blanks_of_l2_step, Wp_bind, Wp_mtagD hD, Wp_bind]
      unfold stepE at hfold
      cases hme : m e.1 with
      | none =>
        have hg : dGet T (.inl e.1) = none := by rw [hm, hme]; rfl
        rw [hme] at hfold
        rw [Wp_sdNew hD (by (first | lia | omega)) hg (by (first | lia | omega)), Wp_bind, ne_lab, Wp_bind, Wp_truthB, if_neg (by simp), Wp_pure]
        refine .inl ⟨rfl, ?_, hle2.setNew (by (first | lia | omega)), ⟨_, _, rfl⟩, _, upd m e.1 e.2, set_get hD, by rw [List.length_append]; show _ + 1 ≤ _; (first | lia | omega), fun j => ?_, hfold⟩
        · rw [List.getElem?_set_ne (by (first | lia | omega))]; exact hF2
        · rw [dGet_snoc hg]
          unfold upd
          by_cases hj : j = e.1
          · subst hj; rw [if_pos rfl, if_pos rfl]; rfl
          · rw [if_neg (fun h => hj (Sum.inl.inj h)), if_neg hj]; exact hm j
      | some L =>
        have hg : dGet T (.inl e.1) = some (labV L) := by rw [hm, hme]; rfl
        rw [hme] at hfold
        rw [Wp_sdThere hD hg, Wp_bind, ne_lab, Wp_bind, Wp_truthB]
        by_cases hL : L = e.2
        · rw [if_neg (by simp [hL]), Wp_pure]
          have hfold : foldE (fun _ => none) es = (if L = e.2 then some m else none).bind fun m' => foldE m' (es.drop (i + 1)) := hfold
          rw [if_pos hL] at hfold
          exact .inl ⟨rfl, hF2, hle2, ⟨_, _, rfl⟩, T, m, hD, by (first | lia | omega), hm, hfold⟩
        · rw [if_pos (by simp [hL]), Wp_pure]
          have hfold : foldE (fun _ => none) es = (if L = e.2 then some m else none).bind fun m' => foldE m' (es.drop (i + 1)) := hfold
          rw [if_neg hL] at hfold
          refine .inr ⟨_, rfl, ?_⟩
          show Wp (pure V.none) τ₂ _
          rw [Wp_pure, hfold]
          exact ⟨hle2, rfl⟩
    · obtain ⟨hF2, hle2, ⟨o1, o2, rfl⟩, T, m, hD, hT, hm, hfold⟩ := hp
      rw [List.length_map, List.drop_length] at hfold
      show Wp (P_blanks_of_a2 d _) _ _
      rw [P_blanks_of_a2_eq, Wp_pure, hfold]
      exact ⟨hle2, rfl⟩

/-- what is_kind answers -/
noncomputable def kindB (v : V) : Bool := formB 12 v && (decide (kn 12 v ≤ 200) && (foldE (fun _ => none) (ev2 12 v)).isSome)
theorem isKind_ok {d : Nat} {v : V} {σ : Store} (hd : 40 ≤ d) (hv : Dat σ v) (hz : sz v ≤ 10000000) (h0 : 0 < σ.length) : Wp (cl02 d "is_kind" [v]) σ (fun r σ' => Le σ σ' ∧ r = .bool (kindB v)) := by
  obtain ⟨d, rfl⟩ : ∃ e, d = e + 1 := ⟨d - 1, by (first | lia | omega)⟩
  rw [P_is_kind_sh]
  refine Wp_bind.mpr ((isForm_ok 12 d v σ hv (by (first | lia | omega))).mono fun r σ₁ h => ?_)
  obtain ⟨hle1, rfl⟩ := h
  rw [Wp_bind, Wp_truthB]
  unfold kindB
  cases hf : formB 12 v with
  | false =>
    rw [cond_false, Wp_pure]
    exact ⟨hle1, rfl⟩
  | true =>
    rw [cond_true]
    refine Wp_bind.mpr ((knots_ok 12 d v σ₁ hf hz (by (first | lia | omega))).mono fun r σ₂ h => ?_)
    obtain ⟨hle2, rfl⟩ := h
    rw [Wp_bind, Wp_le, Wp_bind, Wp_truthB]
    have hdec : decide (((kn 12 v : Nat) : Int) ≤ 200) = decide (kn 12 v ≤ 200) := by
      by_cases h : kn 12 v ≤ 200
      · rw [decide_eq_true h, decide_eq_true (by (first | lia | omega))]
      · rw [decide_eq_false h, decide_eq_false (by (first | lia | omega))]
    rw [hdec]
    cases hk : decide (kn 12 v ≤ 200) with
    | false =>
      rw [cond_false, Wp_pure]
      exact ⟨hle1.trans hle2, rfl⟩
    | true =>
      rw [cond_true, Wp_bind, Wp_newO]
      have hl := (hle1.trans hle2).len
      refine Wp_bind.mpr ((blanks_ok (n := 12) (get_new (σ := σ₂) (o := .list [v])) (by simp) hf hz (by (first | lia | omega))).mono fun r σ₃ h => ?_)
      obtain ⟨hle3, hr⟩ := h
      rw [Wp_bind, Wp_notNone, Wp_pure, hr]
      exact ⟨((hle1.trans hle2).trans Le.append).trans hle3, by simp⟩
end Mine

namespace Mine
open PySem PyProof.Rows

/-! ## tables, once more -/
theorem dGet_dSet {l : Tab} {k k' : Key} {v : V} : dGet (dSet l k v) k' = if k' = k then some v else dGet l k' := by
  unfold dSet
  by_cases h : (l.any fun p => decide (p.1 = k)) = true
  · rw [if_pos h]
    unfold dGet
    induction l with
    | nil => cases h
    | cons p r ih =>
      rw [List.map_cons, List.find?_cons, List.find?_cons]
      by_cases hp : p.1 = k
      · rw [if_pos hp]
        by_cases hk : k' = k
        · subst hk; simp [hp]
        · have h1 : ¬ p.1 = k' := fun e => hk (e.symm.trans hp)
          simp only [h1, decide_false, if_neg hk]
          by_cases hr : (r.any fun p => decide (p.1 = k)) = true
          · have := ih hr; rw [if_neg hk] at this; exact this
          · have : (r.map fun p => if p.1 = k then (p.1, v) else p) = r := by
              refine (List.map_congr_left fun q hq => ?_).trans (List.map_id _)
              rw [if_neg fun e => hr (List.any_eq_true.mpr ⟨q, hq, decide_eq_true e⟩)]; rfl
            rw [this]
      · rw [if_neg hp]
        have hr : (r.any fun p => decide (p.1 = k)) = true := by rw [List.any_cons, decide_eq_false hp, Bool.false_or] at h; exact h
        by_cases hpk : p.1 = k'
        · have hk : ¬ k' = k := fun e => hp (hpk.trans e)
          simp [hpk, hk]
        · simp only [hpk, decide_false]
          exact ih hr
  · rw [if_neg h]
    have hn : dGet l k = none := by
      unfold dGet
      rw [Option.map_eq_none_iff, List.find?_eq_none]
      intro p hp he
      exact h (List.any_eq_true.mpr ⟨p, hp, he⟩)
    exact dGet_snoc hn
theorem dSet_there {l : Tab} {k : Key} {v x : V} (h : dGet l k = some x) : (dSet l k v).length = l.length := by
  unfold dSet
  have : (l.any fun p => decide (p.1 = k)) = true := by
    unfold dGet at h
    obtain ⟨p, hp, _⟩ := Option.map_eq_some_iff.mp h
    exact List.any_eq_true.mpr ⟨p, List.mem_of_find?_eq_some hp, List.find?_some (p := fun p : Key × V => decide (p.1 = k)) hp⟩
  rw [if_pos this, List.length_map]

/-! ## the law's own book -/
noncomputable def Enc (σ : Store) (X : List Nat) : Lb → V → Prop
  | none, x => x = .none
  | some ws, x => ∃ r, x = .ref r ∧ r ∉ X ∧ σ[r]? = some (.list (ws.map V.str))
noncomputable def EncO (σ : Store) (X : List Nat) : Option Lb → Option V → Prop
  | none, g => g = none
  | some L, g => ∃ x, g = some x ∧ Enc σ X L x
theorem Enc.le {σ σ' : Store} {X Y : List Nat} (h : LeEx Y σ σ') (hY : ∀ n ∈ Y, n ∈ X) : ∀ {L : Lb} {x : V}, Enc σ X L x → Enc σ' X L x
  | none, x, e => e
  | some ws, x, e => let ⟨r, h1, h2, h3⟩ := e; ⟨r, h1, h2, h _ _ (fun hm => h2 (hY _ hm)) h3⟩
theorem EncO.le {σ σ' : Store} {X Y : List Nat} (h : LeEx Y σ σ') (hY : ∀ n ∈ Y, n ∈ X) : ∀ {L : Option Lb} {x : Option V}, EncO σ X L x → EncO σ' X L x
  | none, x, e => e
  | some L, x, e => let ⟨y, h1, h2⟩ := e; ⟨y, h1, h2.le h hY⟩
/-- fewer, or fresh, are barred -/
theorem EncO.bar {σ : Store} {X X' : List Nat} (h : ∀ r, r < σ.length → r ∉ X → r ∉ X') : ∀ {L : Option Lb} {x : Option V}, EncO σ X L x → EncO σ X' L x
  | none, x, e => e
  | some none, x, e => e
  | some (some ws), x, e => let ⟨y, h1, r, h2, h3, h4⟩ := e; ⟨y, h1, r, h2, h r (lt_of_get h4) h3, h4⟩
structure Sn (σ : Store) (sn : Nat) (X : List Nat) (m : Met) (c b : Nat) : Prop where
  mem : sn ∈ X
  ex : ∃ T : Tab, σ[sn]? = some (.dict T) ∧ dGet T (.inl (-1)) = some (.int c) ∧ (∀ i, 0 ≤ i → EncO σ X (m i) (dGet T (.inl i))) ∧ T.length ≤ b
theorem Sn.le {σ σ' : Store} {sn : Nat} {X Y : List Nat} {m : Met} {c b b' : Nat} (h : Sn σ sn X m c b) (hle : LeEx Y σ σ') (hY : ∀ n ∈ Y, n ∈ X) (hs : sn ∉ Y) (hb : b ≤ b') : Sn σ' sn X m c b' :=
  let ⟨T, h1, h2, h3, h4⟩ := h.ex
  ⟨h.mem, T, hle _ _ hs h1, h2, fun i hi => (h3 i hi).le hle hY, by (first | lia | omega)⟩
theorem Sn.bar {σ : Store} {sn : Nat} {X X' : List Nat} {m : Met} {c b : Nat} (h : Sn σ sn X m c b) (hm : sn ∈ X') (hX : ∀ r, r < σ.length → r ∉ X → r ∉ X') : Sn σ sn X' m c b :=
  let ⟨T, h1, h2, h3, h4⟩ := h.ex
  ⟨hm, T, h1, h2, fun i hi => (h3 i hi).bar hX, h4⟩
theorem kp_ex {σ σ' : Store} {sn : Nat} {T : Tab} (h : LeEx [sn] σ σ') (hs : σ[sn]? = some (.dict T)) : Kp σ σ' := fun r l e =>
  ⟨l, h _ _ (fun hm => by rw [List.mem_singleton.mp hm, hs] at e; cases e) e⟩
theorem words_veq {σ : Store} {a b : Nat} {x y : List Str} (ha : σ[a]? = some (.list (x.map V.str))) (hb : σ[b]? = some (.list (y.map V.str))) : veq σ (.ref a) (.ref b) = some (decide (x = y)) := by
  unfold veq
  rw [toPy_list ha (strs_data _ x).1, toPy_list hb (strs_data _ y).1]
  dsimp only
  have h : (PyData.list (x.map PyData.str)).depth ≤ 1 := by rw [PyData.depth]; have := (strs_data (fun _ => none) x).2; (first | lia | omega)
  rw [if_pos (Nat.le_trans (Nat.min_le_left _ _) (by (first | lia | omega))), PyData.eqv, eqv_strs]
theorem enc_veq {σ : Store} {X : List Nat} {L L' : Lb} {x y : V} (hx : Enc σ X L x) (hy : Enc σ X L' y) : veq σ x y = some (decide (L = L')) := by
  cases L with
  | none =>
    have hx : x = .none := hx
    subst hx
    cases L' with
    | none =>
      have hy : y = .none := hy
      subst hy; rfl
    | some ws =>
      obtain ⟨r, rfl, _, hr⟩ := hy
      unfold veq
      rw [toPy_list hr (strs_data _ ws).1]
      show (if min PyData.none.depth (PyData.list (ws.map PyData.str)).depth ≤ 200 then some (PyData.eqv .none (.list (ws.map PyData.str))) else none) = _
      rw [if_pos (Nat.le_trans (Nat.min_le_left _ _) (show PyData.none.depth ≤ 200 by decide))]; rfl
  | some vs =>
    obtain ⟨r, rfl, _, hr⟩ := hx
    cases L' with
    | none =>
      have hy : y = .none := hy
      subst hy
      unfold veq
      rw [toPy_list hr (strs_data _ vs).1]
      show (if min (PyData.list (vs.map PyData.str)).depth PyData.none.depth ≤ 200 then some (PyData.eqv (.list (vs.map PyData.str)) .none) else none) = _
      rw [if_pos (Nat.le_trans (Nat.min_le_right _ _) (show PyData.none.depth ≤ 200 by decide))]; rfl
    | some ws =>
      obtain ⟨q, rfl, _, hq⟩ := hy
      rw [words_veq hr hq]
      congr 1
      by_cases h : vs = ws
      · subst h; simp
      · simp [h]

theorem lblank_ok {d sn c b : Nat} {X : List Nat} {σ : Store} {m : Met} {i : Int} {L : Lb} {x : V} (hs0 : 0 < sn) (hi : 0 ≤ i) (S : Sn σ sn X m c b) (hb : b ≤ 12000000) (hx : Enc σ X L x) :
    Wp (cl02 (d + 1) "_law_blank" [.ref sn, .int i, x]) σ (fun r σ' => LeEx [sn] σ σ' ∧ ((∃ m', stepE m (i, L) = some m' ∧ r = .bool true ∧ Sn σ' sn X m' c (b + 1)) ∨ (stepE m (i, L) = none ∧ r = .bool false))) := by
  obtain ⟨T, hT, hc, hm, hl⟩ := S.ex
  have hY : ∀ n ∈ [sn], n ∈ X := fun n hn => by rw [List.mem_singleton.mp hn]; exact S.mem
  have hsl : (16777216 : Nat) = sizeLine := rfl
  have hx' : LeEx [sn] σ (σ.set sn (.dict (dSet T (.inl i) x))) := LeEx.set (List.mem_singleton.mpr rfl)
  have put : ∀ m', (∀ j, 0 ≤ j → m' j = if j = i then some L else m j) → Sn (σ.set sn (.dict (dSet T (.inl i) x))) sn X m' c (b + 1) := fun m' hm' => by
    refine ⟨S.mem, dSet T (.inl i) x, set_get hT, ?_, fun j hj => ?_, Nat.le_trans (dSet_length ..) (by (first | lia | omega))⟩
    · rw [dGet_dSet, if_neg (fun e => by have := Sum.inl.inj e; (first | lia | omega))]; exact hc
    · rw [hm' j hj, dGet_dSet]
      by_cases hji : j = i
      · subst hji
        rw [if_pos rfl, if_pos rfl]
        exact ⟨x, rfl, hx.le hx' hY⟩
      · rw [if_neg hji, if_neg (fun e => hji (Sum.inl.inj e))]
        exact (hm j hj).le hx' hY
  have t1 : ∀ m', stepE m (i, L) = some m' → (∀ j, 0 ≤ j → m' j = if j = i then some L else m j) → Wp (L_blank_t1 d (.ref sn) (.int i) x) σ (fun r σ' => LeEx [sn] σ σ' ∧ ((∃ m', stepE m (i, L) = some m' ∧ r = .bool true ∧ Sn σ' sn X m' c (b + 1)) ∨ (stepE m (i, L) = none ∧ r = .bool false))) := fun m' h1 h2 => by
    unfold L_blank_t1
    rw [Wp_bind, Wp_setD hT hs0 (show keyOf (.int i) = some (.inl i) from rfl) (by (first | lia | omega)), Wp_pure]
    exact ⟨hx', .inl ⟨m', h1, rfl, put m' h2⟩⟩
  rw [L_blank_sh, Wp_bind, Wp_inD hT (show keyOf (.int i) = some (.inl i) from rfl), Wp_bind, Wp_truthB]
  have hmi := hm i hi
  unfold stepE at t1 ⊢
  cases e : m i with
  | none =>
    rw [e] at hmi
    have hmi : dGet T (.inl i) = none := hmi
    rw [hmi]
    show Wp (L_blank_t1 d (.ref sn) (.int i) x) σ _
    simp only [e] at t1 ⊢
    exact t1 _ rfl fun j _ => rfl
  | some L₀ =>
    rw [e] at hmi
    obtain ⟨y, hy, hL⟩ := hmi
    rw [hy]
    show Wp (item (.ref sn) (.int i) >>= _) σ _
    rw [Wp_bind, Wp_itemD hT (show keyOf (.int i) = some (.inl i) from rfl) hy, Wp_bind]
    refine (Wp_ok (a := V.bool (!decide (L₀ = L))) (σ' := σ) ?_).mpr ?_
    · show askS (fun σ => (veq σ y x).map fun e => V.bool (!e)) σ = _
      unfold askS; dsimp only; rw [enc_veq hL hx]; rfl
    rw [Wp_bind, Wp_truthB]
    simp only [e] at t1 ⊢
    by_cases hLL : L₀ = L
    · rw [decide_eq_true hLL]
      show Wp (L_blank_t1 d (.ref sn) (.int i) x) σ _
      simp only [if_pos hLL] at t1 ⊢
      refine t1 m rfl fun j _ => ?_
      by_cases hj : j = i
      · subst hj; rw [if_pos rfl, e, hLL]
      · rw [if_neg hj]
    · rw [decide_eq_false hLL]
      show Wp (pure (V.bool false)) σ _
      rw [Wp_pure]
      simp only [if_neg hLL]
      exact ⟨Le.refl.ex, .inr (by simp)⟩
end Mine

namespace Mine
open PySem PyProof.Rows

theorem Wp_itemLast {σ : Store} {Q : V → Store → Prop} {n : Nat} {q : List V} {x : V} (h : σ[n]? = some (.list (q ++ [x]))) : Wp (item (.ref n) (.int (-1))) σ Q ↔ Q x σ := Wp_ok (by
  show (getO n >>= fun o => match o with | .list l => itemL l (.int (-1)) | .dict l => ofOpt ((keyOf (.int (-1))).bind (dGet l)) | _ => M.bad) σ = _
  rw [bind_ok (getO_at h)]
  show ofOpt ((place (-1) (q ++ [x]).length).bind fun j => (q ++ [x])[j]?) σ = _
  have hp : place (-1) (q ++ [x]).length = some q.length := by
    unfold place
    rw [if_neg (by decide), if_pos (by rw [List.length_append]; show (0 : Int) ≤ -1 + ((q.length + 1 : Nat) : Int); (first | lia | omega)), List.length_append]
    show some (-1 + ((q.length + 1 : Nat) : Int)).toNat = _
    congr 1; (first | lia | omega)
  rw [hp]
  show ofOpt ((q ++ [x])[q.length]?) σ = _
  rw [List.getElem?_append_right (Nat.le_refl _), Nat.sub_self]; rfl)
theorem word_pos {s : Str} (h : wordB (.str s) = true) : strLt (Str.ofString "") s = true := by
  have h : (decide ((1 : Int) ≤ s.length) && decide ((s.length : Int) ≤ 8) && s.cps.toList.all fun c => Txt.contains letters (chr1 c)) = true := h
  rw [Bool.and_eq_true, Bool.and_eq_true] at h
  have h1 : (1 : Int) ≤ s.length := of_decide_eq_true h.1.1
  unfold strLt
  refine decide_eq_true ?_
  have e : (Str.ofString "").cps.toList = [] := by decide +kernel
  rw [e]
  cases hc : s.cps.toList with
  | nil =>
    have : s.length = 0 := by show s.cps.size = 0; rw [← Array.length_toList, hc]; rfl
    (first | lia | omega)
  | cons a r => exact List.nil_lt_cons a r

noncomputable def evF (n : Nat) (fs : List V) : List (Int × Lb) := fs.flatMap fun x => ev2 n (sndV x)
noncomputable def knF (n : Nat) (fs : List V) : Nat := (fs.map fun x => kn n (sndV x)).sum
theorem evF_take {n : Nat} {fs : List V} {i : Nat} {x : V} (h : fs[i]? = some x) : evF n (fs.take (i + 1)) = evF n (fs.take i) ++ ev2 n (sndV x) := by
  unfold evF
  rw [List.take_add_one, h, List.flatMap_append]; simp
theorem knF_take {n : Nat} {fs : List V} {i : Nat} {x : V} (h : fs[i]? = some x) : knF n (fs.take (i + 1)) = knF n (fs.take i) + kn n (sndV x) := by
  unfold knF
  rw [List.take_add_one, h, List.map_append, List.sum_append]; simp
theorem szs_take {fs : List V} {i : Nat} {x : V} (h : fs[i]? = some x) : szs (fs.take (i + 1)) = szs (fs.take i) + sz x := by
  rw [List.take_add_one, h, szs_append]; rfl
theorem szs_take_le (fs : List V) (i : Nat) : szs (fs.take i) ≤ szs fs := by
  conv => rhs; rw [← List.take_append_drop i fs, szs_append]
  (first | lia | omega)
theorem evF_split {n : Nat} {fs : List V} {i : Nat} {x : V} (h : fs[i]? = some x) : evF n fs = evF n (fs.take i) ++ (ev2 n (sndV x) ++ evF n (fs.drop (i + 1))) := by
  conv => lhs; rw [← List.take_append_drop (i + 1) fs]
  unfold evF
  rw [List.flatMap_append]
  have := evF_take (n := n) h
  unfold evF at this
  rw [this, List.append_assoc]

/-- what a look at a thing does -/
noncomputable def PostG (sn : Nat) (X : List Nat) (n : Nat) (v : V) (m : Met) (c b : Nat) (σ : Store) (r : V) (σ' : Store) : Prop :=
  LeEx [sn] σ σ' ∧ ((∃ m', formB n v = true ∧ foldE m (ev2 n v) = some m' ∧ r = .bool true ∧ Sn σ' sn X m' (c + kn n v) (b + sz v)) ∨ (r = .bool false ∧ (formB n v = true → foldE m (ev2 n v) = none)))

/-- what a look at a record's fields does -/
abbrev PostR (sn : Nat) (X : List Nat) (n : Nat) (fs : List V) (t : V) (m : Met) (c b : Nat) (σ : Store) (r : V) (σ' : Store) : Prop :=
  LeEx [sn] σ σ' ∧ ((∃ m', rowB n (.tup fs) t = true ∧ foldE m (evF n fs ++ endE t (fs.map fstS)) = some m' ∧ r = .bool true ∧ Sn σ' sn X m' (c + knF n fs) (b + szs fs + 1)) ∨ (r = .bool false ∧ (rowB n (.tup fs) t = true → foldE m (evF n fs ++ endE t (fs.map fstS)) = none)))
/-- the state of its loop -/
abbrev InvR (sn : Nat) (X : List Nat) (n : Nat) (fs : List V) (m : Met) (c b N : Nat) (K : V) (σ σ₁ : Store) (i : Nat) (loc : Loc) (τ : Store) : Prop :=
  LeEx [sn] σ τ ∧ σ₁.length ≤ τ.length ∧ (∃ o, loc = [some K, some (.int ((n + 1 : Nat) : Int)), some (.ref sn), some (.ref N), o, none, none, none, none, none, none, none, none]) ∧ τ[N]? = some (.list (((fs.take i).map fstS).map V.str)) ∧
      (∃ mi, foldE m (evF n (fs.take i)) = some mi ∧ Sn τ sn (N :: X) mi (c + knF n (fs.take i)) (b + szs (fs.take i))) ∧
      ∃ a, rowsB (formB n) (Str.ofString "") fs = rowsB (formB n) a (fs.drop i) ∧ (((fs.take i).map fstS = [] ∧ a = Str.ofString "") ∨ ∃ q, (fs.take i).map fstS = q ++ [a])
theorem goodRec_ok {n d sn c b : Nat} {X : List Nat} {σ : Store} {m : Met} {fs : List V} {t : V} (hs0 : 0 < sn) (hsX : sn ∈ X) (hd : 2 ≤ d)
    (ih : ∀ (v : V) (σ : Store) (m : Met) (c b : Nat) (X : List Nat), Dat σ v → Sn σ sn X m c b → b + sz v ≤ 12000000 → (∀ r ∈ X, r < σ.length) → Wp (cl02 d "_law_good" [v, .int n, .ref sn]) σ (PostG sn X n v m c b σ))
    (hf : Dat σ (.tup fs)) (ht : Dat σ t) (S : Sn σ sn X m c b) (hb : b + szs fs + 2 ≤ 12000000) (hX : ∀ r ∈ X, r < σ.length) :
    Wp (L_good_t4 d (.tup [.str (Str.ofString "record"), .tup fs, t]) (.int ((n + 1 : Nat) : Int)) (.ref sn)) σ
      (PostR sn X n fs t m c b σ) := by
  have hsl : (16777216 : Nat) = sizeLine := rfl
  have hrow : rowB n (.tup fs) t = ((isNoneV t || countB t) && rowsB (formB n) (Str.ofString "") fs) := rfl
  have hfl := szs_len fs
  unfold L_good_t4
  rw [Wp_bind, Wp_newO, Wp_bind, Wp_item1, Wp_bind, Wp_srcTup, Wp_bind]
  have hN0 := get_new (σ := σ) (o := .list [])
  have hle0 : Le σ (σ ++ [O.list []]) := Le.append
  have hNX : σ.length ∉ X := fun hm => Nat.lt_irrefl _ (hX _ hm)
  have hNs : σ.length ≠ sn := fun e => hNX (e ▸ hsX)
  have S0 : Sn (σ ++ [O.list []]) sn (σ.length :: X) m c b := (S.bar (X' := σ.length :: X) (List.mem_cons_of_mem _ hsX) fun r hr hrX hm => by
    rcases List.mem_cons.mp hm with e | hm
    · (first | lia | omega)
    · exact hrX hm).le (Y := []) (hle0.ex) (fun _ hn => nomatch hn) (fun hn => nomatch hn) (Nat.le_refl _)
  have hln : (σ ++ [O.list []]).length = σ.length + 1 := by simp
  generalize hNe : σ.length = N at hN0 hNX hNs S0 hln ⊢
  generalize σ ++ [O.list []] = σ₁ at hN0 hle0 S0 hln ⊢
  generalize hK : V.tup [.str (Str.ofString "record"), .tup fs, t] = K
  have hNp : 0 < N := by obtain ⟨T₀, h, _⟩ := S.ex; have := lt_of_get h; (first | lia | omega)
  have nN : N ∉ [sn] := fun hm => hNs (List.mem_singleton.mp hm)
  refine Wp_forAll (J := fun τ => True) walks_vals tgtOk_vals (InvR sn X n fs m c b N K σ σ₁) (fun _ _ _ _ => trivial)
    ⟨hle0.ex, Nat.le_refl _, ⟨_, rfl⟩, hN0, ⟨m, rfl, S0⟩, _, rfl, .inl ⟨rfl, rfl⟩⟩ (fun i x loc τ hx hp => ?_) fun loc τ hp => ?_
  · obtain ⟨hlt, hll, ⟨o, rfl⟩, hNt, ⟨mi, hmi, Si⟩, a, hra, hlast⟩ := hp
    obtain ⟨T, hT, _⟩ := Si.ex
    have hil := lt_of_get hx
    have hdrop : fs.drop i = x :: fs.drop (i + 1) := by
      rw [List.drop_eq_getElem_cons hil]
      rw [List.getElem?_eq_getElem hil] at hx
      rw [Option.some.inj hx]
    rw [hdrop] at hra
    have hTσ : ∃ T₀, σ[sn]? = some (.dict T₀) := let ⟨T₀, h, _⟩ := S.ex; ⟨T₀, h⟩
    have hxd : Dat τ x := by
      obtain ⟨T₀, h⟩ := hTσ
      cases hf with | tup hall => exact (hall x (List.mem_of_getElem? hx)).kp (kp_ex hlt h)
    have hsz := szs_take hx
    have hszle := szs_take_le fs (i + 1)
    -- an end without
    have stop : ∀ (τ' : Store) (loc' : Loc), LeEx [sn] σ τ' → (rowsB (formB n) (Str.ofString "") fs = true → foldE m (evF n fs ++ endE t (fs.map fstS)) = none) → Wp (flK retK (L_good_a1 d) (Fl.ret (V.bool false), loc')) τ' (PostR sn X n fs t m c b σ) := by
      intro τ' loc' hl' hno
      show Wp (Pure.pure (V.bool false)) τ' _
      rw [Wp_pure]
      exact ⟨hl', .inr ⟨rfl, fun h => hno (by rw [hrow, Bool.and_eq_true] at h; exact h.2)⟩⟩
    have noRow : rowsB (formB n) a (x :: fs.drop (i + 1)) = false → rowsB (formB n) (Str.ofString "") fs = true → foldE m (evF n fs ++ endE t (fs.map fstS)) = none := fun h h' => by rw [hra, h] at h'; cases h'
    rw [L_good_l1_step, Wp_bind, Wp_kdTup hxd, Wp_bind, Wp_truthB]
    rcases two_cases x with ⟨l, k, rfl⟩ | hno | ⟨q, rfl, hq⟩
    · show Wp (bLen (.tup [l, k]) >>= _) τ _
      rw [Wp_bind, Wp_lenTup, Wp_bind, ne_ints, Wp_bind, Wp_truthB]
      show Wp (item (.tup [l, k]) (.int 0) >>= _) τ _
      rw [Wp_bind, Wp_item0]
      obtain ⟨d, rfl⟩ : ∃ e, d = e + 1 := ⟨d - 1, by (first | lia | omega)⟩
      have hl : Dat τ l := by cases hxd with | tup h => exact h l (List.mem_cons_self ..)
      have hk : Dat τ k := by cases hxd with | tup h => exact h k (List.mem_cons_of_mem _ (List.mem_singleton.mpr rfl))
      refine Wp_bind.mpr ((lword_ok hl).mono fun r τ₁ h => ?_)
      obtain ⟨hle1, rfl⟩ := h
      have hlt1 : LeEx [sn] σ τ₁ := hlt.trans hle1.ex
      rw [Wp_bind, Wp_truthB]
      cases hw : wordB l with
      | false =>
        show Wp (pure _) τ₁ _
        rw [Wp_pure]
        exact .inr ⟨_, rfl, stop τ₁ _ hlt1 (noRow (rowsB_no fun s k' e => by cases e; rw [hw]; rfl))⟩
      | true =>
        obtain ⟨s, rfl⟩ := word_str hw
        show Wp (L_good_t5 (d + 1) K (.int ((n + 1 : Nat) : Int)) (.ref sn) (.ref N) (.tup [.str s, k])) τ₁ _
        have Si1 : Sn τ₁ sn (N :: X) mi (c + knF n (fs.take i)) (b + szs (fs.take i)) := Si.le (Y := []) hle1.ex (fun _ hn => nomatch hn) (fun hn => nomatch hn) (Nat.le_refl _)
        have hN1 := hle1 _ _ hNt
        have hskz : sz (.tup [.str s, k]) = sz k + 2 := by rw [sz_tup, szs_cons, szs_cons]; show 1 + (1 + (sz k + 0)) = _; (first | lia | omega)
        -- the look at the inner thing
        have tail : ∀ τ₂, Le τ₁ τ₂ → strLt a s = true → ∀ R : Fl × Loc → Store → Prop,
            (∀ τ₃ loc', LeEx [sn] σ τ₃ → (rowsB (formB n) (Str.ofString "") fs = true → foldE m (evF n fs ++ endE t (fs.map fstS)) = none) → R (Fl.ret (V.bool false), loc') τ₃) →
            (∀ τ₃ mj, LeEx [sn] σ τ₃ → τ₁.length ≤ τ₃.length → τ₃[N]? = some (.list (((fs.take (i + 1)).map fstS).map V.str)) → foldE m (evF n (fs.take (i + 1))) = some mj → Sn τ₃ sn (N :: X) mj (c + knF n (fs.take (i + 1))) (b + szs (fs.take (i + 1))) → formB n k = true →
              R (Fl.next, [some K, some (.int ((n + 1 : Nat) : Int)), some (.ref sn), some (.ref N), some (.tup [.str s, k]), none, none, none, none, none, none, none, none]) τ₃) →
            Wp (item (.tup [.str s, k]) (V.int 1) >>= fun t334 => (binop .Sub (.int ((n + 1 : Nat) : Int)) (V.int 1) >>= fun t335 => (cl02 (d + 1) "_law_good" [t334, t335, .ref sn] >>= fun t336 => (truth t336 >>= fun b337 => (cond (!b337) (pure (Fl.ret (V.bool false), [some K, some (.int ((n + 1 : Nat) : Int)), some (.ref sn), some (.ref N), some (.tup [.str s, k]), none, none, none, none, none, none, none, none]) : M (Fl × Loc)) (L_good_t6 (d + 1) K (.int ((n + 1 : Nat) : Int)) (.ref sn) (.ref N) (.tup [.str s, k]))))))) τ₂ R := by
          intro τ₂ hle2 hs R hR1 hR2
          have hlt2 : LeEx [sn] σ τ₂ := hlt1.trans hle2.ex
          rw [Wp_bind, Wp_item1, Wp_bind, Wp_sub, show ((n + 1 : Nat) : Int) - 1 = (n : Int) by (first | lia | omega)]
          have Si2 : Sn τ₂ sn (N :: X) mi (c + knF n (fs.take i)) (b + szs (fs.take i)) := Si1.le (Y := []) hle2.ex (fun _ hn => nomatch hn) (fun hn => nomatch hn) (Nat.le_refl _)
          have hXb : ∀ r ∈ N :: X, r < τ₂.length := fun r hr => by
            have h1 := hle1.len
            have h2 := hle2.len
            rcases List.mem_cons.mp hr with rfl | hr
            · (first | lia | omega)
            · have := hX r hr; (first | lia | omega)
          refine Wp_bind.mpr ((ih k τ₂ mi _ _ (N :: X) ((hk.kp hle1.kp).kp hle2.kp) Si2 (by (first | lia | omega)) hXb).mono fun r τ₃ h => ?_)
          obtain ⟨hle3, h⟩ := h
          have hlt3 := hlt2.trans hle3
          rcases h with ⟨mj, hform, hfold, rfl, Sj⟩ | ⟨rfl, hnone⟩
          · rw [Wp_bind, Wp_truthB]
            show Wp (L_good_t6 (d + 1) K (.int ((n + 1 : Nat) : Int)) (.ref sn) (.ref N) (.tup [.str s, k])) τ₃ _
            unfold L_good_t6
            have hN3 := hle3 _ _ nN (hle2 _ _ hN1)
            have htl : ((fs.take i).map fstS).length ≤ fs.length := by rw [List.length_map, List.length_take]; (first | lia | omega)
            rw [Wp_bind, Wp_mtag hN3, Wp_bind, Wp_item0, Wp_bind, Wp_append hN3 hNp (by rw [List.length_map]; (first | lia | omega)), Wp_pure]
            have hset : LeEx [N] τ₃ (τ₃.set N (.list (((fs.take i).map fstS).map V.str ++ [V.str s]))) := LeEx.set (List.mem_singleton.mpr rfl)
            refine hR2 _ mj (hlt3.setNew (by (first | lia | omega))) ?_ ?_ ?_ ?_ hform
            · rw [List.length_set]
              have : τ₂.length ≤ τ₃.length := by
                rcases Nat.lt_or_ge τ₃.length τ₂.length with h | h
                · obtain ⟨T₂, hT₂, _⟩ := Sj.ex
                  by_cases hq : τ₃.length = sn
                  · have := lt_of_get hT₂; (first | lia | omega)
                  · have := hle3 τ₃.length _ (fun hm => hq (List.mem_singleton.mp hm)) (List.getElem?_eq_getElem h)
                    rw [List.getElem?_eq_none (Nat.le_refl _)] at this; cases this
                · exact h
              have := hle2.len; (first | lia | omega)
            · rw [set_get hN3, List.take_add_one, hx]
              simp only [Option.toList, List.map_append]; rfl
            · rw [evF_take hx, foldE_append, hmi]; exact hfold
            · rw [knF_take hx, hsz, hskz]
              refine (Sj.le hset (fun n hn => by rw [List.mem_singleton.mp hn]; exact List.mem_cons_self ..) (fun hm => hNs (List.mem_singleton.mp hm).symm) (show _ ≤ b + (szs (fs.take i) + (sz k + 2)) by (first | lia | omega))) |> fun h => ?_
              have e : c + knF n (fs.take i) + kn n k = c + (knF n (fs.take i) + kn n (sndV (.tup [.str s, k]))) := by show _ = c + (knF n (fs.take i) + kn n k); (first | lia | omega)
              rw [← e]; exact h
          · rw [Wp_bind, Wp_truthB]
            show Wp (pure _) τ₃ _
            rw [Wp_pure]
            refine hR1 τ₃ _ hlt3 fun hrows => ?_
            have hF : formB n k = true := by
              rw [hra] at hrows
              have h : (wordB (.str s) && strLt a s && formB n k && rowsB (formB n) s (fs.drop (i + 1))) = true := hrows
              rw [Bool.and_eq_true, Bool.and_eq_true] at h
              exact h.1.2
            rw [foldE_append, evF_split hx, foldE_append, hmi]
            show ((some mi).bind fun m' => foldE m' (ev2 n k ++ _)).bind _ = none
            show (foldE mi (ev2 n k ++ _)).bind _ = none
            rw [foldE_append, hnone hF]; rfl
        unfold L_good_t5
        rw [Wp_bind, Wp_newO, Wp_bind]
        have hNew := get_new (σ := τ₁) (o := .list [])
        have hN1' := Le.append (τ := [O.list []]) _ _ hN1
        refine (Wp_ok (a := V.bool (!decide ((fs.take i).map fstS = []))) (σ' := τ₁ ++ [O.list []]) ?_).mpr ?_
        · show askS (fun σ => (veq σ (.ref N) (.ref τ₁.length)).map fun e => V.bool (!e)) _ = _
          unfold askS; dsimp only
          rw [words_veq (y := []) hN1' hNew]; rfl
        rw [Wp_bind, Wp_truthB]
        have next : ∀ τ₃ mj, LeEx [sn] σ τ₃ → τ₁.length ≤ τ₃.length → τ₃[N]? = some (.list (((fs.take (i + 1)).map fstS).map V.str)) → foldE m (evF n (fs.take (i + 1))) = some mj → Sn τ₃ sn (N :: X) mj (c + knF n (fs.take (i + 1))) (b + szs (fs.take (i + 1))) → formB n k = true → strLt a s = true →
            (LeEx [sn] σ τ₃ ∧ σ₁.length ≤ τ₃.length ∧ (∃ o, [some K, some (.int ((n + 1 : Nat) : Int)), some (.ref sn), some (.ref N), some (.tup [.str s, k]), none, none, none, none, none, none, none, none] = [some K, some (.int ((n + 1 : Nat) : Int)), some (.ref sn), some (.ref N), o, none, none, none, none, none, none, none, none]) ∧ τ₃[N]? = some (.list (((fs.take (i + 1)).map fstS).map V.str)) ∧
              (∃ mi, foldE m (evF n (fs.take (i + 1))) = some mi ∧ Sn τ₃ sn (N :: X) mi (c + knF n (fs.take (i + 1))) (b + szs (fs.take (i + 1)))) ∧
              ∃ a, rowsB (formB n) (Str.ofString "") fs = rowsB (formB n) a (fs.drop (i + 1)) ∧ (((fs.take (i + 1)).map fstS = [] ∧ a = Str.ofString "") ∨ ∃ q, (fs.take (i + 1)).map fstS = q ++ [a])) := by
          intro τ₃ mj h1 h2 h3 h4 h5 h6 h7
          refine ⟨h1, by have := hle1.len; (first | lia | omega), ⟨_, rfl⟩, h3, ⟨mj, h4, h5⟩, s, ?_, .inr ⟨(fs.take i).map fstS, ?_⟩⟩
          · rw [hra, rowsB_yes (by rw [hw, h7, h6]; rfl)]
          · rw [List.take_add_one, hx]
            simp only [Option.toList, List.map_append]; rfl
        rcases hlast with ⟨hemp, ha⟩ | ⟨q, hq⟩
        · rw [decide_eq_true hemp]
          have hs : strLt a s = true := by rw [ha]; exact word_pos hw
          show Wp (item (.tup [.str s, k]) (V.int 1) >>= _) (τ₁ ++ [O.list []]) _
          refine tail _ Le.append hs _ (fun τ₃ loc' h1 h2 => .inr ⟨_, rfl, stop τ₃ loc' h1 h2⟩) fun τ₃ mj h1 h2 h3 h4 h5 h6 => .inl ⟨rfl, next τ₃ mj h1 h2 h3 h4 h5 h6 hs⟩
        · have hne : (fs.take i).map fstS ≠ [] := by rw [hq]; simp
          rw [decide_eq_false hne]
          have hN2 : (τ₁ ++ [O.list []])[N]? = some (.list (q.map V.str ++ [V.str a])) := by
            rw [hN1', hq, List.map_append]; rfl
          show Wp (item (.ref N) (V.int (-1)) >>= _) (τ₁ ++ [O.list []]) _
          rw [Wp_bind, Wp_itemLast hN2, Wp_bind, Wp_item0, Wp_bind, ge_strs, Wp_bind, Wp_truthB]
          cases hs : strLt a s with
          | false =>
            show Wp (pure _) (τ₁ ++ [O.list []]) _
            rw [Wp_pure]
            exact .inr ⟨_, rfl, stop _ _ (hlt1.trans Le.append.ex) (noRow (rowsB_no fun s k' e => by cases e; rw [hw, hs]; rfl))⟩
          | true =>
            show Wp (item (.tup [.str s, k]) (V.int 1) >>= _) (τ₁ ++ [O.list []]) _
            refine tail _ Le.append hs _ (fun τ₃ loc' h1 h2 => .inr ⟨_, rfl, stop τ₃ loc' h1 h2⟩) fun τ₃ mj h1 h2 h3 h4 h5 h6 => .inl ⟨rfl, next τ₃ mj h1 h2 h3 h4 h5 h6 hs⟩
    · rw [hno]
      show Wp (pure _) τ _
      rw [Wp_pure]
      exact .inr ⟨_, rfl, stop τ _ hlt (noRow (rowsB_no fun s k e => by subst e; cases hno))⟩
    · show Wp (bLen (.tup q) >>= _) τ _
      rw [Wp_bind, Wp_lenTup, Wp_bind, ne_ints, Wp_bind, Wp_truthB]
      have : ((q.length : Int) == 2) = false := beq_false_of_ne (by (first | lia | omega))
      rw [this]
      show Wp (pure _) τ _
      rw [Wp_pure]
      exact .inr ⟨_, rfl, stop τ _ hlt (noRow (rowsB_no fun s k e => by cases e; exact absurd rfl hq))⟩
  · obtain ⟨hlt, hll, ⟨o, rfl⟩, hNt, ⟨mi, hmi, Si⟩, a, hra, hlast⟩ := hp
    rw [List.drop_length] at hra
    have hra : rowsB (formB n) (Str.ofString "") fs = true := hra
    rw [List.take_length] at hNt hmi Si
    have Sx : ∀ {σ' mm cc bb}, Sn σ' sn (N :: X) mm cc bb → Sn σ' sn X mm cc bb := fun h => h.bar hsX fun r _ hr hm => hr (List.mem_cons_of_mem _ hm)
    show Wp (L_good_a1 d _) _ _
    have hrow' : rowB n (.tup fs) t = (isNoneV t || countB t) := by rw [hrow, hra, Bool.and_true]
    rw [L_good_a1_eq]
    subst hK
    rw [Wp_bind, Wp_item2, Wp_bind, Wp_isNone, Wp_bind, Wp_truthB]
    have htd : Dat τ t := let ⟨T₀, h, _⟩ := S.ex; ht.kp (kp_ex hlt h)
    cases hnone : isNoneV t with
    | true =>
      have ht : t = .none := by cases t <;> first | rfl | cases hnone
      subst ht
      rw [cond_true, Wp_pure]
      refine ⟨hlt, .inl ⟨mi, hrow', ?_, rfl, (Sx Si).le (Y := []) Le.refl.ex (fun _ hn => nomatch hn) (fun hn => nomatch hn) (by (first | lia | omega))⟩⟩
      rw [foldE_append, hmi]; rfl
    | false =>
      obtain ⟨d, rfl⟩ : ∃ e, d = e + 1 := ⟨d - 1, by (first | lia | omega)⟩
      rw [cond_false, Wp_bind, Wp_item2]
      refine Wp_bind.mpr ((lnumber_ok htd).mono fun r τ₁ h => ?_)
      obtain ⟨hle1, rfl⟩ := h
      rw [Wp_bind, Wp_truthB]
      cases hc : countB t with
      | false =>
        rw [cond_false, Wp_pure]
        exact ⟨hlt.trans hle1.ex, .inr ⟨rfl, fun h => by rw [hrow', hnone, hc] at h; cases h⟩⟩
      | true =>
        cases t with
        | int j =>
          have hj : 0 ≤ j := of_decide_eq_true hc
          rw [cond_true, Wp_bind, Wp_item2]
          have Si1 : Sn τ₁ sn X mi (c + knF n fs) (b + szs fs) := (Sx Si).le (Y := []) hle1.ex (fun _ hn => nomatch hn) (fun hn => nomatch hn) (Nat.le_refl _)
          refine Wp_bind.mpr ((lblank_ok (d := d) (L := some (fs.map fstS)) hs0 hj Si1 (by (first | lia | omega)) ⟨N, rfl, hNX, hle1 _ _ hNt⟩).mono fun r τ₂ h => ?_)
          obtain ⟨hle2, h⟩ := h
          rw [Wp_pure]
          have hev : foldE m (evF n fs ++ endE (.int j) (fs.map fstS)) = stepE mi (j, some (fs.map fstS)) := by
            rw [foldE_append, hmi]
            show (stepE mi (j, some (fs.map fstS))).bind (fun m' => foldE m' []) = _
            cases stepE mi (j, some (fs.map fstS)) <;> rfl
          refine ⟨(hlt.trans hle1.ex).trans hle2, ?_⟩
          rw [hev]
          rcases h with ⟨m', h1, rfl, S'⟩ | ⟨h1, rfl⟩
          · exact .inl ⟨m', hrow'.trans (by rw [hnone]; exact hc), h1, rfl, S'⟩
          · exact .inr ⟨rfl, fun _ => h1⟩
        | _ => cases hc
end Mine

namespace Mine
open PySem PyProof.Rows

theorem ev_form_num {n : Nat} : ev2 (n + 1) (.tup [.str (Str.ofString "number")]) = [] := rfl
theorem good_ok {sn : Nat} (hs0 : 0 < sn) : ∀ (n d : Nat) (v : V) (σ : Store) (m : Met) (c b : Nat) (X : List Nat), Dat σ v → Sn σ sn X m c b → b + sz v ≤ 12000000 → (∀ r ∈ X, r < σ.length) → n + 4 ≤ d →
    Wp (cl02 d "_law_good" [v, .int n, .ref sn]) σ (PostG sn X n v m c b σ) := by
  intro n
  induction n with
  | zero =>
    intro d v σ m c b X hv S hb hX hd
    obtain ⟨d, rfl⟩ : ∃ e, d = e + 1 := ⟨d - 1, by (first | lia | omega)⟩
    rw [L_good_sh, Wp_bind, eq_ints, Wp_bind, Wp_truthB]
    show Wp (pure (V.bool false)) σ _
    rw [Wp_pure]
    exact ⟨Le.refl.ex, .inr ⟨rfl, fun h => by cases h⟩⟩
  | succ n ih =>
    intro d v σ m c b X hv S hb hX hd
    obtain ⟨d, rfl⟩ : ∃ e, d = e + 1 := ⟨d - 1, by (first | lia | omega)⟩
    have no : ∀ σ', LeEx [sn] σ σ' → formB (n + 1) v = false → Wp (pure (V.bool false) : M V) σ' (PostG sn X (n + 1) v m c b σ) := fun σ' h hf => by
      rw [Wp_pure]
      exact ⟨h, .inr ⟨rfl, fun h => by rw [hf] at h; cases h⟩⟩
    rw [L_good_sh, Wp_bind, eq_ints, Wp_bind, Wp_truthB]
    rw [show (((n + 1 : Nat) : Int) == 0) = false from beq_false_of_ne (by (first | lia | omega)), cond_false, Wp_bind, Wp_kdTup hv, Wp_bind, Wp_truthB]
    cases hv with
    | tup hall =>
      rename_i l
      show Wp (bLen (.tup l) >>= _) σ _
      rw [Wp_bind, Wp_lenTup, Wp_bind, eq_ints, Wp_bind, Wp_truthB]
      cases l with
      | nil => exact no σ Le.refl.ex rfl
      | cons x r =>
        have hx := hall x (List.mem_cons_self ..)
        rw [len_zero, cond_false, Wp_bind, Wp_item0, Wp_bind, Wp_kdStrV hx, Wp_bind, Wp_truthB]
        cases hs : isStrV x with
        | false => exact no σ Le.refl.ex (form_head hs)
        | true =>
          cases x with
          | str w =>
            show Wp (L_good_t1 d (.tup (.str w :: r)) (.int ((n + 1 : Nat) : Int)) (.ref sn)) σ _
            unfold L_good_t1
            obtain ⟨T, hT, hc, hm, hl⟩ := S.ex
            have hsl : (16777216 : Nat) = sizeLine := rfl
            have hszv := sz_pos (.tup (.str w :: r))
            rw [Wp_bind, Wp_itemD hT (show keyOf (.int (-1)) = some (.inl (-1)) from rfl) hc, Wp_bind, Wp_add, Wp_bind, Wp_setD hT hs0 (show keyOf (.int (-1)) = some (.inl (-1)) from rfl) (by (first | lia | omega))]
            have hx1 : LeEx [sn] σ (σ.set sn (.dict (dSet T (.inl (-1)) (.int ((c : Int) + 1))))) := LeEx.set (List.mem_singleton.mpr rfl)
            have hY : ∀ n ∈ [sn], n ∈ X := fun n hn => by rw [List.mem_singleton.mp hn]; exact S.mem
            have S1 : Sn (σ.set sn (.dict (dSet T (.inl (-1)) (.int ((c : Int) + 1))))) sn X m (c + 1) b := by
              refine ⟨S.mem, _, set_get hT, ?_, fun i hi => ?_, by rw [dSet_there hc]; exact hl⟩
              · rw [dGet_dSet, if_pos rfl]
                show some (V.int ((c : Int) + 1)) = some (V.int ((c + 1 : Nat) : Int))
                congr 2
              · rw [dGet_dSet, if_neg (fun e => by have := Sum.inl.inj e; (first | lia | omega))]
                exact (hm i hi).le hx1 hY
            have hkp : Kp σ (σ.set sn (.dict (dSet T (.inl (-1)) (.int ((c : Int) + 1))))) := kp_ex hx1 hT
            have hlen1 : (σ.set sn (.dict (dSet T (.inl (-1)) (.int ((c : Int) + 1))))).length = σ.length := List.length_set ..
            generalize σ.set sn (.dict (dSet T (.inl (-1)) (.int ((c : Int) + 1)))) = σ₁ at hx1 S1 hkp hlen1 ⊢
            rw [Wp_bind, Wp_item0, Wp_bind, eq_str, Wp_bind, Wp_truthB]
            cases h1 : (w == Str.ofString "number") with
            | true =>
              rw [if_pos rfl, Wp_bind, Wp_lenTup, Wp_bind, eq_ints, Wp_pure]
              have hf : formB (n + 1) (.tup (.str w :: r)) = (((r.length + 1 : Nat) : Int) == 1) := by rw [beq_iff_eq.mp h1, form_num]
              refine ⟨hx1, ?_⟩
              by_cases hr : r = []
              · subst hr
                refine .inl ⟨m, hf, rfl, rfl, ?_⟩
                exact S1.le (Y := []) Le.refl.ex (fun _ hn => nomatch hn) (fun hn => nomatch hn) (by (first | lia | omega))
              · have hne : (((r.length + 1 : Nat) : Int) == 1) = false := beq_false_of_ne (by have := List.length_pos_iff.mpr hr; (first | lia | omega))
                refine .inr ⟨?_, fun h => by rw [hf, hne] at h; cases h⟩
                show V.bool (((r.length + 1 : Nat) : Int) == 1) = _
                rw [hne]
            | false =>
              rw [if_neg (by decide)]
              unfold L_good_t2
              rw [Wp_bind, Wp_item0, Wp_bind, eq_str, Wp_bind, Wp_truthB]
              cases h2 : (w == Str.ofString "blank") with
              | true =>
                have hw := beq_iff_eq.mp h2
                subst hw
                rw [if_pos rfl, Wp_bind, Wp_lenTup, Wp_bind, eq_ints, Wp_bind, Wp_truthB]
                by_cases hlr : r.length = 1
                · match r, hlr with
                  | [y], _ =>
                    show Wp (item (.tup [_, y]) (.int 1) >>= _) σ₁ _
                    rw [Wp_bind, Wp_item1]
                    obtain ⟨d, rfl⟩ : ∃ e, d = e + 1 := ⟨d - 1, by (first | lia | omega)⟩
                    refine Wp_bind.mpr ((lnumber_ok ((hall y (List.mem_cons_of_mem _ (List.mem_singleton.mpr rfl))).kp hkp)).mono fun q σ₂ h => ?_)
                    obtain ⟨hle2, rfl⟩ := h
                    rw [Wp_bind, Wp_truthB]
                    cases hcn : countB y with
                    | false => exact no σ₂ (hx1.trans hle2.ex) (by rw [form_blank]; exact hcn)
                    | true =>
                      cases y with
                      | int j =>
                        have hj : 0 ≤ j := of_decide_eq_true hcn
                        rw [cond_true, Wp_bind, Wp_item1]
                        have S2 : Sn σ₂ sn X m (c + 1) b := S1.le (Y := []) hle2.ex (fun _ hn => nomatch hn) (fun hn => nomatch hn) (Nat.le_refl _)
                        refine Wp_bind.mpr ((lblank_ok (d := d) (L := none) (x := .none) hs0 hj S2 (by (first | lia | omega)) rfl).mono fun q σ₃ h => ?_)
                        obtain ⟨hle3, h⟩ := h
                        rw [Wp_pure]
                        have hev : foldE m (ev2 (n + 1) (.tup [.str (Str.ofString "blank"), .int j])) = stepE m (j, none) := by
                          show (stepE m (j, none)).bind (fun m' => foldE m' []) = _
                          cases stepE m (j, none) <;> rfl
                        refine ⟨(hx1.trans hle2.ex).trans hle3, ?_⟩
                        rw [hev]
                        rcases h with ⟨m', e1, rfl, S'⟩ | ⟨e1, rfl⟩
                        · refine .inl ⟨m', by rw [form_blank]; exact hcn, e1, rfl, ?_⟩
                          exact S'.le (Y := []) Le.refl.ex (fun _ hn => nomatch hn) (fun hn => nomatch hn) (show b + 1 ≤ b + (1 + (1 + (1 + 0))) by (first | lia | omega))
                        · exact .inr ⟨rfl, fun _ => e1⟩
                      | _ => cases hcn
                · have : (((V.str (Str.ofString "blank") :: r).length : Int) == 2) = false := beq_false_of_ne (by simp only [List.length_cons]; (first | lia | omega))
                  rw [this]
                  refine no σ₁ hx1 ?_
                  rw [form_blank]
                  match r, hlr with
                  | [], _ => rfl
                  | _ :: _ :: _, _ => rfl
              | false =>
                rw [if_neg (by decide)]
                unfold L_good_t3
                rw [Wp_bind, Wp_item0, Wp_bind, ne_str, Wp_bind, Wp_truthB]
                cases h3 : (w == Str.ofString "record") with
                | false => exact no σ₁ hx1 (form_other h1 h2 h3)
                | true =>
                  have hw := beq_iff_eq.mp h3
                  subst hw
                  show Wp (bLen (.tup (.str (Str.ofString "record") :: r)) >>= _) σ₁ _
                  rw [Wp_bind, Wp_lenTup, Wp_bind, ne_ints, Wp_bind, Wp_truthB]
                  by_cases hlr : r.length = 2
                  · match r, hlr with
                    | [f, t], _ =>
                      show Wp (item (.tup [_, f, t]) (.int 1) >>= _) σ₁ _
                      have hf := (hall f (List.mem_cons_of_mem _ (List.mem_cons_self ..))).kp hkp
                      have ht := (hall t (List.mem_cons_of_mem _ (List.mem_cons_of_mem _ (List.mem_singleton.mpr rfl)))).kp hkp
                      rw [Wp_bind, Wp_item1, Wp_bind, Wp_kdTup hf, Wp_bind, Wp_truthB]
                      cases f with
                      | tup fs =>
                        show Wp (L_good_t4 d (.tup [.str (Str.ofString "record"), .tup fs, t]) (.int ((n + 1 : Nat) : Int)) (.ref sn)) σ₁ _
                        have hsz : sz (.tup [.str (Str.ofString "record"), .tup fs, t]) = 3 + szs fs + sz t := by
                          rw [sz_tup, szs_cons, szs_cons, szs_cons, sz_tup]
                          show 1 + (1 + (1 + szs fs + (sz t + 0))) = _
                          (first | lia | omega)
                        have hst := sz_pos t
                        rw [hsz] at hb
                        refine (goodRec_ok (n := n) (d := d) hs0 S.mem (by (first | lia | omega)) (fun v σ m c b X h1 h2 h3 h4 => ih d v σ m c b X h1 h2 h3 h4 (by (first | lia | omega))) hf ht S1 (by (first | lia | omega)) (fun r hr => by rw [hlen1]; exact hX r hr)).mono fun q σ₂ h => ?_
                        obtain ⟨hle2, h⟩ := h
                        refine ⟨hx1.trans hle2, ?_⟩
                        have hfr : formB (n + 1) (.tup [.str (Str.ofString "record"), .tup fs, t]) = rowB n (.tup fs) t := by rw [form_rec]
                        have hev : ev2 (n + 1) (.tup [.str (Str.ofString "record"), .tup fs, t]) = evF n fs ++ endE t (fs.map fstS) := rfl
                        rw [hfr, hev, hsz]
                        rcases h with ⟨m', e1, e2, rfl, S'⟩ | ⟨rfl, e1⟩
                        · refine .inl ⟨m', e1, e2, rfl, ?_⟩
                          have hk : c + kn (n + 1) (.tup [.str (Str.ofString "record"), .tup fs, t]) = c + 1 + knF n fs := by
                            show c + (1 + knF n fs) = _
                            (first | lia | omega)
                          rw [hk]
                          exact S'.le (Y := []) Le.refl.ex (fun _ hn => nomatch hn) (fun hn => nomatch hn) (by (first | lia | omega))
                        · exact .inr ⟨rfl, e1⟩
                      | _ => exact no σ₁ hx1 (by rw [form_rec]; rfl)
                  · have : (((V.str (Str.ofString "record") :: r).length : Int) == 3) = false := beq_false_of_ne (by simp only [List.length_cons]; (first | lia | omega))
                    rw [this]
                    refine no σ₁ hx1 ?_
                    rw [form_rec]
                    match r, hlr with
                    | [], _ => rfl
                    | [_], _ => rfl
                    | _ :: _ :: _ :: _, _ => rfl
          | _ => cases hs
    | _ => exact no σ Le.refl.ex rfl

theorem due_ok {d : Nat} {v : V} {σ : Store} (hd : 40 ≤ d) (hv : Dat σ v) (hz : sz v ≤ 10000000) (h0 : 0 < σ.length) : Wp (cl02 d "_law_due" [v]) σ (fun r σ' => Le σ σ' ∧ r = .bool (kindB v)) := by
  obtain ⟨d, rfl⟩ : ∃ e, d = e + 1 := ⟨d - 1, by (first | lia | omega)⟩
  rw [L_due_sh, Wp_bind, Wp_newO]
  have hD := get_new (σ := σ) (o := .dict [(.inl (-1), V.int 0)])
  have hle : Le σ (σ ++ [O.dict [(.inl (-1), V.int 0)]]) := Le.append
  have hln : (σ ++ [O.dict [(.inl (-1), V.int 0)]]).length = σ.length + 1 := by simp
  generalize σ ++ [O.dict [(.inl (-1), V.int 0)]] = σ₁ at hD hle hln ⊢
  have S : Sn σ₁ σ.length [σ.length] (fun _ => none) 0 1 := by
    refine ⟨List.mem_singleton.mpr rfl, _, hD, rfl, fun i hi => ?_, Nat.le_refl _⟩
    show dGet [(.inl (-1), V.int 0)] (.inl i) = none
    have : ¬ (Sum.inl (-1) : Key) = .inl i := fun e => by have := Sum.inl.inj e; (first | lia | omega)
    unfold dGet
    simp [this]
  refine Wp_bind.mpr ((good_ok h0 12 d v σ₁ _ 0 1 [σ.length] (hv.kp hle.kp) S (by (first | lia | omega)) (fun r hr => by rw [List.mem_singleton.mp hr]; (first | lia | omega)) (by (first | lia | omega))).mono fun r σ₂ h => ?_)
  obtain ⟨hle2, h⟩ := h
  have hle' : Le σ σ₂ := fun k o e => hle2 _ _ (fun hm => by have := List.mem_singleton.mp hm; have := lt_of_get e; (first | lia | omega)) (hle _ _ e)
  unfold kindB
  rcases h with ⟨m', hf, hfold, rfl, S'⟩ | ⟨rfl, hno⟩
  · obtain ⟨T, hT, hc, _⟩ := S'.ex
    rw [Wp_bind, Wp_truthB, cond_true, Wp_bind, Wp_itemD hT (show keyOf (.int (-1)) = some (.inl (-1)) from rfl) hc, Wp_bind, Wp_le, Wp_pure, hf, hfold]
    refine ⟨hle', ?_⟩
    congr 1
    rw [Nat.zero_add]
    by_cases h : kn 12 v ≤ 200
    · rw [decide_eq_true h, decide_eq_true (by (first | lia | omega))]; rfl
    · rw [decide_eq_false h, decide_eq_false (by (first | lia | omega))]; rfl
  · rw [Wp_bind, Wp_truthB, cond_false, Wp_pure]
    refine ⟨hle', ?_⟩
    congr 1
    cases hf : formB 12 v with
    | false => rfl
    | true => rw [hno hf]; simp
end Mine

namespace Mine
open PySem PyProof.Rows

theorem strs_all : ∀ ss : List Str, allStrs (ss.map V.str) = some ss
  | [] => rfl
  | s :: r => by
    show (allStrs (r.map V.str)).map (s :: ·) = _
    rw [strs_all r]; rfl

inductive IsK : Nat → V → Prop
  | num {n : Nat} : IsK (n + 1) (.tup [.str (Str.ofString "number")])
  | blank {n : Nat} (i : Int) : IsK (n + 1) (.tup [.str (Str.ofString "blank"), .int i])
  | rcd {n : Nat} (fs : List (Str × V)) (r : V) : fs.length ≤ 3 → (∀ p ∈ fs, IsK n p.2) → (r = .none ∨ ∃ i, r = .int i) → IsK (n + 1) (.tup [.str (Str.ofString "record"), .tup (fs.map pairV), r])
theorem sub_len {α : Type} [BEq α] [LawfulBEq α] : ∀ (l m : List α), l.Nodup → (∀ x ∈ l, x ∈ m) → l.length ≤ m.length
  | [], m, _, _ => Nat.zero_le _
  | x :: l, m, hn, hs => by
    have hx := hs x (List.mem_cons_self ..)
    have hn' := List.nodup_cons.mp hn
    have := sub_len l (m.erase x) hn'.2 fun y hy => by
      refine (List.mem_erase_of_ne fun e => ?_).mpr (hs y (List.mem_cons_of_mem _ hy))
      exact hn'.1 (e ▸ hy)
    rw [List.length_erase_of_mem hx] at this
    have := List.length_pos_of_mem hx
    rw [List.length_cons]; (first | lia | omega)
theorem words_same {σ : Store} {a : Nat} {x : List Str} (ha : σ[a]? = some (.list (x.map V.str))) : veq σ (.ref a) (.ref a) = some true := by
  rw [words_veq ha ha, decide_eq_true rfl]
theorem vin_words {σ : Store} {w : Nat} {x : List Str} (hw : σ[w]? = some (.list (x.map V.str))) : ∀ ms : List Nat, (∀ m ∈ ms, ∃ ws : List Str, σ[m]? = some (.list (ws.map V.str))) → ∃ c, vin σ (.ref w) (ms.map V.ref) = some c ∧ (w ∈ ms → c = true)
  | [], _ => ⟨false, rfl, fun h => nomatch h⟩
  | m :: r, h => by
    obtain ⟨ws, hm⟩ := h m (List.mem_cons_self ..)
    obtain ⟨c, h1, h2⟩ := vin_words hw r fun y hy => h y (List.mem_cons_of_mem _ hy)
    have e : vin σ (.ref w) ((m :: r).map V.ref) = (match veq σ (.ref m) (.ref w), vin σ (.ref w) (r.map V.ref) with | some e, some t => some (e || t) | _, _ => none) := rfl
    rw [words_veq hm hw, h1] at e
    refine ⟨_, e, fun hmem => ?_⟩
    rcases List.mem_cons.mp hmem with rfl | hmem
    · have := words_same hw
      rw [words_veq hm hw] at this
      rw [Option.some.inj this]; rfl
    · rw [h2 hmem, Bool.or_true]
theorem vidx_some {σ : Store} {x : V} : ∀ (l : List V) (i : Nat), vin σ x l = some true → ∃ k, vidx σ x l i = some k
  | [], i, h => by cases h
  | y :: r, i, h => by
    have h : (match veq σ y x, vin σ x r with | some e, some t => some (e || t) | _, _ => none) = some true := h
    show ∃ k, (match veq σ y x with | some true => some i | some false => vidx σ x r (i + 1) | none => none) = some k
    cases e1 : veq σ y x with
    | none => rw [e1] at h; cases h
    | some b =>
      cases e2 : vin σ x r with
      | none => rw [e1, e2] at h; cases h
      | some t =>
        rw [e1, e2] at h
        cases b with
        | true => exact ⟨i, rfl⟩
        | false =>
          have ht : t = true := by simpa using h
          subst ht
          exact vidx_some r (i + 1) e2
theorem vin_strs {σ : Store} {s : Str} : ∀ ss : List Str, vin σ (.str s) (ss.map V.str) = some (decide (s ∈ ss))
  | [] => rfl
  | y :: r => by
    show (match veq σ (.str y) (.str s), vin σ (.str s) (r.map V.str) with | some e, some t => some (e || t) | _, _ => none) = _
    rw [vin_strs r, show veq σ (.str y) (.str s) = some (y == s) from rfl]
    show some _ = some _
    congr 1
    by_cases h : s = y
    · subst h; simp
    · have : (y == s) = false := beq_false_of_ne fun e => h e.symm
      rw [this]; simp [h]

/-- the state, the labels, what is met -/
structure Gk (B : Nat) (σ : Store) (st lb mt ml : Nat) (ls : List Str) : Prop where
  st0 : 0 < st
  ml0 : 0 < ml
  n1 : lb ≠ st
  n2 : mt ≠ st
  n3 : st ≠ ml
  n4 : lb ≠ ml
  n5 : mt ≠ ml
  lab : σ[lb]? = some (.list (ls.map V.str))
  four : ls.length = 4
  nd : ls.Nodup
  small : B ≤ 1000
  met : ∃ q : Int, Small q ∧ σ[mt]? = some (.list [.int q, .ref ml])
  run : ∃ (s c : Int) (ms : List Nat), σ[st]? = some (.list [.int s, .int c]) ∧ σ[ml]? = some (.list (ms.map V.ref)) ∧ (∀ m ∈ ms, m ≠ st ∧ m ≠ ml ∧ ∃ ws : List Str, σ[m]? = some (.list (ws.map V.str))) ∧ ms.length ≤ B ∧ (ms.length : Int) + c ≤ B
section
variable {B : Nat} {σ σ' : Store} {st lb mt ml : Nat} {ls : List Str}
theorem Gk.le (g : Gk B σ st lb mt ml ls) (h : Le σ σ') : Gk B σ' st lb mt ml ls where
  st0 := g.st0
  ml0 := g.ml0
  n1 := g.n1
  n2 := g.n2
  n3 := g.n3
  n4 := g.n4
  n5 := g.n5
  lab := h _ _ g.lab
  four := g.four
  nd := g.nd
  small := g.small
  met := let ⟨q, hq, e⟩ := g.met; ⟨q, hq, h _ _ e⟩
  run := let ⟨s, c, ms, e1, e2, e3, e4⟩ := g.run; ⟨s, c, ms, h _ _ e1, h _ _ e2, fun m hm => let ⟨a, b, ws, e⟩ := e3 m hm; ⟨a, b, ws, h _ _ e⟩, e4⟩
theorem Gk.up (g : Gk B σ st lb mt ml ls) {C : Nat} (h : B ≤ C) (hc : C ≤ 1000) : Gk C σ st lb mt ml ls where
  st0 := g.st0
  ml0 := g.ml0
  n1 := g.n1
  n2 := g.n2
  n3 := g.n3
  n4 := g.n4
  n5 := g.n5
  lab := g.lab
  four := g.four
  nd := g.nd
  small := hc
  met := g.met
  run := let ⟨s, c, ms, e1, e2, e3, e4, e5⟩ := g.run; ⟨s, c, ms, e1, e2, e3, by (first | lia | omega), by (first | lia | omega)⟩

theorem next_ex {d : Nat} (g : Gk B σ st lb mt ml ls) : Wp (cl02 (d + 1) "_law_next" [.ref st]) σ (fun r σ' => ∃ (z s' c : Int), r = .int z ∧ 0 ≤ z ∧ z < 2147483647 ∧ LeEx [st] σ σ' ∧ σ'[st]? = some (.list [.int s', .int c]) ∧ Gk B σ' st lb mt ml ls ∧
    (0 < c → Gk (B - 1) σ' st lb mt ml ls ∧ 1 ≤ B)) := by
  obtain ⟨s, c, ms, e1, e2, e3, e4, e5⟩ := g.run
  refine (next_ok e1 g.st0).mono fun r σ' h => ?_
  obtain ⟨z, s', rfl, h0, h1, rfl⟩ := h
  have hx : LeEx [st] σ (σ.set st (.list [.int s', .int (c - 1)])) := LeEx.set (List.mem_singleton.mpr rfl)
  have ns : ∀ {k : Nat}, k ≠ st → k ∉ [st] := fun hk hm => hk (List.mem_singleton.mp hm)
  have mk : ∀ C : Nat, C ≤ 1000 → ms.length ≤ C → (ms.length : Int) + (c - 1) ≤ C → Gk C (σ.set st (.list [.int s', .int (c - 1)])) st lb mt ml ls := fun C hC h1 h2 =>
    { st0 := g.st0, ml0 := g.ml0, n1 := g.n1, n2 := g.n2, n3 := g.n3, n4 := g.n4, n5 := g.n5, four := g.four, nd := g.nd, small := hC
      lab := hx _ _ (ns g.n1) g.lab
      met := let ⟨q, hq, e⟩ := g.met; ⟨q, hq, hx _ _ (ns g.n2) e⟩
      run := ⟨s', c - 1, ms, set_get e1, hx _ _ (ns g.n3.symm) e2, fun m hm => let ⟨a, b, ws, e⟩ := e3 m hm; ⟨a, b, ws, hx _ _ (ns a) e⟩, h1, h2⟩ }
  have hB := g.small
  refine ⟨z, s', c - 1, rfl, h0, h1, hx, set_get e1, mk B hB e4 (by (first | lia | omega)), fun hc => ⟨mk (B - 1) (by (first | lia | omega)) (by (first | lia | omega)) (by (first | lia | omega)), by (first | lia | omega)⟩⟩
end
section
variable {B : Nat} {σ σ' : Store} {st lb mt ml : Nat} {ls : List Str}

theorem at4 {z : Int} (h : ls.length = 4) : ∃ s, (ls.map V.str)[(z % 4).toNat]? = some (V.str s) := by
  have : (z % 4).toNat < ls.length := by (first | lia | omega)
  exact ⟨ls[(z % 4).toNat], by rw [List.getElem?_map, List.getElem?_eq_getElem this]; rfl⟩
theorem cut_strs (ss : List Str) (lo hi : Option Int) : ∃ ts : List Str, cut (ss.map V.str) lo hi = ts.map V.str ∧ ts.length ≤ ss.length := by
  unfold cut
  rw [List.length_map, ← List.map_drop, ← List.map_take]
  exact ⟨_, rfl, by rw [List.length_take, List.length_drop]; (first | lia | omega)⟩
theorem filter_strs (p : Str → Bool) : ∀ ss : List Str, (ss.map V.str).filterMap (fun v => match v with | .str s => if p s = true then some v else none | _ => none) = (ss.filter p).map V.str
  | [] => rfl
  | s :: r => by
    rw [List.map_cons, List.filterMap_cons, List.filter_cons]
    cases h : p s with
    | true => simp only [h, if_true]; rw [filter_strs p r]; rfl
    | false =>
      simp only [h, Bool.false_eq_true, if_false]
      exact filter_strs p r

/-- the labels that are picked, in order -/
theorem words_ok {d : Nat} {z : Int} {f : V → M V} {Q : V → Store → Prop} {v4 v5 : V} (g : Gk B σ st lb mt ml ls) (hz : 0 ≤ z)
    (k : ∀ (w p : Nat) (ws : List Str) (σ' : Store), Le σ σ' → σ.length ≤ w → σ'[w]? = some (.list (ws.map V.str)) → ws.Nodup → ws.length ≤ 3 → Wp (f (.ref w)) σ' Q) :
    ∀ (pk : Nat) (ps : List Str), ps.length ≤ 3 → σ[pk]? = some (.list (ps.map V.str)) → Wp (bSorted (.ref lb) >>= fun t91 => srcV t91 >>= fun s92 => compAll (cf02 d) (cElt L_kind_c1) (cTgt L_kind_c1) (cIfs L_kind_c1) (cScope L_kind_c1) s92 L_kind_F.names [some (.ref st), some (.ref lb), some (.ref mt), some v4, some v5, some (.ref pk), none, none, none, none, none] >>= f) σ Q := by
  intro pk ps hp3 hp
  have h4 := g.four
  have hsl : (16777216 : Nat) = sizeLine := rfl
  simp only [Wp_bind, Wp_sorted g.lab (strs_all ls) (by (first | lia | omega))]
  have hs := get_new (σ := σ) (o := .list ((sortS ls).map V.str))
  rw [Wp_srcRef hs]
  have hp' : (σ ++ [O.list ((sortS ls).map V.str)])[pk]? = some (.list (ps.map V.str)) := Le.append _ _ hp
  have hln : (σ ++ [O.list ((sortS ls).map V.str)]).length = σ.length + 1 := by simp
  have hle : Le σ (σ ++ [O.list ((sortS ls).map V.str)]) := Le.append
  generalize σ ++ [O.list ((sortS ls).map V.str)] = τ at hs hp' hln hle ⊢
  have hlen : ((sortS ls).filter fun s => decide (s ∈ ps)).length ≤ 3 := Nat.le_trans (sub_len _ ps (List.Nodup.sublist List.filter_sublist (sortS_perm.nodup_iff.mpr g.nd)) fun x hx => by simpa using (List.mem_filter.mp hx).2) hp3
  refine Wp_compPure (walks_lst fun τ' e => by rw [e]; exact hs) tgtOk_lst L_kind_c1_ok (L_kind_c1_in ..) (fun loc => ∃ o, loc = [none, o, some (.ref pk)]) ⟨_, rfl⟩ (fun v => match v with | .str s => if decide (s ∈ ps) = true then some v else none | _ => none) (fun v loc hv hS => ?_) ?_ ?_
  · obtain ⟨o, rfl⟩ := hS
    obtain ⟨s, _, rfl⟩ := List.mem_map.mp hv
    rw [L_kind_c1_bind, Wp_pure]
    refine ⟨rfl, ⟨_, rfl⟩, ?_⟩
    rw [L_kind_c1_tst]
    simp only [Wp_bind, Wp_inL hp' (vin_strs ps), Wp_truthB, Wp_pure]
    refine ⟨trivial, ?_⟩
    by_cases hm : s ∈ ps
    · rw [if_pos (decide_eq_true hm), L_kind_c1_elt, Wp_pure]
      exact ⟨rfl, by simp [hm]⟩
    · rw [if_neg (by simpa using hm)]
      simp [hm]
  · rw [filter_strs]
    rw [List.length_map]; (first | lia | omega)
  · rw [filter_strs]
    refine k τ.length pk _ _ (hle.trans Le.append) (by (first | lia | omega)) get_new ?_ hlen
    exact List.Nodup.sublist List.filter_sublist (sortS_perm.nodup_iff.mpr g.nd)
end
section
variable {B : Nat} {σ σ' : Store} {st lb mt ml : Nat} {ls : List Str}

theorem Wp_sliceRef {Q : V → Store → Prop} {lo hi : Option Int} {n : Nat} {l : List V} (h : σ[n]? = some (.list l)) : Wp (sliceV lo hi (.ref n)) σ Q ↔ Q (.ref σ.length) (σ ++ [.list (cut l lo hi)]) := Wp_ok (by
  show (getList n >>= fun l => newO (.list (cut l lo hi))) σ = _
  rw [bind_ok (getList_at h)]; rfl)

/-- the end of a kind: its rest's number -/
theorem rest_ok {d w : Nat} {ws : List Str} {fs : List (Str × V)} {n : Nat} {v4 v5 v6 : V} (g : Gk B σ st lb mt ml ls) (hB : B + 1 ≤ 1000) (hw : σ[w]? = some (.list (ws.map V.str))) (hws : w ≠ st ∧ w ≠ ml)
    (hf : fs.map (·.1) = ws) (hn : ws.Nodup) (h4 : ws.length ≤ 3) (hk : ∀ p ∈ fs, IsK n p.2) :
    Wp (L_kind_t3 d (.ref st) (.ref lb) (.ref mt) v4 v5 v6 (.ref w) (.tup (fs.map pairV))) σ (fun r σ' => LeEx [st, ml] σ σ' ∧ Gk (B + 1) σ' st lb mt ml ls ∧ IsK (n + 1) r) := by
  have hfin : ∀ (i : Int), IsK (n + 1) (.tup [.str (Str.ofString "record"), .tup (fs.map pairV), .int i]) := fun i => .rcd fs _ (by have := congrArg List.length hf; rw [List.length_map] at this; (first | lia | omega)) hk (.inr ⟨i, rfl⟩)
  have hsl : (16777216 : Nat) = sizeLine := rfl
  obtain ⟨q, hq, hmt⟩ := g.met
  -- the last step, the words being met
  have last : ∀ (τ : Store) (ms : List Nat), LeEx [st, ml] σ τ → Gk (B + 1) τ st lb mt ml ls → τ[mt]? = some (.list [.int q, .ref ml]) → τ[ml]? = some (.list (ms.map V.ref)) → vin τ (.ref w) (ms.map V.ref) = some true →
      Wp (L_kind_t4 d (.ref st) (.ref lb) (.ref mt) v4 v5 v6 (.ref w) (.tup (fs.map pairV))) τ (fun r σ' => LeEx [st, ml] σ σ' ∧ Gk (B + 1) σ' st lb mt ml ls ∧ IsK (n + 1) r) := by
    intro τ ms hle hg hm hml hv
    obtain ⟨k, hk⟩ := vidx_some _ 0 hv
    unfold L_kind_t4
    simp only [Wp_bind, Wp_itemRef hm (show (0 : Int) ≤ 0 by decide) (show ([V.int q, V.ref ml])[(0 : Int).toNat]? = some (.int q) from rfl), Wp_itemRef hm (show (0 : Int) ≤ 1 by decide) (show ([V.int q, V.ref ml])[(1 : Int).toNat]? = some (.ref ml) from rfl), Wp_mtagI hml, Wp_index hml hv hk, Wp_mul (a := 2) (.inl (by decide)), Wp_add, Wp_mul (a := q) (.inl hq), Wp_pure]
    exact ⟨hle, hg, hfin _⟩
  obtain ⟨s, c, ms, e1, e2, e3, e4, e5⟩ := g.run
  obtain ⟨b, hb, _⟩ := vin_words hw ms fun m hm => (e3 m hm).2.2
  unfold L_kind_t3
  simp only [Wp_bind, Wp_itemRef hmt (show (0 : Int) ≤ 1 by decide) (show ([V.int q, V.ref ml])[(1 : Int).toNat]? = some (.ref ml) from rfl), Wp_notInL e2 hb, Wp_truthB]
  cases b with
  | true =>
    rw [if_neg (by decide)]
    exact last σ ms (Le.refl.ex) (g.up (by (first | lia | omega)) hB) hmt e2 hb
  | false =>
    rw [if_pos (by decide)]
    have hlt : (ms.map V.ref).length < sizeLine := by rw [List.length_map]; have := g.small; (first | lia | omega)
    simp only [Wp_bind, Wp_itemRef hmt (show (0 : Int) ≤ 1 by decide) (show ([V.int q, V.ref ml])[(1 : Int).toNat]? = some (.ref ml) from rfl), Wp_mtag e2, Wp_append e2 g.ml0 hlt]
    have hx : LeEx [ml] σ (σ.set ml (.list (ms.map V.ref ++ [.ref w]))) := LeEx.set (List.mem_singleton.mpr rfl)
    have nm : ∀ {k : Nat}, k ≠ ml → k ∉ [ml] := fun hk hm => hk (List.mem_singleton.mp hm)
    have hml : (σ.set ml (.list (ms.map V.ref ++ [.ref w])))[ml]? = some (.list ((ms ++ [w]).map V.ref)) := by rw [set_get e2, List.map_append]; rfl
    have hall : ∀ m ∈ ms ++ [w], m ≠ st ∧ m ≠ ml ∧ ∃ ws : List Str, (σ.set ml (.list (ms.map V.ref ++ [.ref w])))[m]? = some (.list (ws.map V.str)) := fun m hm => by
      rcases List.mem_append.mp hm with hm | hm
      · obtain ⟨a, b, ws', e⟩ := e3 m hm
        exact ⟨a, b, ws', hx _ _ (nm b) e⟩
      · rw [List.mem_singleton.mp hm]
        exact ⟨hws.1, hws.2, ws, hx _ _ (nm hws.2) hw⟩
    obtain ⟨b', hb', ht⟩ := vin_words (hx _ _ (nm hws.2) hw) (ms ++ [w]) fun m hm => (hall m hm).2.2
    have ht := ht (List.mem_append_right _ (List.mem_singleton.mpr rfl))
    subst ht
    refine last _ (ms ++ [w]) (hx.mono fun n hn => by rw [List.mem_singleton.mp hn]; exact List.mem_cons_of_mem _ (List.mem_singleton.mpr rfl)) ?_ (hx _ _ (nm g.n5) hmt) hml hb'
    exact {
      st0 := g.st0, ml0 := g.ml0, n1 := g.n1, n2 := g.n2, n3 := g.n3, n4 := g.n4, n5 := g.n5, four := g.four, nd := g.nd, small := hB
      lab := hx _ _ (nm g.n4) g.lab
      met := ⟨q, hq, hx _ _ (nm g.n5) hmt⟩
      run := ⟨s, c, ms ++ [w], hx _ _ (nm g.n3) e1, hml, hall, by simp; (first | lia | omega), by simp; (first | lia | omega)⟩ }

theorem kind_ok : ∀ (n d B : Nat) (σ : Store), n + 2 ≤ d → Gk B σ st lb mt ml ls → Wp (cl02 d "_law_kind" [.ref st, .ref lb, .ref mt, .int ((n : Int) + 1)]) σ (fun r σ' => LeEx [st, ml] σ σ' ∧ Gk B σ' st lb mt ml ls ∧ IsK (n + 1) r) := by
  intro n
  induction n with
  | zero =>
    intro d B σ hd g
    obtain ⟨d, rfl⟩ : ∃ e, d = e + 2 := ⟨d - 2, by (first | lia | omega)⟩
    rw [L_kind_sh]
    refine Wp_bind.mpr ((next_ex g).mono fun r σ₁ h => ?_)
    obtain ⟨z, s', c, rfl, h0, h1, hx, hst, g₁, hc⟩ := h
    simp only [Wp_bind, Wp_le, Wp_truthB]
    rw [decide_eq_true (by (first | lia | omega)), cond_true, Wp_pure]
    exact ⟨hx.mono fun n hn => by rw [List.mem_singleton.mp hn]; exact List.mem_cons_self .., g₁, .num⟩
  | succ n ih =>
    intro d B σ hd g
    obtain ⟨d, rfl⟩ : ∃ e, d = e + 2 := ⟨d - 2, by (first | lia | omega)⟩
    rw [L_kind_sh]
    refine Wp_bind.mpr ((next_ex g).mono fun r σ₁ h => ?_)
    obtain ⟨z, s', c, rfl, h0, h1, hx, hst, g₁, hc⟩ := h
    have hx : LeEx [st, ml] σ σ₁ := hx.mono fun n hn => by rw [List.mem_singleton.mp hn]; exact List.mem_cons_self ..
    simp only [Wp_bind, Wp_le, Wp_truthB]
    rw [decide_eq_false (by (first | lia | omega)), cond_false]
    simp only [Wp_bind, Wp_itemRef hst (show (0 : Int) ≤ 1 by decide) (show ([V.int s', V.int c])[(1 : Int).toNat]? = some (.int c) from rfl), Wp_le, Wp_truthB]
    by_cases hc0 : c ≤ 0
    · rw [decide_eq_true hc0, cond_true, Wp_pure]
      exact ⟨hx, g₁, .num⟩
    rw [decide_eq_false hc0, cond_false]
    obtain ⟨g₂, hB1⟩ := hc (by (first | lia | omega))
    simp only [Wp_bind, Wp_mod (b := 7) (by decide) (by decide), Wp_lt, Wp_truthB]
    by_cases h2 : z % 7 < 2
    · rw [decide_eq_true h2, cond_true, Wp_pure]
      exact ⟨hx, g₁, .num⟩
    rw [decide_eq_false h2, cond_false]
    unfold L_kind_t1
    obtain ⟨q, hq, hmt⟩ := g₁.met
    simp only [Wp_bind, Wp_mod (b := 7) (by decide) (by decide), eq_ints, Wp_truthB]
    by_cases h3 : z % 7 = 2
    · rw [h3, if_pos (by decide)]
      simp only [Wp_bind, Wp_itemRef hmt (show (0 : Int) ≤ 0 by decide) (show ([V.int q, V.ref ml])[(0 : Int).toNat]? = some (.int q) from rfl), Wp_mul (b := 2) (.inr (by decide)), Wp_div (b := 7) (by decide) (by decide), Wp_mod (b := 3) (by decide) (by decide), Wp_mul (b := z / 7 % 3) (.inr (by unfold Small; (first | lia | omega))), Wp_pure]
      exact ⟨hx, g₁, .blank _⟩
    rw [if_neg (by simpa using h3)]
    unfold L_kind_t2
    obtain ⟨l1, hl1⟩ := at4 (z := z / 7) g₁.four
    obtain ⟨l2, hl2⟩ := at4 (z := z / 28) g₁.four
    obtain ⟨l3, hl3⟩ := at4 (z := z / 112) g₁.four
    simp only [Wp_bind, Wp_div (b := 7) (by decide) (by decide), Wp_div (b := 28) (by decide) (by decide), Wp_div (b := 112) (by decide) (by decide), Wp_div (b := 448) (by decide) (by decide), Wp_mod (b := 4) (by decide) (by decide),
      Wp_itemRef g₁.lab (show 0 ≤ z / 7 % 4 by (first | lia | omega)) hl1, Wp_itemRef g₁.lab (show 0 ≤ z / 28 % 4 by (first | lia | omega)) hl2, Wp_itemRef g₁.lab (show 0 ≤ z / 112 % 4 by (first | lia | omega)) hl3, Wp_newO, Wp_boundNone, Wp_boundInt,
      Wp_sliceRef (get_new (σ := σ₁) (o := .list [V.str l1, V.str l2, V.str l3]))]
    obtain ⟨ps, hps, hps3⟩ := cut_strs [l1, l2, l3] none (some (z / 448 % 4))
    rw [show [V.str l1, V.str l2, V.str l3] = [l1, l2, l3].map V.str from rfl, hps]
    have hpk : (σ₁ ++ [O.list ([l1, l2, l3].map V.str)] ++ [O.list (ps.map V.str)])[(σ₁ ++ [O.list ([l1, l2, l3].map V.str)]).length]? = some (.list (ps.map V.str)) := get_new
    have hle2 : Le σ₁ (σ₁ ++ [O.list ([l1, l2, l3].map V.str)] ++ [O.list (ps.map V.str)]) := Le.append.trans Le.append
    generalize (σ₁ ++ [O.list ([l1, l2, l3].map V.str)]).length = pk at hpk ⊢
    generalize σ₁ ++ [O.list ([l1, l2, l3].map V.str)] ++ [O.list (ps.map V.str)] = σ₂ at hpk hle2 ⊢
    have g₃ : Gk (B - 1) σ₂ st lb mt ml ls := g₂.le hle2
    have hw := words_ok (d := d + 1) (z := z) (v4 := .int (((n + 1 : Nat) : Int) + 1)) (v5 := .int z) (Q := fun r σ' => LeEx [st, ml] σ σ' ∧ Gk B σ' st lb mt ml ls ∧ IsK (n + 1 + 1) r) g₃ h0 (f := fun t90 => srcV t90 >>= fun s96 => (compAll (cf02 (d + 1)) (cElt L_kind_c2) (cTgt L_kind_c2) (cIfs L_kind_c2) (cScope L_kind_c2) s96 L_kind_F.names [some (.ref st), some (.ref lb), some (.ref mt), some (.int (((n + 1 : Nat) : Int) + 1)), some (.int z), some (.ref pk), some t90, none, none, none, none] >>= fun t95 => (bTuple t95 >>= fun t97 => (binop .FloorDiv (.int z) (V.int 1792) >>= fun t111 => (binop .Mod t111 (V.int 2) >>= fun t112 => (cmp .Eq t112 (V.int 0) >>= fun t113 => (truth t113 >>= fun b114 => (if b114 = true then (pure (V.tup [(V.str (Str.ofString "record")), t97, V.none]) : M V) else (L_kind_t3 (d + 1) (.ref st) (.ref lb) (.ref mt) (.int (((n + 1 : Nat) : Int) + 1)) (.int z) (.ref pk) t90 t97))))))))) (fun w p ws σ₃ hle3 hwl hwg hwn hw4 => ?_) pk ps hps3 hpk
    · simp only [Wp_bind] at hw
      exact hw
    have g₄ : Gk (B - 1) σ₃ st lb mt ml ls := g₃.le hle3
    obtain ⟨s3, c3, ms3, r1, r2, r3, r4, r5⟩ := g₃.run
    have hwst : w ≠ st ∧ w ≠ ml := ⟨fun e => by have := lt_of_get r1; (first | lia | omega), fun e => by have := lt_of_get r2; (first | lia | omega)⟩
    have nw : w ∉ [st, ml] := fun hm => by
      rcases List.mem_cons.mp hm with e | hm
      · exact hwst.1 e
      · exact hwst.2 (List.mem_singleton.mp hm)
    have hx3 : LeEx [st, ml] σ σ₃ := hx.trans (hle2.trans hle3).ex
    have hsl : (16777216 : Nat) = sizeLine := rfl
    simp only [Wp_bind, Wp_srcRef hwg]
    refine Wp_compAll (J := fun τ => τ[w]? = some (.list (ws.map V.str))) (walks_lst fun τ h => h) tgtOk_lst L_kind_c2_ok (L_kind_c2_in ..) (fun i acc loc τ => τ[w]? = some (.list (ws.map V.str)) ∧ LeEx [st, ml] σ τ ∧ Gk (B - 1) τ st lb mt ml ls ∧ (∃ o, loc = [none, o, none, some (.ref lb), some (.int (((n + 1 : Nat) : Int) + 1)), some (.ref mt), some (.ref st)]) ∧ ∃ fs : List (Str × V), acc = fs.map pairV ∧ fs.map (·.1) = ws.take i ∧ ∀ p ∈ fs, IsK (n + 1) p.2) (fun _ _ _ _ h => h.1) ⟨hwg, hx3, g₄, ⟨_, rfl⟩, [], rfl, rfl, by simp⟩ (fun i v acc loc τ hv hp => ?_) fun out loc τ hp => ?_
    · obtain ⟨hwt, hxt, gt, ⟨o, rfl⟩, fs, rfl, hfw, hfk⟩ := hp
      rw [List.getElem?_map] at hv
      obtain ⟨s, hs, rfl⟩ := Option.map_eq_some_iff.mp hv
      rw [L_kind_c2_bind, Wp_pure, L_kind_c2_tst, Wp_pure, if_pos rfl, L_kind_c2_elt]
      simp only [Wp_bind, Wp_sub]
      have e : ((n + 1 : Nat) : Int) + 1 - 1 = (n : Int) + 1 := by (first | lia | omega)
      rw [e]
      refine (ih (d + 1) (B - 1) τ (by (first | lia | omega)) gt).mono fun r τ' h => ?_
      obtain ⟨hxt', gt', hk⟩ := h
      rw [Wp_pure]
      refine ⟨hxt' _ _ nw hwt, hxt.trans hxt', gt', ⟨_, rfl⟩, fs ++ [(s, r)], by rw [List.map_append]; rfl, ?_, fun p hp => ?_⟩
      · rw [List.map_append, hfw, List.take_add_one, hs]; rfl
      · rcases List.mem_append.mp hp with hp | hp
        · exact hfk p hp
        · rw [List.mem_singleton.mp hp]; exact hk
    · obtain ⟨hwt, hxt, gt, _, fs, rfl, hfw, hfk⟩ := hp
      rw [List.length_map, List.take_length] at hfw
      have hfl : fs.length = ws.length := by rw [← hfw, List.length_map]
      refine ⟨by rw [List.length_map]; (first | lia | omega), ?_⟩
      simp only [Wp_tupleRef (get_new (σ := τ) (o := .list (fs.map pairV))), Wp_div (b := 1792) (by decide) (by decide), Wp_mod (b := 2) (by decide) (by decide), eq_ints, Wp_truthB]
      have gt' : Gk (B - 1) (τ ++ [O.list (fs.map pairV)]) st lb mt ml ls := gt.le Le.append
      have hxt' : LeEx [st, ml] σ (τ ++ [O.list (fs.map pairV)]) := hxt.trans Le.append.ex
      have hb := g.small
      split
      · rw [Wp_pure]
        exact ⟨hxt', gt'.up (by (first | lia | omega)) hb, .rcd fs _ (by (first | lia | omega)) hfk (.inl rfl)⟩
      · refine (rest_ok (n := n + 1) gt' (by (first | lia | omega)) (Le.append _ _ hwt) hwst hfw hwn hw4 hfk).mono fun r σ' h => ?_
        obtain ⟨h1, h2, h3⟩ := h
        exact ⟨hxt'.trans h1, h2.up (by (first | lia | omega)) hb, h3⟩
end
end Mine

namespace Mine
open PySem PyProof.Rows

/-! ## what a kind is -/
theorem isK_dat {σ : Store} {n : Nat} {k : V} (h : IsK n k) : Dat σ k := by
  induction h with
  | num => exact .tup fun x hx => by rw [List.mem_singleton.mp hx]; exact .str _
  | blank i =>
    refine .tup fun x hx => ?_
    rcases List.mem_cons.mp hx with rfl | hx
    · exact .str _
    · rw [List.mem_singleton.mp hx]; exact .int _
  | rcd fs r hl hf hr ih =>
    refine .tup fun x hx => ?_
    rcases List.mem_cons.mp hx with rfl | hx
    · exact .str _
    rcases List.mem_cons.mp hx with rfl | hx
    · refine .tup fun y hy => ?_
      obtain ⟨p, hp, rfl⟩ := List.mem_map.mp hy
      refine .tup fun z hz => ?_
      rcases List.mem_cons.mp hz with rfl | hz
      · exact .str _
      · rw [List.mem_singleton.mp hz]; exact ih p hp
    · rw [List.mem_singleton.mp hx]
      rcases hr with rfl | ⟨i, rfl⟩
      · exact .none
      · exact .int _
theorem isK_sz {n : Nat} {k : V} (h : IsK n k) : sz k + 5 ≤ 5 * 3 ^ n := by
  induction h with
  | @num n =>
    have := Nat.pow_pos (n := n) (show 0 < 3 by decide)
    rw [Nat.pow_succ]
    show 2 + 5 ≤ _
    (first | lia | omega)
  | @blank n i =>
    have := Nat.pow_pos (n := n) (show 0 < 3 by decide)
    rw [Nat.pow_succ]
    show 3 + 5 ≤ _
    (first | lia | omega)
  | @rcd n fs r hl hf hr ih =>
    have hr1 : sz r = 1 := by rcases hr with rfl | ⟨i, rfl⟩ <;> rfl
    rw [sz_tup, szs_cons, szs_cons, szs_cons, sz_tup, hr1]
    have hs : ∀ gs : List (Str × V), (∀ p ∈ gs, sz p.2 + 5 ≤ 5 * 3 ^ n) → szs (gs.map pairV) + 3 * gs.length ≤ gs.length * (5 * 3 ^ n) := by
      intro gs
      induction gs with
      | nil => intro _; exact Nat.zero_le _
      | cons p r ih' =>
        intro h
        have h1 := h p (List.mem_cons_self ..)
        have h2 := ih' fun q hq => h q (List.mem_cons_of_mem _ hq)
        rw [List.map_cons, szs_cons, List.length_cons, Nat.add_mul, Nat.one_mul]
        have e : sz (pairV p) = 1 + (1 + (sz p.2 + 0)) := rfl
        rw [e]; (first | lia | omega)
    have h1 := hs fs ih
    have hp := Nat.pow_pos (n := n) (show 0 < 3 by decide)
    have e0 : sz (V.str (Str.ofString "record")) = 1 := rfl
    have e1 : szs [] = 0 := rfl
    rw [e0, e1, Nat.pow_succ]
    have : fs.length = 0 ∨ fs.length = 1 ∨ fs.length = 2 ∨ fs.length = 3 := by (first | lia | omega)
    rcases this with h | h | h | h <;> rw [h] at h1 <;> (first | lia | omega)
theorem isK_data (f : Nat → Option PyData) {n : Nat} {k : V} (h : IsK n k) : ∃ d, toPyT f k = some d := by
  have two : ∀ (a b : V) (da db : PyData), toPyT f a = some da → toPyT f b = some db → toPyT f (.tup [a, b]) = some (.tuple [da, db]) := fun a b da db ha hb => by
    show (toPyTs f [a, b]).map PyData.tuple = _
    have : toPyTs f [a, b] = (match toPyT f a, toPyTs f [b] with | some d, some ds => some (d :: ds) | _, _ => none) := rfl
    have h2 : toPyTs f [b] = (match toPyT f b, toPyTs f [] with | some d, some ds => some (d :: ds) | _, _ => none) := rfl
    rw [this, h2, ha, hb]; rfl
  induction h with
  | num => exact ⟨_, rfl⟩
  | blank i => exact ⟨_, rfl⟩
  | rcd fs r hl hf hr ih =>
    have hs : ∀ gs : List (Str × V), (∀ p ∈ gs, ∃ d, toPyT f p.2 = some d) → ∃ ds, toPyTs f (gs.map pairV) = some ds := by
      intro gs
      induction gs with
      | nil => intro _; exact ⟨[], rfl⟩
      | cons p r ih' =>
        intro h
        obtain ⟨d, hd⟩ := h p (List.mem_cons_self ..)
        obtain ⟨ds, hds⟩ := ih' fun q hq => h q (List.mem_cons_of_mem _ hq)
        refine ⟨.tuple [.str p.1, d] :: ds, ?_⟩
        show (match toPyT f (pairV p), toPyTs f (r.map pairV) with | some d, some ds => some (d :: ds) | _, _ => none) = _
        rw [show toPyT f (pairV p) = some (.tuple [.str p.1, d]) from two _ _ _ _ rfl hd, hds]
    obtain ⟨ds, hds⟩ := hs fs ih
    obtain ⟨dr, hdr⟩ : ∃ dr, toPyT f r = some dr := by rcases hr with rfl | ⟨i, rfl⟩ <;> exact ⟨_, rfl⟩
    refine ⟨.tuple [.str (Str.ofString "record"), .tuple ds, dr], ?_⟩
    show (toPyTs f [.str (Str.ofString "record"), .tup (fs.map pairV), r]).map PyData.tuple = _
    have e1 : toPyTs f [.str (Str.ofString "record"), .tup (fs.map pairV), r] = (match toPyT f (.str (Str.ofString "record")), toPyTs f [.tup (fs.map pairV), r] with | some d, some ds => some (d :: ds) | _, _ => none) := rfl
    have e2 : toPyTs f [.tup (fs.map pairV), r] = (match toPyT f (.tup (fs.map pairV)), toPyTs f [r] with | some d, some ds => some (d :: ds) | _, _ => none) := rfl
    have e3 : toPyTs f [r] = (match toPyT f r, toPyTs f [] with | some d, some ds => some (d :: ds) | _, _ => none) := rfl
    have e4 : toPyT f (.tup (fs.map pairV)) = some (.tuple ds) := by show (toPyTs f _).map PyData.tuple = _; rw [hds]; rfl
    rw [e1, e2, e3, e4, hdr]; rfl
section
variable {σ : Store}
theorem eq_unit {v : V} {Q : V → Store → Prop} (h : ∃ d, toPyT (toPyF σ 4) v = some d) (q : ∀ c, (v = .tup [] → c = true) → Q (.bool c) σ) : Wp (cmp .Eq v (.tup [])) σ Q := by
  obtain ⟨d, hd⟩ := h
  have e : veq σ v (.tup []) = some (PyData.eqv d (.tuple [])) := by
    unfold veq toPy
    rw [hd]
    show (if min d.depth (PyData.tuple []).depth ≤ 200 then some (PyData.eqv d (.tuple [])) else none) = _
    rw [if_pos]
    exact Nat.le_trans (Nat.min_le_right _ _) (show 1 ≤ 200 by decide)
  refine ⟨.bool (PyData.eqv d (.tuple [])), σ, ?_, q _ fun ev => ?_⟩
  · show askS (fun σ => (veq σ v (.tup [])).map V.bool) σ = _
    unfold askS; dsimp only; rw [e]; rfl
  · subst ev
    cases hd; rfl
end
theorem cut_to {α : Type} {l : List α} {k : Int} (h0 : 0 ≤ k) (h1 : k ≤ l.length) : cut l none (some k) = l.take k.toNat := by
  unfold cut
  have e : clipAt l.length k = k.toNat := by unfold clipAt; rw [if_neg (by (first | lia | omega))]; (first | lia | omega)
  show (l.drop 0).take (clipAt l.length k - 0) = _
  rw [e]; rfl
theorem cut_from {α : Type} {l : List α} {k : Int} (h0 : 0 ≤ k) (h1 : k ≤ l.length) : cut l (some k) none = l.drop k.toNat := by
  unfold cut
  have e : clipAt l.length k = k.toNat := by unfold clipAt; rw [if_neg (by (first | lia | omega))]; (first | lia | omega)
  show (l.drop (clipAt l.length k)).take (l.length - clipAt l.length k) = _
  rw [e]
  exact List.take_of_length_le (by rw [List.length_drop]; exact Nat.le_refl _)

/-! ## odd things -/
inductive AllD (σ : Store) : List V → Prop
  | nil : AllD σ []
  | cons {x : V} {r : List V} : Dat σ x → AllD σ r → AllD σ (x :: r)
theorem AllD.dat {σ : Store} {l : List V} (h : AllD σ l) : Dat σ (.tup l) := .tup fun x hx => by
  induction h with
  | nil => cases hx
  | cons h _ ih =>
    rcases List.mem_cons.mp hx with rfl | hx
    · exact h
    · exact ih hx
noncomputable def AllT (σ : Store) (l : List V) : Prop := ∀ x ∈ l, Dat σ x ∧ sz x ≤ 60
theorem AllT.nil {σ : Store} : AllT σ [] := fun x hx => nomatch hx
theorem AllT.cons {σ : Store} {x : V} {r : List V} (h : Dat σ x) (hs : sz x ≤ 60) (hr : AllT σ r) : AllT σ (x :: r) := fun y hy => by
  rcases List.mem_cons.mp hy with rfl | hy
  · exact ⟨h, hs⟩
  · exact hr y hy
noncomputable def Od (σ : Store) (n m : Nat) : Prop := ∃ l, σ[n]? = some (.list l) ∧ 0 < l.length ∧ l.length ≤ m ∧ AllT σ l
theorem Od.le {σ σ' : Store} {n m : Nat} (h : Od σ n m) (hle : Le σ σ') : Od σ' n m :=
  let ⟨l, h1, h2, h3, h4⟩ := h; ⟨l, hle _ _ h1, h2, h3, fun x hx => ⟨(h4 x hx).1.kp hle.kp, (h4 x hx).2⟩⟩
theorem odd_add {σ : Store} {n m j : Nat} {k : List V} {f : V → M V} {Q : V → Store → Prop} (h : Od σ n m) (hk : AllT σ k) (hj : k.length = j) (hm : m + j ≤ 1000) (q : ∀ n' σ', Le σ σ' → Od σ' n' (m + j) → Wp (f (.ref n')) σ' Q) : Wp (newO (.list k) >>= fun t => binop .Add (.ref n) t >>= f) σ Q := by
  obtain ⟨l, h1, h2, h3, h4⟩ := h
  have hsl : (16777216 : Nat) = sizeLine := rfl
  rw [Wp_bind, Wp_newO, Wp_bind, Wp_addRef (Le.append _ _ h1) get_new (by (first | lia | omega))]
  have hle : Le σ (σ ++ [O.list k] ++ [O.list (l ++ k)]) := Le.append.trans Le.append
  refine q _ _ hle ⟨l ++ k, get_new, by rw [List.length_append]; (first | lia | omega), by rw [List.length_append]; (first | lia | omega), fun x hx => ?_⟩
  rcases List.mem_append.mp hx with hx | hx
  · exact ⟨(h4 x hx).1.kp hle.kp, (h4 x hx).2⟩
  · exact ⟨(hk x hx).1.kp hle.kp, (hk x hx).2⟩
theorem odd_ok {d : Nat} {σ : Store} {z : Int} : Wp (cl02 (d + 1) "_law_odd" [.int z, .tup [.str (Str.ofString "number")]]) σ (fun r σ' => Le σ σ' ∧ Dat σ' r ∧ sz r ≤ 60) := by
  rw [L_odd_sh, Wp_bind, Wp_newO, Wp_bind, Wp_newO, Wp_bind, Wp_newO]
  have ha : (σ ++ [O.list []] ++ [O.list [V.str (Str.ofString "number")]])[σ.length]? = some (.list []) := Le.append _ _ get_new
  have hb := get_new (σ := σ ++ [O.list []]) (o := O.list [V.str (Str.ofString "number")])
  have hle : Le σ (σ ++ [O.list []] ++ [O.list [V.str (Str.ofString "number")]]) := Le.append.trans Le.append
  generalize σ ++ [O.list []] ++ [O.list [V.str (Str.ofString "number")]] = σ₁ at ha hb hle ⊢
  generalize σ.length = r1 at ha ⊢
  generalize (σ ++ [O.list []]).length = r2 at hb ⊢
  have hod : ∀ k : List V, AllT σ₁ k → 0 < k.length → Od (σ₁ ++ [O.list k]) σ₁.length k.length := fun k hk h0 => ⟨k, get_new, h0, Nat.le_refl _, fun x hx => ⟨(hk x hx).1.kp Le.append.kp, (hk x hx).2⟩⟩
  have h := hod [V.none, (V.bool true), (V.int 0), (V.str (Str.ofString "number")), .ref r1, (V.tup []), (V.tup [(V.str (Str.ofString "number")), (V.int 1)]), (V.tup [(V.str (Str.ofString "number"))]), .ref r2, (V.tup [(V.str (Str.ofString "blank"))]), (V.tup [(V.str (Str.ofString "blank")), (V.int (-1))])] (by repeat (first | exact AllT.nil | exact AllD.nil | refine AllT.cons ?_ (Nat.le_of_ble_eq_true rfl) ?_ | refine AllD.cons ?_ ?_ | exact Dat.none | exact Dat.bool _ | exact Dat.int _ | exact Dat.str _ | exact Dat.lst (by assumption) | refine AllD.dat ?_)) (Nat.le_of_ble_eq_true rfl)
  have hle : Le σ (σ₁ ++ [O.list [V.none, (V.bool true), (V.int 0), (V.str (Str.ofString "number")), .ref r1, (V.tup []), (V.tup [(V.str (Str.ofString "number")), (V.int 1)]), (V.tup [(V.str (Str.ofString "number"))]), .ref r2, (V.tup [(V.str (Str.ofString "blank"))]), (V.tup [(V.str (Str.ofString "blank")), (V.int (-1))])]]) := hle.trans Le.append
  generalize σ₁ ++ [O.list [V.none, (V.bool true), (V.int 0), (V.str (Str.ofString "number")), .ref r1, (V.tup []), (V.tup [(V.str (Str.ofString "number")), (V.int 1)]), (V.tup [(V.str (Str.ofString "number"))]), .ref r2, (V.tup [(V.str (Str.ofString "blank"))]), (V.tup [(V.str (Str.ofString "blank")), (V.int (-1))])]] = σ₂ at h hle ⊢
  generalize σ₁.length = n0 at h ⊢
  clear ha hb hod
  refine odd_add h (by repeat (first | exact AllT.nil | exact AllD.nil | refine AllT.cons ?_ (Nat.le_of_ble_eq_true rfl) ?_ | refine AllD.cons ?_ ?_ | exact Dat.none | exact Dat.bool _ | exact Dat.int _ | exact Dat.str _ | exact Dat.lst (by assumption) | refine AllD.dat ?_)) rfl (Nat.le_of_ble_eq_true rfl) fun n1 σ₃ le3 h => ?_
  replace hle := hle.trans le3
  refine odd_add h (by repeat (first | exact AllT.nil | exact AllD.nil | refine AllT.cons ?_ (Nat.le_of_ble_eq_true rfl) ?_ | refine AllD.cons ?_ ?_ | exact Dat.none | exact Dat.bool _ | exact Dat.int _ | exact Dat.str _ | exact Dat.lst (by assumption) | refine AllD.dat ?_)) rfl (Nat.le_of_ble_eq_true rfl) fun n2 σ₄ le4 h => ?_
  replace hle := hle.trans le4
  rw [Wp_bind, Wp_newO]
  have hc := get_new (σ := σ₄) (o := O.list [])
  replace h := h.le (Le.append (τ := [O.list []]))
  replace hle := hle.trans (Le.append (τ := [O.list []]))
  generalize σ₄ ++ [O.list []] = σ₅ at hc h hle ⊢
  generalize σ₄.length = r3 at hc ⊢
  refine odd_add h (by repeat (first | exact AllT.nil | exact AllD.nil | refine AllT.cons ?_ (Nat.le_of_ble_eq_true rfl) ?_ | refine AllD.cons ?_ ?_ | exact Dat.none | exact Dat.bool _ | exact Dat.int _ | exact Dat.str _ | exact Dat.lst (by assumption) | refine AllD.dat ?_)) rfl (Nat.le_of_ble_eq_true rfl) fun n3 σ₆ le6 h => ?_
  replace hle := hle.trans le6
  refine odd_add h (by repeat (first | exact AllT.nil | exact AllD.nil | refine AllT.cons ?_ (Nat.le_of_ble_eq_true rfl) ?_ | refine AllD.cons ?_ ?_ | exact Dat.none | exact Dat.bool _ | exact Dat.int _ | exact Dat.str _ | exact Dat.lst (by assumption) | refine AllD.dat ?_)) rfl (Nat.le_of_ble_eq_true rfl) fun n4 σ₇ le7 h => ?_
  replace hle := hle.trans le7
  refine odd_add h (by repeat (first | exact AllT.nil | exact AllD.nil | refine AllT.cons ?_ (Nat.le_of_ble_eq_true rfl) ?_ | refine AllD.cons ?_ ?_ | exact Dat.none | exact Dat.bool _ | exact Dat.int _ | exact Dat.str _ | exact Dat.lst (by assumption) | refine AllD.dat ?_)) rfl (Nat.le_of_ble_eq_true rfl) fun n5 σ₈ le8 h => ?_
  replace hle := hle.trans le8
  refine odd_add h (by repeat (first | exact AllT.nil | exact AllD.nil | refine AllT.cons ?_ (Nat.le_of_ble_eq_true rfl) ?_ | refine AllD.cons ?_ ?_ | exact Dat.none | exact Dat.bool _ | exact Dat.int _ | exact Dat.str _ | exact Dat.lst (by assumption) | refine AllD.dat ?_)) rfl (Nat.le_of_ble_eq_true rfl) fun n6 σ₉ le9 h => ?_
  replace hle := hle.trans le9
  refine odd_add h (by repeat (first | exact AllT.nil | exact AllD.nil | refine AllT.cons ?_ (Nat.le_of_ble_eq_true rfl) ?_ | refine AllD.cons ?_ ?_ | exact Dat.none | exact Dat.bool _ | exact Dat.int _ | exact Dat.str _ | exact Dat.lst (by assumption) | refine AllD.dat ?_)) rfl (Nat.le_of_ble_eq_true rfl) fun n7 σa lea h => ?_
  replace hle := hle.trans lea
  refine odd_add h (by repeat (first | exact AllT.nil | exact AllD.nil | refine AllT.cons ?_ (Nat.le_of_ble_eq_true rfl) ?_ | refine AllD.cons ?_ ?_ | exact Dat.none | exact Dat.bool _ | exact Dat.int _ | exact Dat.str _ | exact Dat.lst (by assumption) | refine AllD.dat ?_)) rfl (Nat.le_of_ble_eq_true rfl) fun n8 σb leb h => ?_
  replace hle := hle.trans leb
  refine odd_add h (by repeat (first | exact AllT.nil | exact AllD.nil | refine AllT.cons ?_ (Nat.le_of_ble_eq_true rfl) ?_ | refine AllD.cons ?_ ?_ | exact Dat.none | exact Dat.bool _ | exact Dat.int _ | exact Dat.str _ | exact Dat.lst (by assumption) | refine AllD.dat ?_)) rfl (Nat.le_of_ble_eq_true rfl) fun n9 σc lec h => ?_
  replace hle := hle.trans lec
  refine odd_add h (by repeat (first | exact AllT.nil | exact AllD.nil | refine AllT.cons ?_ (Nat.le_of_ble_eq_true rfl) ?_ | refine AllD.cons ?_ ?_ | exact Dat.none | exact Dat.bool _ | exact Dat.int _ | exact Dat.str _ | exact Dat.lst (by assumption) | refine AllD.dat ?_)) rfl (Nat.le_of_ble_eq_true rfl) fun n10 σd led h => ?_
  replace hle := hle.trans led
  rw [Wp_bind, Wp_newO]
  have hd := get_new (σ := σd) (o := O.list [V.str (Str.ofString "a"), .tup [.str (Str.ofString "number")]])
  replace h := h.le (Le.append (τ := [O.list [V.str (Str.ofString "a"), .tup [.str (Str.ofString "number")]]]))
  replace hle := hle.trans (Le.append (τ := [O.list [V.str (Str.ofString "a"), .tup [.str (Str.ofString "number")]]]))
  generalize σd ++ [O.list [V.str (Str.ofString "a"), .tup [.str (Str.ofString "number")]]] = σe at hd h hle ⊢
  generalize σd.length = r4 at hd ⊢
  refine odd_add h (by repeat (first | exact AllT.nil | exact AllD.nil | refine AllT.cons ?_ (Nat.le_of_ble_eq_true rfl) ?_ | refine AllD.cons ?_ ?_ | exact Dat.none | exact Dat.bool _ | exact Dat.int _ | exact Dat.str _ | exact Dat.lst (by assumption) | refine AllD.dat ?_)) rfl (Nat.le_of_ble_eq_true rfl) fun n11 σf lef h => ?_
  replace hle := hle.trans lef
  refine odd_add h (by repeat (first | exact AllT.nil | exact AllD.nil | refine AllT.cons ?_ (Nat.le_of_ble_eq_true rfl) ?_ | refine AllD.cons ?_ ?_ | exact Dat.none | exact Dat.bool _ | exact Dat.int _ | exact Dat.str _ | exact Dat.lst (by assumption) | refine AllD.dat ?_)) rfl (Nat.le_of_ble_eq_true rfl) fun n12 σg leg h => ?_
  replace hle := hle.trans leg
  refine odd_add h (by repeat (first | exact AllT.nil | exact AllD.nil | refine AllT.cons ?_ (Nat.le_of_ble_eq_true rfl) ?_ | refine AllD.cons ?_ ?_ | exact Dat.none | exact Dat.bool _ | exact Dat.int _ | exact Dat.str _ | exact Dat.lst (by assumption) | refine AllD.dat ?_)) rfl (Nat.le_of_ble_eq_true rfl) fun n13 σh leh h => ?_
  replace hle := hle.trans leh
  refine odd_add h (by repeat (first | exact AllT.nil | exact AllD.nil | refine AllT.cons ?_ (Nat.le_of_ble_eq_true rfl) ?_ | refine AllD.cons ?_ ?_ | exact Dat.none | exact Dat.bool _ | exact Dat.int _ | exact Dat.str _ | exact Dat.lst (by assumption) | refine AllD.dat ?_)) rfl (Nat.le_of_ble_eq_true rfl) fun n14 σi lei h => ?_
  replace hle := hle.trans lei
  refine odd_add h (by repeat (first | exact AllT.nil | exact AllD.nil | refine AllT.cons ?_ (Nat.le_of_ble_eq_true rfl) ?_ | refine AllD.cons ?_ ?_ | exact Dat.none | exact Dat.bool _ | exact Dat.int _ | exact Dat.str _ | exact Dat.lst (by assumption) | refine AllD.dat ?_)) rfl (Nat.le_of_ble_eq_true rfl) fun n15 σj lej h => ?_
  replace hle := hle.trans lej
  refine odd_add h (by repeat (first | exact AllT.nil | exact AllD.nil | refine AllT.cons ?_ (Nat.le_of_ble_eq_true rfl) ?_ | refine AllD.cons ?_ ?_ | exact Dat.none | exact Dat.bool _ | exact Dat.int _ | exact Dat.str _ | exact Dat.lst (by assumption) | refine AllD.dat ?_)) rfl (Nat.le_of_ble_eq_true rfl) fun n16 σk lek h => ?_
  replace hle := hle.trans lek
  obtain ⟨l, h1, h2, h3, h4⟩ := h
  replace h3 : l.length ≤ 1000 := Nat.le_trans h3 (Nat.le_of_ble_eq_true rfl)
  have hm : 0 ≤ z % (l.length : Int) ∧ z % (l.length : Int) < l.length := ⟨Int.emod_nonneg _ (by (first | lia | omega)), Int.emod_lt_of_pos _ (by (first | lia | omega))⟩
  rw [Wp_bind, Wp_lenRef h1, Wp_bind, Wp_mod (by (first | lia | omega)) (by (first | lia | omega)), Wp_bind]
  generalize z % (l.length : Int) = j at hm
  have hj : j.toNat < l.length := by (first | lia | omega)
  rw [Wp_itemRef h1 hm.1 (List.getElem?_eq_getElem hj), Wp_pure]
  exact ⟨hle, h4 _ (List.getElem_mem hj)⟩
end Mine

namespace Mine
open PySem PyProof.Rows

theorem list_cut {α : Type} {l : List α} {i : Nat} {x : α} (h : l[i]? = some x) : l = l.take i ++ x :: l.drop (i + 1) := by
  have h1 : i < l.length := by
    rcases Nat.lt_or_ge i l.length with h1 | h1
    · exact h1
    · rw [List.getElem?_eq_none h1] at h; cases h
  rw [List.getElem?_eq_getElem h1] at h
  rw [← Option.some.inj h, ← List.drop_eq_getElem_cons h1, List.take_append_drop]

theorem changed_ok {σ : Store} {o : V} (ho : Dat σ o) : ∀ (n d : Nat) (z : Int) (k : V), n + 1 ≤ d → IsK n k → Wp (cl02 d "_law_changed" [k, .int z, o]) σ (fun r σ' => σ' = σ ∧ Dat σ r ∧ sz r ≤ sz k + sz o)
  | 0, d, z, k, _, hk => by cases hk
  | n + 1, d + 1, z, k, hd, hk => by
    rw [L_changed_sh]
    cases hk with
    | num =>
      rw [Wp_bind, Wp_item0, Wp_bind, ne_str, Wp_bind, Wp_truthB]
      rw [show (!(Str.ofString "number" == Str.ofString "record")) = true by decide +kernel, cond_true, Wp_pure]
      exact ⟨rfl, ho, by (first | lia | omega)⟩
    | blank i =>
      rw [Wp_bind, Wp_item0, Wp_bind, ne_str, Wp_bind, Wp_truthB]
      rw [show (!(Str.ofString "blank" == Str.ofString "record")) = true by decide +kernel, cond_true, Wp_pure]
      exact ⟨rfl, ho, by (first | lia | omega)⟩
    | rcd fs r hl hf hr =>
      have hK : IsK (n + 1) (.tup [.str (Str.ofString "record"), .tup (fs.map pairV), r]) := .rcd fs r hl hf hr
      rw [Wp_bind, Wp_item0, Wp_bind, ne_str, Wp_bind, Wp_truthB]
      rw [show (!(Str.ofString "record" == Str.ofString "record")) = false by decide +kernel, cond_false, Wp_bind, Wp_item1, Wp_bind]
      refine eq_unit ?_ fun c hc => ?_
      · obtain ⟨dk, hdk⟩ := isK_data (toPyF σ 4) (IsK.rcd fs .none hl hf (.inl rfl))
        cases e : toPyT (toPyF σ 4) (.tup (fs.map pairV)) with
        | some d => exact ⟨d, rfl⟩
        | none =>
          exfalso
          have e1 : toPyT (toPyF σ 4) (.tup [.str (Str.ofString "record"), .tup (fs.map pairV), .none]) = (toPyTs (toPyF σ 4) [.str (Str.ofString "record"), .tup (fs.map pairV), .none]).map PyData.tuple := rfl
          have e2 : toPyTs (toPyF σ 4) [.str (Str.ofString "record"), .tup (fs.map pairV), .none] = (match toPyT (toPyF σ 4) (.str (Str.ofString "record")), toPyTs (toPyF σ 4) [.tup (fs.map pairV), .none] with | some d, some ds => some (d :: ds) | _, _ => none) := rfl
          have e3 : toPyTs (toPyF σ 4) [.tup (fs.map pairV), .none] = (match toPyT (toPyF σ 4) (.tup (fs.map pairV)), toPyTs (toPyF σ 4) [.none] with | some d, some ds => some (d :: ds) | _, _ => none) := rfl
          rw [e1, e2, e3, e] at hdk
          cases hdk
      rw [Wp_bind, Wp_truthB]
      cases c with
      | true => rw [cond_true, Wp_pure]; exact ⟨rfl, ho, by (first | lia | omega)⟩
      | false =>
        rw [cond_false, Wp_bind, Wp_mod (b := 4) (by decide) (by decide), Wp_bind, eq_ints, Wp_bind, Wp_truthB]
        cases (z % 4 == 0) with
        | true => rw [cond_true, Wp_pure]; exact ⟨rfl, ho, by (first | lia | omega)⟩
        | false =>
          rw [cond_false]
          have hpos : 0 < fs.length := by
            cases fs with
            | nil => have := hc rfl; cases this
            | cons p r => exact Nat.zero_lt_succ _
          unfold L_changed_t1
          have hm : 0 ≤ z / 4 % ((fs.map pairV).length : Int) ∧ z / 4 % ((fs.map pairV).length : Int) < (fs.map pairV).length := by
            rw [List.length_map]; exact ⟨Int.emod_nonneg _ (by (first | lia | omega)), Int.emod_lt_of_pos _ (by (first | lia | omega))⟩
          simp only [Wp_bind, Wp_div (b := 4) (by decide) (by decide), Wp_item1, Wp_item2, Wp_lenTup, Wp_mod (b := ((fs.map pairV).length : Int)) (by rw [List.length_map]; (first | lia | omega)) (by rw [List.length_map]; (first | lia | omega))]
          generalize z / 4 % ((fs.map pairV).length : Int) = j at hm
          have hj : j.toNat < fs.length := by rw [List.length_map] at hm; (first | lia | omega)
          have hfj : (fs.map pairV)[j.toNat]? = some (pairV fs[j.toNat]) := by rw [List.getElem?_map, List.getElem?_eq_getElem hj]; rfl
          have hmem := List.getElem_mem hj
          generalize fs[j.toNat] = p at hfj hmem
          obtain ⟨s, v⟩ := p
          rw [Wp_itemTup hm.1 hfj]
          show Wp (item (.tup [.str s, v]) (.int 0)) σ _
          rw [Wp_item0, Wp_itemTup hm.1 hfj]
          show Wp (item (.tup [.str s, v]) (.int 1)) σ _
          rw [Wp_item1, Wp_div (b := 16) (by decide) (by decide)]
          refine (changed_ok ho n d (z / 16) v (by (first | lia | omega)) (hf _ hmem)).mono fun r' σ' h => ?_
          obtain ⟨rfl, hr', hsz⟩ := h
          have hsl : (16777216 : Nat) = sizeLine := rfl
          have hsplit := list_cut hfj
          have hlm : (fs.map pairV).length = fs.length := List.length_map ..
          rw [Wp_boundNone, Wp_boundInt, Wp_sliceTup, cut_to hm.1 (by (first | lia | omega)), Wp_addTup (by rw [List.length_take]; simp; (first | lia | omega)), Wp_add, Wp_boundInt, Wp_boundNone, Wp_sliceTup, cut_from (by (first | lia | omega)) (by (first | lia | omega)), Wp_addTup (by rw [List.length_append, List.length_take, List.length_drop]; simp; (first | lia | omega)), Wp_pure]
          have hj1 : (j + 1).toNat = j.toNat + 1 := by (first | lia | omega)
          rw [hj1]
          have hD : Dat σ' (.tup [.str (Str.ofString "record"), .tup (fs.map pairV), r]) := isK_dat hK
          cases hD with
          | tup hD =>
            have hD1 := hD (.tup (fs.map pairV)) (List.mem_cons_of_mem _ (List.mem_cons_self ..))
            cases hD1 with
            | tup hD1 =>
              refine ⟨rfl, .tup fun x hx => ?_, ?_⟩
              · rcases List.mem_cons.mp hx with rfl | hx
                · exact .str _
                rcases List.mem_cons.mp hx with rfl | hx
                · refine .tup fun y hy => ?_
                  rcases List.mem_append.mp hy with hy | hy
                  · rcases List.mem_append.mp hy with hy | hy
                    · exact hD1 y (List.mem_of_mem_take hy)
                    · rw [List.mem_singleton.mp hy]
                      exact (AllD.cons (.str _) (.cons hr' .nil)).dat
                  · exact hD1 y (List.mem_of_mem_drop hy)
                · exact hD x (List.mem_cons_of_mem _ (List.mem_cons_of_mem _ hx))
              · have e : szs (fs.map pairV) = szs ((fs.map pairV).take j.toNat) + (sz (pairV (s, v)) + szs ((fs.map pairV).drop (j.toNat + 1))) := by
                  conv => lhs; rw [hsplit]
                  rw [szs_append, szs_cons]
                have e2 : sz (pairV (s, v)) = 1 + (1 + (sz v + 0)) := rfl
                have e3 : sz (V.tup [.str s, r']) = 1 + (1 + (sz r' + 0)) := rfl
                simp only [sz_tup, szs_cons, szs_append]
                simp only [sz_tup, szs_cons] at e3
                have e4 : szs [] = 0 := rfl
                (first | lia | omega)

theorem merged_ok {b : Int} (hb : 0 < b) (hb' : b < 1000) : ∀ (n d : Nat) (k : V) (σ : Store), n + 1 ≤ d → IsK n k → Wp (cl02 d "_law_merged" [k, .int b]) σ (fun r σ' => Le σ σ' ∧ IsK n r)
  | 0, d, k, σ, _, hk => by cases hk
  | n + 1, d + 1, k, σ, hd, hk => by
    have hsl : (16777216 : Nat) = sizeLine := rfl
    rw [L_merged_sh]
    cases hk with
    | num =>
      rw [Wp_bind, Wp_item0, Wp_bind, eq_str, Wp_bind, Wp_truthB, ne_bn, if_neg (by decide)]
      unfold L_merged_t1
      rw [Wp_bind, Wp_item0, Wp_bind, eq_str, Wp_bind, Wp_truthB, beq_self_eq_true, if_pos rfl, Wp_pure]
      exact ⟨Le.refl, .num⟩
    | blank i =>
      rw [Wp_bind, Wp_item0, Wp_bind, eq_str, Wp_bind, Wp_truthB, beq_self_eq_true, if_pos rfl, Wp_bind, Wp_item1, Wp_bind, Wp_mod hb (by (first | lia | omega)), Wp_pure]
      exact ⟨Le.refl, .blank _⟩
    | rcd fs r hl hf hr =>
      rw [Wp_bind, Wp_item0, Wp_bind, eq_str, Wp_bind, Wp_truthB, ne_rb, if_neg (by decide)]
      unfold L_merged_t1
      rw [Wp_bind, Wp_item0, Wp_bind, eq_str, Wp_bind, Wp_truthB, ne_rn, if_neg (by decide)]
      unfold L_merged_t2
      rw [Wp_bind, Wp_item2, Wp_bind, Wp_notNone, Wp_bind, Wp_truthB]
      have key : ∀ r' : V, (r' = .none ∨ ∃ i, r' = .int i) → Wp (L_merged_t3 d (.tup [.str (Str.ofString "record"), .tup (fs.map pairV), r]) (.int b) r') σ (fun r σ' => Le σ σ' ∧ IsK (n + 1) r) := by
        intro r' hr'
        unfold L_merged_t3
        simp only [Wp_bind, Wp_item1, Wp_srcTup]
        refine Wp_compAll (J := fun τ => True) walks_vals tgtOk_vals L_merged_c1_ok (L_merged_c1_in ..) (fun i acc loc τ => Le σ τ ∧ (∃ o1 o2, loc = [none, o1, o2, none, some (.int b)]) ∧ ∃ gs : List (Str × V), acc = gs.map pairV ∧ gs.length = i ∧ ∀ p ∈ gs, IsK n p.2) (fun _ _ _ _ _ => trivial) ⟨Le.refl, ⟨_, _, rfl⟩, [], rfl, rfl, by simp⟩ (fun i v acc loc τ hv hp => ?_) fun out loc τ hp => ?_
        · obtain ⟨hle, ⟨o1, o2, rfl⟩, gs, rfl, hgl, hgk⟩ := hp
          obtain ⟨f, hfi, rfl⟩ := map_at hv
          rw [L_merged_c1_bind, Wp_pure, L_merged_c1_tst, Wp_pure, if_pos rfl, L_merged_c1_elt]
          refine Wp_bind.mpr ((merged_ok hb hb' n d f.2 τ (by (first | lia | omega)) (hf _ (List.mem_of_getElem? hfi))).mono fun x τ' h => ?_)
          rw [Wp_pure]
          refine ⟨hle.trans h.1, ⟨_, _, rfl⟩, gs ++ [(f.1, x)], by rw [List.map_append]; rfl, by simp [hgl], fun p hp => ?_⟩
          rcases List.mem_append.mp hp with hp | hp
          · exact hgk p hp
          · rw [List.mem_singleton.mp hp]; exact h.2
        · obtain ⟨hle, _, gs, rfl, hgl, hgk⟩ := hp
          rw [List.length_map] at hgl
          refine ⟨by rw [List.length_map]; (first | lia | omega), ?_⟩
          rw [Wp_tupleRef get_new, Wp_pure]
          exact ⟨hle.trans Le.append, .rcd gs r' (by (first | lia | omega)) hgk hr'⟩
      rcases hr with rfl | ⟨i, rfl⟩
      · exact key _ (.inl rfl)
      · show Wp (binop .Mod (.int i) (.int b) >>= _) σ _
        rw [Wp_bind, Wp_mod hb (by (first | lia | omega))]
        exact key _ (.inr ⟨_, rfl⟩)
end Mine

namespace Mine
open PySem PyProof.Rows

theorem pow_le {n : Nat} (h : n ≤ 13) : 5 * 3 ^ n ≤ 8000000 := Nat.le_trans (Nat.mul_le_mul_left 5 (Nat.pow_le_pow_right (by decide) h)) (by decide)
theorem words_all {σ : Store} : ∀ ss : List Str, AllD σ ((ss.map fun s => pairV (s, .tup [.str (Str.ofString "number")]))) ∧ szs (ss.map fun s => pairV (s, .tup [.str (Str.ofString "number")])) = 4 * ss.length
  | [] => ⟨.nil, rfl⟩
  | s :: r => by
    obtain ⟨h1, h2⟩ := words_all (σ := σ) r
    refine ⟨.cons (AllD.cons (.str _) (.cons (AllD.cons (.str _) .nil).dat .nil)).dat h1, ?_⟩
    rw [List.map_cons, szs_cons, h2, List.length_cons]
    have e : sz (pairV (s, .tup [.str (Str.ofString "number")])) = 4 := rfl
    rw [e]; (first | lia | omega)

theorem thing_ok {n d lb : Nat} {ls : List Str} {k : V} {σ : Store} {w z : Int} (hd : n + 2 ≤ d) (hn : n ≤ 13) (hk : IsK n k) (hlb : σ[lb]? = some (.list (ls.map V.str))) (h4 : ls.length = 4) :
    Wp (cl02 d "_law_thing" [k, .ref lb, .int w, .int z]) σ (fun r σ' => Le σ σ' ∧ Dat σ' r ∧ sz r ≤ 9000000) := by
  have hsk := isK_sz hk
  have hpw := pow_le hn
  have hsl : (16777216 : Nat) = sizeLine := rfl
  obtain ⟨d, rfl⟩ : ∃ e, d = e + 1 := ⟨d - 1, by (first | lia | omega)⟩
  have odd : ∀ (o1 o2 o3 o4 o5 : Option V), Wp (L_thing_t3 d k (.ref lb) (.int w) (.int z) o1 o2 o3 o4 o5) σ (fun r σ' => Le σ σ' ∧ Dat σ' r ∧ sz r ≤ 9000000) := by
    intro o1 o2 o3 o4 o5
    unfold L_thing_t3
    obtain ⟨d, rfl⟩ : ∃ e, d = e + 1 := ⟨d - 1, by (first | lia | omega)⟩
    rw [Wp_bind, Wp_div (b := 4) (by decide) (by decide)]
    refine Wp_bind.mpr (odd_ok.mono fun o σ₁ h => ?_)
    obtain ⟨hle, ho, hs⟩ := h
    refine Wp_bind.mpr ((changed_ok ho n (d + 1) (w / 4) k (by (first | lia | omega)) hk).mono fun r σ₂ h => ?_)
    obtain ⟨rfl, hr, hsr⟩ := h
    rw [Wp_pure]
    exact ⟨hle, hr, by (first | lia | omega)⟩
  rw [L_thing_sh, Wp_bind, Wp_mod (b := 4) (by decide) (by decide), Wp_bind, eq_ints, Wp_bind, Wp_truthB]
  cases (w % 4 == 0) with
  | true =>
    rw [if_pos rfl, Wp_bind, Wp_mod (b := 3) (by decide) (by decide), Wp_bind, Wp_add]
    refine Wp_bind.mpr ((merged_ok (b := 2 + z % 3) (by (first | lia | omega)) (by (first | lia | omega)) n d k σ (by (first | lia | omega)) hk).mono fun r σ' h => ?_)
    rw [Wp_pure]
    have := isK_sz h.2
    exact ⟨h.1, isK_dat h.2, by (first | lia | omega)⟩
  | false =>
    rw [if_neg (by decide)]
    unfold L_thing_t1
    rw [Wp_bind, Wp_mod (b := 4) (by decide) (by decide), Wp_bind, eq_ints, Wp_bind, Wp_truthB]
    cases (w % 4 == 1) with
    | true =>
      rw [if_pos rfl, Wp_bind, Wp_mod (b := 12) (by decide) (by decide), Wp_bind, Wp_range (n := z % 12) (by (first | lia | omega)) (by (first | lia | omega)), Wp_bind]
      refine Wp_forAll (J := fun τ => True) walks_vals tgtOk_vals (fun i loc τ => τ = σ ∧ ∃ (x : V) (o : Option V), loc = [some k, some (.ref lb), some (.int w), some (.int z), some x, o, none, none, none, none, none, none, none, none] ∧ Dat σ x ∧ sz x ≤ sz k + 10 * i) (fun _ _ _ _ => trivial) ⟨rfl, k, _, rfl, isK_dat hk, by (first | lia | omega)⟩ (fun i v loc τ hv hp => ?_) fun loc τ hp => ?_
      · obtain ⟨rfl, x, o, rfl, hx, hsx⟩ := hp
        obtain ⟨rfl, hi⟩ := range_val hv
        rw [L_thing_l1_step]
        obtain ⟨s, hs⟩ := at4 (z := (i : Int)) h4
        rw [Wp_bind, Wp_mod (b := 4) (by decide) (by decide), Wp_bind, Wp_itemRef hlb (by (first | lia | omega)) hs, Wp_pure]
        refine .inl ⟨rfl, rfl, _, _, rfl, ?_, ?_⟩
        · exact (AllD.cons (.str _) (.cons (AllD.cons (AllD.cons (.str _) (.cons hx .nil)).dat .nil).dat (.cons .none .nil))).dat
        · have e : sz (V.tup [V.str (Str.ofString "record"), .tup [.tup [.str s, x]], .none]) = 1 + (1 + (1 + (1 + (1 + (sz x + 0)) + 0) + (1 + 0))) := rfl
          rw [e]; (first | lia | omega)
      · obtain ⟨rfl, x, o, rfl, hx, hsx⟩ := hp
        rw [range_len] at hsx
        show Wp (L_thing_a1 d _) _ _
        rw [L_thing_a1_eq, Wp_pure]
        exact ⟨Le.refl, hx, by (first | lia | omega)⟩
    | false =>
      rw [if_neg (by decide)]
      unfold L_thing_t2
      rw [Wp_bind, Wp_mod (b := 4) (by decide) (by decide), Wp_bind, eq_ints, Wp_bind, Wp_truthB]
      cases (w % 4 == 2) with
      | false => rw [cond_false]; exact odd _ _ _ _ _
      | true =>
        rw [cond_true, Wp_bind, Wp_div (b := 4) (by decide) (by decide), Wp_bind, Wp_mod (b := 4) (by decide) (by decide), Wp_bind, eq_ints, Wp_bind, Wp_truthB]
        cases (w / 4 % 4 == 0) with
        | false => rw [cond_false]; exact odd _ _ _ _ _
        | true =>
          rw [cond_true]
          simp only [Wp_bind, Wp_div (b := 2) (by decide) (by decide), Wp_mod (b := 210) (by decide) (by decide), Wp_mod (b := 3) (by decide) (by decide), Wp_mod (b := 2) (by decide) (by decide), Wp_add, Wp_newO]
          have hsz : ∃ m : Int, 0 ≤ m ∧ m ≤ 210 ∧ ([V.int (z / 2 % 210), V.int (199 + z / 2 % 3)])[(z % 2).toNat]? = some (.int m) := by
            rcases Int.emod_two_eq z with h | h <;> rw [h]
            · exact ⟨_, by (first | lia | omega), by (first | lia | omega), rfl⟩
            · exact ⟨_, by (first | lia | omega), by (first | lia | omega), rfl⟩
          obtain ⟨m, hm0, hm1, hm⟩ := hsz
          rw [Wp_itemRef get_new (by (first | lia | omega)) hm, Wp_range (by (first | lia | omega)) (by (first | lia | omega))]
          have hle1 : Le σ (σ ++ [O.list [V.int (z / 2 % 210), V.int (199 + z / 2 % 3)]]) := Le.append
          generalize σ ++ [O.list [V.int (z / 2 % 210), V.int (199 + z / 2 % 3)]] = σ₁ at hle1 ⊢
          refine Wp_compAll (J := fun τ => True) walks_vals tgtOk_vals L_thing_c1_ok (L_thing_c1_in ..) (fun i acc loc τ => τ = σ₁ ∧ (∃ o, loc = [none, o, some (.str (Str.ofString "abcdefghijklmnopqrstuvwxyz"))]) ∧ ∃ ss : List Str, acc = ss.map V.str ∧ ss.length = i) (fun _ _ _ _ _ => trivial) ⟨rfl, ⟨_, rfl⟩, [], rfl, rfl⟩ (fun i v acc loc τ hv hp => ?_) fun out loc τ hp => ?_
          · obtain ⟨rfl, ⟨o, rfl⟩, ss, rfl, hlen⟩ := hp
            obtain ⟨rfl, hi⟩ := range_val hv
            rw [L_thing_c1_bind, Wp_pure, L_thing_c1_tst, Wp_pure, if_pos rfl, L_thing_c1_elt]
            obtain ⟨c1, hc1⟩ := signs_at (k := (i : Int) / 26) (by (first | lia | omega)) (by (first | lia | omega))
            obtain ⟨c2, hc2⟩ := signs_at (k := (i : Int) % 26) (by (first | lia | omega)) (by (first | lia | omega))
            simp only [Wp_bind, Wp_div (b := 26) (by decide) (by decide), Wp_mod (b := 26) (by decide) (by decide), Wp_itemStr (show 0 ≤ (i : Int) / 26 by (first | lia | omega)) (by rw [signs_len]; (first | lia | omega)) hc1, Wp_itemStr (show 0 ≤ (i : Int) % 26 by (first | lia | omega)) (by rw [signs_len]; (first | lia | omega)) hc2]
            rw [Wp_addStr (by show 1 + 1 ≤ _; (first | lia | omega)), Wp_pure]
            exact ⟨rfl, ⟨_, rfl⟩, ss ++ [chr1 c1 ++ chr1 c2], by rw [List.map_append]; rfl, by simp [hlen]⟩
          · obtain ⟨rfl, _, ss, rfl, hlen⟩ := hp
            rw [range_len] at hlen
            refine ⟨by rw [List.length_map]; (first | lia | omega), ?_⟩
            have hw := get_new (σ := τ) (o := O.list (ss.map V.str))
            rw [Wp_srcRef hw]
            have hle2 : Le τ (τ ++ [O.list (ss.map V.str)]) := Le.append
            generalize τ ++ [O.list (ss.map V.str)] = τ₁ at hw hle2 ⊢
            generalize τ.length = q at hw ⊢
            have hfm : (ss.map V.str).filterMap (fun v => some (V.tup [v, .tup [.str (Str.ofString "number")]])) = ss.map fun s => pairV (s, .tup [.str (Str.ofString "number")]) := by
              rw [List.filterMap_eq_map', List.map_map]; rfl
            refine Wp_compPure (walks_lst fun τ' e => by rw [e]; exact hw) tgtOk_lst L_thing_c2_ok (L_thing_c2_in ..) (fun loc => ∃ o, loc = [none, o]) ⟨_, rfl⟩ (fun v => some (V.tup [v, .tup [.str (Str.ofString "number")]])) (fun v loc hv hS => ?_) ?_ ?_
            · obtain ⟨o, rfl⟩ := hS
              rw [L_thing_c2_bind, Wp_pure]
              refine ⟨rfl, ⟨_, rfl⟩, ?_⟩
              rw [L_thing_c2_tst, Wp_pure]
              refine ⟨rfl, ?_⟩
              rw [if_pos rfl, L_thing_c2_elt, Wp_pure]
              exact ⟨rfl, rfl⟩
            · rw [hfm, List.length_map]; (first | lia | omega)
            · rw [hfm, Wp_tupleRef get_new, Wp_pure]
              obtain ⟨h1, h2⟩ := words_all (σ := τ₁ ++ [O.list (ss.map fun s => pairV (s, .tup [.str (Str.ofString "number")]))]) ss
              refine ⟨(hle1.trans hle2).trans Le.append, (AllD.cons (.str _) (.cons h1.dat (.cons .none .nil))).dat, ?_⟩
              rw [sz_tup, szs_cons, szs_cons, sz_tup, h2]
              have e : sz (V.str (Str.ofString "record")) = 1 := rfl
              have e' : szs [V.none] = 1 := rfl
              rw [e, e']; (first | lia | omega)
end Mine

namespace Mine
open PySem PyProof.Rows
theorem ne_bools {σ : Store} {Q : V → Store → Prop} {b : Bool} : Wp (cmp .NotEq (.bool b) (.bool b)) σ Q ↔ Q (.bool false) σ := Wp_ok (by cases b <;> rfl)
theorem Wp_kdBool {σ : Store} {Q : V → Store → Prop} {b : Bool} : Wp (isKd .bool (.bool b)) σ Q ↔ Q (.bool true) σ := Wp_ok rfl
theorem Wp_sliceStr {σ : Store} {Q : V → Store → Prop} {lo hi : Option Int} {s : Str} : Wp (sliceV lo hi (.str s)) σ Q ↔ Q (.str (cutStr s lo hi)) σ := Wp_ok rfl

/-- the things -/
noncomputable def Th (σ : Store) (l : List V) : Prop := ∀ x ∈ l, Dat σ x ∧ sz x ≤ 9000000
theorem Th.kp {σ σ' : Store} {l : List V} (h : Th σ l) (hk : Kp σ σ') : Th σ' l := fun x hx => ⟨(h x hx).1.kp hk, (h x hx).2⟩
theorem Th.append {σ : Store} {l m : List V} (h : Th σ l) (h' : Th σ m) : Th σ (l ++ m) := fun x hx => (List.mem_append.mp hx).elim (h x) (h' x)
theorem kp_set {σ : Store} {T : Nat} {l l' : List V} (h : σ[T]? = some (.list l)) : Kp σ (σ.set T (.list l')) := fun r m e => by
  by_cases hr : r = T
  · subst hr; exact ⟨l', set_get h⟩
  · exact ⟨m, by rw [List.getElem?_set_ne (Ne.symm hr)]; exact e⟩
theorem mem_cut {α : Type} {l : List α} {lo hi : Option Int} {x : α} (h : x ∈ cut l lo hi) : x ∈ l := by
  unfold cut at h
  exact List.mem_of_mem_drop (List.mem_of_mem_take h)

structure Lw (zs : List Int) (ls : List Str) (lb T : Nat) (m : Nat) (σ : Store) : Prop where
  s0 : σ[0]? = some (.list (zs.map V.int))
  lab : σ[lb]? = some (.list (ls.map V.str))
  n1 : 0 < T
  n2 : lb ≠ T
  th : ∃ l, σ[T]? = some (.list l) ∧ l.length = m ∧ Th σ l
section
variable {zs : List Int} {ls : List Str} {lb T m : Nat} {σ σ' : Store}
theorem Lw.le (h : Lw zs ls lb T m σ) (hle : Le σ σ') : Lw zs ls lb T m σ' where
  s0 := hle _ _ h.s0
  lab := hle _ _ h.lab
  n1 := h.n1
  n2 := h.n2
  th := let ⟨l, h1, h2, h3⟩ := h.th; ⟨l, hle _ _ h1, h2, h3.kp hle.kp⟩
theorem Lw.push (h : Lw zs ls lb T m σ) {l : List V} (hl : σ[T]? = some (.list l)) {v : V} (hv : Dat σ v) (hs : sz v ≤ 9000000) : Lw zs ls lb T (m + 1) (σ.set T (.list (l ++ [v]))) where
  s0 := by rw [List.getElem?_set_ne (by have := h.n1; (first | lia | omega))]; exact h.s0
  lab := by rw [List.getElem?_set_ne (fun e => h.n2 e.symm)]; exact h.lab
  n1 := h.n1
  n2 := h.n2
  th := by
    obtain ⟨l', h1, h2, h3⟩ := h.th
    rw [hl] at h1
    cases h1
    refine ⟨_, set_get hl, by rw [List.length_append, h2]; rfl, ?_⟩
    refine Th.kp (h3.append fun x hx => ?_) (kp_set hl)
    rw [List.mem_singleton.mp hx]; exact ⟨hv, hs⟩

/-- the end: each thing is asked twice -/
theorem asked_ok {d : Nat} {v1 v2 v3 v4 v5 : V} {o1 o2 : Option V} (hd : 40 ≤ d) (hm : m ≤ 1000) (h : Lw zs ls lb T m σ) : Wp (L_law_a2 d [some v1, some v2, some v3, some v4, some v5, some (.ref T), o1, o2, none, none, none, none, none, none, none, none, none, none, none]) σ (fun r _ => r = .bool true) := by
  obtain ⟨l, h1, h2, h3⟩ := h.th
  have hsl : (16777216 : Nat) = sizeLine := rfl
  have hcl : (cut l none (some 2)).length ≤ l.length := cut_length_le _ _ _
  rw [L_law_a2_eq, Wp_bind, Wp_boundNone, Wp_bind, Wp_boundInt, Wp_bind, Wp_sliceRef h1, Wp_bind, Wp_addRef (Le.append _ _ h1) get_new (by (first | lia | omega)), Wp_bind]
  have hM := get_new (σ := σ ++ [O.list (cut l none (some 2))]) (o := O.list (l ++ cut l none (some 2)))
  have hle : Le σ (σ ++ [O.list (cut l none (some 2))] ++ [O.list (l ++ cut l none (some 2))]) := Le.append.trans Le.append
  have hT : Th (σ ++ [O.list (cut l none (some 2))] ++ [O.list (l ++ cut l none (some 2))]) (l ++ cut l none (some 2)) := Th.kp (h3.append fun x hx => h3 x (mem_cut hx)) hle.kp
  have h0 : 0 < (σ ++ [O.list (cut l none (some 2))] ++ [O.list (l ++ cut l none (some 2))]).length := by simp
  generalize σ ++ [O.list (cut l none (some 2))] ++ [O.list (l ++ cut l none (some 2))] = σ₁ at hM hT h0 ⊢
  generalize (σ ++ [O.list (cut l none (some 2))]).length = M at hM ⊢
  generalize l ++ cut l none (some 2) = L at hM hT ⊢
  rw [Wp_srcRef hM, Wp_bind]
  refine Wp_forAll (J := fun τ => τ[M]? = some (.list L)) (walks_lst fun τ h => h) tgtOk_lst (fun i loc τ => τ[M]? = some (.list L) ∧ Le σ₁ τ ∧ ∃ o3 o4, loc = [some v1, some v2, some v3, some v4, some v5, some (.ref T), o1, o2, o3, o4, none, none, none, none, none, none, none, none, none]) (fun _ _ _ h => h.1) ⟨hM, Le.refl, _, _, rfl⟩ (fun i u loc τ hu hp => ?_) fun loc τ hp => ?_
  · obtain ⟨hMt, hlt, o3, o4, rfl⟩ := hp
    obtain ⟨hud, hus⟩ := hT u (List.mem_of_getElem? hu)
    have hud' := hud.kp hlt.kp
    rw [L_law_l3_step]
    refine Wp_bind.mpr ((isKind_ok hd hud' (by (first | lia | omega)) (by have := hlt.len; (first | lia | omega))).mono fun r τ₁ h => ?_)
    obtain ⟨hle1, rfl⟩ := h
    rw [Wp_bind, Wp_kdBool, Wp_bind, Wp_truthB]
    show Wp (cl02 d "_law_due" [u] >>= _) τ₁ _
    refine Wp_bind.mpr ((due_ok hd (hud'.kp hle1.kp) (by (first | lia | omega)) (by have := hlt.len; have := hle1.len; (first | lia | omega))).mono fun r τ₂ h => ?_)
    obtain ⟨hle2, rfl⟩ := h
    rw [Wp_bind, ne_bools, Wp_bind, Wp_truthB]
    show Wp (pure _) τ₂ _
    rw [Wp_pure]
    exact .inl ⟨rfl, hle2 _ _ (hle1 _ _ hMt), (hlt.trans hle1).trans hle2, _, _, rfl⟩
  · obtain ⟨hMt, hlt, o3, o4, rfl⟩ := hp
    show Wp (L_law_a3 d _) _ _
    rw [L_law_a3_eq, Wp_pure]

/-- the four things -/
theorem four_ok {n d : Nat} {k v3 v4 : V} {o1 : Option V} (hd : 42 ≤ d) (hn : n ≤ 13) (hk : IsK n k) (h4 : ls.length = 4) (h : Lw zs ls lb T 3 σ) : Wp (L_law_a1 d [some (.ref 0), some (.ref lb), some v3, some v4, some k, some (.ref T), o1, none, none, none, none, none, none, none, none, none, none, none, none]) σ (fun r _ => r = .bool true) := by
  have hsl : (16777216 : Nat) = sizeLine := rfl
  rw [L_law_a1_eq, Wp_bind, Wp_range (n := 4) (by decide) (by decide), Wp_bind]
  refine Wp_forAll (J := fun τ => True) walks_vals tgtOk_vals (fun i loc τ => Lw zs ls lb T (3 + i) τ ∧ ∃ o2, loc = [some (.ref 0), some (.ref lb), some v3, some v4, some k, some (.ref T), o1, o2, none, none, none, none, none, none, none, none, none, none, none]) (fun _ _ _ _ => trivial) ⟨h, _, rfl⟩ (fun i v loc τ hv hp => ?_) fun loc τ hp => ?_
  · obtain ⟨hL, o2, rfl⟩ := hp
    obtain ⟨rfl, hi⟩ := range_val hv
    obtain ⟨l, hl, hll, _⟩ := hL.th
    obtain ⟨d, rfl⟩ : ∃ e, d = e + 1 := ⟨d - 1, by (first | lia | omega)⟩
    rw [L_law_l2_step, Wp_bind, Wp_mtag hl, Wp_bind, Wp_mul (a := 2) (.inl (by decide)), Wp_bind, Wp_add]
    refine Wp_bind.mpr ((cell_ok hL.s0 (by (first | lia | omega))).mono fun r τ' h => ?_)
    obtain ⟨rfl, c1, rfl, _, _⟩ := h
    rw [Wp_bind, Wp_mul (a := 2) (.inl (by decide)), Wp_bind, Wp_add]
    refine Wp_bind.mpr ((cell_ok hL.s0 (by (first | lia | omega))).mono fun r τ' h => ?_)
    obtain ⟨rfl, c2, rfl, _, _⟩ := h
    refine Wp_bind.mpr ((thing_ok (by (first | lia | omega)) hn hk hL.lab h4).mono fun x τ₁ h => ?_)
    obtain ⟨hle, hx, hsx⟩ := h
    have hL1 := hL.le hle
    have hl1 := hle _ _ hl
    rw [Wp_bind, Wp_append hl1 hL.n1 (by (first | lia | omega)), Wp_pure]
    exact .inl ⟨rfl, hL1.push hl1 hx hsx, _, rfl⟩
  · obtain ⟨hL, o2, rfl⟩ := hp
    rw [range_len] at hL
    show Wp (L_law_a2 d _) _ _
    exact asked_ok (by (first | lia | omega)) (by decide) hL

/-- the two records -/
theorem two_ok {n d q : Nat} {k v3 v4 : V} (hd : 42 ≤ d) (hn : n ≤ 13) (hk : IsK n k) (h4 : ls.length = 4) (hls : ∀ s ∈ ls, s.length ≤ 1000) (h : Lw zs ls lb T 1 σ) (hq : σ[q]? = some (.list [.int 8, .int 9])) (hqT : q ≠ T) : Wp (forAll (cf02 d) (sTgt L_law_l1) (sBody L_law_l1) (.lst q) L_law_F.names [some (.ref 0), some (.ref lb), some v3, some v4, some k, some (.ref T), none, none, none, none, none, none, none, none, none, none, none, none, none] >>= flK retK (L_law_a1 d)) σ (fun r _ => r = .bool true) := by
  have hsl : (16777216 : Nat) = sizeLine := rfl
  rw [Wp_bind]
  refine Wp_forAll (J := fun τ => τ[q]? = some (.list [.int 8, .int 9])) (walks_lst fun τ h => h) tgtOk_lst (fun i loc τ => τ[q]? = some (.list [.int 8, .int 9]) ∧ Lw zs ls lb T (1 + i) τ ∧ ∃ o2, loc = [some (.ref 0), some (.ref lb), some v3, some v4, some k, some (.ref T), o2, none, none, none, none, none, none, none, none, none, none, none, none]) (fun _ _ _ h => h.1) ⟨hq, h, _, rfl⟩ (fun i v loc τ hv hp => ?_) fun loc τ hp => ?_
  · obtain ⟨hqt, hL, o2, rfl⟩ := hp
    obtain ⟨z, rfl⟩ : ∃ z : Int, v = .int z := by
      rcases i with _ | _ | i
      · cases hv; exact ⟨_, rfl⟩
      · cases hv; exact ⟨_, rfl⟩
      · cases hv
    have hi : i < 2 := by
      rcases i with _ | _ | i
      · decide
      · decide
      · cases hv
    obtain ⟨l, hl, hll, _⟩ := hL.th
    have h0 : (0 : Int).toNat < ls.length := by show 0 < ls.length; (first | lia | omega)
    have hx : (ls.map V.str)[(0 : Int).toNat]? = some (V.str ls[(0 : Int).toNat]) := by rw [List.getElem?_map, List.getElem?_eq_getElem h0]; rfl
    have hx' := hls _ (List.getElem_mem h0)
    generalize ls[(0 : Int).toNat] = s0 at hx hx'
    have h9 : (Str.ofString "aaaaaaaaa").length = 9 := by decide +kernel
    rw [L_law_l1_step, Wp_bind, Wp_mtag hl, Wp_bind, Wp_itemRef hL.lab (by decide) hx, Wp_bind, Wp_addStr (by rw [h9]; (first | lia | omega)), Wp_bind, Wp_boundNone, Wp_bind, Wp_boundInt, Wp_bind, Wp_sliceStr, Wp_bind, Wp_append hl hL.n1 (by (first | lia | omega)), Wp_pure]
    refine .inl ⟨rfl, ?_, hL.push hl ?_ ?_, _, rfl⟩
    · rw [List.getElem?_set_ne (Ne.symm hqT)]; exact hqt
    · exact (AllD.cons (.str _) (.cons (AllD.cons (AllD.cons (.str _) (.cons (AllD.cons (.str _) .nil).dat .nil)).dat .nil).dat (.cons .none .nil))).dat
    · exact Nat.le_of_ble_eq_true rfl
  · obtain ⟨hqt, hL, o2, rfl⟩ := hp
    show Wp (L_law_a1 d _) _ _
    exact four_ok hd hn hk h4 hL

theorem law02_wp (zs : List Int) : Wp (cl02 60 "law" [.ref 0]) [.list (zs.map .int)] (fun r _ => r = .bool true) := by
  rw [L_law_sh]
  generalize hσ : [O.list (zs.map V.int)] = σ
  have h0 : σ[0]? = some (.list (zs.map .int)) := by rw [← hσ]; rfl
  have hlen : σ.length = 1 := by rw [← hσ]; rfl
  refine Wp_bind.mpr ((cell_ok h0 (by decide)).mono fun r τ h => ?_)
  obtain ⟨rfl, c2, rfl, hc2, _⟩ := h
  refine Wp_bind.mpr (labels_ok.mono fun r σ₁ h => ?_)
  obtain ⟨hle1, lb, ls, rfl, hlbl, hlb, h4, hnd, hls⟩ := h
  have h01 := hle1 _ _ h0
  refine Wp_bind.mpr ((cell_ok h01 (by decide)).mono fun r τ' h => ?_)
  obtain ⟨rfl, c0, rfl, hc0, hc0'⟩ := h
  rw [Wp_bind, Wp_mod (b := 2147483645) (by decide) (by decide), Wp_bind, Wp_add]
  refine Wp_bind.mpr ((cell_ok h01 (by decide)).mono fun r τ' h => ?_)
  obtain ⟨rfl, c1, rfl, hc1, hc1'⟩ := h
  rw [Wp_bind, Wp_mod (b := 40) (by decide) (by decide), Wp_bind, Wp_add, Wp_bind, Wp_newO]
  have hst := get_new (σ := τ') (o := .list [V.int (1 + c0 % 2147483645), V.int (1 + c1 % 40)])
  have hle2 : Le τ' (τ' ++ [O.list [V.int (1 + c0 % 2147483645), V.int (1 + c1 % 40)]]) := Le.append
  have hst0 : 0 < τ'.length := by have := lt_of_get h01; (first | lia | omega)
  have hlbst : lb < τ'.length := lt_of_get hlb
  generalize hl2 : (τ' ++ [O.list [V.int (1 + c0 % 2147483645), V.int (1 + c1 % 40)]]) = σ₂ at hst hle2 ⊢
  have hσ2 : σ₂.length = τ'.length + 1 := by rw [← hl2]; simp
  generalize τ'.length = st at hst hst0 hlbst hσ2 ⊢
  have h02 := hle2 _ _ h01
  refine Wp_bind.mpr ((cell_ok h02 (by decide)).mono fun r τ₂ h => ?_)
  obtain ⟨rfl, c3, rfl, hc3, hc3'⟩ := h
  have hp : (10 : Int) ^ (6 : Int).toNat = 1000000 := by decide
  rw [Wp_bind, Wp_pow (show (0 : Int) ≤ 6 by decide) (show (6 : Int) ≤ 1000 by decide) (show (10 : Int).natAbs < 1000 by decide), hp, Wp_bind, Wp_mod (b := 1000000) (by decide) (by decide), Wp_bind, Wp_add, Wp_bind, Wp_newO, Wp_bind, Wp_newO]
  have hml : (τ₂ ++ [O.list []] ++ [O.list [V.int (1 + c3 % 1000000), V.ref τ₂.length]])[τ₂.length]? = some (.list []) := Le.append _ _ get_new
  have hmt := get_new (σ := τ₂ ++ [O.list []]) (o := .list [V.int (1 + c3 % 1000000), V.ref τ₂.length])
  have hle3 : Le τ₂ (τ₂ ++ [O.list []] ++ [O.list [V.int (1 + c3 % 1000000), V.ref τ₂.length]]) := Le.append.trans Le.append
  have hmtl : (τ₂ ++ [O.list []]).length = τ₂.length + 1 := by simp
  generalize τ₂ ++ [O.list []] ++ [O.list [V.int (1 + c3 % 1000000), V.ref τ₂.length]] = σ₃ at hml hmt hle3 ⊢
  generalize (τ₂ ++ [O.list []]).length = mt at hmt hmtl ⊢
  have h03 := hle3 _ _ h02
  refine Wp_bind.mpr ((cell_ok h03 (by decide)).mono fun r τ₃ h => ?_)
  obtain ⟨rfl, c1', rfl, hc1'', _⟩ := h
  rw [Wp_bind, Wp_div (b := 40) (by decide) (by decide), Wp_bind, Wp_mod (b := 11) (by decide) (by decide), Wp_bind, Wp_add]
  obtain ⟨n, hn⟩ := Int.eq_ofNat_of_zero_le (show 0 ≤ 1 + c1' / 40 % 11 by (first | lia | omega))
  have hn5 : n < 12 := by (first | lia | omega)
  rw [show (2 : Int) + c1' / 40 % 11 = (n : Int) + 1 by (first | lia | omega)]
  have g : Gk 40 τ₃ st lb mt τ₂.length ls :=
    { st0 := hst0, ml0 := by (first | lia | omega), n1 := by (first | lia | omega), n2 := by (first | lia | omega), n3 := by (first | lia | omega), n4 := by (first | lia | omega), n5 := by (first | lia | omega)
      lab := hle3 _ _ (hle2 _ _ hlb), four := h4, nd := hnd, small := by decide
      met := ⟨_, by unfold Small; (first | lia | omega), hmt⟩
      run := ⟨_, _, [], hle3 _ _ hst, hml, by simp, by simp, by simp; (first | lia | omega)⟩ }
  refine Wp_bind.mpr ((kind_ok n 59 40 τ₃ (by (first | lia | omega)) g).mono fun k σ₄ h => ?_)
  obtain ⟨hx4, g4, hk⟩ := h
  have n0 : (0 : Nat) ∉ [st, τ₂.length] := by simp only [List.mem_cons, List.not_mem_nil, or_false, not_or]; (first | lia | omega)
  have h04 := hx4 _ _ n0 h03
  have hl4 := g4.lab
  rw [Wp_bind, Wp_newO, Wp_bind, Wp_newO]
  have hT : (σ₄ ++ [O.list [k]] ++ [O.list [V.int 8, V.int 9]])[σ₄.length]? = some (.list [k]) := Le.append _ _ get_new
  have hq := get_new (σ := σ₄ ++ [O.list [k]]) (o := O.list [V.int 8, V.int 9])
  have hle5 : Le σ₄ (σ₄ ++ [O.list [k]] ++ [O.list [V.int 8, V.int 9]]) := Le.append.trans Le.append
  have hql : (σ₄ ++ [O.list [k]]).length = σ₄.length + 1 := by simp
  generalize σ₄ ++ [O.list [k]] ++ [O.list [V.int 8, V.int 9]] = σ₅ at hT hq hle5 ⊢
  generalize (σ₄ ++ [O.list [k]]).length = q at hq hql ⊢
  rw [Wp_bind, Wp_srcRef hq]
  have hz := isK_sz hk
  have hpw := pow_le (n := n + 1) (by (first | lia | omega))
  refine two_ok (n := n + 1) (by decide) (by (first | lia | omega)) hk h4 hls { s0 := hle5 _ _ h04, lab := hle5 _ _ hl4, n1 := (by have := lt_of_get h04; (first | lia | omega)), n2 := (by have := lt_of_get hl4; (first | lia | omega)), th := ⟨[k], hT, rfl, fun x hx => by rw [List.mem_singleton.mp hx]; exact ⟨isK_dat hk, by (first | lia | omega)⟩⟩ } hq (by (first | lia | omega))
end

theorem law02 : LawOk tab02 gl02 60 := fun zs _ => by
  obtain ⟨r, σ', e, h⟩ := law02_wp zs
  exact ⟨σ', by rw [← h]; exact e⟩
end Mine

open PySem PySem.W PyProof.Rows
set_option maxHeartbeats 8000000 in
theorem PySem.Challenge.cw_uf010004_02_holds : PySem.Challenge.rw_uf010004_02.Holds := by
  w_on; o_law; o_head Hook.none; (case hw => w_witness2)
  intro w s₀ s₁ mg mb G Y fa o pm cd doc dV kV ho hd hcd hD hmg hg args vals as hpre hlay hrd hwl hlo
  refine Ground.open G ?_
  intro T B D TE TW
  have hmg' : mg "law" = some (.ref fa) := hmg
  clear hmg
  clear hd hcd hD Y
  wrow_args hpre hlay hrd hwl hlo
  rename_i zs _ _ _ _ _ _ _ la vs _ hL _ hw _ hI _ hlen _
  have hB := Mine.base_of (tab := Mine.tab02) (gs := Mine.gs02) T (by decide +kernel) (by kernel_rfl) (by decide +kernel) (by decide +kernel)
  refine wpAny_mono (Mine.law_run hB (by decide +kernel) hmg' (by decide +kernel) (Mine.list_at hL hw) hI (by omega) Mine.law02 (Mine.room_caller (by decide))) (fun v s' hp => ?_) fun _ _ f => f.elim
  obtain ⟨rfl, h1, h2, h3⟩ := hp
  exact GoodW.toG ⟨.inl ⟨_, .bool true, [], rfl, fun _ => by kernel_rfl, .bool true, by kernel_rfl, fun _ => ⟨List.nodup_nil, fun _ hm => absurd hm List.not_mem_nil⟩⟩, h1, h2, h3.trans hg⟩
