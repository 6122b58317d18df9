import PyProof.Rows.All
import KE.KDictLaws
import KE.KDictOf
import Wide.All
import Open.Line
import Wide.FinOn
import PySem.Challenge.RW_uf010004_05
set_option Elab.async false
set_option maxRecDepth 100000
set_option linter.unusedVariables false
set_option linter.unusedSimpArgs false

namespace Mine
open PySem

/-! ## Abstract values, store, monad -/

inductive V where
  | none
  | bool (b : Bool)
  | int (i : Int)
  | str (s : Str)
  | tup (l : List V)
  | ref (n : Nat)
  deriving Inhabited

/-- a key of a dict -/
abbrev Key := Int ⊕ Str

inductive O where
  | list (l : List V)
  | dict (l : List (Key × V))
  | inst (c : Str) (fs : List (Str × V))
  deriving Inhabited

abbrev Store := List O

inductive Res (α : Type) where
  | ok (a : α) (σ : Store)
  | exc (e : V) (σ : Store)
  | bad

noncomputable def M (α : Type) := Store → Res α

namespace M
noncomputable def pure {α : Type} (a : α) : M α := fun σ => .ok a σ
noncomputable def bind {α β : Type} (m : M α) (f : α → M β) : M β := fun σ => match m σ with
  | .ok a σ' => f a σ'
  | .exc e σ' => .exc e σ'
  | .bad => .bad
noncomputable def bad {α : Type} : M α := fun _ => .bad
end M
noncomputable instance : Monad M where
  pure := M.pure
  bind := M.bind

/-- the object of a number -/
noncomputable def getO (n : Nat) : M O := fun σ => match σ[n]? with
  | some o => .ok o σ
  | none => .bad
/-- an object is changed; the first one (the law's script) never is -/
noncomputable def setO (n : Nat) (o : O) : M Unit := fun σ => if 0 < n ∧ n < σ.length then .ok () (σ.set n o) else .bad
noncomputable def newO (o : O) : M V := fun σ => .ok (.ref σ.length) (σ ++ [o])

/-- a text that may be held -/
noncomputable def SOk (x : Str) : Prop := x.length ≤ sizeLine ∧ PyData.strOk x = true
noncomputable instance (x : Str) : Decidable (SOk x) := inferInstanceAs (Decidable (_ ∧ _))


/-! ## the monad -/
section
variable {σ : Store}
theorem bind_ok {α β : Type} {m : M α} {f : α → M β} {a : α} {σ' : Store} (h : m σ = .ok a σ') : (m >>= f) σ = f a σ' := by
  show (match m σ with | .ok a σ' => f a σ' | .exc e σ' => .exc e σ' | .bad => .bad) = _
  rw [h]
theorem bind_bad {α β : Type} {m : M α} {f : α → M β} (h : m σ = .bad) : (m >>= f) σ = .bad := by
  show (match m σ with | .ok a σ' => f a σ' | .exc e σ' => .exc e σ' | .bad => .bad) = _
  rw [h]
theorem bind_exc {α β : Type} {m : M α} {f : α → M β} {e : V} {σ' : Store} (h : m σ = .exc e σ') : (m >>= f) σ = .exc e σ' := by
  show (match m σ with | .ok a σ' => f a σ' | .exc e σ' => .exc e σ' | .bad => .bad) = _
  rw [h]
theorem M.assoc {α β γ : Type} (m : M α) (f : α → M β) (g : β → M γ) : (m >>= f) >>= g = m >>= fun a => f a >>= g := by
  funext σ
  cases e : m σ with
  | bad => rw [bind_bad e, bind_bad (bind_bad e)]
  | exc v σ' => rw [bind_exc e, bind_exc (bind_exc e)]
  | ok a σ' =>
    rw [bind_ok e]
    show (match (m >>= f) σ with | .ok a σ' => g a σ' | .exc e σ' => .exc e σ' | .bad => .bad) = (match f a σ' with | .ok a σ' => g a σ' | .exc e σ' => .exc e σ' | .bad => .bad)
    rw [bind_ok e]
end
noncomputable def isCompE : Expr → Bool
  | .ListComp _ _ _ _ => true
  | _ => false
noncomputable def isSliceE : Expr → Bool
  | .Slice _ _ _ _ => true
  | _ => false
noncomputable def isAttrE : Expr → Bool
  | .Attribute _ _ _ => true
  | _ => false
end Mine

namespace Mine
open PySem

abbrev Loc := List (Option V)
abbrev Names := List (Str × NameKind)

noncomputable def slotGo : Names → Str → Nat → Option (Nat × NameKind)
  | [], _, _ => none
  | (y, k) :: r, x, i => match x == y with
    | true => some (i, k)
    | false => slotGo r x (i + 1)
noncomputable def slot (ns : Names) (x : Str) : Option (Nat × NameKind) := slotGo ns x 0

noncomputable def ofOpt {α : Type} : Option α → M α
  | some a => pure a
  | none => M.bad

/-- the value of an own name -/
noncomputable def ldLoc (loc : Loc) (i : Nat) : M V := ofOpt (loc[i]?.join)

noncomputable def stLoc (ns : Names) (x : Str) (v : V) (loc : Loc) : M Loc := match slot ns x with
  | some (i, .local) => pure (loc.set i (some v))
  | some (i, .cell) => pure (loc.set i (some v))
  | _ => M.bad

/-- a comprehension's own names are plain locals -/
noncomputable def stLocL (ns : Names) (x : Str) (v : V) (loc : Loc) : M Loc := match slot ns x with
  | some (i, .local) => pure (loc.set i (some v))
  | _ => M.bad

/-- what a text is run in: its own defs, and the plain values of its top -/
structure Cfg where
  isFn : Str → Bool
  call : Str → List V → M V
  glob : Str → Option V

/-! ### values -/
noncomputable def constV : Const → M V
  | .none => pure .none
  | .bool b => pure (.bool b)
  | .int i => pure (.int i)
  | .str s => if SOk s then pure (.str s) else M.bad
  | _ => M.bad

noncomputable def truth : V → M Bool
  | .none => pure false
  | .bool b => pure b
  | .int i => pure (i != 0)
  | .str s => pure (s.length != 0)
  | .tup l => pure (l.length != 0)
  | .ref n => do
    match ← getO n with
    | .list l => pure (l.length != 0)
    | _ => M.bad

/-- a number of 64 bits -/
noncomputable def Small (a : Int) : Prop := -18446744073709551616 < a ∧ a < 18446744073709551616
noncomputable instance (a : Int) : Decidable (Small a) := inferInstanceAs (Decidable (_ ∧ _))

noncomputable def getList (n : Nat) : M (List V) := do
  match ← getO n with
  | .list l => pure l
  | _ => M.bad

/-! ### dicts -/
noncomputable def keyOf : V → Option Key
  | .int i => some (.inl i)
  | .str s => some (.inr s)
  | _ => none
noncomputable def keyV : Key → V
  | .inl i => .int i
  | .inr s => .str s
abbrev Tab := List (Key × V)
noncomputable def dGet (l : Tab) (k : Key) : Option V := (l.find? fun p => p.1 = k).map (·.2)
noncomputable def dSet (l : Tab) (k : Key) (v : V) : Tab := if l.any (fun p => p.1 = k) then l.map (fun p => if p.1 = k then (p.1, v) else p) else l ++ [(k, v)]
noncomputable def getDict (n : Nat) : M Tab := do
  match ← getO n with
  | .dict l => pure l
  | _ => M.bad

noncomputable def intOp (op : Operator) (a b : Int) : M V := match op with
  | .Add => pure (.int (a + b))
  | .Sub => pure (.int (a - b))
  | .Mult => if Small a ∨ Small b then pure (.int (a * b)) else M.bad
  | .FloorDiv => if b ≠ 0 ∧ Small b then pure (.int (a.fdiv b)) else M.bad
  | .Mod => if b ≠ 0 ∧ Small b then pure (.int (a.fmod b)) else M.bad
  | .Pow => if 0 ≤ b ∧ b ≤ 1000 ∧ a.natAbs < 1000 then pure (.int (a ^ b.toNat)) else M.bad
  | _ => M.bad
noncomputable def isAdd : Operator → Bool
  | .Add => true
  | _ => false
noncomputable def addV (a b : V) : M V := match a with
  | .str x => (match b with
    | .str y => if x.length + y.length ≤ sizeLine then pure (.str (x ++ y)) else M.bad
    | _ => M.bad)
  | .tup x => (match b with
    | .tup y => if x.length + y.length ≤ sizeLine then pure (.tup (x ++ y)) else M.bad
    | _ => M.bad)
  | .ref x => (match b with
    | .ref y => do
      let l ← getList x
      let m ← getList y
      if l.length + m.length ≤ sizeLine then newO (.list (l ++ m)) else M.bad
    | _ => M.bad)
  | _ => M.bad
noncomputable def binop (op : Operator) (a b : V) : M V := match a with
  | .int x => (match b with
    | .int y => intOp op x y
    | _ => M.bad)
  | _ => cond (isAdd op) (addV a b) M.bad

/-! ### equality -/
mutual
/-- a value as plain data; f tells the objects -/
noncomputable def toPyT (f : Nat → Option PyData) : V → Option PyData
  | .none => some .none
  | .bool b => some (.bool b)
  | .int i => some (.int i)
  | .str s => some (.str s)
  | .tup l => (toPyTs f l).map .tuple
  | .ref n => f n
noncomputable def toPyTs (f : Nat → Option PyData) : List V → Option (List PyData)
  | [] => some []
  | x :: r => match toPyT f x, toPyTs f r with
    | some d, some ds => some (d :: ds)
    | _, _ => none
end
noncomputable def toPyF (σ : Store) : Nat → Nat → Option PyData
  | 0, _ => none
  | k + 1, n => match σ[n]? with
    | some (.list l) => (toPyTs (toPyF σ k) l).map .list
    | _ => none
noncomputable def toPy (σ : Store) (v : V) : Option PyData := toPyT (toPyF σ 4) v

noncomputable def veq (σ : Store) (a b : V) : Option Bool := match toPy σ a, toPy σ b with
  | some x, some y => if min x.depth y.depth ≤ 200 then some (PyData.eqv x y) else none
  | _, _ => none

/-- is a value among others -/
noncomputable def vin (σ : Store) (x : V) : List V → Option Bool
  | [] => some false
  | y :: r => match veq σ y x, vin σ x r with
    | some e, some t => some (e || t)
    | _, _ => none

/-- the store is asked -/
noncomputable def askS {α : Type} (f : Store → Option α) : M α := fun σ => match f σ with
  | some a => .ok a σ
  | none => .bad

/-- the order of texts -/
noncomputable def strLt (a b : Str) : Bool := decide (a.cps.toList < b.cps.toList)

/-- is a value in an object -/
noncomputable def among (a : V) (n : Nat) : M Bool := do
  match ← getO n with
  | .list l => askS fun σ => vin σ a l
  | .dict l => ofOpt ((keyOf a).map fun k => (dGet l k).isSome)
  | _ => M.bad

/-- is a value in another -/
noncomputable def inV (a b : V) : M Bool := match b with
  | .tup l => askS fun σ => vin σ a l
  | .ref n => among a n
  | .str y => (match a with
    | .str x => pure (Txt.contains y x)
    | _ => M.bad)
  | _ => M.bad
/-- two numbers, or two texts -/
noncomputable def ordV (f : Int → Int → Bool) (g : Str → Str → Bool) (a b : V) : M V := match a with
  | .int x => (match b with
    | .int y => pure (.bool (f x y))
    | _ => M.bad)
  | .str x => (match b with
    | .str y => pure (.bool (g x y))
    | _ => M.bad)
  | _ => M.bad
/-- the very same thing: none, or a bool -/
noncomputable def isV (a b : V) : M Bool := match b with
  | .none => pure (match a with | .none => true | _ => false)
  | .bool c => pure (match a with | .bool d => d == c | _ => false)
  | _ => M.bad
noncomputable def cmp (op : CmpOp) (a b : V) : M V := match op with
  | .Eq => askS fun σ => (veq σ a b).map V.bool
  | .NotEq => askS fun σ => (veq σ a b).map fun e => V.bool (!e)
  | .Lt => ordV (fun x y => decide (x < y)) (fun x y => strLt x y) a b
  | .LtE => ordV (fun x y => decide (x ≤ y)) (fun x y => !strLt y x) a b
  | .Gt => ordV (fun x y => decide (y < x)) (fun x y => strLt y x) a b
  | .GtE => ordV (fun x y => decide (y ≤ x)) (fun x y => !strLt x y) a b
  | .Is => isV a b >>= fun c => pure (V.bool c)
  | .IsNot => isV a b >>= fun c => pure (V.bool (!c))
  | .In => inV a b >>= fun c => pure (V.bool c)
  | .NotIn => inV a b >>= fun c => pure (V.bool (!c))

/-! ### items -/
/-- a place in something of a length, negative ones from its end -/
noncomputable def place (i : Int) (n : Nat) : Option Nat :=
  if 0 ≤ i then (if i < n then some i.toNat else none) else if 0 ≤ i + n then some (i + n).toNat else none

noncomputable def chr1 (c : Nat) : Str := ⟨#[c]⟩

noncomputable def itemL (l : List V) : V → M V
  | .int i => ofOpt ((place i l.length).bind fun k => l[k]?)
  | _ => M.bad
noncomputable def item : V → V → M V
  | .tup l, .int i => ofOpt ((place i l.length).bind fun k => l[k]?)
  | .str s, .int i => ofOpt ((place i s.length).bind fun k => (s.cps[k]?).map fun c => V.str (chr1 c))
  | .ref n, b => do
    match ← getO n with
    | .list l => itemL l b
    | .dict l => ofOpt ((keyOf b).bind (dGet l))
    | _ => M.bad
  | _, _ => M.bad

noncomputable def setL (n : Nat) (l : List V) (b v : V) : M Unit := match b with
  | .int i => if 0 ≤ i ∧ i < l.length then setO n (.list (l.set i.toNat v)) else M.bad
  | _ => M.bad
noncomputable def setD (n : Nat) (l : Tab) (b v : V) : M Unit := match keyOf b with
  | some k => if l.length + 1 ≤ sizeLine then setO n (.dict (dSet l k v)) else M.bad
  | none => M.bad
noncomputable def setItem : V → V → V → M Unit
  | .ref n, b, v => do
    match ← getO n with
    | .list l => setL n l b v
    | .dict l => setD n l b v
    | _ => M.bad
  | _, _, _ => M.bad

/-- a slice: from, up to -/
noncomputable def cut {α : Type} (l : List α) (lo hi : Option Int) : List α :=
  (l.drop (lo.elim 0 (clipAt l.length))).take (hi.elim l.length (clipAt l.length) - lo.elim 0 (clipAt l.length))
noncomputable def cutStr (s : Str) (lo hi : Option Int) : Str := ⟨(cut s.cps.toList lo hi).toArray⟩

noncomputable def sliceV (lo hi : Option Int) : V → M V
  | .tup l => pure (.tup (cut l lo hi))
  | .str s => pure (.str (cutStr s lo hi))
  | .ref n => do
    let l ← getList n
    newO (.list (cut l lo hi))
  | _ => M.bad

noncomputable def bound : V → M (Option Int)
  | .none => pure none
  | .int i => pure (some i)
  | _ => M.bad

/-! ### what is walked -/
inductive Src where
  | vals (l : List V)
  | lst (n : Nat)
  | enum (n : Nat)

noncomputable def listAt (σ : Store) (n : Nat) : Option (List V) := match σ[n]? with
  | some (.list l) => some l
  | _ => none
/-- what stands at a turn: none, where the walk is at its end -/
noncomputable def Src.at (σ : Store) : Src → Nat → Option (Option V)
  | .vals l, i => some l[i]?
  | .lst n, i => (listAt σ n).map fun l => l[i]?
  | .enum n, i => (listAt σ n).map fun l => l[i]?.map fun v => .tup [.int i, v]
noncomputable def Src.get (s : Src) (i : Nat) : M (Option V) := askS fun σ => s.at σ i
noncomputable def Src.size (σ : Store) : Src → Option Nat
  | .vals l => some l.length
  | .lst n => (listAt σ n).map (·.length)
  | .enum n => (listAt σ n).map (·.length)
noncomputable def Src.count (s : Src) : M Nat := askS s.size

noncomputable def chars (s : Str) : List V := s.cps.toList.map fun c => V.str (chr1 c)
noncomputable def srcV : V → M Src
  | .tup l => pure (.vals l)
  | .str s => if s.cps.all (· < 128) = true then pure (.vals (chars s)) else M.bad
  | .ref n => do let _ ← getList n; pure (.lst n)
  | _ => M.bad

noncomputable def rangeV (a b : Int) : List V := (List.range (b - a).toNat).map fun (k : Nat) => V.int (a + k)

/-! ### built-in functions -/
noncomputable def allStrs : List V → Option (List Str)
  | [] => some []
  | .str s :: r => (allStrs r).map (s :: ·)
  | _ :: _ => none

noncomputable def itemsOf : V → M (List V)
  | .tup l => pure l
  | .ref n => getList n
  | _ => M.bad

noncomputable def bLen : V → M V
  | .tup l => pure (.int l.length)
  | .str s => pure (.int s.length)
  | .ref n => do
    match ← getO n with
    | .list l => pure (.int l.length)
    | .dict l => pure (.int l.length)
    | _ => M.bad
  | _ => M.bad
noncomputable def keysOf (a : V) : M (List V) := match a with
  | .ref n => do
    match ← getO n with
    | .list l => pure l
    | .dict l => pure (l.map fun p => keyV p.1)
    | _ => M.bad
  | .tup l => pure l
  | _ => M.bad
noncomputable def bList (a : V) : M V := do
  let l ← keysOf a
  newO (.list l)
/-- a text's place among others -/
noncomputable def putS (x : Str) : List Str → List Str
  | [] => [x]
  | y :: r => if strLt y x then y :: putS x r else x :: y :: r
noncomputable def sortS : List Str → List Str
  | [] => []
  | x :: r => putS x (sortS r)
noncomputable def bSorted : V → M V
  | .ref n => do
    let l ← getList n
    let ss ← ofOpt (allStrs l)
    if ss.length < 64 then newO (.list ((sortS ss).map V.str)) else M.bad
  | _ => M.bad
noncomputable def allInts : List V → Option (List Int)
  | [] => some []
  | .int i :: r => (allInts r).map (i :: ·)
  | _ :: _ => none
noncomputable def bSum : V → M V
  | .ref n => do
    let l ← getList n
    let is ← ofOpt (allInts l)
    pure (.int is.sum)
  | _ => M.bad
noncomputable def allBools : List V → Option (List Bool)
  | [] => some []
  | .bool b :: r => (allBools r).map (b :: ·)
  | _ :: _ => none
noncomputable def bAll : V → M V
  | .ref n => do
    let l ← getList n
    let bs ← ofOpt (allBools l)
    pure (.bool (bs.all id))
  | _ => M.bad
/-- a dict of pairs -/
noncomputable def pairsOf : List V → Option Tab
  | [] => some []
  | .tup [k, v] :: r => match keyOf k, pairsOf r with
    | some k, some t => some ((k, v) :: t)
    | _, _ => none
  | _ :: _ => none
noncomputable def dMerge (l : Tab) : Tab → Tab
  | [] => l
  | (k, v) :: r => dMerge (dSet l k v) r
noncomputable def bDict (a : V) : M V := do
  let l ← itemsOf a
  let t ← ofOpt (pairsOf l)
  newO (.dict (dMerge [] t))
noncomputable def bTuple (a : V) : M V := do
  let l ← itemsOf a
  pure (.tup l)

noncomputable def blt (f : Str) : List V → M V
  | [a] =>
    if f = ("len" : Str) then bLen a
    else if f = ("list" : Str) then bList a
    else if f = ("tuple" : Str) then bTuple a
    else if f = ("sorted" : Str) then bSorted a
    else if f = ("dict" : Str) then bDict a
    else if f = ("sum" : Str) then bSum a
    else if f = ("all" : Str) then bAll a
    else M.bad
  | _ => M.bad

inductive Kd where
  | bool | int | str | tuple | list
noncomputable def kdOf (t : Str) : Option Kd :=
  if t = ("bool" : Str) then some .bool
  else if t = ("int" : Str) then some .int
  else if t = ("str" : Str) then some .str
  else if t = ("tuple" : Str) then some .tuple
  else if t = ("list" : Str) then some .list
  else none
noncomputable def isKd : Kd → V → M V
  | _, .none => pure (.bool false)
  | k, .bool _ => pure (.bool (match k with | .bool | .int => true | _ => false))
  | k, .int _ => pure (.bool (match k with | .int => true | _ => false))
  | k, .str _ => pure (.bool (match k with | .str => true | _ => false))
  | k, .tup _ => pure (.bool (match k with | .tuple => true | _ => false))
  | k, .ref n => do
    let _ ← getList n
    pure (.bool (match k with | .list => true | _ => false))

noncomputable def mAppend : V → V → M V
  | .ref n, a => do
    let l ← getList n
    if l.length + 1 ≤ sizeLine then do
      setO n (.list (l ++ [a]))
      pure .none
    else M.bad
  | _, _ => M.bad
noncomputable def mJoin : V → V → M V
  | .str sep, a => do
    let l ← itemsOf a
    let ss ← ofOpt (allStrs l)
    if (ss.map (·.length)).sum + ss.length * sep.length ≤ 16777216 then pure (.str (Txt.join sep ss)) else M.bad
  | _, _ => M.bad

/-- the first place of a value -/
noncomputable def vidx (σ : Store) (x : V) : List V → Nat → Option Nat
  | [], _ => none
  | y :: r, i => match veq σ y x with
    | some true => some i
    | some false => vidx σ x r (i + 1)
    | none => none
noncomputable def mIndex : V → V → M V
  | .ref n, a => do
    let l ← getList n
    askS fun σ => match vin σ a l with
      | some true => (vidx σ a l 0).map fun (k : Nat) => V.int (k : Int)
      | _ => none
  | _, _ => M.bad
noncomputable def mSetdefault : V → V → V → M V
  | .ref n, b, v => do
    let l ← getDict n
    let k ← ofOpt (keyOf b)
    match dGet l k with
    | some x => pure x
    | none => if l.length + 1 ≤ sizeLine then (setO n (.dict (l ++ [(k, v)])) >>= fun _ => pure v) else M.bad
  | _, _, _ => M.bad
/-- a method, by the kind of what it is asked of -/
inductive MTag where
  | append | join | index | setdefault
noncomputable def mtag (v : V) (m : Str) (σ : Store) : Option MTag := match v with
  | .str _ => if m = ("join" : Str) then some .join else none
  | .ref n => (match σ[n]? with
    | some (.list _) => if m = ("append" : Str) then some .append else if m = ("index" : Str) then some .index else none
    | some (.dict _) => if m = ("setdefault" : Str) then some .setdefault else none
    | _ => none)
  | _ => none
noncomputable def runM : MTag → V → List V → M V
  | .append, o, [a] => mAppend o a
  | .join, o, [a] => mJoin o a
  | .index, o, [a] => mIndex o a
  | .setdefault, o, [a, b] => mSetdefault o a b
  | _, _, _ => M.bad

/-! ### expressions -/
inductive Fl where
  | next | brk | cont
  | ret (v : V)

/-- the names of a comprehension's block, those of the block around it as cells -/
noncomputable def relab (ns : Names) (names : Names) : Names := names.map fun (x, k) => if k == .free && ns.lookup x == some .cell then (x, .cell) else (x, k)

/-- the values that a comprehension's block sees -/
noncomputable def innerLoc (ns : Names) (loc : Loc) : Names → M Loc
  | [] => pure []
  | (x, .free) :: r => (match slot ns x with
    | some (i, .cell) => do
      let t ← innerLoc ns loc r
      pure (((loc[i]?).getD none) :: t)
    | _ => M.bad)
  | (_, .cell) :: _ => M.bad
  | (_, _) :: r => do
    let t ← innerLoc ns loc r
    pure (none :: t)

noncomputable def isGlob (ns : Names) (x : Str) : Bool := match slot ns x with
  | some (_, .globalImplicit) => !(x == ("__debug__" : Str))
  | _ => false

noncomputable def compLoop (s : Src) (bindT : V → Loc → M Loc) (tests : Loc → M Bool) (elt : Loc → M V) : Nat → Nat → Loc → M (List V)
  | 0, _, _ => M.bad
  | k + 1, i, loc => do
    match ← s.get i with
    | none => pure []
    | some v => do
      let loc' ← bindT v loc
      if ← tests loc' then do
        let x ← elt loc'
        let r ← compLoop s bindT tests elt k (i + 1) loc'
        pure (x :: r)
      else compLoop s bindT tests elt k (i + 1) loc'

noncomputable def bindNames (st : Str → V → Loc → M Loc) : List Expr → List V → Loc → M Loc
  | [], [], loc => pure loc
  | .Name x _ :: ts, v :: vs, loc => do
    let loc' ← st x v loc
    bindNames st ts vs loc'
  | _, _, _ => M.bad

/-- a target of names -/
noncomputable def bindTo (st : Str → V → Loc → M Loc) : Expr → V → Loc → M Loc
  | .Name x _, v, loc => st x v loc
  | .Tuple ts _ _, .tup l, loc => bindNames st ts l loc
  | _, _, _ => M.bad

/-- a name's value -/
noncomputable def ldName (C : Cfg) (ns : Names) (x : Str) (loc : Loc) : M V := match slot ns x with
  | some (i, .local) => ldLoc loc i
  | some (i, .cell) => ldLoc loc i
  | some (_, .globalImplicit) => ofOpt (C.glob x)
  | _ => M.bad

/-- a call without arguments (super() is one) -/
noncomputable def isSuper : Expr → Bool
  | .Call (.Name _ _) [] [] _ => true
  | _ => false

/-- a call of a global name, its arguments at hand -/
noncomputable def callGlob (C : Cfg) (f : Str) (vs : List V) : M V := if C.isFn f then C.call f vs else blt f vs

noncomputable def rangeOf : V → M Src
  | .int n => if -1000000 ≤ n ∧ n ≤ 1000000 then pure (.vals (rangeV 0 n)) else M.bad
  | _ => M.bad
noncomputable def enumOf : V → M Src
  | .ref n => do let _ ← getList n; pure (.enum n)
  | _ => M.bad

/-- targets that a walk can serve -/
noncomputable def tgtOk : Src → Expr → Bool
  | .enum _, .Tuple .. => true
  | .enum _, _ => false
  | _, _ => true
/-- a block that a comprehension may have -/
noncomputable def compOk (k : ScopeKind) (names : Names) : Bool := (match k with | .function => true | _ => false) &&
  names.all fun p => match p.2 with
    | .local => (match names.lookup p.1 with | some .local => true | _ => false)
    | _ => true
/-- a tuple display -/
noncomputable def isTupE : Expr → Bool
  | .Tuple .. => true
  | _ => false

/-- a call that makes something to walk -/
noncomputable def srcTag (C : Cfg) (ns : Names) (f : Str) : Nat := if isGlob ns f && !C.isFn f then (if f = ("range" : Str) then 1 else if f = ("enumerate" : Str) then 2 else 0) else 0

/-- by what a comparison told -/
noncomputable def boolK {α : Type} (x : V) (yes no : M α) : M α := match x with
  | .bool b => cond b yes no
  | _ => M.bad
/-- a number that is written out -/
noncomputable def litInt : Expr → Option Int
  | .Constant (.int i) _ _ => some i
  | .UnaryOp .USub (.Constant (.int i) _ _) _ => some (-i)
  | _ => none
/-- a dict display of one pair of numbers -/
noncomputable def dict1 (k v : Expr) : M V := match litInt k, litInt v with
  | some i, some j => newO (.dict [(.inl i, .int j)])
  | _, _ => M.bad

mutual
noncomputable def ev (C : Cfg) : Expr → Names → Loc → M V
  | .Constant c _ _, _, _ => constV c
  | .Name x _, ns, loc => if x = ("__debug__" : Str) then M.bad else ldName C ns x loc
  | .BinOp l op r _, ns, loc => do
    let a ← ev C l ns loc
    let b ← ev C r ns loc
    binop op a b
  | .UnaryOp .Not x _, ns, loc => do
    let a ← ev C x ns loc
    let t ← truth a
    pure (.bool (!t))
  | .UnaryOp .USub (.Constant (.int i) _ _) _, _, _ => pure (.int (-i))
  | .BoolOp op vs _, ns, loc => evBool C vs op ns loc
  | .Compare l [op] [r] _, ns, loc => do
    let a ← ev C l ns loc
    let b ← ev C r ns loc
    cmp op a b
  | .Compare l [op, op2] [m, r] _, ns, loc => do
    let a ← ev C l ns loc
    let b ← ev C m ns loc
    let x ← cmp op a b
    boolK x (do
      let c ← ev C r ns loc
      cmp op2 b c) (pure (.bool false))
  | .Dict [] [] _, _, _ => newO (.dict [])
  | .Dict [some k] [v] _, _, _ => dict1 k v
  | .IfExp t a b _, ns, loc => do
    if ← tst C t ns loc (ev C t ns loc) then ev C a ns loc else ev C b ns loc
  | .Subscript o (.Slice lo hi none _) _, ns, loc => do
    let a ← ev C o ns loc
    let l ← evOpt C lo ns loc
    let h ← evOpt C hi ns loc
    let l' ← bound l
    let h' ← bound h
    sliceV l' h' a
  | .Subscript o i _, ns, loc => do
    let a ← ev C o ns loc
    let b ← ev C i ns loc
    item a b
  | .List es _, ns, loc => do
    let vs ← evs C es ns loc
    if vs.length ≤ sizeLine then newO (.list vs) else M.bad
  | .Tuple es _ _, ns, loc => do
    let vs ← evs C es ns loc
    if vs.length ≤ sizeLine then pure (.tup vs) else M.bad
  | .Call (.Name f _) as [] _, ns, loc =>
    if isGlob ns f then
      (if f = ("isinstance" : Str) then evIsi C as ns loc
      else do
        let vs ← evs C as ns loc
        callGlob C f vs)
    else M.bad
  | .Call (.Attribute o m ap) as [] p, ns, loc =>
    if ap.endLine = p.line ∧ as.length < 30 ∧ isSuper o = false then do
      let v ← ev C o ns loc
      let tg ← askS (mtag v m)
      let vs ← evs C as ns loc
      runM tg v vs
    else M.bad
  | .ListComp elt [⟨target, iter, ifs, 0⟩] scope _, ns, loc => do
    let s ← src C iter ns loc (ev C iter ns loc)
    if tgtOk s target && compOk scope.kind scope.names then do
      let n ← s.count
      let loc' ← innerLoc ns loc scope.names
      let l ← compLoop s (bindTo (stLocL (relab ns scope.names)) target) (tests C ifs (relab ns scope.names)) (ev C elt (relab ns scope.names)) (n + 1) 0 loc'
      if l.length ≤ sizeLine then newO (.list l) else M.bad
    else M.bad
  | _, _, _ => M.bad

noncomputable def evOpt (C : Cfg) : Option Expr → Names → Loc → M V
  | none, _, _ => pure .none
  | some e, ns, loc => ev C e ns loc

noncomputable def evs (C : Cfg) : List Expr → Names → Loc → M (List V)
  | [], _, _ => pure []
  | e :: r, ns, loc => do
    let v ← ev C e ns loc
    let vs ← evs C r ns loc
    pure (v :: vs)

noncomputable def evIsi (C : Cfg) : List Expr → Names → Loc → M V
  | [a, .Name t _], ns, loc => if isGlob ns t then do
      let v ← ev C a ns loc
      let k ← ofOpt (kdOf t)
      isKd k v
    else M.bad
  | _, _, _ => M.bad

noncomputable def evBool (C : Cfg) : List Expr → BoolOp → Names → Loc → M V
  | [], _, _, _ => M.bad
  | e :: r, op, ns, loc => do
    let v ← ev C e ns loc
    match r with
    | [] => pure v
    | _ :: _ => do
      let t ← truth v
      match op, t with
      | .And, false => pure v
      | .Or, true => pure v
      | _, _ => evBool C r op ns loc

noncomputable def tst (C : Cfg) : Expr → Names → Loc → M V → M Bool
  | .UnaryOp .Not x _, ns, loc, _ => do
    let b ← tst C x ns loc (ev C x ns loc)
    pure (!b)
  | .BoolOp op vs _, ns, loc, _ => tstAll C vs op ns loc
  | .IfExp t a b _, ns, loc, _ => do
    if ← tst C t ns loc (ev C t ns loc) then tst C a ns loc (ev C a ns loc) else tst C b ns loc (ev C b ns loc)
  | _, _, _, whole => do
    let v ← whole
    truth v

noncomputable def tstAll (C : Cfg) : List Expr → BoolOp → Names → Loc → M Bool
  | [], op, _, _ => pure (op == .And)
  | e :: r, op, ns, loc => do
    let b ← tst C e ns loc (ev C e ns loc)
    match op, b with
    | .And, false => pure false
    | .Or, true => pure true
    | _, _ => tstAll C r op ns loc

noncomputable def tests (C : Cfg) : List Expr → Names → Loc → M Bool
  | [], _, _ => pure true
  | e :: r, ns, loc => match r with
    | [] => tst C e ns loc (ev C e ns loc)
    | _ :: _ => M.bad

noncomputable def src (C : Cfg) : Expr → Names → Loc → M V → M Src
  | .Call (.Name f _) as [] _, ns, loc, whole =>
    (match as with
    | [a] => if srcTag C ns f = 1 then (do
        let v ← ev C a ns loc
        rangeOf v)
      else if srcTag C ns f = 2 then (do
        let v ← ev C a ns loc
        enumOf v)
      else (do
        let v ← whole
        srcV v)
    | _ => do
      let v ← whole
      srcV v)
  | _, _, _, whole => do
    let v ← whole
    srcV v
end

/-! ### statements -/
noncomputable def andThen (r : Fl × Loc) (k : Loc → M (Fl × Loc)) : M (Fl × Loc) := match r.1 with
  | .next => k r.2
  | f => pure (f, r.2)

noncomputable def forLoop (s : Src) (bindT : V → Loc → M Loc) (body : Loc → M (Fl × Loc)) : Nat → Nat → Loc → M (Fl × Loc)
  | 0, _, _ => M.bad
  | k + 1, i, loc => do
    match ← s.get i with
    | none => pure (.next, loc)
    | some v => do
      let loc' ← bindT v loc
      let r ← body loc'
      match r.1 with
      | .next => forLoop s bindT body k (i + 1) r.2
      | .cont => forLoop s bindT body k (i + 1) r.2
      | .brk => pure (.next, r.2)
      | .ret v => pure (.ret v, r.2)

mutual
noncomputable def ex (C : Cfg) : Stmt → Names → Loc → M (Fl × Loc)
  | .Expr (.Call f as [] p) _, ns, loc => do
    let _ ← ev C (.Call f as [] p) ns loc
    pure (.next, loc)
  | .Pass _, _, loc => pure (.next, loc)
  | .Return none _, _, loc => pure (.ret .none, loc)
  | .Return (some e) _, ns, loc => do
    let v ← ev C e ns loc
    pure (.ret v, loc)
  | .Assign [.Name x _] value _, ns, loc => do
    let v ← ev C value ns loc
    let loc' ← stLoc ns x v loc
    pure (.next, loc')
  | .Assign [.Subscript o i _] value _, ns, loc => do
    let v ← ev C value ns loc
    let a ← ev C o ns loc
    let b ← ev C i ns loc
    setItem a b v
    pure (.next, loc)
  | .Assign [.Tuple ts k q] value _, ns, loc => do
    if isTupE value then M.bad
    else do
      let v ← ev C value ns loc
      let loc' ← bindTo (stLoc ns) (.Tuple ts k q) v loc
      pure (.next, loc')
  | .If t a b _, ns, loc => do
    if ← tst C t ns loc (ev C t ns loc) then exs C a ns loc else exs C b ns loc
  | .For target iter body [] _, ns, loc => do
    let s ← src C iter ns loc (ev C iter ns loc)
    if tgtOk s target then do
      let n ← s.count
      forLoop s (bindTo (stLoc ns) target) (exs C body ns) (n + 1) 0 loc
    else M.bad
  | _, _, _ => M.bad

noncomputable def exs (C : Cfg) : List Stmt → Names → Loc → M (Fl × Loc)
  | [], _, loc => pure (.next, loc)
  | s :: r, ns, loc => do
    let x ← ex C s ns loc
    andThen x (exs C r ns)
end

/-! ### functions -/
structure Fn where
  params : List Str
  names : Names
  body : List Stmt

noncomputable def initLoc (params : List Str) (args : List V) : Names → Loc
  | [] => []
  | (x, _) :: r => ((params.zip args).lookup x) :: initLoc params args r

noncomputable def callFn (C : Cfg) (f : Fn) (args : List V) : M V :=
  if args.length = f.params.length then do
    let r ← exs C f.body f.names (initLoc f.params args f.names)
    pure (match r.1 with | .ret v => v | _ => .none)
  else M.bad

/-- calls of at most so many deep -/
noncomputable def callN (fns : Str → Option Fn) (glob : Str → Option V) : Nat → Str → List V → M V
  | 0, _, _ => M.bad
  | n + 1, f, args => match fns f with
    | some fn => callFn ⟨fun x => (fns x).isSome, callN fns glob n, glob⟩ fn args
    | none => M.bad

/-- the defs of a text -/
noncomputable def fnsOf : List Stmt → Str → Option Fn
  | [], _ => none
  | .FunctionDef name args body _ _ _ scope _ _ _ :: r, x => match x == name with
    | true => some ⟨args.args.map (·.arg), scope.names, body⟩
    | false => fnsOf r x
  | _ :: r, x => fnsOf r x

end Mine

namespace Mine
open PySem PyProof.Rows

/-! ## The relation to the heap -/

abbrev Map := List (Addr × Addr)

noncomputable def tupO (vs : List Value) (n : Nat) : Obj := { cls := .type "tuple", data := .seq vs.toArray n }
noncomputable def listO (vs : List Value) (n : Nat) : Obj := { cls := .type "list", data := .seq vs.toArray n }

mutual
inductive Rel (ρ : Map) (h : Heap) : Value → V → Prop
  | none : Rel ρ h .none .none
  | bool (b : Bool) : Rel ρ h (.bool b) (.bool b)
  | int (i : Int) (t : Tok) : Rel ρ h (.int i t) (.int i)
  | str (x : Str) (t : Tok) : SOk x → Rel ρ h (.str x t) (.str x)
  | tup {a : Addr} {vs : List Value} {n : Nat} {l : List V} : h.get? a = some (tupO vs n) → vs.length ≤ sizeLine → RelAll ρ h vs l → Rel ρ h (.ref a) (.tup l)
  | ref {a d : Addr} {n : Nat} : ρ[n]? = some (a, d) → Rel ρ h (.ref a) (.ref n)
inductive RelAll (ρ : Map) (h : Heap) : List Value → List V → Prop
  | nil : RelAll ρ h [] []
  | cons {v : Value} {vs : List Value} {x : V} {l : List V} : Rel ρ h v x → RelAll ρ h vs l → RelAll ρ h (v :: vs) (x :: l)
end

/-! keys of a dict -/
noncomputable def keyIs : Key → Value → Bool
  | .inl i, v => Value.isInt i v
  | .inr x, v => Value.isStrOf x v
noncomputable def keyHash (w : World) : Key → Int
  | .inl i => hashInt i
  | .inr x => hashStr w x
theorem keyIs_shape : ∀ {k : Key} {v : Value}, keyIs k v = true → (∃ i t, k = .inl i ∧ v = .int i t) ∨ ∃ x t, k = .inr x ∧ v = .str x t
  | .inl i, v, h => let ⟨t, e⟩ := Value.isInt_shape (k := i) h; .inl ⟨i, t, rfl, e⟩
  | .inr x, v, h => let ⟨t, e⟩ := Value.isStrOf_shape (x := x) h; .inr ⟨x, t, rfl, e⟩
theorem isInt_same (i : Int) (t : Tok) : Value.isInt i (.int i t) = true := by simp [Value.isInt]
theorem isStrOf_same (x : Str) (t : Tok) : Value.isStrOf x (.str x t) = true := by simp [Value.isStrOf]
theorem eqBool_int_str {prog : Program} {w : World} {A : Around} {E : Value → Shared → Prop} {s : Shared} {a : Int} {t : Tok} {b : Str} {u : Tok} {Q : Bool → Shared → Prop} (h : Q false s) : wpAny (model prog w) A (eqBool (.int a t) (.str b u)) Q E s := by
  unfold eqBool
  refine wpAny_holding ?_
  have e : (Value.int a t == Value.str b u) = false := rfl
  rw [if_neg (by rw [e]; decide)]
  show wpAny _ _ (compareOp .Eq (Value.int a t) (Value.str b u) >>= _) Q E s
  exact wpAny_bind (EqMixed.eq_int_str (wpAny_truthy_bool h))
theorem eqBool_str_int {prog : Program} {w : World} {A : Around} {E : Value → Shared → Prop} {s : Shared} {a : Int} {t : Tok} {b : Str} {u : Tok} {Q : Bool → Shared → Prop} (h : Q false s) : wpAny (model prog w) A (eqBool (.str b u) (.int a t)) Q E s := by
  unfold eqBool
  refine wpAny_holding ?_
  have e : (Value.str b u == Value.int a t) = false := rfl
  rw [if_neg (by rw [e]; decide)]
  show wpAny _ _ (compareOp .Eq (Value.str b u) (Value.int a t) >>= _) Q E s
  exact wpAny_bind (EqMixed.eq_str_int (wpAny_truthy_bool h))
noncomputable def keyKind (prog : Program) (w : World) : KeyKind prog w Key where
  is := keyIs
  hash := keyHash w
  inj := fun v a b ha hb => by
    rcases keyIs_shape ha with ⟨i, t, rfl, rfl⟩ | ⟨x, t, rfl, rfl⟩
    · rcases keyIs_shape hb with ⟨j, u, rfl, e⟩ | ⟨y, u, rfl, e⟩
      · cases e; rfl
      · cases e
    · rcases keyIs_shape hb with ⟨j, u, rfl, e⟩ | ⟨y, u, rfl, e⟩
      · cases e
      · cases e; rfl
  byValue := fun k v h => by rcases keyIs_shape h with ⟨i, t, _, rfl⟩ | ⟨x, t, _, rfl⟩ <;> rfl
  pyHash := fun hv h => by
    rcases keyIs_shape hv with ⟨i, t, rfl, rfl⟩ | ⟨x, t, rfl, rfl⟩
    · exact wpAny_pyHash_int h
    · exact wpAny_pyHash_str h
  eqBool := fun {A E s a b u v Q} hu hv h => by
    rcases keyIs_shape hu with ⟨i, t, rfl, rfl⟩ | ⟨x, t, rfl, rfl⟩
    · rcases keyIs_shape hv with ⟨j, t', rfl, rfl⟩ | ⟨y, t', rfl, rfl⟩
      · refine wpAny_eqBool_int ?_
        have e : (i == j) = decide ((Sum.inl i : Key) = .inl j) := by
          by_cases hij : i = j
          · subst hij; simp
          · rw [decide_eq_false (fun e => hij (Sum.inl.inj e))]; exact beq_false_of_ne hij
        rw [e]; exact h
      · exact eqBool_int_str h
    · rcases keyIs_shape hv with ⟨j, t', rfl, rfl⟩ | ⟨y, t', rfl, rfl⟩
      · exact eqBool_str_int h
      · refine wpAny_eqBool_str ?_
        have e : decide (x = y) = decide ((Sum.inr x : Key) = .inr y) := by
          by_cases hxy : x = y
          · subst hxy; simp
          · rw [decide_eq_false hxy, decide_eq_false (fun e => hxy (Sum.inr.inj e))]
        rw [e]; exact h
  «strs» := fun k x t v h => by
    rcases keyIs_shape h with ⟨i, t', rfl, e⟩ | ⟨y, t', rfl, e⟩
    · cases e
    · cases e; exact (strKind prog w).«strs» x x t v (isStrOf_same x t)

/-- a dict's keys and values -/
inductive Ents (ρ : Map) (h : Heap) : List (Key × Value) → List (Key × V) → Prop
  | nil : Ents ρ h [] []
  | cons {k : Key} {v : Value} {x : V} {kvs : List (Key × Value)} {l : List (Key × V)} : (∀ s, k = .inr s → SOk s) → Rel ρ h v x → Ents ρ h kvs l → Ents ρ h ((k, v) :: kvs) ((k, x) :: l)

noncomputable def ORel (prog : Program) (w : World) (ρ : Map) (h : Heap) (p : Addr × Addr) : O → Prop
  | .list l => p.2 = p.1 ∧ ∃ vs n, h.get? p.1 = some (listO vs n) ∧ vs.length ≤ sizeLine ∧ RelAll ρ h vs l
  | .dict l => p.2 = p.1 ∧ (p.1 == sysModules) = false ∧ ∃ kvs, h.DictOf (keyKind prog w) p.1 kvs ∧ kvs.length ≤ sizeLine ∧ Ents ρ h kvs l
  | .inst _ _ => False

structure Inv (prog : Program) (w : World) (h₀ : Heap) (σ : Store) (ρ : Map) (h : Heap) : Prop where
  base : ∀ b o, h₀.get? b = some o → h.get? b = some o
  len : ρ.length = σ.length
  objs : ∀ (n : Nat) (o : O) (p : Addr × Addr), σ[n]? = some o → ρ[n]? = some p → ORel prog w ρ h p o
  fresh : ∀ (n : Nat) (p : Addr × Addr), ρ[n]? = some p → 0 < n → h₀.get? p.1 = none ∧ h₀.get? p.2 = none
  apart : ∀ (i j : Nat) (p q : Addr × Addr), ρ[i]? = some p → ρ[j]? = some q → i ≠ j → p.1 ≠ q.1 ∧ p.1 ≠ q.2 ∧ p.2 ≠ q.1 ∧ p.2 ≠ q.2

structure Ext (W : List Addr) (ρ : Map) (h : Heap) (ρ' : Map) (h' : Heap) : Prop where
  pre : ∀ (n : Nat) (p : Addr × Addr), ρ[n]? = some p → ρ'[n]? = some p
  keep : ∀ b o, h.get? b = some o → b ∉ W → (∀ p ∈ ρ, b ≠ p.1 ∧ b ≠ p.2) → h'.get? b = some o
  tups : ∀ b vs n, h.get? b = some (tupO vs n) → h'.get? b = some (tupO vs n)
  alive : ∀ b o, h.get? b = some o → ∃ o', h'.get? b = some o'
  new : ∀ (i : Nat) (p : Addr × Addr), ρ'[i]? = some p → ρ.length ≤ i → h.get? p.1 = none ∧ h.get? p.2 = none

section
variable {W : List Addr} {ρ ρ' ρ'' : Map} {h h' h'' : Heap}

theorem Ext.refl : Ext W ρ h ρ h where
  pre := fun _ _ e => e
  keep := fun _ _ e _ _ => e
  tups := fun _ _ _ e => e
  alive := fun _ o e => ⟨o, e⟩
  new := fun i p e hi => by rw [List.getElem?_eq_none hi] at e; cases e

theorem Ext.len_le (x : Ext W ρ h ρ' h') : ρ.length ≤ ρ'.length := by
  rcases Nat.lt_or_ge ρ'.length ρ.length with hl | hl
  · have := x.pre ρ'.length _ (List.getElem?_eq_getElem hl)
    rw [List.getElem?_eq_none (Nat.le_refl _)] at this; cases this
  · exact hl

theorem Ext.trans (x : Ext W ρ h ρ' h') (y : Ext W ρ' h' ρ'' h'') : Ext W ρ h ρ'' h'' where
  pre := fun n p e => y.pre n p (x.pre n p e)
  keep := fun b o e hW hρ => by
    refine y.keep b o (x.keep b o e hW hρ) hW fun p hp => ?_
    obtain ⟨i, hi⟩ := List.getElem?_of_mem hp
    rcases Nat.lt_or_ge i ρ.length with hl | hl
    · have h1 := x.pre i _ (List.getElem?_eq_getElem hl)
      rw [hi] at h1; cases h1
      exact hρ _ (List.getElem_mem hl)
    · obtain ⟨n1, n2⟩ := x.new i p hi hl
      exact ⟨fun eq => (by rw [← eq, e] at n1; cases n1), fun eq => (by rw [← eq, e] at n2; cases n2)⟩
  tups := fun b vs n e => y.tups b vs n (x.tups b vs n e)
  alive := fun b o e => let ⟨o', e'⟩ := x.alive b o e; y.alive b o' e'
  new := fun i p e hi => by
    rcases Nat.lt_or_ge i ρ'.length with hl | hl
    · have h1 := y.pre i _ (List.getElem?_eq_getElem hl)
      rw [e] at h1; cases h1
      exact x.new i _ (List.getElem?_eq_getElem hl) hi
    · obtain ⟨n1, n2⟩ := y.new i p e hl
      refine ⟨?_, ?_⟩
      · cases e1 : h.get? p.1 with
        | none => rfl
        | some o => obtain ⟨o', e'⟩ := x.alive _ _ e1; rw [n1] at e'; cases e'
      · cases e1 : h.get? p.2 with
        | none => rfl
        | some o => obtain ⟨o', e'⟩ := x.alive _ _ e1; rw [n2] at e'; cases e'

theorem Ext.weak {W' : List Addr} (x : Ext W ρ h ρ' h') (hw : ∀ b ∈ W, b ∈ W' ∨ h.get? b = none) : Ext W' ρ h ρ' h' where
  pre := x.pre
  keep := fun b o e hW hρ => x.keep b o e (fun hm => (hw b hm).elim hW fun e' => by rw [e] at e'; cases e') hρ
  tups := x.tups
  alive := x.alive
  new := x.new

/-- a heap that keeps all but the frame -/
theorem Ext.of_keep (hk : ∀ b o, h.get? b = some o → b ∉ W → h'.get? b = some o) (ht : ∀ b o, h.get? b = some o → b ∈ W → (∀ vs n, o ≠ tupO vs n) ∧ ∃ o', h'.get? b = some o') : Ext W ρ h ρ h' where
  pre := fun _ _ e => e
  keep := fun b o e hW _ => hk b o e hW
  tups := fun b vs n e => hk b _ e fun hm => (ht b _ e hm).1 vs n rfl
  alive := fun b o e => by
    by_cases hm : b ∈ W
    · exact (ht b o e hm).2
    · exact ⟨o, hk b o e hm⟩
  new := fun i p e hi => by rw [List.getElem?_eq_none hi] at e; cases e

theorem Ext.of_keeps (hk : ∀ b o, h.get? b = some o → h'.get? b = some o) : Ext W ρ h ρ h' where
  pre := fun _ _ e => e
  keep := fun b o e _ _ => hk b o e
  tups := fun b _ _ e => hk b _ e
  alive := fun b o e => ⟨o, hk b o e⟩
  new := fun i p e hi => by rw [List.getElem?_eq_none hi] at e; cases e

noncomputable def Sub (ρ : Map) (h : Heap) (ρ' : Map) (h' : Heap) : Prop :=
  (∀ (n : Nat) (p : Addr × Addr), ρ[n]? = some p → ρ'[n]? = some p) ∧ ∀ b vs n, h.get? b = some (tupO vs n) → h'.get? b = some (tupO vs n)
theorem Ext.sub (x : Ext W ρ h ρ' h') : Sub ρ h ρ' h' := ⟨x.pre, x.tups⟩
theorem Sub.snoc {p : Addr × Addr} : Sub ρ h (ρ ++ [p]) h := ⟨fun n q e => by
  rw [List.getElem?_append_left (by rcases Nat.lt_or_ge n ρ.length with hl | hl; exact hl; rw [List.getElem?_eq_none hl] at e; cases e)]; exact e, fun _ _ _ e => e⟩
theorem Sub.trans (x : Sub ρ h ρ' h') (y : Sub ρ' h' ρ'' h'') : Sub ρ h ρ'' h'' := ⟨fun n p e => y.1 n p (x.1 n p e), fun b vs n e => y.2 b vs n (x.2 b vs n e)⟩
theorem Sub.keeps (hk : ∀ b o, h.get? b = some o → h'.get? b = some o) : Sub ρ h ρ h' := ⟨fun _ _ e => e, fun b _ _ e => hk b _ e⟩
mutual
theorem Rel.sub (x : Sub ρ h ρ' h') : ∀ {v : Value} {a : V}, Rel ρ h v a → Rel ρ' h' v a
  | _, _, .none => .none
  | _, _, .bool b => .bool b
  | _, _, .int i t => .int i t
  | _, _, .str s t hs => .str s t hs
  | _, _, .tup e hl r => .tup (x.2 _ _ _ e) hl (RelAll.sub x r)
  | _, _, .ref e => .ref (x.1 _ _ e)
theorem RelAll.sub (x : Sub ρ h ρ' h') : ∀ {vs : List Value} {l : List V}, RelAll ρ h vs l → RelAll ρ' h' vs l
  | _, _, .nil => .nil
  | _, _, .cons r rs => .cons (Rel.sub x r) (RelAll.sub x rs)
end
theorem Rel.ext (x : Ext W ρ h ρ' h') {v : Value} {a : V} (r : Rel ρ h v a) : Rel ρ' h' v a := r.sub x.sub
theorem RelAll.ext (x : Ext W ρ h ρ' h') {vs : List Value} {l : List V} (r : RelAll ρ h vs l) : RelAll ρ' h' vs l := r.sub x.sub

theorem Ents.sub (x : Sub ρ h ρ' h') : ∀ {kvs : List (Key × Value)} {l : List (Key × V)}, Ents ρ h kvs l → Ents ρ' h' kvs l
  | _, _, .nil => .nil
  | _, _, .cons hs r rs => .cons hs (r.sub x) (Ents.sub x rs)
theorem Ents.length : ∀ {kvs : List (Key × Value)} {l : List (Key × V)}, Ents ρ h kvs l → kvs.length = l.length
  | _, _, .nil => rfl
  | _, _, .cons _ _ r => by rw [List.length_cons, List.length_cons, Ents.length r]
theorem Ents.keys : ∀ {kvs : List (Key × Value)} {l : List (Key × V)}, Ents ρ h kvs l → kvs.map (·.1) = l.map (·.1)
  | _, _, .nil => rfl
  | _, _, .cons _ _ r => by rw [List.map_cons, List.map_cons, Ents.keys r]
theorem RelAll.length : ∀ {vs : List Value} {l : List V}, RelAll ρ h vs l → vs.length = l.length
  | _, _, .nil => rfl
  | _, _, .cons _ r => by rw [List.length_cons, List.length_cons, RelAll.length r]
theorem RelAll.append : ∀ {vs ws : List Value} {l m : List V}, RelAll ρ h vs l → RelAll ρ h ws m → RelAll ρ h (vs ++ ws) (l ++ m)
  | _, _, _, _, .nil, r => r
  | _, _, _, _, .cons a r, s => .cons a (RelAll.append r s)
theorem RelAll.get : ∀ {vs : List Value} {l : List V} {k : Nat} {x : V}, RelAll ρ h vs l → l[k]? = some x → ∃ v, vs[k]? = some v ∧ Rel ρ h v x
  | _, _, _, _, .nil, e => by simp at e
  | _, _, 0, _, .cons a _, e => by simp at e; subst e; exact ⟨_, rfl, a⟩
  | _, _, k + 1, _, .cons _ r, e => by
    simp only [List.getElem?_cons_succ] at e ⊢
    exact RelAll.get r e
theorem RelAll.get_none {vs : List Value} {l : List V} {k : Nat} (r : RelAll ρ h vs l) (e : l[k]? = none) : vs[k]? = none := by
  rw [List.getElem?_eq_none_iff] at e ⊢
  rw [r.length]; exact e
end

/-! ## Simulation -/
section
variable (prog : Program) (w : World) (h₀ : Heap)

noncomputable def Post (W : List Addr) (ρ : Map) (s : Shared) (σ' : Store) (R : Map → Heap → Prop) (s' : Shared) : Prop :=
  ∃ ρ' h' tk, s' = { s with heap := h', toks := tk } ∧ Inv prog w h₀ σ' ρ' h' ∧ Ext W ρ s.heap ρ' h' ∧ R ρ' h'

noncomputable def Sim (A : Around) (W : List Addr) {α β : Type} (t : Sem β) (r : Res α) (R : α → Map → Heap → β → Prop) (ρ : Map) (s : Shared) : Prop :=
  match r with
  | .bad => True
  | .exc _ _ => True
  | .ok a σ' => wpAny (model prog w) A t (fun b s' => Post prog w h₀ W ρ s σ' (fun ρ' h' => R a ρ' h' b) s') (fun _ _ => False) s
end

section
variable {prog : Program} {w : World} {h₀ : Heap} {A : Around} {W : List Addr} {ρ : Map} {s : Shared} {α β γ δ : Type} {σ : Store}

theorem Post.mono {σ' : Store} {R R' : Map → Heap → Prop} {s' : Shared} (h : ∀ ρ' h', R ρ' h' → R' ρ' h') : Post prog w h₀ W ρ s σ' R s' → Post prog w h₀ W ρ s σ' R' s' :=
  fun ⟨ρ', h', tk, e, i, x, r⟩ => ⟨ρ', h', tk, e, i, x, h _ _ r⟩

theorem Sim.bind {t : Sem β} {f : β → Sem γ} {m : M α} {k : α → M δ} {R : α → Map → Heap → β → Prop} {R' : δ → Map → Heap → γ → Prop}
    (h1 : Sim prog w h₀ A W t (m σ) R ρ s)
    (h2 : ∀ a σ₁ ρ₁ H tk b, Inv prog w h₀ σ₁ ρ₁ H → Ext W ρ s.heap ρ₁ H → R a ρ₁ H b → Sim prog w h₀ A W (f b) (k a σ₁) R' ρ₁ { s with heap := H, toks := tk }) :
    Sim prog w h₀ A W (t >>= f) ((m >>= k) σ) R' ρ s := by
  show Sim prog w h₀ A W (t >>= f) (match m σ with | .ok a σ' => k a σ' | .exc e σ' => .exc e σ' | .bad => .bad) R' ρ s
  cases e : m σ with
  | bad => exact trivial
  | exc _ _ => exact trivial
  | ok a σ₁ =>
    rw [e] at h1
    show Sim prog w h₀ A W (t >>= f) (k a σ₁) R' ρ s
    cases e2 : k a σ₁ with
    | bad => exact trivial
    | exc _ _ => exact trivial
    | ok d σ₂ =>
      refine wpAny_bind (wpAny_mono h1 (fun b s' hp => ?_) fun _ _ h' => h'.elim)
      obtain ⟨ρ₁, H, tk, rfl, i, x, r⟩ := hp
      have := h2 a σ₁ ρ₁ H tk b i x r
      rw [e2] at this
      refine wpAny_mono this (fun c s'' hp' => ?_) fun _ _ h' => h'
      obtain ⟨ρ₂, H₂, tk₂, rfl, i₂, x₂, r₂⟩ := hp'
      exact ⟨ρ₂, H₂, tk₂, rfl, i₂, x.trans x₂, r₂⟩

theorem Sim.ret {b : β} {a : α} {R : α → Map → Heap → β → Prop} (i : Inv prog w h₀ σ ρ s.heap) (r : R a ρ s.heap b) :
    Sim prog w h₀ A W (Pure.pure b : Sem β) ((Pure.pure a : M α) σ) R ρ s :=
  wpAny_pure ⟨ρ, s.heap, s.toks, rfl, i, Ext.refl, r⟩

theorem Sim.bad {t : Sem β} {R : α → Map → Heap → β → Prop} : Sim prog w h₀ A W t (M.bad (α := α) σ) R ρ s := trivial

theorem Sim.mono {t : Sem β} {r : Res α} {R R' : α → Map → Heap → β → Prop} (h : Sim prog w h₀ A W t r R ρ s) (hr : ∀ a ρ' h' b, R a ρ' h' b → R' a ρ' h' b) :
    Sim prog w h₀ A W t r R' ρ s := by
  cases r with
  | bad => exact trivial
  | exc _ _ => exact trivial
  | ok a σ' => exact wpAny_mono h (fun b s' hp => hp.mono fun _ _ => hr a _ _ b) fun _ _ x => x

theorem Sim.weak {W' : List Addr} {t : Sem β} {r : Res α} {R : α → Map → Heap → β → Prop} (h : Sim prog w h₀ A W t r R ρ s) (hw : ∀ b ∈ W, b ∈ W' ∨ s.heap.get? b = none) :
    Sim prog w h₀ A W' t r R ρ s := by
  cases r with
  | bad => exact trivial
  | exc _ _ => exact trivial
  | ok a σ' => exact wpAny_mono h (fun b s' ⟨ρ', h', tk, e, i, x, r⟩ => ⟨ρ', h', tk, e, i, x.weak hw, r⟩) fun _ _ x => x

/-- a tree that does not touch the state ahead -/
theorem Sim.ahead {t : Sem PUnit} {f : PUnit → Sem β} {r : Res α} {R : α → Map → Heap → β → Prop} (ht : ∀ (Q : PUnit → Shared → Prop) (E : Value → Shared → Prop), Q ⟨⟩ s → wpAny (model prog w) A t Q E s)
    (h : Sim prog w h₀ A W (f ⟨⟩) r R ρ s) : Sim prog w h₀ A W (t >>= f) r R ρ s := by
  cases r with
  | bad => exact trivial
  | exc _ _ => exact trivial
  | ok a σ' => exact wpAny_bind (ht _ _ h)

/-- a tree ahead that gives a value and leaves the state -/
theorem Sim.first {γ : Type} {t : Sem γ} {f : γ → Sem β} {c : γ} {r : Res α} {R : α → Map → Heap → β → Prop} (ht : ∀ (Q : γ → Shared → Prop) (E : Value → Shared → Prop), Q c s → wpAny (model prog w) A t Q E s)
    (h : Sim prog w h₀ A W (f c) r R ρ s) : Sim prog w h₀ A W (t >>= f) r R ρ s := by
  cases r with
  | bad => exact trivial
  | exc _ _ => exact trivial
  | ok a σ' => exact wpAny_bind (ht _ _ h)

theorem Sim.standAt {p : Pos} {f : PUnit → Sem β} {r : Res α} {R : α → Map → Heap → β → Prop} (h : Sim prog w h₀ A W (f ⟨⟩) r R ρ s) :
    Sim prog w h₀ A W (PySem.standAt p >>= f) r R ρ s := Sim.ahead (fun _ _ hq => wpAny_standAt hq) h

theorem Sim.holding {vs : List Value} {t : Sem β} {r : Res α} {R : α → Map → Heap → β → Prop} (h : Sim prog w h₀ A W t r R ρ s) :
    Sim prog w h₀ A W (PySem.holding vs t) r R ρ s := by
  cases r with
  | bad => exact trivial
  | exc _ _ => exact trivial
  | ok a σ' => exact wpAny_holding h

theorem Sim.of_wp {t : Sem β} {a : α} {σ' : Store} {R : α → Map → Heap → β → Prop}
    (h : wpAny (model prog w) A t (fun b s' => Post prog w h₀ W ρ s σ' (fun ρ' h' => R a ρ' h' b) s') (fun _ _ => False) s) : Sim prog w h₀ A W t (.ok a σ') R ρ s := h
end

end Mine

namespace Mine
open PySem

/-! ## the same run, with what comes behind at hand -/
variable {α : Type}

/-- a comprehension, what it walks at hand -/
noncomputable def compAll (C : Cfg) (elt target : Expr) (ifs : List Expr) (scope : Scope) (s : Src) (ns : Names) (loc : Loc) : M V :=
  if tgtOk s target && compOk scope.kind scope.names then
    s.count >>= fun n => innerLoc ns loc scope.names >>= fun loc' =>
    compLoop s (bindTo (stLocL (relab ns scope.names)) target) (tests C ifs (relab ns scope.names)) (ev C elt (relab ns scope.names)) (n + 1) 0 loc' >>= fun l =>
    (if l.length ≤ sizeLine then newO (.list l) else M.bad)
  else M.bad
/-- a loop, what it walks at hand -/
noncomputable def forAll (C : Cfg) (target : Expr) (body : List Stmt) (s : Src) (ns : Names) (loc : Loc) : M (Fl × Loc) :=
  if tgtOk s target then s.count >>= fun n => forLoop s (bindTo (stLoc ns) target) (exs C body ns) (n + 1) 0 loc else M.bad

/-- a plain value, then what comes behind -/
noncomputable def constK (c : Const) (k : V → M α) : M α := match c with
  | .none => k .none
  | .bool b => k (.bool b)
  | .int i => k (.int i)
  | .str s => if SOk s then k (.str s) else M.bad
  | _ => M.bad
noncomputable def optK {β : Type} (o : Option β) (k : β → M α) : M α := match o with
  | some v => k v
  | none => M.bad
noncomputable def nameK (C : Cfg) (ns : Names) (x : Str) (loc : Loc) (k : V → M α) : M α := match slot ns x with
  | some (i, .local) => optK loc[i]?.join k
  | some (i, .cell) => optK loc[i]?.join k
  | some (_, .globalImplicit) => optK (C.glob x) k
  | _ => M.bad
mutual
noncomputable def evK (C : Cfg) : Expr → Names → Loc → (V → M α) → M α
  | .Constant c _ _, _, _, k => constK c k
  | .Name x _, ns, loc, k => if x = ("__debug__" : Str) then M.bad else nameK C ns x loc k
  | .BinOp l op r _, ns, loc, k => evK C l ns loc fun a => evK C r ns loc fun b => binop op a b >>= k
  | .UnaryOp .Not x _, ns, loc, k => evK C x ns loc fun a => truth a >>= fun t => k (.bool (!t))
  | .UnaryOp .USub (.Constant (.int i) _ _) _, _, _, k => k (.int (-i))
  | .BoolOp op vs _, ns, loc, k => evBoolK C vs op ns loc k
  | .Compare l [op] [r] _, ns, loc, k => evK C l ns loc fun a => evK C r ns loc fun b => cmp op a b >>= k
  | .Compare l [op, op2] [m, r] _, ns, loc, k => evK C l ns loc fun a => evK C m ns loc fun b => cmp op a b >>= fun x => boolK x (evK C r ns loc fun c => cmp op2 b c >>= k) (k (.bool false))
  | .Dict [] [] _, _, _, k => newO (.dict []) >>= k
  | .Dict [some e] [v] _, _, _, k => dict1 e v >>= k
  | .IfExp t a b _, ns, loc, k => tstK C t ns loc (evK C t ns loc) fun c => if c = true then evK C a ns loc k else evK C b ns loc k
  | .Subscript o (.Slice lo hi none _) _, ns, loc, k => evK C o ns loc fun a => evOptK C lo ns loc fun l => evOptK C hi ns loc fun h => bound l >>= fun l' => bound h >>= fun h' => sliceV l' h' a >>= k
  | .Subscript o i _, ns, loc, k => evK C o ns loc fun a => evK C i ns loc fun b => item a b >>= k
  | .List es _, ns, loc, k => evsK C es ns loc fun vs => if vs.length ≤ sizeLine then newO (.list vs) >>= k else M.bad
  | .Tuple es _ _, ns, loc, k => evsK C es ns loc fun vs => if vs.length ≤ sizeLine then k (.tup vs) else M.bad
  | .Call (.Name f _) as [] _, ns, loc, k =>
    if isGlob ns f then
      (if f = ("isinstance" : Str) then evIsiK C as ns loc k
      else evsK C as ns loc fun vs => if C.isFn f then C.call f vs >>= k else blt f vs >>= k)
    else M.bad
  | .Call (.Attribute o m ap) as [] p, ns, loc, k =>
    if ap.endLine = p.line ∧ as.length < 30 ∧ isSuper o = false then
      evK C o ns loc fun v => askS (mtag v m) >>= fun tg => evsK C as ns loc fun vs => runM tg v vs >>= k
    else M.bad
  | .ListComp elt [⟨target, iter, ifs, 0⟩] scope _, ns, loc, k => srcK C iter ns loc (evK C iter ns loc) fun s => compAll C elt target ifs scope s ns loc >>= k
  | _, _, _, _ => M.bad

noncomputable def evOptK (C : Cfg) : Option Expr → Names → Loc → (V → M α) → M α
  | none, _, _, k => k .none
  | some e, ns, loc, k => evK C e ns loc k

noncomputable def evsK (C : Cfg) : List Expr → Names → Loc → (List V → M α) → M α
  | [], _, _, k => k []
  | e :: r, ns, loc, k => evK C e ns loc fun v => evsK C r ns loc fun vs => k (v :: vs)

noncomputable def evIsiK (C : Cfg) : List Expr → Names → Loc → (V → M α) → M α
  | [a, .Name t _], ns, loc, k => if isGlob ns t then evK C a ns loc fun v => optK (kdOf t) fun kd => isKd kd v >>= k else M.bad
  | _, _, _, _ => M.bad

noncomputable def evBoolK (C : Cfg) : List Expr → BoolOp → Names → Loc → (V → M α) → M α
  | [], _, _, _, _ => M.bad
  | e :: r, op, ns, loc, k => evK C e ns loc fun v => match r with
    | [] => k v
    | _ :: _ => truth v >>= fun t => match op with
      | .And => cond t (evBoolK C r op ns loc k) (k v)
      | .Or => cond t (k v) (evBoolK C r op ns loc k)

noncomputable def tstK (C : Cfg) : Expr → Names → Loc → ((V → M α) → M α) → (Bool → M α) → M α
  | .UnaryOp .Not x _, ns, loc, _, k => tstK C x ns loc (evK C x ns loc) fun b => k (!b)
  | .BoolOp op vs _, ns, loc, _, k => tstAllK C vs op ns loc k
  | .IfExp t a b _, ns, loc, _, k => tstK C t ns loc (evK C t ns loc) fun c => if c = true then tstK C a ns loc (evK C a ns loc) k else tstK C b ns loc (evK C b ns loc) k
  | _, _, _, whole, k => whole fun v => truth v >>= k

noncomputable def tstAllK (C : Cfg) : List Expr → BoolOp → Names → Loc → (Bool → M α) → M α
  | [], op, _, _, k => k (op == .And)
  | e :: r, op, ns, loc, k => tstK C e ns loc (evK C e ns loc) fun b => match op with
    | .And => cond b (tstAllK C r op ns loc k) (k false)
    | .Or => cond b (k true) (tstAllK C r op ns loc k)

noncomputable def srcK (C : Cfg) : Expr → Names → Loc → ((V → M α) → M α) → (Src → M α) → M α
  | .Call (.Name f _) as [] _, ns, loc, whole, k =>
    (match as with
    | [a] => if srcTag C ns f = 1 then evK C a ns loc fun v => rangeOf v >>= k
      else if srcTag C ns f = 2 then evK C a ns loc fun v => enumOf v >>= k
      else whole fun v => srcV v >>= k
    | _ => whole fun v => srcV v >>= k)
  | _, _, _, whole, k => whole fun v => srcV v >>= k
end

theorem M.pure_bind {α β : Type} (a : α) (f : α → M β) : ((Pure.pure a : M α) >>= f) = f a := rfl
theorem M.bad_bind {α β : Type} (f : α → M β) : ((M.bad : M α) >>= f) = M.bad := rfl
theorem M.ite_bind {α β : Type} {c : Prop} [Decidable c] (m n : M α) (f : α → M β) : ((if c then m else n) >>= f) = if c then m >>= f else n >>= f := by split <;> rfl
theorem M.bind_congr {α β : Type} {m : M α} {f g : α → M β} (h : ∀ a, f a = g a) : (m >>= f) = (m >>= g) := by rw [funext h]

theorem constK_eq (c : Const) (k : V → M α) : constK c k = (constV c >>= k) := by
  cases c with
  | str s => show (if SOk s then k (.str s) else M.bad) = ((if SOk s then (pure (.str s) : M V) else M.bad) >>= k); rw [M.ite_bind]; rfl
  | _ => rfl
theorem optK_eq {β : Type} (o : Option β) (k : β → M α) : optK o k = (ofOpt o >>= k) := by cases o <;> rfl
theorem nameK_eq (C : Cfg) (ns : Names) (x : Str) (loc : Loc) (k : V → M α) : nameK C ns x loc k = (ldName C ns x loc >>= k) := by
  unfold nameK ldName ldLoc
  cases slot ns x with
  | none => rfl
  | some p =>
    obtain ⟨i, kd⟩ := p
    cases kd <;> first | exact optK_eq _ _ | rfl
/-- the two agree at an expression -/
structure KOk (C : Cfg) (e : Expr) : Prop where
  ev : ∀ (α : Type) (ns : Names) (loc : Loc) (k : V → M α), evK C e ns loc k = (ev C e ns loc >>= k)
  tst : ∀ (α : Type) (ns : Names) (loc : Loc) (k : Bool → M α), tstK C e ns loc (evK C e ns loc) k = (tst C e ns loc (Mine.ev C e ns loc) >>= k)
  src : ∀ (α : Type) (ns : Names) (loc : Loc) (k : Src → M α), srcK C e ns loc (evK C e ns loc) k = (Mine.src C e ns loc (Mine.ev C e ns loc) >>= k)
  slice : ∀ lo hi q, e = .Slice lo hi none q → (∀ (α : Type) (ns : Names) (loc : Loc) (k : V → M α), evOptK C lo ns loc k = (evOpt C lo ns loc >>= k)) ∧ ∀ (α : Type) (ns : Names) (loc : Loc) (k : V → M α), evOptK C hi ns loc k = (evOpt C hi ns loc >>= k)
  attr : ∀ o m q, e = .Attribute o m q → ∀ (α : Type) (ns : Names) (loc : Loc) (k : V → M α), evK C o ns loc k = (Mine.ev C o ns loc >>= k)

variable {C : Cfg}
theorem kNoSlice {e : Expr} (h : isSliceE e = false) : ∀ lo hi q, e = .Slice lo hi none q → (∀ (α : Type) (ns : Names) (loc : Loc) (k : V → M α), evOptK C lo ns loc k = (evOpt C lo ns loc >>= k)) ∧ ∀ (α : Type) (ns : Names) (loc : Loc) (k : V → M α), evOptK C hi ns loc k = (evOpt C hi ns loc >>= k) := fun lo hi q e' => by rw [e'] at h; cases h
theorem kNoAttr {e : Expr} (h : isAttrE e = false) : ∀ o m q, e = .Attribute o m q → ∀ (α : Type) (ns : Names) (loc : Loc) (k : V → M α), evK C o ns loc k = (Mine.ev C o ns loc >>= k) := fun o m q e' => by rw [e'] at h; cases h
theorem KOk.plain {e : Expr} (he : ∀ (α : Type) (ns : Names) (loc : Loc) (k : V → M α), evK C e ns loc k = (Mine.ev C e ns loc >>= k))
    (h1 : ∀ (ns : Names) (loc : Loc) (whole : M V), Mine.tst C e ns loc whole = (whole >>= fun v => truth v)) (h2 : ∀ (α : Type) (ns : Names) (loc : Loc) (whole : (V → M α) → M α) (k : Bool → M α), tstK C e ns loc whole k = whole fun v => truth v >>= k)
    (h3 : ∀ ns loc whole, Mine.src C e ns loc whole = (whole >>= srcV)) (h4 : ∀ (α : Type) (ns : Names) (loc : Loc) (whole : (V → M α) → M α) (k : Src → M α), srcK C e ns loc whole k = whole fun v => srcV v >>= k)
    (h5 : isSliceE e = false) (h6 : isAttrE e = false) : KOk C e where
  ev := he
  tst := fun α ns loc k => by rw [h1, h2, he, M.assoc]
  src := fun α ns loc k => by rw [h3, h4, he, M.assoc]
  slice := kNoSlice h5
  attr := kNoAttr h6

theorem evsK_of : ∀ {es : List Expr}, (∀ e ∈ es, KOk C e) → ∀ (α : Type) (ns : Names) (loc : Loc) (k : List V → M α), evsK C es ns loc k = (evs C es ns loc >>= k)
  | [], _, α, ns, loc, k => rfl
  | e :: r, h, α, ns, loc, k => by
    show evK C e ns loc (fun v => evsK C r ns loc fun vs => k (v :: vs)) = ((ev C e ns loc >>= fun v => evs C r ns loc >>= fun vs => pure (v :: vs)) >>= k)
    rw [(h e (List.mem_cons_self ..)).ev, M.assoc]
    refine M.bind_congr fun a => ?_
    rw [evsK_of fun e he => h e (List.mem_cons_of_mem _ he), M.assoc]
    rfl
theorem evBoolK_of : ∀ {es : List Expr}, (∀ e ∈ es, KOk C e) → ∀ (α : Type) (op : BoolOp) (ns : Names) (loc : Loc) (k : V → M α), evBoolK C es op ns loc k = (evBool C es op ns loc >>= k)
  | [], _, α, op, ns, loc, k => rfl
  | [e], h, α, op, ns, loc, k => by
    show evK C e ns loc (fun v => k v) = ((ev C e ns loc >>= fun v => pure v) >>= k)
    rw [(h e (List.mem_cons_self ..)).ev, M.assoc]
    rfl
  | e :: e2 :: r, h, α, op, ns, loc, k => by
    have ih := evBoolK_of (es := e2 :: r) fun e he => h e (List.mem_cons_of_mem _ he)
    show evK C e ns loc (fun v => truth v >>= fun t => match op with
      | .And => cond t (evBoolK C (e2 :: r) op ns loc k) (k v)
      | .Or => cond t (k v) (evBoolK C (e2 :: r) op ns loc k)) = ((ev C e ns loc >>= fun v => truth v >>= fun t => match op, t with
      | .And, false => pure v
      | .Or, true => pure v
      | _, _ => evBool C (e2 :: r) op ns loc) >>= k)
    rw [(h e (List.mem_cons_self ..)).ev, M.assoc]
    refine M.bind_congr fun a => ?_
    rw [M.assoc]
    refine M.bind_congr fun t => ?_
    cases op <;> cases t
    · rfl
    · exact ih α .And ns loc k
    · exact ih α .Or ns loc k
    · rfl
theorem tstAllK_of : ∀ {es : List Expr}, (∀ e ∈ es, KOk C e) → ∀ (α : Type) (op : BoolOp) (ns : Names) (loc : Loc) (k : Bool → M α), tstAllK C es op ns loc k = (tstAll C es op ns loc >>= k)
  | [], _, α, op, ns, loc, k => rfl
  | e :: r, h, α, op, ns, loc, k => by
    have ih := tstAllK_of (es := r) fun e he => h e (List.mem_cons_of_mem _ he)
    show tstK C e ns loc (evK C e ns loc) (fun t => match op with
      | .And => cond t (tstAllK C r op ns loc k) (k false)
      | .Or => cond t (k true) (tstAllK C r op ns loc k)) = ((tst C e ns loc (ev C e ns loc) >>= fun t => match op, t with
      | .And, false => pure false
      | .Or, true => pure true
      | _, _ => tstAll C r op ns loc) >>= k)
    rw [(h e (List.mem_cons_self ..)).tst, M.assoc]
    refine M.bind_congr fun t => ?_
    cases op <;> cases t
    · rfl
    · exact ih α .And ns loc k
    · exact ih α .Or ns loc k
    · rfl
theorem evIsiK_of : ∀ {es : List Expr}, (∀ e ∈ es, KOk C e) → ∀ (α : Type) (ns : Names) (loc : Loc) (k : V → M α), evIsiK C es ns loc k = (evIsi C es ns loc >>= k)
  | [], _, _, _, _, _ => rfl
  | [_], _, _, _, _, _ => rfl
  | [a, b], h, α, ns, loc, k => by
    by_cases hb : ∃ t q, b = .Name t q
    · obtain ⟨t, q, rfl⟩ := hb
      show (if isGlob ns t = true then evK C a ns loc fun v => optK (kdOf t) fun kd => isKd kd v >>= k else M.bad) = ((if isGlob ns t = true then (ev C a ns loc >>= fun v => ofOpt (kdOf t) >>= fun kd => isKd kd v) else M.bad) >>= k)
      rw [M.ite_bind, M.bad_bind, (h a (List.mem_cons_self ..)).ev, M.assoc]
      congr 1
      refine M.bind_congr fun v => ?_
      rw [M.assoc, optK_eq]
    · have h1 : evIsi C [a, b] ns loc = M.bad := by cases b <;> first | rfl | exact absurd ⟨_, _, rfl⟩ hb
      have h2 : evIsiK C [a, b] ns loc k = M.bad := by cases b <;> first | rfl | exact absurd ⟨_, _, rfl⟩ hb
      rw [h1, h2]; rfl
  | a :: b :: c :: r, _, α, ns, loc, k => by
    have h1 : evIsi C (a :: b :: c :: r) ns loc = M.bad := by cases b <;> rfl
    have h2 : evIsiK C (a :: b :: c :: r) ns loc k = M.bad := by cases b <;> rfl
    rw [h1, h2]; rfl

theorem srcK_call {f : Str} {as : List Expr} {p q : Pos} (he : ∀ (α : Type) (ns : Names) (loc : Loc) (k : V → M α), evK C (.Call (.Name f p) as [] q) ns loc k = (ev C (.Call (.Name f p) as [] q) ns loc >>= k)) (has : ∀ e ∈ as, KOk C e) :
    ∀ (α : Type) (ns : Names) (loc : Loc) (k : Src → M α), srcK C (.Call (.Name f p) as [] q) ns loc (evK C (.Call (.Name f p) as [] q) ns loc) k = (src C (.Call (.Name f p) as [] q) ns loc (ev C (.Call (.Name f p) as [] q) ns loc) >>= k) := fun α ns loc k => by
  have hw : evK C (.Call (.Name f p) as [] q) ns loc (fun v => srcV v >>= k) = ((ev C (.Call (.Name f p) as [] q) ns loc >>= fun v => srcV v) >>= k) := by rw [he, M.assoc]
  rcases as with _ | ⟨a, _ | ⟨b, r⟩⟩
  · exact hw
  · show (if srcTag C ns f = 1 then evK C a ns loc fun v => rangeOf v >>= k else if srcTag C ns f = 2 then evK C a ns loc fun v => enumOf v >>= k else evK C (.Call (.Name f p) [a] [] q) ns loc fun v => srcV v >>= k) =
      ((if srcTag C ns f = 1 then (ev C a ns loc >>= fun v => rangeOf v) else if srcTag C ns f = 2 then (ev C a ns loc >>= fun v => enumOf v) else (ev C (.Call (.Name f p) [a] [] q) ns loc >>= fun v => srcV v)) >>= k)
    rw [M.ite_bind, M.ite_bind, (has a (List.mem_singleton.mpr rfl)).ev, (has a (List.mem_singleton.mpr rfl)).ev, M.assoc, M.assoc, hw]
  · exact hw

theorem KOk.nothing {e : Expr} (hb : ∀ ns loc, Mine.ev C e ns loc = M.bad) (hk : ∀ (α : Type) (ns : Names) (loc : Loc) (k : V → M α), evK C e ns loc k = M.bad)
    (h1 : ∀ (ns : Names) (loc : Loc) (whole : M V), Mine.tst C e ns loc whole = (whole >>= fun v => truth v)) (h2 : ∀ (α : Type) (ns : Names) (loc : Loc) (whole : (V → M α) → M α) (k : Bool → M α), tstK C e ns loc whole k = whole fun v => truth v >>= k)
    (h3 : ∀ ns loc whole, Mine.src C e ns loc whole = (whole >>= srcV)) (h4 : ∀ (α : Type) (ns : Names) (loc : Loc) (whole : (V → M α) → M α) (k : Src → M α), srcK C e ns loc whole k = whole fun v => srcV v >>= k)
    (h5 : isSliceE e = false) (h6 : isAttrE e = false) : KOk C e :=
  KOk.plain (fun α ns loc k => by rw [hb, hk]; rfl) h1 h2 h3 h4 h5 h6

theorem K_binop {l r : Expr} {op : Operator} {p : Pos} (hl : KOk C l) (hr : KOk C r) : ∀ (α : Type) (ns : Names) (loc : Loc) (k : V → M α), evK C (.BinOp l op r p) ns loc k = (ev C (.BinOp l op r p) ns loc >>= k) := fun α ns loc k => by
  show evK C l ns loc (fun a => evK C r ns loc fun b => binop op a b >>= k) = ((ev C l ns loc >>= fun a => ev C r ns loc >>= fun b => binop op a b) >>= k)
  rw [hl.ev, M.assoc]
  refine M.bind_congr fun a => ?_
  rw [hr.ev, M.assoc]
theorem K_compare {l r : Expr} {op : CmpOp} {p : Pos} (hl : KOk C l) (hr : KOk C r) : ∀ (α : Type) (ns : Names) (loc : Loc) (k : V → M α), evK C (.Compare l [op] [r] p) ns loc k = (ev C (.Compare l [op] [r] p) ns loc >>= k) := fun α ns loc k => by
  show evK C l ns loc (fun a => evK C r ns loc fun b => cmp op a b >>= k) = ((ev C l ns loc >>= fun a => ev C r ns loc >>= fun b => cmp op a b) >>= k)
  rw [hl.ev, M.assoc]
  refine M.bind_congr fun a => ?_
  rw [hr.ev, M.assoc]
theorem boolK_bind {α β : Type} (x : V) (m n : M α) (f : α → M β) : (boolK x m n >>= f) = boolK x (m >>= f) (n >>= f) := by
  cases x with
  | bool b => cases b <;> rfl
  | _ => rfl
theorem K_chain {l m r : Expr} {op op2 : CmpOp} {p : Pos} (hl : KOk C l) (hm : KOk C m) (hr : KOk C r) : ∀ (α : Type) (ns : Names) (loc : Loc) (k : V → M α), evK C (.Compare l [op, op2] [m, r] p) ns loc k = (ev C (.Compare l [op, op2] [m, r] p) ns loc >>= k) := fun α ns loc k => by
  show evK C l ns loc (fun a => evK C m ns loc fun b => cmp op a b >>= fun x => boolK x (evK C r ns loc fun c => cmp op2 b c >>= k) (k (.bool false))) =
    ((ev C l ns loc >>= fun a => ev C m ns loc >>= fun b => cmp op a b >>= fun x => boolK x (ev C r ns loc >>= fun c => cmp op2 b c) (pure (.bool false))) >>= k)
  rw [hl.ev, M.assoc]
  refine M.bind_congr fun a => ?_
  rw [hm.ev, M.assoc]
  refine M.bind_congr fun b => ?_
  rw [M.assoc]
  refine M.bind_congr fun x => ?_
  rw [boolK_bind, hr.ev, M.assoc]; rfl
theorem K_not {x : Expr} {p : Pos} (hx : KOk C x) : ∀ (α : Type) (ns : Names) (loc : Loc) (k : V → M α), evK C (.UnaryOp .Not x p) ns loc k = (ev C (.UnaryOp .Not x p) ns loc >>= k) := fun α ns loc k => by
  show evK C x ns loc (fun a => truth a >>= fun t => k (.bool (!t))) = ((ev C x ns loc >>= fun a => truth a >>= fun t => pure (V.bool (!t))) >>= k)
  rw [hx.ev, M.assoc]
  refine M.bind_congr fun a => ?_
  rw [M.assoc]; rfl
theorem K_sub {o i : Expr} {p : Pos} (ho : KOk C o) (hi : KOk C i) (he : ∀ ns loc, ev C (.Subscript o i p) ns loc = (ev C o ns loc >>= fun a => ev C i ns loc >>= fun b => item a b)) (hk : ∀ (α : Type) ns loc (k : V → M α), evK C (.Subscript o i p) ns loc k = evK C o ns loc fun a => evK C i ns loc fun b => item a b >>= k) :
    ∀ (α : Type) (ns : Names) (loc : Loc) (k : V → M α), evK C (.Subscript o i p) ns loc k = (ev C (.Subscript o i p) ns loc >>= k) := fun α ns loc k => by
  rw [he, hk, ho.ev, M.assoc]
  refine M.bind_congr fun a => ?_
  rw [hi.ev, M.assoc]
theorem K_slice {o : Expr} {lo hi : Option Expr} {p q : Pos} (ho : KOk C o) (hlo : ∀ (α : Type) (ns : Names) (loc : Loc) (k : V → M α), evOptK C lo ns loc k = (evOpt C lo ns loc >>= k)) (hhi : ∀ (α : Type) (ns : Names) (loc : Loc) (k : V → M α), evOptK C hi ns loc k = (evOpt C hi ns loc >>= k)) :
    ∀ (α : Type) (ns : Names) (loc : Loc) (k : V → M α), evK C (.Subscript o (.Slice lo hi none q) p) ns loc k = (ev C (.Subscript o (.Slice lo hi none q) p) ns loc >>= k) := fun α ns loc k => by
  show evK C o ns loc (fun a => evOptK C lo ns loc fun l => evOptK C hi ns loc fun h => bound l >>= fun l' => bound h >>= fun h' => sliceV l' h' a >>= k) =
    ((ev C o ns loc >>= fun a => evOpt C lo ns loc >>= fun l => evOpt C hi ns loc >>= fun h => bound l >>= fun l' => bound h >>= fun h' => sliceV l' h' a) >>= k)
  rw [ho.ev, M.assoc]
  refine M.bind_congr fun a => ?_
  rw [hlo, M.assoc]
  refine M.bind_congr fun l => ?_
  rw [hhi, M.assoc]
  refine M.bind_congr fun h => ?_
  rw [M.assoc]
  refine M.bind_congr fun l' => ?_
  rw [M.assoc]
theorem K_list {es : List Expr} {p : Pos} (h : ∀ e ∈ es, KOk C e) : ∀ (α : Type) (ns : Names) (loc : Loc) (k : V → M α), evK C (.List es p) ns loc k = (ev C (.List es p) ns loc >>= k) := fun α ns loc k => by
  show evsK C es ns loc (fun vs => if vs.length ≤ sizeLine then newO (.list vs) >>= k else M.bad) = ((evs C es ns loc >>= fun vs => if vs.length ≤ sizeLine then newO (.list vs) else M.bad) >>= k)
  rw [evsK_of h, M.assoc]
  refine M.bind_congr fun vs => ?_
  rw [M.ite_bind]; rfl
theorem K_tuple {es : List Expr} {p : Pos} {j : Nat} (h : ∀ e ∈ es, KOk C e) : ∀ (α : Type) (ns : Names) (loc : Loc) (k : V → M α), evK C (.Tuple es j p) ns loc k = (ev C (.Tuple es j p) ns loc >>= k) := fun α ns loc k => by
  show evsK C es ns loc (fun vs => if vs.length ≤ sizeLine then k (.tup vs) else M.bad) = ((evs C es ns loc >>= fun vs => if vs.length ≤ sizeLine then (pure (.tup vs) : M V) else M.bad) >>= k)
  rw [evsK_of h, M.assoc]
  refine M.bind_congr fun vs => ?_
  rw [M.ite_bind]; rfl
theorem K_ifexp {t a b : Expr} {p : Pos} (ht : KOk C t) (ha : KOk C a) (hb : KOk C b) : ∀ (α : Type) (ns : Names) (loc : Loc) (k : V → M α), evK C (.IfExp t a b p) ns loc k = (ev C (.IfExp t a b p) ns loc >>= k) := fun α ns loc k => by
  show tstK C t ns loc (evK C t ns loc) (fun c => if c = true then evK C a ns loc k else evK C b ns loc k) = ((tst C t ns loc (ev C t ns loc) >>= fun c => if c = true then ev C a ns loc else ev C b ns loc) >>= k)
  rw [ht.tst, M.assoc]
  refine M.bind_congr fun c => ?_
  rw [M.ite_bind, ha.ev, hb.ev]
theorem KT_ifexp {t a b : Expr} {p : Pos} (ht : KOk C t) (ha : KOk C a) (hb : KOk C b) : ∀ (α : Type) (ns : Names) (loc : Loc) (k : Bool → M α), tstK C (.IfExp t a b p) ns loc (evK C (.IfExp t a b p) ns loc) k = (tst C (.IfExp t a b p) ns loc (ev C (.IfExp t a b p) ns loc) >>= k) := fun α ns loc k => by
  show tstK C t ns loc (evK C t ns loc) (fun c => if c = true then tstK C a ns loc (evK C a ns loc) k else tstK C b ns loc (evK C b ns loc) k) = ((tst C t ns loc (ev C t ns loc) >>= fun c => if c = true then tst C a ns loc (ev C a ns loc) else tst C b ns loc (ev C b ns loc)) >>= k)
  rw [ht.tst, M.assoc]
  refine M.bind_congr fun c => ?_
  rw [M.ite_bind, ha.tst, hb.tst]
theorem KT_not {x : Expr} {p : Pos} (hx : KOk C x) : ∀ (α : Type) (ns : Names) (loc : Loc) (k : Bool → M α), tstK C (.UnaryOp .Not x p) ns loc (evK C (.UnaryOp .Not x p) ns loc) k = (tst C (.UnaryOp .Not x p) ns loc (ev C (.UnaryOp .Not x p) ns loc) >>= k) := fun α ns loc k => by
  show tstK C x ns loc (evK C x ns loc) (fun b => k (!b)) = ((tst C x ns loc (ev C x ns loc) >>= fun b => pure (!b)) >>= k)
  rw [hx.tst, M.assoc]; rfl
theorem K_callName {f : Str} {es : List Expr} {p q : Pos} (h : ∀ e ∈ es, KOk C e) : ∀ (α : Type) (ns : Names) (loc : Loc) (k : V → M α), evK C (.Call (.Name f p) es [] q) ns loc k = (ev C (.Call (.Name f p) es [] q) ns loc >>= k) := fun α ns loc k => by
  show (if isGlob ns f = true then (if f = ("isinstance" : Str) then evIsiK C es ns loc k else evsK C es ns loc fun vs => if C.isFn f = true then C.call f vs >>= k else blt f vs >>= k) else M.bad) =
    ((if isGlob ns f = true then (if f = ("isinstance" : Str) then evIsi C es ns loc else (evs C es ns loc >>= fun vs => callGlob C f vs)) else M.bad) >>= k)
  rw [M.ite_bind, M.bad_bind, M.ite_bind, evIsiK_of h, evsK_of h, M.assoc]
  congr 2
  refine M.bind_congr fun vs => ?_
  unfold callGlob
  rw [M.ite_bind]
theorem K_callMeth {o : Expr} {m : Str} {es : List Expr} {p q : Pos} (ho : ∀ (α : Type) (ns : Names) (loc : Loc) (k : V → M α), evK C o ns loc k = (ev C o ns loc >>= k)) (h : ∀ e ∈ es, KOk C e) : ∀ (α : Type) (ns : Names) (loc : Loc) (k : V → M α), evK C (.Call (.Attribute o m p) es [] q) ns loc k = (ev C (.Call (.Attribute o m p) es [] q) ns loc >>= k) := fun α ns loc k => by
  show (if p.endLine = q.line ∧ es.length < 30 ∧ isSuper o = false then evK C o ns loc (fun v => askS (mtag v m) >>= fun tg => evsK C es ns loc fun vs => runM tg v vs >>= k) else M.bad) =
    ((if p.endLine = q.line ∧ es.length < 30 ∧ isSuper o = false then (ev C o ns loc >>= fun v => askS (mtag v m) >>= fun tg => evs C es ns loc >>= fun vs => runM tg v vs) else M.bad) >>= k)
  rw [M.ite_bind, M.bad_bind, ho, M.assoc]
  congr 1
  refine M.bind_congr fun v => ?_
  rw [M.assoc]
  refine M.bind_congr fun tg => ?_
  rw [evsK_of h, M.assoc]
theorem K_comp {elt t it : Expr} {ifs : List Expr} {scope : Scope} {p : Pos} (hs : ∀ (α : Type) (ns : Names) (loc : Loc) (k : Src → M α), srcK C it ns loc (evK C it ns loc) k = (src C it ns loc (ev C it ns loc) >>= k)) :
    ∀ (α : Type) (ns : Names) (loc : Loc) (k : V → M α), evK C (.ListComp elt [⟨t, it, ifs, 0⟩] scope p) ns loc k = (ev C (.ListComp elt [⟨t, it, ifs, 0⟩] scope p) ns loc >>= k) := fun α ns loc k => by
  show srcK C it ns loc (evK C it ns loc) (fun s => compAll C elt t ifs scope s ns loc >>= k) = ((src C it ns loc (ev C it ns loc) >>= fun s => compAll C elt t ifs scope s ns loc) >>= k)
  rw [hs, M.assoc]

theorem compK_cases : ∀ gens : List Comprehension, (∃ t it ifs, gens = [⟨t, it, ifs, 0⟩]) ∨ ((∀ (C : Cfg) (elt : Expr) (scope : Scope) (p : Pos) (ns : Names) (loc : Loc), ev C (.ListComp elt gens scope p) ns loc = M.bad) ∧ ∀ (C : Cfg) (elt : Expr) (scope : Scope) (p : Pos) (α : Type) (ns : Names) (loc : Loc) (k : V → M α), evK C (.ListComp elt gens scope p) ns loc k = M.bad)
  | [] => .inr ⟨fun _ _ _ _ _ _ => rfl, fun _ _ _ _ _ _ _ _ => rfl⟩
  | [⟨t, it, ifs, .ofNat 0⟩] => .inl ⟨t, it, ifs, rfl⟩
  | [⟨t, it, ifs, .ofNat (k + 1)⟩] => .inr ⟨fun _ _ _ _ _ _ => rfl, fun _ _ _ _ _ _ _ _ => rfl⟩
  | [⟨t, it, ifs, .negSucc k⟩] => .inr ⟨fun _ _ _ _ _ _ => rfl, fun _ _ _ _ _ _ _ _ => rfl⟩
  | ⟨_, _, _, .ofNat 0⟩ :: _ :: _ => .inr ⟨fun _ _ _ _ _ _ => rfl, fun _ _ _ _ _ _ _ _ => rfl⟩
  | ⟨_, _, _, .ofNat (_ + 1)⟩ :: _ :: _ => .inr ⟨fun _ _ _ _ _ _ => rfl, fun _ _ _ _ _ _ _ _ => rfl⟩
  | ⟨_, _, _, .negSucc _⟩ :: _ :: _ => .inr ⟨fun _ _ _ _ _ _ => rfl, fun _ _ _ _ _ _ _ _ => rfl⟩

mutual
theorem k_ok (C : Cfg) : ∀ e : Expr, KOk C e
  | .Constant c k p => .plain (fun _ _ _ k => constK_eq c k) (fun _ _ _ => rfl) (fun _ _ _ _ _ => rfl) (fun _ _ _ => rfl) (fun _ _ _ _ _ => rfl) rfl rfl
  | .Name x p => .plain (fun _ ns loc k => by
      show (if x = ("__debug__" : Str) then M.bad else nameK C ns x loc k) = ((if x = ("__debug__" : Str) then M.bad else ldName C ns x loc) >>= k)
      rw [M.ite_bind, nameK_eq]; rfl) (fun _ _ _ => rfl) (fun _ _ _ _ _ => rfl) (fun _ _ _ => rfl) (fun _ _ _ _ _ => rfl) rfl rfl
  | .BinOp l op r p => .plain (K_binop (k_ok C l) (k_ok C r)) (fun _ _ _ => rfl) (fun _ _ _ _ _ => rfl) (fun _ _ _ => rfl) (fun _ _ _ _ _ => rfl) rfl rfl
  | .UnaryOp op x p => by
    have hx := k_ok C x
    cases op with
    | Not => exact ⟨K_not hx, KT_not hx, fun α ns loc k => by show evK C (.UnaryOp .Not x p) ns loc (fun v => srcV v >>= k) = ((ev C (.UnaryOp .Not x p) ns loc >>= srcV) >>= k); rw [K_not hx, M.assoc], kNoSlice rfl, kNoAttr rfl⟩
    | USub =>
      cases x with
      | Constant c k q =>
        cases c with
        | int z => exact .plain (fun _ _ _ _ => rfl) (fun _ _ _ => rfl) (fun _ _ _ _ _ => rfl) (fun _ _ _ => rfl) (fun _ _ _ _ _ => rfl) rfl rfl
        | _ => exact .nothing (fun _ _ => rfl) (fun _ _ _ _ => rfl) (fun _ _ _ => rfl) (fun _ _ _ _ _ => rfl) (fun _ _ _ => rfl) (fun _ _ _ _ _ => rfl) rfl rfl
      | _ => exact .nothing (fun _ _ => rfl) (fun _ _ _ _ => rfl) (fun _ _ _ => rfl) (fun _ _ _ _ _ => rfl) (fun _ _ _ => rfl) (fun _ _ _ _ _ => rfl) rfl rfl
    | _ => exact .nothing (fun _ _ => rfl) (fun _ _ _ _ => rfl) (fun _ _ _ => rfl) (fun _ _ _ _ _ => rfl) (fun _ _ _ => rfl) (fun _ _ _ _ _ => rfl) rfl rfl
  | .BoolOp op vs p => by
    have hv := ks_ok C vs
    exact ⟨fun α ns loc k => evBoolK_of hv α op ns loc k, fun α ns loc k => tstAllK_of hv α op ns loc k, fun α ns loc k => by
      show evBoolK C vs op ns loc (fun v => srcV v >>= k) = ((evBool C vs op ns loc >>= srcV) >>= k)
      rw [evBoolK_of hv, M.assoc], kNoSlice rfl, kNoAttr rfl⟩
  | .Compare l ops rs p => by
    have hl := k_ok C l
    have hr := ks_ok C rs
    match ops, rs with
    | [op], [r] => exact .plain (K_compare hl (hr r (List.mem_cons_self ..))) (fun _ _ _ => rfl) (fun _ _ _ _ _ => rfl) (fun _ _ _ => rfl) (fun _ _ _ _ _ => rfl) rfl rfl
    | [], _ => exact .nothing (fun _ _ => rfl) (fun _ _ _ _ => rfl) (fun _ _ _ => rfl) (fun _ _ _ _ _ => rfl) (fun _ _ _ => rfl) (fun _ _ _ _ _ => rfl) rfl rfl
    | [op, op2], [m, r] => exact .plain (K_chain hl (hr m (List.mem_cons_self ..)) (hr r (List.mem_cons_of_mem _ (List.mem_cons_self ..)))) (fun _ _ _ => rfl) (fun _ _ _ _ _ => rfl) (fun _ _ _ => rfl) (fun _ _ _ _ _ => rfl) rfl rfl
    | [_], [] | [_], _ :: _ :: _ | [_, _], [] | [_, _], [_] | [_, _], _ :: _ :: _ :: _ | _ :: _ :: _ :: _, _ => exact .nothing (fun _ _ => rfl) (fun _ _ _ _ => rfl) (fun _ _ _ => rfl) (fun _ _ _ _ _ => rfl) (fun _ _ _ => rfl) (fun _ _ _ _ _ => rfl) rfl rfl
  | .IfExp t a b p => by
    have ht := k_ok C t
    have ha := k_ok C a
    have hb := k_ok C b
    exact ⟨K_ifexp ht ha hb, KT_ifexp ht ha hb, fun α ns loc k => by show evK C (.IfExp t a b p) ns loc (fun v => srcV v >>= k) = ((ev C (.IfExp t a b p) ns loc >>= srcV) >>= k); rw [K_ifexp ht ha hb, M.assoc], kNoSlice rfl, kNoAttr rfl⟩
  | .Slice lo hi st p => by
    have hlo := kopt_ok C lo
    have hhi := kopt_ok C hi
    exact ⟨fun _ _ _ _ => rfl, fun _ _ _ _ => rfl, fun _ _ _ _ => rfl, fun lo' hi' q e => by cases e; exact ⟨hlo, hhi⟩, kNoAttr rfl⟩
  | .Subscript o i p => by
    have ho := k_ok C o
    have hi := k_ok C i
    have he : ∀ (α : Type) (ns : Names) (loc : Loc) (k : V → M α), evK C (.Subscript o i p) ns loc k = (ev C (.Subscript o i p) ns loc >>= k) := by
      cases i with
      | Slice lo hi' st q =>
        cases st with
        | none => obtain ⟨h1, h2⟩ := hi.slice lo hi' q rfl; exact K_slice ho h1 h2
        | some st => exact K_sub ho hi (fun _ _ => rfl) (fun _ _ _ _ => rfl)
      | _ => exact K_sub ho hi (fun _ _ => rfl) (fun _ _ _ _ => rfl)
    exact .plain he (fun _ _ _ => rfl) (fun _ _ _ _ _ => rfl) (fun _ _ _ => rfl) (fun _ _ _ _ _ => rfl) rfl rfl
  | .List es p => .plain (K_list (ks_ok C es)) (fun _ _ _ => rfl) (fun _ _ _ _ _ => rfl) (fun _ _ _ => rfl) (fun _ _ _ _ _ => rfl) rfl rfl
  | .Tuple es j p => .plain (K_tuple (ks_ok C es)) (fun _ _ _ => rfl) (fun _ _ _ _ _ => rfl) (fun _ _ _ => rfl) (fun _ _ _ _ _ => rfl) rfl rfl
  | .Attribute o m p => by
    have ho := k_ok C o
    exact ⟨fun _ _ _ _ => rfl, fun _ _ _ _ => rfl, fun _ _ _ _ => rfl, kNoSlice rfl, fun o' m' q e => by cases e; exact ho.ev⟩
  | .Call f as ks p => by
    have hf := k_ok C f
    have has := ks_ok C as
    cases ks with
    | cons k ks =>
      exact .nothing (fun ns loc => by cases f <;> rfl) (fun _ ns loc _ => by cases f <;> rfl) (fun _ _ _ => rfl) (fun _ _ _ _ _ => rfl) (fun ns loc whole => by cases f <;> rfl) (fun _ ns loc whole _ => by cases f <;> rfl) rfl rfl
    | nil =>
      cases f with
      | Name x q => exact ⟨K_callName has, fun α ns loc k => by show evK C (.Call (.Name x q) as [] p) ns loc (fun v => truth v >>= k) = ((ev C (.Call (.Name x q) as [] p) ns loc >>= truth) >>= k); rw [K_callName has, M.assoc], srcK_call (K_callName has) has, kNoSlice rfl, kNoAttr rfl⟩
      | Attribute o m q => exact .plain (K_callMeth (hf.attr o m q rfl) has) (fun _ _ _ => rfl) (fun _ _ _ _ _ => rfl) (fun _ _ _ => rfl) (fun _ _ _ _ _ => rfl) rfl rfl
      | _ => exact .nothing (fun _ _ => rfl) (fun _ _ _ _ => rfl) (fun _ _ _ => rfl) (fun _ _ _ _ _ => rfl) (fun _ _ _ => rfl) (fun _ _ _ _ _ => rfl) rfl rfl
  | .ListComp elt gens scope p => by
    have hg := kgens_ok C gens
    rcases compK_cases gens with ⟨t, it, ifs, rfl⟩ | ⟨hbad, hbadK⟩
    · exact .plain (K_comp (hg _ (List.mem_cons_self ..))) (fun _ _ _ => rfl) (fun _ _ _ _ _ => rfl) (fun _ _ _ => rfl) (fun _ _ _ _ _ => rfl) rfl rfl
    · exact .nothing (hbad C elt scope p) (fun α => hbadK C elt scope p α) (fun _ _ _ => rfl) (fun _ _ _ _ _ => rfl) (fun _ _ _ => rfl) (fun _ _ _ _ _ => rfl) rfl rfl
  | .NamedExpr _ _ _ => .nothing (fun _ _ => rfl) (fun _ _ _ _ => rfl) (fun _ _ _ => rfl) (fun _ _ _ _ _ => rfl) (fun _ _ _ => rfl) (fun _ _ _ _ _ => rfl) rfl rfl
  | .Lambda _ _ _ _ => .nothing (fun _ _ => rfl) (fun _ _ _ _ => rfl) (fun _ _ _ => rfl) (fun _ _ _ _ _ => rfl) (fun _ _ _ => rfl) (fun _ _ _ _ _ => rfl) rfl rfl
  | .Dict ks vs p => by
    match ks, vs with
    | [], [] => exact .plain (fun _ _ _ _ => rfl) (fun _ _ _ => rfl) (fun _ _ _ _ _ => rfl) (fun _ _ _ => rfl) (fun _ _ _ _ _ => rfl) rfl rfl
    | [some e], [v] => exact .plain (fun _ _ _ _ => rfl) (fun _ _ _ => rfl) (fun _ _ _ _ _ => rfl) (fun _ _ _ => rfl) (fun _ _ _ _ _ => rfl) rfl rfl
    | [], _ :: _ | [none], _ | [some _], [] | [some _], _ :: _ :: _ | none :: _ :: _, _ | some _ :: _ :: _, _ => exact .nothing (fun _ _ => rfl) (fun _ _ _ _ => rfl) (fun _ _ _ => rfl) (fun _ _ _ _ _ => rfl) (fun _ _ _ => rfl) (fun _ _ _ _ _ => rfl) rfl rfl
  | .Set _ _ _ => .nothing (fun _ _ => rfl) (fun _ _ _ _ => rfl) (fun _ _ _ => rfl) (fun _ _ _ _ _ => rfl) (fun _ _ _ => rfl) (fun _ _ _ _ _ => rfl) rfl rfl
  | .SetComp _ _ _ _ => .nothing (fun _ _ => rfl) (fun _ _ _ _ => rfl) (fun _ _ _ => rfl) (fun _ _ _ _ _ => rfl) (fun _ _ _ => rfl) (fun _ _ _ _ _ => rfl) rfl rfl
  | .DictComp _ _ _ _ _ => .nothing (fun _ _ => rfl) (fun _ _ _ _ => rfl) (fun _ _ _ => rfl) (fun _ _ _ _ _ => rfl) (fun _ _ _ => rfl) (fun _ _ _ _ _ => rfl) rfl rfl
  | .GeneratorExp _ _ _ _ => .nothing (fun _ _ => rfl) (fun _ _ _ _ => rfl) (fun _ _ _ => rfl) (fun _ _ _ _ _ => rfl) (fun _ _ _ => rfl) (fun _ _ _ _ _ => rfl) rfl rfl
  | .Await _ _ => .nothing (fun _ _ => rfl) (fun _ _ _ _ => rfl) (fun _ _ _ => rfl) (fun _ _ _ _ _ => rfl) (fun _ _ _ => rfl) (fun _ _ _ _ _ => rfl) rfl rfl
  | .Yield _ _ => .nothing (fun _ _ => rfl) (fun _ _ _ _ => rfl) (fun _ _ _ => rfl) (fun _ _ _ _ _ => rfl) (fun _ _ _ => rfl) (fun _ _ _ _ _ => rfl) rfl rfl
  | .YieldFrom _ _ => .nothing (fun _ _ => rfl) (fun _ _ _ _ => rfl) (fun _ _ _ => rfl) (fun _ _ _ _ _ => rfl) (fun _ _ _ => rfl) (fun _ _ _ _ _ => rfl) rfl rfl
  | .FormattedValue _ _ _ _ => .nothing (fun _ _ => rfl) (fun _ _ _ _ => rfl) (fun _ _ _ => rfl) (fun _ _ _ _ _ => rfl) (fun _ _ _ => rfl) (fun _ _ _ _ _ => rfl) rfl rfl
  | .JoinedStr _ _ => .nothing (fun _ _ => rfl) (fun _ _ _ _ => rfl) (fun _ _ _ => rfl) (fun _ _ _ _ _ => rfl) (fun _ _ _ => rfl) (fun _ _ _ _ _ => rfl) rfl rfl
  | .Starred _ _ => .nothing (fun _ _ => rfl) (fun _ _ _ _ => rfl) (fun _ _ _ => rfl) (fun _ _ _ _ _ => rfl) (fun _ _ _ => rfl) (fun _ _ _ _ _ => rfl) rfl rfl
theorem ks_ok (C : Cfg) : ∀ es : List Expr, ∀ e ∈ es, KOk C e
  | [] => fun _ hm => absurd hm List.not_mem_nil
  | e :: r => fun e' hm => by
    have h1 := k_ok C e
    have h2 := ks_ok C r
    rcases List.mem_cons.mp hm with rfl | hm
    · exact h1
    · exact h2 e' hm
theorem kopt_ok (C : Cfg) : ∀ o : Option Expr, ∀ (α : Type) (ns : Names) (loc : Loc) (k : V → M α), evOptK C o ns loc k = (evOpt C o ns loc >>= k)
  | none => fun _ _ _ _ => rfl
  | some e => (k_ok C e).ev
theorem kgens_ok (C : Cfg) : ∀ gs : List Comprehension, ∀ g ∈ gs, ∀ (α : Type) (ns : Names) (loc : Loc) (k : Src → M α), srcK C g.iter ns loc (evK C g.iter ns loc) k = (src C g.iter ns loc (ev C g.iter ns loc) >>= k)
  | [] => fun _ hm => absurd hm List.not_mem_nil
  | ⟨t, it, ifs, k⟩ :: r => fun g hm => by
    have h1 := k_ok C it
    have h3 := kgens_ok C r
    rcases List.mem_cons.mp hm with rfl | hm
    · exact h1.src
    · exact h3 g hm
end

/-! statements -/
noncomputable def flK (k : Fl × Loc → M α) (next : Loc → M α) (x : Fl × Loc) : M α := match x with
  | (.next, loc) => next loc
  | (f, loc) => k (f, loc)

mutual
noncomputable def exK (C : Cfg) : Stmt → Names → Loc → (Fl × Loc → M α) → M α
  | .Expr (.Call f as [] p) _, ns, loc, k => evK C (.Call f as [] p) ns loc fun _ => k (.next, loc)
  | .Pass _, _, loc, k => k (.next, loc)
  | .Return none _, _, loc, k => k (.ret .none, loc)
  | .Return (some e) _, ns, loc, k => evK C e ns loc fun v => k (.ret v, loc)
  | .Assign [.Name x _] value _, ns, loc, k => evK C value ns loc fun v => stLoc ns x v loc >>= fun loc' => k (.next, loc')
  | .Assign [.Subscript o i _] value _, ns, loc, k => evK C value ns loc fun v => evK C o ns loc fun a => evK C i ns loc fun b => setItem a b v >>= fun _ => k (.next, loc)
  | .Assign [.Tuple ts j q] value _, ns, loc, k => if isTupE value then M.bad else evK C value ns loc fun v => bindTo (stLoc ns) (.Tuple ts j q) v loc >>= fun loc' => k (.next, loc')
  | .If t a b _, ns, loc, k => tstK C t ns loc (evK C t ns loc) fun c => if c = true then exsK C a ns loc k else exsK C b ns loc k
  | .For target iter body [] _, ns, loc, k => srcK C iter ns loc (evK C iter ns loc) fun s => forAll C target body s ns loc >>= k
  | _, _, _, _ => M.bad

noncomputable def exsK (C : Cfg) : List Stmt → Names → Loc → (Fl × Loc → M α) → M α
  | [], _, loc, k => k (.next, loc)
  | s :: r, ns, loc, k => exK C s ns loc (flK k fun loc' => exsK C r ns loc' k)
end

mutual
theorem exK_ok (C : Cfg) : ∀ (st : Stmt) (α : Type) (ns : Names) (loc : Loc) (k : Fl × Loc → M α), exK C st ns loc k = (ex C st ns loc >>= k)
  | .Expr e p, α, ns, loc, k => by
    cases e with
    | Call f as ks q =>
      cases ks with
      | nil =>
        show evK C (.Call f as [] q) ns loc (fun _ => k (.next, loc)) = ((ev C (.Call f as [] q) ns loc >>= fun _ => pure (.next, loc)) >>= k)
        rw [(k_ok C _).ev, M.assoc]; rfl
      | cons _ _ => rfl
    | _ => rfl
  | .Pass p, α, ns, loc, k => rfl
  | .Return none p, α, ns, loc, k => rfl
  | .Return (some e) p, α, ns, loc, k => by
    show evK C e ns loc (fun v => k (.ret v, loc)) = ((ev C e ns loc >>= fun v => pure (.ret v, loc)) >>= k)
    rw [(k_ok C _).ev, M.assoc]; rfl
  | .Assign ts v p, α, ns, loc, k => by
    match ts with
    | [] => rfl
    | [.Name x q] =>
      show evK C v ns loc (fun v => stLoc ns x v loc >>= fun loc' => k (.next, loc')) = ((ev C v ns loc >>= fun v => stLoc ns x v loc >>= fun loc' => pure (.next, loc')) >>= k)
      rw [(k_ok C _).ev, M.assoc]
      refine M.bind_congr fun a => ?_
      rw [M.assoc]; rfl
    | [.Subscript o i q] =>
      show evK C v ns loc (fun v => evK C o ns loc fun a => evK C i ns loc fun b => setItem a b v >>= fun _ => k (.next, loc)) = ((ev C v ns loc >>= fun v => ev C o ns loc >>= fun a => ev C i ns loc >>= fun b => setItem a b v >>= fun _ => pure (.next, loc)) >>= k)
      rw [(k_ok C _).ev, M.assoc]
      refine M.bind_congr fun v => ?_
      rw [(k_ok C _).ev, M.assoc]
      refine M.bind_congr fun a => ?_
      rw [(k_ok C _).ev, M.assoc]
      refine M.bind_congr fun b => ?_
      rw [M.assoc]; rfl
    | [.Tuple ts j q] =>
      show (if isTupE v = true then M.bad else evK C v ns loc fun v => bindTo (stLoc ns) (.Tuple ts j q) v loc >>= fun loc' => k (.next, loc')) = ((if isTupE v = true then M.bad else (ev C v ns loc >>= fun v => bindTo (stLoc ns) (.Tuple ts j q) v loc >>= fun loc' => pure (.next, loc'))) >>= k)
      rw [M.ite_bind, M.bad_bind, (k_ok C _).ev, M.assoc]
      congr 1
      refine M.bind_congr fun a => ?_
      rw [M.assoc]; rfl
    | [.BoolOp _ _ _] | [.NamedExpr _ _ _] | [.BinOp _ _ _ _] | [.UnaryOp _ _ _] | [.Lambda _ _ _ _] | [.IfExp _ _ _ _] | [.Dict _ _ _] | [.Set _ _ _] | [.ListComp _ _ _ _] | [.SetComp _ _ _ _] | [.DictComp _ _ _ _ _] | [.GeneratorExp _ _ _ _]
    | [.Await _ _] | [.Yield _ _] | [.YieldFrom _ _] | [.Compare _ _ _ _] | [.Call _ _ _ _] | [.FormattedValue _ _ _ _] | [.JoinedStr _ _] | [.Constant _ _ _] | [.Attribute _ _ _] | [.Starred _ _] | [.List _ _] | [.Slice _ _ _ _] => rfl
    | t :: _ :: _ => cases t <;> rfl
  | .If t a b p, α, ns, loc, k => by
    show tstK C t ns loc (evK C t ns loc) (fun c => if c = true then exsK C a ns loc k else exsK C b ns loc k) = ((tst C t ns loc (ev C t ns loc) >>= fun c => if c = true then exs C a ns loc else exs C b ns loc) >>= k)
    rw [(k_ok C _).tst, M.assoc]
    refine M.bind_congr fun c => ?_
    rw [M.ite_bind, exsK_ok C a, exsK_ok C b]
  | .For t it body els p, α, ns, loc, k => by
    cases els with
    | nil =>
      show srcK C it ns loc (evK C it ns loc) (fun s => forAll C t body s ns loc >>= k) = ((src C it ns loc (ev C it ns loc) >>= fun s => forAll C t body s ns loc) >>= k)
      rw [(k_ok C _).src, M.assoc]
    | cons _ _ => rfl
  | .FunctionDef .., α, ns, loc, k => rfl
  | .AsyncFunctionDef .., α, ns, loc, k => rfl
  | .ClassDef .., α, ns, loc, k => rfl
  | .Delete .., α, ns, loc, k => rfl
  | .TypeAlias .., α, ns, loc, k => rfl
  | .AugAssign .., α, ns, loc, k => rfl
  | .AnnAssign .., α, ns, loc, k => rfl
  | .AsyncFor .., α, ns, loc, k => rfl
  | .While .., α, ns, loc, k => rfl
  | .With .., α, ns, loc, k => rfl
  | .AsyncWith .., α, ns, loc, k => rfl
  | .Match .., α, ns, loc, k => rfl
  | .Raise .., α, ns, loc, k => rfl
  | .Try .., α, ns, loc, k => rfl
  | .TryStar .., α, ns, loc, k => rfl
  | .Assert .., α, ns, loc, k => rfl
  | .Import .., α, ns, loc, k => rfl
  | .ImportFrom .., α, ns, loc, k => rfl
  | .Global .., α, ns, loc, k => rfl
  | .Nonlocal .., α, ns, loc, k => rfl
  | .Break .., α, ns, loc, k => rfl
  | .Continue .., α, ns, loc, k => rfl
theorem exsK_ok (C : Cfg) : ∀ (sts : List Stmt) (α : Type) (ns : Names) (loc : Loc) (k : Fl × Loc → M α), exsK C sts ns loc k = (exs C sts ns loc >>= k)
  | [], α, ns, loc, k => rfl
  | st :: r, α, ns, loc, k => by
    show exK C st ns loc (flK k fun loc' => exsK C r ns loc' k) = ((ex C st ns loc >>= fun x => andThen x (exs C r ns)) >>= k)
    rw [exK_ok C st, M.assoc]
    refine M.bind_congr fun x => ?_
    obtain ⟨fl, loc'⟩ := x
    cases fl with
    | next => exact exsK_ok C r α ns loc' k
    | brk => rfl
    | cont => rfl
    | ret v => rfl
end

noncomputable def retK (r : Fl × Loc) : M V := pure (match r.1 with | .ret v => v | _ => .none)
theorem callFn_K (C : Cfg) (f : Fn) (args : List V) : callFn C f args = if args.length = f.params.length then exsK C f.body f.names (initLoc f.params args f.names) retK else M.bad := by
  unfold callFn
  rw [exsK_ok]; rfl
theorem M.bind_pure {α : Type} (m : M α) : (m >>= fun a => (Pure.pure a : M α)) = m := by
  funext σ
  cases e : m σ with
  | bad => rw [bind_bad e]
  | exc _ _ => rw [bind_exc e]
  | ok a σ' => rw [bind_ok e]; rfl
theorem exs_K (C : Cfg) (sts : List Stmt) (ns : Names) (loc : Loc) : exs C sts ns loc = exsK C sts ns loc fun x => pure x := by rw [exsK_ok, M.bind_pure]
theorem ev_K (C : Cfg) (e : Expr) (ns : Names) (loc : Loc) : ev C e ns loc = evK C e ns loc fun x => pure x := by rw [(k_ok C e).ev, M.bind_pure]
theorem tests_K (C : Cfg) (e : Expr) (ns : Names) (loc : Loc) : tests C [e] ns loc = tstK C e ns loc (evK C e ns loc) fun x => pure x := by rw [(k_ok C e).tst, M.bind_pure]; rfl

/-! ## ways into a text -/
noncomputable def nthS (l : List Stmt) (i : Nat) : Stmt := (l[i]?).getD (.Pass ⟨0, 0, 0, 0⟩)
noncomputable def noE : Expr := .Constant .none 0 ⟨0, 0, 0, 0⟩
noncomputable def nthE (l : List Expr) (i : Nat) : Expr := (l[i]?).getD noE
noncomputable def sVal : Stmt → Expr
  | .Assign _ v _ => v
  | .Return (some v) _ => v
  | .Expr v _ => v
  | .For _ i _ _ _ => i
  | .If t _ _ _ => t
  | _ => noE
noncomputable def sTgt : Stmt → Expr
  | .For t _ _ _ _ => t
  | .Assign ts _ _ => nthE ts 0
  | _ => noE
noncomputable def sBody : Stmt → List Stmt
  | .For _ _ b _ _ => b
  | .If _ b _ _ => b
  | _ => []
noncomputable def sElse : Stmt → List Stmt
  | .If _ _ b _ => b
  | _ => []
/-- the parts of an expression, in order -/
noncomputable def ePart (e : Expr) (i : Nat) : Expr := match e with
  | .BoolOp _ vs _ => nthE vs i
  | .BinOp l _ r _ => nthE [l, r] i
  | .UnaryOp _ x _ => x
  | .IfExp t a b _ => nthE [t, a, b] i
  | .Compare l _ rs _ => nthE (l :: rs) i
  | .Call f as _ _ => nthE (f :: as) i
  | .Attribute o _ _ => o
  | .Subscript o j _ => nthE [o, j] i
  | .Slice lo hi st _ => nthE [lo.getD noE, hi.getD noE, st.getD noE] i
  | .List es _ => nthE es i
  | .Dict ks vs _ => nthE (ks.map (·.getD noE) ++ vs) i
  | .Tuple es _ _ => nthE es i
  | .ListComp elt gs _ _ => nthE (elt :: gs.flatMap fun g => g.iter :: g.target :: g.ifs) i
  | _ => noE
noncomputable def cElt (e : Expr) : Expr := ePart e 0
noncomputable def cIter (e : Expr) : Expr := ePart e 1
noncomputable def cTgt (e : Expr) : Expr := ePart e 2
noncomputable def cIfs : Expr → List Expr
  | .ListComp _ [g] _ _ => g.ifs
  | _ => []
noncomputable def cScope : Expr → Scope
  | .ListComp _ _ s _ => s
  | _ => default
end Mine

namespace Mine
open PySem PyProof.Rows

/-- the defs of a text's top -/
noncomputable def defOf (d : DefRec) : Str × Fn := (d.name, ⟨d.params.args.map (·.arg), d.scope.names, d.body⟩)
noncomputable def defsV (q : Program) : List (Str × Fn) := (recsOf q).map defOf
noncomputable def fnsT (tab : List (Str × Fn)) : Str → Option Fn := fun x => tab.lookup x
noncomputable def cfgN (fns : Str → Option Fn) (glob : Str → Option V) (d : Nat) : Cfg := ⟨fun x => (fns x).isSome, callN fns glob d, glob⟩
/-- the plain values of a text's top -/
noncomputable def litV : PyData → Option V
  | .none => some .none
  | .bool b => some (.bool b)
  | .int i => some (.int i)
  | .str s => if SOk s then some (.str s) else none
  | _ => none
noncomputable def globV (q : Program) : Str → Option V := fun x => (valOf q x).bind litV
/-- the same as a table -/
noncomputable def globT (gs : List (Str × V)) : Str → Option V := fun x => gs.lookup x
noncomputable def globOk (q : Program) (gs : List (Str × V)) : Bool := gs.all fun p => match globV q p.1, p.2 with
  | some (.int a), .int b => a == b
  | some (.str a), .str b => a == b
  | _, _ => false
/-- what is to be shown of a law's run -/
noncomputable def LawOk (tab : List (Str × Fn)) (glob : Str → Option V) (d : Nat) : Prop := ∀ zs : List Int, zs.length ≤ 63 → ∃ σ, callN (fnsT tab) glob d "law" [.ref 0] [.list (zs.map .int)] = .ok (.bool true) σ
end Mine

namespace Mine
open PySem PyProof.Rows

/-! ## slots and names -/
theorem slotGo_lookup {x : Str} : ∀ {ns : Names} {i j : Nat} {k : NameKind}, slotGo ns x i = some (j, k) → ns.lookup x = some k
  | [], _, _, _, h => by cases h
  | (y, k') :: r, i, j, k, h => by
    unfold slotGo at h
    rw [List.lookup_cons]
    split at h
    · rename_i he; rw [he]; cases h; rfl
    · rename_i he; rw [he]; exact slotGo_lookup h
theorem slot_lookup {x : Str} {ns : Names} {j : Nat} {k : NameKind} (h : slot ns x = some (j, k)) : ns.lookup x = some k := slotGo_lookup h

theorem slotGo_ge {x : Str} : ∀ {ns : Names} {i j : Nat} {k : NameKind}, slotGo ns x i = some (j, k) → i ≤ j
  | [], _, _, _, h => by cases h
  | (y, k') :: r, i, j, k, h => by
    unfold slotGo at h
    split at h
    · cases h; exact Nat.le_refl _
    · exact Nat.le_of_succ_le (slotGo_ge h)
theorem slotGo_inj {x y : Str} : ∀ {ns : Names} {i j : Nat} {k k' : NameKind}, slotGo ns x i = some (j, k) → slotGo ns y i = some (j, k') → x = y
  | [], _, _, _, _, h, _ => by cases h
  | (z, k₀) :: r, i, j, k, k', h, h' => by
    unfold slotGo at h h'
    split at h <;> split at h'
    · rename_i e1 _ e2; exact (beq_iff_eq.mp e1).trans (beq_iff_eq.mp e2).symm
    · cases h; exact absurd (slotGo_ge h') (Nat.not_succ_le_self _)
    · cases h'; exact absurd (slotGo_ge h) (Nat.not_succ_le_self _)
    · exact slotGo_inj h h'
theorem slot_inj {x y : Str} {ns : Names} {j : Nat} {k k' : NameKind} (h : slot ns x = some (j, k)) (h' : slot ns y = some (j, k')) : x = y := slotGo_inj h h'

/-! ## frames -/
noncomputable def offMap (ρ : Map) (b : Addr) : Prop := ∀ p ∈ ρ, b ≠ p.1 ∧ b ≠ p.2

structure Frm (env : Env) (ns : Names) (loc : Loc) (ρ : Map) (h : Heap) : Prop where
  names : env.scope.names = ns
  kind : env.scope.kind = .function
  globals : env.globals = mainGlobals
  blts : env.builtins = builtinsNs
  vars : ∃ m, h.Ns env.locals m ∧ ∀ x i v, slot ns x = some (i, .local) → loc[i]? = some (some v) → ∃ val, m x = some val ∧ Rel ρ h val v
  cell : ∀ x i, slot ns x = some (i, .cell) → ∃ c o, env.cells.lookup x = some c ∧ h.IsCell c o ∧ ∀ v, loc[i]? = some (some v) → ∃ val, o = some val ∧ Rel ρ h val v
  live : ∀ x c, env.cells.lookup x = some c → ∃ o, h.IsCell c o
  offL : offMap ρ env.locals
  offC : ∀ x c, env.cells.lookup x = some c → c ≠ env.locals ∧ offMap ρ c
  apart : ∀ x y c, env.cells.lookup x = some c → env.cells.lookup y = some c → x = y

/-- what a frame may change -/
noncomputable def frameW (env : Env) : List Addr := env.locals :: env.scope.names.filterMap fun p => env.cells.lookup p.1
/-- an address that a frame does not use -/
noncomputable def offFrame (env : Env) (b : Addr) : Prop := b ≠ env.locals ∧ ∀ y c, env.cells.lookup y = some c → b ≠ c

section
variable {W : List Addr} {ρ ρ' : Map} {h h' : Heap} {env : Env} {ns : Names} {loc : Loc}

theorem offMap.ext (x : Ext W ρ h ρ' h') {b : Addr} {o : Obj} (hb : h.get? b = some o) (off : offMap ρ b) : offMap ρ' b := fun p hp => by
  obtain ⟨i, hi⟩ := List.getElem?_of_mem hp
  rcases Nat.lt_or_ge i ρ.length with hl | hl
  · have h1 := x.pre i _ (List.getElem?_eq_getElem hl)
    rw [hi] at h1; cases h1
    exact off _ (List.getElem_mem hl)
  · obtain ⟨n1, n2⟩ := x.new i p hi hl
    exact ⟨fun eq => (by rw [← eq, hb] at n1; cases n1), fun eq => (by rw [← eq, hb] at n2; cases n2)⟩

theorem mem_of_lookup {α : Type} : ∀ {l : List (Str × α)} {n : Str} {c : α}, l.lookup n = some c → (n, c) ∈ l
  | [], _, _, h => by cases h
  | (k, v) :: r, n, c, h => by
    rw [List.lookup_cons] at h
    split at h
    · rename_i e
      cases h; rw [beq_iff_eq.mp e]; exact List.mem_cons_self ..
    · exact List.mem_cons_of_mem _ (mem_of_lookup h)

theorem frameW_cell {x : Str} {k : NameKind} {c : Addr} (hm : (x, k) ∈ env.scope.names) (hc : env.cells.lookup x = some c) : c ∈ frameW env := List.mem_cons_of_mem _ (List.mem_filterMap.mpr ⟨(x, k), hm, hc⟩)
theorem offFrame.notin {b : Addr} (h : offFrame env b) : b ∉ frameW env := fun hm => by
  rcases List.mem_cons.mp hm with rfl | hm
  · exact h.1 rfl
  · obtain ⟨⟨x, k⟩, _, hc⟩ := List.mem_filterMap.mp hm
    exact h.2 x b hc rfl
theorem Frm.alive (F : Frm env ns loc ρ h) {b : Addr} (hm : b ∈ frameW env) : ∃ o, h.get? b = some o := by
  rcases List.mem_cons.mp hm with rfl | hm
  · obtain ⟨m, ⟨o, es, ep, ho, r⟩, hv⟩ := F.vars
    exact ⟨o, ho⟩
  · obtain ⟨⟨x, k⟩, _, hc⟩ := List.mem_filterMap.mp hm
    obtain ⟨_, o, ho, _⟩ := F.live x b hc
    exact ⟨o, ho⟩
theorem Frm.offDead (F : Frm env ns loc ρ h) {b : Addr} (hd : h.get? b = none) : offFrame env b := by
  refine ⟨fun e => ?_, fun y c hc e => ?_⟩
  · obtain ⟨m, ⟨o, es, ep, ho, r⟩, hv⟩ := F.vars
    rw [← e, hd] at ho; cases ho
  · obtain ⟨_, o, ho, _⟩ := F.live y c hc
    rw [← e, hd] at ho; cases ho

theorem Frm.ext (F : Frm env ns loc ρ h) (x : Ext W ρ h ρ' h') (hW : ∀ b ∈ W, offFrame env b) : Frm env ns loc ρ' h' where
  names := F.names
  kind := F.kind
  globals := F.globals
  blts := F.blts
  vars := by
    obtain ⟨m, hn, hv⟩ := F.vars
    obtain ⟨o, es, ep, ho, r⟩ := hn
    refine ⟨m, ⟨o, es, ep, x.keep _ _ ho (fun hm => (hW _ hm).1 rfl) F.offL, r⟩, fun y i v h1 h2 => ?_⟩
    obtain ⟨val, e, hr⟩ := hv y i v h1 h2
    exact ⟨val, e, hr.ext x⟩
  cell := fun y i h1 => by
    obtain ⟨c, o, e, ⟨ob, hob, hd⟩, hv⟩ := F.cell y i h1
    refine ⟨c, o, e, ⟨ob, x.keep _ _ hob (fun hm => (hW _ hm).2 y c e rfl) (F.offC y c e).2, hd⟩, fun v hl => ?_⟩
    obtain ⟨val, e', hr⟩ := hv v hl
    exact ⟨val, e', hr.ext x⟩
  live := fun y c e => by
    obtain ⟨o, ob, hob, hd⟩ := F.live y c e
    exact ⟨o, ob, x.keep _ _ hob (fun hm => (hW _ hm).2 y c e rfl) (F.offC y c e).2, hd⟩
  offL := by
    obtain ⟨m, ⟨o, es, ep, ho, r⟩, hv⟩ := F.vars
    exact offMap.ext x ho F.offL
  offC := fun y c e => by
    obtain ⟨_, o, ho, _⟩ := F.live y c e
    exact ⟨(F.offC y c e).1, offMap.ext x ho (F.offC y c e).2⟩
  apart := F.apart
end

/-! ## room -/
structure Rm (A : Around) (n : Nat) : Prop where
  handled : A.handled = none
  depth : A.depth + n < recursionLimit
  units : A.units + 8 * n + 300 < cLine

end Mine

namespace Mine
open PySem PyProof.Rows

section
variable {prog : Program} {w : World} {W : List Addr} {ρ ρ' : Map} {h h' h₀ : Heap} {σ : Store}

theorem ORel.sub {p : Addr × Addr} {o : O} (r : ORel prog w ρ h p o) (x : Sub ρ h ρ' h') (h1 : ∀ ob, h.get? p.1 = some ob → h'.get? p.1 = some ob) (_h2 : ∀ ob, h.get? p.2 = some ob → h'.get? p.2 = some ob) : ORel prog w ρ' h' p o := by
  cases o with
  | list l =>
    obtain ⟨e, vs, n, g, hl, ra⟩ := r
    exact ⟨e, vs, n, h1 _ g, hl, ra.sub x⟩
  | dict l =>
    obtain ⟨e, hs, kvs, ⟨ob, es, ep, g, rest⟩, hl, ra⟩ := r
    exact ⟨e, hs, kvs, ⟨ob, es, ep, h1 _ g, rest⟩, hl, ra.sub x⟩
  | inst _ _ => exact r.elim
theorem ORel.ext {p : Addr × Addr} {o : O} (r : ORel prog w ρ h p o) (x : Ext W ρ h ρ' h') (h1 : ∀ ob, h.get? p.1 = some ob → h'.get? p.1 = some ob) (h2 : ∀ ob, h.get? p.2 = some ob → h'.get? p.2 = some ob) : ORel prog w ρ' h' p o := r.sub x.sub h1 h2

theorem ORel.live {p : Addr × Addr} {o : O} (r : ORel prog w ρ h p o) : (∃ ob, h.get? p.1 = some ob) ∧ ∃ ob, h.get? p.2 = some ob := by
  cases o with
  | list l =>
    obtain ⟨e, vs, n, g, hl, ra⟩ := r
    exact ⟨⟨_, g⟩, ⟨_, by rw [e]; exact g⟩⟩
  | dict l =>
    obtain ⟨e, hs, kvs, ⟨ob, es, ep, g, rest⟩, hl, ra⟩ := r
    exact ⟨⟨_, g⟩, ⟨_, by rw [e]; exact g⟩⟩
  | inst _ _ => exact r.elim

theorem Inv.lt (i : Inv prog w h₀ σ ρ h) {n : Nat} {p : Addr × Addr} (e : ρ[n]? = some p) : ∃ o, σ[n]? = some o := by
  have hl : n < ρ.length := by
    rcases Nat.lt_or_ge n ρ.length with hl | hl
    · exact hl
    · rw [List.getElem?_eq_none hl] at e; cases e
  exact ⟨_, List.getElem?_eq_getElem (i.len ▸ hl)⟩
theorem Inv.gt (i : Inv prog w h₀ σ ρ h) {n : Nat} {o : O} (e : σ[n]? = some o) : ∃ p, ρ[n]? = some p := by
  have hl : n < σ.length := by
    rcases Nat.lt_or_ge n σ.length with hl | hl
    · exact hl
    · rw [List.getElem?_eq_none hl] at e; cases e
  exact ⟨_, List.getElem?_eq_getElem (i.len.symm ▸ hl)⟩

theorem Inv.alive (i : Inv prog w h₀ σ ρ h) {p : Addr × Addr} (hp : p ∈ ρ) : (∃ ob, h.get? p.1 = some ob) ∧ ∃ ob, h.get? p.2 = some ob := by
  obtain ⟨n, hn⟩ := List.getElem?_of_mem hp
  obtain ⟨o, ho⟩ := i.lt hn
  exact (i.objs n o p ho hn).live

/-- the heap is changed at a frame alone -/
theorem Inv.keep (i : Inv prog w h₀ σ ρ h) (x : Ext W ρ h ρ h') (hW : ∀ b ∈ W, offMap ρ b ∧ h₀.get? b = none) (hk : ∀ b o, h.get? b = some o → b ∉ W → h'.get? b = some o) : Inv prog w h₀ σ ρ h' where
  base := fun b o e => hk b o (i.base b o e) fun hm => by rw [(hW b hm).2] at e; cases e
  len := i.len
  objs := fun n o p e1 e2 => (i.objs n o p e1 e2).ext x (fun ob g => hk _ _ g fun hm => ((hW _ hm).1 p (List.mem_of_getElem? e2)).1 rfl) (fun ob g => hk _ _ g fun hm => ((hW _ hm).1 p (List.mem_of_getElem? e2)).2 rfl)
  fresh := i.fresh
  apart := i.apart

theorem Inv.keeps (i : Inv prog w h₀ σ ρ h) (hk : ∀ b o, h.get? b = some o → h'.get? b = some o) : Inv prog w h₀ σ ρ h' :=
  i.keep (W := []) (Ext.of_keeps hk) (fun _ hm => nomatch hm) fun b o e _ => hk b o e

theorem Inv.push (i : Inv prog w h₀ σ ρ h) (o : Obj) : Inv prog w h₀ σ ρ (h.push o) := i.keeps fun _ _ e => Heap.get?_push_of_some o e

theorem fresh_none : h.get? h.objs.size = none := by
  cases e : h.get? h.objs.size with
  | none => rfl
  | some o => exact absurd (Heap.lt_size e) (Nat.lt_irrefl _)

theorem Inv.off_size (i : Inv prog w h₀ σ ρ h) : offMap ρ h.objs.size := fun p hp => by
  obtain ⟨⟨o1, e1⟩, ⟨o2, e2⟩⟩ := i.alive hp
  exact ⟨fun e => absurd (Heap.lt_size e1) (e ▸ Nat.lt_irrefl _), fun e => absurd (Heap.lt_size e2) (e ▸ Nat.lt_irrefl _)⟩

/-- a new object for the store -/
theorem Inv.new (i : Inv prog w h₀ σ ρ h) {a : Addr} {o : O} (hk : ∀ b o, h.get? b = some o → h'.get? b = some o) (ha : h.get? a = none) (ho : ORel prog w (ρ ++ [(a, a)]) h' (a, a) o) :
    Inv prog w h₀ (σ ++ [o]) (ρ ++ [(a, a)]) h' ∧ Ext W ρ h (ρ ++ [(a, a)]) h' := by
  have hx : Ext W ρ h (ρ ++ [(a, a)]) h' :=
    { pre := fun n p e => by
        rw [List.getElem?_append_left (by rcases Nat.lt_or_ge n ρ.length with hl | hl; exact hl; rw [List.getElem?_eq_none hl] at e; cases e)]; exact e
      keep := fun b o e _ _ => hk b o e
      tups := fun b _ _ e => hk b _ e
      alive := fun b o e => ⟨o, hk b o e⟩
      new := fun j p e hj => by
        rw [List.getElem?_append_right hj] at e
        rcases Nat.eq_zero_or_pos (j - ρ.length) with hz | hz
        · rw [hz] at e; cases e; exact ⟨ha, ha⟩
        · rw [List.getElem?_eq_none (by simp; exact hz)] at e; cases e }
  have hoff : ∀ p ∈ ρ, a ≠ p.1 ∧ a ≠ p.2 := fun p hp => by
    obtain ⟨⟨o1, e1⟩, ⟨o2, e2⟩⟩ := i.alive hp
    exact ⟨fun e => (by rw [← e, ha] at e1; cases e1), fun e => (by rw [← e, ha] at e2; cases e2)⟩
  have hcase : ∀ (n : Nat) (p : Addr × Addr), (ρ ++ [(a, a)])[n]? = some p → ρ[n]? = some p ∨ (n = ρ.length ∧ p = (a, a)) := fun n p e => by
    rcases Nat.lt_or_ge n ρ.length with hl | hl
    · rw [List.getElem?_append_left hl] at e; exact .inl e
    · rw [List.getElem?_append_right hl] at e
      rcases Nat.eq_zero_or_pos (n - ρ.length) with hz | hz
      · rw [hz] at e; cases e; exact .inr ⟨Nat.le_antisymm (Nat.le_of_sub_eq_zero hz) hl, rfl⟩
      · rw [List.getElem?_eq_none (by simp; exact hz)] at e; cases e
  refine ⟨⟨fun b o e => hk b o (i.base b o e), by simp [i.len], fun n o' p e1 e2 => ?_, fun n p hp hn => ?_, fun j k p q e1 e2 hjk => ?_⟩, hx⟩
  · rcases hcase n p e2 with e2 | ⟨rfl, rfl⟩
    · have hl : n < σ.length := by
        rcases Nat.lt_or_ge n ρ.length with hl | hl
        · rw [← i.len]; exact hl
        · rw [List.getElem?_eq_none hl] at e2; cases e2
      rw [List.getElem?_append_left hl] at e1
      exact (i.objs n o' p e1 e2).ext hx (fun ob g => hk _ _ g) (fun ob g => hk _ _ g)
    · rw [i.len, List.getElem?_append_right (Nat.le_refl _), Nat.sub_self] at e1
      cases e1; exact ho
  · rcases hcase n p hp with hp | ⟨_, rfl⟩
    · exact i.fresh n p hp hn
    · show h₀.get? a = none ∧ h₀.get? a = none
      have : h₀.get? a = none := by
        cases e : h₀.get? a with
        | none => rfl
        | some o => rw [i.base _ _ e] at ha; cases ha
      exact ⟨this, this⟩
  · rcases hcase j p e1 with e1 | ⟨rfl, rfl⟩ <;> rcases hcase k q e2 with e2 | ⟨rfl, rfl⟩
    · exact i.apart j k p q e1 e2 hjk
    · have := hoff p (List.mem_of_getElem? e1)
      exact ⟨this.1.symm, this.1.symm, this.2.symm, this.2.symm⟩
    · have := hoff q (List.mem_of_getElem? e2)
      exact ⟨this.1, this.2, this.1, this.2⟩
    · exact absurd rfl hjk

/-- an object of the store is changed -/
theorem Inv.set (i : Inv prog w h₀ σ ρ h) {n : Nat} {a : Addr} {o : O} (hpos : 0 < n) (hn : ρ[n]? = some (a, a)) (hk : ∀ b ob, b ≠ a → h.get? b = some ob → h'.get? b = some ob) (hlive : ∃ ob, h'.get? a = some ob)
    (hnt : ∀ vs k, h.get? a ≠ some (tupO vs k)) (ho : Ext W ρ h ρ h' → ORel prog w ρ h' (a, a) o) : Inv prog w h₀ (σ.set n o) ρ h' ∧ Ext W ρ h ρ h' := by
  have hx : Ext W ρ h ρ h' :=
    { pre := fun _ _ e => e
      keep := fun b ob e _ hb => hk b ob (fun eq => (hb _ (List.mem_of_getElem? hn)).1 eq) e
      tups := fun b vs k e => hk b _ (fun eq => hnt vs k (eq ▸ e)) e
      alive := fun b ob e => by
        by_cases hb : b = a
        · rw [hb]; exact hlive
        · exact ⟨ob, hk b ob hb e⟩
      new := fun j p e hj => by rw [List.getElem?_eq_none hj] at e; cases e }
  refine ⟨⟨fun b ob e => hk b ob (fun eq => ?_) (i.base b ob e), by simp [i.len], fun m o' p e1 e2 => ?_, i.fresh, i.apart⟩, hx⟩
  · have := (i.fresh _ _ hn hpos).1
    rw [eq] at e
    rw [e] at this; cases this
  · by_cases hm : m = n
    · subst hm
      rw [hn] at e2; cases e2
      obtain ⟨o₁, ho₁⟩ := i.lt hn
      have hl : m < σ.length := by
        rcases Nat.lt_or_ge m σ.length with hl | hl
        · exact hl
        · rw [List.getElem?_eq_none hl] at ho₁; cases ho₁
      rw [List.getElem?_set_self hl] at e1
      cases e1; exact ho hx
    · rw [List.getElem?_set_ne (Ne.symm hm)] at e1
      have ap := i.apart m n p (a, a) e2 hn hm
      exact (i.objs m o' p e1 e2).ext hx (fun ob g => hk _ _ ap.1 g) (fun ob g => hk _ _ ap.2.2.1 g)
end

/-! ## ends of a simulation -/
noncomputable def RV : V → Map → Heap → Value → Prop := fun v ρ h b => Rel ρ h b v
noncomputable def RB : Bool → Map → Heap → Bool → Prop := fun v _ _ b => b = v
noncomputable def RL : List V → Map → Heap → List Value → Prop := fun l ρ h vs => RelAll ρ h vs l

section
variable {prog : Program} {w : World} {h₀ : Heap} {A : Around} {W : List Addr} {ρ : Map} {s : Shared} {α β : Type} {σ : Store}

/-- the heap stays -/
theorem Sim.same {t : Sem β} {a : α} {R : α → Map → Heap → β → Prop} (i : Inv prog w h₀ σ ρ s.heap)
    (h : ∀ (Q : β → Shared → Prop) (E : Value → Shared → Prop), (∀ b tk, R a ρ s.heap b → Q b { s with toks := tk }) → wpAny (model prog w) A t Q E s) : Sim prog w h₀ A W t (.ok a σ) R ρ s :=
  h _ _ fun b tk r => ⟨ρ, s.heap, tk, rfl, i, Ext.refl, r⟩

/-- the heap grows, the store stays -/
theorem Sim.grown {t : Sem β} {a : α} {R : α → Map → Heap → β → Prop} (i : Inv prog w h₀ σ ρ s.heap)
    (h : ∀ (Q : β → Shared → Prop) (E : Value → Shared → Prop), (∀ b h' tk, (∀ c o, s.heap.get? c = some o → h'.get? c = some o) → R a ρ h' b → Q b { s with heap := h', toks := tk }) → wpAny (model prog w) A t Q E s) :
    Sim prog w h₀ A W t (.ok a σ) R ρ s :=
  h _ _ fun b h' tk hk r => ⟨ρ, h', tk, rfl, i.keeps hk, Ext.of_keeps hk, r⟩

/-- a new tuple -/
theorem Sim.newTuple {vs : List Value} {l : List V} (i : Inv prog w h₀ σ ρ s.heap) (r : RelAll ρ s.heap vs l) (hl : l.length ≤ sizeLine) : Sim prog w h₀ A W (PySem.newTuple vs) (.ok (.tup l) σ) RV ρ s := by
  have hlen := r.length
  have hk : ∀ b o, s.heap.get? b = some o → (s.heap.push (tupO vs 0)).get? b = some o := fun b o e => Heap.get?_push_of_some _ e
  refine Sim.grown i fun Q E hQ => ?_
  refine wpAny_newObj_type (T := "tuple") (hQ _ (s.heap.push (tupO vs 0)) s.toks hk ?_) (by show vs.toArray.size ≤ sizeLine; rw [List.size_toArray]; omega)
  exact Rel.tup (n := 0) (Heap.get?_push_size _ rfl) (by omega) (r.ext (W := []) (Ext.of_keeps hk))

/-- a new list -/
theorem Sim.newList {vs : List Value} {l : List V} (i : Inv prog w h₀ σ ρ s.heap) (r : RelAll ρ s.heap vs l) (hl : l.length ≤ sizeLine) : Sim prog w h₀ A W (PySem.newList vs) (newO (.list l) σ) RV ρ s := by
  have hlen := r.length
  have hk : ∀ b o, s.heap.get? b = some o → (s.heap.push (listO vs 0)).get? b = some o := fun b o e => Heap.get?_push_of_some _ e
  have hN := i.new (W := W) (o := .list l) hk fresh_none ⟨rfl, vs, 0, Heap.get?_push_size _ rfl, by omega, ?_⟩
  · refine wpAny_newObj_type (T := "list") ⟨ρ ++ [(s.heap.objs.size, s.heap.objs.size)], s.heap.push (listO vs 0), s.toks, rfl, hN.1, hN.2, ?_⟩ (by show vs.toArray.size ≤ sizeLine; rw [List.size_toArray]; omega)
    refine Rel.ref (d := s.heap.objs.size) ?_
    rw [← i.len, List.getElem?_append_right (Nat.le_refl _), Nat.sub_self]; rfl
  · exact r.sub ((Sub.keeps hk).trans Sub.snoc)

/-- a list made anew at an address -/
theorem Sim.newListAt {t : Sem Value} {l : List V} (i : Inv prog w h₀ σ ρ s.heap)
    (h : ∀ (Q : Value → Shared → Prop) (E : Value → Shared → Prop), (∀ a vs n h' tk, (∀ c o, s.heap.get? c = some o → h'.get? c = some o) → s.heap.get? a = none → h'.get? a = some (listO vs n) → vs.length ≤ sizeLine →
      RelAll ρ h' vs l → Q (.ref a) { s with heap := h', toks := tk }) → wpAny (model prog w) A t Q E s) : Sim prog w h₀ A W t (newO (.list l) σ) RV ρ s := by
  refine h _ _ fun a vs n h' tk hk ha hg hl r => ?_
  have hN := i.new (W := W) (o := .list l) (h' := h') hk ha ⟨rfl, vs, n, hg, hl, ?_⟩
  · exact ⟨ρ ++ [(a, a)], h', tk, rfl, hN.1, hN.2, Rel.ref (d := a) (by rw [← i.len, List.getElem?_append_right (Nat.le_refl _), Nat.sub_self]; rfl)⟩
  · exact r.sub Sub.snoc

/-- a dict made anew at an address -/
theorem Sim.newDictAt {t : Sem Value} {l : Tab} (i : Inv prog w h₀ σ ρ s.heap)
    (h : ∀ (Q : Value → Shared → Prop) (E : Value → Shared → Prop), (∀ a kvs h' tk, (∀ c o, s.heap.get? c = some o → h'.get? c = some o) → s.heap.get? a = none → (a == sysModules) = false → h'.DictOf (keyKind prog w) a kvs → kvs.length ≤ sizeLine →
      Ents ρ h' kvs l → Q (.ref a) { s with heap := h', toks := tk }) → wpAny (model prog w) A t Q E s) : Sim prog w h₀ A W t (newO (.dict l) σ) RV ρ s := by
  refine h _ _ fun a kvs h' tk hk ha hs hg hl r => ?_
  have hN := i.new (W := W) (o := .dict l) (h' := h') hk ha ⟨rfl, hs, kvs, hg, hl, r.sub Sub.snoc⟩
  exact ⟨ρ ++ [(a, a)], h', tk, rfl, hN.1, hN.2, Rel.ref (d := a) (by rw [← i.len, List.getElem?_append_right (Nat.le_refl _), Nat.sub_self]; rfl)⟩
end

end Mine

namespace Mine
open PySem PyProof.Rows

section
variable {prog : Program} {w : World} {h₀ : Heap} {A : Around} {W : List Addr} {ρ : Map} {s : Shared} {σ : Store}

/-- the list of a number -/
theorem Inv.list (i : Inv prog w h₀ σ ρ s.heap) {n : Nat} {l : List V} {a d : Addr} (hσ : σ[n]? = some (.list l)) (hρ : ρ[n]? = some (a, d)) :
    d = a ∧ ∃ vs k, s.heap.get? a = some (listO vs k) ∧ vs.length ≤ sizeLine ∧ RelAll ρ s.heap vs l := i.objs n _ _ hσ hρ

theorem isList_of {h : Heap} {a : Addr} {vs : List Value} {k : Nat} (e : h.get? a = some (listO vs k)) : h.IsList a vs.toArray := ⟨_, e, rfl, k, rfl⟩
theorem isTuple_of {h : Heap} {a : Addr} {vs : List Value} {k : Nat} (e : h.get? a = some (tupO vs k)) : h.IsTuple a vs.toArray := ⟨_, e, rfl, k, rfl⟩
theorem sizeLine_lt : sizeLine < 2 ^ 63 := by decide

theorem getO_ok {n : Nat} {o : O} {σ' : Store} (h : getO n σ = .ok o σ') : σ' = σ ∧ σ[n]? = some o := by
  unfold getO at h
  split at h
  · cases h; exact ⟨rfl, by assumption⟩
  · cases h
theorem getO_exc {n : Nat} {e : V} {σ' : Store} (h : getO n σ = .exc e σ') : False := by
  unfold getO at h
  split at h <;> cases h

theorem getO_eq (n : Nat) : getO n σ = (match σ[n]? with | some o => .ok o σ | none => .bad) := rfl
theorem getList_eq (n : Nat) : getList n σ = (match σ[n]? with | some (.list l) => .ok l σ | _ => .bad) := by
  unfold getList
  cases e : σ[n]? with
  | none => rw [bind_bad (by rw [getO_eq, e])]
  | some o =>
    rw [bind_ok (a := o) (σ' := σ) (by rw [getO_eq, e])]
    cases o <;> rfl

/-- the list of a number is read -/
theorem Sim.getList {β γ : Type} {t : Sem β} {n : Nat} {k : List V → M γ} {R : γ → Map → Heap → β → Prop} (h : ∀ l, σ[n]? = some (.list l) → Sim prog w h₀ A W t (k l σ) R ρ s) :
    Sim prog w h₀ A W t ((getList n >>= k) σ) R ρ s := by
  cases e : σ[n]? with
  | none => rw [bind_bad (by rw [getList_eq, e])]; exact trivial
  | some o =>
    cases o with
    | list l => rw [bind_ok (by rw [getList_eq, e])]; exact h l e
    | dict _ => rw [bind_bad (by rw [getList_eq, e])]; exact trivial
    | inst _ _ => rw [bind_bad (by rw [getList_eq, e])]; exact trivial

theorem strOk_append {x y : Str} (hx : PyData.strOk x = true) (hy : PyData.strOk y = true) : PyData.strOk (x ++ y) = true := by
  unfold PyData.strOk at *
  show (x.cps ++ y.cps).all _ = true
  rw [Array.all_append, hx, hy]; rfl

theorem length_append (x y : Str) : (x ++ y).length = x.length + y.length := by
  show (x.cps ++ y.cps).size = _
  exact Array.size_append ..

theorem mulOk_fits {a b : Int} (h : Small a ∨ Small b) : IntMulOk a b :=
  h.elim (fun h => IntMulOk.of_left (intBits_le_64 h.1 h.2)) fun h => IntMulOk.of_right (intBits_le_64 h.1 h.2)
theorem Small.noPylong {a b : Int} (h : Small b) : Builtin.divisionGoesByPylong a b = false := PyProof.noPylong_of_log2 (by
  have h1 : b.natAbs < 2 ^ 64 := by have := h.1; have := h.2; omega
  by_cases hz : b.natAbs = 0
  · rw [hz]; decide
  · exact (Nat.log2_lt hz).mpr (Nat.lt_of_lt_of_le h1 (Nat.pow_le_pow_right (by decide) (by decide))))

theorem Sim.ite {α β : Type} {t : Sem β} {c : Prop} [Decidable c] {m : M α} {R : α → Map → Heap → β → Prop} (h : c → Sim prog w h₀ A W t (m σ) R ρ s) : Sim prog w h₀ A W t ((if c then m else M.bad) σ) R ρ s := by
  by_cases hc : c
  · rw [if_pos hc]; exact h hc
  · rw [if_neg hc]; exact trivial

theorem Sim.intOp {op : Operator} {a b : Int} {t u : Tok} (i : Inv prog w h₀ σ ρ s.heap) : Sim prog w h₀ A W (binaryOp op (.int a t) (.int b u)) (Mine.intOp op a b σ) RV ρ s := by
  cases op with
  | Add => exact Sim.same i fun Q E hQ => add_int (hQ _ _ (.int _ _))
  | Sub => exact Sim.same i fun Q E hQ => sub_int (hQ _ _ (.int _ _))
  | Mult => exact Sim.ite fun hc => Sim.same i fun Q E hQ => PyProof.Rows.mul_int (hQ _ _ (.int _ _)) (mulOk_fits hc)
  | FloorDiv => exact Sim.ite fun hc => Sim.same i fun Q E hQ => floordiv_int hc.1 (hQ _ _ (.int _ _)) (.inl hc.2.noPylong)
  | Mod => exact Sim.ite fun hc => Sim.same i fun Q E hQ => mod_int hc.1 (hQ _ _ (.int _ _))
  | Pow =>
    refine Sim.ite fun hc => Sim.same i fun Q E hQ => pow_int_small hc.1 (by omega) ?_ (hQ _ _ (.int _ _))
    exact Nat.lt_of_lt_of_le hc.2.2 (by decide)
  | _ => exact trivial
theorem Sim.addV {a b : Value} {x y : V} (i : Inv prog w h₀ σ ρ s.heap) (ra : Rel ρ s.heap a x) (rb : Rel ρ s.heap b y) :
    Sim prog w h₀ A W (binaryOp .Add a b) (Mine.addV x y σ) RV ρ s := by
  cases ra with
  | str _ _ hx =>
    cases rb with
    | str _ _ hy => exact Sim.ite fun hc => Sim.same i fun Q E hQ => add_str (fun t' tk => hQ _ _ (.str _ _ ⟨by rw [length_append]; exact hc, strOk_append hx.2 hy.2⟩)) hc
    | _ => exact trivial
  | @tup ad vs n l ga la r1 =>
    cases rb with
    | @tup bd ws k m gb lb r2 =>
      refine Sim.ite fun hc => ?_
      have h1 := r1.length
      have h2 := r2.length
      by_cases hv : vs = []
      · subst hv
        cases r1
        refine Sim.same i fun Q E hQ => ?_
        exact concat_meets ⟨_, ga, rfl⟩ ⟨_, gb, rfl⟩ noFill_tuple_add seq_tuple_add PySem.F.slot_tuple_add PySem.F.entry_tuple_add (PySem.F.args_tuple_add_2 _ _)
          (tuple_addW0 ad bd ([] : List Value).toArray ws.toArray n k none none #[] #[] rfl) ⟨ga, gb, hQ _ _ (.tup gb lb r2)⟩
      · by_cases hw : ws = []
        · subst hw
          cases r2
          refine Sim.same i fun Q E hQ => ?_
          rw [List.append_nil] at hQ
          exact concat_meets ⟨_, ga, rfl⟩ ⟨_, gb, rfl⟩ noFill_tuple_add seq_tuple_add PySem.F.slot_tuple_add PySem.F.entry_tuple_add (PySem.F.args_tuple_add_2 _ _)
            (tuple_addW1 ad bd vs.toArray ([] : List Value).toArray n k none none #[] #[] (by simpa using hv) rfl) ⟨ga, gb, hQ _ _ (.tup ga la r1)⟩
        · have hk : ∀ b o, s.heap.get? b = some o → (s.heap.push (tupO (vs ++ ws) 0)).get? b = some o := fun b o e => Heap.get?_push_of_some _ e
          refine Sim.grown i fun Q E hQ => P.add_tuple (n := n) (n2 := k) ga gb (by simpa using hv) (by simpa using hw) ?_ (by simp; omega)
          have := hQ (.ref s.heap.objs.size) (s.heap.push (tupO (vs ++ ws) 0)) s.toks hk (.tup (n := 0) (Heap.get?_push_size _ rfl) (by simp; omega) ((r1.append r2).sub (Sub.keeps hk)))
          simpa [tupO] using this

    | _ => exact trivial
  | ref ea =>
    cases rb with
    | ref eb =>
      refine Sim.getList fun l hl => Sim.getList fun m hm => Sim.ite fun hc => ?_
      obtain ⟨_, vs, k, ga, la, r1⟩ := i.list hl ea
      obtain ⟨_, ws, k', gb, lb, r2⟩ := i.list hm eb
      have h1 := r1.length
      have h2 := r2.length
      refine Sim.newListAt i fun Q E hQ => P.add_list (n := k) (n2 := k') ga gb ?_ (by simp; omega)
      have hk : ∀ b o, s.heap.get? b = some o → (s.heap.push (listO (vs ++ ws) 0)).get? b = some o := fun b o e => Heap.get?_push_of_some _ e
      have := hQ s.heap.objs.size (vs ++ ws) 0 (s.heap.push (listO (vs ++ ws) 0)) s.toks hk fresh_none (Heap.get?_push_size _ rfl) (by simp; omega) ((r1.append r2).sub (Sub.keeps hk))
      simpa [listO] using this

    | _ => exact trivial
  | _ => exact trivial
theorem Sim.binop {op : Operator} {a b : Value} {x y : V} (i : Inv prog w h₀ σ ρ s.heap) (ra : Rel ρ s.heap a x) (rb : Rel ρ s.heap b y) :
    Sim prog w h₀ A W (binaryOp op a b) (binop op x y σ) RV ρ s := by
  have other : Sim prog w h₀ A W (binaryOp op a b) ((cond (isAdd op) (Mine.addV x y) M.bad) σ) RV ρ s := by
    cases op with
    | Add => exact Sim.addV i ra rb
    | _ => exact trivial
  cases ra with
  | int p t =>
    cases rb with
    | int q u => exact Sim.intOp i
    | _ => exact trivial
  | none => exact other
  | bool _ => exact other
  | str _ _ _ => exact other
  | tup _ _ _ => exact other
  | ref _ => exact other
end

end Mine

namespace Mine
open PySem PyProof.Rows

/-! ## plain data -/
section
variable {prog : Program} {w : World} {h₀ : Heap} {ρ : Map} {h : Heap} {σ : Store}
mutual
theorem toPyT_reads {f : Nat → Option PyData} (hf : ∀ n d a b, f n = some d → ρ[n]? = some (a, b) → ∃ as, Reads h (.ref a) d as ∧ d.canLay0 = true) :
    ∀ {v : Value} {x : V} {d : PyData}, Rel ρ h v x → toPyT f x = some d → ∃ as, Reads h v d as ∧ d.canLay0 = true
  | _, _, _, .none, e => by cases e; exact ⟨_, .none, rfl⟩
  | _, _, _, .bool b, e => by cases e; exact ⟨_, .bool b, rfl⟩
  | _, _, _, .int i t, e => by cases e; exact ⟨_, .int i t, rfl⟩
  | _, _, _, .str x t hx, e => by cases e; exact ⟨_, .str x t, hx.2⟩
  | _, _, _, .ref hn, e => hf _ _ _ _ e hn
  | _, _, d, @Rel.tup _ _ a vs n l g _ r, e => by
    have e : (toPyTs f l).map PyData.tuple = some d := e
    obtain ⟨ds, e1, rfl⟩ := Option.map_eq_some_iff.mp e
    obtain ⟨as, hr, hc⟩ := toPyTs_reads hf r e1
    exact ⟨as, .tuple (vs := vs.toArray) (n := n) g rfl rfl (by simpa using hr), hc⟩
theorem toPyTs_reads {f : Nat → Option PyData} (hf : ∀ n d a b, f n = some d → ρ[n]? = some (a, b) → ∃ as, Reads h (.ref a) d as ∧ d.canLay0 = true) :
    ∀ {vs : List Value} {l : List V} {ds : List PyData}, RelAll ρ h vs l → toPyTs f l = some ds → ∃ as, ReadsAll h vs ds as ∧ PyData.canLayAll0 ds = true
  | _, _, _, .nil, e => by cases e; exact ⟨_, .nil, rfl⟩
  | _, _, ds, @RelAll.cons _ _ v vs x l r rs, e => by
    have e : (match toPyT f x, toPyTs f l with | some d, some ds => some (d :: ds) | _, _ => none) = some ds := e
    cases e1 : toPyT f x with
    | none => rw [e1] at e; cases e
    | some d =>
      cases e2 : toPyTs f l with
      | none => rw [e1, e2] at e; cases e
      | some ds' =>
        rw [e1, e2] at e; cases e
        obtain ⟨as, hr, hc⟩ := toPyT_reads hf r e1
        obtain ⟨bs, hrs, hcs⟩ := toPyTs_reads hf rs e2
        exact ⟨as ++ bs, .cons hr hrs, by show (d.canLay0 && PyData.canLayAll0 ds') = true; rw [hc, hcs]; rfl⟩
end

theorem toPyF_reads (i : Inv prog w h₀ σ ρ h) : ∀ (k n : Nat) (d : PyData) (a b : Addr), toPyF σ k n = some d → ρ[n]? = some (a, b) → ∃ as, Reads h (.ref a) d as ∧ d.canLay0 = true
  | 0, _, _, _, _, e, _ => by cases e
  | k + 1, n, d, a, b, e, hn => by
    have e : (match σ[n]? with | some (.list l) => (toPyTs (toPyF σ k) l).map PyData.list | _ => none) = some d := e
    cases e1 : σ[n]? with
    | none => rw [e1] at e; cases e
    | some o =>
      rw [e1] at e
      cases o with
      | dict _ => cases e
      | inst _ _ => cases e
      | list l =>
        obtain ⟨ds, e2, rfl⟩ := Option.map_eq_some_iff.mp e
        obtain ⟨_, vs, m, g, hl, r⟩ := i.objs n _ _ e1 hn
        obtain ⟨as, hr, hc⟩ := toPyTs_reads (fun n d a b => toPyF_reads i k n d a b) r e2
        exact ⟨a :: as, .list (vs := vs.toArray) (n := m) g rfl rfl (by simpa using hr), hc⟩

theorem toPy_reads (i : Inv prog w h₀ σ ρ h) {v : Value} {x : V} {d : PyData} (r : Rel ρ h v x) (e : toPy σ x = some d) : ∃ as, Reads h v d as ∧ d.canLay0 = true :=
  toPyT_reads (fun n d a b => toPyF_reads i 4 n d a b) r e
end

section
variable {prog : Program} {w : World} {h₀ : Heap} {A : Around} {W : List Addr} {ρ : Map} {s : Shared} {σ : Store}

/-- what a comparison tells -/
theorem veq_some {x y : V} {b : Bool} (h : veq σ x y = some b) : ∃ dx dy, toPy σ x = some dx ∧ toPy σ y = some dy ∧ min dx.depth dy.depth ≤ 200 ∧ b = PyData.eqv dx dy := by
  unfold veq at h
  cases e1 : toPy σ x with
  | none => rw [e1] at h; cases h
  | some dx =>
    cases e2 : toPy σ y with
    | none => rw [e1, e2] at h; cases h
    | some dy =>
      rw [e1, e2] at h
      dsimp only at h
      split at h
      · rename_i hd; cases h; exact ⟨dx, dy, rfl, rfl, hd, rfl⟩
      · cases h

theorem Sim.ask {α β : Type} {t : Sem β} {f : Store → Option α} {R : α → Map → Heap → β → Prop} (h : ∀ a, f σ = some a → Sim prog w h₀ A W t (.ok a σ) R ρ s) : Sim prog w h₀ A W t (askS f σ) R ρ s := by
  unfold askS
  cases e : f σ with
  | none => exact trivial
  | some a => exact h a e

theorem eqAt_of (i : Inv prog w h₀ σ ρ s.heap) {a b : Value} {x y : V} {dx dy : PyData} (ra : Rel ρ s.heap a x) (rb : Rel ρ s.heap b y) (ex : toPy σ x = some dx) (ey : toPy σ y = some dy)
    (hd : min dx.depth dy.depth ≤ 200) (hu : A.units + 200 < cLine) : SeqAt.EqAt A s a b (PyData.eqv dx dy) := by
  obtain ⟨as, r1, c1⟩ := toPy_reads i ra ex
  obtain ⟨bs, r2, c2⟩ := toPy_reads i rb ey
  exact SeqAt.eqAt_reads dx dy A s a b as bs r1 r2 c1 c2 (by omega)
/-- an item's answer, by what is read -/
noncomputable def Ans (σ : Store) (ρ : Map) (h : Heap) (y : V) (v : Value) : Prop := ∃ dx dy, (∃ x, Rel ρ h v x ∧ toPy σ x = some dx) ∧ toPy σ y = some dy ∧ PyData.eqv dx dy = true
open Classical in
noncomputable def ansB (σ : Store) (ρ : Map) (h : Heap) (y : V) (v : Value) : Bool := decide (Ans σ ρ h y v)
open Classical in
theorem ansB_is (i : Inv prog w h₀ σ ρ s.heap) {v : Value} {x y : V} {e : Bool} (r : Rel ρ s.heap v x) (h : veq σ x y = some e) : ansB σ ρ s.heap y v = e := by
  obtain ⟨dx, dy, ex, ey, _, rfl⟩ := veq_some h
  unfold ansB
  cases hq : PyData.eqv dx dy with
  | true => exact decide_eq_true ⟨dx, dy, ⟨x, r, ex⟩, ey, hq⟩
  | false =>
    refine decide_eq_false ?_
    rintro ⟨dx', dy', ⟨x', r', ex'⟩, ey', hq'⟩
    rw [ey] at ey'; cases ey'
    obtain ⟨as, r1, c1⟩ := toPy_reads i r ex
    obtain ⟨as', r2, c2⟩ := toPy_reads i r' ex'
    rw [SeqAt.Reads.unique _ _ _ _ _ c1 r1 r2, hq'] at hq; cases hq
/-- the items of a row, one by one -/
theorem vin_any (i : Inv prog w h₀ σ ρ s.heap) {b : Value} {y : V} (rb : Rel ρ s.heap b y) (hu : A.units + 200 < cLine) : ∀ {vs : List Value} {l : List V} {k : Bool}, RelAll ρ s.heap vs l → vin σ y l = some k →
    k = vs.any (ansB σ ρ s.heap y) ∧ ∀ v ∈ vs, SeqAt.EqAt A s v b (ansB σ ρ s.heap y v) := by
  intro vs l k r h
  induction l generalizing vs k with
  | nil => cases r; cases h; exact ⟨rfl, fun _ hv => nomatch hv⟩
  | cons x l ih =>
    cases r with
    | cons r rs =>
    have h : (match veq σ x y, vin σ y l with | some e, some t => some (e || t) | _, _ => none) = some k := h
    cases e1 : veq σ x y with
    | none => rw [e1] at h; cases h
    | some e =>
      cases e2 : vin σ y l with
      | none => rw [e1, e2] at h; cases h
      | some t =>
        rw [e1, e2] at h; cases h
        obtain ⟨h1, h2⟩ := ih rs e2
        have hb := ansB_is i r e1
        refine ⟨by rw [List.any_cons, hb, ← h1], fun u hm => ?_⟩
        rcases List.mem_cons.mp hm with rfl | hm
        · obtain ⟨dx, dy, ex, ey, hd, rfl⟩ := veq_some e1
          rw [hb]; exact eqAt_of i r rb ex ey hd hu
        · exact h2 u hm

/-! dicts -/
theorem Inv.dict (i : Inv prog w h₀ σ ρ s.heap) {n : Nat} {l : Tab} {p : Addr × Addr} (hσ : σ[n]? = some (.dict l)) (er : ρ[n]? = some p) :
    p.2 = p.1 ∧ (p.1 == sysModules) = false ∧ ∃ kvs, s.heap.DictOf (keyKind prog w) p.1 kvs ∧ kvs.length ≤ sizeLine ∧ Ents ρ s.heap kvs l := i.objs n _ p hσ er
theorem keyOf_is {a : Value} {x : V} {k : Key} {h : Heap} (ra : Rel ρ h a x) (e : keyOf x = some k) : keyIs k a = true ∧ ∀ s, k = .inr s → SOk s := by
  cases ra with
  | int i t => cases e; exact ⟨isInt_same i t, fun s e => by cases e⟩
  | str x t hx => cases e; exact ⟨isStrOf_same x t, fun s e => by cases e; exact hx⟩
  | _ => cases e
theorem Ents.at {h : Heap} {k : Key} : ∀ {kvs : List (Key × Value)} {l : Tab}, Ents ρ h kvs l → (dGet l k = none → valueAt kvs k = none) ∧ ∀ x, dGet l k = some x → ∃ v, valueAt kvs k = some v ∧ Rel ρ h v x
  | _, _, .nil => ⟨fun _ => rfl, fun _ e => by cases e⟩
  | _, _, @Ents.cons _ _ k' v x kvs l hs r rs => by
    have ih := Ents.at (k := k) rs
    unfold dGet valueAt at ih ⊢
    rw [List.find?_cons, List.find?_cons]
    by_cases hk : k' = k
    · simp only [hk, decide_true]
      exact ⟨fun e => (by cases e), fun y e => (by cases e; exact ⟨v, rfl, r⟩)⟩
    · simp only [hk, decide_false]
      exact ih
theorem Ents.isSome {h : Heap} {k : Key} {kvs : List (Key × Value)} {l : Tab} (r : Ents ρ h kvs l) : (valueAt kvs k).isSome = (dGet l k).isSome := by
  have := r.at (k := k)
  cases e : dGet l k with
  | none => rw [this.1 e]; rfl
  | some x => obtain ⟨v, hv, _⟩ := this.2 x e; rw [hv]; rfl
/-- the object of a number is read -/
theorem Sim.getO {β γ : Type} {t : Sem β} {n : Nat} {k : O → M γ} {R : γ → Map → Heap → β → Prop} (h : ∀ o, σ[n]? = some o → Sim prog w h₀ A W t (k o σ) R ρ s) :
    Sim prog w h₀ A W t ((getO n >>= k) σ) R ρ s := by
  cases e : σ[n]? with
  | none => rw [bind_bad (by rw [getO_eq, e])]; exact trivial
  | some o => rw [bind_ok (a := o) (σ' := σ) (by rw [getO_eq, e])]; exact h o e
theorem Sim.optThen {α β γ : Type} {t : Sem β} {o : Option α} {k : α → M γ} {R : γ → Map → Heap → β → Prop} (h : ∀ a, o = some a → Sim prog w h₀ A W t (k a σ) R ρ s) : Sim prog w h₀ A W t ((ofOpt o >>= k) σ) R ρ s := by
  cases o with
  | none => exact trivial
  | some a => exact h a rfl
theorem Sim.askThen {α β γ : Type} {t : Sem β} {f : Store → Option α} {k : α → M γ} {R : γ → Map → Heap → β → Prop} (h : ∀ a, f σ = some a → Sim prog w h₀ A W t (k a σ) R ρ s) : Sim prog w h₀ A W t ((askS f >>= k) σ) R ρ s := by
  cases e : f σ with
  | none => rw [bind_bad (by unfold askS; rw [e])]; exact trivial
  | some a => rw [bind_ok (a := a) (σ' := σ) (by unfold askS; rw [e])]; exact h a e

theorem Sim.inV {a b : Value} {x y : V} {f : Bool → Bool} {op : CmpOp} (i : Inv prog w h₀ σ ρ s.heap) (hu : A.units + 201 < cLine) (ra : Rel ρ s.heap a x) (rb : Rel ρ s.heap b y) (hop : (op = .In ∧ f = id) ∨ (op = .NotIn ∧ f = not)) :
    Sim prog w h₀ A W (compareOp op a b) ((Mine.inV x y >>= fun c => (Pure.pure (V.bool (f c)) : M V)) σ) RV ρ s := by
  have hu1 : A.in1.units + 200 < cLine := by show A.units + 1 + 200 < cLine; omega
  cases rb with
  | tup g hl r =>
    refine Sim.askThen fun k hk => ?_
    obtain ⟨rfl, he⟩ := vin_any (A := A.in1) i ra hu1 r hk
    rcases hop with ⟨rfl, rfl⟩ | ⟨rfl, rfl⟩
    · refine Sim.same i fun Q E hQ => SeqAt.in_tupleAt _ (isTuple_of g) (fun y hy => he y (by simpa using hy)) ?_
      have := hQ _ s.toks (.bool _)
      simpa using this
    · refine Sim.same i fun Q E hQ => SeqAt.notIn_tupleAt _ (isTuple_of g) (fun y hy => he y (by simpa using hy)) ?_
      have := hQ _ s.toks (.bool _)
      simpa using this
  | str y t hy =>
    cases ra with
    | str x u hx =>
      rcases hop with ⟨rfl, rfl⟩ | ⟨rfl, rfl⟩
      · exact Sim.same i fun Q E hQ => SB.contains (hQ _ s.toks (.bool _))
      · exact Sim.same i fun Q E hQ => SB.notContains (hQ _ s.toks (.bool _))
    | _ => exact trivial
  | @ref ad d n er =>
    show Sim prog w h₀ A W _ ((Mine.among x n >>= fun b => (Pure.pure (V.bool (f b)) : M V)) σ) _ _ _
    unfold Mine.among
    rw [M.assoc]
    refine Sim.getO fun o ho => ?_
    cases o with
    | list l =>
      refine Sim.askThen fun k hk => ?_
      obtain ⟨_, vs, m, g, hl, r⟩ := i.list ho er
      obtain ⟨rfl, he⟩ := vin_any (A := A.in1) i ra hu1 r hk
      rcases hop with ⟨rfl, rfl⟩ | ⟨rfl, rfl⟩
      · refine Sim.same i fun Q E hQ => SeqAt.in_listAt _ (isList_of g) (fun y hy => he y (by simpa using hy)) ?_
        have := hQ _ s.toks (.bool _)
        simpa using this
      · refine Sim.same i fun Q E hQ => SeqAt.notIn_listAt _ (isList_of g) (fun y hy => he y (by simpa using hy)) ?_
        have := hQ _ s.toks (.bool _)
        simpa using this
    | dict l =>
      refine Sim.optThen fun k hk => ?_
      obtain ⟨kk, ek, rfl⟩ := Option.map_eq_some_iff.mp hk
      obtain ⟨_, hs, kvs, hd, hl, r⟩ := i.dict ho er
      rcases hop with ⟨rfl, rfl⟩ | ⟨rfl, rfl⟩
      · exact Sim.same i fun Q E hQ => wpAny_in_of (keyOf_is ra ek).1 hs hd.mapOf (hQ _ _ (by rw [r.isSome]; exact .bool _))
      · exact Sim.same i fun Q E hQ => wpAny_notIn_of (keyOf_is ra ek).1 hs hd.mapOf (hQ _ _ (by rw [r.isSome]; exact .bool _))
    | inst _ _ => exact trivial
  | none => exact trivial
  | bool _ => exact trivial
  | int _ _ => exact trivial
theorem Sim.isV {a b : Value} {x y : V} {f : Bool → Bool} {op : CmpOp} (i : Inv prog w h₀ σ ρ s.heap) (ra : Rel ρ s.heap a x) (rb : Rel ρ s.heap b y) (hop : (op = .Is ∧ f = id) ∨ (op = .IsNot ∧ f = not)) :
    Sim prog w h₀ A W (compareOp op a b) ((Mine.isV x y >>= fun c => (Pure.pure (V.bool (f c)) : M V)) σ) RV ρ s := by
  cases rb with
  | none =>
    rcases hop with ⟨rfl, rfl⟩ | ⟨rfl, rfl⟩
    · refine Sim.same i fun Q E hQ => is_none (hQ _ s.toks ?_)
      cases ra <;> exact .bool _
    · refine Sim.same i fun Q E hQ => isNot_none (hQ _ s.toks ?_)
      cases ra <;> exact .bool _
  | bool c =>
    rcases hop with ⟨rfl, rfl⟩ | ⟨rfl, rfl⟩
    · cases ra <;> refine Sim.same i fun Q E hQ => wpAny_pure (hQ _ s.toks ?_) <;> first | exact .bool _ | (rename_i q; cases q <;> cases c <;> exact .bool _)
    · cases ra <;> refine Sim.same i fun Q E hQ => wpAny_pure (hQ _ s.toks ?_) <;> first | exact .bool _ | (rename_i q; cases q <;> cases c <;> exact .bool _)
  | _ => exact trivial
theorem Sim.ordV {a b : Value} {x y : V} {f : Int → Int → Bool} {g : Str → Str → Bool} {t : Sem Value} (i : Inv prog w h₀ σ ρ s.heap) (ra : Rel ρ s.heap a x) (rb : Rel ρ s.heap b y)
    (h1 : ∀ (m n : Int) (p q : Tok) (Q E : Value → Shared → Prop), a = .int m p → b = .int n q → Q (.bool (f m n)) s → wpAny (model prog w) A t Q E s)
    (h2 : ∀ (m n : Str) (p q : Tok) (Q E : Value → Shared → Prop), a = .str m p → b = .str n q → Q (.bool (g m n)) s → wpAny (model prog w) A t Q E s) : Sim prog w h₀ A W t (Mine.ordV f g x y σ) RV ρ s := by
  cases ra with
  | int m p => cases rb with
    | int n q => exact Sim.same i fun Q E hQ => h1 m n p q Q E rfl rfl (hQ _ s.toks (.bool _))
    | _ => exact trivial
  | str m p hm => cases rb with
    | str n q hn => exact Sim.same i fun Q E hQ => h2 m n p q Q E rfl rfl (hQ _ s.toks (.bool _))
    | _ => exact trivial
  | _ => exact trivial
theorem Sim.cmp {op : CmpOp} {a b : Value} {x y : V} (i : Inv prog w h₀ σ ρ s.heap) (hu : A.units + 201 < cLine) (ra : Rel ρ s.heap a x) (rb : Rel ρ s.heap b y) :
    Sim prog w h₀ A W (compareOp op a b) (cmp op x y σ) RV ρ s := by
  have hu1 : A.in1.units + 200 < cLine := by show A.units + 1 + 200 < cLine; omega
  cases op with
  | Eq =>
    show Sim prog w h₀ A W _ (askS (fun σ => (veq σ x y).map V.bool) σ) RV ρ s
    refine Sim.ask fun c hc => ?_
    obtain ⟨k, hk, rfl⟩ := Option.map_eq_some_iff.mp hc
    obtain ⟨dx, dy, ex, ey, hd, rfl⟩ := veq_some hk
    obtain ⟨as, r1, c1⟩ := toPy_reads i ra ex
    obtain ⟨bs, r2, c2⟩ := toPy_reads i rb ey
    exact Sim.same i fun Q E hQ => SeqAt.compareEq_reads r1 r2 c1 c2 (by omega) (hQ _ s.toks (.bool _))
  | NotEq =>
    show Sim prog w h₀ A W _ (askS (fun σ => (veq σ x y).map fun e => V.bool (!e)) σ) RV ρ s
    refine Sim.ask fun c hc => ?_
    obtain ⟨k, hk, rfl⟩ := Option.map_eq_some_iff.mp hc
    obtain ⟨dx, dy, ex, ey, hd, rfl⟩ := veq_some hk
    obtain ⟨as, r1, c1⟩ := toPy_reads i ra ex
    obtain ⟨bs, r2, c2⟩ := toPy_reads i rb ey
    exact Sim.same i fun Q E hQ => SeqAt.compareNe_reads r1 r2 c1 c2 (by omega) (hQ _ s.toks (.bool _))
  | Lt => exact Sim.ordV i ra rb (fun m n p q Q E ea eb h => by subst ea eb; exact lt_int h) fun m n p q Q E ea eb h => by subst ea eb; exact P.lt_str h
  | LtE => exact Sim.ordV i ra rb (fun m n p q Q E ea eb h => by subst ea eb; exact le_int h) fun m n p q Q E ea eb h => by subst ea eb; exact P.le_str h
  | Gt => exact Sim.ordV i ra rb (fun m n p q Q E ea eb h => by subst ea eb; exact gt_int h) fun m n p q Q E ea eb h => by subst ea eb; exact P.gt_str h
  | GtE => exact Sim.ordV i ra rb (fun m n p q Q E ea eb h => by subst ea eb; exact ge_int h) fun m n p q Q E ea eb h => by subst ea eb; exact P.ge_str h
  | Is => exact Sim.isV (f := id) i ra rb (.inl ⟨rfl, rfl⟩)
  | IsNot => exact Sim.isV (f := not) i ra rb (.inr ⟨rfl, rfl⟩)
  | In => exact Sim.inV (f := id) i hu ra rb (.inl ⟨rfl, rfl⟩)
  | NotIn => exact Sim.inV (f := not) i hu ra rb (.inr ⟨rfl, rfl⟩)

theorem Sim.truth {a : Value} {x : V} (i : Inv prog w h₀ σ ρ s.heap) (ra : Rel ρ s.heap a x) : Sim prog w h₀ A W (truthy a) (truth x σ) RB ρ s := by
  have hs := sizeLine_lt
  unfold Mine.truth
  split
  · cases ra; exact Sim.same i fun Q E hQ => truthy_none (hQ _ s.toks rfl)
  · cases ra; exact Sim.same i fun Q E hQ => wpAny_truthy_bool (hQ _ s.toks rfl)
  · cases ra; exact Sim.same i fun Q E hQ => truthy_int (hQ _ s.toks rfl)
  · cases ra with
    | str x t hx =>
    refine Sim.same i fun Q E hQ => P.truthy_str (by have := hx.1; omega) (hQ _ _ ?_)
    show _ = _
    rw [Bool.eq_iff_iff]; simp
  · cases ra with
    | tup g hl r =>
    refine Sim.same i fun Q E hQ => truthy_tuple (isTuple_of g) (by simp; omega) (hQ _ _ ?_)
    have := r.length
    show _ = _
    rw [Bool.eq_iff_iff]
    simp [← this]
  · cases ra with
    | ref er =>
    rename_i n _ _
    cases e : σ[n]? with
    | none => rw [bind_bad (by rw [getO_eq, e])]; exact trivial
    | some o =>
      rw [bind_ok (a := o) (σ' := σ) (by rw [getO_eq, e])]
      cases o with
      | list l =>
        obtain ⟨_, vs, m, g, hl, r⟩ := i.list e er
        refine Sim.same i fun Q E hQ => wpAny_truthy_list (isList_of g) (by simp; omega) (hQ _ _ ?_)
        have := r.length
        show _ = _
        rw [Bool.eq_iff_iff]
        simp [← this]
      | dict _ => exact trivial
      | inst _ _ => exact trivial
end

end Mine

namespace Mine
open PySem PyProof.Rows

section
variable {prog : Program} {w : World} {h₀ : Heap} {A : Around} {W : List Addr} {ρ : Map} {s : Shared} {σ : Store}

theorem place_seqIndex {i : Int} {n k : Nat} (h : place i n = some k) (hn : n ≤ sizeLine) : seqIndex? i n = some k ∧ -(2 ^ 63) ≤ i ∧ i < 2 ^ 63 := by
  have hs := sizeLine_lt
  unfold place at h
  split at h
  · split at h
    · cases h
      exact ⟨seqIndex_of (by omega) (by omega), by omega, by omega⟩
    · cases h
  · split at h
    · cases h
      exact ⟨seqIndex_neg (by omega) (by omega), by omega, by omega⟩
    · cases h

theorem place_lt {i : Int} {n k : Nat} (h : place i n = some k) : k < n := by
  unfold place at h
  split at h
  · split at h
    · cases h; omega
    · cases h
  · split at h
    · cases h; omega
    · cases h

theorem getItem_listAny {l : Addr} {vs : List Value} {n k : Nat} {i : Int} {t : Tok} {x : Value} {Q : Value → Shared → Prop} {E : Value → Shared → Prop} (g : s.heap.get? l = some (listO vs n)) (hl : vs.length ≤ sizeLine)
    (hk : place i vs.length = some k) (hx : vs[k]? = some x) (h : Q x s) : wpAny (model prog w) A (getItem (.ref l) (.int i t)) Q E s := by
  have hs := sizeLine_lt
  unfold place at hk
  split at hk
  · rename_i h0
    split at hk
    · cases hk
      exact wpAny_getItem_list (isList_of g) h0 (by omega) (by simpa using hx) h
    · cases hk
  · rename_i h0
    split at hk
    · cases hk
      exact wpAny_getItem_list_neg (isList_of g) (by omega) (by simp; omega) (by omega) (by simpa using hx) h
    · cases hk

theorem Sim.ofOpt {α β : Type} {t : Sem β} {o : Option α} {R : α → Map → Heap → β → Prop} (h : ∀ a, o = some a → Sim prog w h₀ A W t (.ok a σ) R ρ s) : Sim prog w h₀ A W t (ofOpt o σ) R ρ s := by
  cases o with
  | none => exact trivial
  | some a => exact h a rfl
theorem Sim.ofOptBind {α β γ : Type} {t : Sem β} {o : Option α} {k : α → M γ} {R : γ → Map → Heap → β → Prop} (h : ∀ a, o = some a → Sim prog w h₀ A W t (k a σ) R ρ s) : Sim prog w h₀ A W t ((Mine.ofOpt o >>= k) σ) R ρ s := by
  cases o with
  | none => exact trivial
  | some a => exact h a rfl

theorem Sim.item {a b : Value} {x y : V} (i : Inv prog w h₀ σ ρ s.heap) (ra : Rel ρ s.heap a x) (rb : Rel ρ s.heap b y) :
    Sim prog w h₀ A W (getItem a b) (item x y σ) RV ρ s := by
  have hs := sizeLine_lt
  unfold Mine.item
  split
  · cases ra with
    | tup g hl r =>
    cases rb with
    | int k t =>
    have hlen := r.length
    refine Sim.ofOpt fun v hv => ?_
    obtain ⟨j, hj, hv⟩ := Option.bind_eq_some_iff.mp hv
    obtain ⟨val, e, hr⟩ := r.get hv
    obtain ⟨h1, h2, h3⟩ := place_seqIndex hj (by omega)
    exact Sim.same i fun Q E hQ => P.getItem_tuple g h2 h3 (by simpa [hlen] using h1) (by simpa using e) (hQ _ s.toks hr)
  · cases ra with
    | str x t hx =>
    cases rb with
    | int k u =>
    refine Sim.ofOpt fun v hv => ?_
    obtain ⟨j, hj, hv⟩ := Option.bind_eq_some_iff.mp hv
    obtain ⟨c, hc, rfl⟩ := Option.map_eq_some_iff.mp hv
    obtain ⟨h1, h2, h3⟩ := place_seqIndex hj hx.1
    refine Sim.same i fun Q E hQ => P.getItem_str (c := c) ?_ (by rw [h1]; simpa using hc) (hQ _ _ (.str _ _ ⟨by show 1 ≤ sizeLine; decide, ?_⟩))
    · simp only [Bool.or_eq_false_iff, decide_eq_false_iff_not]; omega
    · have h4 := hx.2
      unfold PyData.strOk at h4 ⊢
      rw [Array.all_eq_true] at h4
      have hlt : j < (_ : Str).cps.size := place_lt hj
      have := h4 j hlt
      rw [Array.getElem?_eq_getElem hlt] at hc
      cases hc
      simpa [chr1] using this
  · cases ra with
    | ref er =>
    refine Sim.getO fun o ho => ?_
    cases o with
    | list l =>
      cases rb with
      | int k t =>
        refine Sim.ofOpt fun v hv => ?_
        obtain ⟨_, vs, m, g, hl, r⟩ := i.list ho er
        have hlen := r.length
        obtain ⟨j, hj, hv⟩ := Option.bind_eq_some_iff.mp hv
        obtain ⟨val, e, hr⟩ := r.get hv
        exact Sim.same i fun Q E hQ => getItem_listAny g hl (by rw [hlen]; exact hj) e (hQ _ s.toks hr)
      | _ => exact trivial
    | dict l =>
      refine Sim.ofOpt fun v hv => ?_
      obtain ⟨kk, ek, hv⟩ := Option.bind_eq_some_iff.mp hv
      obtain ⟨_, hs, kvs, hd, hl, r⟩ := i.dict ho er
      obtain ⟨val, e, hr⟩ := r.at.2 v hv
      exact Sim.same i fun Q E hQ => wpAny_getItem_of (keyOf_is rb ek).1 hd.mapOf e (hQ _ _ hr)
    | inst _ _ => exact trivial
  · exact trivial

/-! slices -/
theorem RelAll.cut {h : Heap} {vs : List Value} {l : List V} (r : RelAll ρ h vs l) (lo hi : Option Int) : RelAll ρ h (Mine.cut vs lo hi) (Mine.cut l lo hi) := by
  have hd : ∀ (n : Nat) {vs : List Value} {l : List V}, RelAll ρ h vs l → RelAll ρ h (vs.drop n) (l.drop n) := by
    intro n
    induction n with
    | zero => intro vs l r; exact r
    | succ n ih => intro vs l r; cases r with
      | nil => exact .nil
      | cons _ r => exact ih r
  have ht : ∀ (n : Nat) {vs : List Value} {l : List V}, RelAll ρ h vs l → RelAll ρ h (vs.take n) (l.take n) := by
    intro n
    induction n with
    | zero => intro vs l r; exact .nil
    | succ n ih => intro vs l r; cases r with
      | nil => exact .nil
      | cons a r => exact .cons a (ih r)
  unfold Mine.cut
  rw [r.length]
  exact ht _ (hd _ r)

theorem cut_length_le {α : Type} (l : List α) (lo hi : Option Int) : (Mine.cut l lo hi).length ≤ l.length := by
  unfold Mine.cut
  rw [List.length_take, List.length_drop]; omega

theorem slicePick_cut (vs : List Value) (lo hi : Option Int) : slicePick vs.toArray lo hi none = (Mine.cut vs lo hi).toArray := by
  rw [slicePick_plain]; simp [Mine.cut]

theorem Sim.bound {β γ : Type} {t : Sem β} {v : Value} {x : V} {k : Option Int → M γ} {R : γ → Map → Heap → β → Prop} (r : Rel ρ s.heap v x) (h : ∀ o, IsPart v o → Sim prog w h₀ A W t (k o σ) R ρ s) :
    Sim prog w h₀ A W t ((Mine.bound x >>= k) σ) R ρ s := by
  unfold Mine.bound
  split
  · cases r; exact h _ .none
  · cases r; exact h _ (.int _ _)
  · exact trivial

theorem slicePartIndex_of {v : Value} {o : Option Int} {Q : Option Int → Shared → Prop} {E : Value → Shared → Prop} (p : IsPart v o) (h : Q o s) : wpAny (model prog w) A (Builtin.Slice.slicePartIndex v) Q E s := by
  cases p with
  | none => exact slicePart_none h
  | int i t => exact slicePart_int h

theorem adjust_places (lo hi : Option Int) (n : Nat) : Builtin.Slice.sliceAdjust lo hi 1 (n : Int) = (((lo.elim 0 (clipAt n) : Nat) : Int), ((hi.elim n (clipAt n) : Nat) : Int)) ∧
    Builtin.Slice.slicePlaces ((lo.elim 0 (clipAt n) : Nat) : Int) ((hi.elim n (clipAt n) : Nat) : Int) 1 = hi.elim n (clipAt n) - lo.elim 0 (clipAt n) := by
  constructor
  · unfold Builtin.Slice.sliceAdjust
    have h1 : ¬ ((1 : Int) < 0) := by omega
    simp only [h1, if_false]
    congr 1
    · cases lo with
      | none => rfl
      | some i =>
        have := clipAt_cast n i
        simp only [Option.elim]
        rw [this]
        split <;> omega
    · cases hi with
      | none => rfl
      | some i =>
        have := clipAt_cast n i
        simp only [Option.elim]
        rw [this]
        split <;> omega
  · unfold Builtin.Slice.slicePlaces
    have h1 : (1 : Int) > 0 := by omega
    simp only [h1, if_true, Int.ediv_one]
    split <;> omega

theorem pick_cut (vs : List Value) (a k : Nat) : ((List.range k).filterMap fun (j : Nat) => vs.toArray[((a : Int) + (j : Int) * 1).toNat]?) = (vs.drop a).take k := by
  have e : (fun (j : Nat) => vs.toArray[((a : Int) + (j : Int) * 1).toNat]?) = fun j => vs.toArray[a + j]? := by
    funext j
    have : ((a : Int) + (j : Int) * 1).toNat = a + j := by omega
    rw [this]
  rw [e]
  have := pick_run vs.toArray a k
  rw [List.filterMap_map] at this
  exact this

theorem getItem_tuple_slice {t sl : Addr} {vs : List Value} {n : Nat} {vl vu : Value} {lo hi : Option Int} {Q : Value → Shared → Prop} {E : Value → Shared → Prop} (g : s.heap.get? t = some (tupO vs n)) (hs : s.heap.IsSliceOf sl vl vu .none)
    (pl : IsPart vl lo) (pu : IsPart vu hi) (hsz : vs.length ≤ sizeLine)
    (h1 : Mine.cut vs lo hi = vs → Q (.ref t) s) (h2 : Q (.ref s.heap.objs.size) { s with heap := s.heap.push (tupO (Mine.cut vs lo hi) 0) }) : wpAny (model prog w) A (getItem (.ref t) (.ref sl)) Q E s := by
  obtain ⟨os, hos, hcs, hds⟩ := id hs
  have ht : IsTup s.heap t vs.toArray := isTuple_of g
  have hTs : s.TypeIs (.ref sl) "slice" := ⟨os, hos, hcs⟩
  unfold getItem
  refine wpAny_holding ?_
  refine wpAny_bind (wpAny_sequenceKey ht.typeIs (by decide) ?_)
  refine wpAny_bind (wpAny_callSpecial?_slot (name := Str.ofString "__getitem__") ht.typeIs slot_tuple_getitem
    (wpAny_call_entry slot_tuple_getitem ht.typeIs entry_tuple_getitem ?_ (args_tuple_getitem _ _)))
  show wpAny _ _ (Builtin.Tuple.tupleItemsOf (.ref t) >>= _) _ _ s
  refine wpAny_bind (tupleItemsOf_ ht ?_)
  refine wpAny_bind (wpAny_typeOf hTs ?_)
  rw [if_pos (by decide)]
  obtain ⟨ha, hp⟩ := adjust_places lo hi vs.length
  have happ : ∀ (Q' : Int × Int × Nat → Shared → Prop) (E' : Value → Shared → Prop), Q' (((lo.elim 0 (clipAt vs.length) : Nat) : Int), 1, hi.elim vs.length (clipAt vs.length) - lo.elim 0 (clipAt vs.length)) s →
      wpAny (model prog w) A.in1 (Builtin.Slice.sliceApplied (.ref sl) (pure ((vs.toArray.size : Nat) : Int))) Q' E' s := by
    intro Q' E' hq
    unfold Builtin.Slice.sliceApplied Builtin.Slice.sliceFields
    refine wpAny_bind (wpAny_bind (wpAny_field hos hds (x := vl) rfl (wpAny_bind (wpAny_field hos hds (x := vu) rfl (wpAny_bind (wpAny_field hos hds (x := .none) rfl (wpAny_pure ?_)))))))
    refine wpAny_bind (slicePart_none ?_)
    show wpAny _ _ (if ((1 : Int) == 0) = true then _ else _) _ _ s
    rw [if_neg (by decide)]
    refine wpAny_bind (slicePartIndex_of pl (wpAny_bind (slicePartIndex_of pu (wpAny_bind (wpAny_pure ?_)))))
    rw [List.size_toArray]
    show wpAny _ _ (match Builtin.Slice.sliceAdjust lo hi 1 (vs.length : Int) with | (lo, hi) => pure (lo, (1 : Int), Builtin.Slice.slicePlaces lo hi 1)) _ _ s
    rw [ha]
    show wpAny _ _ (pure (_, (1 : Int), Builtin.Slice.slicePlaces _ _ 1)) _ _ s
    rw [hp]
    exact wpAny_pure hq
  refine wpAny_bind (happ _ _ ?_)
  have hsz2 : sizeOk (.seq (Mine.cut vs lo hi).toArray) := by
    show (Mine.cut vs lo hi).toArray.size ≤ sizeLine
    rw [List.size_toArray]
    exact Nat.le_trans (cut_length_le vs lo hi) hsz
  dsimp only
  rw [pick_cut]
  split
  · rename_i hc
    simp only [Bool.and_eq_true, beq_iff_eq, List.size_toArray] at hc
    have e : Mine.cut vs lo hi = vs := by
      unfold Mine.cut
      have h0 : lo.elim 0 (clipAt vs.length) = 0 := by omega
      rw [h0] at hc ⊢
      rw [List.drop_zero, hc.2, List.take_length]
    refine wpAny_bind (m := Builtin.Tuple.tupleIsExact (.ref t)) (wpAny_bind (wpAny_typeOf ht.typeIs (wpAny_pure ?_)))
    rw [if_pos (by decide)]
    exact wpAny_bind (wpAny_rule (wpAny_pure ⟨_, rfl, wpAny_pure (h1 e)⟩))
  · exact wpAny_bind (m := Builtin.Tuple.tupleExact _) (wpAny_newObj_type (wpAny_pure ⟨_, rfl, wpAny_pure h2⟩) hsz2)

theorem strSlice_cut (x : Str) (lo hi : Option Int) : (Builtin.Str.strSliceIndices lo hi 1 x.length).filterMap (x.cps[·]?) = Mine.cut x.cps.toList lo hi ∧
    ((Builtin.Str.strSliceIndices lo hi 1 x.length).length = x.length → Mine.cut x.cps.toList lo hi = x.cps.toList) := by
  have e : Builtin.Str.strSliceIndices lo hi 1 x.length = sliceRange ((lo.elim 0 (clipAt x.length) : Nat) : Int) ((hi.elim x.length (clipAt x.length) : Nat) : Int) 1 := by
    unfold Builtin.Str.strSliceIndices
    have h1 : (1 : Int) > 0 := by omega
    simp only [h1, if_true]
    congr 1
    · cases lo with
      | none => rfl
      | some i => simp only [Option.elim]; rw [clipAt_cast]
    · cases hi with
      | none => rfl
      | some i => simp only [Option.elim]; rw [clipAt_cast]
  have hl : x.cps.toList.length = x.length := by simp [Str.length]
  have hcut : Mine.cut x.cps.toList lo hi = (x.cps.toList.drop (lo.elim 0 (clipAt x.length))).take (hi.elim x.length (clipAt x.length) - lo.elim 0 (clipAt x.length)) := by
    unfold Mine.cut; rw [hl]
  rw [e, sliceRange_one]
  constructor
  · rw [pick_run, hcut]
  · intro h
    rw [List.length_map, List.length_range] at h
    have hle : hi.elim x.length (clipAt x.length) ≤ x.length := by
      cases hi with
      | none => exact Nat.le_refl _
      | some i =>
        have := clipAt_cast x.length i
        simp only [Option.elim]
        omega
    have h0 : lo.elim 0 (clipAt x.length) = 0 ∨ x.length = 0 := by omega
    rw [hcut]
    rcases h0 with h0 | h0
    · rw [h0] at h ⊢
      rw [List.drop_zero, h, ← hl, List.take_length]
    · have : x.cps.toList = [] := List.eq_nil_of_length_eq_zero (hl.trans h0)
      rw [this]; simp

theorem strOk_sub {x y : Str} (hx : SOk x) (h : ∀ c ∈ y.cps.toList, c ∈ x.cps.toList) (hl : y.length ≤ x.length) : SOk y := by
  refine ⟨Nat.le_trans hl hx.1, ?_⟩
  have h4 := hx.2
  unfold PyData.strOk at h4 ⊢
  rw [Array.all_eq_true_iff_forall_mem] at h4 ⊢
  intro c hc
  exact h4 c (Array.mem_toList_iff.mp (h c (Array.mem_toList_iff.mpr hc)))

theorem SOk.cut {x : Str} (hx : SOk x) (lo hi : Option Int) : SOk (cutStr x lo hi) := by
  refine strOk_sub hx ?_ ?_
  · intro c hc
    simp only [cutStr, Mine.cut] at hc
    exact List.mem_of_mem_drop (List.mem_of_mem_take hc)
  · have := cut_length_le x.cps.toList lo hi
    simpa [cutStr, Str.length] using this

/-- a slice is taken: the slice's object lies at sl -/
theorem Sim.slice {a vl vu : Value} {sl : Addr} {x : V} {lo hi : Option Int} (i : Inv prog w h₀ σ ρ s.heap) (ra : Rel ρ s.heap a x) (hs : s.heap.IsSliceOf sl vl vu .none) (pl : IsPart vl lo) (pu : IsPart vu hi) :
    Sim prog w h₀ A W (getItem a (.ref sl)) (sliceV lo hi x σ) RV ρ s := by
  unfold sliceV
  split
  · cases ra with
    | @tup _ vs n l g hl r =>
    have hlen := r.length
    refine Sim.grown i fun Q E hQ => getItem_tuple_slice g hs pl pu hl (fun e => ?_) ?_
    · refine hQ _ s.heap s.toks (fun _ _ e => e) ?_
      refine .tup (n := n) g hl ?_
      have := r.cut lo hi
      rw [e] at this; exact this
    · have hk : ∀ b o, s.heap.get? b = some o → (s.heap.push (tupO (Mine.cut vs lo hi) 0)).get? b = some o := fun b o e => Heap.get?_push_of_some _ e
      exact hQ _ _ s.toks hk (.tup (n := 0) (Heap.get?_push_size _ rfl) (Nat.le_trans (cut_length_le vs lo hi) hl) ((r.cut lo hi).sub (Sub.keeps hk)))
  · rename_i y
    cases ra with
    | str _ t hy =>
    obtain ⟨p, hp⟩ : ∃ p : Option (Int × Tok), vl = partValue p ∧ p.map (·.1) = lo := by
      cases pl with
      | none => exact ⟨none, rfl, rfl⟩
      | int k u => exact ⟨some (k, u), rfl, rfl⟩
    obtain ⟨q, hq⟩ : ∃ p : Option (Int × Tok), vu = partValue p ∧ p.map (·.1) = hi := by
      cases pu with
      | none => exact ⟨none, rfl, rfl⟩
      | int k u => exact ⟨some (k, u), rfl, rfl⟩
    obtain ⟨os, hos, hcs, hds⟩ := hs
    refine Sim.same i fun Q E hQ => wpAny_getItem_str_slice (l := p) (u := q) (st := none) ⟨os, hos, hcs, by rw [hds, hp.1, hq.1]; rfl⟩ rfl ?_
    have e1 : slicePicked y p q none = Builtin.Str.strSliceIndices lo hi 1 y.length := by unfold slicePicked; rw [hp.2, hq.2]; rfl
    unfold sliceMade
    rw [e1]
    split
    · rename_i hc
      simp only [Bool.and_eq_true, beq_iff_eq] at hc
      have := (strSlice_cut _ lo hi).2 hc.2
      refine hQ _ s.toks ?_
      have e2 : ∀ x : Str, Mine.cut x.cps.toList lo hi = x.cps.toList → cutStr x lo hi = x := fun x e => by unfold cutStr; rw [e]
      show Rel _ _ _ (V.str _)
      rw [e2 _ this]
      exact .str _ _ hy
    · rw [(strSlice_cut _ lo hi).1]
      exact ⟨(hy.cut lo hi).1, hQ _ _ (.str _ _ (hy.cut lo hi))⟩
  · cases ra with
    | ref er =>
    refine Sim.getList fun l hσ => ?_
    obtain ⟨_, vs, m, g, hl, r⟩ := i.list hσ er
    refine Sim.newListAt i fun Q E hQ => wpAny_getItem_list_slice (isList_of g) hs pl pu .none (by simp) ?_ (by simpa using hl)
    rw [slicePick_cut]
    have hk : ∀ b o, s.heap.get? b = some o → (s.heap.push (listO (Mine.cut vs lo hi) 0)).get? b = some o := fun b o e => Heap.get?_push_of_some _ e
    exact hQ _ (Mine.cut vs lo hi) 0 _ s.toks hk fresh_none (Heap.get?_push_size _ rfl) (Nat.le_trans (cut_length_le vs lo hi) hl) ((r.cut lo hi).sub (Sub.keeps hk))
  · exact trivial

end

end Mine

namespace Mine
open PySem PyProof.Rows

section
variable {prog : Program} {w : World} {h₀ : Heap} {A : Around} {W : List Addr} {ρ : Map} {s : Shared} {σ : Store}

theorem setItem_listAt {l : Addr} {vs : List Value} {n : Nat} {k : Int} {t : Tok} {v : Value} {Q : Unit → Shared → Prop} {E : Value → Shared → Prop} (g : s.heap.get? l = some (listO vs n)) (h0 : 0 ≤ k) (hk : k < vs.length) (hfit : k < 2 ^ 63)
    (h : Q () { s with heap := s.heap.update l (Obj.mapSeq (·.setIfInBounds k.toNat v)) }) : wpAny (model prog w) A (PySem.setItem (.ref l) (.int k t) v) Q E s := by
  have hT : s.heap.IsList l vs.toArray := isList_of g
  unfold PySem.setItem
  refine wpAny_holding ?_
  refine wpAny_bind (wpAny_sequenceKey hT.typeIs (by decide) ?_)
  refine wpAny_bind (wpAny_callSpecial?_slot (name := Str.ofString "__setitem__") hT.typeIs slot_list_setitem
    (wpAny_call_entry slot_list_setitem hT.typeIs entry_list_setitem ?_ (args_list_setitem _ _ _)))
  show wpAny _ _ (Builtin.List.listSubscript? (.int k t) >>= _) _ _ s
  refine wpAny_bind (wpAny_listSubscript_int (fitsIndex_of h0 hfit) ?_)
  clear hfit
  obtain ⟨j, rfl⟩ := Int.eq_ofNat_of_zero_le h0
  have hj : j < vs.length := by omega
  have hx : vs.toArray[j]? = some vs[j] := by simp [hj]
  show wpAny _ _ ((seqItemAt l j >>= fun r => pure (r.map (j, ·))) >>= _) _ _ s
  refine wpAny_bind (wpAny_bind (wpAny_seqItemAt g rfl (wpAny_pure ?_)))
  rw [hx]
  show wpAny _ _ (setSeqItemAt l j v >>= _) _ _ s
  refine wpAny_bind (wpAny_setSeqItemAt g rfl ?_)
  exact wpAny_pure ⟨.none, rfl, wpAny_pure h⟩

theorem update_list {l : Addr} {vs ws : List Value} {n : Nat} {f : Array Value → Array Value} (g : s.heap.get? l = some (listO vs n)) (hf : f vs.toArray = ws.toArray) :
    ∃ m, (s.heap.update l (Obj.mapSeq f)).get? l = some (listO ws m) := by
  have e : Obj.mapSeq f (listO vs n) = listO ws (if ws.length = vs.length then n else n + 1) := by
    unfold Obj.mapSeq listO
    simp only [hf]
    congr 2
    simp
  have := Heap.get?_update_self (Obj.mapSeq f) g (by rw [e]; rfl)
  rw [e] at this
  exact ⟨_, this⟩

theorem setO_ok {n : Nat} {o : O} (hpos : 0 < n) (hn : n < σ.length) : setO n o σ = .ok () (σ.set n o) := by unfold setO; rw [if_pos ⟨hpos, hn⟩]
theorem setO_bad {n : Nat} {o : O} (hpos : ¬ 0 < n) : setO n o σ = .bad := by unfold setO; rw [if_neg fun h => hpos h.1]

theorem lt_of_get {α : Type} {l : List α} {n : Nat} {a : α} (h : l[n]? = some a) : n < l.length := by
  rcases Nat.lt_or_ge n l.length with hl | hl
  · exact hl
  · rw [List.getElem?_eq_none hl] at h; cases h

theorem RelAll.set {h : Heap} : ∀ {vs : List Value} {l : List V} {k : Nat} {v : Value} {x : V}, RelAll ρ h vs l → Rel ρ h v x → RelAll ρ h (vs.set k v) (l.set k x)
  | _, _, _, _, _, .nil, _ => .nil
  | _, _, 0, _, _, .cons _ r, q => .cons q r
  | _, _, k + 1, _, _, .cons a r, q => .cons a (RelAll.set r q)

/-- a list of the store is turned -/
theorem Sim.turnList {t : Sem Unit} {n : Nat} {l m : List V} {a : Addr} {d : Addr} {vs : List Value} {k : Nat} (i : Inv prog w h₀ σ ρ s.heap) (hσ : σ[n]? = some (.list l)) (hρ : ρ[n]? = some (a, d)) (g : s.heap.get? a = some (listO vs k))
    (hm : ∃ ws, RelAll ρ s.heap ws m ∧ ws.length ≤ sizeLine ∧ ∀ (Q : Unit → Shared → Prop) (E : Value → Shared → Prop), (∀ h', (∃ j, h'.get? a = some (listO ws j)) → (∀ b o, b ≠ a → s.heap.get? b = some o → h'.get? b = some o) → Q () { s with heap := h' }) → wpAny (model prog w) A t Q E s) :
    Sim prog w h₀ A W t (setO n (.list m) σ) (fun _ _ _ _ => True) ρ s := by
  obtain ⟨ws, r, hl, hwp⟩ := hm
  by_cases hpos : 0 < n
  case neg => rw [setO_bad hpos]; exact trivial
  rw [setO_ok hpos (lt_of_get hσ)]
  obtain ⟨rfl, _⟩ := i.list hσ hρ
  refine hwp _ _ fun h' hg hk => ?_
  obtain ⟨j, hg⟩ := hg
  have hN := i.set (W := W) (n := n) (a := d) (o := .list m) (h' := h') hpos hρ hk ⟨_, hg⟩ (fun vs' k' e => by rw [g] at e; simp [listO, tupO] at e) fun x => ⟨rfl, ws, j, hg, hl, r.ext x⟩
  exact ⟨ρ, h', s.toks, rfl, hN.1, hN.2, trivial⟩

/-- a dict's entry is set -/
theorem Ents.stored {h : Heap} {k : Key} {v : Value} {x : V} (hs : ∀ s, k = .inr s → SOk s) (rv : Rel ρ h v x) {kvs : List (Key × Value)} {l : Tab} (r : Ents ρ h kvs l) : Ents ρ h (PySem.stored kvs k v) (dSet l k x) := by
  have hany : ∀ {kvs : List (Key × Value)} {l : Tab}, Ents ρ h kvs l → (kvs.any fun kv => decide (kv.1 = k)) = (l.any fun p => decide (p.1 = k)) := by
    intro kvs l r
    induction r with
    | nil => rfl
    | cons _ _ _ ih => rw [List.any_cons, List.any_cons, ih]
  have hmap : ∀ {kvs : List (Key × Value)} {l : Tab}, Ents ρ h kvs l → Ents ρ h (kvs.map fun kv => if kv.1 = k then (kv.1, v) else kv) (l.map fun p => if p.1 = k then (p.1, x) else p) := by
    intro kvs l r
    induction r with
    | nil => exact .nil
    | @cons k' v' x' kvs l hs' r' _ ih =>
      rw [List.map_cons, List.map_cons]
      by_cases hk : k' = k
      · rw [if_pos hk, if_pos hk]; exact .cons hs' rv ih
      · rw [if_neg hk, if_neg hk]; exact .cons hs' r' ih
  have happ : ∀ {kvs : List (Key × Value)} {l : Tab}, Ents ρ h kvs l → Ents ρ h (kvs ++ [(k, v)]) (l ++ [(k, x)]) := by
    intro kvs l r
    induction r with
    | nil => exact .cons hs rv .nil
    | cons hs' r' _ ih => exact .cons hs' r' ih
  unfold PySem.stored dSet
  rw [hany r]
  by_cases hc : (l.any fun p => decide (p.1 = k)) = true
  · rw [if_pos hc, if_pos hc]; exact hmap r
  · rw [if_neg hc, if_neg hc]; exact happ r
theorem dSet_length (l : Tab) (k : Key) (x : V) : (dSet l k x).length ≤ l.length + 1 := by
  unfold dSet
  split
  · rw [List.length_map]; exact Nat.le_succ _
  · rw [List.length_append]; exact Nat.le_refl _
/-- a dict of the store is turned -/
theorem Sim.turnDict {t : Sem Unit} {n : Nat} {l m : Tab} {a : Addr} {d : Addr} (i : Inv prog w h₀ σ ρ s.heap) (hσ : σ[n]? = some (.dict l)) (hρ : ρ[n]? = some (a, d))
    (hm : ∃ kvs', Ents ρ s.heap kvs' m ∧ kvs'.length ≤ sizeLine ∧ ∀ (Q : Unit → Shared → Prop) (E : Value → Shared → Prop), (∀ h' tk, h'.DictOf (keyKind prog w) a kvs' → (∀ b o, b ≠ a → s.heap.get? b = some o → h'.get? b = some o) → Q () { s with heap := h', toks := tk }) → wpAny (model prog w) A t Q E s) :
    Sim prog w h₀ A W t (setO n (.dict m) σ) (fun _ _ _ _ => True) ρ s := by
  obtain ⟨kvs', r, hl, hwp⟩ := hm
  by_cases hpos : 0 < n
  case neg => rw [setO_bad hpos]; exact trivial
  rw [setO_ok hpos (lt_of_get hσ)]
  obtain ⟨e1, hs, kvs, ⟨ob, es, ep, g, hx, hdt, _⟩, _, _⟩ := i.dict hσ hρ
  have e1 : d = a := e1
  subst e1
  refine hwp _ _ fun h' tk hg hk => ?_
  have hN := i.set (W := W) (n := n) (a := d) (o := .dict m) (h' := h') hpos hρ hk (let ⟨ob, _, _, g, _⟩ := hg; ⟨ob, g⟩) (fun vs' k' e => by
    rw [g] at e; cases e; cases hdt) fun x => ⟨rfl, hs, kvs', hg, hl, r.sub x.sub⟩
  exact ⟨ρ, h', tk, rfl, hN.1, hN.2, trivial⟩

theorem Sim.setItem {a b c : Value} {x y z : V} (i : Inv prog w h₀ σ ρ s.heap) (ra : Rel ρ s.heap a x) (rb : Rel ρ s.heap b y) (rc : Rel ρ s.heap c z) :
    Sim prog w h₀ A W (PySem.setItem a b c) (setItem x y z σ) (fun _ _ _ _ => True) ρ s := by
  unfold Mine.setItem
  split
  · cases ra with
    | ref er =>
    refine Sim.getO fun o hσ => ?_
    cases o with
    | list l =>
      cases rb with
      | int k t =>
        refine Sim.ite fun hc => ?_
        obtain ⟨_, vs, m, g, hl, r⟩ := i.list hσ er
        have hlen := r.length
        obtain ⟨h0, h1⟩ := hc
        have hs := sizeLine_lt
        refine Sim.turnList i hσ er g ⟨vs.set (Int.toNat _) c, r.set rc, by simpa using hl, fun Q E hQ => setItem_listAt g h0 (by omega) (by omega) (hQ _ (update_list g (by simp)) fun b o hb e => ?_)⟩
        rw [Heap.get?_update_other _ _ (Ne.symm hb)]; exact e
      | _ => exact trivial
    | dict l =>
      show Sim prog w h₀ A W _ (setD _ l y z σ) _ ρ s
      unfold setD
      cases ek : keyOf y with
      | none => exact trivial
      | some kk =>
        refine Sim.ite fun hc => ?_
        obtain ⟨_, hs, kvs, hd, hl, r⟩ := i.dict hσ er
        obtain ⟨h1, h2⟩ := keyOf_is rb ek
        have hlen := r.length
        exact Sim.turnDict i hσ er ⟨_, r.stored h2 rc, by rw [(r.stored h2 rc).length]; exact Nat.le_trans (dSet_length ..) hc, fun Q E hQ => wpAny_setItem_pairs h1 hd (fun h' hd' hk => hQ h' _ hd' fun b o hb e => (hk.2 b hb).trans e) hl⟩
    | inst _ _ => exact trivial
  · exact trivial

/-! built-in functions -/
theorem Sim.itemsOf {β γ : Type} {t : Sem β} {x : V} {k : List V → M γ} {R : γ → Map → Heap → β → Prop} (h1 : ∀ l, x = .tup l → Sim prog w h₀ A W t (k l σ) R ρ s) (h2 : ∀ n l, x = .ref n → σ[n]? = some (.list l) → Sim prog w h₀ A W t (k l σ) R ρ s) :
    Sim prog w h₀ A W t ((Mine.itemsOf x >>= k) σ) R ρ s := by
  cases x with
  | tup l => exact h1 l rfl
  | ref n => exact Sim.getList fun l hl => h2 n l rfl hl
  | none => exact trivial
  | bool _ => exact trivial
  | int _ => exact trivial
  | str _ => exact trivial

theorem Sim.bLen {a : Value} {x : V} (i : Inv prog w h₀ σ ρ s.heap) (ra : Rel ρ s.heap a x) : Sim prog w h₀ A W (call (.builtin "len") [a]) (bLen x σ) RV ρ s := by
  have hs := sizeLine_lt
  unfold Mine.bLen
  split
  · cases ra with
    | tup g hl r =>
    have hlen := r.length
    refine Sim.same i fun Q E hQ => P.len_tuple g (by simp; omega) ?_
    have := hQ _ (s.toks + 1 + 1) (.int _ (s.toks + 1))
    simpa [hlen] using this
  · cases ra with
    | str _ t hx =>
    exact Sim.same i fun Q E hQ => P.len_str (by have := hx.1; omega) (hQ _ _ (.int _ _))
  · cases ra with
    | ref er =>
    refine Sim.getO fun o hσ => ?_
    cases o with
    | list l =>
      obtain ⟨_, vs, m, g, hl, r⟩ := i.list hσ er
      have hlen := r.length
      refine Sim.same i fun Q E hQ => Calls.call_len_list (isList_of g) (by simp; omega) ?_
      have := hQ _ (s.toks + 1 + 1) (.int _ (s.toks + 1))
      simpa [hlen] using this
    | dict l =>
      obtain ⟨_, hds, kvs, hd, hl, r⟩ := i.dict hσ er
      have hlen := r.length
      refine Sim.same i fun Q E hQ => call_len_dict hds hd (by omega) ?_
      have := hQ _ (s.toks + 1 + 1) (.int _ (s.toks + 1))
      simpa [hlen] using this
    | inst _ _ => exact trivial
  · exact trivial

theorem keys_rel {h : Heap} {kvs : List (Key × Value)} {l : Tab} (r : Ents ρ h kvs l) : ∀ {vs : List Value}, vs.length = kvs.length → (∀ (j : Nat) (v : Value), vs[j]? = some v → ∃ k x, kvs[j]? = some (k, x) ∧ keyIs k v = true) → RelAll ρ h vs (l.map fun p => keyV p.1) := by
  induction r with
  | nil =>
    intro vs hl _
    rw [List.length_eq_zero_iff.mp hl]; exact .nil
  | cons hs r rs ih =>
    intro vs hl H
    cases vs with
    | nil => cases hl
    | cons v vs =>
      obtain ⟨k', x', e, hk⟩ := H 0 v rfl
      cases e
      refine .cons ?_ (ih (Nat.succ.inj hl) fun j v hv => H (j + 1) v hv)
      rcases keyIs_shape hk with ⟨i, t, rfl, rfl⟩ | ⟨y, t, rfl, rfl⟩
      · exact .int i t
      · exact .str y t (hs y rfl)
/-- a list of a dict's keys -/
theorem hint_dict {r : Addr} {Q : Bool → Shared → Prop} {E : Value → Shared → Prop} (hT : s.TypeIs (.ref r) "dict") (h : Q false s) : wpAny (model prog w) A (Builtin.List.listLengthHint (.ref r)) Q E s := by
  unfold Builtin.List.listLengthHint
  refine wpAny_bind (wpAny_specialOf hT PySem.F.slot_dict_len.lookup ?_)
  generalize hid : ("dict.__len__" : String) = id0
  wp_delta
  rw [show splitId id0 = some ("dict", "__len__") from by subst hid; decide +kernel]
  subst hid
  refine wpAny_bind (wpAny_isInstance (T := "dict") (b := true) hT PySem.F.kt_sub_dict ?_)
  refine wpAny_ite_split (fun hab => absurd hab (by decide)) fun _ => ?_
  refine wpAny_ite_split (fun _ => ?_) fun hab => absurd (by decide +kernel) hab
  exact wpAny_bind (wpAny_typeOf hT (wpAny_pure h))
theorem call_list_dict {d : Addr} {kvs : List (Key × Value)} {ep : Nat} {Q : Value → Shared → Prop} {E : Value → Shared → Prop} (hh : A.handled = none) (hds : (d == sysModules) = false) (hd : s.heap.DictAt (keyKind prog w) d kvs ep) (hn : kvs.length ≤ sizeLine)
    (hQ : ∀ h' tk acc c, (∀ b o, s.heap.get? b = some o → h'.get? b = some o) → h'.get? s.heap.objs.size = some (listO acc c) → acc.length = kvs.length → (∀ (j : Nat) (v : Value), acc[j]? = some v → ∃ k x, kvs[j]? = some (k, x) ∧ keyIs k v = true) → Q (.ref s.heap.objs.size) { s with heap := h', toks := tk }) :
    wpAny (model prog w) A (call (.type "list") [.ref d]) Q E s := by
  refine callType_codes (Q₁ := fun obj s₁ => obj = .ref s.heap.objs.size ∧ s₁ = { s with heap := s.heap.push { cls := .type "list", data := .seq #[] } }) PySem.F.called_list (PySem.F.typeCall_list_1 _) PySem.F.entry_list_init (code_list_new _ ⟨rfl, rfl⟩) ?_
  rintro obj s₁ ⟨rfl, rfl⟩
  have hlt : d < s.heap.objs.size := hd.lt_size
  have hSd : s.heap.objs.size ≠ d := Nat.ne_of_gt hlt
  have hS : (s.heap.push { cls := .type "list", data := .seq #[] }).get? s.heap.objs.size = some { cls := .type "list", data := .seq #[] } := Heap.get?_push_size _ rfl
  refine ⟨⟨_, hS, rfl⟩, PySem.F.args_list_init_2 _ _, ?_⟩
  have oth : ∀ (f : Obj → Obj) (h : Heap) b o, b ≠ s.heap.objs.size → h.get? b = some o → (h.update s.heap.objs.size f).get? b = some o := fun f h b o hb e => (Heap.get?_update_other _ _ (Ne.symm hb)).trans e
  show wpAny _ _ (do let old ← Builtin.List.listItems (.ref s.heap.objs.size); Builtin.List.listUpdate (.ref s.heap.objs.size) (fun _ => #[]); letGo old.toList.reverse; Builtin.List.listExtendWith (.ref s.heap.objs.size) (.ref d) .none) _ _ _
  refine wpAny_bind ?_
  unfold Builtin.List.listItems
  refine wpAny_bind (wpAny_seqItems hS rfl (wpAny_pure ?_))
  show wpAny _ _ (updateSeq s.heap.objs.size (fun _ => #[]) >>= fun _ => letGo (#[] : Array Value).toList.reverse >>= fun _ => Builtin.List.listExtendWith (.ref s.heap.objs.size) (.ref d) .none) _ _ _
  refine wpAny_bind (wpAny_updateSeq hS rfl (wpAny_bind (wpAny_letGo ?_)))
  have hS₁ := Heap.get?_update_self (Obj.mapSeq (fun _ => (#[] : Array Value))) hS rfl
  have hd₁ : ((s.heap.push { cls := .type "list", data := .seq #[] }).update s.heap.objs.size (Obj.mapSeq (fun _ => (#[] : Array Value)))).DictAt (keyKind prog w) d kvs ep := (hd.push _).at' fun o e => oth _ _ _ _ hSd.symm e
  have kept : ∀ b o, s.heap.get? b = some o → ((s.heap.push { cls := .type "list", data := .seq #[] }).update s.heap.objs.size (Obj.mapSeq (fun _ => (#[] : Array Value)))).get? b = some o := fun b o e => oth _ _ _ _ (Nat.ne_of_lt (Heap.lt_size e)) (Heap.get?_push_of_some _ e)
  generalize (s.heap.push { cls := .type "list", data := .seq #[] }).update s.heap.objs.size (Obj.mapSeq (fun _ => (#[] : Array Value))) = h₁ at hS₁ hd₁ kept ⊢
  unfold Builtin.List.listExtendWith
  refine wpAny_bind (wpAny_typeOf (T := "dict") hd₁.dictOf.typeIs ?_)
  have hsame : Builtin.List.listSameRef (.ref s.heap.objs.size) (.ref d) = false := by simp [Builtin.List.listSameRef, hSd]
  have n1 : (Value.type "dict" == Value.type "list") = false := by decide
  have n2 : (Value.type "dict" == Value.type "tuple") = false := by decide
  simp only [hsame, n1, n2, Bool.or_false, Bool.false_eq_true, if_false]
  refine wpAny_bind (wpAny_pyIter_dict hds hd₁ ?_)
  have hI : d ≠ h₁.objs.size := Nat.ne_of_lt hd₁.lt_size
  have hSI : s.heap.objs.size ≠ h₁.objs.size := Nat.ne_of_lt (Heap.lt_size hS₁)
  refine wpAny_bind (wpAny_holding (hint_dict (hd₁.push _).dictOf.typeIs ?_))
  rw [if_pos (by decide +kernel)]
  refine wpAny_bind (wpAny_rule (wpAny_bind ?_))
  have hS₂ := Heap.get?_push_of_some ({ cls := .type "dict_keyiterator", data := .fields #[.ref d, .int 0 0, .int kvs.length 0, .int ep 0] } : Obj) hS₁
  show wpAny _ _ (updateSeq s.heap.objs.size (·.push .none) >>= fun _ => updateSeq s.heap.objs.size (·.pop)) _ _ _
  refine wpAny_bind (wpAny_updateSeq hS₂ rfl ?_)
  have hS₃ := Heap.get?_update_self (Obj.mapSeq (·.push Value.none)) hS₂ rfl
  refine wpAny_updateSeq (hz := by seq_fits) hS₃ rfl ?_
  have hS₄ := Heap.get?_update_self (Obj.mapSeq (·.pop)) hS₃ rfl
  have far : ∀ b o, b ≠ s.heap.objs.size → (h₁.push ({ cls := .type "dict_keyiterator", data := .fields #[.ref d, .int 0 0, .int kvs.length 0, .int ep 0] } : Obj)).get? b = some o → (((h₁.push ({ cls := .type "dict_keyiterator", data := .fields #[.ref d, .int 0 0, .int kvs.length 0, .int ep 0] } : Obj)).update s.heap.objs.size (Obj.mapSeq (·.push Value.none))).update s.heap.objs.size (Obj.mapSeq (·.pop))).get? b = some o := fun b o hb e => oth _ _ _ _ hb (oth _ _ _ _ hb e)
  have hI2 := far _ _ hSI.symm (Heap.get?_push_size _ rfl)
  have hd2 : (((h₁.push ({ cls := .type "dict_keyiterator", data := .fields #[.ref d, .int 0 0, .int kvs.length 0, .int ep 0] } : Obj)).update s.heap.objs.size (Obj.mapSeq (·.push Value.none))).update s.heap.objs.size (Obj.mapSeq (·.pop))).DictAt (keyKind prog w) d kvs ep := (hd₁.push _).at' fun o e => far _ _ hSd.symm e
  have kept2 : ∀ b o, s.heap.get? b = some o → (((h₁.push ({ cls := .type "dict_keyiterator", data := .fields #[.ref d, .int 0 0, .int kvs.length 0, .int ep 0] } : Obj)).update s.heap.objs.size (Obj.mapSeq (·.push Value.none))).update s.heap.objs.size (Obj.mapSeq (·.pop))).get? b = some o := fun b o e => far _ _ (Nat.ne_of_lt (Heap.lt_size e)) (Heap.get?_push_of_some _ (kept b o e))
  refine wpAny_pure ⟨plainId_quiet PySem.F.plain_extend_loop _, ?_⟩
  refine codeAny_extend_loopS (Walks.dictKeys (A := A.in1.in1) (knd := keyKind prog w) hh h₁.objs.size d hI kvs ep).toS hn s.heap.objs.size (by simp [hSI, hSd]) .none kvs.length 0 _ #[] _ rfl (Nat.zero_le _) ⟨⟨_, hI2, rfl, rfl⟩, hd2⟩ hS₄ (ItemsOf.nil _) fun s' acc c hm hS' hacc => ?_
  rw [Moved.eq_with hm]
  refine ⟨rfl, hQ s'.heap s'.toks acc.toList c (fun b o e => hm.heap b o (fun hmem => ?_) (kept2 b o e)) (by simpa [listO] using hS') (by rw [Array.length_toList, hacc.1]) fun j v hv => hacc.2 j v (by simpa using hv)⟩
  rcases List.mem_cons.mp hmem with e' | hmem
  · exact absurd (Heap.lt_size e) (by rw [e']; exact Nat.lt_irrefl _)
  · have := Heap.lt_size (kept b o e)
    rw [List.mem_singleton.mp hmem] at this
    exact absurd this (Nat.lt_irrefl _)
theorem Sim.bList {a : Value} {x : V} (hh : A.handled = none) (i : Inv prog w h₀ σ ρ s.heap) (ra : Rel ρ s.heap a x) : Sim prog w h₀ A W (call (.type "list") [a]) (bList x σ) RV ρ s := by
  have key : ∀ (ad : Addr) (T : String) (o : Obj) (vs : List Value) (n : Nat) (l : List V), a = .ref ad → (T = "list" ∨ T = "tuple") → s.heap.get? ad = some o → o.cls = .type T → o.data = .seq vs.toArray n → vs.length ≤ sizeLine →
      RelAll ρ s.heap vs l → Sim prog w h₀ A W (call (.type "list") [a]) (newO (.list l) σ) RV ρ s := by
    intro ad T o vs n l e hT ho hc hd hl r
    subst e
    refine Sim.newListAt i fun Q E hQ => call_list_seq ad hT ho hc hd (fun h' c' hk hg => ?_) (by simpa using hl)
    exact hQ _ vs c' h' s.toks hk fresh_none hg hl (r.sub (Sub.keeps hk))
  show Sim prog w h₀ A W _ ((keysOf x >>= fun l => newO (.list l)) σ) RV ρ s
  cases ra with
  | tup g hl r => exact key _ "tuple" _ _ _ _ rfl (.inr rfl) g rfl rfl hl r
  | ref er =>
    show Sim prog w h₀ A W _ (((Mine.getO _ >>= fun o => match o with | .list l => (Pure.pure l : M (List V)) | .dict l => Pure.pure (l.map fun p => keyV p.1) | _ => M.bad) >>= fun l => newO (.list l)) σ) RV ρ s
    rw [M.assoc]
    refine Sim.getO fun o hσ => ?_
    cases o with
    | list l =>
      obtain ⟨_, vs, m, g, hl, r⟩ := i.list hσ er
      exact key _ "list" _ _ _ l rfl (.inl rfl) g rfl rfl hl r
    | dict l =>
      obtain ⟨_, hds, kvs, hd, hl, r⟩ := i.dict hσ er
      obtain ⟨ep, hd⟩ := hd.dictAt
      refine Sim.newListAt i fun Q E hQ => call_list_dict hh hds hd hl fun h' tk acc c hk hg h1 h2 => ?_
      exact hQ _ acc c h' tk hk fresh_none hg (by rw [h1]; exact hl) (keys_rel (r.sub (Sub.keeps hk)) h1 h2)
    | inst _ _ => exact trivial
  | none => exact trivial
  | bool _ => exact trivial
  | int _ _ => exact trivial
  | str _ _ _ => exact trivial

theorem Sim.bTuple {a : Value} {x : V} (i : Inv prog w h₀ σ ρ s.heap) (ra : Rel ρ s.heap a x) : Sim prog w h₀ A W (call (.type "tuple") [a]) (bTuple x σ) RV ρ s := by
  refine Sim.itemsOf (fun l e => ?_) fun n l e hσ => ?_
  · subst e
    cases ra with
    | tup g hl r => exact Sim.same i fun Q E hQ => call_tuple_same (isTuple_of g) (hQ _ s.toks (.tup g hl r))
  · subst e
    cases ra with
    | ref er =>
      obtain ⟨_, vs, m, g, hl, r⟩ := i.list hσ er
      refine Sim.grown i fun Q E hQ => call_tuple_list (isList_of g) (fun h' hk => ?_) (by simpa using hl)
      have hk' : ∀ b o, s.heap.get? b = some o → (h'.push (tupO vs 0)).get? b = some o := fun b o e => Heap.get?_push_of_some _ (hk b o e)
      exact hQ _ (h'.push (tupO vs 0)) s.toks hk' (.tup (n := 0) (Heap.get?_push_size _ rfl) hl (r.sub (Sub.keeps hk')))

noncomputable def kdName : Kd → String
  | .bool => "bool"
  | .int => "int"
  | .str => "str"
  | .tuple => "tuple"
  | .list => "list"

theorem Sim.isKd {a : Value} {x : V} {k : Kd} (i : Inv prog w h₀ σ ρ s.heap) (ra : Rel ρ s.heap a x) : Sim prog w h₀ A W (call (.builtin "isinstance") [a, .type (kdName k)]) (isKd k x σ) RV ρ s := by
  cases ra with
  | none =>
    refine Sim.same i fun Q E hQ => ?_
    cases k
    · exact IsiPair.NoneType_bool (hQ _ _ (.bool _))
    · exact IsiPair.NoneType_int (hQ _ _ (.bool _))
    · exact IsiPair.NoneType_str (hQ _ _ (.bool _))
    · exact IsiPair.NoneType_tuple (hQ _ _ (.bool _))
    · exact IsiPair.NoneType_list (hQ _ _ (.bool _))
  | bool _ =>
    refine Sim.same i fun Q E hQ => ?_
    cases k
    · exact IsiPair.bool_bool (hQ _ _ (.bool _))
    · exact IsiPair.bool_int (hQ _ _ (.bool _))
    · exact IsiPair.bool_str (hQ _ _ (.bool _))
    · exact IsiPair.bool_tuple (hQ _ _ (.bool _))
    · exact IsiPair.bool_list (hQ _ _ (.bool _))
  | int _ _ =>
    refine Sim.same i fun Q E hQ => ?_
    cases k
    · exact IsiPair.int_bool (hQ _ _ (.bool _))
    · exact IsiPair.int_int (hQ _ _ (.bool _))
    · exact IsiPair.int_str (hQ _ _ (.bool _))
    · exact IsiPair.int_tuple (hQ _ _ (.bool _))
    · exact IsiPair.int_list (hQ _ _ (.bool _))
  | str _ _ _ =>
    refine Sim.same i fun Q E hQ => ?_
    cases k
    · exact IsiPair.str_bool (hQ _ _ (.bool _))
    · exact IsiPair.str_int (hQ _ _ (.bool _))
    · exact IsiPair.str_str (hQ _ _ (.bool _))
    · exact IsiPair.str_tuple (hQ _ _ (.bool _))
    · exact IsiPair.str_list (hQ _ _ (.bool _))
  | tup g hl r =>
    refine Sim.same i fun Q E hQ => ?_
    cases k
    · exact IsiPair.tuple_bool g rfl (hQ _ _ (.bool _))
    · exact IsiPair.tuple_int g rfl (hQ _ _ (.bool _))
    · exact IsiPair.tuple_str g rfl (hQ _ _ (.bool _))
    · exact IsiPair.tuple_tuple g rfl (hQ _ _ (.bool _))
    · exact IsiPair.tuple_list g rfl (hQ _ _ (.bool _))
  | ref er =>
    refine Sim.getList fun l hσ => ?_
    obtain ⟨_, vs, m, g, hl, r⟩ := i.list hσ er
    refine Sim.same i fun Q E hQ => ?_
    cases k
    · exact IsiPair.list_bool g rfl (hQ _ _ (.bool _))
    · exact IsiPair.list_int g rfl (hQ _ _ (.bool _))
    · exact IsiPair.list_str g rfl (hQ _ _ (.bool _))
    · exact IsiPair.list_tuple g rfl (hQ _ _ (.bool _))
    · exact IsiPair.list_list g rfl (hQ _ _ (.bool _))

/-! methods -/
theorem Sim.mAppend {a b : Value} {x y : V} (i : Inv prog w h₀ σ ρ s.heap) (ra : Rel ρ s.heap a x) (rb : Rel ρ s.heap b y) : Sim prog w h₀ A W (call (.builtin "list.append") [a, b]) (mAppend x y σ) RV ρ s := by
  unfold Mine.mAppend
  split
  · cases ra with
    | ref er =>
    rename_i n a d
    refine Sim.getList fun l hσ => Sim.ite fun hc => ?_
    obtain ⟨rfl, vs, m, g, hl, r⟩ := i.list hσ er
    have hlen := r.length
    by_cases hpos : 0 < n
    case neg => rw [bind_bad (setO_bad hpos)]; exact trivial
    rw [bind_ok (setO_ok hpos (lt_of_get hσ))]
    refine wpAny_list_append_plain ⟨m, g⟩ (fun h' hg hk => ?_) (by simpa using hl)
    obtain ⟨m', hg⟩ := hg
    have hg : h'.get? d = some (listO (vs ++ [b]) m') := by simpa [listO] using hg
    have hN := i.set (W := W) (n := n) (a := d) (o := .list (l ++ [y])) (h' := h') hpos er (fun c o hb e => hk.extBut c o hb e) ⟨_, hg⟩ (fun vs' k' e => by rw [g] at e; simp [listO, tupO] at e)
      fun z => ⟨rfl, vs ++ [b], m', hg, by simp; omega, (r.append (.cons rb .nil)).ext z⟩
    exact ⟨ρ, h', s.toks, rfl, hN.1, hN.2, .none⟩
  · exact trivial

theorem strsAre_of {h : Heap} : ∀ {vs : List Value} {l : List V} {ss : List Str}, RelAll ρ h vs l → allStrs l = some ss → StrsAre vs ss ∧ ∀ x ∈ ss, SOk x
  | _, _, _, .nil, e => by cases e; exact ⟨.nil, fun _ h => nomatch h⟩
  | _, _, ss, @RelAll.cons _ _ v vs x l r rs, e => by
    cases x with
    | str y =>
      have e : (allStrs l).map (y :: ·) = some ss := e
      obtain ⟨ts, e1, rfl⟩ := Option.map_eq_some_iff.mp e
      cases r with
      | str _ t hy =>
        obtain ⟨h1, h2⟩ := strsAre_of rs e1
        exact ⟨.cons y t h1, fun z hz => (List.mem_cons.mp hz).elim (fun e => e ▸ hy) (h2 z)⟩
    | none => cases e
    | bool _ => cases e
    | int _ => cases e
    | tup _ => cases e
    | ref _ => cases e

theorem strOk_join {sep : Str} (hs : PyData.strOk sep = true) : ∀ {ss : List Str}, (∀ x ∈ ss, SOk x) → PyData.strOk (Str.join sep ss) = true
  | [], _ => by show PyData.strOk Str.empty = true; simp [PyData.strOk, Str.empty]
  | [x], h => (h x (by simp)).2
  | x :: y :: r, h => by
    show PyData.strOk (x ++ sep ++ Str.join sep (y :: r)) = true
    exact strOk_append (strOk_append (h x (by simp)).2 hs) (strOk_join hs fun z hz => h z (List.mem_cons_of_mem _ hz))

theorem Sim.mJoin {a b : Value} {x y : V} (i : Inv prog w h₀ σ ρ s.heap) (ra : Rel ρ s.heap a x) (rb : Rel ρ s.heap b y) : Sim prog w h₀ A W (call (.builtin "str.join") [a, b]) (mJoin x y σ) RV ρ s := by
  unfold Mine.mJoin
  split
  · rename_i sep
    cases ra with
    | str _ t hx =>
    have key : ∀ ss, (ss.map (·.length)).sum + ss.length * sep.length ≤ 16777216 → (∀ x ∈ ss, SOk x) → SOk (Txt.join sep ss) := fun ss h1 h2 => by
      refine ⟨?_, ?_⟩
      · show (Builtin.Str.glued sep ss).length ≤ sizeLine
        rw [size_glued]
        have h3 : (ss.length - 1) * sep.length ≤ ss.length * sep.length := Nat.mul_le_mul_right _ (Nat.sub_le _ _)
        show _ ≤ 16777216
        omega
      · show PyData.strOk (Builtin.Str.glued sep ss) = true
        rw [StrLaws.glued_eq_join]
        exact strOk_join hx.2 h2
    refine Sim.itemsOf (fun l e => ?_) fun n l e hσ => ?_
    · subst e
      cases rb with
      | tup g hl r =>
        refine Sim.ofOptBind fun ss hss => Sim.ite fun hc => ?_
        obtain ⟨h1, h2⟩ := strsAre_of r hss
        exact Sim.same i fun Q E hQ => join_tuple (isTuple_of g) (by simpa using h1) hc fun t' k => hQ _ _ (.str _ _ (key ss hc h2))
    · subst e
      cases rb with
      | ref er =>
        obtain ⟨_, vs, m, g, hl, r⟩ := i.list hσ er
        refine Sim.ofOptBind fun ss hss => Sim.ite fun hc => ?_
        obtain ⟨h1, h2⟩ := strsAre_of r hss
        exact Sim.same i fun Q E hQ => join_list (isList_of g) (by simpa using h1) hc fun t' k => hQ _ _ (.str _ _ (key ss hc h2))
  · exact trivial
end

end Mine

namespace Mine
open PySem PyProof.Rows PySem.Calls

section
variable {prog : Program} {w : World} {A : Around} {E : Value → Shared → Prop} {s : Shared}
theorem keys_miss_list {a : Addr} {o : Obj} {xs : Array Value} {k : Nat} {Q : Option Value → Shared → Prop}
    (hx : s.heap.get? a = some o) (hc : o.cls = .type "list") (hdat : o.data = .seq xs k) (hd : o.dict = none) (hA : A.handled = none)
    (h : ∀ h' tk, (∀ b o, s.heap.get? b = some o → h'.get? b = some o) → Q none { s with heap := h', toks := tk }) :
    wpAny (model prog w) A (getAttr? (.ref a) "keys") Q E s := by
  have hmiss : typeLookup (.type "list") "keys" = pure none := by rw [typeLookup_type, builtinLookup_eq_fast]; kernel_rfl
  obtain ⟨c, dct, dat, sl⟩ := o
  simp only at hc hdat hd
  subst hc hdat hd
  obtain ⟨hp, g, d, tk, os⟩ := s
  have hT : ∀ tk', (⟨hp, g, d, tk', os⟩ : Shared).TypeIs (.ref a) "list" := fun _ => ⟨_, hx, rfl⟩
  have f1 := sub_AttributeError
  have f3 := F.slot_list_getattribute.lookup
  have f4 := F.slot_list_getattribute.bind (.ref a)
  have f5 := am_list_getattr_none
  unfold getAttr? getAttrBy? getAttrBy
  repeat (any_goals (first | assumption | exact hT _ | ((with_reducible show wpAny _ _ (call (Value.builtin "list.__getattribute__") _ _) _ _ _); refine call_meets F.slot_list_getattribute (hT _) am_entry_list_getattribute (F.args_list_getattribute_2 _ _) (meets_getattribute_miss_list a xs k sl "keys" _ hmiss (by decide +kernel) (by decide +kernel)) ⟨hx, hA, fun h' tk' e hx' => ?_⟩) | wp_step))
  obtain ⟨t', u', he⟩ := hx'.there
  show wpAny _ _ (getattributeRaised _ _ _ _ _ _ _) _ _ _
  unfold getattributeRaised
  repeat (any_goals (first | assumption | wp_step))
  exact h h' tk' hx'.of.keeps
theorem keys_miss_tuple {a : Addr} {o : Obj} {xs : Array Value} {k : Nat} {Q : Option Value → Shared → Prop}
    (hx : s.heap.get? a = some o) (hc : o.cls = .type "tuple") (hdat : o.data = .seq xs k) (hd : o.dict = none) (hA : A.handled = none)
    (h : ∀ h' tk, (∀ b o, s.heap.get? b = some o → h'.get? b = some o) → Q none { s with heap := h', toks := tk }) :
    wpAny (model prog w) A (getAttr? (.ref a) "keys") Q E s := by
  have hmiss : typeLookup (.type "tuple") "keys" = pure none := by rw [typeLookup_type, builtinLookup_eq_fast]; kernel_rfl
  obtain ⟨c, dct, dat, sl⟩ := o
  simp only at hc hdat hd
  subst hc hdat hd
  obtain ⟨hp, g, d, tk, os⟩ := s
  have hT : ∀ tk', (⟨hp, g, d, tk', os⟩ : Shared).TypeIs (.ref a) "tuple" := fun _ => ⟨_, hx, rfl⟩
  have f1 := sub_AttributeError
  have f3 := F.slot_tuple_getattribute.lookup
  have f4 := F.slot_tuple_getattribute.bind (.ref a)
  have f5 := am_tuple_getattr_none
  unfold getAttr? getAttrBy? getAttrBy
  repeat (any_goals (first | assumption | exact hT _ | ((with_reducible show wpAny _ _ (call (Value.builtin "tuple.__getattribute__") _ _) _ _ _); refine call_meets F.slot_tuple_getattribute (hT _) am_entry_tuple_getattribute (F.args_tuple_getattribute_2 _ _) (meets_getattribute_miss_tuple a xs k sl "keys" _ hmiss (by decide +kernel) (by decide +kernel)) ⟨hx, hA, fun h' tk' e hx' => ?_⟩) | wp_step))
  obtain ⟨t', u', he⟩ := hx'.there
  show wpAny _ _ (getattributeRaised _ _ _ _ _ _ _) _ _ _
  unfold getattributeRaised
  repeat (any_goals (first | assumption | wp_step))
  exact h h' tk' hx'.of.keeps

theorem entry_dict_loop : entryFor table "dict.update.loop" = some Builtin.«dict.update.loop» := entryFor_of_tree (by kernel_rfl)
theorem plain_dict_loop : plainId "dict.update.loop" = true := by decide +kernel
theorem codeAny_dict_loop {R : Result → Shared → Prop} {I S : Addr} {fp wr : List Addr} {n : Nat} {P : Nat → Value → Prop} {St : Nat → Heap → Prop} (W : Walks prog w A.in1 I fp wr n P St) (hSf : S ∉ fp) {pairs : List (Key × Value)} (hz : n ≤ sizeLine) (hlen : pairs.length = n) (H₀ : Heap) (res : Value)
    (hP : ∀ i v, P i v → ∃ a kv vv k m, v = .ref a ∧ pairs[i]? = some (k, vv) ∧ keyIs k kv = true ∧ H₀.get? a = some (tupO [kv, vv] m) ∧ a ≠ S ∧ a ∉ wr) :
    ∀ (j i : Nat) (s : Shared) (kvs : List (Key × Value)), n - i = j → i ≤ n → St i s.heap → s.heap.DictOf (keyKind prog w) S kvs → kvs.length ≤ i → (∀ b o, b ≠ S → b ∉ wr → H₀.get? b = some o → s.heap.get? b = some o) →
    (∀ h' tk, h'.DictOf (keyKind prog w) S (merged kvs (pairs.drop i)) → (∀ b o, b ≠ S → b ∉ wr → H₀.get? b = some o → h'.get? b = some o) → R (.ok (.ret res)) { s with heap := h', toks := tk }) →
    codeAny (model prog w) A (.builtin "dict.update.loop" ⟨[.ref S, .ref I, rawInt i, res], []⟩) R s := by
  have hSw : S ∉ wr := fun h => hSf (W.sub _ h)
  intro j
  induction j with
  | zero =>
    intro i s kvs hk hi hst hd hkl hold hR
    have hin : i = n := by omega
    subst hin
    refine codeAny_builtin entry_dict_loop ?_
    rw [Around.under_plainId plain_dict_loop _]
    show wpAny _ A.in1 (pyNext (.ref I) >>= _) _ _ s
    refine wpAny_bind (W.done s _ _ hst fun h' tk hk' => ?_)
    show wpAny _ _ (Builtin.Dict.addKeywords S [] >>= _) _ _ _
    refine wpAny_bind (wpAny_pure (wpAny_pure (hR h' tk ?_ fun b o h1 h2 e => hk' b o h2 (hold b o h1 h2 e))))
    rw [List.drop_eq_nil_of_le (by omega)]
    exact (let ⟨o, es, ep, ho, r⟩ := hd; ⟨o, es, ep, hk' S o hSw ho, r⟩)
  | succ j ih =>
    intro i s kvs hk hi hst hd hkl hold hR
    have hlt : i < n := by omega
    refine codeAny_builtin entry_dict_loop ?_
    rw [Around.under_plainId plain_dict_loop _]
    show wpAny _ A.in1 (pyNext (.ref I) >>= _) _ _ s
    refine wpAny_bind (W.item i s _ _ hlt hst fun v h' tk hPv hst' hk' => ?_)
    obtain ⟨a, kv, vv, k, m, rfl, hp, hkey, hg, hne, hnw⟩ := hP i v hPv
    have hd' : h'.DictOf (keyKind prog w) S kvs := let ⟨o, es, ep, ho, r⟩ := hd; ⟨o, es, ep, hk' S o hSw ho, r⟩
    have hg' : h'.get? a = some (tupO [kv, vv] m) := hk' a _ hnw (hold a _ hne hnw hg)
    refine wpAny_bind (wpAny_holding (wpAny_bind (wpAny_tryCatch ?_)))
    unfold Builtin.Dict.pairItems
    refine wpAny_bind (wpAny_typeOf (T := "tuple") ⟨_, hg', rfl⟩ ?_)
    rw [if_pos (by decide)]
    refine wpAny_bind (wpAny_seqItems hg' rfl (wpAny_pure ?_))
    show wpAny _ _ (holding [kv, vv] (dictSet S kv vv)) _ _ _
    refine wpAny_holding (wpAny_dictSet_pairs hkey hd' (fun h'' hd'' hs'' => ?_) (by omega))
    refine wpAny_pure ⟨plainId_quiet plain_dict_loop _, ?_⟩
    have hc : ((i : Int) + 1) = ((i + 1 : Nat) : Int) := by push_cast; rfl
    rw [hc]
    refine ih (i + 1) _ _ (by omega) hlt (W.frame _ h' _ hst' fun b hb o e => (hs''.2 b (fun e => hSf (e ▸ hb))).trans e) hd'' (Nat.le_trans (stored_length_le ..) (by omega)) (fun b o h1 h2 e => (hs''.2 b h1).trans (hk' b o h2 (hold b o h1 h2 e))) fun h₃ tk₃ hd₃ hold₃ => hR h₃ tk₃ ?_ hold₃
    rw [show pairs.drop i = (k, vv) :: pairs.drop (i + 1) from by
      rw [List.drop_eq_getElem_cons (by omega)]; congr 1
      rw [List.getElem?_eq_getElem (by omega)] at hp; exact Option.some.inj hp]
    exact hd₃

theorem call_dict_list {ad : Addr} {vs : List Value} {n : Nat} {pairs : List (Key × Value)} {Q : Value → Shared → Prop} (hh : A.handled = none) (g : s.heap.get? ad = some (listO vs n)) (hz : vs.length ≤ sizeLine) (hlen : pairs.length = vs.length)
    (hP : ∀ (i : Nat) (v : Value), vs[i]? = some v → ∃ a kv vv k m, v = .ref a ∧ pairs[i]? = some (k, vv) ∧ keyIs k kv = true ∧ s.heap.get? a = some (tupO [kv, vv] m))
    (h : ∀ h' tk, h'.DictOf (keyKind prog w) s.heap.objs.size (merged [] pairs) → (∀ b o, s.heap.get? b = some o → h'.get? b = some o) → Q (.ref s.heap.objs.size) { s with heap := h', toks := tk }) :
    wpAny (model prog w) A (call (.type "dict") [.ref ad]) Q E s := by
  refine callType_codes (Q₁ := fun obj s₁ => obj = .ref s.heap.objs.size ∧ s₁ = { s with heap := s.heap.push { cls := .type "dict", data := .dict #[] } }) F.kt_called_dict (F.kt_typeCall_dict_1 _) F.entry_dict_init (kt_code_dict_new _ ⟨rfl, rfl⟩) ?_
  rintro obj s₁ ⟨rfl, rfl⟩
  have hnew : (s.heap.push { cls := .type "dict", data := .dict #[] }).DictOf (keyKind prog w) s.heap.objs.size [] := Heap.DictOf.new s.heap
  have g' : (s.heap.push { cls := .type "dict", data := .dict #[] }).get? ad = some (listO vs n) := Heap.get?_push_of_some _ g
  refine ⟨hnew.typeIs, F.args_dict_init_2 _ _, ?_⟩
  unfold Builtin.«dict.__init__»
  refine wpAny_bind ?_
  unfold Builtin.Dict.selfAndRest
  refine wpAny_bind (wpAny_notOrdered_dict hnew.typeIs ?_)
  show wpAny _ _ (pure (s.heap.objs.size, [Value.ref ad])) _ _ _
  refine wpAny_pure ?_
  show wpAny _ _ (Builtin.Dict.updateFrom "dict.__init__" s.heap.objs.size (.ref ad) [] .none) _ _ _
  unfold Builtin.Dict.updateFrom
  refine wpAny_bind (wpAny_typeOf (T := "list") ⟨_, g', rfl⟩ ?_)
  rw [if_pos (by decide)]
  refine wpAny_bind (keys_miss_list g' rfl rfl rfl hh fun h₁ tk₁ hk₁ => ?_)
  rw [if_pos (show (none : Option Value).isNone = true from rfl)]
  refine wpAny_bind (wpAny_rule ?_)
  have g₁ : h₁.get? ad = some (listO vs n) := hk₁ _ _ g'
  refine wpAny_bind (wpAny_pyIter_list (isList_of g₁) ?_)
  have hI : ad ≠ h₁.objs.size := Nat.ne_of_lt (Heap.lt_size g₁)
  have hS : s.heap.objs.size ≠ h₁.objs.size := let ⟨_, _, _, ho, _⟩ := hnew; Nat.ne_of_lt (Heap.lt_size (hk₁ _ _ ho))
  have hSa : s.heap.objs.size ≠ ad := Nat.ne_of_gt (Heap.lt_size g)
  refine wpAny_pure ⟨plainId_quiet plain_dict_loop _, codeAny_dict_loop (n := vs.toArray.size) (pairs := pairs) (Walks.list (A := A.in1.in1) hh h₁.objs.size ad hI vs.toArray) (by simp [hS, hSa]) (by simpa using hz) (by simpa using hlen) s.heap .none (fun i v hv => ?_) _ 0 _ [] rfl (Nat.zero_le _) ⟨⟨_, Heap.get?_push_size _ rfl, rfl, rfl⟩, isList_of (Heap.get?_push_of_some _ g₁)⟩ ?_ (Nat.le_refl _) (fun b o h1 h2 e => Heap.get?_push_of_some _ (hk₁ _ _ (Heap.get?_push_of_some _ e))) fun h' tk hd hold => ?_⟩
  · obtain ⟨a, kv, vv, k, m, rfl, h1, h2, h3⟩ := hP i v (by simpa using hv)
    refine ⟨a, kv, vv, k, m, rfl, h1, h2, h3, Nat.ne_of_lt (Heap.lt_size h3), ?_⟩
    rw [List.mem_singleton]
    exact Nat.ne_of_lt (Heap.lt_size (hk₁ _ _ (Heap.get?_push_of_some _ h3)))
  · exact let ⟨o, es, ep, ho, r⟩ := hnew; ⟨o, es, ep, Heap.get?_push_of_some _ (hk₁ _ _ ho), r⟩
  · refine ⟨rfl, h h' tk hd fun b o e => hold b o (Nat.ne_of_lt (Heap.lt_size e)) ?_ e⟩
    rw [List.mem_singleton]
    exact Nat.ne_of_lt (Heap.lt_size (hk₁ _ _ (Heap.get?_push_of_some _ e)))

theorem call_dict_tuple {ad : Addr} {vs : List Value} {n : Nat} {pairs : List (Key × Value)} {Q : Value → Shared → Prop} (hh : A.handled = none) (g : s.heap.get? ad = some (tupO vs n)) (hz : vs.length ≤ sizeLine) (hlen : pairs.length = vs.length)
    (hP : ∀ (i : Nat) (v : Value), vs[i]? = some v → ∃ a kv vv k m, v = .ref a ∧ pairs[i]? = some (k, vv) ∧ keyIs k kv = true ∧ s.heap.get? a = some (tupO [kv, vv] m))
    (h : ∀ h' tk, h'.DictOf (keyKind prog w) s.heap.objs.size (merged [] pairs) → (∀ b o, s.heap.get? b = some o → h'.get? b = some o) → Q (.ref s.heap.objs.size) { s with heap := h', toks := tk }) :
    wpAny (model prog w) A (call (.type "dict") [.ref ad]) Q E s := by
  refine callType_codes (Q₁ := fun obj s₁ => obj = .ref s.heap.objs.size ∧ s₁ = { s with heap := s.heap.push { cls := .type "dict", data := .dict #[] } }) F.kt_called_dict (F.kt_typeCall_dict_1 _) F.entry_dict_init (kt_code_dict_new _ ⟨rfl, rfl⟩) ?_
  rintro obj s₁ ⟨rfl, rfl⟩
  have hnew : (s.heap.push { cls := .type "dict", data := .dict #[] }).DictOf (keyKind prog w) s.heap.objs.size [] := Heap.DictOf.new s.heap
  have g' : (s.heap.push { cls := .type "dict", data := .dict #[] }).get? ad = some (tupO vs n) := Heap.get?_push_of_some _ g
  refine ⟨hnew.typeIs, F.args_dict_init_2 _ _, ?_⟩
  unfold Builtin.«dict.__init__»
  refine wpAny_bind ?_
  unfold Builtin.Dict.selfAndRest
  refine wpAny_bind (wpAny_notOrdered_dict hnew.typeIs ?_)
  show wpAny _ _ (pure (s.heap.objs.size, [Value.ref ad])) _ _ _
  refine wpAny_pure ?_
  show wpAny _ _ (Builtin.Dict.updateFrom "dict.__init__" s.heap.objs.size (.ref ad) [] .none) _ _ _
  unfold Builtin.Dict.updateFrom
  refine wpAny_bind (wpAny_typeOf (T := "tuple") ⟨_, g', rfl⟩ ?_)
  rw [if_pos (by decide)]
  refine wpAny_bind (keys_miss_tuple g' rfl rfl rfl hh fun h₁ tk₁ hk₁ => ?_)
  rw [if_pos (show (none : Option Value).isNone = true from rfl)]
  refine wpAny_bind (wpAny_rule ?_)
  have g₁ : h₁.get? ad = some (tupO vs n) := hk₁ _ _ g'
  refine wpAny_bind (wpAny_pyIter_tuple (isTuple_of g₁) ?_)
  have hI : ad ≠ h₁.objs.size := Nat.ne_of_lt (Heap.lt_size g₁)
  have hS : s.heap.objs.size ≠ h₁.objs.size := let ⟨_, _, _, ho, _⟩ := hnew; Nat.ne_of_lt (Heap.lt_size (hk₁ _ _ ho))
  have hSa : s.heap.objs.size ≠ ad := Nat.ne_of_gt (Heap.lt_size g)
  refine wpAny_pure ⟨plainId_quiet plain_dict_loop _, codeAny_dict_loop (n := vs.toArray.size) (pairs := pairs) (Walks.tuple (A := A.in1.in1) hh h₁.objs.size ad hI vs.toArray) (by simp [hS, hSa]) (by simpa using hz) (by simpa using hlen) s.heap .none (fun i v hv => ?_) _ 0 _ [] rfl (Nat.zero_le _) ⟨⟨_, Heap.get?_push_size _ rfl, rfl, rfl⟩, isTuple_of (Heap.get?_push_of_some _ g₁)⟩ ?_ (Nat.le_refl _) (fun b o h1 h2 e => Heap.get?_push_of_some _ (hk₁ _ _ (Heap.get?_push_of_some _ e))) fun h' tk hd hold => ?_⟩
  · obtain ⟨a, kv, vv, k, m, rfl, h1, h2, h3⟩ := hP i v (by simpa using hv)
    refine ⟨a, kv, vv, k, m, rfl, h1, h2, h3, Nat.ne_of_lt (Heap.lt_size h3), ?_⟩
    rw [List.mem_singleton]
    exact Nat.ne_of_lt (Heap.lt_size (hk₁ _ _ (Heap.get?_push_of_some _ h3)))
  · exact let ⟨o, es, ep, ho, r⟩ := hnew; ⟨o, es, ep, Heap.get?_push_of_some _ (hk₁ _ _ ho), r⟩
  · refine ⟨rfl, h h' tk hd fun b o e => hold b o (Nat.ne_of_lt (Heap.lt_size e)) ?_ e⟩
    rw [List.mem_singleton]
    exact Nat.ne_of_lt (Heap.lt_size (hk₁ _ _ (Heap.get?_push_of_some _ e)))
end

section
variable {prog : Program} {w : World} {h₀ : Heap} {A : Around} {W : List Addr} {ρ : Map} {s : Shared} {σ : Store}
theorem pairs_rel {h : Heap} : ∀ {l : List V} {vs : List Value} {t : Tab}, RelAll ρ h vs l → pairsOf l = some t → ∃ pairs : List (Key × Value), pairs.length = vs.length ∧ Ents ρ h pairs t ∧
    ∀ (i : Nat) (v : Value), vs[i]? = some v → ∃ a kv vv k m, v = .ref a ∧ pairs[i]? = some (k, vv) ∧ keyIs k kv = true ∧ h.get? a = some (tupO [kv, vv] m) := by
  intro l
  induction l with
  | nil =>
    intro vs t r e
    cases r; cases e
    exact ⟨[], rfl, .nil, fun i v e => by cases e⟩
  | cons x l ih =>
    intro vs t r e
    cases r with
    | cons r rs =>
      cases r with
      | tup g hl ra =>
        cases ra with
        | nil => cases e
        | @cons kv _ p _ rk ra =>
          cases ra with
          | nil => cases e
          | @cons vv _ q _ rv ra =>
            cases ra with
            | cons _ _ => cases e
            | nil =>
              have e : (match keyOf p, pairsOf l with | some k, some t => some ((k, q) :: t) | _, _ => none) = some t := e
              cases ek : keyOf p with
              | none => rw [ek] at e; cases e
              | some k =>
                cases er : pairsOf l with
                | none => rw [ek, er] at e; cases e
                | some t' =>
                  rw [ek, er] at e; cases e
                  obtain ⟨ps, h1, h2, h3⟩ := ih rs er
                  obtain ⟨k1, k2⟩ := keyOf_is rk ek
                  refine ⟨(k, _) :: ps, by rw [List.length_cons, List.length_cons, h1], .cons k2 rv h2, fun i v hv => ?_⟩
                  cases i with
                  | zero => cases hv; exact ⟨_, _, _, k, _, rfl, rfl, k1, g⟩
                  | succ i => exact h3 i v hv
      | none => cases e
      | bool _ => cases e
      | int _ _ => cases e
      | str _ _ _ => cases e
      | ref _ => cases e
theorem Ents.merged {h : Heap} : ∀ {ps : List (Key × Value)} {t : Tab}, Ents ρ h ps t → ∀ {kvs : List (Key × Value)} {l : Tab}, Ents ρ h kvs l → Ents ρ h (PySem.merged kvs ps) (dMerge l t)
  | _, _, .nil, _, _, r => r
  | _, _, .cons hs rv rs, _, _, r => Ents.merged rs (r.stored hs rv)
theorem big (hN : h₀.NoLimit) (i : Inv prog w h₀ σ ρ s.heap) : (s.heap.objs.size == sysModules) = false := by
  have := modules_low (hN.keeps i.base)
  exact beq_false_of_ne (Nat.ne_of_gt this)
theorem Sim.bDict {a : Value} {x : V} (hN : h₀.NoLimit) (hh : A.handled = none) (i : Inv prog w h₀ σ ρ s.heap) (ra : Rel ρ s.heap a x) : Sim prog w h₀ A W (call (.type "dict") [a]) (bDict x σ) RV ρ s := by
  refine Sim.itemsOf (fun l e => ?_) fun n l e hσ => ?_
  · subst e
    cases ra with
    | tup g hl r =>
      refine Sim.optThen fun t ht => ?_
      obtain ⟨ps, h1, h2, h3⟩ := pairs_rel r ht
      have hm := h2.merged (.nil (ρ := ρ) (h := s.heap))
      refine Sim.newDictAt i fun Q E hQ => call_dict_tuple hh g hl h1 h3 fun h' tk hd hk => hQ _ _ h' tk hk fresh_none (big hN i) hd ?_ (hm.sub (Sub.keeps hk))
      exact Nat.le_trans (merged_length_le ..) (by rw [h1]; simpa using hl)
  · subst e
    cases ra with
    | ref er =>
      obtain ⟨_, vs, m, g, hl, r⟩ := i.list hσ er
      refine Sim.optThen fun t ht => ?_
      obtain ⟨ps, h1, h2, h3⟩ := pairs_rel r ht
      have hm := h2.merged (.nil (ρ := ρ) (h := s.heap))
      refine Sim.newDictAt i fun Q E hQ => call_dict_list hh g hl h1 h3 fun h' tk hd hk => hQ _ _ h' tk hk fresh_none (big hN i) hd ?_ (hm.sub (Sub.keeps hk))
      exact Nat.le_trans (merged_length_le ..) (by rw [h1]; simpa using hl)

/-! sorted -/
theorem strLt_trans {a b c : Str} (h1 : strLt b a = false) (h2 : strLt c b = false) : strLt c a = false := by
  unfold strLt at *
  rw [decide_eq_false_iff_not] at *
  exact List.le_trans h1 h2
theorem strLt_total {a b : Str} (h : strLt a b = true) : strLt b a = false := by
  unfold strLt at *
  rw [decide_eq_false_iff_not]
  exact List.lt_asymm (of_decide_eq_true h)
theorem strLt_anti {a b : Str} (h1 : strLt b a = false) (h2 : strLt a b = false) : a = b := by
  unfold strLt at *
  rw [decide_eq_false_iff_not] at *
  have : a.cps.toList = b.cps.toList := List.le_antisymm h1 h2
  cases a; cases b
  simpa using Array.toList_inj.mp this
abbrev Rising (l : List Str) : Prop := l.Pairwise fun a b => strLt b a = false
theorem putS_mem {x y : Str} : ∀ {l : List Str}, y ∈ putS x l ↔ y = x ∨ y ∈ l
  | [] => by simp [putS]
  | z :: r => by
    unfold putS
    split
    · rw [List.mem_cons, putS_mem, List.mem_cons]; exact ⟨fun h => by rcases h with h | h | h <;> simp [h], fun h => by rcases h with h | h | h <;> simp [h]⟩
    · rw [List.mem_cons]
theorem putS_perm {x : Str} : ∀ {l : List Str}, (putS x l).Perm (x :: l)
  | [] => .refl _
  | z :: r => by
    unfold putS
    split
    · exact (List.Perm.cons z putS_perm).trans (.swap x z r)
    · exact .refl _
theorem putS_rising {x : Str} : ∀ {l : List Str}, Rising l → Rising (putS x l)
  | [], _ => List.pairwise_singleton _ _
  | z :: r, h => by
    have h := List.pairwise_cons.mp h
    unfold putS
    split
    · rename_i hz
      refine List.pairwise_cons.mpr ⟨fun y hy => ?_, putS_rising h.2⟩
      rcases putS_mem.mp hy with rfl | hy
      · exact strLt_total hz
      · exact h.1 y hy
    · rename_i hz
      have hz : strLt z x = false := by simpa using hz
      refine List.pairwise_cons.mpr ⟨fun y hy => ?_, List.pairwise_cons.mpr h⟩
      rcases List.mem_cons.mp hy with rfl | hy
      · exact hz
      · exact strLt_trans hz (h.1 y hy)
theorem sortS_perm : ∀ {l : List Str}, (sortS l).Perm l
  | [] => .refl _
  | x :: r => (putS_perm).trans (.cons x sortS_perm)
theorem sortS_rising : ∀ {l : List Str}, Rising (sortS l)
  | [] => .nil
  | _ :: _ => putS_rising sortS_rising
theorem rising_of : ∀ (p : Str) (l : List Str), risingS p l = true → Rising (p :: l)
  | p, [], _ => List.pairwise_singleton _ _
  | p, x :: r, h => by
    have h : (!PySem.Spec.ltCps x.cps.toList p.cps.toList && risingS x r) = true := h
    rw [Bool.and_eq_true, PyProof.Rows.ltCps_eq] at h
    have h1 : strLt x p = false := by unfold strLt; simpa using h.1
    have ih := rising_of x r h.2
    refine List.pairwise_cons.mpr ⟨fun y hy => ?_, ih⟩
    rcases List.mem_cons.mp hy with rfl | hy
    · exact h1
    · exact strLt_trans h1 ((List.pairwise_cons.mp ih).1 y hy)
theorem sorted_is {l m : List Str} (hp : l.Perm m) (hs : sortedS l = true) : l = sortS m := by
  refine List.Perm.eq_of_pairwise (le := fun a b => strLt b a = false) (fun a b _ _ h1 h2 => strLt_anti h1 h2) ?_ sortS_rising (hp.trans sortS_perm.symm)
  cases l with
  | nil => exact .nil
  | cons x r => exact rising_of x r hs
theorem strs_rel {h : Heap} : ∀ {vs : List Value} {ss : List Str}, StrsAre vs ss → (∀ x ∈ ss, SOk x) → RelAll ρ h vs (ss.map V.str)
  | _, _, .nil, _ => .nil
  | _, _, .cons y t r, hs => .cons (.str y t (hs y (List.mem_cons_self ..))) (strs_rel r fun x hx => hs x (List.mem_cons_of_mem _ hx))
theorem Sim.bSorted {a : Value} {x : V} (i : Inv prog w h₀ σ ρ s.heap) (ra : Rel ρ s.heap a x) : Sim prog w h₀ A W (call (.builtin "sorted") [a]) (bSorted x σ) RV ρ s := by
  cases ra with
  | ref er =>
    refine Sim.getList fun l hσ => Sim.optThen fun ss hss => Sim.ite fun hc => ?_
    obtain ⟨_, vs, m, g, hl, r⟩ := i.list hσ er
    obtain ⟨h1, h2⟩ := strsAre_of r hss
    have hlen := h1.length
    refine Sim.newListAt i fun Q E hQ => sorted_strs (isList_of g) h1 (by omega) fun out ss' a1 a2 a3 => ?_
    obtain ⟨e, he⟩ := sortedAll_at s.heap vs out
    have hl' : out.toList.length = ss.length := by rw [a1.length, a2.length_eq]
    have hs' := sorted_is a2 a3
    subst hs'
    refine hQ _ out.toList e _ s.toks (fun _ _ => sortedAll_old) ?_ (by simpa [listO, seqObj] using he) (by omega) (strs_rel a1 fun x hx => h2 x (a2.mem_iff.mp hx))
    cases e1 : s.heap.get? (s.heap.objs.size + 1) with
    | none => rfl
    | some o => exact absurd (Heap.lt_size e1) (Nat.not_lt.mpr (Nat.le_succ _))
  | _ => exact trivial

/-! the place of a value -/
theorem vidx_is {y : V} : ∀ {l : List V} {k j : Nat}, vidx σ y l k = some j → ∃ m, j = k + m ∧ (∃ x, l[m]? = some x ∧ veq σ x y = some true) ∧ ∀ p, p < m → ∃ x, l[p]? = some x ∧ veq σ x y = some false
  | [], k, j, h => by cases h
  | x :: r, k, j, h => by
    have h : (match veq σ x y with | some true => some k | some false => vidx σ y r (k + 1) | none => none) = some j := h
    cases e : veq σ x y with
    | none => rw [e] at h; cases h
    | some b =>
      rw [e] at h
      cases b with
      | true => cases h; exact ⟨0, rfl, ⟨x, rfl, e⟩, fun p hp => absurd hp (Nat.not_lt_zero _)⟩
      | false =>
        obtain ⟨m, h1, h2, h3⟩ := vidx_is (l := r) h
        refine ⟨m + 1, by omega, h2, fun p hp => ?_⟩
        cases p with
        | zero => exact ⟨x, rfl, e⟩
        | succ p => exact h3 p (by omega)
theorem Sim.mIndex {a b : Value} {x y : V} (hu : A.units + 201 < cLine) (i : Inv prog w h₀ σ ρ s.heap) (ra : Rel ρ s.heap a x) (rb : Rel ρ s.heap b y) : Sim prog w h₀ A W (call (.builtin "list.index") [a, b]) (mIndex x y σ) RV ρ s := by
  have hu1 : A.in1.units + 200 < cLine := by show A.units + 1 + 200 < cLine; omega
  have hsl := sizeLine_lt
  cases ra with
  | ref er =>
    refine Sim.getList fun l hσ => Sim.ask fun c hc => ?_
    obtain ⟨_, vs, m, g, hl, r⟩ := i.list hσ er
    cases hv : vin σ y l with
    | none => rw [hv] at hc; cases hc
    | some t =>
      cases t with
      | false => rw [hv] at hc; cases hc
      | true =>
        rw [hv] at hc
        obtain ⟨j, hj, rfl⟩ := Option.map_eq_some_iff.mp hc
        obtain ⟨m', rfl, ⟨z, hz, ez⟩, hno⟩ := vidx_is hj
        rw [Nat.zero_add]
        obtain ⟨_, he⟩ := vin_any (A := A.in1) i rb hu1 r hv
        have hlen := r.length
        have hm' := lt_of_get hz
        have hat : ∀ (p : Nat) (q : V) (e : Bool) (hp : p < vs.length), l[p]? = some q → veq σ q y = some e → ansB σ ρ s.heap y vs[p] = e := fun p q e hp h1 h2 => by
          obtain ⟨v, hv, rv⟩ := r.get h1
          rw [List.getElem?_eq_getElem hp] at hv; cases hv
          exact ansB_is i rv h2
        refine Sim.same i fun Q E hQ => call_meets PySem.F.slot_list_index ⟨_, g, rfl⟩ PySem.F.entry_list_index (PySem.F.args_list_index_2 _ _)
          (SeqAt.list_indexAt _ vs.toArray m none #[] b (ansB σ ρ s.heap y) m' (by simp; omega) (by omega) ?_ ?_) ⟨g, fun v hv => he v (by simpa using hv), hQ _ _ (.int _ _)⟩
        · simpa using hat m' z true (by omega) hz ez
        · intro p hp hlt
          obtain ⟨q, h1, h2⟩ := hno p hlt
          simpa using hat p q false (by simpa using hp) h1 h2
  | _ => exact trivial
theorem Sim.mSetdefault {a b c : Value} {x y z : V} (i : Inv prog w h₀ σ ρ s.heap) (ra : Rel ρ s.heap a x) (rb : Rel ρ s.heap b y) (rc : Rel ρ s.heap c z) : Sim prog w h₀ A W (call (.builtin "dict.setdefault") [a, b, c]) (mSetdefault x y z σ) RV ρ s := by
  cases ra with
  | @ref ad d n er =>
    show Sim prog w h₀ A W _ ((Mine.getDict n >>= fun l => Mine.ofOpt (keyOf y) >>= fun k => match dGet l k with | some x => Pure.pure x | none => if l.length + 1 ≤ sizeLine then (setO n (.dict (l ++ [(k, z)])) >>= fun _ => Pure.pure z) else M.bad) σ) RV ρ s
    unfold Mine.getDict
    rw [M.assoc]
    refine Sim.getO fun o hσ => ?_
    cases o with
    | list _ => exact trivial
    | inst _ _ => exact trivial
    | dict l =>
      refine Sim.optThen fun k hk => ?_
      obtain ⟨e1, hs, kvs, hd, hl, r⟩ := i.dict hσ er
      obtain ⟨k1, k2⟩ := keyOf_is rb hk
      have e1 : d = ad := e1
      subst e1
      cases eg : dGet l k with
      | some u =>
        obtain ⟨v, hv, rv⟩ := r.at.2 u eg
        exact Sim.same i fun Q E hQ => call_meetsIn PySem.F.slot_dict_setdefault hd.typeIs PySem.F.entry_dict_setdefault (PySem.F.args_dict_setdefault_3 _ _ _) (kt_meets_setdefault (keyKind prog w) d k1 hs c)
          ⟨kvs, hd, hl, (fun v' hv' => by rw [hv] at hv'; cases hv'; exact hQ _ _ rv), (fun hn => by rw [hv] at hn; cases hn)⟩
      | none =>
        have hv := r.at.1 eg
        refine Sim.ite fun hc => ?_
        by_cases hpos : 0 < n
        case neg => rw [bind_bad (setO_bad hpos)]; exact trivial
        rw [bind_ok (setO_ok hpos (lt_of_get hσ))]
        refine call_meetsIn PySem.F.slot_dict_setdefault hd.typeIs PySem.F.entry_dict_setdefault (PySem.F.args_dict_setdefault_3 _ _ _) (kt_meets_setdefault (keyKind prog w) d k1 hs c)
          ⟨kvs, hd, hl, (fun v' hv' => by rw [hv] at hv'; cases hv'), fun _ h' hd' hsb => ?_⟩
        have hds : dSet l k z = l ++ [(k, z)] := by
          unfold dSet
          rw [if_neg]
          intro ha
          obtain ⟨p, hp, hpk⟩ := List.any_eq_true.mp ha
          unfold dGet at eg
          rw [Option.map_eq_none_iff, List.find?_eq_none] at eg
          exact eg p hp hpk
        have rs := r.stored k2 rc
        rw [hds] at rs
        have hN := i.set (W := W) (n := n) (a := d) (o := .dict (l ++ [(k, z)])) (h' := h') hpos er (fun b o hb e => (hsb.2 b hb).trans e) (let ⟨ob, _, _, g, _⟩ := hd'; ⟨ob, g⟩) (fun vs' k' e => by
          obtain ⟨ob, es, ep, g, hx, hdt, _⟩ := hd
          rw [g] at e; cases e; cases hdt) fun x => ⟨rfl, hs, _, hd', (by rw [rs.length, List.length_append]; exact hc), rs.sub x.sub⟩
        exact ⟨ρ, h', _, rfl, hN.1, hN.2, rc.ext hN.2⟩
  | _ => exact trivial

/-! sum, all -/
theorem intsAre_of {h : Heap} : ∀ {vs : List Value} {l : List V} {is : List Int}, RelAll ρ h vs l → allInts l = some is → IntsAre vs is
  | _, _, _, .nil, e => by cases e; exact .nil
  | _, _, is, @RelAll.cons _ _ v vs x l r rs, e => by
    cases r with
    | int k t =>
      have e : (allInts l).map (k :: ·) = some is := e
      obtain ⟨ts, e1, rfl⟩ := Option.map_eq_some_iff.mp e
      exact .cons k t (intsAre_of rs e1)
    | none => cases e
    | bool _ => cases e
    | str _ _ _ => cases e
    | tup _ _ _ => cases e
    | ref _ => cases e
theorem Sim.bSum {a : Value} {x : V} (hh : A.handled = none) (i : Inv prog w h₀ σ ρ s.heap) (ra : Rel ρ s.heap a x) : Sim prog w h₀ A W (call (.builtin "sum") [a]) (bSum x σ) RV ρ s := by
  cases ra with
  | ref er =>
    refine Sim.getList fun l hσ => Sim.optThen fun is his => ?_
    obtain ⟨_, vs, m, g, hl, r⟩ := i.list hσ er
    have hi := intsAre_of r his
    obtain ⟨xs, hxs⟩ := hi.allInts.items
    refine Sim.grown i fun Q E hQ => sum_intListG hh (hxs ▸ isList_of g) fun h' tk t' hk => ?_
    have h1 : numsOf vs = is := hi.numsOf
    have h2 : numsOf vs = numsOf (intItems xs).toList := by rw [← hxs]
    rw [nums_intItems, h1] at h2
    have := hQ (.int is.sum t') h' tk hk (.int _ _)
    rw [preSum_eq, List.take_of_length_le (by simp), ← h2]; exact this
  | _ => exact trivial
theorem boolsAre_of {h : Heap} : ∀ {vs : List Value} {l : List V} {bs : List Bool}, RelAll ρ h vs l → allBools l = some bs → vs = bs.map Value.bool
  | _, _, _, .nil, e => by cases e; rfl
  | _, _, bs, @RelAll.cons _ _ v vs x l r rs, e => by
    cases r with
    | bool b =>
      have e : (allBools l).map (b :: ·) = some bs := e
      obtain ⟨ts, e1, rfl⟩ := Option.map_eq_some_iff.mp e
      rw [boolsAre_of rs e1]; rfl
    | none => cases e
    | int _ _ => cases e
    | str _ _ _ => cases e
    | tup _ _ _ => cases e
    | ref _ => cases e
theorem range_all (bs : List Bool) : (List.range bs.length).all (fun i => bs[i]?.getD true) = bs.all id := by
  rw [Bool.eq_iff_iff, List.all_eq_true, List.all_eq_true]
  constructor
  · intro h b hb
    obtain ⟨i, hi⟩ := List.getElem?_of_mem hb
    have := h i (List.mem_range.mpr (lt_of_get hi))
    rw [hi] at this; exact this
  · intro h i hi
    have hi := List.mem_range.mp hi
    rw [List.getElem?_eq_getElem hi]
    exact h _ (List.getElem_mem hi)
theorem Sim.bAll {a : Value} {x : V} (hh : A.handled = none) (i : Inv prog w h₀ σ ρ s.heap) (ra : Rel ρ s.heap a x) : Sim prog w h₀ A W (call (.builtin "all") [a]) (bAll x σ) RV ρ s := by
  cases ra with
  | @ref ad d n er =>
    refine Sim.getList fun l hσ => Sim.optThen fun bs hbs => ?_
    obtain ⟨_, vs, m, g, hl, r⟩ := i.list hσ er
    have hb := boolsAre_of r hbs
    have hI : ad ≠ s.heap.objs.size := Nat.ne_of_lt (Heap.lt_size g)
    refine Sim.grown i fun Q E hQ => call_all_walk (wpAny_pyIter_list (isList_of g) ⟨_, _, _, _, _, _, fun i => bs[i]?.getD true, rfl, Walks.list (A := A.in1) hh s.heap.objs.size ad hI vs.toArray, ⟨⟨_, Heap.get?_push_size _ rfl, rfl, rfl⟩, isList_of (Heap.get?_push_of_some _ g)⟩, fun i v s' Q' E' hv hq => ?_, fun h' tk hk => ?_⟩)
    · have hv : vs[i]? = some v := by simpa using hv
      rw [hb, List.getElem?_map] at hv
      obtain ⟨b, hb', rfl⟩ := Option.map_eq_some_iff.mp hv
      have hq : Q' (bs[i]?.getD true) s' := hq
      rw [hb'] at hq
      exact wpAny_truthy_bool hq
    · have hsz : vs.toArray.size = bs.length := by rw [hb]; simp
      rw [hsz, range_all]
      exact hQ _ h' tk (fun b o e => hk b o (fun hm => by rw [List.mem_singleton.mp hm] at e; exact absurd (Heap.lt_size e) (Nat.lt_irrefl _)) (Heap.get?_push_of_some _ e)) (.bool _)
  | _ => exact trivial
end
end Mine

namespace Mine
open PySem PyProof.Rows

/-! ## the top -/
structure FdOk (fd : FuncData) (f : Fn) : Prop where
  body : fd.body = .stmts f.body
  names : fd.scope.names = f.names
  kind : fd.scope.kind = .function
  co : fd.scope.isCoroutine = false
  gen : fd.scope.isGenerator = false
  clo : fd.closure = []
  globals : fd.globals = mainGlobals
  blts : fd.builtins = builtinsNs
  binds : ∀ vals : List Value, vals.length = f.params.length → bindArgs fd ⟨vals, []⟩ = pure (f.params.zip vals)
  pkind : ∀ x ∈ f.params, f.names.lookup x = some .local ∨ f.names.lookup x = some .cell
  nodup : f.params.Nodup

noncomputable def bltNames : List Str := ["len", "list", "tuple", "isinstance", "bool", "int", "str", "range", "enumerate", "sorted", "sum", "all", "max", "min", "dict", "zip", "reversed", "set"]

structure Base (fns : Str → Option Fn) (glob : Str → Option V) (mg mb : Str → Option Value) (h₀ : Heap) : Prop where
  g : h₀.Ns mainGlobals mg
  b : h₀.Ns builtinsNs mb
  nolimit : h₀.NoLimit
  fn : ∀ f fn, fns f = some fn → ∃ a o fd, mg f = some (.ref a) ∧ h₀.get? a = some o ∧ o.data = .func fd ∧ FdOk fd fn ∧ h₀.CodeRec fd.code fd.qualname
  blt : ∀ f ∈ bltNames, fns f = none → mg f = none ∧ mb f = bootBuiltins f
  const : ∀ x v, glob x = some v → ∃ val, mg x = some val ∧ ∀ ρ h, Rel ρ h val v

section
variable {prog : Program} {w : World} {h₀ : Heap} {A : Around} {W : List Addr} {ρ : Map} {s : Shared} {σ : Store} {fns : Str → Option Fn} {glob : Str → Option V} {mg mb : Str → Option Value}
variable {env : Env} {ns : Names} {loc : Loc} {C : Cfg} {n : Nat}

theorem Frm.kindOf (F : Frm env ns loc ρ s.heap) {x : Str} {i : Nat} {k : NameKind} (h : slot ns x = some (i, k)) : env.kindOf x = some k := by
  show env.scope.names.lookup x = some k
  rw [F.names]; exact slot_lookup h

theorem Frm.ext0 {ρ' : Map} {h h' : Heap} (F : Frm env ns loc ρ h) (x : Ext [] ρ h ρ' h') : Frm env ns loc ρ' h' := F.ext x fun _ hm => nomatch hm

theorem isGlob_slot {x : Str} (h : isGlob ns x = true) : (∃ i, slot ns x = some (i, .globalImplicit)) ∧ (x == ("__debug__" : Str)) = false := by
  unfold isGlob at h
  split at h
  · exact ⟨⟨_, by assumption⟩, by simpa using h⟩
  · cases h

theorem Sim.ldLoc {i : Nat} {t : Sem Value} (h : ∀ v, loc[i]? = some (some v) → Sim prog w h₀ A W t (.ok v σ) RV ρ s) : Sim prog w h₀ A W t (ldLoc loc i σ) RV ρ s := by
  refine Sim.ofOpt fun v hv => h v ?_
  cases e : loc[i]? with
  | none => rw [e] at hv; cases hv
  | some o => rw [e] at hv; cases o with
    | none => cases hv
    | some u => cases hv; rfl

theorem Sim.name {x : Str} {pos : Pos} (B : Base fns glob mg mb h₀) (hg : C.glob = glob) (F : Frm env ns loc ρ s.heap) (i : Inv prog w h₀ σ ρ s.heap) :
    Sim prog w h₀ A W (eval (.Name x pos) env) (ev C (.Name x pos) ns loc σ) RV ρ s := by
  show Sim prog w h₀ A W _ ((if x = ("__debug__" : Str) then M.bad else ldName C ns x loc) σ) RV ρ s
  by_cases hx : x = ("__debug__" : Str)
  · rw [if_pos hx]; exact trivial
  · rw [if_neg hx]
    have hd : (x == ("__debug__" : Str)) = false := by simpa using hx
    cases hs : slot ns x with
    | none => unfold ldName; rw [hs]; exact trivial
    | some p =>
      obtain ⟨j, k⟩ := p
      cases k with
      | «local» =>
        have e : ldName C ns x loc = Mine.ldLoc loc j := by unfold ldName; rw [hs]
        rw [e]
        refine Sim.ldLoc fun v hv => ?_
        obtain ⟨m, hn, hl⟩ := F.vars
        obtain ⟨val, hm, r⟩ := hl x j v hs hv
        exact Sim.same i fun Q E hQ => wpAny_Name (wpAny_loadName_local F.kind (F.kindOf hs) hn hm (hQ _ s.toks r)) hd
      | cell =>
        have e : ldName C ns x loc = Mine.ldLoc loc j := by unfold ldName; rw [hs]
        rw [e]
        refine Sim.ldLoc fun v hv => ?_
        obtain ⟨c, o, hc, hcell, hl⟩ := F.cell x j hs
        obtain ⟨val, rfl, r⟩ := hl v hv
        exact Sim.same i fun Q E hQ => wpAny_Name (wpAny_loadName_cell F.kind (F.kindOf hs) hc hcell (hQ _ s.toks r)) hd
      | free => unfold ldName; rw [hs]; exact trivial
      | globalImplicit =>
        have e : ldName C ns x loc = Mine.ofOpt (C.glob x) := by unfold ldName; rw [hs]
        rw [e, hg]
        refine Sim.ofOpt fun v hv => ?_
        obtain ⟨val, hm, r⟩ := B.const x v hv
        exact Sim.same i fun Q E hQ => Calls.Name_function_global F.kind (F.kindOf hs) (Calls.loadGlobal_global (by rw [F.globals]; exact B.g.keeps i.base) hm (hQ _ s.toks (r _ _))) hd
      | globalExplicit => unfold ldName; rw [hs]; exact trivial

/-- a global def is loaded -/
theorem wp_global {x : Str} {pos : Pos} {v : Value} {Q : Value → Shared → Prop} {E : Value → Shared → Prop} (B : Base fns glob mg mb h₀) (F : Frm env ns loc ρ s.heap) (i : Inv prog w h₀ σ ρ s.heap) (hx : isGlob ns x = true) (hv : mg x = some v) (h : Q v s) :
    wpAny (model prog w) A (eval (.Name x pos) env) Q E s := by
  obtain ⟨⟨j, hs⟩, hd⟩ := isGlob_slot hx
  exact Calls.Name_function_global F.kind (F.kindOf hs) (Calls.loadGlobal_global (by rw [F.globals]; exact B.g.keeps i.base) hv h) hd
theorem wp_builtin {x : Str} {pos : Pos} {v : Value} {Q : Value → Shared → Prop} {E : Value → Shared → Prop} (B : Base fns glob mg mb h₀) (F : Frm env ns loc ρ s.heap) (i : Inv prog w h₀ σ ρ s.heap) (hx : isGlob ns x = true) (hn : x ∈ bltNames) (hf : fns x = none)
    (hv : bootBuiltins x = some v) (h : Q v s) : wpAny (model prog w) A (eval (.Name x pos) env) Q E s := by
  obtain ⟨⟨j, hs⟩, hd⟩ := isGlob_slot hx
  obtain ⟨h1, h2⟩ := B.blt x hn hf
  exact Calls.Name_function_global F.kind (F.kindOf hs) (Calls.loadGlobal_builtin (by rw [F.globals]; exact B.g.keeps i.base) h1 (by rw [F.blts]; exact B.b.keeps i.base) (h2.trans hv) h) hd



/-! wrappers -/
theorem Sim.wrap {α β : Type} {t t' : Sem β} {r : Res α} {R : α → Map → Heap → β → Prop} (hw : ∀ (Q : β → Shared → Prop) (E : Value → Shared → Prop), wpAny (model prog w) A t Q E s → wpAny (model prog w) A t' Q E s)
    (h : Sim prog w h₀ A W t r R ρ s) : Sim prog w h₀ A W t' r R ρ s := by
  cases r with
  | bad => exact trivial
  | exc _ _ => exact trivial
  | ok a σ' => exact hw _ _ h
theorem Sim.operate {vs : List Value} {t : Sem Value} {r : Res V} {R : V → Map → Heap → Value → Prop} (h : Sim prog w h₀ A W t r R ρ s) : Sim prog w h₀ A W (PySem.operate vs t) r R ρ s :=
  Sim.wrap (fun _ _ => wpAny_operating) h

/-- a step behind that changes nothing -/
theorem Sim.behind {α : Type} {t : Sem Value} {f : Value → Sem PUnit} {r : Res α} {R : α → Map → Heap → Value → Prop} (hf : ∀ v (s' : Shared) (Q : PUnit → Shared → Prop) (E : Value → Shared → Prop), Q ⟨⟩ s' → wpAny (model prog w) A (f v) Q E s')
    (h : Sim prog w h₀ A W t r R ρ s) : Sim prog w h₀ A W (t >>= fun v => f v >>= fun _ => Pure.pure v) r R ρ s := by
  cases r with
  | bad => exact trivial
  | exc _ _ => exact trivial
  | ok a σ' => exact wpAny_bind (wpAny_mono h (fun v s' hp => wpAny_bind (hf v s' _ _ (wpAny_pure hp))) fun _ _ x => x)

variable (prog w h₀ C n) in
/-- an expression is simulated -/
noncomputable def EvS (e : Expr) : Prop := ∀ (env : Env) (ns : Names) (loc : Loc) (σ : Store) (ρ : Map) (s : Shared) (A : Around), Rm A n → Frm env ns loc ρ s.heap → Inv prog w h₀ σ ρ s.heap →
  Sim prog w h₀ A [] (eval e env) (ev C e ns loc σ) RV ρ s
variable (prog w h₀ C n) in
noncomputable def TstS (e : Expr) : Prop := ∀ (env : Env) (ns : Names) (loc : Loc) (σ : Store) (ρ : Map) (s : Shared) (A : Around), Rm A n → Frm env ns loc ρ s.heap → Inv prog w h₀ σ ρ s.heap →
  Sim prog w h₀ A [] (isTrue e env (eval e env)) (tst C e ns loc (ev C e ns loc) σ) RB ρ s
variable (prog w h₀ C n) in
noncomputable def EvsS (es : List Expr) : Prop := ∀ (env : Env) (ns : Names) (loc : Loc) (σ : Store) (ρ : Map) (s : Shared) (A : Around) (pos : Pos), Rm A n → Frm env ns loc ρ s.heap → Inv prog w h₀ σ ρ s.heap →
  Sim prog w h₀ A [] (spliced (backTo pos (starEach es env))) (evs C es ns loc σ) RL ρ s

theorem Rm.u {A : Around} (h : Rm A n) : A.units + 201 < cLine := by have := h.units; omega

theorem ev_const {c : Const} {k : Nat} {pos : Pos} : EvS prog w h₀ C n (.Constant c k pos) := fun env ns loc σ ρ s A hA F i => by
  show Sim prog w h₀ A [] (constValue env c) (constV c σ) RV ρ s
  cases c with
  | none => exact Sim.ret i .none
  | bool b => exact Sim.ret i (.bool b)
  | int z => exact Sim.same i fun Q E hQ => wpAny_mkInt (hQ _ _ (.int _ _))
  | str x => exact Sim.ite fun hc => Sim.same i fun Q E hQ => wpAny_mkText (hQ _ _ (.str _ _ hc))
  | float _ => exact trivial
  | complex _ _ => exact trivial
  | bytes _ => exact trivial
  | ellipsis => exact trivial

theorem ev_binop {l r : Expr} {op : Operator} {pos : Pos} (hl : EvS prog w h₀ C n l) (hr : EvS prog w h₀ C n r) : EvS prog w h₀ C n (.BinOp l op r pos) := fun env ns loc σ ρ s A hA F i => by
  rw [arm_eval_BinOp]
  show Sim prog w h₀ A [] _ ((ev C l ns loc >>= fun a => ev C r ns loc >>= fun b => binop op a b) σ) RV ρ s
  refine Sim.bind (hl env ns loc σ ρ s A hA F i) fun a σ₁ ρ₁ H₁ tk₁ va i₁ x₁ r₁ => ?_
  refine Sim.bind (Sim.holding (hr env ns loc σ₁ ρ₁ _ A hA (F.ext0 x₁) i₁)) fun b σ₂ ρ₂ H₂ tk₂ vb i₂ x₂ r₂ => ?_
  exact Sim.standAt (Sim.operate (Sim.binop i₂ (r₁.ext x₂) r₂))

theorem ev_not {x : Expr} {pos : Pos} (hx : EvS prog w h₀ C n x) : EvS prog w h₀ C n (.UnaryOp .Not x pos) := fun env ns loc σ ρ s A hA F i => by
  rw [arm_eval_UnaryOp]
  show Sim prog w h₀ A [] _ ((ev C x ns loc >>= fun a => truth a >>= fun t => pure (V.bool (!t))) σ) RV ρ s
  refine Sim.bind (hx env ns loc σ ρ s A hA F i) fun a σ₁ ρ₁ H₁ tk₁ va i₁ x₁ r₁ => ?_
  refine Sim.standAt (Sim.holding ?_)
  have := Sim.truth (prog := prog) (w := w) (A := A) (W := []) (s := { s with heap := H₁, toks := tk₁ }) i₁ r₁
  cases e : truth a σ₁ with
  | bad => rw [bind_bad e]; exact trivial
  | exc v σ' => rw [bind_exc e]; exact trivial
  | ok b σ' =>
    rw [bind_ok e]
    rw [e] at this
    refine not_value (wpAny_mono this (fun b' s' hp => ?_) fun _ _ x => x)
    exact hp.mono fun ρ' h' e => by cases e; exact .bool _

theorem ev_usub {z : Int} {k : Nat} {p pos : Pos} : EvS prog w h₀ C n (.UnaryOp .USub (.Constant (.int z) k p) pos) := fun env ns loc σ ρ s A hA F i => by
  show Sim prog w h₀ A [] _ ((pure (V.int (-z)) : M V) σ) RV ρ s
  exact Sim.same i fun Q E hQ => wpAny_UnaryOp (wpAny_Constant_int (neg_int (hQ _ _ (.int _ _))))

theorem markedBehindIn_sim {op : CmpOp} {r : Expr} {t : Sem Value} {res : Res V} (hr : ∀ es k p, r ≠ .Set es k p) (h : Sim prog w h₀ A W t res RV ρ s) : Sim prog w h₀ A W (markedBehindIn op r t) res RV ρ s := by
  have e : behindInMarks op r = false := by cases r <;> first | rfl | exact absurd rfl (hr _ _ _)
  rw [markedBehindIn_of_false e]; exact h

/-- the other side of a comparison is no set display -/
theorem ev_set {es : List Expr} {k : Nat} {p : Pos} : ev C (.Set es k p) ns loc = M.bad := rfl

theorem ev_compare {l r : Expr} {op : CmpOp} {pos : Pos} (hl : EvS prog w h₀ C n l) (hr : EvS prog w h₀ C n r) : EvS prog w h₀ C n (.Compare l [op] [r] pos) := fun env ns loc σ ρ s A hA F i => by
  rw [eval_Compare1]
  show Sim prog w h₀ A [] _ ((ev C l ns loc >>= fun a => ev C r ns loc >>= fun b => cmp op a b) σ) RV ρ s
  refine Sim.bind (hl env ns loc σ ρ s A hA F i) fun a σ₁ ρ₁ H₁ tk₁ va i₁ x₁ r₁ => ?_
  by_cases hset : ∃ es k p, r = .Set es k p
  · obtain ⟨es, k, p, rfl⟩ := hset
    rw [ev_set, bind_bad rfl]; exact trivial
  · refine Sim.bind (Sim.holding (markedBehindIn_sim (fun es k p e => hset ⟨es, k, p, e⟩) (hr env ns loc σ₁ ρ₁ _ A hA (F.ext0 x₁) i₁))) fun b σ₂ ρ₂ H₂ tk₂ vb i₂ x₂ r₂ => ?_
    exact Sim.standAt (Sim.operate (Sim.cmp i₂ hA.u (r₁.ext x₂) r₂))

/-- a test that is no connective -/
theorem tst_value {e : Expr} (he : EvS prog w h₀ C n e) (h1 : ∀ (ns : Names) (loc : Loc) (whole : M V), tst C e ns loc whole = (whole >>= fun v => truth v)) (h2 : ∀ (env : Env) (whole : Sem Value), isTrue e env whole = (do let v ← whole; standAt e.pos; holding [v] (truthy v))) :
    TstS prog w h₀ C n e := fun env ns loc σ ρ s A hA F i => by
  rw [h1, h2]
  refine Sim.bind (he env ns loc σ ρ s A hA F i) fun a σ₁ ρ₁ H₁ tk₁ va i₁ x₁ r₁ => ?_
  exact Sim.standAt (Sim.holding (Sim.truth i₁ r₁))

theorem tst_compare {l r : Expr} {op : CmpOp} {pos : Pos} (hl : EvS prog w h₀ C n l) (hr : EvS prog w h₀ C n r) : TstS prog w h₀ C n (.Compare l [op] [r] pos) := fun env ns loc σ ρ s A hA F i => by
  rw [isTrue_Compare1]
  show Sim prog w h₀ A [] _ (((ev C l ns loc >>= fun a => ev C r ns loc >>= fun b => cmp op a b) >>= fun v => truth v) σ) RB ρ s
  rw [M.assoc]
  refine Sim.bind (hl env ns loc σ ρ s A hA F i) fun a σ₁ ρ₁ H₁ tk₁ va i₁ x₁ r₁ => ?_
  rw [M.assoc]
  by_cases hset : ∃ es k p, r = .Set es k p
  · obtain ⟨es, k, p, rfl⟩ := hset
    rw [ev_set, bind_bad rfl]; exact trivial
  · refine Sim.bind (Sim.holding (markedBehindIn_sim (fun es k p e => hset ⟨es, k, p, e⟩) (hr env ns loc σ₁ ρ₁ _ A hA (F.ext0 x₁) i₁))) fun b σ₂ ρ₂ H₂ tk₂ vb i₂ x₂ r₂ => ?_
    refine Sim.standAt (Sim.bind (Sim.operate (Sim.cmp i₂ hA.u (r₁.ext x₂) r₂)) fun c σ₃ ρ₃ H₃ tk₃ vc i₃ x₃ r₃ => ?_)
    exact Sim.holding (Sim.truth i₃ r₃)

/-- two comparisons in a row -/
theorem ev_chain {l m r : Expr} {op op2 : CmpOp} {pos : Pos} (hl : EvS prog w h₀ C n l) (hm : EvS prog w h₀ C n m) (hr : EvS prog w h₀ C n r) : EvS prog w h₀ C n (.Compare l [op, op2] [m, r] pos) := fun env ns loc σ ρ s A hA F i => by
  have e : eval (.Compare l [op, op2] [m, r] pos) env = (eval l env >>= fun va => holding [va] (eval m env) >>= fun vb => PySem.standAt pos >>= fun _ => holding [va, vb] (compareOp op va vb) >>= fun c => release [va, vb] [c] >>= fun _ => holding [c, vb] (truthy c) >>= fun t =>
    if t = true then (holding [vb] (markedBehindIn op2 r (eval r env)) >>= fun vc => PySem.standAt pos >>= fun _ => operate [vb, vc] (compareOp op2 vb vc)) else Pure.pure c) := rfl
  rw [e]
  show Sim prog w h₀ A [] _ ((ev C l ns loc >>= fun a => ev C m ns loc >>= fun b => cmp op a b >>= fun x => boolK x (ev C r ns loc >>= fun c => cmp op2 b c) (pure (.bool false))) σ) RV ρ s
  refine Sim.bind (hl env ns loc σ ρ s A hA F i) fun a σ₁ ρ₁ H₁ tk₁ va i₁ x₁ r₁ => ?_
  refine Sim.bind (Sim.holding (hm env ns loc σ₁ ρ₁ _ A hA (F.ext0 x₁) i₁)) fun b σ₂ ρ₂ H₂ tk₂ vb i₂ x₂ r₂ => Sim.standAt ?_
  refine Sim.bind (Sim.holding (Sim.cmp i₂ hA.u (r₁.ext x₂) r₂)) fun c σ₃ ρ₃ H₃ tk₃ vc i₃ x₃ r₃ => ?_
  refine Sim.ahead (fun Q E hq => wpAny_release hq) ?_
  cases r₃ with
  | bool t =>
    refine Sim.first (fun Q E hq => wpAny_holding (wpAny_truthy_bool hq)) ?_
    cases t with
    | false => exact Sim.ret i₃ (.bool _)
    | true =>
      show Sim prog w h₀ A [] _ ((ev C r ns loc >>= fun c => cmp op2 b c) σ₃) RV ρ₃ _
      by_cases hset : ∃ es k p, r = .Set es k p
      · obtain ⟨es, k, p, rfl⟩ := hset
        rw [ev_set, bind_bad rfl]; exact trivial
      · refine Sim.bind (Sim.holding (markedBehindIn_sim (fun es k p e => hset ⟨es, k, p, e⟩) (hr env ns loc σ₃ ρ₃ _ A hA (((F.ext0 x₁).ext0 x₂).ext0 x₃) i₃))) fun d σ₅ ρ₅ H₅ tk₅ vd i₅ x₅ r₅ => ?_
        exact Sim.standAt (Sim.operate (Sim.cmp i₅ hA.u ((r₂.ext x₃).ext x₅) r₅))
  | _ => exact trivial
theorem tst_chain {l m r : Expr} {op op2 : CmpOp} {pos : Pos} (hl : EvS prog w h₀ C n l) (hm : EvS prog w h₀ C n m) (hr : EvS prog w h₀ C n r) : TstS prog w h₀ C n (.Compare l [op, op2] [m, r] pos) := fun env ns loc σ ρ s A hA F i => by
  have e : ∀ whole, isTrue (.Compare l [op, op2] [m, r] pos) env whole = (eval l env >>= fun va => holding [va] (eval m env) >>= fun vb => PySem.standAt pos >>= fun _ => holding [va, vb] (compareOp op va vb) >>= fun c => release [va, vb] [c] >>= fun _ => holding [c, vb] (truthy c) >>= fun t =>
    if t = true then (holding [vb] (markedBehindIn op2 r (eval r env)) >>= fun vc => PySem.standAt pos >>= fun _ => operate [vb, vc] (compareOp op2 vb vc) >>= fun c => holding [c] (truthy c)) else Pure.pure false) := fun _ => rfl
  rw [e]
  show Sim prog w h₀ A [] _ (((ev C l ns loc >>= fun a => ev C m ns loc >>= fun b => cmp op a b >>= fun x => boolK x (ev C r ns loc >>= fun c => cmp op2 b c) (pure (.bool false))) >>= fun v => truth v) σ) RB ρ s
  rw [M.assoc]
  refine Sim.bind (hl env ns loc σ ρ s A hA F i) fun a σ₁ ρ₁ H₁ tk₁ va i₁ x₁ r₁ => ?_
  rw [M.assoc]
  refine Sim.bind (Sim.holding (hm env ns loc σ₁ ρ₁ _ A hA (F.ext0 x₁) i₁)) fun b σ₂ ρ₂ H₂ tk₂ vb i₂ x₂ r₂ => Sim.standAt ?_
  rw [M.assoc]
  refine Sim.bind (Sim.holding (Sim.cmp i₂ hA.u (r₁.ext x₂) r₂)) fun c σ₃ ρ₃ H₃ tk₃ vc i₃ x₃ r₃ => ?_
  refine Sim.ahead (fun Q E hq => wpAny_release hq) ?_
  cases r₃ with
  | bool t =>
    refine Sim.first (fun Q E hq => wpAny_holding (wpAny_truthy_bool hq)) ?_
    cases t with
    | false => exact Sim.ret i₃ rfl
    | true =>
      show Sim prog w h₀ A [] _ (((ev C r ns loc >>= fun c => cmp op2 b c) >>= fun v => truth v) σ₃) RB ρ₃ _
      rw [M.assoc]
      by_cases hset : ∃ es k p, r = .Set es k p
      · obtain ⟨es, k, p, rfl⟩ := hset
        rw [ev_set, bind_bad rfl]; exact trivial
      · refine Sim.bind (Sim.holding (markedBehindIn_sim (fun es k p e => hset ⟨es, k, p, e⟩) (hr env ns loc σ₃ ρ₃ _ A hA (((F.ext0 x₁).ext0 x₂).ext0 x₃) i₃))) fun d σ₅ ρ₅ H₅ tk₅ vd i₅ x₅ r₅ => Sim.standAt ?_
        refine Sim.bind (Sim.operate (Sim.cmp i₅ hA.u ((r₂.ext x₃).ext x₅) r₅)) fun c σ₆ ρ₆ H₆ tk₆ vc i₆ x₆ r₆ => ?_
        exact Sim.holding (Sim.truth i₆ r₆)
  | _ => exact trivial

/-! dict displays -/
theorem lit_eval {e : Expr} {k : Int} (h : litInt e = some k) {env : Env} {Q : Value → Shared → Prop} {E : Value → Shared → Prop} {s : Shared} (hQ : ∀ t tk, Q (.int k t) { s with toks := tk }) : wpAny (model prog w) A (eval e env) Q E s := by
  unfold litInt at h
  split at h
  · cases h; exact wpAny_Constant_int (hQ _ _)
  · cases h; exact wpAny_UnaryOp (wpAny_Constant_int (neg_int (hQ _ _)))
  · cases h
theorem ev_dict0 {pos : Pos} (hN : h₀.NoLimit) : EvS prog w h₀ C n (.Dict [] [] pos) := fun env ns loc σ ρ s A hA F i => by
  rw [eval_Dict_empty]
  refine Sim.standAt (Sim.newDictAt i fun Q E hQ => wpAny_newObj_type (T := "dict") (hQ _ [] _ _ (fun _ _ e => Heap.get?_push_of_some _ e) fresh_none (big hN i) (Heap.DictOf.new s.heap) (Nat.zero_le _) .nil) ?_)
  exact Nat.zero_le _
theorem ev_dict1 {k v : Expr} {pos : Pos} (hN : h₀.NoLimit) : EvS prog w h₀ C n (.Dict [some k] [v] pos) := fun env ns loc σ ρ s A hA F i => by
  show Sim prog w h₀ A [] _ (dict1 k v σ) RV ρ s
  unfold dict1
  cases ek : litInt k with
  | none => exact trivial
  | some a =>
    cases ev : litInt v with
    | none => exact trivial
    | some b =>
      refine Sim.newDictAt i fun Q E hQ => ?_
      refine wpAny_Dict_walk (knd := keyKind prog w) rfl rfl (by simp) (show (1 : Nat) ≤ 15 by decide) (pairTrees_cons_walk (lit_eval ek fun t tk => lit_eval ev fun t' tk' => pairTrees_nil_walk ⟨[(.inl a, .int b t')], ?_, ?_, fun h' hd hs => ?_⟩))
      · exact ⟨isInt_same a t, rfl, trivial⟩
      · exact Heap.DictOf.new s.heap
      · refine hQ _ [(.inl a, .int b t')] h' _ (fun c o e => (hs.2 c (Nat.ne_of_lt (Heap.lt_size e))).trans (Heap.get?_push_of_some _ e)) fresh_none (big hN i) hd (show (1 : Nat) ≤ sizeLine by decide) (.cons (fun _ e => nomatch e) (.int b t') .nil)
end

end Mine

namespace Mine
open PySem PyProof.Rows

section
variable {prog : Program} {w : World} {h₀ : Heap} {A : Around} {W : List Addr} {ρ : Map} {s : Shared} {σ : Store} {fns : Str → Option Fn} {glob : Str → Option V} {mg mb : Str → Option Value}
variable {env : Env} {ns : Names} {loc : Loc} {C : Cfg} {n : Nat}

/-- a test of a bool, then one of two ways -/
theorem Sim.cond {α β : Type} {t : Sem Bool} {f g : Sem β} {m : M Bool} {k l : M α} {R : α → Map → Heap → β → Prop} (h : Sim prog w h₀ A W t (m σ) RB ρ s)
    (h1 : ∀ σ₁ ρ₁ H tk, Inv prog w h₀ σ₁ ρ₁ H → Ext W ρ s.heap ρ₁ H → Sim prog w h₀ A W f (k σ₁) R ρ₁ { s with heap := H, toks := tk })
    (h2 : ∀ σ₁ ρ₁ H tk, Inv prog w h₀ σ₁ ρ₁ H → Ext W ρ s.heap ρ₁ H → Sim prog w h₀ A W g (l σ₁) R ρ₁ { s with heap := H, toks := tk }) :
    Sim prog w h₀ A W (t >>= fun b => if b = true then f else g) ((m >>= fun b => if b = true then k else l) σ) R ρ s := by
  refine Sim.bind h fun b σ₁ ρ₁ H tk b' i x r => ?_
  cases r
  cases b with
  | true => exact h1 σ₁ ρ₁ H tk i x
  | false => exact h2 σ₁ ρ₁ H tk i x

theorem ev_ifexp {t a b : Expr} {pos : Pos} (ht : TstS prog w h₀ C n t) (ha : EvS prog w h₀ C n a) (hb : EvS prog w h₀ C n b) : EvS prog w h₀ C n (.IfExp t a b pos) := fun env ns loc σ ρ s A hA F i => by
  rw [arm_eval_IfExp]
  exact Sim.cond (ht env ns loc σ ρ s A hA F i) (fun σ₁ ρ₁ H tk i₁ x₁ => ha env ns loc σ₁ ρ₁ _ A hA (F.ext0 x₁) i₁) (fun σ₁ ρ₁ H tk i₁ x₁ => hb env ns loc σ₁ ρ₁ _ A hA (F.ext0 x₁) i₁)

theorem tst_ifexp {t a b : Expr} {pos : Pos} (ht : TstS prog w h₀ C n t) (ha : TstS prog w h₀ C n a) (hb : TstS prog w h₀ C n b) : TstS prog w h₀ C n (.IfExp t a b pos) := fun env ns loc σ ρ s A hA F i => by
  rw [arm_isTrue_IfExp]
  exact Sim.cond (ht env ns loc σ ρ s A hA F i) (fun σ₁ ρ₁ H tk i₁ x₁ => ha env ns loc σ₁ ρ₁ _ A hA (F.ext0 x₁) i₁) (fun σ₁ ρ₁ H tk i₁ x₁ => hb env ns loc σ₁ ρ₁ _ A hA (F.ext0 x₁) i₁)

theorem tst_not {x : Expr} {pos : Pos} (hx : TstS prog w h₀ C n x) : TstS prog w h₀ C n (.UnaryOp .Not x pos) := fun env ns loc σ ρ s A hA F i => by
  rw [arm_isTrue_UnaryOp]
  refine Sim.bind (hx env ns loc σ ρ s A hA F i) fun b σ₁ ρ₁ H tk b' i₁ x₁ r => ?_
  cases r
  exact Sim.ret i₁ rfl

variable (prog w h₀ C n) in
noncomputable def TstAllS (es : List Expr) : Prop := ∀ (op : BoolOp) (env : Env) (ns : Names) (loc : Loc) (σ : Store) (ρ : Map) (s : Shared) (A : Around), Rm A n → Frm env ns loc ρ s.heap → Inv prog w h₀ σ ρ s.heap →
  Sim prog w h₀ A [] (allTrue op es env) (tstAll C es op ns loc σ) RB ρ s
variable (prog w h₀ C n) in
noncomputable def EvBoolS (es : List Expr) : Prop := ∀ (op : BoolOp) (pos : Pos) (env : Env) (ns : Names) (loc : Loc) (σ : Store) (ρ : Map) (s : Shared) (A : Around), Rm A n → Frm env ns loc ρ s.heap → Inv prog w h₀ σ ρ s.heap →
  Sim prog w h₀ A [] (boolOp pos op (evalEach es env)) (evBool C es op ns loc σ) RV ρ s

theorem tstAll_nil : TstAllS prog w h₀ C n [] := fun op env ns loc σ ρ s A hA F i => Sim.ret i rfl
theorem tstAll_cons {e : Expr} {r : List Expr} (he : TstS prog w h₀ C n e) (hr : TstAllS prog w h₀ C n r) : TstAllS prog w h₀ C n (e :: r) := fun op env ns loc σ ρ s A hA F i => by
  rw [arm_allTrue_cons]
  refine Sim.bind (he env ns loc σ ρ s A hA F i) fun b σ₁ ρ₁ H tk b' i₁ x₁ e => ?_
  cases e
  cases op <;> cases b
  · exact Sim.ret i₁ rfl
  · exact hr _ env ns loc σ₁ ρ₁ _ A hA (F.ext0 x₁) i₁
  · exact hr _ env ns loc σ₁ ρ₁ _ A hA (F.ext0 x₁) i₁
  · exact Sim.ret i₁ rfl
theorem tst_boolop {op : BoolOp} {es : List Expr} {pos : Pos} (h : TstAllS prog w h₀ C n es) : TstS prog w h₀ C n (.BoolOp op es pos) := fun env ns loc σ ρ s A hA F i => by
  rw [arm_isTrue_BoolOp]; exact h op env ns loc σ ρ s A hA F i

theorem evBool_nil : EvBoolS prog w h₀ C n [] := fun op pos env ns loc σ ρ s A hA F i => trivial
theorem evBool_cons {e : Expr} {r : List Expr} (he : EvS prog w h₀ C n e) (hr : EvBoolS prog w h₀ C n r) : EvBoolS prog w h₀ C n (e :: r) := fun op pos env ns loc σ ρ s A hA F i => by
  cases r with
  | nil =>
    show Sim prog w h₀ A [] (eval e env) ((ev C e ns loc >>= fun v => (pure v : M V)) σ) RV ρ s
    have : (ev C e ns loc >>= fun v => (pure v : M V)) σ = ev C e ns loc σ := by
      cases h : ev C e ns loc σ with
      | bad => rw [bind_bad h]
      | exc _ _ => rw [bind_exc h]
      | ok a σ' => rw [bind_ok h]; rfl
    rw [this]
    exact he env ns loc σ ρ s A hA F i
  | cons e2 r =>
    rw [arm_evalEach_cons, arm_evalEach_cons]
    refine Sim.bind (he env ns loc σ ρ s A hA F i) fun a σ₁ ρ₁ H₁ tk₁ va i₁ x₁ r₁ => ?_
    refine Sim.standAt (Sim.bind (Sim.holding (Sim.truth i₁ r₁)) fun b σ₂ ρ₂ H₂ tk₂ b' i₂ x₂ e => ?_)
    cases e
    have hh := hr op pos env ns loc σ₂ ρ₂ { s with heap := H₂, toks := tk₂ } A hA ((F.ext0 x₁).ext0 x₂) i₂
    rw [arm_evalEach_cons] at hh
    cases op <;> cases b
    · exact Sim.ret i₂ (r₁.ext x₂)
    · exact hh
    · exact hh
    · exact Sim.ret i₂ (r₁.ext x₂)
theorem ev_boolop {op : BoolOp} {es : List Expr} {pos : Pos} (h : EvBoolS prog w h₀ C n es) : EvS prog w h₀ C n (.BoolOp op es pos) := fun env ns loc σ ρ s A hA F i => by
  rw [arm_eval_BoolOp]; exact h op pos env ns loc σ ρ s A hA F i

/-! rows of expressions -/
theorem starEach_cons {e : Expr} {r : List Expr} (h : ∀ v p, e ≠ .Starred v p) : starEach (e :: r) env = (false, eval e env) :: starEach r env := by
  cases e <;> first | rfl | exact absurd rfl (h _ _)
theorem evs_nil : EvsS prog w h₀ C n [] := fun env ns loc σ ρ s A pos hA F i => Sim.ret i .nil
theorem evs_cons {e : Expr} {r : List Expr} (he : EvS prog w h₀ C n e) (hr : EvsS prog w h₀ C n r) : EvsS prog w h₀ C n (e :: r) := fun env ns loc σ ρ s A pos hA F i => by
  show Sim prog w h₀ A [] _ ((ev C e ns loc >>= fun v => evs C r ns loc >>= fun vs => pure (v :: vs)) σ) RL ρ s
  by_cases hst : ∃ v p, e = .Starred v p
  · obtain ⟨v, p, rfl⟩ := hst
    have : ev C (.Starred v p) ns loc σ = .bad := rfl
    rw [bind_bad this]; exact trivial
  · rw [starEach_cons (fun v p e' => hst ⟨v, p, e'⟩)]
    show Sim prog w h₀ A [] (spliced ((false, eval e env) :: backTo pos (starEach r env))) _ RL ρ s
    have e : spliced ((false, eval e env) :: backTo pos (starEach r env)) = (eval e env >>= fun v => holding [v] (spliced (backTo pos (starEach r env))) >>= fun vs => Pure.pure (v :: vs)) := rfl
    rw [e]
    refine Sim.bind (he env ns loc σ ρ s A hA F i) fun a σ₁ ρ₁ H₁ tk₁ va i₁ x₁ r₁ => ?_
    refine Sim.bind (Sim.holding (hr env ns loc σ₁ ρ₁ _ A pos hA (F.ext0 x₁) i₁)) fun b σ₂ ρ₂ H₂ tk₂ vb i₂ x₂ r₂ => ?_
    exact Sim.ret i₂ (.cons (r₁.ext x₂) r₂)

theorem ev_list {es : List Expr} {pos : Pos} (h : EvsS prog w h₀ C n es) : EvS prog w h₀ C n (.List es pos) := fun env ns loc σ ρ s A hA F i => by
  rw [arm_eval_List]
  refine Sim.standAt (Sim.bind (h env ns loc σ ρ s A pos hA F i) fun l σ₁ ρ₁ H₁ tk₁ vs i₁ x₁ r₁ => ?_)
  exact Sim.ite fun hc => Sim.newList i₁ r₁ hc
theorem ev_tuple {es : List Expr} {k : Nat} {pos : Pos} (h : EvsS prog w h₀ C n es) : EvS prog w h₀ C n (.Tuple es k pos) := fun env ns loc σ ρ s A hA F i => by
  rw [arm_eval_Tuple]
  refine Sim.standAt (Sim.bind (h env ns loc σ ρ s A pos hA F i) fun l σ₁ ρ₁ H₁ tk₁ vs i₁ x₁ r₁ => ?_)
  exact Sim.ite fun hc => Sim.newTuple i₁ r₁ hc

/-! subscripts -/
noncomputable def CanGet (σ : Store) (x : V) : Prop := (∃ l, x = .tup l) ∨ (∃ t, x = .str t) ∨ ∃ m, x = .ref m ∧ ((∃ l, σ[m]? = some (.list l)) ∨ ∃ l, σ[m]? = some (.dict l))
/-- what can be asked for an item bears no __getitem__ of the text's own -/
theorem getitem_plain {v : Value} {x : V} {Q : Bool → Shared → Prop} {E : Value → Shared → Prop} (i : Inv prog w h₀ σ ρ s.heap) (r : Rel ρ s.heap v x) (hx : CanGet σ x) (h : Q false s) :
    wpAny (model prog w) A (getitemInPython v) Q E s := by
  have key : ∀ (T id : String), s.TypeIs v T → typeLookup (.type T) "__getitem__" = pure (some (.builtin id)) → wpAny (model prog w) A (getitemInPython v) Q E s := by
    intro T id hT hl
    rw [getitemInPython_of_ne hT.not_modules]
    exact wpAny_bind (wpAny_specialOf hT hl (wpAny_pure h))
  rcases hx with ⟨l, rfl⟩ | ⟨t, rfl⟩ | ⟨m, rfl, ⟨l, hσ⟩ | ⟨l, hσ⟩⟩
  · cases r with
    | tup g _ _ => exact key "tuple" _ (isTuple_of g).typeIs slot_tuple_getitem.lookup
  · cases r with
    | str _ t _ => exact key "str" _ (typeIs_str s _ t) F.slot_str_getitem.lookup
  · cases r with
    | ref er =>
      obtain ⟨_, vs, k, g, _, _⟩ := i.list hσ er
      exact key "list" _ (isList_of g).typeIs slot_list_getitem.lookup
  · cases r with
    | ref er =>
      obtain ⟨_, _, kvs, hd, _, _⟩ := i.dict hσ er
      exact key "dict" _ hd.typeIs slot_dict_getitem.lookup

theorem item_kind {x y : V} {v : V} {σ' : Store} (h : item x y σ = .ok v σ') : CanGet σ x := by
  cases x with
  | tup l => exact .inl ⟨_, rfl⟩
  | str t => exact .inr (.inl ⟨_, rfl⟩)
  | ref m =>
    refine .inr (.inr ⟨m, rfl, ?_⟩)
    have h : (getO m >>= fun o => match o with | .list l => itemL l y | .dict l => ofOpt ((keyOf y).bind (dGet l)) | _ => M.bad) σ = .ok v σ' := h
    cases e : σ[m]? with
    | none => rw [bind_bad (by rw [getO_eq, e])] at h; cases h
    | some o =>
      rw [bind_ok (a := o) (σ' := σ) (by rw [getO_eq, e])] at h
      cases o with
      | list l => exact .inl ⟨l, rfl⟩
      | dict l => exact .inr ⟨l, rfl⟩
      | inst _ _ => cases h
  | none => cases h
  | bool _ => cases h
  | int _ => cases h
theorem slice_kind {lo hi : Option Int} {x : V} {v : V} {σ' : Store} (h : sliceV lo hi x σ = .ok v σ') : CanGet σ x := by
  unfold sliceV at h
  split at h
  · exact .inl ⟨_, rfl⟩
  · exact .inr (.inl ⟨_, rfl⟩)
  · rename_i m
    refine .inr (.inr ⟨m, rfl, .inl ?_⟩)
    cases e : σ[m]? with
    | none => rw [bind_bad (by rw [getList_eq, e])] at h; cases h
    | some o => cases o with
      | list l => exact ⟨l, rfl⟩
      | dict _ => rw [bind_bad (by rw [getList_eq, e])] at h; cases h
      | inst _ _ => rw [bind_bad (by rw [getList_eq, e])] at h; cases h
  · cases h

/-- the end of a subscript -/
theorem Sim.subTail {value slice : Expr} {o i : Value} {x : V} {r : Res V} {ops : List Value} (iv : Inv prog w h₀ σ ρ s.heap) (ro : Rel ρ s.heap o x) (hk : ∀ v σ', r = .ok v σ' → CanGet σ x)
    (hs : subscripted slice false o i = PySem.operate ops (getItem o i)) (h : Sim prog w h₀ A W (getItem o i) r RV ρ s) :
    Sim prog w h₀ A W (getitemInPython o >>= fun b => subscripted slice b o i >>= fun r => letTemporaryGo value o r >>= fun _ => Pure.pure r) r RV ρ s := by
  cases r with
  | bad => exact trivial
  | exc _ _ => exact trivial
  | ok v σ' =>
    refine wpAny_bind (getitem_plain iv ro (hk v σ' rfl) ?_)
    rw [hs]
    exact wpAny_bind (wpAny_operating (wpAny_mono h (fun b s' hp => wpAny_bind (wpAny_letTemporaryGo (wpAny_pure hp))) fun _ _ x => x))

theorem ev_slice_bad {lo hi st : Option Expr} {p : Pos} : ev C (.Slice lo hi st p) ns loc = M.bad := rfl

theorem ev_sub {o i : Expr} {pos : Pos} (ho : EvS prog w h₀ C n o) (hi : EvS prog w h₀ C n i) (he : ∀ (ns : Names) (loc : Loc), ev C (.Subscript o i pos) ns loc = (ev C o ns loc >>= fun a => ev C i ns loc >>= fun b => item a b)) : EvS prog w h₀ C n (.Subscript o i pos) := fun env ns loc σ ρ s A hA F iv => by
  rw [arm_eval_Subscript, he]
  refine Sim.bind (ho env ns loc σ ρ s A hA F iv) fun a σ₁ ρ₁ H₁ tk₁ va i₁ x₁ r₁ => ?_
  by_cases hsl : ∃ lo hi st p, i = .Slice lo hi st p
  · obtain ⟨lo, hi', st, p, rfl⟩ := hsl
    rw [ev_slice_bad, bind_bad rfl]; exact trivial
  · refine Sim.bind (Sim.holding (hi env ns loc σ₁ ρ₁ _ A hA (F.ext0 x₁) i₁)) fun b σ₂ ρ₂ H₂ tk₂ vb i₂ x₂ r₂ => ?_
    refine Sim.standAt (Sim.subTail (ops := [va, vb]) i₂ (r₁.ext x₂) (fun v σ' e => item_kind e) ?_ (Sim.item i₂ (r₁.ext x₂) r₂))
    cases i <;> first | rfl | exact absurd ⟨_, _, _, _, rfl⟩ hsl

variable (prog w h₀ C n) in
noncomputable def EvOptS (o : Option Expr) : Prop := ∀ (env : Env) (ns : Names) (loc : Loc) (σ : Store) (ρ : Map) (s : Shared) (A : Around), Rm A n → Frm env ns loc ρ s.heap → Inv prog w h₀ σ ρ s.heap →
  Sim prog w h₀ A [] (valueOrNone (evalOpt o env)) (evOpt C o ns loc σ) RV ρ s
theorem evOpt_none : EvOptS prog w h₀ C n none := fun env ns loc σ ρ s A hA F i => Sim.ret i .none
theorem evOpt_some {e : Expr} (h : EvS prog w h₀ C n e) : EvOptS prog w h₀ C n (some e) := fun env ns loc σ ρ s A hA F i => h env ns loc σ ρ s A hA F i

noncomputable def RS : V × V → Map → Heap → Value → Prop := fun q ρ h iv => ∃ sl vl vu, iv = .ref sl ∧ h.IsSliceOf sl vl vu .none ∧ Rel ρ h vl q.1 ∧ Rel ρ h vu q.2

theorem slice_obj {lo hi : Option Expr} {p : Pos} (hlo : EvOptS prog w h₀ C n lo) (hhi : EvOptS prog w h₀ C n hi) (hA : Rm A n) (F : Frm env ns loc ρ s.heap) (iv : Inv prog w h₀ σ ρ s.heap) :
    Sim prog w h₀ A [] (eval (.Slice lo hi none p) env) ((evOpt C lo ns loc >>= fun l => evOpt C hi ns loc >>= fun h => (Pure.pure (l, h) : M (V × V))) σ) RS ρ s := by
  rw [arm_eval_Slice]
  refine Sim.bind (hlo env ns loc σ ρ s A hA F iv) fun a σ₁ ρ₁ H₁ tk₁ va i₁ x₁ r₁ => ?_
  refine Sim.bind (Sim.holding (hhi env ns loc σ₁ ρ₁ _ A hA (F.ext0 x₁) i₁)) fun b σ₂ ρ₂ H₂ tk₂ vb i₂ x₂ r₂ => ?_
  refine Sim.grown (s := { s with heap := H₂, toks := tk₂ }) i₂ fun Q E hQ => ?_
  refine wpAny_bind (wpAny_holding (wpAny_pure (wpAny_newObj_type (T := "slice") ?_ (by show (3 : Nat) ≤ sizeLine + 2; decide))))
  have hk : ∀ b o, H₂.get? b = some o → (H₂.push { cls := .type "slice", data := .fields #[va, vb, .none] }).get? b = some o := fun b o e => Heap.get?_push_of_some _ e
  exact hQ _ _ tk₂ hk ⟨_, va, vb, rfl, Heap.IsSliceOf.new .., (r₁.ext x₂).sub (Sub.keeps hk), r₂.sub (Sub.keeps hk)⟩

theorem ev_slice {o : Expr} {lo hi : Option Expr} {p pos : Pos} (ho : EvS prog w h₀ C n o) (hlo : EvOptS prog w h₀ C n lo) (hhi : EvOptS prog w h₀ C n hi) : EvS prog w h₀ C n (.Subscript o (.Slice lo hi none p) pos) := fun env ns loc σ ρ s A hA F iv => by
  rw [arm_eval_Subscript]
  have e : ev C (.Subscript o (.Slice lo hi none p) pos) ns loc = (ev C o ns loc >>= fun a => (evOpt C lo ns loc >>= fun l => evOpt C hi ns loc >>= fun h => (Pure.pure (l, h) : M (V × V))) >>= fun q => bound q.1 >>= fun l' => bound q.2 >>= fun h' => sliceV l' h' a) := by
    show (ev C o ns loc >>= fun a => evOpt C lo ns loc >>= fun l => evOpt C hi ns loc >>= fun h => bound l >>= fun l' => bound h >>= fun h' => sliceV l' h' a) = _
    congr 1; funext a
    rw [M.assoc]; congr 1; funext l
    rw [M.assoc]; rfl
  rw [e]
  refine Sim.bind (ho env ns loc σ ρ s A hA F iv) fun a σ₁ ρ₁ H₁ tk₁ va i₁ x₁ r₁ => ?_
  refine Sim.bind (Sim.holding (slice_obj hlo hhi hA (F.ext0 x₁) i₁)) fun q σ₂ ρ₂ H₂ tk₂ vb i₂ x₂ r₂ => ?_
  obtain ⟨sl, vl, vu, rfl, hs, rl, ru⟩ := r₂
  refine Sim.standAt (Sim.bound (s := { s with heap := H₂, toks := tk₂ }) rl fun l' pl => Sim.bound (s := { s with heap := H₂, toks := tk₂ }) ru fun h' pu => ?_)
  exact Sim.subTail (ops := [.ref sl, va]) i₂ (r₁.ext x₂) (fun v σ' e => slice_kind e) rfl (Sim.slice (s := { s with heap := H₂, toks := tk₂ }) i₂ (r₁.ext x₂) hs pl pu)

/-! calls -/
variable (prog w h₀ mg C n) in
/-- the text's own defs are simulated -/
noncomputable def CallS : Prop := ∀ (f : Str) (a : Addr) (args : List V) (vals : List Value) (σ : Store) (ρ : Map) (s : Shared) (A : Around), Rm A n → C.isFn f = true → mg f = some (.ref a) → RelAll ρ s.heap vals args → Inv prog w h₀ σ ρ s.heap →
  Sim prog w h₀ A [] (call (.ref a) vals) (C.call f args σ) RV ρ s

theorem noStar {es : List Expr} {pos : Pos} : (∀ e ∈ es, ∀ v p, e ≠ .Starred v p) → (backTo pos (starEach es env)).any (·.1) = false ∧ (backTo pos (starEach es env)).all (fun x => !x.1) = true := by
  induction es with
  | nil => intro _; exact ⟨rfl, rfl⟩
  | cons e r ih =>
    intro h
    rw [starEach_cons (h e (by simp))]
    obtain ⟨h1, h2⟩ := ih fun e' he' => h e' (by simp [he'])
    refine ⟨?_, ?_⟩
    · show (false || (backTo pos (starEach r env)).any (·.1)) = false
      rw [h1]; rfl
    · show (true && (backTo pos (starEach r env)).all _) = true
      rw [h2]; rfl

theorem evs_star {es : List Expr} : (∃ e ∈ es, ∃ v p, e = .Starred v p) → ∀ σ, ∃ r, evs C es ns loc σ = r ∧ ∀ l σ', r ≠ .ok l σ' := by
  induction es with
  | nil => rintro ⟨e, he, _⟩; exact nomatch he
  | cons e r ih =>
    rintro ⟨e', he', v, p, rfl⟩ σ
    refine ⟨_, rfl, fun l σ' h => ?_⟩
    have h : ((ev C e ns loc >>= fun v => evs C r ns loc >>= fun vs => (Pure.pure (v :: vs) : M (List V))) σ) = .ok l σ' := h
    cases h1 : ev C e ns loc σ with
    | bad => rw [bind_bad h1] at h; cases h
    | exc _ _ => rw [bind_exc h1] at h; cases h
    | ok a σ₁ =>
      rw [bind_ok h1] at h
      rcases List.mem_cons.mp he' with rfl | hm
      · cases h1
      · obtain ⟨_, rfl, hn⟩ := ih ⟨_, hm, v, p, rfl⟩ σ₁
        cases h2 : evs C r ns loc σ₁ with
        | bad => rw [bind_bad h2] at h; cases h
        | exc _ _ => rw [bind_exc h2] at h; cases h
        | ok b σ₂ => exact hn _ _ h2

/-- arguments, then a call -/
theorem Sim.args {α : Type} {f : Value} {first : List Value} {es : List Expr} {pos : Pos} {k : List V → M α} {R : α → Map → Heap → Value → Prop} (hes : EvsS prog w h₀ C n es) (hA : Rm A n) (F : Frm env ns loc ρ s.heap) (i : Inv prog w h₀ σ ρ s.heap)
    (hcw : ∀ (Q : Value → Shared → Prop) (E : Value → Shared → Prop), (∀ e ∈ es, ∀ v p, e ≠ .Starred v p) →
      wpAny (model prog w) A (spliced (backTo pos (starEach es env))) (fun vs s₁ => (∀ b o, h₀.get? b = some o → s₁.heap.get? b = some o) ∧ wpAny (model prog w) A (call f (first ++ vs)) Q E s₁) E s → wpAny (model prog w) A (callWith pos f first (backTo pos (starEach es env)) []) Q E s)
    (hk : ∀ l σ₁ ρ₁ H tk vs, Inv prog w h₀ σ₁ ρ₁ H → Ext [] ρ s.heap ρ₁ H → RelAll ρ₁ H vs l → Sim prog w h₀ A [] (call f (first ++ vs)) (k l σ₁) R ρ₁ { s with heap := H, toks := tk }) :
    Sim prog w h₀ A [] (callWith pos f first (backTo pos (starEach es env)) []) ((evs C es ns loc >>= k) σ) R ρ s := by
  cases h1 : evs C es ns loc σ with
  | bad => rw [bind_bad h1]; exact trivial
  | exc _ _ => rw [bind_exc h1]; exact trivial
  | ok l σ₁ =>
    have hst : ∀ e ∈ es, ∀ v p, e ≠ .Starred v p := fun e he v p heq => by
      obtain ⟨_, rfl, hn⟩ := evs_star (C := C) (ns := ns) (loc := loc) ⟨e, he, v, p, heq⟩ σ
      exact hn _ _ h1
    rw [bind_ok h1]
    cases h2 : k l σ₁ with
    | bad => exact trivial
    | exc _ _ => exact trivial
    | ok v σ₂ =>
      refine hcw _ _ hst ?_
      have := hes env ns loc σ ρ s A pos hA F i
      rw [h1] at this
      refine wpAny_mono this (fun vs s₁ hp => ?_) fun _ _ x => x.elim
      obtain ⟨ρ₁, H, tk, rfl, i₁, x₁, r₁⟩ := hp
      refine ⟨i₁.base, ?_⟩
      have := hk l σ₁ ρ₁ H tk vs i₁ x₁ r₁
      rw [h2] at this
      refine wpAny_mono this (fun b s' hp => ?_) fun _ _ x => x
      obtain ⟨ρ₂, H₂, tk₂, rfl, i₂, x₂, r₂⟩ := hp
      exact ⟨ρ₂, H₂, tk₂, rfl, i₂, x₁.trans x₂, r₂⟩
end

end Mine

namespace Mine
open PySem PyProof.Rows

theorem bb_len : bootBuiltins ("len" : Str) = some (.builtin "len") := by decide +kernel
theorem bb_list : bootBuiltins ("list" : Str) = some (.type "list") := by decide +kernel
theorem bb_tuple : bootBuiltins ("tuple" : Str) = some (.type "tuple") := by decide +kernel
theorem bb_sorted : bootBuiltins ("sorted" : Str) = some (.builtin "sorted") := by decide +kernel
theorem bb_dict : bootBuiltins ("dict" : Str) = some (.type "dict") := by decide +kernel
theorem bb_sum : bootBuiltins ("sum" : Str) = some (.builtin "sum") := by decide +kernel
theorem bb_all : bootBuiltins ("all" : Str) = some (.builtin "all") := by decide +kernel
theorem bb_isinstance : bootBuiltins ("isinstance" : Str) = some (.builtin "isinstance") := by decide +kernel
theorem bb_bool : bootBuiltins ("bool" : Str) = some (.type "bool") := by decide +kernel
theorem bb_int : bootBuiltins ("int" : Str) = some (.type "int") := by decide +kernel
theorem bb_str : bootBuiltins ("str" : Str) = some (.type "str") := by decide +kernel
theorem bb_range : bootBuiltins ("range" : Str) = some (.type "range") := by decide +kernel
theorem bb_enumerate : bootBuiltins ("enumerate" : Str) = some (.type "enumerate") := by decide +kernel

section
variable {prog : Program} {w : World} {h₀ : Heap} {A : Around} {W : List Addr} {ρ : Map} {s : Shared} {σ : Store} {fns : Str → Option Fn} {glob : Str → Option V} {mg mb : Str → Option Value}
variable {env : Env} {ns : Names} {loc : Loc} {C : Cfg} {n : Nat}

theorem evalArgs_any {f : Value} {es : List Expr} {pos : Pos} {Q : Args → Shared → Prop} {E : Value → Shared → Prop} (hst : ∀ e ∈ es, ∀ v p, e ≠ .Starred v p)
    (h : wpAny (model prog w) A (spliced (backTo pos (starEach es env))) (fun vs s' => Q ⟨vs, []⟩ s') E s) : wpAny (model prog w) A (evalArgs f true (backTo pos (starEach es env)) []) Q E s := by
  cases es with
  | nil =>
    unfold evalArgs
    show wpAny _ A (spliced [] >>= _) Q E s
    refine wpAny_bind (wpAny_mono h (fun vs s' h' => ?_) fun _ _ x => x)
    exact wpAny_bind (wpAny_pure (wpAny_holding (wpAny_bind (wpAny_pure (wpAny_bind (wpAny_pure (wpAny_pure h')))))))
  | cons e r =>
    rw [starEach_cons (hst e (by simp))] at h ⊢
    exact Calls.evalArgs_plain h

theorem cw_function {pos : Pos} {a : Addr} {o : Obj} {fd : FuncData} {first : List Value} {es : List Expr} {Q : Value → Shared → Prop} {E : Value → Shared → Prop} (ho : h₀.get? a = some o) (hd : o.data = .func fd) (hst : ∀ e ∈ es, ∀ v p, e ≠ .Starred v p)
    (h : wpAny (model prog w) A (spliced (backTo pos (starEach es env))) (fun vs s₁ => (∀ b o, h₀.get? b = some o → s₁.heap.get? b = some o) ∧ wpAny (model prog w) A (call (.ref a) (first ++ vs)) Q E s₁) E s) :
    wpAny (model prog w) A (callWith pos (.ref a) first (backTo pos (starEach es env)) []) Q E s :=
  Calls.callWith_function (o := o) (fd := fd) (evalArgs_any hst (wpAny_mono h (fun vs s₁ h₁ => ⟨⟨h₁.1 _ _ ho, hd⟩, h₁.2⟩) fun _ _ x => x))
theorem cw_builtin {pos : Pos} {id : String} {first : List Value} {es : List Expr} {Q : Value → Shared → Prop} {E : Value → Shared → Prop} (hst : ∀ e ∈ es, ∀ v p, e ≠ .Starred v p)
    (h : wpAny (model prog w) A (spliced (backTo pos (starEach es env))) (fun vs s₁ => (∀ b o, h₀.get? b = some o → s₁.heap.get? b = some o) ∧ wpAny (model prog w) A (call (.builtin id) (first ++ vs)) Q E s₁) E s) :
    wpAny (model prog w) A (callWith pos (.builtin id) first (backTo pos (starEach es env)) []) Q E s :=
  Calls.callWith_builtin (noStar hst).1 (evalArgs_any hst (wpAny_mono h (fun vs s₁ h₁ => h₁.2) fun _ _ x => x))
theorem cw_type {pos : Pos} {T : String} {first : List Value} {es : List Expr} {Q : Value → Shared → Prop} {E : Value → Shared → Prop} (hst : ∀ e ∈ es, ∀ v p, e ≠ .Starred v p)
    (h : wpAny (model prog w) A (spliced (backTo pos (starEach es env))) (fun vs s₁ => (∀ b o, h₀.get? b = some o → s₁.heap.get? b = some o) ∧ wpAny (model prog w) A (call (.type T) (first ++ vs)) Q E s₁) E s) :
    wpAny (model prog w) A (callWith pos (.type T) first (backTo pos (starEach es env)) []) Q E s :=
  PyProof.Rows.callWith_type (noStar hst).1 (evalArgs_any hst (wpAny_mono h (fun vs s₁ h₁ => h₁.2) fun _ _ x => x))

/-- a built-in's call, by what its name stands for -/
theorem Sim.blt {f : Str} {fv : Value} {vals : List Value} {vs : List V} (hN : h₀.NoLimit) (hh : A.handled = none) (hb : bootBuiltins f = some fv) (i : Inv prog w h₀ σ ρ s.heap) (r : RelAll ρ s.heap vals vs) :
    Sim prog w h₀ A W (call fv vals) (blt f vs σ) RV ρ s := by
  unfold Mine.blt
  split
  · cases r with
    | cons ra rn =>
    cases rn
    by_cases h0 : f = ("len" : Str)
    · rw [if_pos h0]; subst h0; rw [bb_len] at hb; cases hb; exact Sim.bLen i ra
    · rw [if_neg h0]
      by_cases h1 : f = ("list" : Str)
      · rw [if_pos h1]; subst h1; rw [bb_list] at hb; cases hb; exact Sim.bList hh i ra
      · rw [if_neg h1]
        by_cases h2 : f = ("tuple" : Str)
        · rw [if_pos h2]; subst h2; rw [bb_tuple] at hb; cases hb; exact Sim.bTuple i ra
        · rw [if_neg h2]
          by_cases h3 : f = ("sorted" : Str)
          · rw [if_pos h3]; subst h3; rw [bb_sorted] at hb; cases hb; exact Sim.bSorted i ra
          · rw [if_neg h3]
            by_cases h4 : f = ("dict" : Str)
            · rw [if_pos h4]; subst h4; rw [bb_dict] at hb; cases hb; exact Sim.bDict hN hh i ra
            · rw [if_neg h4]
              by_cases h5 : f = ("sum" : Str)
              · rw [if_pos h5]; subst h5; rw [bb_sum] at hb; cases hb; exact Sim.bSum hh i ra
              · rw [if_neg h5]
                by_cases h6 : f = ("all" : Str)
                · rw [if_pos h6]; subst h6; rw [bb_all] at hb; cases hb; exact Sim.bAll hh i ra
                · rw [if_neg h6]
                  exact trivial
  · exact trivial

/-- the names that blt serves -/
theorem blt_name {f : Str} {vs : List V} {v : V} {σ' : Store} (h : blt f vs σ = .ok v σ') : f ∈ bltNames ∧ ((∃ id, bootBuiltins f = some (.builtin id)) ∨ ∃ T, bootBuiltins f = some (.type T)) := by
  unfold Mine.blt at h
  split at h
  · skip
    by_cases h0 : f = ("len" : Str)
    · subst h0; exact ⟨by decide +kernel, .inl ⟨_, bb_len⟩⟩
    · rw [if_neg h0] at h
      by_cases h1 : f = ("list" : Str)
      · subst h1; exact ⟨by decide +kernel, .inr ⟨_, bb_list⟩⟩
      · rw [if_neg h1] at h
        by_cases h2 : f = ("tuple" : Str)
        · subst h2; exact ⟨by decide +kernel, .inr ⟨_, bb_tuple⟩⟩
        · rw [if_neg h2] at h
          by_cases h3 : f = ("sorted" : Str)
          · subst h3; exact ⟨by decide +kernel, .inl ⟨_, bb_sorted⟩⟩
          · rw [if_neg h3] at h
            by_cases h4 : f = ("dict" : Str)
            · subst h4; exact ⟨by decide +kernel, .inr ⟨_, bb_dict⟩⟩
            · rw [if_neg h4] at h
              by_cases h5 : f = ("sum" : Str)
              · subst h5; exact ⟨by decide +kernel, .inl ⟨_, bb_sum⟩⟩
              · rw [if_neg h5] at h
                by_cases h6 : f = ("all" : Str)
                · subst h6; exact ⟨by decide +kernel, .inl ⟨_, bb_all⟩⟩
                · rw [if_neg h6] at h
                  cases h
  · cases h

theorem Sim.ite2 {α β : Type} {t : Sem β} {c : Prop} [Decidable c] {m k : M α} {R : α → Map → Heap → β → Prop} (h : c → Sim prog w h₀ A W t (m σ) R ρ s) (h' : ¬ c → Sim prog w h₀ A W t (k σ) R ρ s) : Sim prog w h₀ A W t ((if c then m else k) σ) R ρ s := by
  by_cases hc : c
  · rw [if_pos hc]; exact h hc
  · rw [if_neg hc]; exact h' hc

theorem Call_name (f : Str) (p pos : Pos) (es : List Expr) : eval (.Call (.Name f p) es [] pos) env = (eval (.Name f p) env >>= fun fv => callWith pos fv [] (backTo pos (starEach es env)) []) := rfl

/-- the value of a name is at hand, the state stays -/
theorem Sim.head {α β : Type} {t : Sem Value} {v : Value} {f : Value → Sem β} {r : Res α} {R : α → Map → Heap → β → Prop} (ht : ∀ (Q : Value → Shared → Prop) (E : Value → Shared → Prop), Q v s → wpAny (model prog w) A t Q E s)
    (h : Sim prog w h₀ A W (f v) r R ρ s) : Sim prog w h₀ A W (t >>= f) r R ρ s := by
  cases r with
  | bad => exact trivial
  | exc _ _ => exact trivial
  | ok a σ' => exact wpAny_bind (ht _ _ h)

theorem kd_names {t : Str} {k : Kd} (h : kdOf t = some k) : t ∈ bltNames ∧ bootBuiltins t = some (.type (kdName k)) := by
  unfold kdOf at h
  by_cases h1 : t = ("bool" : Str)
  · rw [if_pos h1] at h; cases h; subst h1; exact ⟨by decide +kernel, bb_bool⟩
  · rw [if_neg h1] at h
    by_cases h1 : t = ("int" : Str)
    · rw [if_pos h1] at h; cases h; subst h1; exact ⟨by decide +kernel, bb_int⟩
    · rw [if_neg h1] at h
      by_cases h1 : t = ("str" : Str)
      · rw [if_pos h1] at h; cases h; subst h1; exact ⟨by decide +kernel, bb_str⟩
      · rw [if_neg h1] at h
        by_cases h1 : t = ("tuple" : Str)
        · rw [if_pos h1] at h; cases h; subst h1; exact ⟨by decide +kernel, bb_tuple⟩
        · rw [if_neg h1] at h
          by_cases h1 : t = ("list" : Str)
          · rw [if_pos h1] at h; cases h; subst h1; exact ⟨by decide +kernel, bb_list⟩
          · rw [if_neg h1] at h; cases h

/-- no def of the text's own bears a built-in's name -/
noncomputable def NoShadow (fns : Str → Option Fn) : Prop := ∀ f ∈ bltNames, fns f = none

theorem ev_isinstance {f t : Str} {a : Expr} {p q pos : Pos} (B : Base fns glob mg mb h₀) (hns : NoShadow fns) (ha : EvS prog w h₀ C n a) (hA : Rm A n) (F : Frm env ns loc ρ s.heap) (i : Inv prog w h₀ σ ρ s.heap) (hf : isGlob ns f = true) (hfi : f = ("isinstance" : Str)) (ht : isGlob ns t = true) :
    Sim prog w h₀ A [] (eval (.Call (.Name f p) [a, .Name t q] [] pos) env) ((ev C a ns loc >>= fun v => ofOpt (kdOf t) >>= fun k => isKd k v) σ) RV ρ s := by
  rw [Call_name]
  subst hfi
  refine Sim.head (v := .builtin "isinstance") (fun Q E h => wp_builtin B F i hf (by decide +kernel) (hns _ (by decide +kernel)) bb_isinstance h) ?_
  by_cases hst : ∃ v p, a = .Starred v p
  · obtain ⟨v, p, rfl⟩ := hst
    rw [bind_bad rfl]; exact trivial
  · rw [starEach_cons (fun v p e' => hst ⟨v, p, e'⟩)]
    cases hk : kdOf t with
    | none =>
      cases h1 : ev C a ns loc σ with
      | bad => rw [bind_bad h1]; exact trivial
      | exc _ _ => rw [bind_exc h1]; exact trivial
      | ok v σ₁ => rw [bind_ok h1]; exact trivial
    | some k =>
      obtain ⟨hn, hb⟩ := kd_names hk
      cases h1 : ev C a ns loc σ with
      | bad => rw [bind_bad h1]; exact trivial
      | exc _ _ => rw [bind_exc h1]; exact trivial
      | ok v σ₁ =>
        rw [bind_ok h1]
        show Sim prog w h₀ A [] _ (isKd k v σ₁) RV ρ s
        cases h2 : isKd k v σ₁ with
        | bad => exact trivial
        | exc _ _ => exact trivial
        | ok u σ₂ =>
          refine Calls.callWith_builtin (by rfl) (Calls.evalArgs_plain (Calls.spliced_cons ?_))
          have := ha env ns loc σ ρ s A hA F i
          rw [h1] at this
          refine wpAny_mono this (fun val s₁ hp => ?_) fun _ _ x => x.elim
          obtain ⟨ρ₁, H, tk, rfl, i₁, x₁, r₁⟩ := hp
          show wpAny _ A (spliced [(false, eval (.Name t q) env)]) _ _ _
          refine Calls.spliced_cons (wp_builtin B (F.ext0 x₁) i₁ ht hn (hns _ hn) hb (Calls.spliced_nil ?_))
          have hs := Sim.isKd (prog := prog) (w := w) (A := A) (W := []) (s := { s with heap := H, toks := tk }) (k := k) i₁ r₁
          rw [h2] at hs
          refine wpAny_mono hs (fun b s' hp => ?_) fun _ _ x => x
          obtain ⟨ρ₂, H₂, tk₂, rfl, i₂, x₂, r₂⟩ := hp
          exact ⟨ρ₂, H₂, tk₂, rfl, i₂, x₁.trans x₂, r₂⟩

variable (prog w h₀ C n) in
noncomputable def IsiS (es : List Expr) : Prop := ∀ (f : Str) (p pos : Pos) (env : Env) (ns : Names) (loc : Loc) (σ : Store) (ρ : Map) (s : Shared) (A : Around), Rm A n → Frm env ns loc ρ s.heap → Inv prog w h₀ σ ρ s.heap → isGlob ns f = true → f = ("isinstance" : Str) →
  Sim prog w h₀ A [] (eval (.Call (.Name f p) es [] pos) env) (evIsi C es ns loc σ) RV ρ s
theorem isi_two {a : Expr} {t : Str} {q : Pos} (B : Base fns glob mg mb h₀) (hns : NoShadow fns) (ha : EvS prog w h₀ C n a) : IsiS prog w h₀ C n [a, .Name t q] := fun f p pos env ns loc σ ρ s A hA F i hf hi =>
  Sim.ite fun ht => ev_isinstance B hns ha hA F i hf hi ht

theorem ev_callName {f : Str} {es : List Expr} {p pos : Pos} (B : Base fns glob mg mb h₀) (hfn : ∀ f, C.isFn f = (fns f).isSome) (hC : CallS prog w h₀ mg C n) (hes : EvsS prog w h₀ C n es)
    (hisi : IsiS prog w h₀ C n es) : EvS prog w h₀ C n (.Call (.Name f p) es [] pos) := fun env ns loc σ ρ s A hA F i => by
  show Sim prog w h₀ A [] _ ((if isGlob ns f = true then
      (if f = ("isinstance" : Str) then evIsi C es ns loc
      else (evs C es ns loc >>= fun vs => callGlob C f vs)) else M.bad) σ) RV ρ s
  refine Sim.ite fun hf => Sim.ite2 (fun hi => hisi f p pos env ns loc σ ρ s A hA F i hf hi) fun hi => ?_
  · rw [Call_name]
    cases hfun : fns f with
    | some fn =>
      obtain ⟨a, o, fd, hm, ho, hd, hok, hcd⟩ := B.fn f fn hfun
      have hisf : C.isFn f = true := by rw [hfn, hfun]; rfl
      refine Sim.head (v := .ref a) (fun Q E h => wp_global B F i hf hm h) ?_
      refine Sim.args hes hA F i (fun Q E hst h => cw_function ho hd hst h) fun l σ₁ ρ₁ H tk vs i₁ x₁ r₁ => ?_
      show Sim prog w h₀ A [] _ ((if C.isFn f = true then C.call f l else blt f l) σ₁) RV ρ₁ _
      rw [if_pos hisf]
      exact hC f a l vs σ₁ ρ₁ _ A hA hisf hm r₁ i₁
    | none =>
      have hisf : C.isFn f = false := by rw [hfn, hfun]; rfl
      have e : callGlob C f = blt f := by funext l; unfold callGlob; rw [hisf]; rfl
      rw [e]
      cases h1 : evs C es ns loc σ with
      | bad => rw [bind_bad h1]; exact trivial
      | exc _ _ => rw [bind_exc h1]; exact trivial
      | ok l₀ σ₀ =>
        cases h2 : blt f l₀ σ₀ with
        | bad => rw [bind_ok h1, h2]; exact trivial
        | exc _ _ => rw [bind_ok h1, h2]; exact trivial
        | ok u σ₂ =>
          obtain ⟨hn, hb⟩ := blt_name h2
          rcases hb with ⟨id, hb⟩ | ⟨T, hb⟩
          · refine Sim.head (v := .builtin id) (fun Q E h => wp_builtin B F i hf hn hfun hb h) ?_
            exact Sim.args hes hA F i (fun Q E hst h => cw_builtin hst h) fun l σ₁ ρ₁ H tk vs i₁ x₁ r₁ => Sim.blt B.nolimit hA.handled hb i₁ r₁
          · refine Sim.head (v := .type T) (fun Q E h => wp_builtin B F i hf hn hfun hb h) ?_
            exact Sim.args hes hA F i (fun Q E hst h => cw_type hst h) fun l σ₁ ρ₁ H tk vs i₁ x₁ r₁ => Sim.blt B.nolimit hA.handled hb i₁ r₁
end

end Mine

namespace Mine
open PySem PyProof.Rows

section
variable {prog : Program} {w : World} {h₀ : Heap} {A : Around} {W : List Addr} {ρ : Map} {s : Shared} {σ : Store} {fns : Str → Option Fn} {glob : Str → Option V} {mg mb : Str → Option Value}
variable {env : Env} {ns : Names} {loc : Loc} {C : Cfg} {n : Nat}

theorem attributeBase_plain {o : Expr} {m : Str} {whole : Sem Value} (h : isSuper o = false) : attributeBase o m env whole = whole := by
  cases o with
  | Call f as ks p =>
    cases f <;> first | rfl | (cases as <;> first | rfl | (cases ks <;> first | rfl | cases h))
  | _ => rfl

noncomputable def MTag.T : MTag → String
  | .append => "list"
  | .join => "str"
  | .index => "list"
  | .setdefault => "dict"
noncomputable def MTag.name : MTag → Str
  | .append => "append"
  | .join => "join"
  | .index => "index"
  | .setdefault => "setdefault"
noncomputable def MTag.id : MTag → String
  | .append => "list.append"
  | .join => "str.join"
  | .index => "list.index"
  | .setdefault => "dict.setdefault"
theorem MTag.attrs (t : MTag) : PlainAttrs t.T := by
  cases t with
  | append => exact F.plainAttrs_list
  | join => exact F.plainAttrs_str
  | index => exact F.plainAttrs_list
  | setdefault => exact F.plainAttrs_dict
theorem MTag.slot (t : MTag) : Slot t.T t.name t.id := by
  cases t with
  | append => exact F.slot_list_append
  | join => exact F.slot_str_join
  | index => exact F.slot_list_index
  | setdefault => exact F.slot_dict_setdefault
theorem MTag.type (t : MTag) : typeOf (.builtin t.id) = pure (.type "method_descriptor") := by
  cases t with
  | append => exact F.type_list_append
  | join => exact F.type_str_join
  | index => exact F.type_list_index
  | setdefault => exact F.type_dict_setdefault

theorem mtag_is {v : Value} {x : V} {m : Str} {t : MTag} (i : Inv prog w h₀ σ ρ s.heap) (r : Rel ρ s.heap v x) (h : mtag x m σ = some t) : m = t.name ∧ s.TypeIs v t.T ∧ ∀ a, v = .ref a → ∃ o, s.heap.get? a = some o ∧ o.dict = none := by
  unfold mtag at h
  split at h
  · cases r with
    | str _ tk _ =>
    split at h
    · cases h; exact ⟨by assumption, typeIs_str s _ tk, fun _ e => nomatch e⟩
    · cases h
  · cases r with
    | ref er =>
    rename_i k a d
    cases e : σ[k]? with
    | none => rw [e] at h; cases h
    | some o =>
      rw [e] at h
      cases o with
      | list l =>
        obtain ⟨_, vs, j, g, hl, ra⟩ := i.list e er
        dsimp only at h
        split at h
        · cases h
          exact ⟨by assumption, (isList_of g).typeIs, fun b e => by cases e; exact ⟨_, g, rfl⟩⟩
        · split at h
          · cases h
            exact ⟨by assumption, (isList_of g).typeIs, fun b e => by cases e; exact ⟨_, g, rfl⟩⟩
          · cases h
      | dict l =>
        obtain ⟨_, _, kvs, hd, hl, ra⟩ := i.dict e er
        dsimp only at h
        split at h
        · cases h
          refine ⟨by assumption, hd.typeIs, fun b e => by cases e; exact (let ⟨o, _, _, g, hx, _⟩ := hd; ⟨o, g, hx.2.1⟩)⟩
        · cases h
      | inst _ _ => cases h
  · cases h

theorem Sim.runM {t : MTag} {v : Value} {x : V} {vals : List Value} {vs : List V} (hu : A.units + 201 < cLine) (i : Inv prog w h₀ σ ρ s.heap) (r : Rel ρ s.heap v x) (rs : RelAll ρ s.heap vals vs) : Sim prog w h₀ A W (call (.builtin t.id) (v :: vals)) (runM t x vs σ) RV ρ s := by
  unfold Mine.runM
  split
  · cases rs with
    | cons ra rn => cases rn; exact Sim.mAppend i r ra
  · cases rs with
    | cons ra rn => cases rn; exact Sim.mJoin i r ra
  · cases rs with
    | cons ra rn => cases rn; exact Sim.mIndex hu i r ra
  · cases rs with
    | cons ra rn => cases rn with
      | cons rb rn => cases rn; exact Sim.mSetdefault i r ra rb
  · exact trivial

theorem ev_callMeth {o : Expr} {m : Str} {ap pos : Pos} {es : List Expr} (ho : EvS prog w h₀ C n o) (hes : EvsS prog w h₀ C n es) : EvS prog w h₀ C n (.Call (.Attribute o m ap) es [] pos) := fun env ns loc σ ρ s A hA F i => by
  show Sim prog w h₀ A [] _ ((if ap.endLine = pos.line ∧ es.length < 30 ∧ isSuper o = false then (ev C o ns loc >>= fun v => askS (mtag v m) >>= fun tg => evs C es ns loc >>= fun vs => runM tg v vs) else M.bad) σ) RV ρ s
  refine Sim.ite fun hc => ?_
  obtain ⟨h1, h2, h3⟩ := hc
  rw [arm_eval_Call, attributeBase_plain h3]
  refine Sim.bind (ho env ns loc σ ρ s A hA F i) fun a σ₁ ρ₁ H₁ tk₁ va i₁ x₁ r₁ => Sim.standAt ?_
  cases ht : mtag a m σ₁ with
  | none => rw [bind_bad (by unfold askS; rw [ht])]; exact trivial
  | some t =>
    rw [bind_ok (a := t) (σ' := σ₁) (by unfold askS; rw [ht])]
    obtain ⟨hm, hT, hd⟩ := mtag_is (s := { s with heap := H₁, toks := tk₁ }) i₁ r₁ ht
    subst hm
    cases h4 : evs C es ns loc σ₁ with
    | bad => rw [bind_bad h4]; exact trivial
    | exc _ _ => rw [bind_exc h4]; exact trivial
    | ok l σ₂ =>
      have hst : ∀ e ∈ es, ∀ v p, e ≠ .Starred v p := fun e he v p heq => by
        obtain ⟨_, rfl, hn⟩ := evs_star (C := C) (ns := ns) (loc := loc) ⟨e, he, v, p, heq⟩ σ₁
        exact hn _ _ h4
      have hform : methodCallForm (es.length + ([] : List Keyword).length) (backTo pos (starEach es env)) (backToKw pos (keywordEach [] env)) = true := by
        show ((backTo pos (starEach es env)).all (fun x => !x.1) && true && decide (es.length + 0 + 0 < 30)) = true
        rw [(noStar hst).2]; simpa using h2
      have hpos : methodCallPos true o env ap pos = pure pos := by
        unfold methodCallPos
        rw [if_pos (by simp [h1])]
      refine Sim.wrap (t := callWith pos (.builtin t.id) [va] (backTo pos (starEach es env)) []) (fun Q E h => ?_) ?_
      · unfold methodCall
        rw [hform]
        refine wpAny_bind (wpAny_holding (getMethod_builtin hT t.attrs t.slot t.type hd ?_))
        exact wpAny_bind (wpAny_of_eq hpos h)
      · exact Sim.args hes hA (F.ext0 x₁) i₁ (fun Q E hst h => cw_builtin hst h) fun l σ₁ ρ₁ H tk vs i₁ x₁ r => Sim.runM hA.u i₁ (r₁.ext x₁) r
end

end Mine

namespace Mine
open PySem PyProof.Rows

/-! ## walks -/
/-- all but some addresses stay -/
noncomputable def KeepBut (wr : List Addr) (h h' : Heap) : Prop := ∀ b o, b ∉ wr → h.get? b = some o → h'.get? b = some o

section
variable {prog : Program} {w : World} {h₀ hb : Heap} {A : Around} {W wr : List Addr} {ρ ρ' ρb : Map} {h h' : Heap} {s : Shared} {σ : Store}

theorem KeepBut.refl : KeepBut wr h h := fun _ _ _ e => e
theorem KeepBut.trans {h'' : Heap} (x : KeepBut wr h h') (y : KeepBut wr h' h'') : KeepBut wr h h'' := fun b o hb e => y b o hb (x b o hb e)
theorem KeepBut.of_but {a : Addr} (x : Heap.ExtBut a h h') (ha : a ∈ wr) : KeepBut wr h h' := fun b o hb e => x b o (fun eq => hb (eq ▸ ha)) e

theorem Ext.but (x : Ext W ρb hb ρ h) (hk : KeepBut wr h h') (hd : ∀ b ∈ wr, hb.get? b = none) : Ext W ρb hb ρ h' := by
  have out : ∀ b o, hb.get? b = some o → b ∉ wr := fun b o e hm => by rw [hd b hm] at e; cases e
  exact {
    pre := x.pre
    keep := fun b o e hW hρ => hk b o (out b o e) (x.keep b o e hW hρ)
    tups := fun b vs n e => hk b _ (out b _ e) (x.tups b vs n e)
    alive := fun b o e => let ⟨o', e'⟩ := x.alive b o e; ⟨o', hk b o' (out b o e) e'⟩
    new := x.new }

/-- the walker's own objects: off the store, and no tuples -/
noncomputable def Own (wr : List Addr) (ρ : Map) (h : Heap) : Prop := ∀ b ∈ wr, offMap ρ b ∧ ∃ o, h.get? b = some o ∧ ∀ vs n, o ≠ tupO vs n

theorem KeepBut.sub (hk : KeepBut wr h h') (ho : Own wr ρ h) : Sub ρ h ρ h' := ⟨fun _ _ e => e, fun b vs n e => hk b _ (fun hm => by
  obtain ⟨_, o, e', hn⟩ := ho b hm
  rw [e] at e'; cases e'; exact hn vs n rfl) e⟩

theorem Inv.but (i : Inv prog w h₀ σ ρ h) (hk : KeepBut wr h h') (ho : Own wr ρ h) (h0 : ∀ b ∈ wr, h₀.get? b = none) : Inv prog w h₀ σ ρ h' where
  base := fun b o e => hk b o (fun hm => by rw [h0 b hm] at e; cases e) (i.base b o e)
  len := i.len
  objs := fun n o p e1 e2 => (i.objs n o p e1 e2).sub (hk.sub ho) (fun ob g => hk _ _ (fun hm => ((ho _ hm).1 p (List.mem_of_getElem? e2)).1 rfl) g) (fun ob g => hk _ _ (fun hm => ((ho _ hm).1 p (List.mem_of_getElem? e2)).2 rfl) g)
  fresh := i.fresh
  apart := i.apart

/-- a frame off the walker's objects stays -/
theorem Frm.but {env : Env} {ns : Names} {loc : Loc} (F : Frm env ns loc ρ h) (hk : KeepBut wr h h') (ho : Own wr ρ h) (hf : ∀ b ∈ wr, offFrame env b) : Frm env ns loc ρ h' := by
  have hloc : env.locals ∉ wr := fun hm => (hf _ hm).1 rfl
  have hcell : ∀ x c, env.cells.lookup x = some c → c ∉ wr := fun x c e hm => (hf _ hm).2 x c e rfl
  have hs := hk.sub ho
  exact {
    names := F.names
    kind := F.kind
    globals := F.globals
    blts := F.blts
    vars := by
      obtain ⟨m, hn, hv⟩ := F.vars
      obtain ⟨o, es, ep, ho, r⟩ := hn
      refine ⟨m, ⟨o, es, ep, hk _ _ hloc ho, r⟩, fun y i v h1 h2 => ?_⟩
      obtain ⟨val, e, hr⟩ := hv y i v h1 h2
      exact ⟨val, e, hr.sub hs⟩
    cell := fun y i h1 => by
      obtain ⟨c, o, e, ⟨ob, hob, hd⟩, hv⟩ := F.cell y i h1
      refine ⟨c, o, e, ⟨ob, hk _ _ (hcell _ _ e) hob, hd⟩, fun v hl => ?_⟩
      obtain ⟨val, e', hr⟩ := hv v hl
      exact ⟨val, e', hr.sub hs⟩
    live := fun y c e => by
      obtain ⟨o, ob, hob, hd⟩ := F.live y c e
      exact ⟨o, ob, hk _ _ (hcell _ _ e) hob, hd⟩
    offL := F.offL
    offC := F.offC
    apart := F.apart }

/-- a walker at a turn -/
inductive ItAt : Src → Value → List Addr → Nat → Map → Heap → Prop
  | tup {l : List V} {I t : Addr} {vs : List Value} {n i : Nat} {ρ : Map} {h : Heap} : h.IsTupleIter I t i → h.get? t = some (tupO vs n) → RelAll ρ h vs l → offMap ρ I → ItAt (.vals l) (.ref I) [I] i ρ h
  | range {a b : Int} {I : Addr} {i : Nat} {ρ : Map} {h : Heap} : IsRangeIter h I (a + i) (((b - a).toNat : Int) - i) 1 → offMap ρ I → ItAt (.vals (rangeV a b)) (.ref I) [I] i ρ h
  | sign {x : Str} {t : Tok} {I : Addr} {i : Nat} {ρ : Map} {h : Heap} : h.IsStrIter I "str_ascii_iterator" x t i → SOk x → offMap ρ I → ItAt (.vals (chars x)) (.ref I) [I] i ρ h
  | lst {n : Nat} {I l d : Addr} {i : Nat} {ρ : Map} {h : Heap} : h.IsListIter I l i → ρ[n]? = some (l, d) → offMap ρ I → ItAt (.lst n) (.ref I) [I] i ρ h
  | enum {n : Nat} {e I l d : Addr} {i : Nat} {old : Value} {ρ : Map} {h : Heap} : IsEnum h e I i old → h.IsListIter I l i → ρ[n]? = some (l, d) → e ≠ I → offMap ρ e → offMap ρ I → ItAt (.enum n) (.ref e) [e, I] i ρ h

theorem IsTupleIter.keep {I t : Addr} {i : Nat} (x : h.IsTupleIter I t i) (e : ∀ o, h.get? I = some o → h'.get? I = some o) : h'.IsTupleIter I t i := let ⟨o, ho, r⟩ := x; ⟨o, e _ ho, r⟩

theorem ItAt.own {sr : Src} {it : Value} {i : Nat} (x : ItAt sr it wr i ρ h) : Own wr ρ h := by
  cases x with
  | tup hit _ _ off =>
    obtain ⟨o, ho, hc, hd⟩ := hit
    intro b hb
    rw [List.mem_singleton.mp hb]
    exact ⟨off, o, ho, fun vs n e => by rw [e] at hc; exact absurd (Value.type.inj hc) (by decide)⟩
  | range hit off =>
    intro b hb
    rw [List.mem_singleton.mp hb]
    exact ⟨off, _, hit, fun vs n e => absurd (Value.type.inj (congrArg Obj.cls e)) (by decide)⟩
  | sign hit _ off =>
    obtain ⟨o, ho, hc, hd⟩ := hit
    intro b hb
    rw [List.mem_singleton.mp hb]
    exact ⟨off, o, ho, fun vs n e => by rw [e] at hc; exact absurd (Value.type.inj hc) (by decide)⟩
  | lst hit _ off =>
    obtain ⟨o, ho, hc, hd⟩ := hit
    intro b hb
    rw [List.mem_singleton.mp hb]
    exact ⟨off, o, ho, fun vs n e => by rw [e] at hc; exact absurd (Value.type.inj hc) (by decide)⟩
  | enum he hit _ hne offe off =>
    obtain ⟨o, ho, hc, hd⟩ := hit
    intro b hb
    rcases List.mem_cons.mp hb with rfl | hb
    · exact ⟨offe, _, he, fun vs n e => absurd (Value.type.inj (congrArg Obj.cls e)) (by decide)⟩
    · rw [List.mem_singleton.mp hb]
      exact ⟨off, o, ho, fun vs n e => by rw [e] at hc; exact absurd (Value.type.inj hc) (by decide)⟩

theorem ItAt.ext {sr : Src} {it : Value} {i : Nat} (x : Ext W ρ h ρ' h') (hW : ∀ b ∈ wr, b ∉ W) (r : ItAt sr it wr i ρ h) : ItAt sr it wr i ρ' h' := by
  have ho := r.own
  have hk : ∀ b ∈ wr, ∀ o, h.get? b = some o → h'.get? b = some o := fun b hb o e => x.keep b o e (hW b hb) (ho b hb).1
  have hoff : ∀ b ∈ wr, offMap ρ' b := fun b hb => by
    obtain ⟨off, o, e, _⟩ := ho b hb
    exact offMap.ext x e off
  cases r with
  | tup hit g ra off => exact .tup (IsTupleIter.keep hit (hk _ (List.mem_singleton.mpr rfl))) (x.tups _ _ _ g) (ra.ext x) (hoff _ (List.mem_singleton.mpr rfl))
  | range hit off => exact .range (hk _ (List.mem_singleton.mpr rfl) _ hit) (hoff _ (List.mem_singleton.mpr rfl))
  | sign hit hx off => exact .sign (let ⟨o, ho, r⟩ := hit; ⟨o, hk _ (List.mem_singleton.mpr rfl) _ ho, r⟩) hx (hoff _ (List.mem_singleton.mpr rfl))
  | lst hit e off => exact .lst (hit.at (hk _ (List.mem_singleton.mpr rfl))) (x.pre _ _ e) (hoff _ (List.mem_singleton.mpr rfl))
  | enum he hit e hne offe off =>
    exact .enum (hk _ (List.mem_cons_self ..) _ he) (hit.at (hk _ (List.mem_cons_of_mem _ (List.mem_singleton.mpr rfl)))) (x.pre _ _ e) hne (hoff _ (List.mem_cons_self ..)) (hoff _ (List.mem_cons_of_mem _ (List.mem_singleton.mpr rfl)))

theorem letGo_plain {target : Expr} {I : Addr} {v : Value} {o : Obj} {T : String} {Q : Unit → Shared → Prop} {E : Value → Shared → Prop} (ho : s.heap.get? I = some o) (hc : o.cls = .type T)
    (hT : ["enumerate", "zip", "dict_itemiterator", "dict_reverseitemiterator", "odict_iterator", "itertools.zip_longest", "itertools.pairwise"].contains T = false) (h : Q () s) : wpAny (model prog w) A (letOwnedTupleGo target (.ref I) v) Q E s := by
  have key : ∀ f : Expr, (letOwnedTupleGo f (.ref I) v = Pure.pure () ∨ letOwnedTupleGo f (.ref I) v = (match v with
      | .ref a => (load I >>= fun o => match o.cls, o.data with
        | .type n, .fields vs => if (["enumerate", "zip", "dict_itemiterator", "dict_reverseitemiterator", "odict_iterator", "itertools.zip_longest", "itertools.pairwise"].contains n && vs[0]? == some (rawInt a)) = true then
            (rule "for.unpacks-the-owned-tuple" >>= fun _ => updateField I 0 .none) else Pure.pure ()
        | _, _ => Pure.pure ())
      | _ => Pure.pure ())) := by
    intro f
    cases f <;> first | exact .inl rfl | (right; cases v <;> rfl)
  rcases key target with e | e
  · rw [e]; exact wpAny_pure h
  · rw [e]
    cases v with
    | ref a =>
      refine wpAny_bind (wpAny_load ho ?_)
      rw [hc]
      cases o.data with
      | fields vs =>
        show wpAny _ _ (if (["enumerate", "zip", "dict_itemiterator", "dict_reverseitemiterator", "odict_iterator", "itertools.zip_longest", "itertools.pairwise"].contains T && _) = true then _ else _) _ _ _
        rw [hT]
        exact wpAny_pure h
      | _ => exact wpAny_pure h
    | _ => exact wpAny_pure h

theorem rangeV_get (a b : Int) (i : Nat) : (rangeV a b)[i]? = if i < (b - a).toNat then some (.int (a + i)) else none := by
  unfold rangeV
  rw [List.getElem?_map]
  by_cases h : i < (b - a).toNat
  · rw [if_pos h, List.getElem?_range h]; rfl
  · rw [if_neg h, List.getElem?_eq_none (by simpa using h)]; rfl

theorem listAt_some {n : Nat} {o : Option (Option V)} {f : List V → Option V} {r : Option V} (h : (listAt σ n).map f = some r) : ∃ l, σ[n]? = some (.list l) ∧ f l = r := by
  unfold listAt at h
  cases e : σ[n]? with
  | none => rw [e] at h; cases h
  | some ob =>
    rw [e] at h
    cases ob with
    | list l => exact ⟨l, rfl, Option.some.inj h⟩
    | dict _ => cases h
    | inst _ _ => cases h

/-- a turn of a walk -/
theorem ItAt.next {sr : Src} {it : Value} {i : Nat} {o : Option V} {target : Expr} {Q : Option Value → Shared → Prop} {E : Value → Shared → Prop} (hA : A.handled = none) (x : ItAt sr it wr i ρ s.heap) (iv : Inv prog w h₀ σ ρ s.heap) (e : sr.at σ i = some o)
    (htg : tgtOk sr target = true)
    (h1 : ∀ h', o = none → KeepBut wr s.heap h' → Q none { s with heap := h' })
    (h2 : ∀ v val h' tk, o = some v → KeepBut wr s.heap h' →
      (∀ (Q' : Unit → Shared → Prop) (E' : Value → Shared → Prop), (∀ h'', KeepBut wr s.heap h'' → Rel ρ h'' val v → ItAt sr it wr (i + 1) ρ h'' → Q' () { s with heap := h'', toks := tk }) →
        wpAny (model prog w) A (letOwnedTupleGo target it val) Q' E' { s with heap := h', toks := tk }) → Q (some val) { s with heap := h', toks := tk }) :
    wpAny (model prog w) A (pyNext it) Q E s := by
  have own := x.own
  cases x with
  | @tup l I t vs n _ _ _ hit g ra off =>
    cases e
    have hne : t ≠ I := fun eq => by
      obtain ⟨o, ho, hc, _⟩ := hit
      rw [← eq, g] at ho; cases ho; exact absurd (Value.type.inj hc) (by decide)
    cases hl : l[i]? with
    | none =>
      exact wpAny_pyNext_tuple_end hA hit (isTuple_of g) (by simpa using ra.get_none hl) fun h' hx => h1 h' hl (KeepBut.of_but hx (List.mem_singleton.mpr rfl))
    | some v =>
      obtain ⟨val, hv, r⟩ := ra.get hl
      refine wpAny_pyNext_tuple_item hit (isTuple_of g) (x := val) (by simpa using hv) fun h' hit' hx => ?_
      have hk := KeepBut.of_but (wr := [I]) hx.extBut (List.mem_singleton.mpr rfl)
      have hs := hk.sub own
      refine h2 v val h' s.toks hl hk fun Q' E' hq => ?_
      obtain ⟨ob, hob, hc, _⟩ := id hit'
      exact letGo_plain (s := { s with heap := h' }) hob hc (by decide) (hq h' hk (r.sub hs) (.tup hit' (hs.2 _ _ _ g) (ra.sub hs) off))
  | @range a b I _ _ _ hit off =>
    cases e
    rw [rangeV_get] at h1 h2
    by_cases hlt : i < (b - a).toNat
    · rw [if_pos hlt] at h2
      refine wpAny_pyNext_range_item hit (by omega) fun h' hit' hx => ?_
      have hk := KeepBut.of_but (wr := [I]) hx.extBut (List.mem_singleton.mpr rfl)
      refine h2 _ _ h' (s.toks + 1) rfl hk fun Q' E' hq => ?_
      refine letGo_plain (s := { s with heap := h', toks := s.toks + 1 }) hit' rfl (by decide) (hq h' hk (.int _ _) (.range ?_ off))
      have e1 : a + (i : Int) + 1 = a + ((i + 1 : Nat) : Int) := by omega
      have e2 : ((b - a).toNat : Int) - (i : Int) - 1 = ((b - a).toNat : Int) - ((i + 1 : Nat) : Int) := by omega
      rw [e1, e2] at hit'; exact hit'
    · rw [if_neg hlt] at h1
      exact wpAny_pyNext_range_end hA hit (by omega) fun h' hx => h1 h' rfl (KeepBut.of_but hx (List.mem_singleton.mpr rfl))
  | @sign y t I _ _ _ hit hy off =>
    cases e
    have hch : (chars y)[i]? = (y.cps[i]?).map fun c => V.str (chr1 c) := by
      unfold chars
      rw [List.getElem?_map, Array.getElem?_toList]
    rw [hch] at h1 h2
    cases hc : y.cps[i]? with
    | none =>
      rw [hc] at h1
      exact wpAny_pyNext_ascii_end hA hit hc fun h' hx => h1 h' rfl (KeepBut.of_but hx (List.mem_singleton.mpr rfl))
    | some c =>
      rw [hc] at h2
      refine wpAny_pyNext_ascii_item hit hc fun h' hit' hx => ?_
      have hk := KeepBut.of_but (wr := [I]) hx.extBut (List.mem_singleton.mpr rfl)
      refine h2 _ _ h' (s.toks + 1) rfl hk fun Q' E' hq => ?_
      obtain ⟨ob, hob, hcl, _⟩ := id hit'
      refine letGo_plain (s := { s with heap := h', toks := s.toks + 1 }) hob hcl (by decide) (hq h' hk (.str _ _ ⟨show 1 ≤ sizeLine by decide, ?_⟩) (.sign hit' hy off))
      have h4 := hy.2
      unfold PyData.strOk at h4 ⊢
      rw [Array.all_eq_true] at h4
      have hlt : i < y.cps.size := by
        rcases Nat.lt_or_ge i y.cps.size with h | h
        · exact h
        · rw [Array.getElem?_eq_none h] at hc; cases hc
      have := h4 i hlt
      rw [Array.getElem?_eq_getElem hlt] at hc
      cases hc
      simpa [chr1] using this
  | @lst n I l d _ _ _ hit er off =>
    obtain ⟨m, hσ, rfl⟩ := listAt_some (o := some o) e
    obtain ⟨rfl, vs, k, g, hl, ra⟩ := iv.list hσ er
    cases hm : m[i]? with
    | none =>
      exact wpAny_pyNext_list_end hA hit (isList_of g) (by simpa using ra.get_none hm) fun h' hx => h1 h' hm (KeepBut.of_but hx (List.mem_singleton.mpr rfl))
    | some v =>
      obtain ⟨val, hv, r⟩ := ra.get hm
      refine wpAny_pyNext_list_item hit (isList_of g) (x := val) (by simpa using hv) fun h' hit' hx => ?_
      have hk := KeepBut.of_but (wr := [I]) hx.extBut (List.mem_singleton.mpr rfl)
      have hs := hk.sub own
      refine h2 v val h' s.toks hm hk fun Q' E' hq => ?_
      obtain ⟨ob, hob, hc, _⟩ := id hit'
      exact letGo_plain (s := { s with heap := h' }) hob hc (by decide) (hq h' hk (r.sub hs) (.lst hit' er off))
  | @enum n ea I l d _ old _ _ he hit er hne offe off =>
    obtain ⟨m, hσ, rfl⟩ := listAt_some (o := some o) e
    obtain ⟨rfl, vs, k, g, hl, ra⟩ := iv.list hσ er
    cases hm : m[i]? with
    | none =>
      rw [hm] at h1
      exact wpAny_pyNext_enum_end hA he hit (isList_of g) (by simpa using ra.get_none hm) fun h' hx => h1 h' rfl (KeepBut.of_but hx (List.mem_cons_of_mem _ (List.mem_singleton.mpr rfl)))
    | some v =>
      rw [hm] at h2
      obtain ⟨val, hv, r⟩ := ra.get hm
      refine wpAny_pyNext_enum_item he hit (isList_of g) (x := val) (by simpa using hv) hne fun h' he' hit' ht hsz hx => ?_
      have hk : KeepBut [ea, I] s.heap h' := fun b o hb e => hx b o (fun eq => hb (eq ▸ List.mem_cons_self ..)) (fun eq => hb (eq ▸ List.mem_cons_of_mem _ (List.mem_singleton.mpr rfl))) e
      have hs := hk.sub own
      refine h2 _ (.ref s.heap.objs.size) h' (s.toks + 1) rfl hk fun Q' E' hq => ?_
      cases target with
      | Tuple elts x1 pos =>
        refine wpAny_letOwnedTupleGo_enum (s := { s with heap := h', toks := s.toks + 1 }) he' fun h'' he'' hb => ?_
        have hne1 : s.heap.objs.size ≠ ea := fun eq => by
          have := Heap.lt_size he; rw [eq] at this; exact Nat.lt_irrefl _ this
        have hk2 : KeepBut [ea, I] h' h'' := KeepBut.of_but hb.extBut (List.mem_cons_self ..)
        have hs2 : Sub ρ h' ρ h'' := ⟨fun _ _ e => e, fun b ws n' e' => hb.extBut b _ (fun eq => by rw [eq, he'] at e'; exact absurd (Value.type.inj (congrArg Obj.cls (Option.some.inj e'))) (by decide)) e'⟩
        refine hq h'' (hk.trans hk2) (.tup (n := 0) (hb.extBut _ _ hne1 ht) (by show (2 : Nat) ≤ sizeLine; decide) (.cons (.int _ _) (.cons ((r.sub hs).sub hs2) .nil))) (.enum he'' (hit'.at fun o e => hb.extBut _ _ hne.symm e) er hne offe off)
      | _ => cases htg

/-! what is walked, ahead of its walker -/
noncomputable def RSrc (hb : Heap) : Src → Map → Heap → Value → Prop
  | .vals l, ρ, h, v => (∃ t vs n, v = .ref t ∧ h.get? t = some (tupO vs n) ∧ RelAll ρ h vs l) ∨
      (∃ x t, v = .str x t ∧ SOk x ∧ x.cps.all (· < 128) = true ∧ l = chars x) ∨
      ∃ r a b t u w, v = .ref r ∧ IsRange h r a b 1 t u w ∧ Builtin.Range.small a b 1 = true ∧ l = rangeV a b
  | .lst n, ρ, h, v => ∃ a d vs k, v = .ref a ∧ ρ[n]? = some (a, d) ∧ h.get? a = some (listO vs k)
  | .enum n, ρ, h, v => ∃ e I, v = .ref e ∧ ItAt (.enum n) (.ref e) [e, I] 0 ρ h ∧ hb.get? e = none ∧ hb.get? I = none

theorem size_dead {h h' : Heap} (hk : ∀ b o, h.get? b = some o → ∃ o', h'.get? b = some o') : h.get? h'.objs.size = none := by
  cases e : h.get? h'.objs.size with
  | none => rfl
  | some o => obtain ⟨o', e'⟩ := hk _ _ e; exact absurd (Heap.lt_size e') (Nat.lt_irrefl _)

/-- a walk begins -/
theorem RSrc.iter {sr : Src} {v : Value} {Q : Value → Shared → Prop} {E : Value → Shared → Prop} (iv : Inv prog w h₀ σ ρ s.heap) (x : Ext W ρb hb ρ s.heap) (r : RSrc hb sr ρ s.heap v)
    (h : ∀ it wr h', (∀ b o, s.heap.get? b = some o → h'.get? b = some o) → ItAt sr it wr 0 ρ h' → (∀ b ∈ wr, hb.get? b = none) → Q it { s with heap := h' }) : wpAny (model prog w) A (pyIter v) Q E s := by
  have hd := size_dead x.alive
  have off := iv.off_size
  have hnew : ∀ ob b o, s.heap.get? b = some o → (s.heap.push ob).get? b = some o := fun ob b o e => Heap.get?_push_of_some _ e
  cases sr with
  | vals l =>
    rcases r with ⟨t, vs, n, rfl, g, ra⟩ | ⟨y, t, rfl, hy, ha, rfl⟩ | ⟨r, a, b, t, u, w, rfl, hr, hsm, rfl⟩
    · refine wpAny_pyIter_tuple (isTuple_of g) (h _ [s.heap.objs.size] _ (hnew _) (.tup ⟨_, Heap.get?_push_size _ rfl, rfl, rfl⟩ (hnew _ _ _ g) (ra.sub (Sub.keeps (hnew _))) off) fun b hb => by rw [List.mem_singleton.mp hb]; exact hd)
    · exact wpAny_pyIter_ascii ha (h _ [s.heap.objs.size] _ (hnew _) (.sign ⟨_, Heap.get?_push_size _ rfl, rfl, rfl⟩ hy off) fun b hb => by rw [List.mem_singleton.mp hb]; exact hd)
    · refine wpAny_pyIter_range hr hsm (h _ [s.heap.objs.size] _ (hnew _) (.range ?_ off) fun b hb => by rw [List.mem_singleton.mp hb]; exact hd)
      have e : Builtin.Range.rangeSize a b 1 = ((b - a).toNat : Int) - ((0 : Nat) : Int) := by rw [rangeSize_one]; split <;> omega
      have e2 : a + ((0 : Nat) : Int) = a := by omega
      rw [← e, e2]
      exact Heap.get?_push_size _ rfl
  | lst n =>
    obtain ⟨a, d, vs, k, rfl, er, g⟩ := r
    exact wpAny_pyIter_list (isList_of g) (h _ [s.heap.objs.size] _ (hnew _) (.lst ⟨_, Heap.get?_push_size _ rfl, rfl, rfl⟩ er off) fun b hb => by rw [List.mem_singleton.mp hb]; exact hd)
  | enum n =>
    obtain ⟨e, I, rfl, hi, d1, d2⟩ := r
    have hi' := hi
    cases hi with
    | enum he hit er hne offe off' =>
      refine wpAny_pyIter_enum he (h _ [e, I] s.heap (fun _ _ e => e) hi' fun b hb => ?_)
      rcases List.mem_cons.mp hb with rfl | hb
      · exact d1
      · rw [List.mem_singleton.mp hb]; exact d2

/-- a walker is its own walker -/
theorem ItAt.self {sr : Src} {it : Value} {i : Nat} {Q : Value → Shared → Prop} {E : Value → Shared → Prop} (x : ItAt sr it wr i ρ s.heap) (h : Q it s) : wpAny (model prog w) A (pyIter it) Q E s := by
  cases x with
  | tup hit _ _ _ => exact wpAny_pyIter_tupleiter hit h
  | range hit _ => exact wpAny_pyIter_rangeiter hit h
  | sign hit _ _ => exact wpAny_pyIter_striter_ascii hit h
  | lst hit _ _ => exact wpAny_pyIter_listiter hit h
  | enum he _ _ _ _ _ => exact wpAny_pyIter_enum he h
end
end Mine

namespace Mine
open PySem PyProof.Rows

section
variable {prog : Program} {w : World} {h₀ hb : Heap} {A : Around} {W wr : List Addr} {ρ ρ' ρb : Map} {s : Shared} {σ : Store} {fns : Str → Option Fn} {glob : Str → Option V} {mg mb : Str → Option Value}
variable {env : Env} {ns : Names} {loc : Loc} {C : Cfg} {n : Nat}

noncomputable def RFrm (env : Env) (ns : Names) : Loc → Map → Heap → Unit → Prop := fun loc ρ h _ => Frm env ns loc ρ h

theorem get_set_some {α : Type} {l : List α} {i j : Nat} {a b : α} (h : (l.set i a)[j]? = some b) : (i = j ∧ b = a) ∨ (i ≠ j ∧ l[j]? = some b) := by
  by_cases hij : i = j
  · subst hij
    left
    rcases Nat.lt_or_ge i l.length with hl | hl
    · rw [List.getElem?_set_self hl] at h; cases h; exact ⟨rfl, rfl⟩
    · rw [List.getElem?_eq_none (by simpa using hl)] at h; cases h
  · rw [List.getElem?_set_ne hij] at h; exact .inr ⟨hij, h⟩

theorem ns_not_tup {h : Heap} {a : Addr} {m : Str → Option Value} (hn : h.Ns a m) {o : Obj} (e : h.get? a = some o) : ∀ vs n, o ≠ tupO vs n := by
  obtain ⟨o', es, ep, ho, hd, r⟩ := hn
  rw [e] at ho; cases ho
  intro vs n e; rw [e] at hd; cases hd
theorem cell_not_tup {h : Heap} {a : Addr} {v : Option Value} (hn : h.IsCell a v) {o : Obj} (e : h.get? a = some o) : ∀ vs n, o ≠ tupO vs n := by
  obtain ⟨o', ho, hd⟩ := hn
  rw [e] at ho; cases ho
  intro vs n e; rw [e] at hd; cases hd

theorem function_not_class (F : Frm env ns loc ρ s.heap) : (env.scope.kind == .class || (env.scope.kind == .module && env.locals != env.globals)) = false := by rw [F.kind]; rfl

/-- a plain local is stored -/
theorem Sim.storeLocal {x : Str} {i : Nat} {v : Value} {a : V} (F : Frm env ns loc ρ s.heap) (iv : Inv prog w h₀ σ ρ s.heap) (hf : h₀.get? env.locals = none) (hs : slot ns x = some (i, .local)) (r : Rel ρ s.heap v a) :
    Sim prog w h₀ A [env.locals] (storeName env x v) (.ok (loc.set i (some a)) σ) (RFrm env ns) ρ s := by
  obtain ⟨m, hn, hv⟩ := F.vars
  refine wpAny_storeName_local (F.kindOf hs) hn (fun h' hn' hsb => ?_) (function_not_class F)
  have hk : ∀ b o, s.heap.get? b = some o → b ∉ [env.locals] → h'.get? b = some o := fun b o e hb => hsb.extBut b o (fun eq => hb (List.mem_singleton.mpr eq)) e
  have hx : Ext [env.locals] ρ s.heap ρ h' := Ext.of_keep hk fun b o e hm => by
    rw [List.mem_singleton.mp hm] at e ⊢
    obtain ⟨o', _, _, e', _⟩ := hn'
    exact ⟨ns_not_tup hn e, o', e'⟩
  refine ⟨ρ, h', s.toks + 1, rfl, iv.keep hx (fun b hm => by rw [List.mem_singleton.mp hm]; exact ⟨F.offL, hf⟩) hk, hx, ?_⟩
  exact {
    names := F.names
    kind := F.kind
    globals := F.globals
    blts := F.blts
    vars := by
      refine ⟨_, hn', fun y j u h1 h2 => ?_⟩
      rcases get_set_some h2 with ⟨rfl, e⟩ | ⟨hne, h2⟩
      · cases e
        rw [slot_inj h1 hs]
        exact ⟨v, if_pos rfl, r.ext hx⟩
      · obtain ⟨val, e, hr⟩ := hv y j u h1 h2
        refine ⟨val, ?_, hr.ext hx⟩
        rw [if_neg (fun eq => by rw [eq, hs] at h1; cases h1; exact hne rfl)]; exact e
    cell := fun y j h1 => by
      obtain ⟨c, o, e, ⟨ob, hob, hd⟩, hv⟩ := F.cell y j h1
      refine ⟨c, o, e, ⟨ob, hk _ _ hob (fun hm => (F.offC y c e).1 (List.mem_singleton.mp hm)), hd⟩, fun u h2 => ?_⟩
      rcases get_set_some h2 with ⟨rfl, _⟩ | ⟨hne, h2⟩
      · rw [slot_inj h1 hs, hs] at h1; cases h1
      · obtain ⟨val, e', hr⟩ := hv u h2
        exact ⟨val, e', hr.ext hx⟩
    live := fun y c e => by
      obtain ⟨o, ob, hob, hd⟩ := F.live y c e
      exact ⟨o, ob, hk _ _ hob (fun hm => (F.offC y c e).1 (List.mem_singleton.mp hm)), hd⟩
    offL := F.offL
    offC := F.offC
    apart := F.apart }

/-- a cell is stored -/
theorem Sim.storeCell {x : Str} {i : Nat} {v : Value} {a : V} (F : Frm env ns loc ρ s.heap) (iv : Inv prog w h₀ σ ρ s.heap) (hf : ∀ b ∈ frameW env, h₀.get? b = none) (hs : slot ns x = some (i, .cell)) (r : Rel ρ s.heap v a) :
    Sim prog w h₀ A (frameW env) (storeName env x v) (.ok (loc.set i (some a)) σ) (RFrm env ns) ρ s := by
  obtain ⟨c, o₀, hc, hcell, hv₀⟩ := F.cell x i hs
  have hcW : c ∈ frameW env := frameW_cell (k := .cell) (by rw [F.names]; exact mem_of_lookup (slot_lookup hs)) hc
  refine wpAny_storeName_cell F.kind (F.kindOf hs) hc hcell fun h' hn' hsb => ?_
  have hk : ∀ b o, s.heap.get? b = some o → b ∉ [c] → h'.get? b = some o := fun b o e hb => hsb.extBut b o (fun eq => hb (List.mem_singleton.mpr eq)) e
  have hx : Ext [c] ρ s.heap ρ h' := Ext.of_keep hk fun b o e hm => by
    rw [List.mem_singleton.mp hm] at e ⊢
    obtain ⟨o', e', _⟩ := hn'
    exact ⟨cell_not_tup hcell e, o', e'⟩
  refine ⟨ρ, h', s.toks, rfl, iv.keep hx (fun b hm => by rw [List.mem_singleton.mp hm]; exact ⟨(F.offC x c hc).2, hf c hcW⟩) hk, hx.weak fun b hm => .inl (by rw [List.mem_singleton.mp hm]; exact hcW), ?_⟩
  exact {
    names := F.names
    kind := F.kind
    globals := F.globals
    blts := F.blts
    vars := by
      obtain ⟨m, ⟨o, es, ep, ho, rr⟩, hv⟩ := F.vars
      refine ⟨m, ⟨o, es, ep, hk _ _ ho (fun hm => (F.offC x c hc).1 (List.mem_singleton.mp hm).symm), rr⟩, fun y j u h1 h2 => ?_⟩
      rcases get_set_some h2 with ⟨rfl, _⟩ | ⟨hne, h2⟩
      · rw [slot_inj h1 hs, hs] at h1; cases h1
      · obtain ⟨val, e, hr⟩ := hv y j u h1 h2
        exact ⟨val, e, hr.ext hx⟩
    cell := fun y j h1 => by
      obtain ⟨d, o, e, ⟨ob, hob, hd⟩, hv⟩ := F.cell y j h1
      by_cases hdc : d = c
      · subst hdc
        have hyx := F.apart y x d e hc
        subst hyx
        rw [hs] at h1; cases h1
        refine ⟨d, some v, e, hn', fun u h2 => ?_⟩
        rcases get_set_some h2 with ⟨_, e⟩ | ⟨hne, h2⟩
        · cases e; exact ⟨v, rfl, r.ext hx⟩
        · exact absurd rfl hne
      · refine ⟨d, o, e, ⟨ob, hk _ _ hob (fun hm => hdc (List.mem_singleton.mp hm)), hd⟩, fun u h2 => ?_⟩
        rcases get_set_some h2 with ⟨rfl, _⟩ | ⟨hne, h2⟩
        · rw [slot_inj h1 hs, hc] at e; cases e; exact absurd rfl hdc
        · obtain ⟨val, e', hr⟩ := hv u h2
          exact ⟨val, e', hr.ext hx⟩
    live := fun y d e => by
      obtain ⟨o, ob, hob, hd⟩ := F.live y d e
      by_cases hdc : d = c
      · subst hdc; exact ⟨_, hn'⟩
      · exact ⟨o, ob, hk _ _ hob (fun hm => hdc (List.mem_singleton.mp hm)), hd⟩
    offL := F.offL
    offC := F.offC
    apart := F.apart }

/-- a way to store a name -/
structure StS (prog : Program) (w : World) (h₀ : Heap) (env : Env) (ns : Names) (W : List Addr) (st : Str → V → Loc → M Loc) : Prop where
  store : ∀ (x : Str) (v : Value) (a : V) (loc : Loc) (σ : Store) (ρ : Map) (s : Shared) (A : Around), Frm env ns loc ρ s.heap → Inv prog w h₀ σ ρ s.heap → Rel ρ s.heap v a → Sim prog w h₀ A W (storeName env x v) (st x a loc σ) (RFrm env ns) ρ s

theorem stLocL_ok (hf : h₀.get? env.locals = none) : StS prog w h₀ env ns [env.locals] (stLocL ns) where
  store := fun x v a loc σ ρ s A F iv r => by
    unfold stLocL
    cases hs : slot ns x with
    | none => exact trivial
    | some p =>
      obtain ⟨i, k⟩ := p
      cases k <;> first | exact trivial | exact Sim.storeLocal F iv hf hs r
theorem stLoc_ok (hf : ∀ b ∈ frameW env, h₀.get? b = none) : StS prog w h₀ env ns (frameW env) (stLoc ns) where
  store := fun x v a loc σ ρ s A F iv r => by
    unfold stLoc
    cases hs : slot ns x with
    | none => exact trivial
    | some p =>
      obtain ⟨i, k⟩ := p
      cases k <;> first
        | exact trivial
        | exact Sim.storeCell F iv hf hs r
        | exact (Sim.storeLocal F iv (hf _ (List.mem_cons_self ..)) hs r).weak fun b hm => .inl (by rw [List.mem_singleton.mp hm]; exact List.mem_cons_self ..)

theorem Sim.bindName {x : Str} {v : Value} {r : Res Loc} {R : Loc → Map → Heap → Unit → Prop} (h : Sim prog w h₀ A W (storeName env x v) r R ρ s) : Sim prog w h₀ A W (PySem.bindName env x v) r R ρ s :=
  Sim.wrap (fun _ _ => wpAny_bindName) h

theorem assignEach_name {x : Str} {p : Pos} {r : List Expr} : assignEach (.Name x p :: r) env = (false, assign (.Name x p) env) :: assignEach r env := rfl

/-- names in a row -/
theorem bindNames_ok {st : Str → V → Loc → M Loc} (S : StS prog w h₀ env ns W st) : ∀ (ts : List Expr) (vs : List Value) (l : List V) (loc : Loc) (σ : Store) (ρ : Map) (s : Shared), Frm env ns loc ρ s.heap → Inv prog w h₀ σ ρ s.heap → RelAll ρ s.heap vs l →
    Sim prog w h₀ A W (assignInOrder ((assignEach ts env).map (·.2)) vs) (bindNames st ts l loc σ) (RFrm env ns) ρ s
  | [], vs, l, loc, σ, ρ, s, F, iv, r => by
    cases l with
    | nil => cases r; exact Sim.ret iv F
    | cons a l => exact trivial
  | t :: ts, vs, l, loc, σ, ρ, s, F, iv, r => by
    cases t with
    | Name x p =>
      cases r with
      | nil => exact trivial
      | cons r rs =>
        rename_i v vs a l
        rw [assignEach_name]
        show Sim prog w h₀ A W (PySem.holding vs (assign (.Name x p) env v) >>= fun _ => assignInOrder ((assignEach ts env).map (·.2)) vs) ((st x a loc >>= fun loc' => bindNames st ts l loc') σ) (RFrm env ns) ρ s
        refine Sim.bind (R := RFrm env ns) (Sim.holding ?_) fun loc₁ σ₁ ρ₁ H tk _ i₁ x₁ F₁ => bindNames_ok S ts vs l loc₁ σ₁ ρ₁ _ F₁ i₁ (rs.ext x₁)
        rw [arm_assign_Name]
        exact Sim.standAt (Sim.bindName (S.store x v a loc σ ρ s A F iv r))
    | _ => cases l <;> exact trivial

theorem bindNames_len {st : Str → V → Loc → M Loc} : ∀ {ts : List Expr} {l : List V} {loc loc' : Loc} {σ σ' : Store}, bindNames st ts l loc σ = .ok loc' σ' → ts.length = l.length ∧ (assignEach ts env).findIdx? (·.1) = none ∧ (assignEach ts env).length = ts.length
  | [], [], _, _, _, _, _ => ⟨rfl, rfl, rfl⟩
  | [], _ :: _, _, _, _, _, h => by cases h
  | .Name x p :: ts, v :: vs, loc, loc', σ, σ', h => by
    change (st x v loc >>= fun loc' => bindNames st ts vs loc') σ = .ok loc' σ' at h
    cases e : st x v loc σ with
    | bad => rw [bind_bad e] at h; cases h
    | exc _ _ => rw [bind_exc e] at h; cases h
    | ok l₁ σ₁ =>
      rw [bind_ok e] at h
      obtain ⟨h1, h2, h3⟩ := bindNames_len h
      refine ⟨by simp [h1], ?_, ?_⟩
      · rw [assignEach_name, List.findIdx?_cons, h2]; rfl
      · rw [assignEach_name]; simp [h3]
  | t :: ts, [], _, _, _, _, h => by cases t <;> cases h

/-- a target is bound -/
theorem Sim.bindTo {st : Str → V → Loc → M Loc} (S : StS prog w h₀ env ns W st) {t : Expr} {v : Value} {a : V} (hA : A.handled = none) (F : Frm env ns loc ρ s.heap) (iv : Inv prog w h₀ σ ρ s.heap) (r : Rel ρ s.heap v a) :
    Sim prog w h₀ A W (assign t env v) (bindTo st t a loc σ) (RFrm env ns) ρ s := by
  cases t with
  | Name x p =>
    rw [arm_assign_Name]
    exact Sim.standAt (Sim.bindName (S.store x v a loc σ ρ s A F iv r))
  | Tuple ts k p =>
    cases r with
    | tup g hl ra =>
      rename_i ta vs nn l
      show Sim prog w h₀ A W _ (bindNames st ts l loc σ) (RFrm env ns) ρ s
      rw [arm_assign_Tuple]
      refine Sim.standAt ?_
      cases hb : bindNames st ts l loc σ with
      | bad => exact trivial
      | exc _ _ => exact trivial
      | ok loc₁ σ₁ =>
        obtain ⟨h1, h2, h3⟩ := bindNames_len (env := env) hb
        have hlen : (assignEach ts env).length = vs.toArray.size := by rw [h3, h1, List.size_toArray, ra.length]
        unfold unpack
        refine wpAny_bind (wpAny_holding ?_)
        rw [h2, hlen]
        refine wpAny_unpackItems_tuple hA (isTuple_of g) fun h' hx => ?_
        have hk : ∀ b o, s.heap.get? b = some o → h'.get? b = some o := fun b o e => hx b o (Nat.ne_of_lt (Heap.lt_size e)) e
        have hs := bindNames_ok (A := A) S ts vs l loc σ ρ { s with heap := h' } (F.ext0 (Ext.of_keeps hk)) (iv.keeps hk) (ra.sub (Sub.keeps hk))
        rw [hb] at hs
        refine wpAny_mono hs (fun b s' hp => ?_) fun _ _ x => x
        obtain ⟨ρ₁, H, tk, rfl, i₁, x₁, F₁⟩ := hp
        exact ⟨ρ₁, H, tk, rfl, i₁, (Ext.of_keeps hk).trans x₁, F₁⟩
    | _ => exact trivial
  | _ => exact trivial
end
end Mine

namespace Mine
open PySem PyProof.Rows

section
variable {prog : Program} {w : World} {h₀ hb : Heap} {A : Around} {W wr : List Addr} {ρ ρ' ρb : Map} {s : Shared} {σ : Store} {fns : Str → Option Fn} {glob : Str → Option V} {mg mb : Str → Option Value}
variable {env : Env} {ns : Names} {loc : Loc} {C : Cfg} {n : Nat}

/-! ## what is walked -/
variable (prog w h₀ C n) in
noncomputable def SrcS (e : Expr) : Prop := ∀ (env : Env) (ns : Names) (loc : Loc) (σ : Store) (ρ : Map) (s : Shared) (A : Around), Rm A n → Frm env ns loc ρ s.heap → Inv prog w h₀ σ ρ s.heap →
  Sim prog w h₀ A [] (eval e env) (src C e ns loc (ev C e ns loc) σ) (RSrc s.heap) ρ s

/-- a step of the store's side alone -/
theorem Sim.map {α β γ : Type} {t : Sem β} {m : M α} {k : α → M γ} {R : α → Map → Heap → β → Prop} {R' : γ → Map → Heap → β → Prop} (h : Sim prog w h₀ A W t (m σ) R ρ s)
    (hk : ∀ a σ₁ ρ₁ H b c σ₂, Inv prog w h₀ σ₁ ρ₁ H → R a ρ₁ H b → k a σ₁ = .ok c σ₂ → σ₂ = σ₁ ∧ R' c ρ₁ H b) : Sim prog w h₀ A W t ((m >>= k) σ) R' ρ s := by
  cases e : m σ with
  | bad => rw [bind_bad e]; exact trivial
  | exc _ _ => rw [bind_exc e]; exact trivial
  | ok a σ₁ =>
    rw [bind_ok e]
    rw [e] at h
    cases e2 : k a σ₁ with
    | bad => exact trivial
    | exc _ _ => exact trivial
    | ok c σ₂ =>
      refine wpAny_mono h (fun b s' hp => ?_) fun _ _ x => x
      obtain ⟨ρ₁, H, tk, rfl, i, x, r⟩ := hp
      obtain ⟨rfl, r'⟩ := hk a σ₁ ρ₁ H b c σ₂ i r e2
      exact ⟨ρ₁, H, tk, rfl, i, x, r'⟩

theorem getList_ok {k : List V → M α} {m : Nat} {c : α} {σ₂ : Store} (h : (getList m >>= k) σ = .ok c σ₂) : ∃ l, σ[m]? = some (.list l) ∧ k l σ = .ok c σ₂ := by
  cases e : σ[m]? with
  | none => rw [bind_bad (by rw [getList_eq, e])] at h; cases h
  | some o =>
    cases o with
    | list l => rw [bind_ok (by rw [getList_eq, e])] at h; exact ⟨l, rfl, h⟩
    | dict _ => rw [bind_bad (by rw [getList_eq, e])] at h; cases h
    | inst _ _ => rw [bind_bad (by rw [getList_eq, e])] at h; cases h

theorem src_value {e : Expr} (he : EvS prog w h₀ C n e) (hA : Rm A n) (F : Frm env ns loc ρ s.heap) (i : Inv prog w h₀ σ ρ s.heap) :
    Sim prog w h₀ A [] (eval e env) ((ev C e ns loc >>= srcV) σ) (RSrc s.heap) ρ s := by
  refine Sim.map (he env ns loc σ ρ s A hA F i) fun a σ₁ ρ₁ H b c σ₂ i₁ r hk => ?_
  cases r with
  | tup g hl ra => cases hk; exact ⟨rfl, .inl ⟨_, _, _, rfl, g, ra⟩⟩
  | ref er =>
    obtain ⟨l, hσ, hk⟩ := getList_ok hk
    cases hk
    obtain ⟨_, vs, k, g, _, _⟩ := Inv.list (s := { s with heap := H }) i₁ hσ er
    exact ⟨rfl, _, _, vs, k, rfl, er, g⟩
  | str x t hx =>
    have hk : (if x.cps.all (· < 128) = true then (Pure.pure (Src.vals (chars x)) : M Src) else M.bad) σ₁ = .ok c σ₂ := hk
    split at hk
    · rename_i ha
      cases hk
      exact ⟨rfl, .inr (.inl ⟨x, t, rfl, hx, ha, rfl⟩)⟩
    · cases hk
  | none => cases hk
  | bool _ => cases hk
  | int _ _ => cases hk


theorem evs_one {a : Expr} {α : Type} {k : V → M α} : (ev C a ns loc >>= k) = (evs C [a] ns loc >>= fun l => match l with | [v] => k v | _ => M.bad) := by
  show _ = ((ev C a ns loc >>= fun v => (evs C [] ns loc >>= fun vs => pure (v :: vs))) >>= _)
  rw [M.assoc]; rfl

theorem Sim.rangeCall {a : Value} {x : V} (i : Inv prog w h₀ σ ρ s.heap) (ra : Rel ρ s.heap a x) : Sim prog w h₀ A [] (call (.type "range") [a]) (rangeOf x σ) (RSrc hb) ρ s := by
  cases ra with
  | int z t =>
    refine Sim.ite fun hc => ?_
    refine Sim.grown i fun Q E hQ => call_range_1 (hQ _ _ _ (fun c o e => Heap.get?_push_of_some _ e) (.inr (.inr ⟨_, 0, z, _, _, _, rfl, IsRange.new .., ?_, rfl⟩)))
    exact small_one (by decide) (by decide) (by omega) (by omega)
  | _ => exact trivial

theorem Sim.enumCall {a : Value} {x : V} (i : Inv prog w h₀ σ ρ s.heap) (hd : ∀ b o, hb.get? b = some o → ∃ o', s.heap.get? b = some o') (ra : Rel ρ s.heap a x) : Sim prog w h₀ A [] (call (.type "enumerate") [a]) (enumOf x σ) (RSrc hb) ρ s := by
  cases ra with
  | ref er =>
    refine Sim.getList fun l hσ => ?_
    obtain ⟨rfl, vs, k, g, hl, r⟩ := i.list hσ er
    refine Sim.grown i fun Q E hQ => call_enumerate_list (isList_of g) fun h' he hit hsz hk => hQ _ _ s.toks hk ?_
    have off1 := i.off_size
    have dead : hb.get? (s.heap.objs.size + 1) = none := by
      cases e : hb.get? (s.heap.objs.size + 1) with
      | none => rfl
      | some o => obtain ⟨o', e'⟩ := hd _ _ e; exact absurd (Heap.lt_size e') (Nat.not_lt.mpr (Nat.le_succ _))
    refine ⟨_, _, rfl, .enum he hit er (Nat.succ_ne_self _) (fun p hp => ?_) off1, dead, size_dead hd⟩
    obtain ⟨⟨o1, e1⟩, ⟨o2, e2⟩⟩ := i.alive hp
    exact ⟨Nat.ne_of_gt (Nat.lt_succ_of_lt (Heap.lt_size e1)), Nat.ne_of_gt (Nat.lt_succ_of_lt (Heap.lt_size e2))⟩
  | _ => exact trivial

/-- the call of a type of one argument -/
theorem Sim.typeOne {α : Type} {f : Str} {T : String} {a : Expr} {p pos : Pos} {k : V → M α} {R : α → Map → Heap → Value → Prop} (B : Base fns glob mg mb h₀) (ha : EvS prog w h₀ C n a) (hA : Rm A n) (F : Frm env ns loc ρ s.heap) (i : Inv prog w h₀ σ ρ s.heap) (hg : isGlob ns f = true) (hf : fns f = none)
    (hn : f ∈ bltNames) (hT : bootBuiltins f = some (.type T))
    (hk : ∀ x v σ₁ ρ₁ H tk, Inv prog w h₀ σ₁ ρ₁ H → Ext [] ρ s.heap ρ₁ H → Rel ρ₁ H v x → Sim prog w h₀ A [] (call (.type T) [v]) (k x σ₁) R ρ₁ { s with heap := H, toks := tk }) :
    Sim prog w h₀ A [] (eval (.Call (.Name f p) [a] [] pos) env) ((ev C a ns loc >>= k) σ) R ρ s := by
  rw [evs_one, Call_name]
  refine Sim.head (v := .type T) (fun Q E h => wp_builtin B F i hg hn hf hT h) ?_
  refine Sim.args (evs_cons ha evs_nil) hA F i (fun Q E hst h => cw_type hst h) fun l σ₁ ρ₁ H tk vs i₁ x₁ r₁ => ?_
  cases r₁ with
  | nil => exact trivial
  | cons r rs => cases rs with
    | nil => exact hk _ _ σ₁ ρ₁ H tk i₁ x₁ r
    | cons _ _ => exact trivial

theorem src_call {f : Str} {as : List Expr} {p pos : Pos} (B : Base fns glob mg mb h₀) (hfn : ∀ f, C.isFn f = (fns f).isSome) (he : EvS prog w h₀ C n (.Call (.Name f p) as [] pos)) (has : ∀ a ∈ as, EvS prog w h₀ C n a) : SrcS prog w h₀ C n (.Call (.Name f p) as [] pos) :=
  fun env ns loc σ ρ s A hA F i => by
  have whole := src_value he hA F i
  have hc : ∀ k, srcTag C ns f = k + 1 → isGlob ns f = true ∧ fns f = none ∧ ((k = 0 ∧ f = ("range" : Str)) ∨ (k = 1 ∧ f = ("enumerate" : Str))) := by
    intro k htag
    unfold srcTag at htag
    by_cases h1 : (isGlob ns f && !C.isFn f) = true
    · rw [if_pos h1] at htag
      simp only [Bool.and_eq_true, Bool.not_eq_true'] at h1
      refine ⟨h1.1, ?_, ?_⟩
      · have := h1.2; rw [hfn] at this
        cases e : fns f with
        | none => rfl
        | some _ => rw [e] at this; cases this
      · by_cases h2 : f = ("range" : Str)
        · rw [if_pos h2] at htag; exact .inl ⟨by omega, h2⟩
        · rw [if_neg h2] at htag
          by_cases h3 : f = ("enumerate" : Str)
          · rw [if_pos h3] at htag; exact .inr ⟨by omega, h3⟩
          · rw [if_neg h3] at htag; cases htag
    · rw [if_neg h1] at htag; cases htag
  rcases as with _ | ⟨a, _ | ⟨b, r⟩⟩
  · exact whole
  · show Sim prog w h₀ A [] _ ((if srcTag C ns f = 1 then (ev C a ns loc >>= fun v => rangeOf v) else if srcTag C ns f = 2 then (ev C a ns loc >>= fun v => enumOf v) else (ev C (.Call (.Name f p) [a] [] pos) ns loc >>= fun v => srcV v)) σ) (RSrc s.heap) ρ s
    by_cases t1 : srcTag C ns f = 1
    · rw [if_pos t1]
      obtain ⟨hg, hf, hx⟩ := hc 0 t1
      rcases hx with ⟨_, rfl⟩ | ⟨hh, _⟩
      · exact Sim.typeOne B (has a (List.mem_singleton.mpr rfl)) hA F i hg hf (by decide +kernel) bb_range fun x v σ₁ ρ₁ H tk i₁ x₁ r => Sim.rangeCall i₁ r
      · cases hh
    · rw [if_neg t1]
      by_cases t2 : srcTag C ns f = 2
      · rw [if_pos t2]
        obtain ⟨hg, hf, hx⟩ := hc 1 t2
        rcases hx with ⟨hh, _⟩ | ⟨_, rfl⟩
        · cases hh
        · exact Sim.typeOne B (has a (List.mem_singleton.mpr rfl)) hA F i hg hf (by decide +kernel) bb_enumerate fun x v σ₁ ρ₁ H tk i₁ x₁ r => Sim.enumCall i₁ x₁.alive r
      · rw [if_neg t2]; exact whole
  · exact whole

/-! ## comprehensions -/
theorem isCell_of {k : NameKind} (h : (k == NameKind.free) = true) : k = .free := by simpa using h

/-- the cells that a comprehension's block shares -/
theorem closure_go (env : Env) : ∀ (names : Names) (cs : List (Str × Addr)), (∀ x ∈ names, x.2 = .free → ∃ c, env.cells.lookup x.1 = some c) → (∀ x c, cs.lookup x = some c → env.cells.lookup x = some c) →
    ∃ cl, (forIn names cs fun x r => if (x.2 == NameKind.free) = true then (do let c ← cellOf env x.1; pure (ForInStep.yield ((x.1, c) :: r))) else pure (ForInStep.yield r)) = (Pure.pure cl : Sem (List (Str × Addr))) ∧
      (∀ x c, cl.lookup x = some c → env.cells.lookup x = some c) ∧ (∀ x ∈ names, x.2 = .free → ∃ c, cl.lookup x.1 = some c) ∧ ∀ x, (∃ c, cs.lookup x = some c) → ∃ c, cl.lookup x = some c
  | [], cs, _, h2 => ⟨cs, rfl, h2, fun _ hm => (nomatch hm), fun _ h => h⟩
  | (x, k) :: r, cs, h1, h2 => by
    rw [List.forIn_cons]
    by_cases hk : (k == NameKind.free) = true
    · obtain ⟨c, hc⟩ := h1 (x, k) (List.mem_cons_self ..) (isCell_of hk)
      have e : cellOf env x = Pure.pure c := by unfold cellOf; rw [show env.cells.lookup x = some c from hc]
      rw [if_pos hk, e]
      have h2' : ∀ y d, List.lookup y ((x, c) :: cs) = some d → env.cells.lookup y = some d := fun y d hd => by
        rw [List.lookup_cons] at hd
        split at hd
        · rename_i hy
          cases hd; rw [beq_iff_eq.mp hy]; exact hc
        · exact h2 y d hd
      obtain ⟨cl, e1, e2, e3, e4⟩ := closure_go env r ((x, c) :: cs) (fun y hy => h1 y (List.mem_cons_of_mem _ hy)) h2'
      refine ⟨cl, e1, e2, fun y hy hf => ?_, fun y hy => e4 y ?_⟩
      · rcases List.mem_cons.mp hy with rfl | hy
        · exact e4 x ⟨c, by rw [List.lookup_cons, beq_self_eq_true]⟩
        · exact e3 y hy hf
      · obtain ⟨d, hd⟩ := hy
        rw [List.lookup_cons]
        split
        · exact ⟨_, rfl⟩
        · exact ⟨d, hd⟩
    · rw [if_neg hk]
      obtain ⟨cl, e1, e2, e3, e4⟩ := closure_go env r cs (fun y hy => h1 y (List.mem_cons_of_mem _ hy)) h2
      refine ⟨cl, e1, e2, fun y hy hf => ?_, e4⟩
      rcases List.mem_cons.mp hy with rfl | hy
      · exact absurd (by rw [show k = NameKind.free from hf]; rfl) hk
      · exact e3 y hy hf

theorem closure_ok {scope : Scope} (h : ∀ x ∈ scope.names, x.2 = .free → ∃ c, env.cells.lookup x.1 = some c) : ∃ cl, closureFor scope env = Pure.pure cl ∧ (∀ x c, cl.lookup x = some c → env.cells.lookup x = some c) ∧ ∀ x ∈ scope.names, x.2 = .free → ∃ c, cl.lookup x.1 = some c := by
  obtain ⟨cl, e1, e2, e3, _⟩ := closure_go env scope.names [] h fun _ _ e => by cases e
  refine ⟨cl, ?_, e2, e3⟩
  show ((forIn scope.names [] fun (x : Str × NameKind) (r : List (Str × Addr)) => if (x.2 == NameKind.free) = true then (do let c ← cellOf env x.1; pure (ForInStep.yield ((x.1, c) :: r))) else pure (ForInStep.yield r)) >>= fun r => Pure.pure r) = Pure.pure cl
  rw [e1]; rfl

/-- what innerLoc says -/
theorem innerLoc_ok {loc : Loc} : ∀ {names : Names} {loc' : Loc} {σ σ' : Store}, innerLoc ns loc names σ = .ok loc' σ' → σ' = σ ∧ (∀ x ∈ names, x.2 ≠ .cell) ∧ (∀ x ∈ names, x.2 = .free → ∃ j, slot ns x.1 = some (j, .cell)) ∧
    ∀ (x : Str) (i i₀ : Nat) (k : NameKind), slotGo names x i₀ = some (i, k) → i₀ ≤ i ∧ ∃ o, loc'[i - i₀]? = some o ∧ (k ≠ .free → o = none) ∧ (k = .free → ∃ j, slot ns x = some (j, .cell) ∧ o = (loc[j]?).getD none)
  | [], loc', σ, σ', h => by
    cases h
    exact ⟨rfl, fun _ hm => (nomatch hm), fun _ hm => (nomatch hm), fun _ _ _ _ e => by cases e⟩
  | (x, k) :: r, loc', σ, σ', h => by
    have step : ∀ (o : Option V), ((innerLoc ns loc r >>= fun t => (pure (o :: t) : M Loc)) σ = .ok loc' σ') → ∃ t, loc' = o :: t ∧ innerLoc ns loc r σ = .ok t σ' := fun o h => by
      cases e : innerLoc ns loc r σ with
      | bad => rw [bind_bad e] at h; cases h
      | exc _ _ => rw [bind_exc e] at h; cases h
      | ok t σ₁ => rw [bind_ok e] at h; cases h; exact ⟨t, rfl, rfl⟩
    have fin : ∀ (o : Option V), k ≠ .cell → (k = .free → ∃ j, slot ns x = some (j, .cell) ∧ o = (loc[j]?).getD none) → (k ≠ .free → o = none) → ((innerLoc ns loc r >>= fun t => (pure (o :: t) : M Loc)) σ = .ok loc' σ') →
        σ' = σ ∧ (∀ y ∈ (x, k) :: r, y.2 ≠ .cell) ∧ (∀ y ∈ (x, k) :: r, y.2 = .free → ∃ j, slot ns y.1 = some (j, .cell)) ∧
        ∀ (y : Str) (i i₀ : Nat) (k' : NameKind), slotGo ((x, k) :: r) y i₀ = some (i, k') → i₀ ≤ i ∧ ∃ o, loc'[i - i₀]? = some o ∧ (k' ≠ .free → o = none) ∧ (k' = .free → ∃ j, slot ns y = some (j, .cell) ∧ o = (loc[j]?).getD none) := fun o hc hf hn h => by
      obtain ⟨t, rfl, e⟩ := step o h
      obtain ⟨h1, h2, h3, h4⟩ := innerLoc_ok e
      refine ⟨h1, fun y hy => ?_, fun y hy hfy => ?_, fun y i i₀ k' hs => ?_⟩
      · rcases List.mem_cons.mp hy with rfl | hy
        · exact hc
        · exact h2 y hy
      · rcases List.mem_cons.mp hy with rfl | hy
        · obtain ⟨j, hj, _⟩ := hf hfy; exact ⟨j, hj⟩
        · exact h3 y hy hfy
      · unfold slotGo at hs
        split at hs
        · rename_i hyx
          cases hs
          rw [beq_iff_eq.mp hyx]
          exact ⟨Nat.le_refl _, o, by rw [Nat.sub_self]; rfl, hn, hf⟩
        · obtain ⟨hle, o', ho', hh⟩ := h4 y i (i₀ + 1) k' hs
          refine ⟨by omega, o', ?_, hh⟩
          rw [show i - i₀ = (i - (i₀ + 1)) + 1 by omega, List.getElem?_cons_succ]; exact ho'
    cases k with
    | free =>
      cases hs : slot ns x with
      | none => unfold innerLoc at h; rw [hs] at h; cases h
      | some p =>
        obtain ⟨j, k'⟩ := p
        cases k' with
        | cell =>
          unfold innerLoc at h; rw [hs] at h
          exact fin ((loc[j]?).getD none) (by decide) (fun _ => ⟨j, hs, rfl⟩) (fun h => absurd rfl h) h
        | _ => unfold innerLoc at h; rw [hs] at h; cases h
    | cell => cases h
    | «local» => exact fin none (by decide) (fun h => by cases h) (fun _ => rfl) h
    | globalImplicit => exact fin none (by decide) (fun h => by cases h) (fun _ => rfl) h
    | globalExplicit => exact fin none (by decide) (fun h => by cases h) (fun _ => rfl) h

/-- a slot of the relabelled names -/
theorem relab_slot {names : Names} : ∀ {x : Str} {i i₀ : Nat} {k : NameKind}, slotGo (relab ns names) x i₀ = some (i, k) → ∃ k₀, slotGo names x i₀ = some (i, k₀) ∧ (k = k₀ ∨ (k₀ = .free ∧ k = .cell)) := by
  induction names with
  | nil => intro x i i₀ k h; cases h
  | cons p r ih =>
    intro x i i₀ k h
    obtain ⟨y, ky⟩ := p
    have e : relab ns ((y, ky) :: r) = (y, if (ky == .free && ns.lookup y == some .cell) = true then .cell else ky) :: relab ns r := by
      unfold relab
      rw [List.map_cons]
      by_cases hc : (ky == .free && ns.lookup y == some .cell) = true
      · dsimp only; rw [if_pos hc, if_pos hc]
      · dsimp only; rw [if_neg hc, if_neg hc]
    rw [e] at h
    unfold slotGo at h ⊢
    cases hxy : (x == y) with
    | true =>
      rw [hxy] at h
      cases h
      refine ⟨ky, rfl, ?_⟩
      by_cases hc : (ky == .free && ns.lookup y == some .cell) = true
      · rw [if_pos hc]; simp only [Bool.and_eq_true] at hc; exact .inr ⟨isCell_of hc.1, rfl⟩
      · rw [if_neg hc]; exact .inl rfl
    | false =>
      rw [hxy] at h
      exact ih h

theorem slot_mem {names : Names} {x : Str} {i : Nat} {k : NameKind} (h : slot names x = some (i, k)) : (x, k) ∈ names := mem_of_lookup (slot_lookup h)

/-- the frame of a comprehension's block -/
theorem compFrm {scope : Scope} {cl : List (Str × Addr)} {c : Addr} {loc' : Loc} {σ' : Store} {cenv : Env} {h : Heap} (F : Frm env ns loc ρ h) (hin : innerLoc ns loc scope.names σ = .ok loc' σ') (hk : scope.kind = .function)
    (hcl : ∀ x c, cl.lookup x = some c → env.cells.lookup x = some c) (hcl2 : ∀ x ∈ scope.names, x.2 = .free → ∃ c, cl.lookup x.1 = some c)
    (hce : cenv = { newEnv scope c env.globals cl env.qual none .none (some env) env.builtins with scope := relabel scope env }) (hn : h.Ns c fun _ => none) (hoff : offMap ρ c) (hne : ∀ x d, env.cells.lookup x = some d → d ≠ c) :
    Frm cenv (relab ns scope.names) loc' ρ h := by
  subst hce
  obtain ⟨_, hnc, hfr, hsl⟩ := innerLoc_ok hin
  exact {
    names := by
      show (relabel scope env).names = _
      unfold relabel relab
      have : env.scope.names = ns := F.names
      simp only [F.kind, Env.kindOf, this]
      congr 1
      funext p
      obtain ⟨y, k⟩ := p
      cases k <;> simp
    kind := hk
    globals := F.globals
    blts := F.blts
    vars := ⟨_, hn, fun x i v h1 h2 => by
      obtain ⟨k₀, hs, hkk⟩ := relab_slot h1
      rcases hkk with rfl | ⟨_, hc⟩
      · obtain ⟨_, o, ho, hno, _⟩ := hsl x i 0 _ hs
        rw [Nat.sub_zero] at ho
        rw [ho, hno (by decide)] at h2; cases h2
      · cases hc⟩
    cell := fun x i h1 => by
      obtain ⟨k₀, hs, hkk⟩ := relab_slot h1
      have hmem := slot_mem hs
      have hfree : k₀ = .free := by
        rcases hkk with rfl | ⟨h, _⟩
        · exact absurd rfl (hnc _ hmem)
        · exact h
      subst hfree
      obtain ⟨_, o, ho, _, hof⟩ := hsl x i 0 _ hs
      obtain ⟨j, hj, rfl⟩ := hof rfl
      rw [Nat.sub_zero] at ho
      obtain ⟨d, od, e1, e2, e3⟩ := F.cell x j hj
      obtain ⟨d', hd'⟩ := hcl2 _ hmem rfl
      have : env.cells.lookup x = some d' := hcl _ _ hd'
      rw [e1] at this; cases this
      refine ⟨d, od, hd', e2, fun v hv => e3 v ?_⟩
      rw [ho] at hv
      cases e : loc[j]? with
      | none => rw [e] at hv; cases hv
      | some u => rw [e] at hv; exact hv
    live := fun x d e => F.live x d (hcl _ _ e)
    offL := hoff
    offC := fun x d e => ⟨hne x d (hcl _ _ e), (F.offC x d (hcl _ _ e)).2⟩
    apart := fun x y d e1 e2 => F.apart x y d (hcl _ _ e1) (hcl _ _ e2) }
end

/-- the comprehensions that are run -/
theorem comp_cases : ∀ gens : List Comprehension, (∃ t it ifs, gens = [⟨t, it, ifs, 0⟩]) ∨ ∀ (C : Cfg) (elt : Expr) (scope : Scope) (p : Pos) (ns : Names) (loc : Loc), ev C (.ListComp elt gens scope p) ns loc = M.bad
  | [] => .inr fun _ _ _ _ _ _ => rfl
  | [⟨t, it, ifs, .ofNat 0⟩] => .inl ⟨t, it, ifs, rfl⟩
  | [⟨t, it, ifs, .ofNat (k + 1)⟩] => .inr fun _ _ _ _ _ _ => rfl
  | [⟨t, it, ifs, .negSucc k⟩] => .inr fun _ _ _ _ _ _ => rfl
  | ⟨_, _, _, .ofNat 0⟩ :: _ :: _ => .inr fun _ _ _ _ _ _ => rfl
  | ⟨_, _, _, .ofNat (_ + 1)⟩ :: _ :: _ => .inr fun _ _ _ _ _ _ => rfl
  | ⟨_, _, _, .negSucc _⟩ :: _ :: _ => .inr fun _ _ _ _ _ _ => rfl
end Mine

namespace Mine
open PySem PyProof.Rows

section
variable {prog : Program} {w : World} {h₀ hb : Heap} {A : Around} {W wr : List Addr} {ρ ρ' ρb : Map} {s sb : Shared} {σ : Store} {fns : Str → Option Fn} {glob : Str → Option V} {mg mb : Str → Option Value}
variable {env cenv : Env} {ns ns' : Names} {loc : Loc} {C : Cfg} {n : Nat}

/-- a turn of a comprehension's loop -/
theorem compLoop_turn {elt target iter : Expr} {ifs : List Expr} {scope : Scope} {pos : Pos} {it acc : Value} {R : Result → Shared → Prop}
    (h : wpAny (model prog w) A (pyNext it) (fun r s₁ => match r with
      | none => R (.ok .next) s₁
      | some v => wpAny (model prog w) A (letOwnedTupleGo target it v) (fun _ s₁' => wpAny (model prog w) A (assign target env v) (fun _ s₂ =>
          wpAny (model prog w) A (forIn ifs true fun c r => if r = true then do let ok ← isTrue c env (eval c env); pure (ForInStep.yield ok) else pure (ForInStep.yield r)) (fun ok s₃ =>
            if ok = true then wpAny (model prog w) A (eval elt env) (fun x s₄ =>
              wpAny (model prog w) A (call (.builtin "list.append") [acc, x]) (fun _ s₅ => codeAny (model prog w) A (.compLoop (.ListComp elt [⟨target, iter, ifs, 0⟩] scope pos) 0 it acc env) R s₅) (fun _ _ => False) s₄) (fun _ _ => False) s₃
            else codeAny (model prog w) A (.compLoop (.ListComp elt [⟨target, iter, ifs, 0⟩] scope pos) 0 it acc env) R s₃) (fun _ _ => False) s₂) (fun _ _ => False) s₁') (fun _ _ => False) s₁) (fun _ _ => False) s) :
    codeAny (model prog w) A (.compLoop (.ListComp elt [⟨target, iter, ifs, 0⟩] scope pos) 0 it acc env) R s := by
  refine codeAny_of_tree ?_
  show wpAny _ A ((compTurn (.ListComp elt [⟨target, iter, ifs, 0⟩] scope pos) 0 it acc env).onRaise (fun x => do noteFrame x env; theTreesLotGoes x)) _ _ s
  refine wpAny_noted ?_
  rw [compTurn_list]
  refine wpAny_bind (wpAny_standAt (wpAny_bind (wpAny_mono h (fun r s₁ h₁ => ?_) fun _ _ h' => h'.elim)))
  cases r with
  | none => exact wpAny_pure h₁
  | some v =>
    refine wpAny_bind (wpAny_mono h₁ (fun _ s₁' h₁' => ?_) fun _ _ h' => h'.elim)
    refine wpAny_bind (wpAny_mono h₁' (fun _ s₂ h₂ => wpAny_bind (wpAny_mono h₂ (fun ok s₃ h₃ => ?_) fun _ _ h' => h'.elim)) fun _ _ h' => h'.elim)
    cases ok with
    | false => exact wpAny_pure ⟨rfl, h₃⟩
    | true =>
      exact wpAny_bind (wpAny_bind (wpAny_mono h₃ (fun x s₄ h₄ => wpAny_bind (wpAny_mono h₄ (fun _ s₅ h₅ => wpAny_pure (wpAny_pure ⟨rfl, h₅⟩)) fun _ _ h' => h'.elim)) fun _ _ h' => h'.elim))

variable (prog w h₀ C n) in
/-- the tests of a comprehension -/
noncomputable def TestsS (ifs : List Expr) : Prop := ∀ (env : Env) (ns : Names) (loc : Loc) (σ : Store) (ρ : Map) (s : Shared) (A : Around), Rm A n → Frm env ns loc ρ s.heap → Inv prog w h₀ σ ρ s.heap →
  Sim prog w h₀ A [] (forIn ifs true fun c r => if r = true then do let ok ← isTrue c env (eval c env); pure (ForInStep.yield ok) else pure (ForInStep.yield r)) (tests C ifs ns loc σ) RB ρ s
theorem tests_nil : TestsS prog w h₀ C n [] := fun env ns loc σ ρ s A hA F i => Sim.ret i rfl
theorem tests_one {e : Expr} (h : TstS prog w h₀ C n e) : TestsS prog w h₀ C n [e] := fun env ns loc σ ρ s A hA F i =>
  Sim.wrap (fun _ _ => wpAny_tests_one) (h env ns loc σ ρ s A hA F i)
theorem tests_more {e f : Expr} {r : List Expr} : TestsS prog w h₀ C n (e :: f :: r) := fun env ns loc σ ρ s A hA F i => trivial

/-- the state of a comprehension's loop, but for its walk -/
structure CE (prog : Program) (w : World) (h₀ : Heap) (ρb : Map) (hb : Heap) (cenv : Env) (ns' : Names) (D : Addr) (loc : Loc) (l : List V) (σ : Store) (ρ : Map) (h : Heap) : Prop where
  inv : Inv prog w h₀ σ ρ h
  frm : Frm cenv ns' loc ρ h
  ext : Ext [] ρb hb ρ h
  acc : ∃ vs k, h.get? D = some (listO vs k) ∧ RelAll ρ h vs l
  off : offMap ρ D

/-- what stays through it -/
structure CK (h₀ : Heap) (hb : Heap) (cenv : Env) (wr : List Addr) (D : Addr) : Prop where
  deadW : ∀ b ∈ wr, hb.get? b = none
  deadD : hb.get? D = none
  deadC : hb.get? cenv.locals = none
  offW : ∀ b ∈ wr, offFrame cenv b
  offD : offFrame cenv D
  base : ∀ b o, h₀.get? b = some o → ∃ o', hb.get? b = some o'
  DW : D ∉ wr

theorem list_not_tup {vs ws : List Value} {j k : Nat} : listO vs j ≠ tupO ws k := fun e => absurd (Value.type.inj (congrArg Obj.cls e)) (by decide)

theorem bind_inv {α β : Type} {m : M α} {f : α → M β} {b : β} {σ₂ : Store} (h : (m >>= f) σ = .ok b σ₂) : ∃ a σ₁, m σ = .ok a σ₁ ∧ f a σ₁ = .ok b σ₂ := by
  cases e : m σ with
  | bad => rw [bind_bad e] at h; cases h
  | exc _ _ => rw [bind_exc e] at h; cases h
  | ok a σ₁ => rw [bind_ok e] at h; exact ⟨a, σ₁, rfl, h⟩

theorem CK.base0 {D : Addr} (K : CK h₀ hb cenv wr D) {b : Addr} (h : hb.get? b = none) : h₀.get? b = none := by
  cases e : h₀.get? b with
  | none => rfl
  | some o => obtain ⟨o', e'⟩ := K.base _ _ e; rw [h] at e'; cases e'

theorem CE.but {D : Addr} {l : List V} {h h' : Heap} (K : CK h₀ hb cenv wr D) (x : CE prog w h₀ ρb hb cenv ns' D loc l σ ρ h) (hk : KeepBut wr h h') (ho : Own wr ρ h) : CE prog w h₀ ρb hb cenv ns' D loc l σ ρ h' where
  inv := x.inv.but hk ho fun b hb => K.base0 (K.deadW b hb)
  frm := x.frm.but hk ho K.offW
  ext := x.ext.but hk K.deadW
  acc := by
    obtain ⟨vs, k, g, r⟩ := x.acc
    exact ⟨vs, k, hk _ _ K.DW g, r.sub (hk.sub ho)⟩
  off := x.off

theorem CE.step {D : Addr} {l : List V} {h h' : Heap} {σ' : Store} {loc' : Loc} (K : CK h₀ hb cenv wr D) (x : CE prog w h₀ ρb hb cenv ns' D loc l σ ρ h) (hW : ∀ b ∈ W, b = cenv.locals) (i : Inv prog w h₀ σ' ρ' h') (e : Ext W ρ h ρ' h') (F : Frm cenv ns' loc' ρ' h') :
    CE prog w h₀ ρb hb cenv ns' D loc' l σ' ρ' h' where
  inv := i
  frm := F
  ext := ((x.ext.weak (W' := W) fun _ hm => nomatch hm).trans e).weak fun b hm => .inr (by rw [hW b hm]; exact K.deadC)
  acc := by
    obtain ⟨vs, k, g, r⟩ := x.acc
    exact ⟨vs, k, e.keep _ _ g (fun hm => K.offD.1 (hW _ hm)) x.off, r.ext e⟩
  off := by
    obtain ⟨vs, k, g, r⟩ := x.acc
    exact offMap.ext e g x.off

/-- an item more -/
theorem CE.push {D : Addr} {l : List V} {v : Value} {a : V} {Q : Value → Shared → Prop} {E : Value → Shared → Prop} {sr : Src} {it : Value} {i : Nat} (K : CK h₀ hb cenv wr D) (x : CE prog w h₀ ρb hb cenv ns' D loc l σ ρ s.heap) (wk : ItAt sr it wr i ρ s.heap) (r : Rel ρ s.heap v a) (hl : l.length ≤ sizeLine)
    (h : ∀ h', CE prog w h₀ ρb hb cenv ns' D loc (l ++ [a]) σ ρ h' → ItAt sr it wr i ρ h' → Q .none { s with heap := h' }) : wpAny (model prog w) A (call (.builtin "list.append") [.ref D, v]) Q E s := by
  obtain ⟨vs, k, g, rv⟩ := x.acc
  have hlen := rv.length
  refine wpAny_list_append_plain ⟨k, g⟩ (fun h' hg hk => ?_) (by rw [List.size_toArray, hlen]; exact hl)
  obtain ⟨m', hg⟩ := hg
  have hg : h'.get? D = some (listO (vs ++ [v]) m') := by simpa [listO] using hg
  have hkk : ∀ b o, s.heap.get? b = some o → b ∉ [D] → h'.get? b = some o := fun b o e hb => hk.extBut b o (fun eq => hb (List.mem_singleton.mpr eq)) e
  have hx : Ext [D] ρ s.heap ρ h' := Ext.of_keep hkk fun b o e hm => by
    rw [List.mem_singleton.mp hm] at e ⊢
    rw [g] at e; cases e
    exact ⟨fun vs n => list_not_tup, _, hg⟩
  refine h h' ⟨x.inv.keep hx (fun b hm => by rw [List.mem_singleton.mp hm]; exact ⟨x.off, K.base0 K.deadD⟩) hkk, x.frm.ext hx (fun b hm => by rw [List.mem_singleton.mp hm]; exact K.offD), ?_, ⟨vs ++ [v], m', hg, (rv.append (.cons r .nil)).ext hx⟩, x.off⟩
    (wk.ext hx fun b hb hm => K.DW (List.mem_singleton.mp hm ▸ hb))
  exact ((x.ext.weak (W' := [D]) fun _ hm => nomatch hm).trans hx).weak fun b hm => .inr (by rw [List.mem_singleton.mp hm]; exact K.deadD)

theorem compLoop_step {sr : Src} {bt : V → Loc → M Loc} {tt : Loc → M Bool} {et : Loc → M V} {k i : Nat} {o : Option V} (h : sr.at σ i = some o) : compLoop sr bt tt et (k + 1) i loc σ =
    (match o with | none => (pure [] : M (List V)) | some v => (bt v loc >>= fun loc' => tt loc' >>= fun c => if c = true then (et loc' >>= fun x => compLoop sr bt tt et k (i + 1) loc' >>= fun r => pure (x :: r)) else compLoop sr bt tt et k (i + 1) loc')) σ := by
  show (sr.get i >>= _) σ = _
  refine (bind_ok (a := o) (σ' := σ) (by unfold Src.get askS; dsimp only; rw [h])).trans ?_
  cases o <;> rfl
theorem compLoop_bad {sr : Src} {bt : V → Loc → M Loc} {tt : Loc → M Bool} {et : Loc → M V} {k i : Nat} (h : sr.at σ i = none) : compLoop sr bt tt et (k + 1) i loc σ = .bad := by
  show (sr.get i >>= _) σ = _
  rw [bind_bad (by unfold Src.get askS; dsimp only; rw [h])]

theorem compLoop_ok {elt target iter : Expr} {ifs : List Expr} {scope : Scope} {pos : Pos} {D : Addr} {sr : Src} {it : Value} (hA : Rm A n) (K : CK h₀ hb cenv wr D) (ht : TestsS prog w h₀ C n ifs) (he : EvS prog w h₀ C n elt) (htg : tgtOk sr target = true) :
    ∀ (k i : Nat) (loc : Loc) (l₀ : List V) (σ : Store) (ρ : Map) (H : Heap) (tk : Nat) (l : List V) (σ' : Store), CE prog w h₀ ρb hb cenv ns' D loc l₀ σ ρ H → ItAt sr it wr i ρ H →
      compLoop sr (bindTo (stLocL ns') target) (tests C ifs ns') (ev C elt ns') k i loc σ = .ok l σ' → l₀.length + l.length ≤ sizeLine →
      codeAny (model prog w) A (.compLoop (.ListComp elt [⟨target, iter, ifs, 0⟩] scope pos) 0 it (.ref D) cenv)
        (fun r s' => r = .ok .next ∧ ∃ loc' ρ' H' tk', s' = { sb with heap := H', toks := tk' } ∧ CE prog w h₀ ρb hb cenv ns' D loc' (l₀ ++ l) σ' ρ' H') { sb with heap := H, toks := tk }
  | 0, _, _, _, _, _, _, _, _, _, _, _, h, _ => by cases h
  | k + 1, i, loc, l₀, σ, ρ, H, tk, l, σ', x, wk, h, hl => by
    have S := stLocL_ok (prog := prog) (w := w) (env := cenv) (ns := ns') (K.base0 K.deadC)
    cases hat : sr.at σ i with
    | none => rw [compLoop_bad hat] at h; cases h
    | some o =>
      rw [compLoop_step hat] at h
      refine compLoop_turn (s := { sb with heap := H, toks := tk }) (wk.next (s := { sb with heap := H, toks := tk }) hA.handled x.inv hat htg (fun h' hn hk => ?_) fun v val h' tk' hv hk hgo => ?_)
      · subst hn
        cases h
        exact ⟨rfl, loc, ρ, h', tk, rfl, by rw [List.append_nil]; exact x.but K hk wk.own⟩
      · subst hv
        obtain ⟨loc₁, σ₁, hb1, h⟩ := bind_inv h
        obtain ⟨b, σ₂, hb2, h⟩ := bind_inv h
        refine hgo _ _ fun h'' hk'' rv wk' => ?_
        have x1 := x.but K hk'' wk.own
        have h1 := Sim.bindTo (s := { sb with heap := h'', toks := tk' }) (t := target) S hA.handled x1.frm x1.inv rv
        rw [hb1] at h1
        refine wpAny_mono h1 (fun _ s' hp => ?_) fun _ _ f => f
        obtain ⟨ρ₁, H₁, tk₁, rfl, i₁, e₁, F₁⟩ := hp
        have x2 := x1.step K (fun b hm => List.mem_singleton.mp hm) i₁ e₁ F₁
        have wk2 := wk'.ext e₁ fun b hb hm => (K.offW b hb).1 (List.mem_singleton.mp hm)
        have h2 := ht cenv ns' loc₁ σ₁ ρ₁ { sb with heap := H₁, toks := tk₁ } A hA x2.frm x2.inv
        rw [hb2] at h2
        refine wpAny_mono h2 (fun ok s' hp => ?_) fun _ _ f => f
        obtain ⟨ρ₂, H₂, tk₂, rfl, i₂, e₂, hok⟩ := hp
        have hok : ok = b := hok
        subst hok
        have x3 := x2.step K (W := []) (fun b hm => absurd hm (List.not_mem_nil)) i₂ e₂ (x2.frm.ext0 e₂)
        have wk3 := wk2.ext e₂ fun b hb hm => absurd hm List.not_mem_nil
        cases ok with
        | false => exact compLoop_ok hA K ht he htg k (i + 1) loc₁ l₀ σ₂ ρ₂ H₂ tk₂ l σ' x3 wk3 h hl
        | true =>
          change (ev C elt ns' loc₁ >>= fun x => compLoop sr (bindTo (stLocL ns') target) (tests C ifs ns') (ev C elt ns') k (i + 1) loc₁ >>= fun r => pure (x :: r)) σ₂ = .ok l σ' at h
          obtain ⟨a, σ₃, hb3, h⟩ := bind_inv h
          obtain ⟨r, σ₄, hb4, h⟩ := bind_inv h
          cases h
          have h3 := he cenv ns' loc₁ σ₂ ρ₂ { sb with heap := H₂, toks := tk₂ } A hA x3.frm x3.inv
          rw [hb3] at h3
          refine wpAny_mono h3 (fun y s' hp => ?_) fun _ _ f => f
          obtain ⟨ρ₃, H₃, tk₃, rfl, i₃, e₃, ry⟩ := hp
          have x4 := x3.step K (W := []) (fun b hm => absurd hm (List.not_mem_nil)) i₃ e₃ (x3.frm.ext0 e₃)
          have wk4 := wk3.ext e₃ fun b hb hm => absurd hm List.not_mem_nil
          rw [List.length_cons] at hl
          refine CE.push (s := { sb with heap := H₃, toks := tk₃ }) K x4 wk4 ry (by omega) fun h' x5 wk5 => ?_
          have := compLoop_ok (iter := iter) (scope := scope) (pos := pos) hA K ht he htg k (i + 1) loc₁ (l₀ ++ [a]) σ₃ ρ₃ h' tk₃ r σ' x5 wk5 hb4 (by rw [List.length_append, List.length_singleton]; omega)
          rw [List.append_assoc] at this
          exact this

/-- an object of the heap is taken into the store -/
theorem Inv.adopt {a : Addr} {o : O} {h : Heap} (i : Inv prog w h₀ σ ρ h) (off : offMap ρ a) (h0 : h₀.get? a = none) (ho : ORel prog w (ρ ++ [(a, a)]) h (a, a) o) : Inv prog w h₀ (σ ++ [o]) (ρ ++ [(a, a)]) h := by
  have hcase : ∀ (n : Nat) (p : Addr × Addr), (ρ ++ [(a, a)])[n]? = some p → ρ[n]? = some p ∨ (n = ρ.length ∧ p = (a, a)) := fun n p e => by
    rcases Nat.lt_or_ge n ρ.length with hl | hl
    · rw [List.getElem?_append_left hl] at e; exact .inl e
    · rw [List.getElem?_append_right hl] at e
      rcases Nat.eq_zero_or_pos (n - ρ.length) with hz | hz
      · rw [hz] at e; cases e; exact .inr ⟨Nat.le_antisymm (Nat.le_of_sub_eq_zero hz) hl, rfl⟩
      · rw [List.getElem?_eq_none (by simp; exact hz)] at e; cases e
  refine ⟨i.base, by simp [i.len], fun n o' p e1 e2 => ?_, fun n p hp hn => ?_, fun j k p q e1 e2 hjk => ?_⟩
  · rcases hcase n p e2 with e2 | ⟨rfl, rfl⟩
    · have hl : n < σ.length := by
        rcases Nat.lt_or_ge n ρ.length with hl | hl
        · rw [← i.len]; exact hl
        · rw [List.getElem?_eq_none hl] at e2; cases e2
      rw [List.getElem?_append_left hl] at e1
      exact (i.objs n o' p e1 e2).sub Sub.snoc (fun ob g => g) (fun ob g => g)
    · rw [i.len, List.getElem?_append_right (Nat.le_refl _), Nat.sub_self] at e1
      cases e1; exact ho
  · rcases hcase n p hp with hp | ⟨_, rfl⟩
    · exact i.fresh n p hp hn
    · exact ⟨h0, h0⟩
  · rcases hcase j p e1 with e1 | ⟨rfl, rfl⟩ <;> rcases hcase k q e2 with e2 | ⟨rfl, rfl⟩
    · exact i.apart j k p q e1 e2 hjk
    · have := off p (List.mem_of_getElem? e1)
      exact ⟨this.1.symm, this.1.symm, this.2.symm, this.2.symm⟩
    · have := off q (List.mem_of_getElem? e2)
      exact ⟨this.1, this.2, this.1, this.2⟩
    · exact absurd rfl hjk
theorem Ext.adopt {a : Addr} {h : Heap} (x : Ext W ρb hb ρ h) (hd : hb.get? a = none) : Ext W ρb hb (ρ ++ [(a, a)]) h where
  pre := fun n p e => Sub.snoc (h := h).1 n p (x.pre n p e)
  keep := x.keep
  tups := x.tups
  alive := x.alive
  new := fun j p e hj => by
    rcases Nat.lt_or_ge j ρ.length with hl | hl
    · rw [List.getElem?_append_left hl] at e; exact x.new j p e hj
    · rw [List.getElem?_append_right hl] at e
      rcases Nat.eq_zero_or_pos (j - ρ.length) with hz | hz
      · rw [hz] at e; cases e; exact ⟨hd, hd⟩
      · rw [List.getElem?_eq_none (by simp; exact hz)] at e; cases e
end
end Mine

namespace Mine
open PySem PyProof.Rows

section
variable {prog : Program} {w : World} {h₀ hb : Heap} {A : Around} {W wr : List Addr} {ρ ρ' ρb : Map} {s sb : Shared} {σ : Store} {fns : Str → Option Fn} {glob : Str → Option V} {mg mb : Str → Option Value}
variable {env cenv : Env} {ns ns' : Names} {loc : Loc} {C : Cfg} {n : Nat}

/-- what a comprehension answers on the store's side -/
noncomputable def compM (C : Cfg) (elt target iter : Expr) (ifs : List Expr) (scope : Scope) (ns : Names) (loc : Loc) : M V := do
  let s ← src C iter ns loc (ev C iter ns loc)
  if tgtOk s target && compOk scope.kind scope.names then do
    let n ← s.count
    let loc' ← innerLoc ns loc scope.names
    let l ← compLoop s (bindTo (stLocL (relab ns scope.names)) target) (tests C ifs (relab ns scope.names)) (ev C elt (relab ns scope.names)) (n + 1) 0 loc'
    if l.length ≤ sizeLine then newO (.list l) else M.bad
  else M.bad

theorem compOk_kind {k : ScopeKind} {names : Names} (h : compOk k names = true) : k = .function ∧ ∀ x ∈ names, x.2 = .local → names.lookup x.1 = some .local := by
  unfold compOk at h
  simp only [Bool.and_eq_true, List.all_eq_true] at h
  obtain ⟨h1, h2⟩ := h
  refine ⟨?_, fun x hx hl => ?_⟩
  · cases k <;> first | rfl | cases h1
  · have := h2 x hx
    rw [hl] at this
    dsimp only at this
    cases e : names.lookup x.1 with
    | none => rw [e] at this; cases this
    | some k' => rw [e] at this; cases k' <;> first | rfl | cases this

theorem ask_ok {α : Type} {f : Store → Option α} {a : α} {σ' : Store} (h : askS f σ = .ok a σ') : σ' = σ ∧ f σ = some a := by
  unfold askS at h
  cases e : f σ with
  | none => rw [e] at h; cases h
  | some b => rw [e] at h; cases h; exact ⟨rfl, rfl⟩

theorem ite_ok {α : Type} {c : Prop} [Decidable c] {m : M α} {a : α} {σ' : Store} (h : (if c then m else M.bad) σ = .ok a σ') : c ∧ m σ = .ok a σ' := by
  by_cases hc : c
  · rw [if_pos hc] at h; exact ⟨hc, h⟩
  · rw [if_neg hc] at h; cases h

theorem set_no_fold {iter : Expr} (h : ∀ es k p, iter ≠ .Set es k p) : ∀ x, foldedSetIterable iter env x = pure x := by
  intro x
  cases iter <;> first | rfl | exact absurd rfl (h _ _ _)

theorem src_set {es : List Expr} {k : Nat} {p : Pos} : src C (.Set es k p) ns loc (ev C (.Set es k p) ns loc) σ = .bad := rfl

/-- a comprehension up to its end -/
theorem comp_core {elt target iter : Expr} {ifs : List Expr} {scope : Scope} {pos : Pos} {v : V} {σ' : Store} {use : Option (Value → Sem Unit)} {Q : Value → Shared → Prop} {E : Value → Shared → Prop} {pp : Pos} (hA : Rm A n) (F : Frm env ns loc ρ s.heap) (iv : Inv prog w h₀ σ ρ s.heap)
    (hs : SrcS prog w h₀ C n iter) (ht : TestsS prog w h₀ C n ifs) (he : EvS prog w h₀ C n elt) (h : compM C elt target iter ifs scope ns loc σ = .ok v σ')
    (hend : ∀ D c f ρ' H tk m, Inv prog w h₀ σ' ρ' H → Ext [] ρ s.heap ρ' H → Rel ρ' H (.ref D) v → H.Ns c m → offMap ρ' c → s.heap.get? c = none → compPost (model prog w) A E use Q (.ref D) c (.ok f) { s with heap := H, toks := tk }) :
    wpAny (model prog w) A (comprehension (.ListComp elt [⟨target, iter, ifs, 0⟩] scope pos) scope env pp (newList []) false (eval iter env) use) Q E s := by
  obtain ⟨sr, σ₁, h1, k1⟩ := bind_inv h
  obtain ⟨hc, k2⟩ := ite_ok k1
  obtain ⟨N, σ₂, h2, k3⟩ := bind_inv k2
  obtain ⟨rfl, h2'⟩ := ask_ok h2
  obtain ⟨loc', σ₃, h3, k4⟩ := bind_inv k3
  obtain ⟨l, σ₄, h4, k5⟩ := bind_inv k4
  obtain ⟨hl, k6⟩ := ite_ok k5
  cases k6
  simp only [Bool.and_eq_true] at hc
  obtain ⟨htg, hco⟩ := hc
  obtain ⟨hkind, hnames⟩ := compOk_kind hco
  have hin := h3
  obtain ⟨rfl, hnc, hfr, hsl⟩ := innerLoc_ok h3
  obtain ⟨cl, hclos, hcl, hcl2⟩ := closure_ok (env := env) (scope := scope) fun x hx hf => by
    obtain ⟨j, hj⟩ := hfr x hx hf
    obtain ⟨c, o, e, _⟩ := F.cell x.1 j hj
    exact ⟨c, e⟩
  have hset : ∀ es k p, iter ≠ .Set es k p := fun es k p e => by subst e; rw [src_set] at h1; cases h1
  refine wpAny_comprehension_free (g := ⟨target, iter, ifs, 0⟩) (gs := []) (cl := cl) rfl (set_no_fold hset) hclos hkind hnames ?_
  have hsrc := hs env ns loc σ ρ s A hA F iv
  rw [h1] at hsrc
  refine wpAny_mono hsrc (fun xv s₁ hp => ?_) fun _ _ f => f.elim
  obtain ⟨ρ₁, H₁, tk₁, rfl, i₁, x₁, r₁⟩ := hp
  refine RSrc.iter (s := { s with heap := H₁, toks := tk₁ }) i₁ x₁ r₁ fun it wr h₂ hk₂ wk hdead => ?_
  have i₂ := i₁.keeps hk₂
  have x₂ : Ext [] ρ s.heap ρ₁ h₂ := x₁.trans (Ext.of_keeps hk₂)
  have F₂ : Frm env ns loc ρ₁ h₂ := F.ext0 x₂
  -- the list that grows, the block's names
  refine wpAny_newObj_type (T := "list") (wpAny_newFunctionEnv hnc (by intro y hy; simp at hy) (fun h₃ hns₃ hsb₃ => ?_) hkind)
  dsimp only at hns₃ hsb₃ ⊢
  have hD3 : ∀ b o, h₂.get? b = some o → h₃.get? b = some o := fun b o e => hsb₃.extBut b o (Nat.ne_of_lt (Heap.lt_size (Heap.get?_push_of_some _ e))) (Heap.get?_push_of_some _ (Heap.get?_push_of_some _ e))
  generalize hH2 : h₂.push { cls := .type "list", dict := none, data := .seq ([] : List Value).toArray } = H2 at hns₃ hsb₃ ⊢
  have hDg : h₃.get? h₂.objs.size = some (listO [] 0) := hsb₃.extBut _ _ (by rw [← hH2, Heap.size_push]; exact Nat.ne_of_lt (Nat.lt_succ_self _)) (Heap.get?_push_of_some _ (hH2 ▸ Heap.get?_push_size _ rfl))
  have hDC : h₂.objs.size ≠ H2.objs.size := by rw [← hH2, Heap.size_push]; exact Nat.ne_of_lt (Nat.lt_succ_self _)
  have deadD := size_dead x₂.alive
  have hs2 : H2.objs.size = h₂.objs.size + 1 := by rw [← hH2, Heap.size_push]
  have deadC2 : h₂.get? H2.objs.size = none := by
    cases e : h₂.get? H2.objs.size with
    | none => rfl
    | some o => exact absurd (Heap.lt_size e) (by rw [hs2]; exact Nat.not_lt.mpr (Nat.le_succ _))
  have deadC : s.heap.get? H2.objs.size = none := by
    cases e : s.heap.get? H2.objs.size with
    | none => rfl
    | some o => obtain ⟨o', e'⟩ := x₂.alive _ _ e; rw [deadC2] at e'; cases e'
  have i₃ := i₂.keeps hD3
  have offD : offMap ρ₁ h₂.objs.size := i₂.off_size
  have offC : offMap ρ₁ H2.objs.size := fun p hp => by
    obtain ⟨⟨o1, e1⟩, ⟨o2, e2⟩⟩ := i₂.alive hp
    exact ⟨fun e => (by rw [← e, deadC2] at e1; cases e1), fun e => (by rw [← e, deadC2] at e2; cases e2)⟩
  have F₃ : Frm env ns loc ρ₁ h₃ := F₂.ext0 (Ext.of_keeps hD3)
  generalize hce : ({ newEnv scope H2.objs.size env.globals cl env.qual none .none (some env) (builtinsNs) with scope := relabel scope env } : Env) = cenv
  have hcloc : cenv.locals = H2.objs.size := by rw [← hce]; rfl
  have hccell : cenv.cells = cl := by rw [← hce]; rfl
  have Fc : Frm cenv (relab ns scope.names) loc' ρ₁ h₃ := compFrm F₃ hin hkind hcl hcl2 (by rw [← hce]; rfl) hns₃ offC fun x d hd e => by
    obtain ⟨_, o, ho, _⟩ := F₂.live x d hd
    rw [e, deadC2] at ho; cases ho
  have hcl_live : ∀ y c, cenv.cells.lookup y = some c → ∃ o, s.heap.get? c = some o := fun y c hc => by
    rw [hccell] at hc
    obtain ⟨_, o, ho, _⟩ := F.live y c (hcl _ _ hc)
    exact ⟨o, ho⟩
  have K : CK h₀ s.heap cenv wr h₂.objs.size :=
    { deadW := hdead
      deadD := deadD
      deadC := by rw [hcloc]; exact deadC
      offW := fun b hb => by
        refine ⟨fun e => ?_, fun y c hc e => ?_⟩
        · obtain ⟨_, o, ho, _⟩ := wk.own b hb
          rw [e, hcloc, deadC2] at ho; cases ho
        · obtain ⟨o, ho⟩ := hcl_live y c hc
          rw [← e, hdead b hb] at ho; cases ho
      offD := ⟨by rw [hcloc]; exact hDC, fun y c hc e => by
          obtain ⟨o, ho⟩ := hcl_live y c hc
          rw [← e, deadD] at ho; cases ho⟩
      base := fun b o e => ⟨o, iv.base b o e⟩
      DW := fun hm => by
        obtain ⟨_, o, ho, _⟩ := wk.own _ hm
        exact absurd (Heap.lt_size ho) (Nat.lt_irrefl _) }
  have X : CE prog w h₀ ρ s.heap cenv (relab ns scope.names) h₂.objs.size loc' [] σ₃ ρ₁ h₃ :=
    { inv := i₃
      frm := Fc
      ext := x₂.trans (Ext.of_keeps hD3)
      acc := ⟨[], 0, hDg, .nil⟩
      off := offD }
  have wk3 := wk.ext (Ext.of_keeps (W := []) hD3) fun b hb hm => absurd hm List.not_mem_nil
  have loop := fun tk => compLoop_ok (iter := iter) (scope := scope) (pos := pos) (sb := s) hA K ht he htg (N + 1) 0 loc' [] σ₃ ρ₁ h₃ tk l σ₄ X wk3 h4 (by simpa using hl)
  have fin : ∀ tk, codeAny (model prog w) A (.compLoop (.ListComp elt [⟨target, iter, ifs, 0⟩] scope pos) 0 it (.ref h₂.objs.size) cenv) (compPost (model prog w) A E use Q (.ref h₂.objs.size) H2.objs.size) { s with heap := h₃, toks := tk } := fun tk => by
    refine codeAny_mono (loop tk) fun r s' hr => ?_
    obtain ⟨rfl, loc₅, ρ₅, H₅, tk₅, rfl, X₅⟩ := hr
    obtain ⟨vs, k, g, rv⟩ := X₅.acc
    obtain ⟨m, hn, _⟩ := X₅.frm.vars
    rw [hcloc] at hn
    have offC5 := X₅.frm.offL
    rw [hcloc] at offC5
    refine hend _ _ _ (ρ₅ ++ [(h₂.objs.size, h₂.objs.size)]) H₅ tk₅ m (X₅.inv.adopt X₅.off (K.base0 deadD) ⟨rfl, vs, k, g, by rw [rv.length]; simpa using hl, rv.sub Sub.snoc⟩) (X₅.ext.adopt deadD) (.ref (d := h₂.objs.size) ?_) hn (fun p hp => ?_) deadC
    · rw [← X₅.inv.len, List.getElem?_append_right (Nat.le_refl _), Nat.sub_self]; rfl
    · rcases List.mem_append.mp hp with hp | hp
      · exact offC5 p hp
      · rw [List.mem_singleton.mp hp]; exact ⟨hDC.symm, hDC.symm⟩
  exact codeAny_compStart_list (fin _) (wk3.self (s := { s with heap := h₃, toks := _ }) (fin _))
end
end Mine

namespace Mine
open PySem PyProof.Rows

section
variable {prog : Program} {w : World} {h₀ hb : Heap} {A : Around} {W wr : List Addr} {ρ ρ' ρb : Map} {s sb : Shared} {σ : Store} {fns : Str → Option Fn} {glob : Str → Option V} {mg mb : Str → Option Value}
variable {env cenv : Env} {ns ns' : Names} {loc : Loc} {C : Cfg} {n : Nat}

/-- a comprehension's names let go -/
theorem comp_end {c : Addr} {H h' : Heap} {m : Str → Option Value} (i : Inv prog w h₀ σ ρ' H) (x : Ext W ρ hb ρ' H) (h0 : ∀ b o, h₀.get? b = some o → ∃ o', hb.get? b = some o') (hn : H.Ns c m) (off : offMap ρ' c) (hd : hb.get? c = none) (hs : Heap.SameBut c H h') :
    Inv prog w h₀ σ ρ' h' ∧ Ext W ρ hb ρ' h' ∧ KeepBut [c] H h' ∧ Own [c] ρ' H := by
  have hk : KeepBut [c] H h' := KeepBut.of_but hs.extBut (List.mem_singleton.mpr rfl)
  have own : Own [c] ρ' H := fun b hb => by
    rw [List.mem_singleton.mp hb]
    obtain ⟨o, es, ep, ho, r⟩ := id hn
    exact ⟨off, o, ho, ns_not_tup hn ho⟩
  refine ⟨i.but hk own fun b hb' => ?_, x.but hk fun b hb' => by rw [List.mem_singleton.mp hb']; exact hd, hk, own⟩
  rw [List.mem_singleton.mp hb']
  cases e : h₀.get? c with
  | none => rfl
  | some o => obtain ⟨o', e'⟩ := h0 _ _ e; rw [hd] at e'; cases e'

theorem ev_listcomp {elt target iter : Expr} {ifs : List Expr} {scope : Scope} {pos : Pos} (hs : SrcS prog w h₀ C n iter) (ht : TestsS prog w h₀ C n ifs) (he : EvS prog w h₀ C n elt) : EvS prog w h₀ C n (.ListComp elt [⟨target, iter, ifs, 0⟩] scope pos) :=
  fun env ns loc σ ρ s A hA F i => by
  show Sim prog w h₀ A [] _ (compM C elt target iter ifs scope ns loc σ) RV ρ s
  cases h : compM C elt target iter ifs scope ns loc σ with
  | bad => exact trivial
  | exc _ _ => exact trivial
  | ok v σ' =>
    refine comp_core (use := none) hA F i hs ht he h fun D c f ρ' H tk m i' x' r hn off hd => ⟨m, hn, fun h' hsb => ?_⟩
    obtain ⟨i₂, x₂, hk, own⟩ := comp_end i' x' (fun b o e => ⟨o, i.base b o e⟩) hn off hd hsb
    exact ⟨ρ', h', tk, rfl, i₂, x₂, r.sub (hk.sub own)⟩

/-! ## statements -/
noncomputable def RFl (ρ : Map) (h : Heap) : Fl → Flow → Prop
  | .next, f => f = .next
  | .brk, f => f = .brk
  | .cont, f => f = .cont
  | .ret v, f => ∃ val, f = .ret val ∧ Rel ρ h val v
noncomputable def RX (env : Env) (ns : Names) : Fl × Loc → Map → Heap → Flow → Prop := fun r ρ h f => RFl ρ h r.1 f ∧ Frm env ns r.2 ρ h

variable (prog w h₀ C n) in
noncomputable def ExS (st : Stmt) : Prop := ∀ (env : Env) (ns : Names) (loc : Loc) (σ : Store) (ρ : Map) (s : Shared) (A : Around), Rm A n → (∀ b ∈ frameW env, h₀.get? b = none) → Frm env ns loc ρ s.heap → Inv prog w h₀ σ ρ s.heap →
  Sim prog w h₀ A (frameW env) (exec st env) (ex C st ns loc σ) (RX env ns) ρ s
variable (prog w h₀ C n) in
noncomputable def ExsS (sts : List Stmt) : Prop := ∀ (env : Env) (ns : Names) (loc : Loc) (σ : Store) (ρ : Map) (s : Shared) (A : Around), Rm A n → (∀ b ∈ frameW env, h₀.get? b = none) → Frm env ns loc ρ s.heap → Inv prog w h₀ σ ρ s.heap →
  Sim prog w h₀ A (frameW env) (execs sts env) (exs C sts ns loc σ) (RX env ns) ρ s

/-- an expression within a statement -/
theorem EvS.st {e : Expr} (he : EvS prog w h₀ C n e) (hA : Rm A n) (F : Frm env ns loc ρ s.heap) (i : Inv prog w h₀ σ ρ s.heap) : Sim prog w h₀ A W (eval e env) (ev C e ns loc σ) (fun v ρ' h' b => Rel ρ' h' b v ∧ Frm env ns loc ρ' h') ρ s := by
  have := he env ns loc σ ρ s A hA F i
  cases h : ev C e ns loc σ with
  | bad => exact trivial
  | exc _ _ => exact trivial
  | ok v σ' =>
    rw [h] at this
    refine wpAny_mono this (fun b s' hp => ?_) fun _ _ x => x
    obtain ⟨ρ₁, H, tk, rfl, i₁, x₁, r₁⟩ := hp
    exact ⟨ρ₁, H, tk, rfl, i₁, x₁.weak fun _ hm => absurd hm List.not_mem_nil, r₁, F.ext0 x₁⟩
theorem TstS.st {e : Expr} (he : TstS prog w h₀ C n e) (hA : Rm A n) (F : Frm env ns loc ρ s.heap) (i : Inv prog w h₀ σ ρ s.heap) : Sim prog w h₀ A W (isTrue e env (eval e env)) (tst C e ns loc (ev C e ns loc) σ) (fun v ρ' h' b => b = v ∧ Frm env ns loc ρ' h') ρ s := by
  have := he env ns loc σ ρ s A hA F i
  cases h : tst C e ns loc (ev C e ns loc) σ with
  | bad => exact trivial
  | exc _ _ => exact trivial
  | ok v σ' =>
    rw [h] at this
    refine wpAny_mono this (fun b s' hp => ?_) fun _ _ x => x
    obtain ⟨ρ₁, H, tk, rfl, i₁, x₁, r₁⟩ := hp
    exact ⟨ρ₁, H, tk, rfl, i₁, x₁.weak fun _ hm => absurd hm List.not_mem_nil, r₁, F.ext0 x₁⟩

theorem exs_nil : ExsS prog w h₀ C n [] := fun env ns loc σ ρ s A hA hf F i => Sim.ret i ⟨rfl, F⟩
theorem exs_cons {st : Stmt} {r : List Stmt} (h : ExS prog w h₀ C n st) (hr : ExsS prog w h₀ C n r) : ExsS prog w h₀ C n (st :: r) := fun env ns loc σ ρ s A hA hf F i => by
  rw [execs_cons]
  show Sim prog w h₀ A (frameW env) _ ((ex C st ns loc >>= fun x => andThen x (exs C r ns)) σ) (RX env ns) ρ s
  refine Sim.bind (h env ns loc σ ρ s A hA hf F i) fun a σ₁ ρ₁ H tk f i₁ x₁ r₁ => ?_
  obtain ⟨fl, loc₁⟩ := a
  obtain ⟨rf, F₁⟩ := r₁
  cases fl with
  | next => cases rf; exact hr env ns loc₁ σ₁ ρ₁ _ A hA hf F₁ i₁
  | brk => cases rf; exact Sim.ret i₁ ⟨rfl, F₁⟩
  | cont => cases rf; exact Sim.ret i₁ ⟨rfl, F₁⟩
  | ret v =>
    obtain ⟨val, rfl, rv⟩ := rf
    exact Sim.ret i₁ ⟨⟨val, rfl, rv⟩, F₁⟩

theorem ex_pass {pos : Pos} : ExS prog w h₀ C n (.Pass pos) := fun env ns loc σ ρ s A hA hf F i => by
  rw [arm_exec_Pass]; exact Sim.standAt (Sim.ret i ⟨rfl, F⟩)
theorem ex_return0 {pos : Pos} : ExS prog w h₀ C n (.Return none pos) := fun env ns loc σ ρ s A hA hf F i => by
  rw [arm_exec_Return]; exact Sim.standAt (Sim.ret i ⟨⟨.none, rfl, .none⟩, F⟩)
theorem ex_return {e : Expr} {pos : Pos} (he : EvS prog w h₀ C n e) : ExS prog w h₀ C n (.Return (some e) pos) := fun env ns loc σ ρ s A hA hf F i => by
  rw [arm_exec_Return]
  refine Sim.standAt (Sim.bind (he.st hA F i) fun a σ₁ ρ₁ H tk b i₁ x₁ r₁ => ?_)
  exact Sim.ret i₁ ⟨⟨b, rfl, r₁.1⟩, r₁.2⟩
theorem ex_if {t : Expr} {a b : List Stmt} {pos : Pos} (ht : TstS prog w h₀ C n t) (ha : ExsS prog w h₀ C n a) (hb : ExsS prog w h₀ C n b) : ExS prog w h₀ C n (.If t a b pos) := fun env ns loc σ ρ s A hA hf F i => by
  rw [arm_exec_If]
  refine Sim.standAt (Sim.bind (ht.st hA F i) fun c σ₁ ρ₁ H tk c' i₁ x₁ r₁ => ?_)
  obtain ⟨rfl, F₁⟩ := r₁
  cases c' with
  | true => exact ha env ns loc σ₁ ρ₁ _ A hA hf F₁ i₁
  | false => exact hb env ns loc σ₁ ρ₁ _ A hA hf F₁ i₁

theorem Sim.dropValue {e : Expr} {p : Pos} {v : Value} (i : Inv prog w h₀ σ ρ s.heap) (F : Frm env ns loc ρ s.heap) : Sim prog w h₀ A W (PySem.dropValue e p v) ((Pure.pure (Fl.next, loc) : M (Fl × Loc)) σ) (RX env ns) ρ s := by
  have fin : Post prog w h₀ W ρ s σ (fun ρ' h' => RX env ns (.next, loc) ρ' h' .next) s := ⟨ρ, s.heap, s.toks, rfl, i, Ext.refl, rfl, F⟩
  have go : wpAny (model prog w) A (do PySem.standAt p; let _ ← runValue (.builtin "proto.let_go" {}); Pure.pure Flow.next) (fun b s' => Post prog w h₀ W ρ s σ (fun ρ' h' => RX env ns (.next, loc) ρ' h' b) s') (fun _ _ => False) s :=
    wpAny_bind (wpAny_standAt (wpAny_bind (wpAny_runValue (codeAny_builtin entry_let_go (show wpAny _ _ (PySem.ret .none) _ _ s from wpAny_pure (wpAny_pure fin))))))
  cases e <;> cases v <;> first | exact wpAny_pure fin | exact go

theorem ex_expr {f : Expr} {as : List Expr} {p pos : Pos} (he : EvS prog w h₀ C n (.Call f as [] p)) : ExS prog w h₀ C n (.Expr (.Call f as [] p) pos) := fun env ns loc σ ρ s A hA hf F i => by
  rw [arm_exec_Expr]
  have hi : interactive env = false := by unfold interactive; rw [F.kind]; rfl
  have hsw : swapsWith (.Call f as [] p) none pos.line env = Pure.pure false := rfl
  rw [hi, hsw]
  refine Sim.standAt ?_
  show Sim prog w h₀ A (frameW env) (eval (.Call f as [] p) env >>= fun v => PySem.dropValue (.Call f as [] p) pos v) ((ev C (.Call f as [] p) ns loc >>= fun _ => (Pure.pure (Fl.next, loc) : M (Fl × Loc))) σ) (RX env ns) ρ s
  exact Sim.bind (he.st hA F i) fun a σ₁ ρ₁ H tk b i₁ x₁ r₁ => Sim.dropValue i₁ r₁.2

/-! assignments -/
theorem Sim.pureNext {t : Sem Unit} {m : M Loc} (h : Sim prog w h₀ A W t (m σ) (RFrm env ns) ρ s) : Sim prog w h₀ A W (t >>= fun _ => Pure.pure Flow.next) ((m >>= fun l => (Pure.pure (Fl.next, l) : M (Fl × Loc))) σ) (RX env ns) ρ s :=
  Sim.bind h fun a σ₁ ρ₁ H tk b i₁ x₁ r₁ => Sim.ret i₁ ⟨rfl, r₁⟩

variable (prog w h₀ C n) in
/-- what an assignment needs of a comprehension to its right -/
noncomputable def CompS (value : Expr) : Prop := ∀ elt t it ifs sc p, value = .ListComp elt [⟨t, it, ifs, 0⟩] sc p → SrcS prog w h₀ C n it ∧ TestsS prog w h₀ C n ifs ∧ EvS prog w h₀ C n elt

theorem ex_assignName_plain {x : Str} {p pos : Pos} {value : Expr} (hv : EvS prog w h₀ C n value) (hA : Rm A n) (hf : ∀ b ∈ frameW env, h₀.get? b = none) (F : Frm env ns loc ρ s.heap) (i : Inv prog w h₀ σ ρ s.heap) (hsw : swapsWith value (some (.Name x p)) pos.line env = pure false) :
    Sim prog w h₀ A (frameW env) (exec (.Assign [.Name x p] value pos) env) (ex C (.Assign [.Name x p] value pos) ns loc σ) (RX env ns) ρ s := by
  rw [PySem.exec_Assign_Name _ _ _ _ _ hsw]
  show Sim prog w h₀ A (frameW env) _ ((ev C value ns loc >>= fun v => stLoc ns x v loc >>= fun l => (Pure.pure (Fl.next, l) : M (Fl × Loc))) σ) (RX env ns) ρ s
  refine Sim.standAt (Sim.bind (hv.st hA F i) fun a σ₁ ρ₁ H tk b i₁ x₁ r₁ => Sim.standAt ?_)
  exact Sim.pureNext (Sim.bindName ((stLoc_ok hf).store x b a loc σ₁ ρ₁ _ A r₁.2 i₁ r₁.1))

theorem ex_assignName_used {x : Str} {p pos cp : Pos} {elt target iter : Expr} {ifs : List Expr} {scope : Scope} (hs : SrcS prog w h₀ C n iter) (ht : TestsS prog w h₀ C n ifs) (he : EvS prog w h₀ C n elt) (hA : Rm A n) (hf : ∀ b ∈ frameW env, h₀.get? b = none)
    (F : Frm env ns loc ρ s.heap) (i : Inv prog w h₀ σ ρ s.heap) (hsw : swapsWith (.ListComp elt [⟨target, iter, ifs, 0⟩] scope cp) (some (.Name x p)) pos.line env = pure true) :
    Sim prog w h₀ A (frameW env) (exec (.Assign [.Name x p] (.ListComp elt [⟨target, iter, ifs, 0⟩] scope cp) pos) env) (ex C (.Assign [.Name x p] (.ListComp elt [⟨target, iter, ifs, 0⟩] scope cp) pos) ns loc σ) (RX env ns) ρ s := by
  rw [exec_Assign_Name_used _ _ _ _ hsw]
  show Sim prog w h₀ A (frameW env) _ ((compM C elt target iter ifs scope ns loc >>= fun v => stLoc ns x v loc >>= fun l => (Pure.pure (Fl.next, l) : M (Fl × Loc))) σ) (RX env ns) ρ s
  cases h : compM C elt target iter ifs scope ns loc σ with
  | bad => rw [bind_bad h]; exact trivial
  | exc _ _ => rw [bind_exc h]; exact trivial
  | ok v σ' =>
    rw [bind_ok h]
    cases h2 : stLoc ns x v loc σ' with
    | bad => rw [bind_bad h2]; exact trivial
    | exc _ _ => rw [bind_exc h2]; exact trivial
    | ok loc' σ'' =>
      rw [bind_ok h2]
      refine wpAny_bind (wpAny_standAt (wpAny_bind ?_))
      rw [arm_evalThenUse_ListComp]
      refine wpAny_bind (comp_core (use := some (assign (.Name x p) env)) (Q := fun _ s' => _) hA F i hs ht he h fun D c f ρ' H tk m i' x' r hn off hd => ?_)
      have st := Sim.bindTo (s := { s with heap := H, toks := tk }) (t := .Name x p) (stLoc_ok (prog := prog) (w := w) (env := env) (ns := ns) hf) hA.handled (F.ext0 x') i' r
      rw [show bindTo (stLoc ns) (.Name x p) v loc σ' = .ok loc' σ'' from h2] at st
      refine wpAny_mono st (fun _ s' hp => ?_) fun _ _ f => f
      obtain ⟨ρ₁, H₁, tk₁, rfl, i₁, x₁, F₁⟩ := hp
      have hcF : offFrame env c := F.offDead hd
      obtain ⟨o, es, ep, ho, rr⟩ := id hn
      have hn1 : H₁.Ns c m := ⟨o, es, ep, x₁.keep _ _ ho hcF.notin off, rr⟩
      refine ⟨m, hn1, fun h' hsb => wpAny_pure (wpAny_pure ?_)⟩
      have x2 : Ext (frameW env) ρ s.heap ρ₁ H₁ := (x'.weak fun _ hm => absurd hm List.not_mem_nil).trans x₁
      obtain ⟨i₂, x₂, hk, own⟩ := comp_end i₁ x2 (fun b o e => ⟨o, i.base b o e⟩) hn1 (offMap.ext x₁ ho off) hd hsb
      exact ⟨ρ₁, h', tk₁, rfl, i₂, x₂, rfl, F₁.but hk own fun b hb => by rw [List.mem_singleton.mp hb]; exact hcF⟩

theorem ex_assignName {x : Str} {p pos : Pos} {value : Expr} (hv : EvS prog w h₀ C n value) (hc : CompS prog w h₀ C n value) : ExS prog w h₀ C n (.Assign [.Name x p] value pos) := fun env ns loc σ ρ s A hA hf F i => by
  have plain := fun hsw => ex_assignName_plain (x := x) (p := p) (pos := pos) hv hA hf F i hsw
  have badv : ∀ (hb : ev C value ns loc σ = .bad), Sim prog w h₀ A (frameW env) (exec (.Assign [.Name x p] value pos) env) (ex C (.Assign [.Name x p] value pos) ns loc σ) (RX env ns) ρ s := fun hb => by
    show Sim prog w h₀ A (frameW env) _ ((ev C value ns loc >>= fun v => stLoc ns x v loc >>= fun l => (Pure.pure (Fl.next, l) : M (Fl × Loc))) σ) (RX env ns) ρ s
    rw [bind_bad hb]; exact trivial
  cases value with
  | ListComp elt gens scope cp =>
    have hb : ∃ b, swapsWith (.ListComp elt gens scope cp) (some (.Name x p)) pos.line env = Pure.pure b := ⟨_, rfl⟩
    obtain ⟨b, hb⟩ := hb
    cases b with
    | false => exact plain hb
    | true =>
      rcases comp_cases gens with ⟨t, it, ifs, rfl⟩ | hbad
      · obtain ⟨h1, h2, h3⟩ := hc elt t it ifs scope cp rfl
        exact ex_assignName_used h1 h2 h3 hA hf F i hb
      · exact badv (by rw [hbad]; rfl)
  | SetComp _ _ _ _ => exact badv rfl
  | DictComp _ _ _ _ _ => exact badv rfl
  | _ => exact plain rfl

theorem ex_assignSub {o i : Expr} {p pos : Pos} {value : Expr} (hv : EvS prog w h₀ C n value) (ho : EvS prog w h₀ C n o) (hi : EvS prog w h₀ C n i) : ExS prog w h₀ C n (.Assign [.Subscript o i p] value pos) := fun env ns loc σ ρ s A hA hf F iv => by
  rw [exec_Assign_Subscript _ _ _ _ _ (by cases value <;> rfl)]
  show Sim prog w h₀ A (frameW env) _ ((ev C value ns loc >>= fun v => ev C o ns loc >>= fun a => ev C i ns loc >>= fun b => Mine.setItem a b v >>= fun _ => (Pure.pure (Fl.next, loc) : M (Fl × Loc))) σ) (RX env ns) ρ s
  refine Sim.standAt (Sim.bind (hv.st hA F iv) fun a σ₁ ρ₁ H₁ tk₁ va i₁ x₁ r₁ => ?_)
  rw [arm_assign_Subscript]
  simp only [bind_assoc]
  refine Sim.bind (Sim.holding (ho.st hA r₁.2 i₁)) fun b σ₂ ρ₂ H₂ tk₂ vb i₂ x₂ r₂ => ?_
  refine Sim.bind (Sim.holding (hi.st hA r₂.2 i₂)) fun c σ₃ ρ₃ H₃ tk₃ vc i₃ x₃ r₃ => Sim.standAt ?_
  have F₃ := r₃.2
  refine Sim.bind (R := fun _ ρ' h' _ => Frm env ns loc ρ' h') (Sim.holding ?_) fun _ σ₄ ρ₄ H₄ tk₄ _ i₄ x₄ F₄ => Sim.ahead (fun _ _ hq => wpAny_release hq) (Sim.ret i₄ ⟨rfl, F₄⟩)
  have hset := Sim.setItem (prog := prog) (w := w) (A := A) (W := []) (s := { s with heap := H₃, toks := tk₃ }) i₃ (r₂.1.ext x₃) r₃.1 ((r₁.1.ext x₂).ext x₃)
  cases h : Mine.setItem b c a σ₃ with
  | bad => exact trivial
  | exc _ _ => exact trivial
  | ok u σ' =>
    rw [h] at hset
    refine wpAny_mono hset (fun _ s' hp => ?_) fun _ _ f => f
    obtain ⟨ρ₅, H₅, tk₅, rfl, i₅, x₅, _⟩ := hp
    exact ⟨ρ₅, H₅, tk₅, rfl, i₅, x₅.weak fun _ hm => absurd hm List.not_mem_nil, F₃.ext0 x₅⟩

theorem ex_assignTup {ts : List Expr} {k : Nat} {p pos : Pos} {value : Expr} (hv : EvS prog w h₀ C n value) : ExS prog w h₀ C n (.Assign [.Tuple ts k p] value pos) := fun env ns loc σ ρ s A hA hf F i => by
  rw [arm_exec_Assign]
  show Sim prog w h₀ A (frameW env) _ ((if isTupE value = true then M.bad else (ev C value ns loc >>= fun v => bindTo (stLoc ns) (.Tuple ts k p) v loc >>= fun l => (Pure.pure (Fl.next, l) : M (Fl × Loc)))) σ) (RX env ns) ρ s
  by_cases ht : isTupE value = true
  · rw [if_pos ht]; exact trivial
  · rw [if_neg ht]
    have h1 : swapsWithSole [.Tuple ts k p] value pos.line env = Pure.pure false := by cases value <;> rfl
    have h2 : swappedStores [.Tuple ts k p] value env = Pure.pure none := by cases value <;> first | rfl | exact absurd rfl ht
    rw [h1, h2]
    refine Sim.standAt ?_
    show Sim prog w h₀ A (frameW env) (eval value env >>= fun v => (assign (.Tuple ts k p) env v >>= fun _ => Pure.pure Flow.next)) _ (RX env ns) ρ s
    refine Sim.bind (hv.st hA F i) fun a σ₁ ρ₁ H₁ tk₁ va i₁ x₁ r₁ => ?_
    exact Sim.pureNext (Sim.bindTo (stLoc_ok hf) hA.handled r₁.2 i₁ r₁.1)
end
end Mine

namespace Mine
open PySem PyProof.Rows

section
variable {prog : Program} {w : World} {h₀ hb : Heap} {A : Around} {W wr : List Addr} {ρ ρ' ρb : Map} {s sb : Shared} {σ : Store} {fns : Str → Option Fn} {glob : Str → Option V} {mg mb : Str → Option Value}
variable {env cenv : Env} {ns ns' : Names} {loc : Loc} {C : Cfg} {n : Nat}

/-! ## for -/
theorem forLoop_turn {R : Result → Shared → Prop} {target : Expr} {it : Value} {body : List Stmt}
    (h : wpAny (model prog w) A (pyNext it) (fun r s₁ => match r with
      | none => R (.ok .next) s₁
      | some v => wpAny (model prog w) A (letOwnedTupleGo target it v) (fun _ s₁' =>
          wpAny (model prog w) A (assign target env v) (fun _ s₂ => wpAny (model prog w) A (execs body env) (fun f s₃ => match f with
            | .next | .cont => codeAny (model prog w) A (.forLoop target it body [] env) R s₃
            | .brk => R (.ok .next) s₃
            | .ret v => R (.ok (.ret v)) s₃) (fun _ _ => False) s₂) (fun _ _ => False) s₁') (fun _ _ => False) s₁) (fun _ _ => False) s) :
    codeAny (model prog w) A (.forLoop target it body [] env) R s := by
  refine codeAny_of_tree ?_
  show wpAny _ A ((forTurn target it body [] env).onRaise (fun x => do noteFrame x env; theTreesLotGoes x)) _ _ s
  refine wpAny_noted ?_
  simp only [forTurn]
  refine wpAny_bind (wpAny_standAt (wpAny_bind (wpAny_onRaise (wpAny_mono h (fun r s₁ h₁ => ?_) fun _ _ h' => h'.elim))))
  cases r with
  | none => exact wpAny_pure ⟨rfl, codeAny_block (wpAny_execs_nil h₁)⟩
  | some v =>
    refine wpAny_bind (wpAny_mono h₁ (fun _ s₁' h₁' => ?_) fun _ _ h' => h'.elim)
    refine wpAny_bind (wpAny_mono h₁' (fun _ s₂ h₂ => wpAny_bind (wpAny_mono h₂ (fun f s₃ h₃ => ?_) fun _ _ h' => h'.elim)) fun _ _ h' => h'.elim)
    cases f with
    | next => exact wpAny_pure ⟨rfl, h₃⟩
    | cont => exact wpAny_pure ⟨rfl, h₃⟩
    | brk => exact wpAny_pure h₃
    | ret v => exact wpAny_pure h₃

/-- the state of a loop, but for its walk -/
structure FE (prog : Program) (w : World) (h₀ : Heap) (ρb : Map) (hb : Heap) (env : Env) (ns : Names) (loc : Loc) (σ : Store) (ρ : Map) (h : Heap) : Prop where
  inv : Inv prog w h₀ σ ρ h
  frm : Frm env ns loc ρ h
  ext : Ext (frameW env) ρb hb ρ h
structure FK (h₀ : Heap) (hb : Heap) (env : Env) (wr : List Addr) : Prop where
  deadW : ∀ b ∈ wr, hb.get? b = none
  dead0 : ∀ b ∈ wr, h₀.get? b = none
  offW : ∀ b ∈ wr, offFrame env b

theorem FE.but {h h' : Heap} (K : FK h₀ hb env wr) (x : FE prog w h₀ ρb hb env ns loc σ ρ h) (hk : KeepBut wr h h') (ho : Own wr ρ h) : FE prog w h₀ ρb hb env ns loc σ ρ h' where
  inv := x.inv.but hk ho K.dead0
  frm := x.frm.but hk ho K.offW
  ext := x.ext.but hk K.deadW

theorem forLoop_step {sr : Src} {bt : V → Loc → M Loc} {body : Loc → M (Fl × Loc)} {k i : Nat} {o : Option V} (h : sr.at σ i = some o) : forLoop sr bt body (k + 1) i loc σ =
    (match o with | none => (pure (.next, loc) : M (Fl × Loc)) | some v => (bt v loc >>= fun loc' => body loc' >>= fun r => match r.1 with
      | .next => forLoop sr bt body k (i + 1) r.2
      | .cont => forLoop sr bt body k (i + 1) r.2
      | .brk => pure (.next, r.2)
      | .ret v => pure (.ret v, r.2))) σ := by
  show (sr.get i >>= _) σ = _
  refine (bind_ok (a := o) (σ' := σ) (by unfold Src.get askS; dsimp only; rw [h])).trans ?_
  cases o <;> rfl
theorem forLoop_bad {sr : Src} {bt : V → Loc → M Loc} {body : Loc → M (Fl × Loc)} {k i : Nat} (h : sr.at σ i = none) : forLoop sr bt body (k + 1) i loc σ = .bad := by
  show (sr.get i >>= _) σ = _
  rw [bind_bad (by unfold Src.get askS; dsimp only; rw [h])]

theorem forLoop_ok {target : Expr} {body : List Stmt} {sr : Src} {it : Value} (hA : Rm A n) (K : FK h₀ hb env wr) (hf : ∀ b ∈ frameW env, h₀.get? b = none) (hbd : ExsS prog w h₀ C n body) (htg : tgtOk sr target = true) :
    ∀ (k i : Nat) (loc : Loc) (σ : Store) (ρ : Map) (H : Heap) (tk : Nat) (r : Fl × Loc) (σ' : Store), FE prog w h₀ ρb hb env ns loc σ ρ H → ItAt sr it wr i ρ H →
      forLoop sr (bindTo (stLoc ns) target) (exs C body ns) k i loc σ = .ok r σ' →
      codeAny (model prog w) A (.forLoop target it body [] env)
        (fun res s' => ∃ f ρ' H' tk', res = .ok f ∧ s' = { sb with heap := H', toks := tk' } ∧ RFl ρ' H' r.1 f ∧ FE prog w h₀ ρb hb env ns r.2 σ' ρ' H') { sb with heap := H, toks := tk }
  | 0, _, _, _, _, _, _, _, _, _, _, h => by cases h
  | k + 1, i, loc, σ, ρ, H, tk, r, σ', x, wk, h => by
    have S := stLoc_ok (prog := prog) (w := w) (env := env) (ns := ns) hf
    have offW : ∀ b ∈ wr, b ∉ frameW env := fun b hb => (K.offW b hb).notin
    cases hat : sr.at σ i with
    | none => rw [forLoop_bad hat] at h; cases h
    | some o =>
      rw [forLoop_step hat] at h
      refine forLoop_turn (s := { sb with heap := H, toks := tk }) (wk.next (s := { sb with heap := H, toks := tk }) hA.handled x.inv hat htg (fun h' hn hk => ?_) fun v val h' tk' hv hk hgo => ?_)
      · subst hn
        cases h
        exact ⟨.next, ρ, h', tk, rfl, rfl, rfl, x.but K hk wk.own⟩
      · subst hv
        obtain ⟨loc₁, σ₁, hb1, k1⟩ := bind_inv h
        obtain ⟨⟨fl, loc₂⟩, σ₂, hb2, k2⟩ := bind_inv k1
        refine hgo _ _ fun h'' hk'' rv wk' => ?_
        have x1 := x.but K hk'' wk.own
        have h1 := Sim.bindTo (s := { sb with heap := h'', toks := tk' }) (t := target) S hA.handled x1.frm x1.inv rv
        rw [hb1] at h1
        refine wpAny_mono h1 (fun _ s' hp => ?_) fun _ _ f => f
        obtain ⟨ρ₁, H₁, tk₁, rfl, i₁, e₁, F₁⟩ := hp
        have x2 : FE prog w h₀ ρb hb env ns loc₁ σ₁ ρ₁ H₁ := ⟨i₁, F₁, x1.ext.trans e₁⟩
        have wk2 := wk'.ext e₁ offW
        have h2 := hbd env ns loc₁ σ₁ ρ₁ { sb with heap := H₁, toks := tk₁ } A hA hf x2.frm x2.inv
        rw [hb2] at h2
        refine wpAny_mono h2 (fun f s' hp => ?_) fun _ _ f => f
        obtain ⟨ρ₂, H₂, tk₂, rfl, i₂, e₂, rf, F₂⟩ := hp
        have x3 : FE prog w h₀ ρb hb env ns loc₂ σ₂ ρ₂ H₂ := ⟨i₂, F₂, x2.ext.trans e₂⟩
        have wk3 := wk2.ext e₂ offW
        cases fl with
        | next => cases rf; exact forLoop_ok hA K hf hbd htg k (i + 1) loc₂ σ₂ ρ₂ H₂ tk₂ r σ' x3 wk3 k2
        | cont => cases rf; exact forLoop_ok hA K hf hbd htg k (i + 1) loc₂ σ₂ ρ₂ H₂ tk₂ r σ' x3 wk3 k2
        | brk => cases rf; cases k2; exact ⟨.next, ρ₂, H₂, tk₂, rfl, rfl, rfl, x3⟩
        | ret u =>
          obtain ⟨val, rfl, ru⟩ := rf
          cases k2
          exact ⟨.ret val, ρ₂, H₂, tk₂, rfl, rfl, ⟨val, rfl, ru⟩, x3⟩

theorem ex_for {target iter : Expr} {body : List Stmt} {pos : Pos} (hs : SrcS prog w h₀ C n iter) (hbd : ExsS prog w h₀ C n body) : ExS prog w h₀ C n (.For target iter body [] pos) := fun env ns loc σ ρ s A hA hf F iv => by
  show Sim prog w h₀ A (frameW env) _ ((src C iter ns loc (ev C iter ns loc) >>= fun sr => if tgtOk sr target = true then (sr.count >>= fun N => forLoop sr (bindTo (stLoc ns) target) (exs C body ns) (N + 1) 0 loc) else M.bad) σ) (RX env ns) ρ s
  cases h1 : src C iter ns loc (ev C iter ns loc) σ with
  | bad => rw [bind_bad h1]; exact trivial
  | exc _ _ => rw [bind_exc h1]; exact trivial
  | ok sr σ₁ =>
    rw [bind_ok h1]
    refine Sim.ite fun htg => ?_
    cases h2 : sr.count σ₁ with
    | bad => rw [bind_bad h2]; exact trivial
    | exc _ _ => rw [bind_exc h2]; exact trivial
    | ok N σ₂ =>
      rw [bind_ok h2]
      obtain ⟨rfl, h2'⟩ := ask_ok h2
      cases h3 : forLoop sr (bindTo (stLoc ns) target) (exs C body ns) (N + 1) 0 loc σ₂ with
      | bad => exact trivial
      | exc _ _ => exact trivial
      | ok r σ' =>
        have hset : ∀ es k p, iter ≠ .Set es k p := fun es k p e => by subst e; rw [src_set] at h1; cases h1
        have hsrc := hs env ns loc σ ρ s A hA F iv
        rw [h1] at hsrc
        refine wpAny_For (wpAny_mono hsrc (fun xv s₁ hp => ?_) fun _ _ f => f.elim) (set_no_fold hset)
        obtain ⟨ρ₁, H₁, tk₁, rfl, i₁, x₁, r₁⟩ := hp
        refine RSrc.iter (s := { s with heap := H₁, toks := tk₁ }) i₁ x₁ r₁ fun it wr h₂ hk₂ wk hdead => ?_
        have i₂ := i₁.keeps hk₂
        have x₂ : Ext [] ρ s.heap ρ₁ h₂ := x₁.trans (Ext.of_keeps hk₂)
        have K : FK h₀ s.heap env wr :=
          { deadW := hdead
            dead0 := fun b hb => by
              cases e : h₀.get? b with
              | none => rfl
              | some o => have := iv.base _ _ e; rw [hdead b hb] at this; cases this
            offW := fun b hb => F.offDead (hdead b hb) }
        have X : FE prog w h₀ ρ s.heap env ns loc σ₂ ρ₁ h₂ := ⟨i₂, F.ext0 x₂, x₂.weak fun _ hm => absurd hm List.not_mem_nil⟩
        refine codeAny_mono (forLoop_ok (sb := s) hA K hf hbd htg (N + 1) 0 loc σ₂ ρ₁ h₂ tk₁ r σ' X wk h3) fun res s' hr => ?_
        obtain ⟨f, ρ', H', tk', rfl, rfl, rf, X'⟩ := hr
        exact ⟨ρ', H', tk', rfl, X'.inv, X'.ext, rf, X'.frm⟩
end

/-! ## all expressions, all statements -/
section
variable {prog : Program} {w : World} {h₀ : Heap} {fns : Str → Option Fn} {glob : Str → Option V} {mg mb : Str → Option Value} {C : Cfg} {n : Nat}

theorem evS_bad {e : Expr} (h : ∀ ns loc, ev C e ns loc = M.bad) : EvS prog w h₀ C n e := fun env ns loc σ ρ s A hA F i => by rw [h]; exact trivial
theorem srcS_value {e : Expr} (he : EvS prog w h₀ C n e) (h : ∀ ns loc whole, src C e ns loc whole = (whole >>= srcV)) : SrcS prog w h₀ C n e := fun env ns loc σ ρ s A hA F i => by
  rw [h]; exact src_value he hA F i

end

end Mine

namespace Mine
open PySem PyProof.Rows

section
variable {prog : Program} {w : World} {h₀ : Heap} {fns : Str → Option Fn} {glob : Str → Option V} {mg mb : Str → Option Value} {C : Cfg} {n : Nat}

/-- what holds of every expression -/
structure Al (prog : Program) (w : World) (h₀ : Heap) (C : Cfg) (n : Nat) (e : Expr) : Prop where
  ev : EvS prog w h₀ C n e
  tst : TstS prog w h₀ C n e
  src : SrcS prog w h₀ C n e
  comp : CompS prog w h₀ C n e
  slice : ∀ lo hi q, e = .Slice lo hi none q → EvOptS prog w h₀ C n lo ∧ EvOptS prog w h₀ C n hi
  attr : ∀ o m q, e = .Attribute o m q → EvS prog w h₀ C n o

structure Hyp (prog : Program) (w : World) (h₀ : Heap) (fns : Str → Option Fn) (glob : Str → Option V) (mg mb : Str → Option Value) (C : Cfg) (n : Nat) : Prop where
  B : Base fns glob mg mb h₀
  fn : ∀ f, C.isFn f = (fns f).isSome
  glob : C.glob = glob
  ns : NoShadow fns
  call : CallS prog w h₀ mg C n

theorem evsS_of : ∀ {es : List Expr}, (∀ e ∈ es, EvS prog w h₀ C n e) → EvsS prog w h₀ C n es
  | [], _ => evs_nil
  | e :: r, h => evs_cons (h e (List.mem_cons_self ..)) (evsS_of fun e he => h e (List.mem_cons_of_mem _ he))
theorem evBoolS_of : ∀ {es : List Expr}, (∀ e ∈ es, EvS prog w h₀ C n e) → EvBoolS prog w h₀ C n es
  | [], _ => evBool_nil
  | e :: r, h => evBool_cons (h e (List.mem_cons_self ..)) (evBoolS_of fun e he => h e (List.mem_cons_of_mem _ he))
theorem tstAllS_of : ∀ {es : List Expr}, (∀ e ∈ es, TstS prog w h₀ C n e) → TstAllS prog w h₀ C n es
  | [], _ => tstAll_nil
  | e :: r, h => tstAll_cons (h e (List.mem_cons_self ..)) (tstAllS_of fun e he => h e (List.mem_cons_of_mem _ he))
theorem testsS_of : ∀ {es : List Expr}, (∀ e ∈ es, TstS prog w h₀ C n e) → TestsS prog w h₀ C n es
  | [], _ => tests_nil
  | [e], h => tests_one (h e (List.mem_cons_self ..))
  | _ :: _ :: _, _ => tests_more
theorem isiS_of (B : Base fns glob mg mb h₀) (hns : NoShadow fns) : ∀ {es : List Expr}, (∀ e ∈ es, EvS prog w h₀ C n e) → IsiS prog w h₀ C n es
  | [], _ => fun _ _ _ _ _ _ _ _ _ _ _ _ _ _ _ => trivial
  | [_], _ => fun _ _ _ _ _ _ _ _ _ _ _ _ _ _ _ => trivial
  | [a, .Name t q], h => isi_two B hns (h a (List.mem_cons_self ..))
  | [a, b], h => by
    intro f p pos env ns loc σ ρ s A hA F i hf hi
    by_cases hb : ∃ t q, b = .Name t q
    · obtain ⟨t, q, rfl⟩ := hb
      exact isi_two B hns (h a (List.mem_cons_self ..)) f p pos env ns loc σ ρ s A hA F i hf hi
    · have : evIsi C [a, b] ns loc = M.bad := by cases b <;> first | rfl | exact absurd ⟨_, _, rfl⟩ hb
      rw [this]; exact trivial
  | a :: b :: c :: r, _ => by
    intro f p pos env ns loc σ ρ s A hA F i hf hi
    have : evIsi C (a :: b :: c :: r) ns loc = M.bad := by cases b <;> rfl
    rw [this]; exact trivial

theorem noComp {e : Expr} (h : isCompE e = false) : CompS prog w h₀ C n e := fun elt t it ifs sc p e' => by rw [e'] at h; cases h
theorem noSlice {e : Expr} (h : isSliceE e = false) : ∀ lo hi q, e = .Slice lo hi none q → EvOptS prog w h₀ C n lo ∧ EvOptS prog w h₀ C n hi := fun lo hi q e' => by rw [e'] at h; cases h
theorem noAttr {e : Expr} (h : isAttrE e = false) : ∀ o m q, e = .Attribute o m q → EvS prog w h₀ C n o := fun o m q e' => by rw [e'] at h; cases h

/-- an expression that is no test, no walk of its own kind -/
theorem Al.plain {e : Expr} (he : EvS prog w h₀ C n e) (h1 : ∀ (ns : Names) (loc : Loc) (whole : M V), Mine.tst C e ns loc whole = (whole >>= fun v => truth v)) (h2 : ∀ (env : Env) (whole : Sem Value), isTrue e env whole = (do let v ← whole; standAt e.pos; holding [v] (truthy v)))
    (h3 : ∀ ns loc whole, Mine.src C e ns loc whole = (whole >>= srcV)) (h4 : isCompE e = false) (h5 : isSliceE e = false) (h6 : isAttrE e = false) : Al prog w h₀ C n e where
  ev := he
  tst := tst_value he h1 h2
  src := srcS_value he h3
  comp := noComp h4
  slice := noSlice h5
  attr := noAttr h6

theorem tst_bad {e : Expr} (h : ∀ ns loc, Mine.ev C e ns loc = M.bad) (h1 : ∀ (ns : Names) (loc : Loc) (whole : M V), Mine.tst C e ns loc whole = (whole >>= fun v => truth v)) : TstS prog w h₀ C n e := fun env ns loc σ ρ s A hA F i => by
  rw [h1, h]; exact trivial

theorem Al.nothing {e : Expr} (h : ∀ ns loc, Mine.ev C e ns loc = M.bad) (h1 : ∀ (ns : Names) (loc : Loc) (whole : M V), Mine.tst C e ns loc whole = (whole >>= fun v => truth v))
    (h3 : ∀ ns loc whole, Mine.src C e ns loc whole = (whole >>= srcV)) (h4 : isCompE e = false) (h5 : isSliceE e = false) (h6 : isAttrE e = false) : Al prog w h₀ C n e where
  ev := evS_bad h
  tst := tst_bad h h1
  src := srcS_value (evS_bad h) h3
  comp := noComp h4
  slice := noSlice h5
  attr := noAttr h6

mutual
theorem al_ok (H : Hyp prog w h₀ fns glob mg mb C n) : ∀ e : Expr, Al prog w h₀ C n e
  | .Constant c k p => .plain ev_const (fun _ _ _ => rfl) (fun _ _ => rfl) (fun _ _ _ => rfl) rfl rfl rfl
  | .Name x p => .plain (fun env ns loc σ ρ s A hA F i => Sim.name H.B H.glob F i) (fun _ _ _ => rfl) (fun _ _ => rfl) (fun _ _ _ => rfl) rfl rfl rfl
  | .BinOp l op r p => .plain (ev_binop (al_ok H l).ev (al_ok H r).ev) (fun _ _ _ => rfl) (fun _ _ => rfl) (fun _ _ _ => rfl) rfl rfl rfl
  | .UnaryOp op x p => by
    have hx := al_ok H x
    cases op with
    | Not => exact ⟨ev_not hx.ev, tst_not hx.tst, srcS_value (ev_not hx.ev) (fun _ _ _ => rfl), noComp rfl, noSlice rfl, noAttr rfl⟩
    | USub =>
      cases x with
      | Constant c k q =>
        cases c with
        | int z => exact .plain ev_usub (fun _ _ _ => rfl) (fun _ _ => rfl) (fun _ _ _ => rfl) rfl rfl rfl
        | _ => exact .nothing (fun _ _ => rfl) (fun _ _ _ => rfl) (fun _ _ _ => rfl) rfl rfl rfl
      | _ => exact .nothing (fun _ _ => rfl) (fun _ _ _ => rfl) (fun _ _ _ => rfl) rfl rfl rfl
    | _ => exact .nothing (fun _ _ => rfl) (fun _ _ _ => rfl) (fun _ _ _ => rfl) rfl rfl rfl
  | .BoolOp op vs p => by
    have hv := als_ok H vs
    have he : EvS prog w h₀ C n (.BoolOp op vs p) := ev_boolop (evBoolS_of fun e he => (hv e he).ev)
    exact ⟨he, tst_boolop (tstAllS_of fun e he => (hv e he).tst), srcS_value he (fun _ _ _ => rfl), noComp rfl, noSlice rfl, noAttr rfl⟩
  | .Compare l ops rs p => by
    have hl := al_ok H l
    have hr := als_ok H rs
    match ops, rs with
    | [op], [r] =>
      have he : EvS prog w h₀ C n (.Compare l [op] [r] p) := ev_compare hl.ev (hr r (List.mem_cons_self ..)).ev
      exact ⟨he, tst_compare hl.ev (hr r (List.mem_cons_self ..)).ev, srcS_value he (fun _ _ _ => rfl), noComp rfl, noSlice rfl, noAttr rfl⟩
    | [], _ => exact .nothing (fun _ _ => rfl) (fun _ _ _ => rfl) (fun _ _ _ => rfl) rfl rfl rfl
    | [op, op2], [m, r] =>
      have h1 := (hr m (List.mem_cons_self ..)).ev
      have h2 := (hr r (List.mem_cons_of_mem _ (List.mem_cons_self ..))).ev
      have he : EvS prog w h₀ C n (.Compare l [op, op2] [m, r] p) := ev_chain hl.ev h1 h2
      exact ⟨he, tst_chain hl.ev h1 h2, srcS_value he (fun _ _ _ => rfl), noComp rfl, noSlice rfl, noAttr rfl⟩
    | [_], [] | [_], _ :: _ :: _ | [_, _], [] | [_, _], [_] | [_, _], _ :: _ :: _ :: _ | _ :: _ :: _ :: _, _ => exact .nothing (fun _ _ => rfl) (fun _ _ _ => rfl) (fun _ _ _ => rfl) rfl rfl rfl
  | .IfExp t a b p => by
    have ht := al_ok H t
    have ha := al_ok H a
    have hb := al_ok H b
    have he : EvS prog w h₀ C n (.IfExp t a b p) := ev_ifexp ht.tst ha.ev hb.ev
    exact ⟨he, tst_ifexp ht.tst ha.tst hb.tst, srcS_value he (fun _ _ _ => rfl), noComp rfl, noSlice rfl, noAttr rfl⟩
  | .Slice lo hi st p => ⟨evS_bad fun _ _ => rfl, tst_bad (fun _ _ => rfl) (fun _ _ _ => rfl), srcS_value (evS_bad fun _ _ => rfl) (fun _ _ _ => rfl), noComp rfl, by
      have hlo := opt_ok H lo
      have hhi := opt_ok H hi
      intro lo' hi' q e
      cases e
      exact ⟨hlo, hhi⟩, noAttr rfl⟩
  | .Subscript o i p => by
    have ho := al_ok H o
    have hi := al_ok H i
    have he : EvS prog w h₀ C n (.Subscript o i p) := by
      cases i with
      | Slice lo hi' st q =>
        cases st with
        | none => obtain ⟨h1, h2⟩ := hi.slice lo hi' q rfl; exact ev_slice ho.ev h1 h2
        | some st => exact ev_sub ho.ev hi.ev (fun _ _ => rfl)
      | _ => exact ev_sub ho.ev hi.ev (fun _ _ => rfl)
    exact .plain he (fun _ _ _ => rfl) (fun _ _ => rfl) (fun _ _ _ => rfl) rfl rfl rfl
  | .List es p => .plain (ev_list (evsS_of fun e he => (als_ok H es e he).ev)) (fun _ _ _ => rfl) (fun _ _ => rfl) (fun _ _ _ => rfl) rfl rfl rfl
  | .Tuple es k p => .plain (ev_tuple (evsS_of fun e he => (als_ok H es e he).ev)) (fun _ _ _ => rfl) (fun _ _ => rfl) (fun _ _ _ => rfl) rfl rfl rfl
  | .Attribute o m p => ⟨evS_bad fun _ _ => rfl, tst_bad (fun _ _ => rfl) (fun _ _ _ => rfl), srcS_value (evS_bad fun _ _ => rfl) (fun _ _ _ => rfl), noComp rfl, noSlice rfl, by
      have ho := al_ok H o
      intro o' m' q e
      cases e
      exact ho.ev⟩
  | .Call f as ks p => by
    have hf := al_ok H f
    have has := als_ok H as
    cases ks with
    | cons k ks =>
      have hb : ∀ ns loc, Mine.ev C (.Call f as (k :: ks) p) ns loc = M.bad := fun ns loc => by cases f <;> rfl
      have hsr : ∀ ns loc whole, Mine.src C (.Call f as (k :: ks) p) ns loc whole = (whole >>= srcV) := fun ns loc whole => by cases f <;> rfl
      exact .nothing hb (fun _ _ _ => rfl) hsr rfl rfl rfl
    | nil =>
      cases f with
      | Name x q =>
        have he : EvS prog w h₀ C n (.Call (.Name x q) as [] p) := ev_callName H.B H.fn H.call (evsS_of fun e he => (has e he).ev) (isiS_of H.B H.ns fun e he => (has e he).ev)
        exact ⟨he, tst_value he (fun _ _ _ => rfl) (fun _ _ => rfl), src_call H.B H.fn he (fun e he => (has e he).ev), noComp rfl, noSlice rfl, noAttr rfl⟩
      | Attribute o m q =>
        have he : EvS prog w h₀ C n (.Call (.Attribute o m q) as [] p) := ev_callMeth (hf.attr o m q rfl) (evsS_of fun e he => (has e he).ev)
        exact .plain he (fun _ _ _ => rfl) (fun _ _ => rfl) (fun _ _ _ => rfl) rfl rfl rfl
      | _ => exact .nothing (fun _ _ => rfl) (fun _ _ _ => rfl) (fun _ _ _ => rfl) rfl rfl rfl
  | .ListComp elt gens scope p => by
    have he := al_ok H elt
    have hg := gens_ok H gens
    have hc : CompS prog w h₀ C n (.ListComp elt gens scope p) := fun elt' t' it' ifs' sc' p' e => by
      cases e
      obtain ⟨h1, h2⟩ := hg _ (List.mem_cons_self ..)
      exact ⟨h1, h2, he.ev⟩
    have hev : EvS prog w h₀ C n (.ListComp elt gens scope p) := by
      rcases comp_cases gens with ⟨t, it, ifs, rfl⟩ | hbad
      · obtain ⟨h1, h2⟩ := hg _ (List.mem_cons_self ..)
        exact ev_listcomp h1 h2 he.ev
      · exact evS_bad fun ns loc => hbad C elt scope p ns loc
    exact ⟨hev, tst_value hev (fun _ _ _ => rfl) (fun _ _ => rfl), srcS_value hev (fun _ _ _ => rfl), hc, noSlice rfl, noAttr rfl⟩
  | .NamedExpr _ _ _ => .nothing (fun _ _ => rfl) (fun _ _ _ => rfl) (fun _ _ _ => rfl) rfl rfl rfl
  | .Lambda _ _ _ _ => .nothing (fun _ _ => rfl) (fun _ _ _ => rfl) (fun _ _ _ => rfl) rfl rfl rfl
  | .Dict ks vs p => by
    match ks, vs with
    | [], [] => exact .plain (ev_dict0 H.B.nolimit) (fun _ _ _ => rfl) (fun _ _ => rfl) (fun _ _ _ => rfl) rfl rfl rfl
    | [some e], [v] => exact .plain (ev_dict1 H.B.nolimit) (fun _ _ _ => rfl) (fun _ _ => rfl) (fun _ _ _ => rfl) rfl rfl rfl
    | [], _ :: _ | [none], _ | [some _], [] | [some _], _ :: _ :: _ | none :: _ :: _, _ | some _ :: _ :: _, _ => exact .nothing (fun _ _ => rfl) (fun _ _ _ => rfl) (fun _ _ _ => rfl) rfl rfl rfl
  | .Set _ _ _ => .nothing (fun _ _ => rfl) (fun _ _ _ => rfl) (fun _ _ _ => rfl) rfl rfl rfl
  | .SetComp _ _ _ _ => .nothing (fun _ _ => rfl) (fun _ _ _ => rfl) (fun _ _ _ => rfl) rfl rfl rfl
  | .DictComp _ _ _ _ _ => .nothing (fun _ _ => rfl) (fun _ _ _ => rfl) (fun _ _ _ => rfl) rfl rfl rfl
  | .GeneratorExp _ _ _ _ => .nothing (fun _ _ => rfl) (fun _ _ _ => rfl) (fun _ _ _ => rfl) rfl rfl rfl
  | .Await _ _ => .nothing (fun _ _ => rfl) (fun _ _ _ => rfl) (fun _ _ _ => rfl) rfl rfl rfl
  | .Yield _ _ => .nothing (fun _ _ => rfl) (fun _ _ _ => rfl) (fun _ _ _ => rfl) rfl rfl rfl
  | .YieldFrom _ _ => .nothing (fun _ _ => rfl) (fun _ _ _ => rfl) (fun _ _ _ => rfl) rfl rfl rfl
  | .FormattedValue _ _ _ _ => .nothing (fun _ _ => rfl) (fun _ _ _ => rfl) (fun _ _ _ => rfl) rfl rfl rfl
  | .JoinedStr _ _ => .nothing (fun _ _ => rfl) (fun _ _ _ => rfl) (fun _ _ _ => rfl) rfl rfl rfl
  | .Starred _ _ => .nothing (fun _ _ => rfl) (fun _ _ _ => rfl) (fun _ _ _ => rfl) rfl rfl rfl
theorem als_ok (H : Hyp prog w h₀ fns glob mg mb C n) : ∀ es : List Expr, ∀ e ∈ es, Al prog w h₀ C n e
  | [] => fun _ hm => absurd hm List.not_mem_nil
  | e :: r => fun e' hm => by
    have h1 := al_ok H e
    have h2 := als_ok H r
    rcases List.mem_cons.mp hm with rfl | hm
    · exact h1
    · exact h2 e' hm
theorem opt_ok (H : Hyp prog w h₀ fns glob mg mb C n) : ∀ o : Option Expr, EvOptS prog w h₀ C n o
  | none => evOpt_none
  | some e => evOpt_some (al_ok H e).ev
theorem gens_ok (H : Hyp prog w h₀ fns glob mg mb C n) : ∀ gs : List Comprehension, ∀ g ∈ gs, SrcS prog w h₀ C n g.iter ∧ TestsS prog w h₀ C n g.ifs
  | [] => fun _ hm => absurd hm List.not_mem_nil
  | ⟨t, it, ifs, k⟩ :: r => fun g hm => by
    have h1 := al_ok H it
    have h2 := als_ok H ifs
    have h3 := gens_ok H r
    rcases List.mem_cons.mp hm with rfl | hm
    · exact ⟨h1.src, testsS_of fun e he => (h2 e he).tst⟩
    · exact h3 g hm
end

mutual
theorem ex_ok (H : Hyp prog w h₀ fns glob mg mb C n) : ∀ st : Stmt, ExS prog w h₀ C n st
  | .Expr e p => by
    have he := al_ok H e
    cases e with
    | Call f as ks q =>
      cases ks with
      | nil => exact ex_expr he.ev
      | cons _ _ => exact fun env ns loc σ ρ s A hA hf F i => trivial
    | _ => exact fun env ns loc σ ρ s A hA hf F i => trivial
  | .Pass p => ex_pass
  | .Return none p => ex_return0
  | .Return (some e) p => ex_return (al_ok H e).ev
  | .Assign ts v p => by
    have hv := al_ok H v
    match ts with
    | [] => exact fun env ns loc σ ρ s A hA hf F i => trivial
    | [.Name x q] => exact ex_assignName hv.ev hv.comp
    | [.Subscript o i q] => exact ex_assignSub hv.ev (al_ok H o).ev (al_ok H i).ev
    | [.Tuple ts k q] => exact ex_assignTup hv.ev
    | [.BoolOp _ _ _] | [.NamedExpr _ _ _] | [.BinOp _ _ _ _] | [.UnaryOp _ _ _] | [.Lambda _ _ _ _] | [.IfExp _ _ _ _] | [.Dict _ _ _] | [.Set _ _ _] | [.ListComp _ _ _ _] | [.SetComp _ _ _ _] | [.DictComp _ _ _ _ _] | [.GeneratorExp _ _ _ _]
    | [.Await _ _] | [.Yield _ _] | [.YieldFrom _ _] | [.Compare _ _ _ _] | [.Call _ _ _ _] | [.FormattedValue _ _ _ _] | [.JoinedStr _ _] | [.Constant _ _ _] | [.Attribute _ _ _] | [.Starred _ _] | [.List _ _] | [.Slice _ _ _ _] => exact fun env ns loc σ ρ s A hA hf F i => trivial
    | t :: _ :: _ =>
      intro env ns loc σ ρ s A hA hf F i
      cases t <;> exact trivial
  | .If t a b p => ex_if (al_ok H t).tst (exs_ok H a) (exs_ok H b)
  | .For t it body els p => by
    have h1 := al_ok H it
    have h2 := exs_ok H body
    cases els with
    | nil => exact ex_for h1.src h2
    | cons _ _ => exact fun env ns loc σ ρ s A hA hf F i => trivial
  | .FunctionDef .. => fun env ns loc σ ρ s A hA hf F i => trivial
  | .AsyncFunctionDef .. => fun env ns loc σ ρ s A hA hf F i => trivial
  | .ClassDef .. => fun env ns loc σ ρ s A hA hf F i => trivial
  | .Delete .. => fun env ns loc σ ρ s A hA hf F i => trivial
  | .TypeAlias .. => fun env ns loc σ ρ s A hA hf F i => trivial
  | .AugAssign .. => fun env ns loc σ ρ s A hA hf F i => trivial
  | .AnnAssign .. => fun env ns loc σ ρ s A hA hf F i => trivial
  | .AsyncFor .. => fun env ns loc σ ρ s A hA hf F i => trivial
  | .While .. => fun env ns loc σ ρ s A hA hf F i => trivial
  | .With .. => fun env ns loc σ ρ s A hA hf F i => trivial
  | .AsyncWith .. => fun env ns loc σ ρ s A hA hf F i => trivial
  | .Match .. => fun env ns loc σ ρ s A hA hf F i => trivial
  | .Raise .. => fun env ns loc σ ρ s A hA hf F i => trivial
  | .Try .. => fun env ns loc σ ρ s A hA hf F i => trivial
  | .TryStar .. => fun env ns loc σ ρ s A hA hf F i => trivial
  | .Assert .. => fun env ns loc σ ρ s A hA hf F i => trivial
  | .Import .. => fun env ns loc σ ρ s A hA hf F i => trivial
  | .ImportFrom .. => fun env ns loc σ ρ s A hA hf F i => trivial
  | .Global .. => fun env ns loc σ ρ s A hA hf F i => trivial
  | .Nonlocal .. => fun env ns loc σ ρ s A hA hf F i => trivial
  | .Break .. => fun env ns loc σ ρ s A hA hf F i => trivial
  | .Continue .. => fun env ns loc σ ρ s A hA hf F i => trivial
theorem exs_ok (H : Hyp prog w h₀ fns glob mg mb C n) : ∀ sts : List Stmt, ExsS prog w h₀ C n sts
  | [] => exs_nil
  | st :: r => exs_cons (ex_ok H st) (exs_ok H r)
end
end
end Mine

namespace Mine
open PySem PyProof.Rows

/-! ## calls of the text's own defs -/
theorem cellsFrom_some {x : Str} : ∀ (names : Names) (n : Nat) (acc : List (Str × Addr)), names.lookup x = some .cell ∨ (acc.lookup x).isSome = true → ((cellsFrom n names acc).lookup x).isSome = true
  | [], _, _, h => by
    rcases h with h | h
    · cases h
    · exact h
  | (y, k) :: r, n, acc, h => by
    unfold cellsFrom
    by_cases hk : (k == NameKind.cell) = true
    · rw [if_pos hk]
      refine cellsFrom_some r (n + 1) _ ?_
      cases hxy : x == y with
      | true => right; rw [List.lookup_cons, hxy]; rfl
      | false =>
        rcases h with h | h
        · left; rw [List.lookup_cons, hxy] at h; exact h
        · right; rw [List.lookup_cons, hxy]; exact h
    · rw [if_neg hk]
      refine cellsFrom_some r n acc ?_
      rcases h with h | h
      · cases hxy : x == y with
        | true => rw [List.lookup_cons, hxy] at h; cases h; exact absurd rfl hk
        | false => left; rw [List.lookup_cons, hxy] at h; exact h
      · exact .inr h

theorem initLoc_get {params : List Str} {args : List V} {x : Str} : ∀ {names : Names} {i j : Nat} {k : NameKind}, slotGo names x i = some (j, k) → i ≤ j ∧ (initLoc params args names)[j - i]? = some ((params.zip args).lookup x)
  | [], _, _, _, h => by cases h
  | (y, k') :: r, i, j, k, h => by
    unfold slotGo at h
    split at h
    · rename_i e
      cases h
      rw [beq_iff_eq.mp e]
      exact ⟨Nat.le_refl _, by rw [Nat.sub_self]; rfl⟩
    · obtain ⟨h1, h2⟩ := initLoc_get (params := params) (args := args) h
      refine ⟨by omega, ?_⟩
      rw [show j - i = (j - (i + 1)) + 1 by omega]
      exact h2

section
variable {ρ : Map} {h : Heap}
theorem zip_lookup {x : Str} : ∀ {params : List Str} {vals : List Value} {args : List V} {a : V}, RelAll ρ h vals args → (params.zip args).lookup x = some a → ∃ v, (params.zip vals).lookup x = some v ∧ Rel ρ h v a
  | [], _, _, _, _, e => by cases e
  | p :: ps, _, _, _, .nil, e => by cases e
  | p :: ps, _, _, _, .cons r rs, e => by
    rw [List.zip_cons_cons, List.lookup_cons] at e ⊢
    cases hx : x == p with
    | true => rw [hx] at e; cases e; exact ⟨_, rfl, r⟩
    | false => rw [hx] at e; exact zip_lookup rs e
end

theorem bindL_out {kindOf : Str → Option NameKind} {x : Str} : ∀ {binds : List (Str × Value)} {m : Str → Option Value}, (∀ p ∈ binds, p.1 ≠ x) → bindL kindOf binds m x = m x
  | [], _, _ => rfl
  | (y, v) :: r, m, h => by
    unfold bindL
    rw [bindL_out fun p hp => h p (List.mem_cons_of_mem _ hp)]
    split
    · exact if_neg fun e => h (y, v) (List.mem_cons_self ..) e.symm
    · rfl
theorem bindL_in {kindOf : Str → Option NameKind} {x : Str} {v : Value} (hk : kindOf x = some .local) : ∀ {binds : List (Str × Value)} {m : Str → Option Value}, (binds.map (·.1)).Nodup → binds.lookup x = some v → bindL kindOf binds m x = some v
  | [], _, _, h => by cases h
  | (y, u) :: r, m, hn, h => by
    unfold bindL
    rw [List.lookup_cons] at h
    rw [List.map_cons, List.nodup_cons] at hn
    cases hx : x == y with
    | true =>
      rw [hx] at h; cases h
      have e := beq_iff_eq.mp hx
      subst e
      rw [bindL_out fun p hp e => hn.1 (List.mem_map.mpr ⟨p, hp, e⟩), if_pos hk]
      exact if_pos rfl
    | false => rw [hx] at h; exact bindL_in hk hn.2 h
theorem bindC_out {kindOf : Str → Option NameKind} {x : Str} : ∀ {binds : List (Str × Value)} {m : Str → Option Value}, (∀ p ∈ binds, p.1 ≠ x) → bindC kindOf binds m x = m x
  | [], _, _ => rfl
  | (y, v) :: r, m, h => by
    unfold bindC
    rw [bindC_out fun p hp => h p (List.mem_cons_of_mem _ hp)]
    split
    · rfl
    · exact if_neg fun e => h (y, v) (List.mem_cons_self ..) e.symm
theorem bindC_in {kindOf : Str → Option NameKind} {x : Str} {v : Value} (hk : kindOf x = some .cell) : ∀ {binds : List (Str × Value)} {m : Str → Option Value}, (binds.map (·.1)).Nodup → binds.lookup x = some v → bindC kindOf binds m x = some v
  | [], _, _, h => by cases h
  | (y, u) :: r, m, hn, h => by
    unfold bindC
    rw [List.lookup_cons] at h
    rw [List.map_cons, List.nodup_cons] at hn
    cases hx : x == y with
    | true =>
      rw [hx] at h; cases h
      have e := beq_iff_eq.mp hx
      subst e
      rw [bindC_out fun p hp e => hn.1 (List.mem_map.mpr ⟨p, hp, e⟩), if_neg (by rw [hk]; decide)]
      exact if_pos rfl
    | false => rw [hx] at h; exact bindC_in hk hn.2 h

theorem zip_fst_mem {x : Str} : ∀ {params : List Str} {vals : List Value}, x ∈ (params.zip vals).map (·.1) → x ∈ params
  | [], _, h => by cases h
  | _ :: _, [], h => by cases h
  | p :: ps, v :: vs, h => by
    rw [List.zip_cons_cons, List.map_cons] at h
    rcases List.mem_cons.mp h with h | h
    · exact h ▸ List.mem_cons_self ..
    · exact List.mem_cons_of_mem _ (zip_fst_mem h)
theorem zip_fst_nodup : ∀ {params : List Str} {vals : List Value}, params.Nodup → ((params.zip vals).map (·.1)).Nodup
  | [], _, _ => List.nodup_nil
  | _ :: _, [], _ => List.nodup_nil
  | p :: ps, v :: vs, hn => by
    rw [List.zip_cons_cons, List.map_cons, List.nodup_cons]
    rw [List.nodup_cons] at hn
    exact ⟨fun hm => hn.1 (zip_fst_mem hm), zip_fst_nodup hn.2⟩

section
variable {prog : Program} {w : World} {h₀ : Heap} {A : Around} {ρ : Map} {s : Shared} {σ : Store} {fns : Str → Option Fn} {glob : Str → Option V} {mg mb : Str → Option Value}

theorem Rm.deeper {n : Nat} {env : Env} (h : Rm A (n + 1)) : Rm (A.deeper env) n where
  handled := h.handled
  depth := by show A.depth + 1 + n < recursionLimit; have := h.depth; omega
  units := by show A.units + 3 + 8 * n + 300 < cLine; have := h.units; omega

/-- the frame of a call -/
theorem callFrm {fd : FuncData} {f : Fn} {a : Addr} {vals : List Value} {args : List V} {s₁ : Shared} (ok : FdOk fd f) (i : Inv prog w h₀ σ ρ s.heap) (r : RelAll ρ s.heap vals args)
    (x : InCallC s (callEnvC fd s.heap.objs.size a).locals (bindL (callEnvC fd s.heap.objs.size a).kindOf (f.params.zip vals) fun _ => none) (callEnvC fd s.heap.objs.size a).cells (bindC (callEnvC fd s.heap.objs.size a).kindOf (f.params.zip vals) fun _ => none) s₁) :
    Frm (callEnvC fd s.heap.objs.size a) f.names (initLoc f.params args f.names) ρ s₁.heap := by
  have hk : ∀ b o, s.heap.get? b = some o → s₁.heap.get? b = some o := x.toInCall.keep
  have hnm : (callEnvC fd s.heap.objs.size a).scope.names = f.names := ok.names
  have hkind : ∀ y i k, slot f.names y = some (i, k) → (callEnvC fd s.heap.objs.size a).kindOf y = some k := fun y i k h => by
    show (callEnvC fd s.heap.objs.size a).scope.names.lookup y = _
    rw [hnm]; exact slot_lookup h
  have hlc : ∀ y c, (callEnvC fd s.heap.objs.size a).cells.lookup y = some c → s.heap.objs.size < c := fun y c hc => x.above y c (mem_of_lookup hc)
  have off : ∀ b : Addr, s.heap.objs.size ≤ b → offMap ρ b := fun b hb p hp => by
    obtain ⟨⟨o1, e1⟩, ⟨o2, e2⟩⟩ := i.alive hp
    exact ⟨fun e => absurd (Heap.lt_size e1) (Nat.not_lt.mpr (e ▸ hb)), fun e => absurd (Heap.lt_size e2) (Nat.not_lt.mpr (e ▸ hb))⟩
  exact {
    names := hnm
    kind := ok.kind
    globals := ok.globals
    blts := ok.blts
    vars := ⟨_, x.toInCall.ns, fun y j v h1 h2 => by
      obtain ⟨_, h3⟩ := initLoc_get (params := f.params) (args := args) h1
      rw [Nat.sub_zero, h2] at h3
      obtain ⟨val, hv, rv⟩ := zip_lookup r (Option.some.inj h3).symm
      exact ⟨val, bindL_in (hkind y j _ h1) (zip_fst_nodup ok.nodup) hv, rv.sub (Sub.keeps hk)⟩⟩
    cell := fun y j h1 => by
      have hsome := cellsFrom_some f.names (s.heap.objs.size + 1) [] (.inl (slot_lookup h1))
      obtain ⟨c, hc⟩ := Option.isSome_iff_exists.mp hsome
      have hc' : (callEnvC fd s.heap.objs.size a).cells.lookup y = some c := by
        show (cellsFrom (s.heap.objs.size + 1) fd.scope.names []).lookup y = some c
        rw [ok.names]; exact hc
      refine ⟨c, _, hc', x.cell y c hc', fun v h2 => ?_⟩
      obtain ⟨_, h3⟩ := initLoc_get (params := f.params) (args := args) h1
      rw [Nat.sub_zero, h2] at h3
      obtain ⟨val, hv, rv⟩ := zip_lookup r (Option.some.inj h3).symm
      exact ⟨val, bindC_in (hkind y j _ h1) (zip_fst_nodup ok.nodup) hv, rv.sub (Sub.keeps hk)⟩
    live := fun y c hc => ⟨_, x.cell y c hc⟩
    offL := off _ (Nat.le_refl _)
    offC := fun y c hc => ⟨Nat.ne_of_gt (hlc y c hc), off _ (Nat.le_of_lt (hlc y c hc))⟩
    apart := fun y z c h1 h2 => name_of_addr x.apart (mem_of_lookup h1) (mem_of_lookup h2) }

/-- a call of a def of the text's own -/
theorem callFn_ok {n : Nat} {C : Cfg} {f : Str} {fn : Fn} {a : Addr} {args : List V} {vals : List Value} (H : Hyp prog w h₀ fns glob mg mb C n) (hf : fns f = some fn) (hm : mg f = some (.ref a)) (hA : Rm A (n + 1)) (r : RelAll ρ s.heap vals args) (i : Inv prog w h₀ σ ρ s.heap) :
    Sim prog w h₀ A [] (call (.ref a) vals) (callFn C fn args σ) RV ρ s := by
  obtain ⟨a', o, fd, hm', ho, hd, ok, hcd⟩ := H.B.fn f fn hf
  rw [hm] at hm'; cases hm'
  unfold callFn
  refine Sim.ite fun hlen => ?_
  cases h1 : exs C fn.body fn.names (initLoc fn.params args fn.names) σ with
  | bad => rw [bind_bad h1]; exact trivial
  | exc _ _ => rw [bind_exc h1]; exact trivial
  | ok res σ' =>
    rw [bind_ok h1]
    have hvl : vals.length = fn.params.length := by rw [r.length, hlen]
    refine wpAny_call (codeAny_call_cells (binds := fn.params.zip vals) (by have := hA.depth; omega) (i.base _ _ ho) hd (H.B.nolimit.keeps i.base) (hcd.keeps i.base) ok.body (ok.binds vals hvl) ok.clo (fun y hy => ?_) (fun s₁ x => ?_) ok.co ok.gen ok.kind)
    · have hp : y.1 ∈ fn.params := zip_fst_mem (List.mem_map.mpr ⟨y, hy, rfl⟩)
      rw [ok.names]
      rcases ok.pkind y.1 hp with h | h
      · exact .inl h
      · exact .inr ⟨h, cellsFrom_some _ _ _ (.inl h)⟩
    · have F := callFrm ok i r x
      obtain ⟨H₁, tk₁, rfl⟩ := x.toInCall.same
      have hk : ∀ b o, s.heap.get? b = some o → H₁.get? b = some o := x.toInCall.keep
      have dead : ∀ b ∈ frameW (callEnvC fd s.heap.objs.size a), s.heap.get? b = none := fun b hb => by
        have hge : s.heap.objs.size ≤ b := by
          rcases List.mem_cons.mp hb with rfl | hb
          · exact Nat.le_refl _
          · obtain ⟨⟨y, k⟩, _, hc⟩ := List.mem_filterMap.mp hb
            exact Nat.le_of_lt (x.above y b (mem_of_lookup hc))
        cases e : s.heap.get? b with
        | none => rfl
        | some o => exact absurd (Heap.lt_size e) (Nat.not_lt.mpr hge)
      have dead0 : ∀ b ∈ frameW (callEnvC fd s.heap.objs.size a), h₀.get? b = none := fun b hb => by
        cases e : h₀.get? b with
        | none => rfl
        | some o => have := i.base _ _ e; rw [dead b hb] at this; cases this
      have hs := exs_ok H fn.body (callEnvC fd s.heap.objs.size a) fn.names (initLoc fn.params args fn.names) σ ρ { s with heap := H₁, toks := tk₁ } (A.deeper (callEnvC fd s.heap.objs.size a)) hA.deeper dead0 F (i.keeps hk)
      rw [h1] at hs
      refine wpAny_mono hs (fun fl s' hp => ?_) fun _ _ f => f.elim
      obtain ⟨ρ', H', tk', rfl, i', x', rf, F'⟩ := hp
      have hx : Ext [] ρ s.heap ρ' H' := ((Ext.of_keeps hk).trans x').weak fun b hb => .inr (dead b hb)
      obtain ⟨fl', loc'⟩ := res
      cases fl' with
      | next => cases rf; exact ⟨ρ', H', tk', rfl, i', hx, .none⟩
      | brk => cases rf; exact ⟨ρ', H', tk', rfl, i', hx, .none⟩
      | cont => cases rf; exact ⟨ρ', H', tk', rfl, i', hx, .none⟩
      | ret v =>
        obtain ⟨val, rfl, rv⟩ := rf
        exact ⟨ρ', H', tk', rfl, i', hx, rv⟩

/-- the run of a text: its defs, its plain values, calls of at most so many deep -/

theorem callN_ok (B : Base fns glob mg mb h₀) (hns : NoShadow fns) : ∀ d : Nat, CallS prog w h₀ mg (cfgN fns glob d) d
  | 0 => fun f a args vals σ ρ s A hA hf hm r i => trivial
  | d + 1 => fun f a args vals σ ρ s A hA hf hm r i => by
    show Sim prog w h₀ A [] _ (callN fns glob (d + 1) f args σ) RV ρ s
    unfold callN
    cases hfn : fns f with
    | none => exact trivial
    | some fn =>
      exact callFn_ok (C := cfgN fns glob d) ⟨B, fun _ => rfl, rfl, hns, callN_ok B hns d⟩ hfn hm hA r i
end
end Mine

namespace Mine
open PySem PySem.W PyProof.Rows

/-! ## the head: from the top of a text to its defs -/
theorem zip_find : ∀ {ps : List Str} {vals : List Value}, ps.Nodup → vals.length = ps.length → (ps.filterMap fun n => ((ps.zip vals).lookup n).map (n, ·)) = ps.zip vals := by
  intro ps vals hn hl
  have key : ∀ (pre : List (Str × Value)) (ps : List Str) (vals : List Value), ps.Nodup → vals.length = ps.length → (∀ x ∈ ps, pre.lookup x = none) → (ps.filterMap fun n => ((pre ++ ps.zip vals).lookup n).map (n, ·)) = ps.zip vals := by
    intro pre ps
    induction ps generalizing pre with
    | nil => intro vals _ _ _; rfl
    | cons p ps ih =>
      intro vals hn hl hp
      cases vals with
      | nil => cases hl
      | cons v vs =>
        rw [List.nodup_cons] at hn
        have e1 : (pre ++ (p :: ps).zip (v :: vs)).lookup p = some v := by
          rw [List.lookup_append, hp p (List.mem_cons_self ..), List.zip_cons_cons, List.lookup_cons, beq_self_eq_true]; rfl
        rw [List.filterMap_cons, e1]
        dsimp only [Option.map]
        rw [List.zip_cons_cons]
        congr 1
        have := ih (pre ++ [(p, v)]) vs hn.2 (by simpa using hl) (fun x hx => by
          rw [List.lookup_append, hp x (List.mem_cons_of_mem _ hx), List.lookup_cons]
          have : (x == p) = false := by
            cases e : x == p with
            | false => rfl
            | true => rw [beq_iff_eq.mp e] at hx; exact absurd hx hn.1
          rw [this]; rfl)
        rw [List.append_assoc] at this
        exact this
  exact key [] ps vals hn hl (fun _ _ => rfl)

theorem bind_plain {name : Str} {as : List Arg} {body : List Stmt} {scope : Scope} {pm code doc : Value} {vals : List Value} (hn : (as.map (·.arg)).Nodup) (hl : vals.length = (as.map (·.arg)).length) :
    bindArgs (Calls.docDef name ⟨[], as, none, [], [], none, []⟩ body scope pm code doc) ⟨vals, []⟩ = pure ((as.map (·.arg)).zip vals) := by
  have hm : ((as.map (·.arg)).filter fun n => (((as.map (·.arg)).zip vals).lookup n).isNone) = [] := by
    rw [List.filter_eq_nil_iff]
    intro n hn'
    have : ∀ (ps : List Str) (vals : List Value), n ∈ ps → vals.length = ps.length → ((ps.zip vals).lookup n).isNone = false := by
      intro ps
      induction ps with
      | nil => intro _ h; cases h
      | cons p ps ih =>
        intro vals h hl
        cases vals with
        | nil => cases hl
        | cons v vs =>
          rw [List.zip_cons_cons, List.lookup_cons]
          cases e : n == p with
          | true => rfl
          | false =>
            rcases List.mem_cons.mp h with h | h
            · rw [h, beq_self_eq_true] at e; cases e
            · exact ih vs h (by simpa using hl)
    rw [this _ _ hn' hl]; decide
  unfold bindArgs Calls.docDef
  have hs : seqItems? .none = (Pure.pure none : Sem (Option (Array Value))) := by kernel_rfl
  dsimp only
  rw [hs]
  simp only [List.map_nil, List.nil_append, List.append_nil, List.forIn_nil, pure_bind, Option.isNone_none, Bool.and_true]
  have he : ((none : Option (Array Value)).getD #[]).toList = [] := rfl
  rw [if_neg (by rw [hl]; simp)]
  simp only [he, List.length_nil, Nat.zero_sub, List.drop_zero, Nat.sub_zero, List.take_length, hm, List.isEmpty_nil, Bool.not_true, Bool.false_eq_true, if_false, List.drop_length, List.zip_nil_left, List.forIn_nil, pure_bind]
  rw [zip_find hn hl]

/-- a def that can be run -/
noncomputable def recOk (d : DefRec) : Bool :=
  (match d.params with | ⟨[], _, none, [], [], none, []⟩ => true | _ => false) && (match d.scope.kind with | .function => true | _ => false) && !d.scope.isCoroutine && !d.scope.isGenerator &&
  decide (d.params.args.map (·.arg)).Nodup && (d.params.args.map (·.arg)).all fun x => match d.scope.names.lookup x with | some .local => true | some .cell => true | _ => false

theorem recOk_fd {d : DefRec} {pm code doc : Value} (h : recOk d = true) : FdOk (Calls.docDef d.name d.params d.body d.scope pm code doc) (defOf d).2 := by
  obtain ⟨name, params, body, scope, pos⟩ := d
  unfold recOk at h
  simp only [Bool.and_eq_true] at h
  obtain ⟨⟨⟨⟨⟨h1, h2⟩, h3⟩, h4⟩, h5⟩, h6⟩ := h
  obtain ⟨po, as, va, ko, kd, kw, df⟩ := params
  have hp : po = [] ∧ va = none ∧ ko = [] ∧ kd = [] ∧ kw = none ∧ df = [] := by
    split at h1
    · rename_i e; cases e; exact ⟨rfl, rfl, rfl, rfl, rfl, rfl⟩
    · cases h1
  obtain ⟨rfl, rfl, rfl, rfl, rfl, rfl⟩ := hp
  have hn : (as.map (·.arg)).Nodup := of_decide_eq_true h5
  exact {
    body := rfl
    names := rfl
    kind := by
      show scope.kind = .function
      split at h2
      · assumption
      · cases h2
    co := by show scope.isCoroutine = false; simpa using h3
    gen := by show scope.isGenerator = false; simpa using h4
    clo := rfl
    globals := rfl
    blts := rfl
    binds := fun vals hl => bind_plain hn hl
    pkind := fun x hx => by
      have := List.all_eq_true.mp h6 x hx
      show scope.names.lookup x = some .local ∨ scope.names.lookup x = some .cell
      split at this
      · left; assumption
      · right; assumption
      · cases this
    nodup := hn }

/-- the built-in names that a text leaves alone -/
noncomputable def bltFree (q : Program) (loose : List Str) : Bool := bltNames.all fun x => !startupNames.contains x && !loose.contains x && !((recsOf q).map (·.name)).contains x && !((litsOf q).map (·.1)).contains x && !((clssOf q loose).map (·.name)).contains x

theorem lookup_map {x : Str} {fn : Fn} : ∀ {ds : List DefRec}, (ds.map defOf).lookup x = some fn → ∃ d ∈ ds, d.name = x ∧ (defOf d).2 = fn
  | [], h => by cases h
  | d :: ds, h => by
    rw [List.map_cons] at h
    unfold defOf at h
    rw [List.lookup_cons] at h
    split at h
    · rename_i e
      cases h
      exact ⟨d, List.mem_cons_self .., (beq_iff_eq.mp e).symm, rfl⟩
    · obtain ⟨d', hd, r⟩ := lookup_map (ds := ds) h
      exact ⟨d', List.mem_cons_of_mem _ hd, r⟩

theorem base_of {q : Program} {loose : List Str} {mean : ExcName → Option Value} {mg mb : Str → Option Value} {h : Heap} {tab : List (Str × Fn)} {gs : List (Str × V)} (T : Top q loose mean mg mb h) (hgl : globOk q gs = true) (he : defsV q = tab) (hr : (recsOf q).all recOk = true) (hb : bltFree q loose = true) :
    Base (fnsT tab) (globT gs) mg mb h where
  g := T.g
  b := T.b
  nolimit := T.nolimit
  fn := fun f fn hf => by
    subst he
    obtain ⟨d, hd, rfl, rfl⟩ := lookup_map hf
    obtain ⟨a, o, pm, code, doc, h1, h2, h3, h4⟩ := T.fn d hd
    exact ⟨a, o, _, h1, h2, h3, recOk_fd (List.all_eq_true.mp hr d hd), h4⟩
  blt := fun f hf hn => by
    have := List.all_eq_true.mp hb f hf
    simp only [Bool.and_eq_true, Bool.not_eq_true'] at this
    obtain ⟨⟨⟨⟨h1, h2⟩, h3⟩, h4⟩, h5⟩ := this
    have nc : ∀ {l : List Str}, l.contains f = false → f ∉ l := fun h hm => by
      rw [List.contains_iff_mem.mpr hm] at h; cases h
    exact ⟨T.free f (nc h1) (nc h2) (nc h3) (nc h4) (nc h5), T.builtins f (by
      intro e; subst e
      exact absurd h1 (by decide +kernel))⟩
  const := fun x v hx => by
    have hx : globV q x = some v := by
      have := List.all_eq_true.mp hgl _ (mem_of_lookup (show gs.lookup x = some v from hx))
      dsimp only at this
      cases e : globV q x with
      | none => rw [e] at this; cases v <;> cases this
      | some u =>
        rw [e] at this
        cases u with
        | int a => cases v with
          | int b => rw [beq_iff_eq.mp this]
          | _ => cases this
        | str a => cases v with
          | str b => rw [beq_iff_eq.mp this]
          | _ => cases this
        | _ => cases v <;> cases this
    obtain ⟨d, h1, h2⟩ := Option.bind_eq_some_iff.mp hx
    obtain ⟨val, hm, hr⟩ := T.const x d h1
    refine ⟨val, hm, fun ρ h' => ?_⟩
    have hr := hr h'
    cases d with
    | none => cases h2; cases hr; exact .none
    | bool b => cases h2; cases hr; exact .bool b
    | int i => cases h2; cases hr; exact .int i _
    | str s =>
      have h2 : (if SOk s then some (V.str s) else none) = some v := h2
      split at h2
      · rename_i hs; cases h2; cases hr; exact .str s _ hs
      · cases h2
    | _ => cases h2

theorem ints_rel {ρ : Map} {h : Heap} : ∀ {vs : List Value} {zs : List Int}, IntsAre vs zs → RelAll ρ h vs (zs.map .int)
  | _, _, .nil => .nil
  | _, _, .cons i t r => .cons (.int i t) (ints_rel r)

theorem law_run {prog : Program} {w : World} {mg mb : Str → Option Value} {s₁ : Shared} {tab : List (Str × Fn)} {fa la : Addr} {vs : List Value} {n d : Nat} {zs : List Int} {A : Around} {glob : Str → Option V} (B : Base (fnsT tab) glob mg mb s₁.heap) (hns : bltNames.all (fun x => (fnsT tab x).isNone) = true) (hm : mg "law" = some (.ref fa))
    (hf : (fnsT tab "law").isSome = true) (hl : s₁.heap.get? la = some (listO vs n)) (hI : IntsAre vs zs) (hlen : zs.length ≤ 63) (ok : LawOk tab glob d) (hA : Rm A d) :
    wpAny (model prog w) A (call (.ref fa) [.ref la]) (fun v s' => v = .bool true ∧ (∀ b o, s₁.heap.get? b = some o → s'.heap.get? b = some o) ∧ s'.os = s₁.os ∧ s'.gens = s₁.gens) (fun _ _ => False) s₁ := by
  obtain ⟨σ', hok⟩ := ok zs hlen
  have hns' : NoShadow (fnsT tab) := fun f hf => by
    have := List.all_eq_true.mp hns f hf
    cases e : fnsT tab f with
    | none => rfl
    | some _ => rw [e] at this; cases this
  have hvl : vs.length ≤ sizeLine := by
    have h1 : ∀ {vs : List Value} {zs : List Int}, IntsAre vs zs → vs.length = zs.length := by
      intro vs zs h
      induction h with
      | nil => rfl
      | cons _ _ _ ih => simp [ih]
    rw [h1 hI]
    exact Nat.le_trans hlen (by decide)
  have hinv : Inv prog w s₁.heap [.list (zs.map .int)] [(la, la)] s₁.heap :=
    { base := fun _ _ e => e
      len := rfl
      objs := fun k o p e1 e2 => by
        cases k with
        | zero => cases e1; cases e2; exact ⟨rfl, vs, n, hl, hvl, ints_rel hI⟩
        | succ k => cases e2
      fresh := fun k p e hk => by
        cases k with
        | zero => cases hk
        | succ k => cases e
      apart := fun i j p q e1 e2 hij => by
        cases i with
        | zero =>
          cases j with
          | zero => exact absurd rfl hij
          | succ j => cases e2
        | succ i => cases e1 }
  have := callN_ok (prog := prog) (w := w) B hns' d "law" fa [.ref 0] [.ref la] _ _ s₁ A hA hf hm (.cons (.ref (d := la) rfl) .nil) hinv
  rw [show (cfgN (fnsT tab) glob d).call "law" [.ref 0] [.list (zs.map .int)] = .ok (.bool true) σ' from hok] at this
  refine wpAny_mono this (fun v s' hp => ?_) fun _ _ f => f
  obtain ⟨ρ', h', tk, rfl, i, x, r⟩ := hp
  cases r
  exact ⟨rfl, i.base, rfl, rfl⟩

theorem list_at {P : Params} {h : Heap} {la : Addr} {vs : List Value} {xs : List WData} (hL : h.IsList la vs.toArray) (hw : Well P h (.ref la) (.list xs)) : h.get? la = some (listO vs 0) := by
  cases hw with
  | list hget _ =>
    obtain ⟨ob, hob, _, nn, hdat⟩ := hL
    rw [hget] at hob
    cases hob
    have e : _ = vs.toArray := (Data.seq.inj hdat).1
    rw [hget, e]; rfl
theorem room_caller {d : Nat} (h : d ≤ 400) : Rm callerA d where
  handled := rfl
  depth := by show 1 + claimMargin + d < recursionLimit; have : 1 + claimMargin + 400 < recursionLimit := by decide
              omega
  units := by show 4 + 8 * d + 300 < cLine; have : (4 : Nat) + 8 * 400 + 300 < cLine := by decide
              omega
end Mine

namespace Mine
open PySem

/-! ## plain runs -/
/-- a run comes to an end, with -/
noncomputable def Wp {α : Type} (m : M α) (σ : Store) (Q : α → Store → Prop) : Prop := ∃ a σ', m σ = .ok a σ' ∧ Q a σ'

section
variable {α β : Type} {σ : Store} {m : M α} {f : α → M β}

theorem Wp.intro {Q : α → Store → Prop} {a : α} {σ' : Store} (h : m σ = .ok a σ') (q : Q a σ') : Wp m σ Q := ⟨a, σ', h, q⟩
theorem Wp_ok {Q : α → Store → Prop} {a : α} {σ' : Store} (h : m σ = .ok a σ') : Wp m σ Q ↔ Q a σ' := by
  constructor
  · rintro ⟨b, τ, e, q⟩; rw [h] at e; cases e; exact q
  · exact fun q => ⟨a, σ', h, q⟩
theorem Wp_bind {Q : β → Store → Prop} : Wp (m >>= f) σ Q ↔ Wp m σ fun a σ' => Wp (f a) σ' Q := by
  constructor
  · rintro ⟨b, τ, e, q⟩
    obtain ⟨a, σ₁, h1, h2⟩ := bind_inv e
    exact ⟨a, σ₁, h1, b, τ, h2, q⟩
  · rintro ⟨a, σ₁, h1, b, τ, h2, q⟩
    exact ⟨b, τ, by rw [bind_ok h1]; exact h2, q⟩
theorem Wp.mono {Q Q' : α → Store → Prop} (h : Wp m σ Q) (hq : ∀ a σ', Q a σ' → Q' a σ') : Wp m σ Q' := let ⟨a, σ', e, q⟩ := h; ⟨a, σ', e, hq a σ' q⟩
/-- a step, then the rest -/
theorem Wp.step {Q : α → Store → Prop} {Q' : β → Store → Prop} (h : Wp m σ Q) (hq : ∀ a σ', Q a σ' → Wp (f a) σ' Q') : Wp (m >>= f) σ Q' := Wp_bind.mpr (h.mono hq)
theorem Wp_pure {Q : α → Store → Prop} {a : α} : Wp (Pure.pure a : M α) σ Q ↔ Q a σ := Wp_ok rfl
theorem Wp_newO {Q : V → Store → Prop} {o : O} : Wp (newO o) σ Q ↔ Q (.ref σ.length) (σ ++ [o]) := Wp_ok rfl
theorem Wp_ofOpt {Q : α → Store → Prop} {a : α} : Wp (ofOpt (some a)) σ Q ↔ Q a σ := Wp_ok rfl

/-! numbers -/
variable {a b : Int} {Q : V → Store → Prop}
theorem Wp_add : Wp (binop .Add (.int a) (.int b)) σ Q ↔ Q (.int (a + b)) σ := Wp_ok rfl
theorem Wp_sub : Wp (binop .Sub (.int a) (.int b)) σ Q ↔ Q (.int (a - b)) σ := Wp_ok rfl
theorem Wp_mul (h : Small a ∨ Small b) : Wp (binop .Mult (.int a) (.int b)) σ Q ↔ Q (.int (a * b)) σ := Wp_ok (by show (if Small a ∨ Small b then pure (V.int (a * b)) else M.bad : M V) σ = _; rw [if_pos h]; rfl)
theorem fdiv_pos {a b : Int} (hb : 0 < b) : a.fdiv b = a / b := Int.fdiv_eq_ediv_of_nonneg a (Int.le_of_lt hb)
theorem fmod_pos {a b : Int} (hb : 0 < b) : a.fmod b = a % b := Int.fmod_eq_emod_of_nonneg a (Int.le_of_lt hb)
theorem Wp_div (h : 0 < b) (h' : b < 18446744073709551616) : Wp (binop .FloorDiv (.int a) (.int b)) σ Q ↔ Q (.int (a / b)) σ := Wp_ok (by
  show (if b ≠ 0 ∧ Small b then pure (V.int (a.fdiv b)) else M.bad : M V) σ = _
  rw [if_pos ⟨by omega, by unfold Small; omega⟩, fdiv_pos h]; rfl)
theorem Wp_mod (h : 0 < b) (h' : b < 18446744073709551616) : Wp (binop .Mod (.int a) (.int b)) σ Q ↔ Q (.int (a % b)) σ := Wp_ok (by
  show (if b ≠ 0 ∧ Small b then pure (V.int (a.fmod b)) else M.bad : M V) σ = _
  rw [if_pos ⟨by omega, by unfold Small; omega⟩, fmod_pos h]; rfl)
theorem Wp_lt : Wp (cmp .Lt (.int a) (.int b)) σ Q ↔ Q (.bool (decide (a < b))) σ := Wp_ok rfl
theorem Wp_le : Wp (cmp .LtE (.int a) (.int b)) σ Q ↔ Q (.bool (decide (a ≤ b))) σ := Wp_ok rfl
theorem Wp_gt : Wp (cmp .Gt (.int a) (.int b)) σ Q ↔ Q (.bool (decide (b < a))) σ := Wp_ok rfl
theorem Wp_ge : Wp (cmp .GtE (.int a) (.int b)) σ Q ↔ Q (.bool (decide (b ≤ a))) σ := Wp_ok rfl
theorem Wp_truthB {c : Bool} {Q : Bool → Store → Prop} : Wp (truth (.bool c)) σ Q ↔ Q c σ := Wp_ok rfl

/-! lists of the store -/
theorem getO_at {n : Nat} {o : O} (h : σ[n]? = some o) : getO n σ = .ok o σ := by rw [getO_eq, h]
theorem getList_at {n : Nat} {l : List V} (h : σ[n]? = some (.list l)) : getList n σ = .ok l σ := by rw [getList_eq, h]
theorem Wp_getList {n : Nat} {l : List V} {Q : List V → Store → Prop} (h : σ[n]? = some (.list l)) : Wp (getList n) σ Q ↔ Q l σ := Wp_ok (getList_at h)
theorem Wp_itemRef {n : Nat} {l : List V} {k : Int} {x : V} (h : σ[n]? = some (.list l)) (hk : 0 ≤ k) (hx : l[k.toNat]? = some x) : Wp (item (.ref n) (.int k)) σ Q ↔ Q x σ := Wp_ok (by
  have hl : k < l.length := by have := lt_of_get hx; omega
  show (getO n >>= fun o => match o with | .list l => itemL l (.int k) | .dict l => ofOpt ((keyOf (.int k)).bind (dGet l)) | _ => M.bad) σ = _
  rw [bind_ok (getO_at h)]
  show ofOpt ((place k l.length).bind fun j => l[j]?) σ = _
  unfold place
  rw [if_pos hk, if_pos hl]
  show ofOpt (l[k.toNat]?) σ = _
  rw [hx]; rfl)
theorem Wp_itemTup {l : List V} {k : Int} {x : V} (hk : 0 ≤ k) (hx : l[k.toNat]? = some x) : Wp (item (.tup l) (.int k)) σ Q ↔ Q x σ := Wp_ok (by
  have hl : k < l.length := by have := lt_of_get hx; omega
  show ofOpt ((place k l.length).bind fun j => l[j]?) σ = _
  unfold place
  rw [if_pos hk, if_pos hl]
  show ofOpt (l[k.toNat]?) σ = _
  rw [hx]; rfl)
theorem Wp_lenRef {n : Nat} {l : List V} (h : σ[n]? = some (.list l)) : Wp (bLen (.ref n)) σ Q ↔ Q (.int l.length) σ := Wp_ok (by
  show (getO n >>= fun o => match o with | .list l => pure (V.int l.length) | .dict l => pure (V.int l.length) | _ => M.bad) σ = _
  rw [bind_ok (getO_at h)]; rfl)
theorem Wp_setItem {n : Nat} {l : List V} {k : Int} {v : V} {Q : Unit → Store → Prop} (h : σ[n]? = some (.list l)) (hn : 0 < n) (hk : 0 ≤ k) (hl : k < l.length) : Wp (setItem (.ref n) (.int k) v) σ Q ↔ Q () (σ.set n (.list (l.set k.toNat v))) := Wp_ok (by
  show (getO n >>= fun o => match o with | .list l => setL n l (.int k) v | .dict l => setD n l (.int k) v | _ => M.bad) σ = _
  rw [bind_ok (getO_at h)]
  show (if 0 ≤ k ∧ k < l.length then setO n (.list (l.set k.toNat v)) else M.bad) σ = _
  rw [if_pos ⟨hk, hl⟩, setO_ok hn (lt_of_get h)])
theorem Wp_srcRef {n : Nat} {l : List V} {Q : Src → Store → Prop} (h : σ[n]? = some (.list l)) : Wp (srcV (.ref n)) σ Q ↔ Q (.lst n) σ := Wp_ok (by
  show (getList n >>= fun _ => pure (Src.lst n)) σ = _
  rw [bind_ok (getList_at h)]; rfl)
theorem Wp_srcTup {l : List V} {Q : Src → Store → Prop} : Wp (srcV (.tup l)) σ Q ↔ Q (.vals l) σ := Wp_ok rfl
theorem Wp_enumRef {n : Nat} {l : List V} {Q : Src → Store → Prop} (h : σ[n]? = some (.list l)) : Wp (enumOf (.ref n)) σ Q ↔ Q (.enum n) σ := Wp_ok (by
  show (getList n >>= fun _ => pure (Src.enum n)) σ = _
  rw [bind_ok (getList_at h)]; rfl)
theorem Wp_range {n : Int} {Q : Src → Store → Prop} (h : -1000000 ≤ n) (h' : n ≤ 1000000) : Wp (rangeOf (.int n)) σ Q ↔ Q (.vals (rangeV 0 n)) σ := Wp_ok (by
  show (if -1000000 ≤ n ∧ n ≤ 1000000 then pure (Src.vals (rangeV 0 n)) else M.bad : M Src) σ = _
  rw [if_pos ⟨h, h'⟩]; rfl)
theorem Wp_listRef {n : Nat} {l : List V} (h : σ[n]? = some (.list l)) : Wp (bList (.ref n)) σ Q ↔ Q (.ref σ.length) (σ ++ [.list l]) := Wp_ok (by
  show ((getO n >>= fun o => match o with | .list l => (pure l : M (List V)) | .dict l => pure (l.map fun p => keyV p.1) | _ => M.bad) >>= fun l => newO (.list l)) σ = _
  rw [M.assoc, bind_ok (getO_at h)]; rfl)
theorem Wp_listTup {l : List V} : Wp (bList (.tup l)) σ Q ↔ Q (.ref σ.length) (σ ++ [.list l]) := Wp_ok rfl
theorem Wp_tupleRef {n : Nat} {l : List V} (h : σ[n]? = some (.list l)) : Wp (bTuple (.ref n)) σ Q ↔ Q (.tup l) σ := Wp_ok (by
  show (getList n >>= fun l => pure (V.tup l)) σ = _
  rw [bind_ok (getList_at h)]; rfl)
theorem Wp_append {n : Nat} {l : List V} {v : V} {R : V → Store → Prop} (h : σ[n]? = some (.list l)) (hn : 0 < n) (hl : l.length < sizeLine) : Wp (runM .append (.ref n) [v]) σ R ↔ R .none (σ.set n (.list (l ++ [v]))) := Wp_ok (by
  show (getList n >>= fun l => if l.length + 1 ≤ sizeLine then (setO n (.list (l ++ [v])) >>= fun _ => pure V.none) else M.bad) σ = _
  rw [bind_ok (getList_at h), if_pos (by omega), bind_ok (setO_ok hn (lt_of_get h))]; rfl)
theorem Wp_mtag {n : Nat} {l : List V} {Q : MTag → Store → Prop} (h : σ[n]? = some (.list l)) : Wp (askS (mtag (.ref n) "append")) σ Q ↔ Q .append σ := Wp_ok (by
  unfold askS mtag
  dsimp only
  rw [h]
  dsimp only
  rw [if_pos rfl])
theorem Wp_addRef {n m : Nat} {l k : List V} (h : σ[n]? = some (.list l)) (h' : σ[m]? = some (.list k)) (hl : l.length + k.length ≤ sizeLine) : Wp (binop .Add (.ref n) (.ref m)) σ Q ↔ Q (.ref σ.length) (σ ++ [.list (l ++ k)]) := Wp_ok (by
  show (getList n >>= fun l => getList m >>= fun k => if l.length + k.length ≤ sizeLine then newO (.list (l ++ k)) else M.bad) σ = _
  rw [bind_ok (getList_at h), bind_ok (getList_at h'), if_pos hl]; rfl)
theorem Wp_addTup {l k : List V} (hl : l.length + k.length ≤ sizeLine) : Wp (binop .Add (.tup l) (.tup k)) σ Q ↔ Q (.tup (l ++ k)) σ := Wp_ok (by
  show (if l.length + k.length ≤ sizeLine then pure (V.tup (l ++ k)) else M.bad : M V) σ = _
  rw [if_pos hl]; rfl)
/-! dicts of the store -/
theorem Wp_itemD {n : Nat} {l : Tab} {b x : V} {k : Key} (h : σ[n]? = some (.dict l)) (hb : keyOf b = some k) (hx : dGet l k = some x) : Wp (item (.ref n) b) σ Q ↔ Q x σ := Wp_ok (by
  show (getO n >>= fun o => match o with | .list l => itemL l b | .dict l => ofOpt ((keyOf b).bind (dGet l)) | _ => M.bad) σ = _
  rw [bind_ok (getO_at h)]
  show ofOpt ((keyOf b).bind (dGet l)) σ = _
  rw [hb]
  show ofOpt (dGet l k) σ = _
  rw [hx]; rfl)
theorem Wp_setD {n : Nat} {l : Tab} {b v : V} {k : Key} {Q : Unit → Store → Prop} (h : σ[n]? = some (.dict l)) (hn : 0 < n) (hb : keyOf b = some k) (hl : l.length < sizeLine) : Wp (setItem (.ref n) b v) σ Q ↔ Q () (σ.set n (.dict (dSet l k v))) := Wp_ok (by
  show (getO n >>= fun o => match o with | .list l => setL n l b v | .dict l => setD n l b v | _ => M.bad) σ = _
  rw [bind_ok (getO_at h)]
  show setD n l b v σ = _
  unfold setD
  rw [hb]
  show (if l.length + 1 ≤ sizeLine then setO n (.dict (dSet l k v)) else M.bad) σ = _
  rw [if_pos (by omega), setO_ok hn (lt_of_get h)])
theorem Wp_lenD {n : Nat} {l : Tab} (h : σ[n]? = some (.dict l)) : Wp (bLen (.ref n)) σ Q ↔ Q (.int l.length) σ := Wp_ok (by
  show (getO n >>= fun o => match o with | .list l => pure (V.int l.length) | .dict l => pure (V.int l.length) | _ => M.bad) σ = _
  rw [bind_ok (getO_at h)]; rfl)
theorem Wp_listD {n : Nat} {l : Tab} (h : σ[n]? = some (.dict l)) : Wp (bList (.ref n)) σ Q ↔ Q (.ref σ.length) (σ ++ [.list (l.map fun p => keyV p.1)]) := Wp_ok (by
  show ((getO n >>= fun o => match o with | .list l => (pure l : M (List V)) | .dict l => pure (l.map fun p => keyV p.1) | _ => M.bad) >>= fun l => newO (.list l)) σ = _
  rw [M.assoc, bind_ok (getO_at h)]; rfl)
theorem Wp_inD {n : Nat} {l : Tab} {a : V} {k : Key} (h : σ[n]? = some (.dict l)) (ha : keyOf a = some k) : Wp (cmp .In a (.ref n)) σ Q ↔ Q (.bool (dGet l k).isSome) σ := Wp_ok (by
  have e : cmp .In a (.ref n) = (among a n >>= fun b => pure (V.bool b)) := by cases a <;> first | rfl | cases ha
  rw [e]
  unfold among
  rw [M.assoc, bind_ok (getO_at h)]
  show (ofOpt ((keyOf a).map fun k => (dGet l k).isSome) >>= fun b => (pure (V.bool b) : M V)) σ = _
  rw [ha]; rfl)
theorem Wp_notInD {n : Nat} {l : Tab} {a : V} {k : Key} (h : σ[n]? = some (.dict l)) (ha : keyOf a = some k) : Wp (cmp .NotIn a (.ref n)) σ Q ↔ Q (.bool (!(dGet l k).isSome)) σ := Wp_ok (by
  have e : cmp .NotIn a (.ref n) = (among a n >>= fun b => pure (V.bool (!b))) := by cases a <;> first | rfl | cases ha
  rw [e]
  unfold among
  rw [M.assoc, bind_ok (getO_at h)]
  show (ofOpt ((keyOf a).map fun k => (dGet l k).isSome) >>= fun b => (pure (V.bool (!b)) : M V)) σ = _
  rw [ha]; rfl)
theorem Wp_sorted {n : Nat} {l : List V} {ss : List Str} (h : σ[n]? = some (.list l)) (hs : allStrs l = some ss) (h64 : ss.length < 64) : Wp (bSorted (.ref n)) σ Q ↔ Q (.ref σ.length) (σ ++ [.list ((sortS ss).map V.str)]) := Wp_ok (by
  show (getList n >>= fun l => ofOpt (allStrs l) >>= fun ss => if ss.length < 64 then newO (.list ((sortS ss).map V.str)) else M.bad) σ = _
  rw [bind_ok (getList_at h), hs]
  show (if ss.length < 64 then newO (.list ((sortS ss).map V.str)) else M.bad) σ = _
  rw [if_pos h64]; rfl)
theorem Wp_dictTup {l : List V} {t : Tab} (ht : pairsOf l = some t) : Wp (bDict (.tup l)) σ Q ↔ Q (.ref σ.length) (σ ++ [.dict (dMerge [] t)]) := Wp_ok (by
  show (ofOpt (pairsOf l) >>= fun t => newO (.dict (dMerge [] t))) σ = _
  rw [ht]; rfl)
theorem Wp_dictRef {n : Nat} {l : List V} {t : Tab} (h : σ[n]? = some (.list l)) (ht : pairsOf l = some t) : Wp (bDict (.ref n)) σ Q ↔ Q (.ref σ.length) (σ ++ [.dict (dMerge [] t)]) := Wp_ok (by
  show (getList n >>= fun l => ofOpt (pairsOf l) >>= fun t => newO (.dict (dMerge [] t))) σ = _
  rw [bind_ok (getList_at h), ht]; rfl)
theorem Wp_inL {n : Nat} {l : List V} {a : V} {b : Bool} (h : σ[n]? = some (.list l)) (hv : vin σ a l = some b) : Wp (cmp .In a (.ref n)) σ Q ↔ Q (.bool b) σ := Wp_ok (by
  have e : cmp .In a (.ref n) = (among a n >>= fun b => pure (V.bool b)) := by cases a <;> rfl
  rw [e]
  unfold among
  rw [M.assoc, bind_ok (getO_at h)]
  show (askS (fun σ => vin σ a l) >>= fun b => (pure (V.bool b) : M V)) σ = _
  rw [bind_ok (a := b) (σ' := σ) (by unfold askS; dsimp only; rw [hv])]; rfl)
theorem Wp_notInL {n : Nat} {l : List V} {a : V} {b : Bool} (h : σ[n]? = some (.list l)) (hv : vin σ a l = some b) : Wp (cmp .NotIn a (.ref n)) σ Q ↔ Q (.bool (!b)) σ := Wp_ok (by
  have e : cmp .NotIn a (.ref n) = (among a n >>= fun b => pure (V.bool (!b))) := by cases a <;> rfl
  rw [e]
  unfold among
  rw [M.assoc, bind_ok (getO_at h)]
  show (askS (fun σ => vin σ a l) >>= fun b => (pure (V.bool (!b)) : M V)) σ = _
  rw [bind_ok (a := b) (σ' := σ) (by unfold askS; dsimp only; rw [hv])]; rfl)
theorem Wp_index {n : Nat} {l : List V} {a : V} {k : Nat} (h : σ[n]? = some (.list l)) (hv : vin σ a l = some true) (hk : vidx σ a l 0 = some k) : Wp (runM .index (.ref n) [a]) σ Q ↔ Q (.int k) σ := Wp_ok (by
  show (getList n >>= fun l => askS fun σ => match vin σ a l with | some true => (vidx σ a l 0).map fun (k : Nat) => V.int (k : Int) | _ => none) σ = _
  rw [bind_ok (getList_at h)]
  unfold askS
  dsimp only
  rw [hv, hk]; rfl)
theorem Wp_mtagI {n : Nat} {l : List V} {Q : MTag → Store → Prop} (h : σ[n]? = some (.list l)) : Wp (askS (mtag (.ref n) "index")) σ Q ↔ Q .index σ := Wp_ok (by
  unfold askS mtag
  dsimp only
  rw [h]
  dsimp only
  rw [if_neg (by decide +kernel), if_pos rfl])
theorem Wp_isNotTrue {b : Bool} : Wp (cmp .IsNot (.bool b) (.bool true)) σ Q ↔ Q (.bool (!b)) σ := Wp_ok (by cases b <;> rfl)
theorem Wp_isTrue {b : Bool} : Wp (cmp .Is (.bool b) (.bool true)) σ Q ↔ Q (.bool b) σ := Wp_ok (by cases b <;> rfl)
theorem Wp_kd {k : Kd} {l : List V} : Wp (isKd k (.tup l)) σ Q ↔ Q (.bool (match k with | .tuple => true | _ => false)) σ := Wp_ok rfl
end

/-! loops -/
section
variable {C : Cfg} {target elt : Expr} {body : List Stmt} {ifs : List Expr} {scope : Scope} {ns : Names} {σ : Store}

/-- a walk of a source as long as something holds -/
noncomputable def Walks (sr : Src) (l : List V) (J : Store → Prop) : Prop := ∀ σ, J σ → (∀ i, sr.at σ i = some l[i]?) ∧ sr.size σ = some l.length
theorem walks_vals {l : List V} {J : Store → Prop} : Walks (.vals l) l J := fun σ _ => ⟨fun _ => rfl, rfl⟩
theorem walks_lst {n : Nat} {l : List V} {J : Store → Prop} (h : ∀ σ, J σ → σ[n]? = some (.list l)) : Walks (.lst n) l J := fun σ hj => by
  have e : listAt σ n = some l := by unfold listAt; rw [h σ hj]
  exact ⟨fun i => by show (listAt σ n).map _ = _; rw [e]; rfl, by show (listAt σ n).map _ = _; rw [e]; rfl⟩
theorem walks_enum {n : Nat} {l : List V} {J : Store → Prop} (h : ∀ σ, J σ → σ[n]? = some (.list l)) : Walks (.enum n) (l.mapIdx fun i v => V.tup [.int i, v]) J := fun σ hj => by
  have e : listAt σ n = some l := by unfold listAt; rw [h σ hj]
  refine ⟨fun i => ?_, ?_⟩
  · show (listAt σ n).map _ = _
    rw [e, List.getElem?_mapIdx]; rfl
  · show (listAt σ n).map _ = _
    rw [e, List.length_mapIdx]; rfl

theorem forLoop_wp {sr : Src} {l : List V} {bt : V → Loc → M Loc} {bd : Loc → M (Fl × Loc)} {J : Store → Prop} (hw : Walks sr l J) (P : Nat → Loc → Store → Prop) (hJ : ∀ i loc σ, P i loc σ → J σ) {Q : Fl × Loc → Store → Prop}
    (step : ∀ i v loc σ, l[i]? = some v → P i loc σ → Wp (bt v loc >>= bd) σ fun r σ' => (r.1 = .next ∧ P (i + 1) r.2 σ') ∨ (∃ u, r.1 = .ret u ∧ Q r σ'))
    (fin : ∀ loc σ, P l.length loc σ → Q (.next, loc) σ) : ∀ (k i : Nat) (loc : Loc) (σ : Store), l.length + 1 ≤ i + k → i ≤ l.length → P i loc σ → Wp (forLoop sr bt bd k i loc) σ Q
  | 0, i, loc, σ, h1, h2, _ => by omega
  | k + 1, i, loc, σ, h1, h2, p => by
    obtain ⟨hat, _⟩ := hw σ (hJ i loc σ p)
    rcases Nat.lt_or_ge i l.length with hl | hl
    · have hv : l[i]? = some l[i] := List.getElem?_eq_getElem hl
      obtain ⟨r, σ', e, hr⟩ := step i l[i] loc σ hv p
      have e1 : forLoop sr bt bd (k + 1) i loc σ = (bt l[i] loc >>= fun loc' => bd loc' >>= fun r => match r.1 with
        | .next => forLoop sr bt bd k (i + 1) r.2
        | .cont => forLoop sr bt bd k (i + 1) r.2
        | .brk => pure (.next, r.2)
        | .ret v => pure (.ret v, r.2)) σ := by rw [forLoop_step (hat i), hv] <;> rfl
      have e2 : forLoop sr bt bd (k + 1) i loc σ = (match r.1 with
        | .next => forLoop sr bt bd k (i + 1) r.2
        | .cont => forLoop sr bt bd k (i + 1) r.2
        | .brk => pure (.next, r.2)
        | .ret v => pure (.ret v, r.2) : M (Fl × Loc)) σ' := by
        rw [e1, ← M.assoc, bind_ok e]
      obtain ⟨fl, loc'⟩ := r
      rcases hr with ⟨hn, p'⟩ | ⟨u, hu, q⟩
      · cases hn
        obtain ⟨a, τ, e3, q⟩ := forLoop_wp hw P hJ step fin k (i + 1) loc' σ' (by omega) (by omega) p'
        exact ⟨a, τ, by rw [e2]; exact e3, q⟩
      · cases hu
        exact ⟨_, σ', by rw [e2]; rfl, q⟩
    · have : i = l.length := by omega
      subst this
      have hv : l[l.length]? = none := List.getElem?_eq_none (Nat.le_refl _)
      refine ⟨_, σ, by rw [forLoop_step (hat l.length), hv]; rfl, fin loc σ p⟩

theorem Wp_forAll {sr : Src} {l : List V} {J : Store → Prop} (hw : Walks sr l J) (htg : tgtOk sr target = true) (P : Nat → Loc → Store → Prop) (hJ : ∀ i loc σ, P i loc σ → J σ) {Q : Fl × Loc → Store → Prop} {loc : Loc} (h0 : P 0 loc σ)
    (step : ∀ i v loc σ, l[i]? = some v → P i loc σ → Wp (bindTo (stLoc ns) target v loc >>= exs C body ns) σ fun r σ' => (r.1 = .next ∧ P (i + 1) r.2 σ') ∨ (∃ u, r.1 = .ret u ∧ Q r σ'))
    (fin : ∀ loc σ, P l.length loc σ → Q (.next, loc) σ) : Wp (forAll C target body sr ns loc) σ Q := by
  obtain ⟨_, hsz⟩ := hw σ (hJ 0 loc σ h0)
  unfold forAll
  rw [if_pos htg]
  refine Wp_bind.mpr ((Wp_ok (σ' := σ) (a := l.length) ?_).mpr (forLoop_wp hw P hJ step fin (l.length + 1) 0 loc σ (by omega) (by omega) h0))
  unfold Src.count askS; dsimp only; rw [hsz]

theorem compLoop_wp {sr : Src} {l : List V} {bt : V → Loc → M Loc} {tt : Loc → M Bool} {et : Loc → M V} {J : Store → Prop} (hw : Walks sr l J) (P : Nat → List V → Loc → Store → Prop) (hJ : ∀ i acc loc σ, P i acc loc σ → J σ)
    (step : ∀ i v acc loc σ, l[i]? = some v → P i acc loc σ → Wp (bt v loc) σ fun loc' σ₁ => Wp (tt loc') σ₁ fun b σ₂ => if b = true then Wp (et loc') σ₂ fun y σ₃ => P (i + 1) (acc ++ [y]) loc' σ₃ else P (i + 1) acc loc' σ₂) :
    ∀ (k i : Nat) (acc : List V) (loc : Loc) (σ : Store), l.length + 1 ≤ i + k → i ≤ l.length → P i acc loc σ → Wp (compLoop sr bt tt et k i loc) σ fun out σ' => ∃ loc', P l.length (acc ++ out) loc' σ'
  | 0, i, acc, loc, σ, h1, h2, _ => by omega
  | k + 1, i, acc, loc, σ, h1, h2, p => by
    obtain ⟨hat, _⟩ := hw σ (hJ i acc loc σ p)
    rcases Nat.lt_or_ge i l.length with hl | hl
    · have hv : l[i]? = some l[i] := List.getElem?_eq_getElem hl
      have e1 : compLoop sr bt tt et (k + 1) i loc σ = (bt l[i] loc >>= fun loc' => tt loc' >>= fun c => if c = true then (et loc' >>= fun x => compLoop sr bt tt et k (i + 1) loc' >>= fun r => pure (x :: r)) else compLoop sr bt tt et k (i + 1) loc') σ := by
        rw [compLoop_step (hat i), hv]
      obtain ⟨loc', σ₁, e2, b, σ₂, e3, hb⟩ := step i l[i] acc loc σ hv p
      rw [bind_ok e2, bind_ok e3] at e1
      cases b with
      | false =>
        obtain ⟨a, τ, e4, q⟩ := compLoop_wp hw P hJ step k (i + 1) acc loc' σ₂ (by omega) (by omega) hb
        exact ⟨a, τ, by rw [e1]; exact e4, q⟩
      | true =>
        obtain ⟨y, σ₃, e4, p'⟩ := hb
        obtain ⟨a, τ, e5, loc'', q⟩ := compLoop_wp hw P hJ step k (i + 1) (acc ++ [y]) loc' σ₃ (by omega) (by omega) p'
        refine ⟨y :: a, τ, ?_, loc'', by rw [List.append_assoc] at q; exact q⟩
        rw [e1]
        show (et loc' >>= fun x => compLoop sr bt tt et k (i + 1) loc' >>= fun r => pure (x :: r)) σ₂ = _
        rw [bind_ok e4, bind_ok e5]; rfl
    · have : i = l.length := by omega
      subst this
      have hv : l[l.length]? = none := List.getElem?_eq_none (Nat.le_refl _)
      exact ⟨[], σ, by rw [compLoop_step (hat l.length), hv]; rfl, loc, by rw [List.append_nil]; exact p⟩

theorem Wp_compAll {sr : Src} {l : List V} {J : Store → Prop} (hw : Walks sr l J) (htg : tgtOk sr target = true) (hok : compOk scope.kind scope.names = true) {loc loc₀ : Loc} (hin : innerLoc ns loc scope.names = pure loc₀) (P : Nat → List V → Loc → Store → Prop)
    (hJ : ∀ i acc loc σ, P i acc loc σ → J σ) (h0 : P 0 [] loc₀ σ)
    (step : ∀ i v acc loc σ, l[i]? = some v → P i acc loc σ → Wp (bindTo (stLocL (relab ns scope.names)) target v loc) σ fun loc' σ₁ => Wp (tests C ifs (relab ns scope.names) loc') σ₁ fun b σ₂ => if b = true then Wp (ev C elt (relab ns scope.names) loc') σ₂ fun y σ₃ => P (i + 1) (acc ++ [y]) loc' σ₃ else P (i + 1) acc loc' σ₂)
    {Q : V → Store → Prop} (fin : ∀ out loc σ', P l.length out loc σ' → out.length ≤ sizeLine ∧ Q (.ref σ'.length) (σ' ++ [.list out])) : Wp (compAll C elt target ifs scope sr ns loc) σ Q := by
  obtain ⟨_, hsz⟩ := hw σ (hJ 0 [] _ σ h0)
  unfold compAll
  rw [if_pos (by rw [htg, hok]; rfl)]
  refine Wp_bind.mpr ((Wp_ok (σ' := σ) (a := l.length) (by unfold Src.count askS; dsimp only; rw [hsz])).mpr ?_)
  rw [hin]
  refine Wp_bind.mpr (Wp_pure.mpr (Wp_bind.mpr ((compLoop_wp hw P hJ step (l.length + 1) 0 [] loc₀ σ (by omega) (by omega) h0).mono fun out σ' ⟨loc', p⟩ => ?_)))
  rw [List.nil_append] at p
  obtain ⟨hl, q⟩ := fin out loc' σ' p
  rw [if_pos hl]
  exact Wp_newO.mpr q

/-- a comprehension that leaves the store as it is -/
theorem Wp_compPure {sr : Src} {l : List V} (hw : Walks sr l fun τ => τ = σ) (htg : tgtOk sr target = true) (hok : compOk scope.kind scope.names = true) {loc loc₀ : Loc} (hin : innerLoc ns loc scope.names = pure loc₀) (S : Loc → Prop) (hS : S loc₀) (g : V → Option V)
    (step : ∀ v loc, v ∈ l → S loc → Wp (bindTo (stLocL (relab ns scope.names)) target v loc) σ fun loc' σ₁ => σ₁ = σ ∧ S loc' ∧ Wp (tests C ifs (relab ns scope.names) loc') σ fun b σ₂ => σ₂ = σ ∧ (if b = true then Wp (ev C elt (relab ns scope.names) loc') σ fun y σ₃ => σ₃ = σ ∧ g v = some y else g v = none))
    {Q : V → Store → Prop} (hl : (l.filterMap g).length ≤ sizeLine) (fin : Q (.ref σ.length) (σ ++ [.list (l.filterMap g)])) : Wp (compAll C elt target ifs scope sr ns loc) σ Q := by
  refine Wp_compAll hw htg hok hin (fun i acc loc τ => τ = σ ∧ S loc ∧ acc = (l.take i).filterMap g) (fun _ _ _ _ h => h.1) ⟨rfl, hS, rfl⟩ (fun i v acc loc τ hv hp => ?_) fun out loc τ hp => ?_
  · obtain ⟨rfl, hs, rfl⟩ := hp
    have htake : l.take (i + 1) = l.take i ++ [v] := by rw [List.take_add_one, hv]; rfl
    refine (step v loc (List.mem_of_getElem? hv) hs).mono fun loc' σ₁ h => ?_
    obtain ⟨rfl, hs', h⟩ := h
    refine h.mono fun b σ₂ h => ?_
    obtain ⟨rfl, h⟩ := h
    cases b with
    | false => exact ⟨rfl, hs', by rw [htake, List.filterMap_append]; have h : g v = none := h; simp [h]⟩
    | true => exact h.mono fun y σ₃ h => ⟨h.1, hs', by rw [htake, List.filterMap_append]; simp [h.2]⟩
  · obtain ⟨rfl, _, rfl⟩ := hp
    rw [List.take_length]
    exact ⟨hl, fin⟩
theorem tgtOk_vals {l : List V} : tgtOk (.vals l) target = true := by cases target <;> rfl
theorem tgtOk_lst {n : Nat} : tgtOk (.lst n) target = true := by cases target <;> rfl
end

/-! what stays of a store -/
noncomputable def Le (σ σ' : Store) : Prop := ∀ (n : Nat) (o : O), σ[n]? = some o → σ'[n]? = some o
theorem Le.refl {σ : Store} : Le σ σ := fun _ _ h => h
theorem Le.trans {σ σ' σ'' : Store} (h : Le σ σ') (h' : Le σ' σ'') : Le σ σ'' := fun n o e => h' n o (h n o e)
theorem Le.append {σ τ : Store} : Le σ (σ ++ τ) := fun n o e => by rw [List.getElem?_append_left (lt_of_get e)]; exact e
theorem Le.len {σ σ' : Store} (h : Le σ σ') : σ.length ≤ σ'.length := by
  rcases Nat.lt_or_ge σ'.length σ.length with hl | hl
  · have := h σ'.length _ (List.getElem?_eq_getElem hl)
    rw [List.getElem?_eq_none (Nat.le_refl _)] at this; cases this
  · exact hl
theorem get_new {σ : Store} {o : O} : (σ ++ [o])[σ.length]? = some o := by rw [List.getElem?_append_right (Nat.le_refl _), Nat.sub_self]; rfl
/-- all but one -/
noncomputable def LeBut (k : Nat) (σ σ' : Store) : Prop := ∀ (n : Nat) (o : O), n ≠ k → σ[n]? = some o → σ'[n]? = some o
theorem LeBut.refl {k : Nat} {σ : Store} : LeBut k σ σ := fun _ _ _ h => h
theorem LeBut.trans {k : Nat} {σ σ' σ'' : Store} (h : LeBut k σ σ') (h' : LeBut k σ' σ'') : LeBut k σ σ'' := fun n o hn e => h' n o hn (h n o hn e)
theorem Le.but {k : Nat} {σ σ' : Store} (h : Le σ σ') : LeBut k σ σ' := fun n o _ e => h n o e
theorem LeBut.set {k : Nat} {σ : Store} {o : O} : LeBut k σ (σ.set k o) := fun n o' hn e => by rw [List.getElem?_set_ne (Ne.symm hn)]; exact e
end Mine

namespace Mine
open PySem PyProof.Rows

/-! ## rules that serve every law -/
theorem set_get {σ : Store} {n : Nat} {o o' : O} (h : σ[n]? = some o) : (σ.set n o')[n]? = some o' := List.getElem?_set_self (lt_of_get h)

theorem Wp_pow {σ : Store} {Q : V → Store → Prop} {a b : Int} (h : 0 ≤ b) (h1 : b ≤ 1000) (h2 : a.natAbs < 1000) : Wp (binop .Pow (.int a) (.int b)) σ Q ↔ Q (.int (a ^ b.toNat)) σ := Wp_ok (by
  show (if 0 ≤ b ∧ b ≤ 1000 ∧ a.natAbs < 1000 then pure (V.int (a ^ b.toNat)) else M.bad : M V) σ = _
  rw [if_pos ⟨h, h1, h2⟩]; rfl)

theorem Le.setNew {σ τ : Store} {k : Nat} {o : O} (h : Le σ τ) (hk : σ.length ≤ k) : Le σ (τ.set k o) := fun n o' e => by
  rw [List.getElem?_set_ne (fun eq => by have := lt_of_get e; omega)]; exact h n o' e
theorem Wp_mtagJoin {σ : Store} {s : Str} {Q : MTag → Store → Prop} : Wp (askS (mtag (.str s) "join")) σ Q ↔ Q .join σ := Wp_ok (by
  unfold askS mtag
  dsimp only
  rw [if_pos rfl])
theorem Wp_itemStr {σ : Store} {Q : V → Store → Prop} {s : Str} {k : Int} {c : Nat} (hk : 0 ≤ k) (hl : k < s.length) (hx : s.cps[k.toNat]? = some c) : Wp (item (.str s) (.int k)) σ Q ↔ Q (.str (chr1 c)) σ := Wp_ok (by
  show ofOpt ((place k s.length).bind fun j => (s.cps[j]?).map fun c => V.str (chr1 c)) σ = _
  unfold place
  rw [if_pos hk, if_pos hl]
  show ofOpt ((s.cps[k.toNat]?).map fun c => V.str (chr1 c)) σ = _
  rw [hx]; rfl)
theorem Wp_addStr {σ : Store} {Q : V → Store → Prop} {x y : Str} (hl : x.length + y.length ≤ sizeLine) : Wp (binop .Add (.str x) (.str y)) σ Q ↔ Q (.str (x ++ y)) σ := Wp_ok (by
  show (if x.length + y.length ≤ sizeLine then pure (V.str (x ++ y)) else M.bad : M V) σ = _
  rw [if_pos hl]; rfl)
theorem cutStr_le (s : Str) (lo hi : Option Int) : (cutStr s lo hi).length ≤ s.length := by
  show (cut s.cps.toList lo hi).toArray.size ≤ s.cps.size
  rw [List.size_toArray, ← Array.length_toList]
  exact cut_length_le _ _ _

theorem allStrs_ok : ∀ (l : List V), (∀ x ∈ l, ∃ c, x = .str (chr1 c)) → ∃ ss, allStrs l = some ss ∧ ss.length = l.length ∧ (ss.map (·.length)).sum = l.length
  | [], _ => ⟨[], rfl, rfl, rfl⟩
  | x :: r, h => by
    obtain ⟨c, rfl⟩ := h x (List.mem_cons_self ..)
    obtain ⟨ss, h1, h2, h3⟩ := allStrs_ok r fun y hy => h y (List.mem_cons_of_mem _ hy)
    refine ⟨chr1 c :: ss, by show (allStrs r).map _ = _; rw [h1]; rfl, by simp [h2], ?_⟩
    rw [List.map_cons, List.sum_cons, h3, List.length_cons, show (chr1 c).length = 1 from rfl]; omega

theorem Wp_joinChars {σ : Store} {Q : V → Store → Prop} {n : Nat} {l : List V} (h : σ[n]? = some (.list l)) (hl : ∀ x ∈ l, ∃ c, x = .str (chr1 c)) (hlen : l.length ≤ 100) (q : ∀ s : Str, s.length ≤ 100 → Q (.str s) σ) :
    Wp (runM .join (.str (Str.ofString "")) [.ref n]) σ Q := by
  obtain ⟨ss, h1, h2, h3⟩ := allStrs_ok l hl
  have h0 : (Str.ofString "").length = 0 := by decide +kernel
  have hc : (ss.map (·.length)).sum + ss.length * (Str.ofString "").length ≤ 16777216 := by rw [h0, h3]; omega
  refine ⟨.str (Txt.join (Str.ofString "") ss), σ, ?_, q _ ?_⟩
  · show (getList n >>= fun l => ofOpt (allStrs l) >>= fun ss => if (ss.map (·.length)).sum + ss.length * (Str.ofString "").length ≤ 16777216 then pure (V.str (Txt.join (Str.ofString "") ss)) else M.bad) σ = _
    rw [bind_ok (getList_at h), bind_ok (a := ss) (σ' := σ) (by rw [h1]; rfl), if_pos hc]; rfl
  · show (Builtin.Str.glued (Str.ofString "") ss).length ≤ 100
    rw [size_glued, h0, h3]; omega

theorem signs_at {k : Int} (h0 : 0 ≤ k) (h1 : k < 26) : ∃ c, (Str.ofString "abcdefghijklmnopqrstuvwxyz").cps[k.toNat]? = some c := by
  have hs : (Str.ofString "abcdefghijklmnopqrstuvwxyz").cps.size = 26 := by decide +kernel
  exact ⟨_, Array.getElem?_eq_getElem (by rw [hs]; omega)⟩
theorem signs_len : (Str.ofString "abcdefghijklmnopqrstuvwxyz").length = 26 := by decide +kernel

theorem range_val {n : Int} {i : Nat} {v : V} (h : (rangeV 0 n)[i]? = some v) : v = .int i ∧ (i : Int) < n := by
  rw [rangeV_get] at h
  split at h
  · cases h; exact ⟨by rw [Int.zero_add], by omega⟩
  · cases h
theorem range_len {n : Int} : (rangeV 0 n).length = n.toNat := by unfold rangeV; simp

theorem LeBut.setNew {st : Nat} {σ τ : Store} {k : Nat} {o : O} (h : LeBut st σ τ) (hk : σ.length ≤ k) : LeBut st σ (τ.set k o) := fun n o' hn e => by
  rw [List.getElem?_set_ne (fun eq => by have := lt_of_get e; omega)]; exact h n o' hn e
theorem toPy_list {σ : Store} {n : Nat} {l : List V} {ds : List PyData} (h : σ[n]? = some (.list l)) (hd : toPyTs (toPyF σ 3) l = some ds) : toPy σ (.ref n) = some (.list ds) := by
  show toPyF σ 4 n = _
  show (match σ[n]? with | some (.list l) => (toPyTs (toPyF σ 3) l).map PyData.list | _ => none) = _
  rw [h]; dsimp only; rw [hd]; rfl
noncomputable def pairV (p : Str × V) : V := .tup [.str p.1, p.2]

noncomputable def NewList (σ : Store) (l : List V) (r : V) (σ' : Store) : Prop := Le σ σ' ∧ ∃ m, r = .ref m ∧ σ.length ≤ m ∧ σ'[m]? = some (.list l)
theorem NewList.new {σ : Store} {l : List V} : NewList σ l (.ref σ.length) (σ ++ [.list l]) := ⟨Le.append, _, rfl, Nat.le_refl _, get_new⟩

theorem eq_str {σ : Store} {Q : V → Store → Prop} {a b : Str} : Wp (cmp .Eq (.str a) (.str b)) σ Q ↔ Q (.bool (a == b)) σ := Wp_ok rfl
theorem Wp_item0 {σ : Store} {Q : V → Store → Prop} {a : V} {r : List V} : Wp (item (.tup (a :: r)) (.int 0)) σ Q ↔ Q a σ := Wp_itemTup (by decide) rfl
theorem Wp_item1 {σ : Store} {Q : V → Store → Prop} {a b : V} {r : List V} : Wp (item (.tup (a :: b :: r)) (.int 1)) σ Q ↔ Q b σ := Wp_itemTup (by decide) rfl
theorem Wp_item2 {σ : Store} {Q : V → Store → Prop} {a b c : V} {r : List V} : Wp (item (.tup (a :: b :: c :: r)) (.int 2)) σ Q ↔ Q c σ := Wp_itemTup (by decide) rfl
theorem Wp_item3 {σ : Store} {Q : V → Store → Prop} {a b c e : V} {r : List V} : Wp (item (.tup (a :: b :: c :: e :: r)) (.int 3)) σ Q ↔ Q e σ := Wp_itemTup (by decide) rfl
theorem Wp_boundInt {σ : Store} {Q : Option Int → Store → Prop} {k : Int} : Wp (bound (.int k)) σ Q ↔ Q (some k) σ := Wp_ok rfl
theorem Wp_boundNone {σ : Store} {Q : Option Int → Store → Prop} : Wp (bound .none) σ Q ↔ Q none σ := Wp_ok rfl
theorem Wp_sliceTup {σ : Store} {Q : V → Store → Prop} {lo hi : Option Int} {l : List V} : Wp (sliceV lo hi (.tup l)) σ Q ↔ Q (.tup (cut l lo hi)) σ := Wp_ok rfl
theorem Wp_kdInt {σ : Store} {Q : V → Store → Prop} {k : Kd} {i : Int} : Wp (isKd k (.int i)) σ Q ↔ Q (.bool (match k with | .int => true | _ => false)) σ := Wp_ok rfl
theorem Wp_kdStr {σ : Store} {Q : V → Store → Prop} {k : Kd} {s : Str} : Wp (isKd k (.str s)) σ Q ↔ Q (.bool (match k with | .str => true | _ => false)) σ := Wp_ok rfl
/-- all but the first -/
theorem Wp_rest {σ : Store} {Q : V → Store → Prop} {a : V} {r : List V} {f : V → M V} : Wp (bound (V.int 1) >>= fun i => bound V.none >>= fun j => sliceV i j (.tup (a :: r)) >>= f) σ Q ↔ Wp (f (.tup r)) σ Q := by
  have e : cut (a :: r) (some 1) none = r := by
    unfold cut
    have h1 : clipAt (a :: r).length 1 = 1 := by
      unfold clipAt
      simp
      omega
    show ((a :: r).drop (clipAt (a :: r).length 1)).take ((a :: r).length - clipAt (a :: r).length 1) = r
    rw [h1]; simp
  rw [Wp_bind, Wp_boundInt, Wp_bind, Wp_boundNone, Wp_bind, Wp_sliceTup, e]

theorem Wp_kdRef {σ : Store} {Q : V → Store → Prop} {k : Kd} {n : Nat} {l : List V} (h : σ[n]? = some (.list l)) : Wp (isKd k (.ref n)) σ Q ↔ Q (.bool (match k with | .list => true | _ => false)) σ := Wp_ok (by
  show (getList n >>= fun _ => pure (V.bool (match k with | .list => true | _ => false))) σ = _
  rw [bind_ok (getList_at h)]; rfl)

end Mine

namespace Mine
open PySem PyProof.Rows

/-! ## the law's own functions, in plain form (printed by gen.py) -/
noncomputable def tab05 : List (Str × Fn) := defsV PySem.Challenge.pw_uf010004_05
noncomputable def gs05 : List (Str × V) := []
noncomputable def gl05 : Str → Option V := globT gs05
noncomputable def cl05 (d : Nat) (f : Str) (as : List V) : M V := callN (fnsT tab05) gl05 d f as
noncomputable def cf05 (d : Nat) : Cfg := cfgN (fnsT tab05) gl05 d
theorem cl05_succ {f : Str} {fn : Fn} (h : fnsT tab05 f = some fn) (d : Nat) (as : List V) : cl05 (d + 1) f as = callFn (cf05 d) fn as := by
  show callN _ _ (d + 1) f as = _
  unfold callN
  rw [h]; rfl

noncomputable def P_is_of_F : Fn := (fnsT tab05 "is_of").getD ⟨[], [], []⟩
theorem P_is_of_K : fnsT tab05 "is_of" = some P_is_of_F := by kernel_rfl
noncomputable def P_is_of_l1 : Stmt := (nthS P_is_of_F.body 4)
theorem P_is_of_l1_step (d : Nat) (v_labelx : V) (v_innerx : V) (v_value : V) (v_kind : V) (v_has : V) (o_label : Option V) (o_inner : Option V) : (bindTo (stLoc P_is_of_F.names) (sTgt P_is_of_l1) (.tup [v_labelx, v_innerx]) [some v_value, some v_kind, some v_has, o_label, o_inner, none, none, none, none, none] >>= exs (cf05 d) (sBody P_is_of_l1) P_is_of_F.names) = (cmp .NotIn v_labelx v_has >>= fun t2 => (truth t2 >>= fun b3 => (cond b3 (pure (Fl.ret (V.bool false), [some v_value, some v_kind, some v_has, some v_labelx, some v_innerx, none, none, none, none, none]) : M (Fl × Loc)) (item v_has v_labelx >>= fun t4 => (cl05 d "is_of" [t4, v_innerx] >>= fun t5 => (truth t5 >>= fun b6 => (cond (!b6) (pure (Fl.ret (V.bool false), [some v_value, some v_kind, some v_has, some v_labelx, some v_innerx, none, none, none, none, none]) : M (Fl × Loc)) (pure (Fl.next, [some v_value, some v_kind, some v_has, some v_labelx, some v_innerx, none, none, none, none, none]) : M (Fl × Loc))))))))) := by
  refine Eq.trans (show _ = exs (cf05 d) (sBody P_is_of_l1) P_is_of_F.names [some v_value, some v_kind, some v_has, some v_labelx, some v_innerx, none, none, none, none, none] from by kernel_rfl) ?_
  rw [exs_K]; kernel_rfl
noncomputable def P_is_of_a1 (d : Nat) (loc : Loc) : M V := exsK (cf05 d) (List.drop 5 P_is_of_F.body) P_is_of_F.names loc retK
theorem P_is_of_a1_eq (d : Nat) (v_value : V) (v_kind : V) (v_has : V) (o_label : Option V) (o_inner : Option V) : P_is_of_a1 d [some v_value, some v_kind, some v_has, o_label, o_inner, none, none, none, none, none] = (item v_kind (V.int 2) >>= fun t7 => (cmp .IsNot t7 V.none >>= fun t8 => (truth t8 >>= fun b9 => cond b9 (pure t8 : M V) (bLen v_has >>= fun t10 => (item v_kind (V.int 1) >>= fun t11 => (bLen t11 >>= fun t12 => (cmp .Eq t10 t12 >>= fun t13 => (pure t13 : M V)))))))) := by kernel_rfl
noncomputable def P_is_of_t3 (d : Nat) (v_value : V) (v_kind : V) : M V := (bDict v_value >>= fun t1 => (item v_kind (V.int 1) >>= fun t14 => (srcV t14 >>= fun s15 => (forAll (cf05 d) (sTgt P_is_of_l1) (sBody P_is_of_l1) s15 P_is_of_F.names [some v_value, some v_kind, some t1, none, none, none, none, none, none, none] >>= flK retK (P_is_of_a1 d)))))
noncomputable def P_is_of_t2 (d : Nat) (v_value : V) (v_kind : V) : M V := (isKd Kd.tuple v_value >>= fun t16 => (truth t16 >>= fun b17 => (if (!b17) = true then (pure (V.bool false) : M V) else (P_is_of_t3 d v_value v_kind))))
noncomputable def P_is_of_t1 (d : Nat) (v_value : V) (v_kind : V) : M V := (item v_kind (V.int 0) >>= fun t18 => (cmp .Eq t18 (V.str (Str.ofString "number")) >>= fun t19 => (truth t19 >>= fun b20 => (if b20 = true then (isKd Kd.tuple v_value >>= fun t21 => (truth t21 >>= fun b22 => (pure (V.bool (!b22)) : M V))) else (P_is_of_t2 d v_value v_kind)))))
theorem P_is_of_sh (d : Nat) (v_value : V) (v_kind : V) : cl05 (d + 1) "is_of" [v_value, v_kind] = (item v_kind (V.int 0) >>= fun t23 => (cmp .Eq t23 (V.str (Str.ofString "blank")) >>= fun t24 => (truth t24 >>= fun b25 => (if b25 = true then (pure (V.bool true) : M V) else (P_is_of_t1 d v_value v_kind))))) := by
  rw [cl05_succ P_is_of_K, callFn_K]; kernel_rfl

noncomputable def L_cell_F : Fn := (fnsT tab05 "_law_cell").getD ⟨[], [], []⟩
theorem L_cell_K : fnsT tab05 "_law_cell" = some L_cell_F := by kernel_rfl
noncomputable def L_cell_t1 (d : Nat) (v_script : V) (v_k : V) : M V := (pure (V.int 0) : M V)
theorem L_cell_sh (d : Nat) (v_script : V) (v_k : V) : cl05 (d + 1) "_law_cell" [v_script, v_k] = (bLen v_script >>= fun t26 => (cmp .Lt v_k t26 >>= fun t27 => (truth t27 >>= fun b28 => (if b28 = true then (item v_script v_k >>= fun t29 => (binop .Mult t29 (V.int 48271) >>= fun t30 => (binop .Mod t30 (V.int 2147483647) >>= fun t31 => (pure t31 : M V)))) else (L_cell_t1 d v_script v_k))))) := by
  rw [cl05_succ L_cell_K, callFn_K]; kernel_rfl

noncomputable def L_next_F : Fn := (fnsT tab05 "_law_next").getD ⟨[], [], []⟩
theorem L_next_K : fnsT tab05 "_law_next" = some L_next_F := by kernel_rfl
theorem L_next_sh (d : Nat) (v_state : V) : cl05 (d + 1) "_law_next" [v_state] = (item v_state (V.int 0) >>= fun t32 => (binop .Mult t32 (V.int 48271) >>= fun t33 => (binop .Add t33 (V.int 11) >>= fun t34 => (binop .Mod t34 (V.int 2147483647) >>= fun t35 => (setItem v_state (V.int 0) t35 >>= fun _ => (item v_state (V.int 1) >>= fun t36 => (binop .Sub t36 (V.int 1) >>= fun t37 => (setItem v_state (V.int 1) t37 >>= fun _ => (item v_state (V.int 0) >>= fun t38 => (binop .FloorDiv t38 (V.int 7) >>= fun t39 => (pure t39 : M V))))))))))) := by
  rw [cl05_succ L_next_K, callFn_K]; kernel_rfl

noncomputable def L_labels_F : Fn := (fnsT tab05 "_law_labels").getD ⟨[], [], []⟩
theorem L_labels_K : fnsT tab05 "_law_labels" = some L_labels_F := by kernel_rfl
noncomputable def L_labels_c1 : Expr := (ePart (sVal (nthS L_labels_F.body 4)) 1)
theorem L_labels_c1_in (v_cell_here : V) (v_many : V) (v_signs : V) (v_size : V) (v_at : V) (v_step : V) : innerLoc L_labels_F.names [some v_cell_here, some v_many, some v_signs, some v_size, some v_at, some v_step, none, none, none, none, none] (cScope L_labels_c1).names = pure [none, none, some v_cell_here, some v_signs, some v_step] := by kernel_rfl
theorem L_labels_c1_bind (v_cell_here : V) (v_signs : V) (v_step : V) (o_kx : Option V) (v_kx : V) : bindTo (stLocL (relab L_labels_F.names (cScope L_labels_c1).names)) (cTgt L_labels_c1) v_kx [none, o_kx, some v_cell_here, some v_signs, some v_step] = pure [none, some v_kx, some v_cell_here, some v_signs, some v_step] := by kernel_rfl
theorem L_labels_c1_elt (d : Nat) (v_cell_here : V) (v_signs : V) (v_step : V) (v_kx : V) : ev (cf05 d) (cElt L_labels_c1) (relab L_labels_F.names (cScope L_labels_c1).names) [none, some v_kx, some v_cell_here, some v_signs, some v_step] = (binop .FloorDiv v_cell_here (V.int 1274) >>= fun t47 => (binop .Mult t47 v_kx >>= fun t48 => (binop .Add v_step t48 >>= fun t49 => (binop .Mod t49 (V.int 26) >>= fun t50 => (item v_signs t50 >>= fun t51 => (pure t51 : M V)))))) := by rw [ev_K]; kernel_rfl
theorem L_labels_c1_tst (d : Nat) (loc : Loc) : tests (cf05 d) (cIfs L_labels_c1) (relab L_labels_F.names (cScope L_labels_c1).names) loc = (pure true : M Bool) := by kernel_rfl
theorem L_labels_c1_ok : compOk (cScope L_labels_c1).kind (cScope L_labels_c1).names = true := by kernel_rfl
noncomputable def L_labels_l1 : Stmt := (nthS L_labels_F.body 6)
theorem L_labels_l1_step (d : Nat) (v_kx : V) (v_cell_here : V) (v_many : V) (v_signs : V) (v_size : V) (v_at : V) (v_step : V) (v_base : V) (v_found : V) (o_k : Option V) (o_sign : Option V) : (bindTo (stLoc L_labels_F.names) (sTgt L_labels_l1) v_kx [some v_cell_here, some v_many, some v_signs, some v_size, some v_at, some v_step, o_k, some v_base, some v_found, o_sign, none] >>= exs (cf05 d) (sBody L_labels_l1) L_labels_F.names) = (binop .FloorDiv v_cell_here (V.int 49) >>= fun t56 => (binop .Mult (V.int 3) v_kx >>= fun t57 => (binop .Add t56 t57 >>= fun t58 => (binop .Mod t58 (V.int 26) >>= fun t59 => (item v_signs t59 >>= fun t60 => (askS (mtag v_found "append") >>= fun g61 => (bound V.none >>= fun i62 => bound v_at >>= fun i63 => sliceV i62 i63 v_base >>= fun t64 => (binop .Add t64 t60 >>= fun t65 => (bound v_at >>= fun i66 => bound V.none >>= fun i67 => sliceV i66 i67 v_base >>= fun t68 => (binop .Add t65 t68 >>= fun t69 => (runM g61 v_found [t69] >>= fun t70 => (pure (Fl.next, [some v_cell_here, some v_many, some v_signs, some v_size, some v_at, some v_step, some v_kx, some v_base, some v_found, some t60, none]) : M (Fl × Loc))))))))))))) := by
  refine Eq.trans (show _ = exs (cf05 d) (sBody L_labels_l1) L_labels_F.names [some v_cell_here, some v_many, some v_signs, some v_size, some v_at, some v_step, some v_kx, some v_base, some v_found, o_sign, none] from by kernel_rfl) ?_
  rw [exs_K]; kernel_rfl
noncomputable def L_labels_a1 (d : Nat) (loc : Loc) : M V := exsK (cf05 d) (List.drop 7 L_labels_F.body) L_labels_F.names loc retK
theorem L_labels_a1_eq (d : Nat) (v_cell_here : V) (v_many : V) (v_signs : V) (v_size : V) (v_at : V) (v_step : V) (v_base : V) (v_found : V) (o_k : Option V) (o_sign : Option V) : L_labels_a1 d [some v_cell_here, some v_many, some v_signs, some v_size, some v_at, some v_step, o_k, some v_base, some v_found, o_sign, none] = (pure v_found : M V) := by kernel_rfl
theorem L_labels_sh (d : Nat) (v_cell_here : V) (v_many : V) : cl05 (d + 1) "_law_labels" [v_cell_here, v_many] = (binop .Mod v_cell_here (V.int 7) >>= fun t40 => (binop .FloorDiv v_cell_here (V.int 7) >>= fun t41 => (binop .Add t40 (V.int 1) >>= fun t42 => (binop .Mod t41 t42 >>= fun t43 => (binop .FloorDiv v_cell_here (V.int 49) >>= fun t44 => (binop .Mod t44 (V.int 26) >>= fun t45 => (askS (mtag (V.str (Str.ofString "")) "join") >>= fun g46 => (rangeOf t40 >>= fun s53 => (compAll (cf05 d) (cElt L_labels_c1) (cTgt L_labels_c1) (cIfs L_labels_c1) (cScope L_labels_c1) s53 L_labels_F.names [some v_cell_here, some v_many, some (V.str (Str.ofString "abcdefghijklmnopqrstuvwxyz")), some t40, some t43, some t45, none, none, none, none, none] >>= fun t52 => (runM g46 (V.str (Str.ofString "")) [t52] >>= fun t54 => (newO (.list []) >>= fun t55 => (rangeOf v_many >>= fun s71 => (forAll (cf05 d) (sTgt L_labels_l1) (sBody L_labels_l1) s71 L_labels_F.names [some v_cell_here, some v_many, some (V.str (Str.ofString "abcdefghijklmnopqrstuvwxyz")), some t40, some t43, some t45, none, some t54, some t55, none, none] >>= flK retK (L_labels_a1 d)))))))))))))) := by
  rw [cl05_succ L_labels_K, callFn_K]; kernel_rfl

noncomputable def L_kind_F : Fn := (fnsT tab05 "_law_kind").getD ⟨[], [], []⟩
theorem L_kind_K : fnsT tab05 "_law_kind" = some L_kind_F := by kernel_rfl
noncomputable def L_kind_c1 : Expr := (sVal (nthS L_kind_F.body 4))
theorem L_kind_c1_in (v_state : V) (v_labels_here : V) (v_met : V) (v_left : V) (v_number : V) (v_picked : V) : innerLoc L_kind_F.names [some v_state, some v_labels_here, some v_met, some v_left, some v_number, some v_picked, none, none, none, none, none] (cScope L_kind_c1).names = pure [none, none, some v_picked] := by kernel_rfl
theorem L_kind_c1_bind (v_picked : V) (o_labelx : Option V) (v_labelx : V) : bindTo (stLocL (relab L_kind_F.names (cScope L_kind_c1).names)) (cTgt L_kind_c1) v_labelx [none, o_labelx, some v_picked] = pure [none, some v_labelx, some v_picked] := by kernel_rfl
theorem L_kind_c1_elt (d : Nat) (v_picked : V) (v_labelx : V) : ev (cf05 d) (cElt L_kind_c1) (relab L_kind_F.names (cScope L_kind_c1).names) [none, some v_labelx, some v_picked] = (pure v_labelx : M V) := by rw [ev_K]; kernel_rfl
theorem L_kind_c1_tst (d : Nat) (v_picked : V) (v_labelx : V) : tests (cf05 d) (cIfs L_kind_c1) (relab L_kind_F.names (cScope L_kind_c1).names) [none, some v_labelx, some v_picked] = (cmp .In v_labelx v_picked >>= fun t88 => (truth t88 >>= fun b89 => (pure b89 : M Bool))) := by rw [show cIfs L_kind_c1 = [ePart L_kind_c1 3] from by kernel_rfl, tests_K]; kernel_rfl
theorem L_kind_c1_ok : compOk (cScope L_kind_c1).kind (cScope L_kind_c1).names = true := by kernel_rfl
noncomputable def L_kind_c2 : Expr := (ePart (sVal (nthS L_kind_F.body 5)) 1)
theorem L_kind_c2_in (v_state : V) (v_labels_here : V) (v_met : V) (v_left : V) (v_number : V) (v_picked : V) (v_words : V) : innerLoc L_kind_F.names [some v_state, some v_labels_here, some v_met, some v_left, some v_number, some v_picked, some v_words, none, none, none, none] (cScope L_kind_c2).names = pure [none, none, none, some v_labels_here, some v_left, some v_met, some v_state] := by kernel_rfl
theorem L_kind_c2_bind (v_state : V) (v_labels_here : V) (v_met : V) (v_left : V) (o_labelx : Option V) (v_labelx : V) : bindTo (stLocL (relab L_kind_F.names (cScope L_kind_c2).names)) (cTgt L_kind_c2) v_labelx [none, o_labelx, none, some v_labels_here, some v_left, some v_met, some v_state] = pure [none, some v_labelx, none, some v_labels_here, some v_left, some v_met, some v_state] := by kernel_rfl
theorem L_kind_c2_elt (d : Nat) (v_state : V) (v_labels_here : V) (v_met : V) (v_left : V) (v_labelx : V) : ev (cf05 d) (cElt L_kind_c2) (relab L_kind_F.names (cScope L_kind_c2).names) [none, some v_labelx, none, some v_labels_here, some v_left, some v_met, some v_state] = (binop .Sub v_left (V.int 1) >>= fun t93 => (cl05 d "_law_kind" [v_state, v_labels_here, v_met, t93] >>= fun t94 => (pure (V.tup [v_labelx, t94]) : M V))) := by rw [ev_K]; kernel_rfl
theorem L_kind_c2_tst (d : Nat) (loc : Loc) : tests (cf05 d) (cIfs L_kind_c2) (relab L_kind_F.names (cScope L_kind_c2).names) loc = (pure true : M Bool) := by kernel_rfl
theorem L_kind_c2_ok : compOk (cScope L_kind_c2).kind (cScope L_kind_c2).names = true := by kernel_rfl
noncomputable def L_kind_t4 (d : Nat) (v_state : V) (v_labels_here : V) (v_met : V) (v_left : V) (v_number : V) (v_picked : V) (v_words : V) (v_fields : V) : M V := (item v_met (V.int 0) >>= fun t98 => (item v_met (V.int 1) >>= fun t99 => (askS (mtag t99 "index") >>= fun g100 => (runM g100 t99 [v_words] >>= fun t101 => (binop .Mult (V.int 2) t101 >>= fun t102 => (binop .Add (V.int 1) t102 >>= fun t103 => (binop .Mult t98 t103 >>= fun t104 => (pure (V.tup [(V.str (Str.ofString "record")), v_fields, t104]) : M V))))))))
noncomputable def L_kind_t3 (d : Nat) (v_state : V) (v_labels_here : V) (v_met : V) (v_left : V) (v_number : V) (v_picked : V) (v_words : V) (v_fields : V) : M V := (item v_met (V.int 1) >>= fun t105 => (cmp .NotIn v_words t105 >>= fun t106 => (truth t106 >>= fun b107 => (if b107 = true then (item v_met (V.int 1) >>= fun t108 => (askS (mtag t108 "append") >>= fun g109 => (runM g109 t108 [v_words] >>= fun t110 => (L_kind_t4 d v_state v_labels_here v_met v_left v_number v_picked v_words v_fields)))) else (L_kind_t4 d v_state v_labels_here v_met v_left v_number v_picked v_words v_fields)))))
noncomputable def L_kind_t2 (d : Nat) (v_state : V) (v_labels_here : V) (v_met : V) (v_left : V) (v_number : V) : M V := (binop .FloorDiv v_number (V.int 7) >>= fun t73 => (binop .Mod t73 (V.int 4) >>= fun t74 => (item v_labels_here t74 >>= fun t75 => (binop .FloorDiv v_number (V.int 28) >>= fun t76 => (binop .Mod t76 (V.int 4) >>= fun t77 => (item v_labels_here t77 >>= fun t78 => (binop .FloorDiv v_number (V.int 112) >>= fun t79 => (binop .Mod t79 (V.int 4) >>= fun t80 => (item v_labels_here t80 >>= fun t81 => (newO (.list [t75, t78, t81]) >>= fun t82 => (binop .FloorDiv v_number (V.int 448) >>= fun t83 => (binop .Mod t83 (V.int 4) >>= fun t84 => (bound V.none >>= fun i85 => bound t84 >>= fun i86 => sliceV i85 i86 t82 >>= fun t87 => (bSorted v_labels_here >>= fun t91 => (srcV t91 >>= fun s92 => (compAll (cf05 d) (cElt L_kind_c1) (cTgt L_kind_c1) (cIfs L_kind_c1) (cScope L_kind_c1) s92 L_kind_F.names [some v_state, some v_labels_here, some v_met, some v_left, some v_number, some t87, none, none, none, none, none] >>= fun t90 => (srcV t90 >>= fun s96 => (compAll (cf05 d) (cElt L_kind_c2) (cTgt L_kind_c2) (cIfs L_kind_c2) (cScope L_kind_c2) s96 L_kind_F.names [some v_state, some v_labels_here, some v_met, some v_left, some v_number, some t87, some t90, none, none, none, none] >>= fun t95 => (bTuple t95 >>= fun t97 => (binop .FloorDiv v_number (V.int 1792) >>= fun t111 => (binop .Mod t111 (V.int 2) >>= fun t112 => (cmp .Eq t112 (V.int 0) >>= fun t113 => (truth t113 >>= fun b114 => (if b114 = true then (pure (V.tup [(V.str (Str.ofString "record")), t97, V.none]) : M V) else (L_kind_t3 d v_state v_labels_here v_met v_left v_number t87 t90 t97)))))))))))))))))))))))))
noncomputable def L_kind_t1 (d : Nat) (v_state : V) (v_labels_here : V) (v_met : V) (v_left : V) (v_number : V) : M V := (binop .Mod v_number (V.int 7) >>= fun t115 => (cmp .Eq t115 (V.int 2) >>= fun t116 => (truth t116 >>= fun b117 => (if b117 = true then (item v_met (V.int 0) >>= fun t118 => (binop .Mult t118 (V.int 2) >>= fun t119 => (binop .FloorDiv v_number (V.int 7) >>= fun t120 => (binop .Mod t120 (V.int 3) >>= fun t121 => (binop .Mult t119 t121 >>= fun t122 => (pure (V.tup [(V.str (Str.ofString "blank")), t122]) : M V)))))) else (L_kind_t2 d v_state v_labels_here v_met v_left v_number)))))
theorem L_kind_sh (d : Nat) (v_state : V) (v_labels_here : V) (v_met : V) (v_left : V) : cl05 (d + 1) "_law_kind" [v_state, v_labels_here, v_met, v_left] = (cl05 d "_law_next" [v_state] >>= fun t72 => (cmp .LtE v_left (V.int 1) >>= fun t123 => (truth t123 >>= fun b124 => (cond b124 (pure (V.tup [(V.str (Str.ofString "number"))]) : M V) (item v_state (V.int 1) >>= fun t125 => (cmp .LtE t125 (V.int 0) >>= fun t126 => (truth t126 >>= fun b127 => (cond b127 (pure (V.tup [(V.str (Str.ofString "number"))]) : M V) (binop .Mod t72 (V.int 7) >>= fun t128 => (cmp .Lt t128 (V.int 2) >>= fun t129 => (truth t129 >>= fun b130 => (cond b130 (pure (V.tup [(V.str (Str.ofString "number"))]) : M V) (L_kind_t1 d v_state v_labels_here v_met v_left t72))))))))))))) := by
  rw [cl05_succ L_kind_K, callFn_K]; kernel_rfl

noncomputable def L_any_F : Fn := (fnsT tab05 "_law_any").getD ⟨[], [], []⟩
theorem L_any_K : fnsT tab05 "_law_any" = some L_any_F := by kernel_rfl
noncomputable def L_any_c1 : Expr := (sVal (nthS L_any_F.body 2))
theorem L_any_c1_in (v_state : V) (v_labels_here : V) (v_left : V) (v_number : V) : innerLoc L_any_F.names [some v_state, some v_labels_here, some v_left, some v_number, none, none, none, none] (cScope L_any_c1).names = pure [none, none, none, some v_state] := by kernel_rfl
theorem L_any_c1_bind (v_state : V) (o_labelx : Option V) (v_labelx : V) : bindTo (stLocL (relab L_any_F.names (cScope L_any_c1).names)) (cTgt L_any_c1) v_labelx [none, o_labelx, none, some v_state] = pure [none, some v_labelx, none, some v_state] := by kernel_rfl
theorem L_any_c1_elt (d : Nat) (v_state : V) (v_labelx : V) : ev (cf05 d) (cElt L_any_c1) (relab L_any_F.names (cScope L_any_c1).names) [none, some v_labelx, none, some v_state] = (pure v_labelx : M V) := by rw [ev_K]; kernel_rfl
theorem L_any_c1_tst (d : Nat) (v_state : V) (v_labelx : V) : tests (cf05 d) (cIfs L_any_c1) (relab L_any_F.names (cScope L_any_c1).names) [none, some v_labelx, none, some v_state] = (cl05 d "_law_next" [v_state] >>= fun t132 => (binop .Mod t132 (V.int 2) >>= fun t133 => (cmp .Eq t133 (V.int 0) >>= fun t134 => (truth t134 >>= fun b135 => (pure b135 : M Bool))))) := by rw [show cIfs L_any_c1 = [ePart L_any_c1 3] from by kernel_rfl, tests_K]; kernel_rfl
theorem L_any_c1_ok : compOk (cScope L_any_c1).kind (cScope L_any_c1).names = true := by kernel_rfl
noncomputable def L_any_c2 : Expr := (ePart (sVal (nthS L_any_F.body 3)) 1)
theorem L_any_c2_in (v_state : V) (v_labels_here : V) (v_left : V) (v_number : V) (v_words : V) : innerLoc L_any_F.names [some v_state, some v_labels_here, some v_left, some v_number, some v_words, none, none, none] (cScope L_any_c2).names = pure [none, none, none, some v_labels_here, some v_left, some v_state] := by kernel_rfl
theorem L_any_c2_bind (v_state : V) (v_labels_here : V) (v_left : V) (o_labelx : Option V) (v_labelx : V) : bindTo (stLocL (relab L_any_F.names (cScope L_any_c2).names)) (cTgt L_any_c2) v_labelx [none, o_labelx, none, some v_labels_here, some v_left, some v_state] = pure [none, some v_labelx, none, some v_labels_here, some v_left, some v_state] := by kernel_rfl
theorem L_any_c2_elt (d : Nat) (v_state : V) (v_labels_here : V) (v_left : V) (v_labelx : V) : ev (cf05 d) (cElt L_any_c2) (relab L_any_F.names (cScope L_any_c2).names) [none, some v_labelx, none, some v_labels_here, some v_left, some v_state] = (binop .Sub v_left (V.int 1) >>= fun t139 => (cl05 d "_law_any" [v_state, v_labels_here, t139] >>= fun t140 => (pure (V.tup [v_labelx, t140]) : M V))) := by rw [ev_K]; kernel_rfl
theorem L_any_c2_tst (d : Nat) (loc : Loc) : tests (cf05 d) (cIfs L_any_c2) (relab L_any_F.names (cScope L_any_c2).names) loc = (pure true : M Bool) := by kernel_rfl
theorem L_any_c2_ok : compOk (cScope L_any_c2).kind (cScope L_any_c2).names = true := by kernel_rfl
noncomputable def L_any_t1 (d : Nat) (v_state : V) (v_labels_here : V) (v_left : V) (v_number : V) : M V := (bSorted v_labels_here >>= fun t137 => (srcV t137 >>= fun s138 => (compAll (cf05 d) (cElt L_any_c1) (cTgt L_any_c1) (cIfs L_any_c1) (cScope L_any_c1) s138 L_any_F.names [some v_state, some v_labels_here, some v_left, some v_number, none, none, none, none] >>= fun t136 => (srcV t136 >>= fun s142 => (compAll (cf05 d) (cElt L_any_c2) (cTgt L_any_c2) (cIfs L_any_c2) (cScope L_any_c2) s142 L_any_F.names [some v_state, some v_labels_here, some v_left, some v_number, some t136, none, none, none] >>= fun t141 => (bTuple t141 >>= fun t143 => (pure t143 : M V)))))))
theorem L_any_sh (d : Nat) (v_state : V) (v_labels_here : V) (v_left : V) : cl05 (d + 1) "_law_any" [v_state, v_labels_here, v_left] = (cl05 d "_law_next" [v_state] >>= fun t131 => (cmp .LtE v_left (V.int 1) >>= fun t144 => (truth t144 >>= fun b145 => (cond b145 (binop .FloorDiv t131 (V.int 2) >>= fun t161 => (binop .Mod t161 (V.int 5) >>= fun t162 => (binop .FloorDiv t131 (V.int 2) >>= fun t163 => (binop .Pow (V.int 10) (V.int 12) >>= fun t164 => (binop .Mult (V.int 2) t164 >>= fun t165 => (binop .Mod t163 t165 >>= fun t166 => (binop .Pow (V.int 10) (V.int 12) >>= fun t167 => (binop .Sub t166 t167 >>= fun t168 => (newO (.list [t162, t168]) >>= fun t169 => (binop .FloorDiv t131 (V.int 20) >>= fun t170 => (binop .Mod t170 (V.int 2) >>= fun t171 => (item t169 t171 >>= fun t172 => (pure t172 : M V))))))))))))) (binop .Mod t131 (V.int 2) >>= fun t146 => (cmp .Eq t146 (V.int 0) >>= fun t147 => (truth t147 >>= fun b148 => (cond b148 (binop .FloorDiv t131 (V.int 2) >>= fun t149 => (binop .Mod t149 (V.int 5) >>= fun t150 => (binop .FloorDiv t131 (V.int 2) >>= fun t151 => (binop .Pow (V.int 10) (V.int 12) >>= fun t152 => (binop .Mult (V.int 2) t152 >>= fun t153 => (binop .Mod t151 t153 >>= fun t154 => (binop .Pow (V.int 10) (V.int 12) >>= fun t155 => (binop .Sub t154 t155 >>= fun t156 => (newO (.list [t150, t156]) >>= fun t157 => (binop .FloorDiv t131 (V.int 20) >>= fun t158 => (binop .Mod t158 (V.int 2) >>= fun t159 => (item t157 t159 >>= fun t160 => (pure t160 : M V))))))))))))) (L_any_t1 d v_state v_labels_here v_left t131))))))))) := by
  rw [cl05_succ L_any_K, callFn_K]; kernel_rfl

noncomputable def L_value_F : Fn := (fnsT tab05 "_law_value").getD ⟨[], [], []⟩
theorem L_value_K : fnsT tab05 "_law_value" = some L_value_F := by kernel_rfl
noncomputable def L_value_l1 : Stmt := (nthS L_value_F.body 3)
theorem L_value_l1_step (d : Nat) (v_labelx : V) (v_innerx : V) (v_state : V) (v_kind_here : V) (v_labels_here : V) (v_fields : V) (o_inner : Option V) (o_label : Option V) : (bindTo (stLoc L_value_F.names) (sTgt L_value_l1) (.tup [v_labelx, v_innerx]) [some v_state, some v_kind_here, some v_labels_here, some v_fields, o_label, o_inner, none, none, none, none, none, none] >>= exs (cf05 d) (sBody L_value_l1) L_value_F.names) = (cl05 d "_law_value" [v_state, v_innerx, v_labels_here] >>= fun t174 => (setItem v_fields v_labelx t174 >>= fun _ => (pure (Fl.next, [some v_state, some v_kind_here, some v_labels_here, some v_fields, some v_labelx, some v_innerx, none, none, none, none, none, none]) : M (Fl × Loc)))) := by
  refine Eq.trans (show _ = exs (cf05 d) (sBody L_value_l1) L_value_F.names [some v_state, some v_kind_here, some v_labels_here, some v_fields, some v_labelx, some v_innerx, none, none, none, none, none, none] from by kernel_rfl) ?_
  rw [exs_K]; kernel_rfl
noncomputable def L_value_a1 (d : Nat) (loc : Loc) : M V := exsK (cf05 d) (List.drop 4 L_value_F.body) L_value_F.names loc retK
noncomputable def L_value_c1 : Expr := (ePart (sVal (nthS L_value_F.body 5)) 1)
theorem L_value_c1_in (v_state : V) (v_kind_here : V) (v_labels_here : V) (v_fields : V) (o_label : Option V) (o_inner : Option V) : innerLoc L_value_F.names [some v_state, some v_kind_here, some v_labels_here, some v_fields, o_label, o_inner, none, none, none, none, none, none] (cScope L_value_c1).names = pure [none, none, some v_fields] := by kernel_rfl
theorem L_value_c1_bind (v_fields : V) (o_labelx : Option V) (v_labelx : V) : bindTo (stLocL (relab L_value_F.names (cScope L_value_c1).names)) (cTgt L_value_c1) v_labelx [none, o_labelx, some v_fields] = pure [none, some v_labelx, some v_fields] := by kernel_rfl
theorem L_value_c1_elt (d : Nat) (v_fields : V) (v_labelx : V) : ev (cf05 d) (cElt L_value_c1) (relab L_value_F.names (cScope L_value_c1).names) [none, some v_labelx, some v_fields] = (item v_fields v_labelx >>= fun t175 => (pure (V.tup [v_labelx, t175]) : M V)) := by rw [ev_K]; kernel_rfl
theorem L_value_c1_tst (d : Nat) (loc : Loc) : tests (cf05 d) (cIfs L_value_c1) (relab L_value_F.names (cScope L_value_c1).names) loc = (pure true : M Bool) := by kernel_rfl
theorem L_value_c1_ok : compOk (cScope L_value_c1).kind (cScope L_value_c1).names = true := by kernel_rfl
noncomputable def L_value_t3 (d : Nat) (v_state : V) (v_kind_here : V) (v_labels_here : V) (v_fields : V) (o_label : Option V) (o_inner : Option V) : M V := (bList v_fields >>= fun t177 => (bSorted t177 >>= fun t178 => (srcV t178 >>= fun s179 => (compAll (cf05 d) (cElt L_value_c1) (cTgt L_value_c1) (cIfs L_value_c1) (cScope L_value_c1) s179 L_value_F.names [some v_state, some v_kind_here, some v_labels_here, some v_fields, o_label, o_inner, none, none, none, none, none, none] >>= fun t176 => (bTuple t176 >>= fun t180 => (pure t180 : M V))))))
noncomputable def L_value_l2 : Stmt := (nthS (sBody (nthS L_value_F.body 4)) 0)
theorem L_value_l2_step (d : Nat) (v_labelx : V) (v_state : V) (v_kind_here : V) (v_labels_here : V) (v_fields : V) (o_label : Option V) (o_inner : Option V) : (bindTo (stLoc L_value_F.names) (sTgt L_value_l2) v_labelx [some v_state, some v_kind_here, some v_labels_here, some v_fields, o_label, o_inner, none, none, none, none, none, none] >>= exs (cf05 d) (sBody L_value_l2) L_value_F.names) = (cmp .NotIn v_labelx v_fields >>= fun t184 => (truth t184 >>= fun b185 => (cond b185 (cl05 d "_law_next" [v_state] >>= fun t186 => (binop .Mod t186 (V.int 2) >>= fun t187 => (cmp .Eq t187 (V.int 0) >>= fun t188 => (truth t188 >>= fun b189 => (cond b189 (cl05 d "_law_any" [v_state, v_labels_here, (V.int 2)] >>= fun t190 => (setItem v_fields v_labelx t190 >>= fun _ => (pure (Fl.next, [some v_state, some v_kind_here, some v_labels_here, some v_fields, some v_labelx, o_inner, none, none, none, none, none, none]) : M (Fl × Loc)))) (pure (Fl.next, [some v_state, some v_kind_here, some v_labels_here, some v_fields, some v_labelx, o_inner, none, none, none, none, none, none]) : M (Fl × Loc))))))) (pure (Fl.next, [some v_state, some v_kind_here, some v_labels_here, some v_fields, some v_labelx, o_inner, none, none, none, none, none, none]) : M (Fl × Loc))))) := by
  refine Eq.trans (show _ = exs (cf05 d) (sBody L_value_l2) L_value_F.names [some v_state, some v_kind_here, some v_labels_here, some v_fields, some v_labelx, o_inner, none, none, none, none, none, none] from by kernel_rfl) ?_
  rw [exs_K]; kernel_rfl
noncomputable def L_value_a2 (d : Nat) (loc : Loc) : M V := exsK (cf05 d) (List.drop 1 (sBody (nthS L_value_F.body 4))) L_value_F.names loc (flK retK (fun loc' => exsK (cf05 d) (List.drop 5 L_value_F.body) L_value_F.names loc' retK))
theorem L_value_a2_eq (d : Nat) (v_state : V) (v_kind_here : V) (v_labels_here : V) (v_fields : V) (o_label : Option V) (o_inner : Option V) : L_value_a2 d [some v_state, some v_kind_here, some v_labels_here, some v_fields, o_label, o_inner, none, none, none, none, none, none] = (L_value_t3 d v_state v_kind_here v_labels_here v_fields o_label o_inner) := by kernel_rfl
theorem L_value_a1_eq (d : Nat) (v_state : V) (v_kind_here : V) (v_labels_here : V) (v_fields : V) (o_inner : Option V) (o_label : Option V) : L_value_a1 d [some v_state, some v_kind_here, some v_labels_here, some v_fields, o_label, o_inner, none, none, none, none, none, none] = (item v_kind_here (V.int 2) >>= fun t181 => (cmp .IsNot t181 V.none >>= fun t182 => (truth t182 >>= fun b183 => (if b183 = true then (newO (.list [(V.str (Str.ofString "zzzzzzzz")), (V.str (Str.ofString "a"))]) >>= fun t191 => (binop .Add v_labels_here t191 >>= fun t192 => (srcV t192 >>= fun s193 => (forAll (cf05 d) (sTgt L_value_l2) (sBody L_value_l2) s193 L_value_F.names [some v_state, some v_kind_here, some v_labels_here, some v_fields, o_label, o_inner, none, none, none, none, none, none] >>= flK (flK retK (fun loc' => exsK (cf05 d) (List.drop 5 L_value_F.body) L_value_F.names loc' retK)) (L_value_a2 d))))) else (L_value_t3 d v_state v_kind_here v_labels_here v_fields o_label o_inner))))) := by kernel_rfl
noncomputable def L_value_t2 (d : Nat) (v_state : V) (v_kind_here : V) (v_labels_here : V) : M V := (newO (.dict []) >>= fun t173 => (item v_kind_here (V.int 1) >>= fun t194 => (srcV t194 >>= fun s195 => (forAll (cf05 d) (sTgt L_value_l1) (sBody L_value_l1) s195 L_value_F.names [some v_state, some v_kind_here, some v_labels_here, some t173, none, none, none, none, none, none, none, none] >>= flK retK (L_value_a1 d)))))
noncomputable def L_value_t1 (d : Nat) (v_state : V) (v_kind_here : V) (v_labels_here : V) : M V := (item v_kind_here (V.int 0) >>= fun t196 => (cmp .Eq t196 (V.str (Str.ofString "number")) >>= fun t197 => (truth t197 >>= fun b198 => (if b198 = true then (cl05 d "_law_any" [v_state, v_labels_here, (V.int 1)] >>= fun t199 => (pure t199 : M V)) else (L_value_t2 d v_state v_kind_here v_labels_here)))))
theorem L_value_sh (d : Nat) (v_state : V) (v_kind_here : V) (v_labels_here : V) : cl05 (d + 1) "_law_value" [v_state, v_kind_here, v_labels_here] = (item v_kind_here (V.int 0) >>= fun t200 => (cmp .Eq t200 (V.str (Str.ofString "blank")) >>= fun t201 => (truth t201 >>= fun b202 => (if b202 = true then (cl05 d "_law_any" [v_state, v_labels_here, (V.int 3)] >>= fun t203 => (pure t203 : M V)) else (L_value_t1 d v_state v_kind_here v_labels_here))))) := by
  rw [cl05_succ L_value_K, callFn_K]; kernel_rfl

noncomputable def L_bent_F : Fn := (fnsT tab05 "_law_bent").getD ⟨[], [], []⟩
theorem L_bent_K : fnsT tab05 "_law_bent" = some L_bent_F := by kernel_rfl
noncomputable def L_bent_t2 (d : Nat) (v_value_here : V) (v_path : V) (v_labels_here : V) (o_word : Option V) (o_rest : Option V) (o_fields : Option V) : M V := (binop .FloorDiv v_path (V.int 5) >>= fun t204 => (bLen v_value_here >>= fun t205 => (binop .Mod t204 t205 >>= fun t206 => (item v_value_here t206 >>= fun t207 => (item t207 (V.int 1) >>= fun t208 => (binop .FloorDiv v_path (V.int 20) >>= fun t209 => (cl05 d "_law_bent" [t208, t209, v_labels_here] >>= fun t210 => (bound V.none >>= fun i211 => bound t206 >>= fun i212 => sliceV i211 i212 v_value_here >>= fun t213 => (item v_value_here t206 >>= fun t214 => (item t214 (V.int 0) >>= fun t215 => (binop .Add t213 (V.tup [(V.tup [t215, t210])]) >>= fun t216 => (binop .Add t206 (V.int 1) >>= fun t217 => (bound t217 >>= fun i218 => bound V.none >>= fun i219 => sliceV i218 i219 v_value_here >>= fun t220 => (binop .Add t216 t220 >>= fun t221 => (pure t221 : M V)))))))))))))))
noncomputable def L_bent_c1 : Expr := (sVal (nthS (sBody (nthS L_bent_F.body 1)) 1))
theorem L_bent_c1_in (v_value_here : V) (v_path : V) (v_labels_here : V) (v_word : V) : innerLoc L_bent_F.names [some v_value_here, some v_path, some v_labels_here, some v_word, none, none, none, none, none, none, none, none, none, none, none] (cScope L_bent_c1).names = pure [none, none, some v_word] := by kernel_rfl
theorem L_bent_c1_bind (v_word : V) (o_pairx : Option V) (v_pairx : V) : bindTo (stLocL (relab L_bent_F.names (cScope L_bent_c1).names)) (cTgt L_bent_c1) v_pairx [none, o_pairx, some v_word] = pure [none, some v_pairx, some v_word] := by kernel_rfl
theorem L_bent_c1_elt (d : Nat) (v_word : V) (v_pairx : V) : ev (cf05 d) (cElt L_bent_c1) (relab L_bent_F.names (cScope L_bent_c1).names) [none, some v_pairx, some v_word] = (pure v_pairx : M V) := by rw [ev_K]; kernel_rfl
theorem L_bent_c1_tst (d : Nat) (v_word : V) (v_pairx : V) : tests (cf05 d) (cIfs L_bent_c1) (relab L_bent_F.names (cScope L_bent_c1).names) [none, some v_pairx, some v_word] = (item v_pairx (V.int 0) >>= fun t232 => (cmp .NotEq t232 v_word >>= fun t233 => (truth t233 >>= fun b234 => (pure b234 : M Bool)))) := by rw [show cIfs L_bent_c1 = [ePart L_bent_c1 3] from by kernel_rfl, tests_K]; kernel_rfl
theorem L_bent_c1_ok : compOk (cScope L_bent_c1).kind (cScope L_bent_c1).names = true := by kernel_rfl
noncomputable def L_bent_c2 : Expr := (ePart (sVal (nthS (sBody (nthS L_bent_F.body 1)) 4)) 1)
theorem L_bent_c2_in (v_value_here : V) (v_path : V) (v_labels_here : V) (v_word : V) (v_rest : V) (v_fields : V) : innerLoc L_bent_F.names [some v_value_here, some v_path, some v_labels_here, some v_word, some v_rest, some v_fields, none, none, none, none, none, none, none, none, none] (cScope L_bent_c2).names = pure [none, none, some v_fields] := by kernel_rfl
theorem L_bent_c2_bind (v_fields : V) (o_labelx : Option V) (v_labelx : V) : bindTo (stLocL (relab L_bent_F.names (cScope L_bent_c2).names)) (cTgt L_bent_c2) v_labelx [none, o_labelx, some v_fields] = pure [none, some v_labelx, some v_fields] := by kernel_rfl
theorem L_bent_c2_elt (d : Nat) (v_fields : V) (v_labelx : V) : ev (cf05 d) (cElt L_bent_c2) (relab L_bent_F.names (cScope L_bent_c2).names) [none, some v_labelx, some v_fields] = (item v_fields v_labelx >>= fun t238 => (pure (V.tup [v_labelx, t238]) : M V)) := by rw [ev_K]; kernel_rfl
theorem L_bent_c2_tst (d : Nat) (loc : Loc) : tests (cf05 d) (cIfs L_bent_c2) (relab L_bent_F.names (cScope L_bent_c2).names) loc = (pure true : M Bool) := by kernel_rfl
theorem L_bent_c2_ok : compOk (cScope L_bent_c2).kind (cScope L_bent_c2).names = true := by kernel_rfl
noncomputable def L_bent_t3 (d : Nat) (v_value_here : V) (v_path : V) (v_labels_here : V) (v_word : V) (v_rest : V) : M V := (bDict v_rest >>= fun t237 => (bList t237 >>= fun t240 => (bSorted t240 >>= fun t241 => (srcV t241 >>= fun s242 => (compAll (cf05 d) (cElt L_bent_c2) (cTgt L_bent_c2) (cIfs L_bent_c2) (cScope L_bent_c2) s242 L_bent_F.names [some v_value_here, some v_path, some v_labels_here, some v_word, some v_rest, some t237, none, none, none, none, none, none, none, none, none] >>= fun t239 => (bTuple t239 >>= fun t243 => (pure t243 : M V)))))))
noncomputable def L_bent_c3 : Expr := (sVal (nthS (sBody (nthS L_bent_F.body 1)) 1))
theorem L_bent_c3_in (v_value_here : V) (v_path : V) (v_labels_here : V) (v_word : V) : innerLoc L_bent_F.names [some v_value_here, some v_path, some v_labels_here, some v_word, none, none, none, none, none, none, none, none, none, none, none] (cScope L_bent_c3).names = pure [none, none, some v_word] := by kernel_rfl
theorem L_bent_c3_bind (v_word : V) (o_pairx : Option V) (v_pairx : V) : bindTo (stLocL (relab L_bent_F.names (cScope L_bent_c3).names)) (cTgt L_bent_c3) v_pairx [none, o_pairx, some v_word] = pure [none, some v_pairx, some v_word] := by kernel_rfl
theorem L_bent_c3_elt (d : Nat) (v_word : V) (v_pairx : V) : ev (cf05 d) (cElt L_bent_c3) (relab L_bent_F.names (cScope L_bent_c3).names) [none, some v_pairx, some v_word] = (pure v_pairx : M V) := by rw [ev_K]; kernel_rfl
theorem L_bent_c3_tst (d : Nat) (v_word : V) (v_pairx : V) : tests (cf05 d) (cIfs L_bent_c3) (relab L_bent_F.names (cScope L_bent_c3).names) [none, some v_pairx, some v_word] = (item v_pairx (V.int 0) >>= fun t257 => (cmp .NotEq t257 v_word >>= fun t258 => (truth t258 >>= fun b259 => (pure b259 : M Bool)))) := by rw [show cIfs L_bent_c3 = [ePart L_bent_c3 3] from by kernel_rfl, tests_K]; kernel_rfl
theorem L_bent_c3_ok : compOk (cScope L_bent_c3).kind (cScope L_bent_c3).names = true := by kernel_rfl
noncomputable def L_bent_c4 : Expr := (ePart (sVal (nthS (sBody (nthS L_bent_F.body 1)) 4)) 1)
theorem L_bent_c4_in (v_value_here : V) (v_path : V) (v_labels_here : V) (v_word : V) (v_rest : V) (v_fields : V) : innerLoc L_bent_F.names [some v_value_here, some v_path, some v_labels_here, some v_word, some v_rest, some v_fields, none, none, none, none, none, none, none, none, none] (cScope L_bent_c4).names = pure [none, none, some v_fields] := by kernel_rfl
theorem L_bent_c4_bind (v_fields : V) (o_labelx : Option V) (v_labelx : V) : bindTo (stLocL (relab L_bent_F.names (cScope L_bent_c4).names)) (cTgt L_bent_c4) v_labelx [none, o_labelx, some v_fields] = pure [none, some v_labelx, some v_fields] := by kernel_rfl
theorem L_bent_c4_elt (d : Nat) (v_fields : V) (v_labelx : V) : ev (cf05 d) (cElt L_bent_c4) (relab L_bent_F.names (cScope L_bent_c4).names) [none, some v_labelx, some v_fields] = (item v_fields v_labelx >>= fun t263 => (pure (V.tup [v_labelx, t263]) : M V)) := by rw [ev_K]; kernel_rfl
theorem L_bent_c4_tst (d : Nat) (loc : Loc) : tests (cf05 d) (cIfs L_bent_c4) (relab L_bent_F.names (cScope L_bent_c4).names) loc = (pure true : M Bool) := by kernel_rfl
theorem L_bent_c4_ok : compOk (cScope L_bent_c4).kind (cScope L_bent_c4).names = true := by kernel_rfl
noncomputable def L_bent_t4 (d : Nat) (v_value_here : V) (v_path : V) (v_labels_here : V) (v_word : V) (v_rest : V) : M V := (bDict v_rest >>= fun t262 => (bList t262 >>= fun t265 => (bSorted t265 >>= fun t266 => (srcV t266 >>= fun s267 => (compAll (cf05 d) (cElt L_bent_c4) (cTgt L_bent_c4) (cIfs L_bent_c4) (cScope L_bent_c4) s267 L_bent_F.names [some v_value_here, some v_path, some v_labels_here, some v_word, some v_rest, some t262, none, none, none, none, none, none, none, none, none] >>= fun t264 => (bTuple t264 >>= fun t268 => (pure t268 : M V)))))))
noncomputable def L_bent_t1 (d : Nat) (v_value_here : V) (v_path : V) (v_labels_here : V) : M V := (cmp .Eq v_value_here (V.tup []) >>= fun t222 => (truth t222 >>= fun b223 => (cond b223 (newO (.list [(V.str (Str.ofString "zzzzzzzz")), (V.str (Str.ofString "a"))]) >>= fun t252 => (binop .Add v_labels_here t252 >>= fun t253 => (binop .FloorDiv v_path (V.int 5) >>= fun t254 => (binop .Mod t254 (V.int 6) >>= fun t255 => (item t253 t255 >>= fun t256 => (srcV v_value_here >>= fun s261 => (compAll (cf05 d) (cElt L_bent_c3) (cTgt L_bent_c3) (cIfs L_bent_c3) (cScope L_bent_c3) s261 L_bent_F.names [some v_value_here, some v_path, some v_labels_here, some t256, none, none, none, none, none, none, none, none, none, none, none] >>= fun t260 => (bLen t260 >>= fun t269 => (bLen v_value_here >>= fun t270 => (cmp .Eq t269 t270 >>= fun t271 => (truth t271 >>= fun b272 => (if b272 = true then (binop .FloorDiv v_path (V.int 30) >>= fun t273 => (binop .Mod t273 (V.int 3) >>= fun t274 => (newO (.list [(V.tup [t256, t274])]) >>= fun t275 => (binop .Add t260 t275 >>= fun t276 => (L_bent_t4 d v_value_here v_path v_labels_here t256 t276))))) else (L_bent_t4 d v_value_here v_path v_labels_here t256 t260))))))))))))) (binop .Mod v_path (V.int 5) >>= fun t224 => (cmp .Eq t224 (V.int 1) >>= fun t225 => (truth t225 >>= fun b226 => (cond b226 (newO (.list [(V.str (Str.ofString "zzzzzzzz")), (V.str (Str.ofString "a"))]) >>= fun t227 => (binop .Add v_labels_here t227 >>= fun t228 => (binop .FloorDiv v_path (V.int 5) >>= fun t229 => (binop .Mod t229 (V.int 6) >>= fun t230 => (item t228 t230 >>= fun t231 => (srcV v_value_here >>= fun s236 => (compAll (cf05 d) (cElt L_bent_c1) (cTgt L_bent_c1) (cIfs L_bent_c1) (cScope L_bent_c1) s236 L_bent_F.names [some v_value_here, some v_path, some v_labels_here, some t231, none, none, none, none, none, none, none, none, none, none, none] >>= fun t235 => (bLen t235 >>= fun t244 => (bLen v_value_here >>= fun t245 => (cmp .Eq t244 t245 >>= fun t246 => (truth t246 >>= fun b247 => (if b247 = true then (binop .FloorDiv v_path (V.int 30) >>= fun t248 => (binop .Mod t248 (V.int 3) >>= fun t249 => (newO (.list [(V.tup [t231, t249])]) >>= fun t250 => (binop .Add t235 t250 >>= fun t251 => (L_bent_t3 d v_value_here v_path v_labels_here t231 t251))))) else (L_bent_t3 d v_value_here v_path v_labels_here t231 t235))))))))))))) (L_bent_t2 d v_value_here v_path v_labels_here none none none))))))))
theorem L_bent_sh (d : Nat) (v_value_here : V) (v_path : V) (v_labels_here : V) : cl05 (d + 1) "_law_bent" [v_value_here, v_path, v_labels_here] = (isKd Kd.tuple v_value_here >>= fun t277 => (truth t277 >>= fun b278 => (cond (!b278) (item v_labels_here (V.int 0) >>= fun t287 => (newO (.list [(V.int 3), (V.tup []), (V.tup [(V.tup [(V.str (Str.ofString "zzzzzzzz")), (V.int 5)])]), (V.tup [(V.tup [t287, (V.int 0)])]), (V.int (-7))]) >>= fun t288 => (binop .FloorDiv v_path (V.int 5) >>= fun t289 => (binop .Mod t289 (V.int 5) >>= fun t290 => (item t288 t290 >>= fun t291 => (pure t291 : M V)))))) (binop .Mod v_path (V.int 5) >>= fun t279 => (cmp .Eq t279 (V.int 0) >>= fun t280 => (truth t280 >>= fun b281 => (cond b281 (item v_labels_here (V.int 0) >>= fun t282 => (newO (.list [(V.int 3), (V.tup []), (V.tup [(V.tup [(V.str (Str.ofString "zzzzzzzz")), (V.int 5)])]), (V.tup [(V.tup [t282, (V.int 0)])]), (V.int (-7))]) >>= fun t283 => (binop .FloorDiv v_path (V.int 5) >>= fun t284 => (binop .Mod t284 (V.int 5) >>= fun t285 => (item t283 t285 >>= fun t286 => (pure t286 : M V)))))) (L_bent_t1 d v_value_here v_path v_labels_here)))))))) := by
  rw [cl05_succ L_bent_K, callFn_K]; kernel_rfl

noncomputable def L_due_F : Fn := (fnsT tab05 "_law_due").getD ⟨[], [], []⟩
theorem L_due_K : fnsT tab05 "_law_due" = some L_due_F := by kernel_rfl
noncomputable def L_due_l1 : Stmt := (nthS L_due_F.body 4)
theorem L_due_l1_step (d : Nat) (v_labelx : V) (v_innerx : V) (v_value_here : V) (v_kind_here : V) (v_fields : V) (o_inner : Option V) (o_label : Option V) : (bindTo (stLoc L_due_F.names) (sTgt L_due_l1) (.tup [v_labelx, v_innerx]) [some v_value_here, some v_kind_here, some v_fields, o_label, o_inner, none, none, none, none, none] >>= exs (cf05 d) (sBody L_due_l1) L_due_F.names) = (cmp .NotIn v_labelx v_fields >>= fun t293 => (truth t293 >>= fun b294 => (cond b294 (pure (Fl.ret (V.bool false), [some v_value_here, some v_kind_here, some v_fields, some v_labelx, some v_innerx, none, none, none, none, none]) : M (Fl × Loc)) (item v_fields v_labelx >>= fun t295 => (cl05 d "_law_due" [t295, v_innerx] >>= fun t296 => (truth t296 >>= fun b297 => (cond (!b297) (pure (Fl.ret (V.bool false), [some v_value_here, some v_kind_here, some v_fields, some v_labelx, some v_innerx, none, none, none, none, none]) : M (Fl × Loc)) (pure (Fl.next, [some v_value_here, some v_kind_here, some v_fields, some v_labelx, some v_innerx, none, none, none, none, none]) : M (Fl × Loc))))))))) := by
  refine Eq.trans (show _ = exs (cf05 d) (sBody L_due_l1) L_due_F.names [some v_value_here, some v_kind_here, some v_fields, some v_labelx, some v_innerx, none, none, none, none, none] from by kernel_rfl) ?_
  rw [exs_K]; kernel_rfl
noncomputable def L_due_a1 (d : Nat) (loc : Loc) : M V := exsK (cf05 d) (List.drop 5 L_due_F.body) L_due_F.names loc retK
theorem L_due_a1_eq (d : Nat) (v_value_here : V) (v_kind_here : V) (v_fields : V) (o_inner : Option V) (o_label : Option V) : L_due_a1 d [some v_value_here, some v_kind_here, some v_fields, o_label, o_inner, none, none, none, none, none] = (item v_kind_here (V.int 2) >>= fun t298 => (cmp .IsNot t298 V.none >>= fun t299 => (truth t299 >>= fun b300 => cond b300 (pure t299 : M V) (bLen v_value_here >>= fun t301 => (item v_kind_here (V.int 1) >>= fun t302 => (bLen t302 >>= fun t303 => (cmp .Eq t301 t303 >>= fun t304 => (pure t304 : M V)))))))) := by kernel_rfl
noncomputable def L_due_t3 (d : Nat) (v_value_here : V) (v_kind_here : V) : M V := (bDict v_value_here >>= fun t292 => (item v_kind_here (V.int 1) >>= fun t305 => (srcV t305 >>= fun s306 => (forAll (cf05 d) (sTgt L_due_l1) (sBody L_due_l1) s306 L_due_F.names [some v_value_here, some v_kind_here, some t292, none, none, none, none, none, none, none] >>= flK retK (L_due_a1 d)))))
noncomputable def L_due_t2 (d : Nat) (v_value_here : V) (v_kind_here : V) : M V := (isKd Kd.tuple v_value_here >>= fun t307 => (truth t307 >>= fun b308 => (if (!b308) = true then (pure (V.bool false) : M V) else (L_due_t3 d v_value_here v_kind_here))))
noncomputable def L_due_t1 (d : Nat) (v_value_here : V) (v_kind_here : V) : M V := (item v_kind_here (V.int 0) >>= fun t309 => (cmp .Eq t309 (V.str (Str.ofString "number")) >>= fun t310 => (truth t310 >>= fun b311 => (if b311 = true then (isKd Kd.tuple v_value_here >>= fun t312 => (truth t312 >>= fun b313 => (pure (V.bool (!b313)) : M V))) else (L_due_t2 d v_value_here v_kind_here)))))
theorem L_due_sh (d : Nat) (v_value_here : V) (v_kind_here : V) : cl05 (d + 1) "_law_due" [v_value_here, v_kind_here] = (item v_kind_here (V.int 0) >>= fun t314 => (cmp .Eq t314 (V.str (Str.ofString "blank")) >>= fun t315 => (truth t315 >>= fun b316 => (if b316 = true then (pure (V.bool true) : M V) else (L_due_t1 d v_value_here v_kind_here))))) := by
  rw [cl05_succ L_due_K, callFn_K]; kernel_rfl

noncomputable def L_law_F : Fn := (fnsT tab05 "law").getD ⟨[], [], []⟩
theorem L_law_K : fnsT tab05 "law" = some L_law_F := by kernel_rfl
noncomputable def L_law_l1 : Stmt := (nthS L_law_F.body 8)
theorem L_law_l1_step (d : Nat) (v_otherx : V) (v_script : V) (v_labels_here : V) (v_state : V) (v_met : V) (v_kind_here : V) (v_value_here : V) (v_way : V) (o_other : Option V) (o_found : Option V) : (bindTo (stLoc L_law_F.names) (sTgt L_law_l1) v_otherx [some v_script, some v_labels_here, some v_state, some v_met, some v_kind_here, some v_value_here, some v_way, o_other, o_found, none, none, none, none, none, none, none, none, none, none] >>= exs (cf05 d) (sBody L_law_l1) L_law_F.names) = (cl05 d "is_of" [v_value_here, v_otherx] >>= fun t339 => (isKd Kd.bool t339 >>= fun t340 => (truth t340 >>= fun b341 => (cond (!b341) (pure (Fl.ret (V.bool false), [some v_script, some v_labels_here, some v_state, some v_met, some v_kind_here, some v_value_here, some v_way, some v_otherx, some t339, none, none, none, none, none, none, none, none, none, none]) : M (Fl × Loc)) (cl05 d "_law_due" [v_value_here, v_otherx] >>= fun t342 => (cmp .NotEq t339 t342 >>= fun t343 => (truth t343 >>= fun b344 => (cond b344 (pure (Fl.ret (V.bool false), [some v_script, some v_labels_here, some v_state, some v_met, some v_kind_here, some v_value_here, some v_way, some v_otherx, some t339, none, none, none, none, none, none, none, none, none, none]) : M (Fl × Loc)) (pure (Fl.next, [some v_script, some v_labels_here, some v_state, some v_met, some v_kind_here, some v_value_here, some v_way, some v_otherx, some t339, none, none, none, none, none, none, none, none, none, none]) : M (Fl × Loc)))))))))) := by
  refine Eq.trans (show _ = exs (cf05 d) (sBody L_law_l1) L_law_F.names [some v_script, some v_labels_here, some v_state, some v_met, some v_kind_here, some v_value_here, some v_way, some v_otherx, o_found, none, none, none, none, none, none, none, none, none, none] from by kernel_rfl) ?_
  rw [exs_K]; kernel_rfl
noncomputable def L_law_a1 (d : Nat) (loc : Loc) : M V := exsK (cf05 d) (List.drop 9 L_law_F.body) L_law_F.names loc retK
theorem L_law_a1_eq (d : Nat) (v_script : V) (v_labels_here : V) (v_state : V) (v_met : V) (v_kind_here : V) (v_value_here : V) (v_way : V) (o_other : Option V) (o_found : Option V) : L_law_a1 d [some v_script, some v_labels_here, some v_state, some v_met, some v_kind_here, some v_value_here, some v_way, o_other, o_found, none, none, none, none, none, none, none, none, none, none] = (cl05 d "is_of" [v_value_here, (V.tup [(V.str (Str.ofString "blank")), (V.int 3)])] >>= fun t345 => (cmp .Is t345 (V.bool true) >>= fun t346 => (truth t346 >>= fun b347 => cond b347 (cl05 d "is_of" [v_value_here, (V.tup [(V.str (Str.ofString "record")), (V.tup []), (V.int 0)])] >>= fun t348 => (isKd Kd.tuple v_value_here >>= fun t349 => (cmp .Eq t348 t349 >>= fun t350 => (pure t350 : M V)))) (pure t346 : M V)))) := by kernel_rfl
noncomputable def L_law_t2 (d : Nat) (v_script : V) (v_labels_here : V) (v_state : V) (v_met : V) (v_kind_here : V) (v_value_here : V) (v_way : V) : M V := (newO (.list [v_kind_here, (V.tup [(V.str (Str.ofString "number"))]), v_kind_here]) >>= fun t351 => (srcV t351 >>= fun s352 => (forAll (cf05 d) (sTgt L_law_l1) (sBody L_law_l1) s352 L_law_F.names [some v_script, some v_labels_here, some v_state, some v_met, some v_kind_here, some v_value_here, some v_way, none, none, none, none, none, none, none, none, none, none, none, none] >>= flK retK (L_law_a1 d))))
noncomputable def L_law_t1 (d : Nat) (v_script : V) (v_labels_here : V) (v_state : V) (v_met : V) (v_kind_here : V) (v_value_here : V) : M V := (cl05 d "_law_cell" [v_script, (V.int 4)] >>= fun t338 => (binop .Mod t338 (V.int 3) >>= fun t353 => (cmp .Gt t353 (V.int 0) >>= fun t354 => (truth t354 >>= fun b355 => (if b355 = true then (binop .FloorDiv t338 (V.int 3) >>= fun t356 => (cl05 d "_law_bent" [v_value_here, t356, v_labels_here] >>= fun t357 => (L_law_t2 d v_script v_labels_here v_state v_met v_kind_here t357 t338))) else (L_law_t2 d v_script v_labels_here v_state v_met v_kind_here v_value_here t338))))))
theorem L_law_sh (d : Nat) (v_script : V) : cl05 (d + 1) "law" [v_script] = (cl05 d "_law_cell" [v_script, (V.int 2)] >>= fun t317 => (cl05 d "_law_labels" [t317, (V.int 4)] >>= fun t318 => (cl05 d "_law_cell" [v_script, (V.int 0)] >>= fun t319 => (binop .Mod t319 (V.int 2147483645) >>= fun t320 => (binop .Add (V.int 1) t320 >>= fun t321 => (cl05 d "_law_cell" [v_script, (V.int 1)] >>= fun t322 => (binop .Mod t322 (V.int 20) >>= fun t323 => (binop .Add (V.int 1) t323 >>= fun t324 => (newO (.list [t321, t324]) >>= fun t325 => (cl05 d "_law_cell" [v_script, (V.int 3)] >>= fun t326 => (binop .Pow (V.int 10) (V.int 6) >>= fun t327 => (binop .Mod t326 t327 >>= fun t328 => (binop .Add (V.int 1) t328 >>= fun t329 => (newO (.list []) >>= fun t330 => (newO (.list [t329, t330]) >>= fun t331 => (cl05 d "_law_cell" [v_script, (V.int 1)] >>= fun t332 => (binop .FloorDiv t332 (V.int 20) >>= fun t333 => (binop .Mod t333 (V.int 5) >>= fun t334 => (binop .Add (V.int 1) t334 >>= fun t335 => (cl05 d "_law_kind" [t325, t318, t331, t335] >>= fun t336 => (cl05 d "_law_value" [t325, t336, t318] >>= fun t337 => (cl05 d "is_of" [t337, t336] >>= fun t358 => (cmp .IsNot t358 (V.bool true) >>= fun t359 => (truth t359 >>= fun b360 => (if b360 = true then (pure (V.bool false) : M V) else (L_law_t1 d v_script t318 t325 t331 t336 t337)))))))))))))))))))))))))) := by
  rw [cl05_succ L_law_K, callFn_K]; kernel_rfl

end Mine

namespace Mine
open PySem PyProof.Rows

/-! ## what every law draws -/
theorem cell_ok {d : Nat} {zs : List Int} {σ : Store} {k : Int} (h : σ[0]? = some (.list (zs.map .int))) (hk : 0 ≤ k) : Wp (cl05 (d + 1) "_law_cell" [.ref 0, .int k]) σ (fun r σ' => σ' = σ ∧ ∃ c, r = .int c ∧ 0 ≤ c ∧ c < 2147483647) := by
  rw [L_cell_sh]
  simp only [Wp_bind, Wp_lenRef h, Wp_lt, Wp_truthB]
  by_cases hl : k < ((zs.map V.int).length : Nat)
  · rw [if_pos (decide_eq_true hl)]
    have hx : (zs.map V.int)[k.toNat]? = some (.int (zs[k.toNat]'(by simp at hl; omega))) := by
      rw [List.getElem?_map, List.getElem?_eq_getElem (by simp at hl; omega)]; rfl
    simp only [Wp_bind, Wp_itemRef h hk hx, Wp_mul (Or.inr (show Small 48271 by decide)), Wp_mod (show (0 : Int) < 2147483647 by decide) (show (2147483647 : Int) < 18446744073709551616 by decide), Wp_pure]
    exact ⟨trivial, _, rfl, by omega, by omega⟩
  · rw [if_neg (by simpa using hl)]
    exact Wp_pure.mpr ⟨rfl, 0, rfl, by decide, by decide⟩

theorem next_ok {d : Nat} {σ : Store} {n : Nat} {s c : Int} (h : σ[n]? = some (.list [.int s, .int c])) (hn : 0 < n) : Wp (cl05 (d + 1) "_law_next" [.ref n]) σ (fun r σ' => ∃ z s', r = .int z ∧ 0 ≤ z ∧ z < 2147483647 ∧ σ' = σ.set n (.list [.int s', .int (c - 1)])) := by
  rw [L_next_sh]
  simp only [Wp_bind, Wp_itemRef h (show (0 : Int) ≤ 0 by decide) (show ([V.int s, V.int c])[(0 : Int).toNat]? = some (.int s) from rfl), Wp_mul (Or.inr (show Small 48271 by decide)), Wp_add,
    Wp_mod (show (0 : Int) < 2147483647 by decide) (show (2147483647 : Int) < 18446744073709551616 by decide), Wp_setItem h hn (show (0 : Int) ≤ 0 by decide) (show (0 : Int) < ([V.int s, V.int c].length : Nat) from by show (0 : Int) < ((2 : Nat) : Int); decide)]
  generalize hs' : (s * 48271 + 11) % 2147483647 = s'
  have h1 : (σ.set n (.list ([V.int s, V.int c].set (0 : Int).toNat (.int s'))))[n]? = some (.list [.int s', .int c]) := set_get h
  simp only [Wp_itemRef h1 (show (0 : Int) ≤ 1 by decide) (show ([V.int s', V.int c])[(1 : Int).toNat]? = some (.int c) from rfl), Wp_sub, Wp_setItem h1 hn (show (0 : Int) ≤ 1 by decide) (show (1 : Int) < ([V.int s', V.int c].length : Nat) from by show (1 : Int) < ((2 : Nat) : Int); decide)]
  have h2 : ((σ.set n (.list ([V.int s, V.int c].set (0 : Int).toNat (.int s')))).set n (.list ([V.int s', V.int c].set (1 : Int).toNat (.int (c - 1)))))[n]? = some (.list [.int s', .int (c - 1)]) := set_get h1
  simp only [Wp_itemRef h2 (show (0 : Int) ≤ 0 by decide) (show ([V.int s', V.int (c - 1)])[(0 : Int).toNat]? = some (.int s') from rfl), Wp_div (show (0 : Int) < 7 by decide) (show (7 : Int) < 18446744073709551616 by decide), Wp_pure]
  refine ⟨s' / 7, s', rfl, by omega, by omega, ?_⟩
  rw [List.set_set]; rfl

/-- a label: a sign put into a base -/
noncomputable def lab (base : Str) (at' z : Int) (k : Nat) : Str := cutStr base none (some at') ++ chr1 (97 + ((z + 3 * (k : Int)) % 26).toNat) ++ cutStr base (some at') none
theorem sign_is {k : Int} (h0 : 0 ≤ k) (h1 : k < 26) : (Str.ofString "abcdefghijklmnopqrstuvwxyz").cps[k.toNat]? = some (97 + k.toNat) := by
  have : ∀ j : Fin 26, (Str.ofString "abcdefghijklmnopqrstuvwxyz").cps[j.val]? = some (97 + j.val) := by decide +kernel
  exact this ⟨k.toNat, by omega⟩
theorem lab_inj {base : Str} {at' z : Int} {j k : Nat} (hj : j < 4) (hk : k < 4) (h : lab base at' z j = lab base at' z k) : j = k := by
  unfold lab at h
  have h1 := congrArg (fun s : Str => s.cps.toList) h
  have e : ∀ (x y : Str) (c : Nat), (x ++ chr1 c ++ y).cps.toList = x.cps.toList ++ c :: y.cps.toList := fun x y c => by
    show ((x.cps ++ #[c]) ++ y.cps).toList = _
    simp
  rw [e, e] at h1
  have h2 := List.append_cancel_left h1
  have h3 : 97 + ((z + 3 * (j : Int)) % 26).toNat = 97 + ((z + 3 * (k : Int)) % 26).toNat := (List.cons.inj h2).1
  omega
theorem lab_nodup (base : Str) (at' z : Int) : ((List.range (4 : Int).toNat).map (lab base at' z)).Nodup := by
  have h : ∀ i j : Nat, i < 4 → j < 4 → i ≠ j → lab base at' z i ≠ lab base at' z j := fun i j hi hj hne e => hne (lab_inj hi hj e)
  show [lab base at' z 0, lab base at' z 1, lab base at' z 2, lab base at' z 3].Nodup
  have := h 0 1 (by decide) (by decide) (by decide)
  have := h 0 2 (by decide) (by decide) (by decide)
  have := h 0 3 (by decide) (by decide) (by decide)
  have := h 1 2 (by decide) (by decide) (by decide)
  have := h 1 3 (by decide) (by decide) (by decide)
  have := h 2 3 (by decide) (by decide) (by decide)
  simp only [List.nodup_cons, List.mem_cons, List.not_mem_nil, not_or, or_false]
  simp_all
theorem labels_ok {d : Nat} {σ : Store} {c : Int} : Wp (cl05 (d + 1) "_law_labels" [.int c, .int 4]) σ (fun r σ' => Le σ σ' ∧ ∃ (n : Nat) (ls : List Str), r = .ref n ∧ σ.length ≤ n ∧ σ'[n]? = some (.list (ls.map V.str)) ∧ ls.length = 4 ∧ ls.Nodup) := by
  rw [L_labels_sh]
  have hsz : 0 ≤ c % 7 ∧ c % 7 < 7 := by omega
  generalize hsize : c % 7 = size at hsz
  simp only [Wp_bind, Wp_mod (b := 7) (by decide) (by decide), hsize, Wp_div (b := 7) (by decide) (by decide), Wp_add, Wp_mod (b := size + 1) (by omega) (by omega), Wp_div (b := 49) (by decide) (by decide), Wp_mod (b := 26) (by decide) (by decide), Wp_mtagJoin, Wp_range (n := size) (by omega) (by omega)]
  generalize c / 7 % (size + 1) = at'
  generalize hst : c / 49 % 26 = stp
  refine Wp_compAll (J := fun τ => True) walks_vals tgtOk_vals L_labels_c1_ok (L_labels_c1_in ..) (fun i acc loc τ => τ = σ ∧ (∃ o, loc = [none, o, some (.int c), some (.str (Str.ofString "abcdefghijklmnopqrstuvwxyz")), some (.int stp)]) ∧ acc.length = i ∧ ∀ x ∈ acc, ∃ c, x = .str (chr1 c)) (fun _ _ _ _ _ => trivial) ⟨rfl, ⟨_, rfl⟩, rfl, by simp⟩ (fun i v acc loc τ hv hp => ?_) fun out loc τ hp => ?_
  · obtain ⟨rfl, ⟨o, rfl⟩, hlen, hall⟩ := hp
    obtain ⟨rfl, hi⟩ := range_val hv
    rw [L_labels_c1_bind, Wp_pure, L_labels_c1_tst, Wp_pure, if_pos rfl, L_labels_c1_elt]
    simp only [Wp_bind, Wp_div (b := 1274) (by decide) (by decide), Wp_mul (b := (i : Int)) (.inr (by unfold Small; omega)), Wp_add, Wp_mod (b := 26) (by decide) (by decide)]
    have hm : 0 ≤ (stp + c / 1274 * (i : Int)) % 26 ∧ (stp + c / 1274 * (i : Int)) % 26 < 26 := by omega
    generalize (stp + c / 1274 * (i : Int)) % 26 = m at hm
    obtain ⟨ch, hch⟩ := signs_at hm.1 hm.2
    rw [Wp_itemStr hm.1 (by rw [signs_len]; exact hm.2) hch, Wp_pure]
    refine ⟨rfl, ⟨_, rfl⟩, by simp [hlen], fun x hx => ?_⟩
    rcases List.mem_append.mp hx with hx | hx
    · exact hall x hx
    · rw [List.mem_singleton.mp hx]; exact ⟨ch, rfl⟩
  · obtain ⟨rfl, _, hlen, hall⟩ := hp
    rw [range_len] at hlen
    refine ⟨by rw [hlen]; have : (16777216 : Nat) = sizeLine := rfl; omega, ?_⟩
    refine Wp_joinChars get_new hall (by omega) fun base hbase => ?_
    simp only [Wp_newO, Wp_range (n := 4) (by decide) (by decide)]
    have hk1 : (τ ++ [O.list out] ++ [O.list []])[(τ ++ [O.list out]).length]? = some (.list []) := get_new
    generalize hf : (τ ++ [O.list out]).length = f at hk1 ⊢
    have hfl : τ.length < f := by rw [← hf]; simp
    have hLe : Le τ (τ ++ [O.list out] ++ [O.list []]) := Le.append.trans Le.append
    generalize τ ++ [O.list out] ++ [O.list []] = τ' at hk1 hLe ⊢
    refine Wp_forAll (J := fun τ => True) walks_vals tgtOk_vals (fun i loc τ₁ => Le τ τ₁ ∧ (∃ o1 o2, loc = [some (.int c), some (.int 4), some (.str (Str.ofString "abcdefghijklmnopqrstuvwxyz")), some (.int size), some (.int at'), some (.int stp), o1, some (.str base), some (.ref f), o2, none]) ∧
      τ₁[f]? = some (.list (((List.range i).map (lab base at' (c / 49))).map V.str))) (fun _ _ _ _ => trivial) ⟨hLe, ⟨_, _, rfl⟩, hk1⟩ (fun i v loc τ₁ hv hp => ?_) fun loc τ₁ hp => ?_
    · obtain ⟨hle, ⟨o1, o2, rfl⟩, hl⟩ := hp
      obtain ⟨rfl, hi⟩ := range_val hv
      rw [L_labels_l1_step]
      have hm : 0 ≤ (c / 49 + 3 * (i : Int)) % 26 ∧ (c / 49 + 3 * (i : Int)) % 26 < 26 := by omega
      simp only [Wp_bind, Wp_div (b := 49) (by decide) (by decide), Wp_mul (a := 3) (.inl (by decide)), Wp_add, Wp_mod (b := 26) (by decide) (by decide)]
      have hlab : lab base at' (c / 49) i = cutStr base none (some at') ++ chr1 (97 + ((c / 49 + 3 * (i : Int)) % 26).toNat) ++ cutStr base (some at') none := rfl
      generalize (c / 49 + 3 * (i : Int)) % 26 = m at hm hlab
      have hch := sign_is hm.1 hm.2
      generalize 97 + m.toNat = ch at hch hlab
      have hs1 : (cutStr base none (some at')).length ≤ base.length := cutStr_le _ _ _
      have hs2 : (cutStr base (some at') none).length ≤ base.length := cutStr_le _ _ _
      have hsl : (16777216 : Nat) = sizeLine := rfl
      have hc1 : (chr1 ch).length = 1 := rfl
      simp only [Wp_itemStr hm.1 (by rw [signs_len]; exact hm.2) hch, Wp_mtag hl]
      refine (Wp_ok (a := none) (σ' := τ₁) rfl).mpr ((Wp_ok (a := some at') (σ' := τ₁) rfl).mpr ((Wp_ok (a := V.str (cutStr base none (some at'))) (σ' := τ₁) rfl).mpr ?_))
      rw [Wp_addStr (by omega)]
      refine (Wp_ok (a := some at') (σ' := τ₁) rfl).mpr ((Wp_ok (a := none) (σ' := τ₁) rfl).mpr ((Wp_ok (a := V.str (cutStr base (some at') none)) (σ' := τ₁) rfl).mpr ?_))
      rw [Wp_addStr (by rw [length_append]; omega), Wp_append hl (by omega) (by simp; omega), Wp_pure]
      refine .inl ⟨rfl, hle.setNew (Nat.le_of_lt hfl), ⟨_, _, rfl⟩, ?_⟩
      rw [List.range_succ, List.map_append, List.map_append, List.map_singleton, List.map_singleton, hlab]
      exact set_get hl
    · obtain ⟨hle, ⟨o1, o2, rfl⟩, hl⟩ := hp
      show Wp (L_labels_a1 d _) _ _
      rw [L_labels_a1_eq, Wp_pure]
      rw [range_len] at hl
      exact ⟨hle, f, _, rfl, Nat.le_of_lt hfl, hl, rfl, lab_nodup _ _ _⟩
end Mine

namespace Mine
open PySem PyProof.Rows

/-! ## dicts by texts, in plain Lean -/
noncomputable def tb (ps : List (Str × V)) : Tab := ps.map fun p => (.inr p.1, p.2)
noncomputable def sput (ps : List (Str × V)) (l : Str) (x : V) : List (Str × V) := if l ∈ ps.map (·.1) then ps.map (fun p => if p.1 = l then (p.1, x) else p) else ps ++ [(l, x)]

theorem tb_get (ps : List (Str × V)) (l : Str) : dGet (tb ps) (.inr l) = ps.lookup l := by
  induction ps with
  | nil => rfl
  | cons p ps ih =>
    obtain ⟨q, x⟩ := p
    unfold dGet tb at *
    rw [List.map_cons, List.find?_cons, List.lookup_cons]
    by_cases h : q = l
    · subst h; simp
    · have h1 : (Sum.inr q : Key) ≠ .inr l := fun e => h (Sum.inr.inj e)
      have h2 : (l == q) = false := beq_false_of_ne (fun e => h e.symm)
      simp only [h1, decide_false, h2]
      exact ih
theorem tb_any (ps : List (Str × V)) (l : Str) : ((tb ps).any fun p => decide (p.1 = .inr l)) = decide (l ∈ ps.map (·.1)) := by
  induction ps with
  | nil => rfl
  | cons p ps ih =>
    unfold tb at *
    rw [List.map_cons, List.any_cons, ih]
    by_cases h : p.1 = l
    · subst h; simp
    · have h1 : (Sum.inr p.1 : Key) ≠ .inr l := fun e => h (Sum.inr.inj e)
      have h2 : ¬ l = p.1 := fun e => h e.symm
      simp [h1, h2]
theorem tb_set (ps : List (Str × V)) (l : Str) (x : V) : dSet (tb ps) (.inr l) x = tb (sput ps l x) := by
  unfold dSet sput
  rw [tb_any]
  by_cases h : l ∈ ps.map (·.1)
  · rw [if_pos (decide_eq_true h), if_pos h]
    unfold tb
    rw [List.map_map, List.map_map]
    refine List.map_congr_left fun p _ => ?_
    show (if (Sum.inr p.1 : Key) = .inr l then _ else _) = _
    by_cases hp : p.1 = l
    · simp [hp]
    · have h1 : (Sum.inr p.1 : Key) ≠ .inr l := fun e => hp (Sum.inr.inj e)
      simp [hp]
  · rw [if_neg (by simpa using h), if_neg h]
    unfold tb
    rw [List.map_append]; rfl
theorem sput_keys (ps : List (Str × V)) (l : Str) (x : V) : (sput ps l x).map (·.1) = if l ∈ ps.map (·.1) then ps.map (·.1) else ps.map (·.1) ++ [l] := by
  unfold sput
  by_cases h : l ∈ ps.map (·.1)
  · rw [if_pos h, if_pos h, List.map_map]
    refine List.map_congr_left fun p _ => ?_
    show (if p.1 = l then (p.1, x) else p).1 = p.1
    split <;> rfl
  · rw [if_neg h, if_neg h, List.map_append]; rfl
theorem sput_nodup {ps : List (Str × V)} {l : Str} {x : V} (h : (ps.map (·.1)).Nodup) : ((sput ps l x).map (·.1)).Nodup := by
  rw [sput_keys]
  split
  · exact h
  · rename_i hn
    rw [List.nodup_append]
    exact ⟨h, (by simp), fun a ha b hb e => hn (by rw [List.mem_singleton.mp hb] at e; rw [← e]; exact ha)⟩
theorem sput_len (ps : List (Str × V)) (l : Str) (x : V) : (sput ps l x).length ≤ ps.length + 1 := by
  have := congrArg List.length (sput_keys ps l x)
  rw [List.length_map] at this
  rw [this]
  split
  · rw [List.length_map]; exact Nat.le_succ _
  · rw [List.length_append, List.length_map]; exact Nat.le_refl _
theorem lookup_none {ps : List (Str × V)} {l : Str} : ps.lookup l = none ↔ l ∉ ps.map (·.1) := by
  induction ps with
  | nil => simp
  | cons p ps ih =>
    obtain ⟨q, x⟩ := p
    rw [List.lookup_cons]
    by_cases h : l = q
    · subst h; simp
    · rw [beq_false_of_ne h]
      simp only [List.map_cons, List.mem_cons, not_or]
      exact ⟨fun e => ⟨h, ih.mp e⟩, fun e => ih.mpr e.2⟩
theorem lookup_some {ps : List (Str × V)} {l : Str} (h : l ∈ ps.map (·.1)) : ∃ x, ps.lookup l = some x := by
  cases e : ps.lookup l with
  | none => exact absurd h (lookup_none.mp e)
  | some x => exact ⟨x, rfl⟩
theorem lookup_mem {ps : List (Str × V)} {l : Str} {x : V} (h : ps.lookup l = some x) : (l, x) ∈ ps := mem_of_lookup h
theorem lookup_nodup {ps : List (Str × V)} {l : Str} {x : V} (hn : (ps.map (·.1)).Nodup) (h : (l, x) ∈ ps) : ps.lookup l = some x := by
  induction ps with
  | nil => cases h
  | cons p ps ih =>
    obtain ⟨q, y⟩ := p
    rw [List.map_cons, List.nodup_cons] at hn
    rw [List.lookup_cons]
    rcases List.mem_cons.mp h with e | h
    · cases e; simp
    · have : l ≠ q := fun e => hn.1 (e ▸ List.mem_map_of_mem (f := (·.1)) h)
      rw [beq_false_of_ne this]
      exact ih hn.2 h
theorem sput_same {ps : List (Str × V)} {l : Str} {x : V} : (sput ps l x).lookup l = some x := by
  unfold sput
  split
  · rename_i h
    induction ps with
    | nil => cases h
    | cons p ps ih =>
      obtain ⟨q, y⟩ := p
      rw [List.map_cons, List.lookup_cons]
      by_cases hq : q = l
      · simp [hq]
      · rw [if_neg hq]
        have : (l == q) = false := beq_false_of_ne fun e => hq e.symm
        simp only [this]
        refine ih ?_
        rcases List.mem_cons.mp h with e | h
        · exact absurd e.symm hq
        · exact h
  · rename_i h
    rw [List.lookup_append, lookup_none.mpr h]
    simp
theorem sput_other {ps : List (Str × V)} {l m : Str} {x : V} (hm : m ≠ l) : (sput ps l x).lookup m = ps.lookup m := by
  unfold sput
  split
  · rename_i h
    clear h
    induction ps with
    | nil => rfl
    | cons p ps ih =>
      obtain ⟨q, y⟩ := p
      rw [List.map_cons, List.lookup_cons]
      by_cases hq : q = l
      · rw [if_pos hq, List.lookup_cons]
        have : (m == q) = false := beq_false_of_ne fun e => hm (e.trans hq)
        simp only [this]; exact ih
      · rw [if_neg hq, List.lookup_cons]
        cases h : (m == q) with
        | true => rfl
        | false => exact ih
  · rw [List.lookup_append]
    have : List.lookup m [(l, x)] = none := by rw [List.lookup_cons, beq_false_of_ne hm]; rfl
    rw [this]; simp
theorem sput_mem {ps : List (Str × V)} {l : Str} {x : V} {p : Str × V} (h : p ∈ sput ps l x) : p ∈ ps ∨ p = (l, x) := by
  unfold sput at h
  split at h
  · obtain ⟨q, hq, e⟩ := List.mem_map.mp h
    by_cases hl : q.1 = l
    · rw [if_pos hl] at e; exact .inr (by rw [← e, hl])
    · rw [if_neg hl] at e; exact .inl (e ▸ hq)
  · rcases List.mem_append.mp h with h | h
    · exact .inl h
    · exact .inr (List.mem_singleton.mp h)
/-- a dict of pairs without a label twice is just those pairs -/
theorem merge_nodup : ∀ (ps acc : List (Str × V)), ((acc ++ ps).map (·.1)).Nodup → dMerge (tb acc) (tb ps) = tb (acc ++ ps)
  | [], acc, _ => by rw [List.append_nil]; rfl
  | p :: ps, acc, h => by
    show dMerge (dSet (tb acc) (.inr p.1) p.2) (tb ps) = _
    have hp : p.1 ∉ acc.map (·.1) := by
      rw [List.map_append, List.nodup_append] at h
      exact fun hm => h.2.2 _ hm _ (List.mem_cons_self ..) rfl
    rw [tb_set]
    have e : sput acc p.1 p.2 = acc ++ [p] := by unfold sput; rw [if_neg hp]
    rw [e, merge_nodup ps (acc ++ [p]) (by rw [List.append_assoc]; exact h), List.append_assoc]; rfl
theorem merge_tb {ps : List (Str × V)} (h : (ps.map (·.1)).Nodup) : dMerge [] (tb ps) = tb ps := merge_nodup ps [] h
theorem pairs_of : ∀ ps : List (Str × V), pairsOf (ps.map pairV) = some (tb ps)
  | [] => rfl
  | p :: ps => by
    show (match keyOf (.str p.1), pairsOf (ps.map pairV) with | some k, some t => some ((k, p.2) :: t) | _, _ => none) = _
    rw [pairs_of ps]; rfl
theorem tb_len (ps : List (Str × V)) : (tb ps).length = ps.length := List.length_map ..
theorem tb_keys (ps : List (Str × V)) : (tb ps).map (fun p => keyV p.1) = (ps.map (·.1)).map V.str := by
  unfold tb
  rw [List.map_map, List.map_map]; rfl
theorem strs_all : ∀ ss : List Str, allStrs (ss.map V.str) = some ss
  | [] => rfl
  | s :: r => by
    show (allStrs (r.map V.str)).map (s :: ·) = _
    rw [strs_all r]; rfl

/-! ## kinds and values -/
inductive IsK : Nat → V → Prop
  | num {n : Nat} : IsK (n + 1) (.tup [.str (Str.ofString "number")])
  | blank {n : Nat} (i : Int) : IsK (n + 1) (.tup [.str (Str.ofString "blank"), .int i])
  | rcd {n : Nat} (fs : List (Str × V)) (r : V) : (fs.map (·.1)).Nodup → fs.length ≤ 4 → (∀ p ∈ fs, IsK n p.2) → (r = .none ∨ ∃ i, r = .int i) → IsK (n + 1) (.tup [.str (Str.ofString "record"), .tup (fs.map pairV), r])
inductive IsW (b : Nat) : Nat → V → Prop
  | num {n : Nat} (i : Int) : IsW b n (.int i)
  | rcd {n : Nat} (fs : List (Str × V)) : (fs.map (·.1)).Nodup → fs.length ≤ b → (∀ p ∈ fs, IsW b n p.2) → IsW b (n + 1) (.tup (fs.map pairV))
theorem IsW.mono {b c n m : Nat} {v : V} (h : IsW b n v) (hm : n ≤ m) (hb : b ≤ c := by omega) : IsW c m v := by
  induction h generalizing m with
  | num i => exact .num i
  | rcd fs h1 h2 _ ih =>
    obtain ⟨k, rfl⟩ : ∃ k, m = k + 1 := ⟨m - 1, by omega⟩
    exact .rcd fs h1 (by omega) fun p hp => ih p hp (by omega)

noncomputable def isRest : V → Bool
  | .none => false
  | _ => true
/-- is a value of a kind -/
noncomputable def isOfB : Nat → V → V → Bool
  | 0, _, _ => false
  | n + 1, v, k => match k with
    | .tup [_] => (match v with | .tup _ => false | _ => true)
    | .tup [_, _] => true
    | .tup [_, .tup fs, r] => (match v with
      | .tup vs => fs.all (fun f => match f with
          | .tup [.str l, inner] => (match dGet (dMerge [] ((pairsOf vs).getD [])) (.inr l) with | some x => isOfB n x inner | none => false)
          | _ => false) && (isRest r || decide (vs.length = fs.length))
      | _ => false)
    | _ => false
/-- does a field of a kind hold of a record -/
noncomputable def fldB (n : Nat) (ps : List (Str × V)) (f : Str × V) : Bool := match ps.lookup f.1 with | some x => isOfB n x f.2 | none => false
theorem isOfB_rec {n : Nat} {ps fs : List (Str × V)} {r : V} (hn : (ps.map (·.1)).Nodup) : isOfB (n + 1) (.tup (ps.map pairV)) (.tup [.str (Str.ofString "record"), .tup (fs.map pairV), r]) =
    (fs.all (fldB n ps) && (isRest r || decide (ps.length = fs.length))) := by
  show ((fs.map pairV).all (fun f => match f with
          | .tup [.str l, inner] => (match dGet (dMerge [] ((pairsOf (ps.map pairV)).getD [])) (.inr l) with | some x => isOfB n x inner | none => false)
          | _ => false) && (isRest r || decide ((ps.map pairV).length = (fs.map pairV).length))) = _
  rw [pairs_of, Option.getD_some, merge_tb hn, List.all_map, List.length_map, List.length_map]
  congr 1
  congr 1
  funext f
  show (match dGet (tb ps) (.inr f.1) with | some x => isOfB n x f.2 | none => false) = _
  rw [tb_get]; rfl
end Mine

namespace Mine
open PySem PyProof.Rows

theorem take_next {α : Type} {l : List α} {i : Nat} {a : α} {F : α → Bool} (h : l[i]? = some a) : (l.take (i + 1)).all F = ((l.take i).all F && F a) := by
  rw [List.take_add_one, h, List.all_append]; simp
theorem all_false {α : Type} {l : List α} {i : Nat} {a : α} {F : α → Bool} (h : l[i]? = some a) (hf : F a = false) : l.all F = false := by
  rw [Bool.eq_false_iff]
  intro e
  rw [List.all_eq_true.mp e a (List.mem_of_getElem? h)] at hf; cases hf
theorem map_at {fs : List (Str × V)} {i : Nat} {v : V} (h : (fs.map pairV)[i]? = some v) : ∃ f, fs[i]? = some f ∧ v = .tup [.str f.1, f.2] := by
  rw [List.getElem?_map] at h
  obtain ⟨f, hf, e⟩ := Option.map_eq_some_iff.mp h
  exact ⟨f, hf, e.symm⟩
theorem eq_ints {σ : Store} {Q : V → Store → Prop} {a b : Int} : Wp (cmp .Eq (.int a) (.int b)) σ Q ↔ Q (.bool (a == b)) σ := Wp_ok rfl
theorem Wp_lenTup {σ : Store} {Q : V → Store → Prop} {l : List V} : Wp (bLen (.tup l)) σ Q ↔ Q (.int l.length) σ := Wp_ok rfl
theorem Wp_notNone {σ : Store} {Q : V → Store → Prop} {r : V} (h : r = .none ∨ ∃ i, r = .int i) : Wp (cmp .IsNot r .none) σ Q ↔ Q (.bool (isRest r)) σ := Wp_ok (by
  rcases h with rfl | ⟨i, rfl⟩ <;> rfl)
theorem ne_bn : (Str.ofString "number" == Str.ofString "blank") = false := by decide +kernel
theorem ne_rb : (Str.ofString "record" == Str.ofString "blank") = false := by decide +kernel
theorem ne_rn : (Str.ofString "record" == Str.ofString "number") = false := by decide +kernel

theorem isOf_ok : ∀ (n : Nat) (k v : V) (b m d : Nat) (σ : Store), IsK n k → IsW b m v → n + 1 ≤ d → Wp (cl05 d "is_of" [v, k]) σ (fun r σ' => Le σ σ' ∧ r = .bool (isOfB n v k)) := by
  intro n
  induction n with
  | zero => intro k v bw m d σ hk; cases hk
  | succ n ih =>
    intro k v bw m d σ hk hv hd
    obtain ⟨d, rfl⟩ : ∃ e, d = e + 1 := ⟨d - 1, by omega⟩
    rw [P_is_of_sh]
    cases hk with
    | num =>
      simp only [Wp_bind, Wp_item0, eq_str, ne_bn, Wp_truthB]
      rw [if_neg (by decide)]
      unfold P_is_of_t1
      simp only [Wp_bind, Wp_item0, eq_str, beq_self_eq_true, Wp_truthB]
      rw [if_pos trivial]
      cases hv with
      | num i =>
        simp only [Wp_bind, Wp_kdInt, Wp_truthB, Wp_pure]
        exact ⟨Le.refl, rfl⟩
      | rcd fs _ _ _ =>
        simp only [Wp_bind, Wp_kd, Wp_truthB, Wp_pure]
        exact ⟨Le.refl, rfl⟩
    | blank i =>
      simp only [Wp_bind, Wp_item0, eq_str, beq_self_eq_true, Wp_truthB]
      rw [if_pos trivial, Wp_pure]
      exact ⟨Le.refl, rfl⟩
    | rcd fs r hfn hfl hfk hr =>
      simp only [Wp_bind, Wp_item0, eq_str, ne_rb, Wp_truthB]
      rw [if_neg (by decide)]
      unfold P_is_of_t1
      simp only [Wp_bind, Wp_item0, eq_str, ne_rn, Wp_truthB]
      rw [if_neg (by decide)]
      unfold P_is_of_t2
      cases hv with
      | num i =>
        simp only [Wp_bind, Wp_kdInt, Wp_truthB]
        rw [if_pos (by decide), Wp_pure]
        exact ⟨Le.refl, rfl⟩
      | rcd ps hpn hpl hpw =>
        simp only [Wp_bind, Wp_kd, Wp_truthB]
        rw [if_neg (by decide), isOfB_rec hpn]
        unfold P_is_of_t3
        simp only [Wp_bind, Wp_dictTup (pairs_of ps), merge_tb hpn, Wp_item1, Wp_srcTup]
        generalize hK : V.tup [.str (Str.ofString "record"), .tup (fs.map pairV), r] = K
        generalize hV : V.tup (ps.map pairV) = vv
        have hN : (σ ++ [O.dict (tb ps)])[σ.length]? = some (.dict (tb ps)) := get_new
        refine Wp_forAll (J := fun τ => True) walks_vals tgtOk_vals (fun i loc τ => Le (σ ++ [O.dict (tb ps)]) τ ∧ (∃ o1 o2, loc = [some vv, some K, some (.ref σ.length), o1, o2, none, none, none, none, none]) ∧ (fs.take i).all (fldB n ps) = true) (fun _ _ _ _ => trivial) ⟨Le.refl, ⟨_, _, rfl⟩, rfl⟩ (fun i v loc τ hv hp => ?_) fun loc τ hp => ?_
        · obtain ⟨hle, ⟨o1, o2, rfl⟩, hall⟩ := hp
          obtain ⟨f, hf, rfl⟩ := map_at hv
          rw [P_is_of_l1_step]
          have hd' := hle _ _ hN
          have hfm := List.mem_of_getElem? hf
          simp only [Wp_bind, Wp_notInD hd' (show keyOf (.str f.1) = some (.inr f.1) from rfl), tb_get, Wp_truthB]
          cases hx : ps.lookup f.1 with
          | none =>
            simp only [Option.isSome_none, Bool.not_false, cond_true, Wp_pure]
            refine .inr ⟨_, rfl, ?_⟩
            show Wp (Pure.pure (V.bool false)) τ _
            rw [Wp_pure]
            have : fldB n ps f = false := by unfold fldB; rw [hx]
            refine ⟨Le.append.trans hle, ?_⟩
            rw [all_false hf this]; rfl
          | some x =>
            simp only [Option.isSome_some, Bool.not_true, cond_false, Wp_bind, Wp_itemD hd' (show keyOf (.str f.1) = some (.inr f.1) from rfl) ((tb_get ps f.1).trans hx)]
            obtain ⟨m', hw⟩ : ∃ m', IsW bw m' x := ⟨_, hpw _ (lookup_mem hx)⟩
            refine (ih f.2 x bw m' d τ (hfk f hfm) hw (by omega)).mono fun b τ' hb => ?_
            obtain ⟨hle', rfl⟩ := hb
            have hF : fldB n ps f = isOfB n x f.2 := by unfold fldB; rw [hx]
            rw [Wp_truthB]
            cases hb : isOfB n x f.2 with
            | false =>
              simp only [Bool.not_false, cond_true, Wp_pure]
              refine .inr ⟨_, rfl, ?_⟩
              show Wp (Pure.pure (V.bool false)) τ' _
              rw [Wp_pure]
              refine ⟨(Le.append.trans hle).trans hle', ?_⟩
              rw [all_false hf (hF.trans hb)]; rfl
            | true =>
              simp only [Bool.not_true, cond_false, Wp_pure]
              exact .inl ⟨by first | trivial | rfl, hle.trans hle', ⟨_, _, rfl⟩, by rw [take_next hf, hall, hF, hb]; rfl⟩
        · obtain ⟨hle, ⟨o1, o2, rfl⟩, hall⟩ := hp
          rw [List.length_map, List.take_length] at hall
          show Wp (P_is_of_a1 d _) _ _
          rw [P_is_of_a1_eq]
          subst hK
          rw [hall]
          simp only [Wp_bind, Wp_item2, Wp_notNone hr, Wp_truthB]
          cases hrb : isRest r with
          | true =>
            rw [cond_true, Wp_pure]
            exact ⟨Le.append.trans hle, rfl⟩
          | false =>
            rw [cond_false]
            simp only [Wp_bind, Wp_lenD (hle _ _ hN), Wp_item1, Wp_lenTup, eq_ints, Wp_pure, tb_len, List.length_map]
            refine ⟨Le.append.trans hle, ?_⟩
            congr 1
            by_cases hq : ps.length = fs.length
            · simp [hq]
            · have : ((ps.length : Int) == (fs.length : Int)) = false := beq_false_of_ne (by omega)
              rw [this]; simp [hq]
theorem due_ok : ∀ (n : Nat) (k v : V) (b m d : Nat) (σ : Store), IsK n k → IsW b m v → n + 1 ≤ d → Wp (cl05 d "_law_due" [v, k]) σ (fun r σ' => Le σ σ' ∧ r = .bool (isOfB n v k)) := by
  intro n
  induction n with
  | zero => intro k v bw m d σ hk; cases hk
  | succ n ih =>
    intro k v bw m d σ hk hv hd
    obtain ⟨d, rfl⟩ : ∃ e, d = e + 1 := ⟨d - 1, by omega⟩
    rw [L_due_sh]
    cases hk with
    | num =>
      simp only [Wp_bind, Wp_item0, eq_str, ne_bn, Wp_truthB]
      rw [if_neg (by decide)]
      unfold L_due_t1
      simp only [Wp_bind, Wp_item0, eq_str, beq_self_eq_true, Wp_truthB]
      rw [if_pos trivial]
      cases hv with
      | num i =>
        simp only [Wp_bind, Wp_kdInt, Wp_truthB, Wp_pure]
        exact ⟨Le.refl, rfl⟩
      | rcd fs _ _ _ =>
        simp only [Wp_bind, Wp_kd, Wp_truthB, Wp_pure]
        exact ⟨Le.refl, rfl⟩
    | blank i =>
      simp only [Wp_bind, Wp_item0, eq_str, beq_self_eq_true, Wp_truthB]
      rw [if_pos trivial, Wp_pure]
      exact ⟨Le.refl, rfl⟩
    | rcd fs r hfn hfl hfk hr =>
      simp only [Wp_bind, Wp_item0, eq_str, ne_rb, Wp_truthB]
      rw [if_neg (by decide)]
      unfold L_due_t1
      simp only [Wp_bind, Wp_item0, eq_str, ne_rn, Wp_truthB]
      rw [if_neg (by decide)]
      unfold L_due_t2
      cases hv with
      | num i =>
        simp only [Wp_bind, Wp_kdInt, Wp_truthB]
        rw [if_pos (by decide), Wp_pure]
        exact ⟨Le.refl, rfl⟩
      | rcd ps hpn hpl hpw =>
        simp only [Wp_bind, Wp_kd, Wp_truthB]
        rw [if_neg (by decide), isOfB_rec hpn]
        unfold L_due_t3
        simp only [Wp_bind, Wp_dictTup (pairs_of ps), merge_tb hpn, Wp_item1, Wp_srcTup]
        generalize hK : V.tup [.str (Str.ofString "record"), .tup (fs.map pairV), r] = K
        generalize hV : V.tup (ps.map pairV) = vv
        have hN : (σ ++ [O.dict (tb ps)])[σ.length]? = some (.dict (tb ps)) := get_new
        refine Wp_forAll (J := fun τ => True) walks_vals tgtOk_vals (fun i loc τ => Le (σ ++ [O.dict (tb ps)]) τ ∧ (∃ o1 o2, loc = [some vv, some K, some (.ref σ.length), o1, o2, none, none, none, none, none]) ∧ (fs.take i).all (fldB n ps) = true) (fun _ _ _ _ => trivial) ⟨Le.refl, ⟨_, _, rfl⟩, rfl⟩ (fun i v loc τ hv hp => ?_) fun loc τ hp => ?_
        · obtain ⟨hle, ⟨o1, o2, rfl⟩, hall⟩ := hp
          obtain ⟨f, hf, rfl⟩ := map_at hv
          rw [L_due_l1_step]
          have hd' := hle _ _ hN
          have hfm := List.mem_of_getElem? hf
          simp only [Wp_bind, Wp_notInD hd' (show keyOf (.str f.1) = some (.inr f.1) from rfl), tb_get, Wp_truthB]
          cases hx : ps.lookup f.1 with
          | none =>
            simp only [Option.isSome_none, Bool.not_false, cond_true, Wp_pure]
            refine .inr ⟨_, rfl, ?_⟩
            show Wp (Pure.pure (V.bool false)) τ _
            rw [Wp_pure]
            have : fldB n ps f = false := by unfold fldB; rw [hx]
            refine ⟨Le.append.trans hle, ?_⟩
            rw [all_false hf this]; rfl
          | some x =>
            simp only [Option.isSome_some, Bool.not_true, cond_false, Wp_bind, Wp_itemD hd' (show keyOf (.str f.1) = some (.inr f.1) from rfl) ((tb_get ps f.1).trans hx)]
            obtain ⟨m', hw⟩ : ∃ m', IsW bw m' x := ⟨_, hpw _ (lookup_mem hx)⟩
            refine (ih f.2 x bw m' d τ (hfk f hfm) hw (by omega)).mono fun b τ' hb => ?_
            obtain ⟨hle', rfl⟩ := hb
            have hF : fldB n ps f = isOfB n x f.2 := by unfold fldB; rw [hx]
            rw [Wp_truthB]
            cases hb : isOfB n x f.2 with
            | false =>
              simp only [Bool.not_false, cond_true, Wp_pure]
              refine .inr ⟨_, rfl, ?_⟩
              show Wp (Pure.pure (V.bool false)) τ' _
              rw [Wp_pure]
              refine ⟨(Le.append.trans hle).trans hle', ?_⟩
              rw [all_false hf (hF.trans hb)]; rfl
            | true =>
              simp only [Bool.not_true, cond_false, Wp_pure]
              exact .inl ⟨by first | trivial | rfl, hle.trans hle', ⟨_, _, rfl⟩, by rw [take_next hf, hall, hF, hb]; rfl⟩
        · obtain ⟨hle, ⟨o1, o2, rfl⟩, hall⟩ := hp
          rw [List.length_map, List.take_length] at hall
          show Wp (L_due_a1 d _) _ _
          rw [L_due_a1_eq]
          subst hK
          rw [hall]
          simp only [Wp_bind, Wp_item2, Wp_notNone hr, Wp_truthB]
          cases hrb : isRest r with
          | true =>
            rw [cond_true, Wp_pure]
            exact ⟨Le.append.trans hle, rfl⟩
          | false =>
            rw [cond_false]
            subst hV
            simp only [Wp_bind, Wp_item1, Wp_lenTup, eq_ints, Wp_pure, List.length_map]
            refine ⟨Le.append.trans hle, ?_⟩
            congr 1
            by_cases hq : ps.length = fs.length
            · simp [hq]
            · have : ((ps.length : Int) == (fs.length : Int)) = false := beq_false_of_ne (by omega)
              rw [this]; simp [hq]
end Mine

namespace Mine
open PySem PyProof.Rows

/-! ## lists of texts -/
theorem strs_data (f : Nat → Option PyData) : ∀ ss : List Str, toPyTs f (ss.map V.str) = some (ss.map PyData.str) ∧ PyData.depthAll (ss.map PyData.str) ≤ 0 ∧ PyData.eqvAll (ss.map PyData.str) (ss.map PyData.str) = true
  | [] => ⟨rfl, Nat.le_refl _, rfl⟩
  | s :: r => by
    obtain ⟨h1, h2, h3⟩ := strs_data f r
    refine ⟨?_, ?_, ?_⟩
    · show (match toPyT f (.str s), toPyTs f (r.map V.str) with | some d, some ds => some (d :: ds) | _, _ => none) = _
      rw [h1]; rfl
    · rw [List.map_cons, PyData.depthAll]
      exact Nat.max_le.mpr ⟨Nat.le_refl _, h2⟩
    · rw [List.map_cons, PyData.eqvAll, h3, PyData.eqv]; simp
theorem words_veq {σ : Store} {a b : Nat} {x y : List Str} (ha : σ[a]? = some (.list (x.map V.str))) (hb : σ[b]? = some (.list (y.map V.str))) : veq σ (.ref a) (.ref b) = some (PyData.eqv (.list (x.map PyData.str)) (.list (y.map PyData.str))) := by
  unfold veq
  rw [toPy_list ha (strs_data _ x).1, toPy_list hb (strs_data _ y).1]
  dsimp only
  have h : (PyData.list (x.map PyData.str)).depth ≤ 1 := by rw [PyData.depth]; have := (strs_data (fun _ => none) x).2.1; omega
  rw [if_pos (Nat.le_trans (Nat.min_le_left _ _) (by omega))]
theorem words_same {σ : Store} {a : Nat} {x : List Str} (ha : σ[a]? = some (.list (x.map V.str))) : veq σ (.ref a) (.ref a) = some true := by
  rw [words_veq ha ha, PyData.eqv, (strs_data (fun _ => none) x).2.2]
theorem vin_words {σ : Store} {w : Nat} {x : List Str} (hw : σ[w]? = some (.list (x.map V.str))) : ∀ ms : List Nat, (∀ m ∈ ms, ∃ ws : List Str, σ[m]? = some (.list (ws.map V.str))) → ∃ c, vin σ (.ref w) (ms.map V.ref) = some c ∧ (w ∈ ms → c = true)
  | [], _ => ⟨false, rfl, fun h => nomatch h⟩
  | m :: r, h => by
    obtain ⟨ws, hm⟩ := h m (List.mem_cons_self ..)
    obtain ⟨c, h1, h2⟩ := vin_words hw r fun y hy => h y (List.mem_cons_of_mem _ hy)
    have e : vin σ (.ref w) ((m :: r).map V.ref) = (match veq σ (.ref m) (.ref w), vin σ (.ref w) (r.map V.ref) with | some e, some t => some (e || t) | _, _ => none) := rfl
    rw [words_veq hm hw, h1] at e
    refine ⟨_, e, fun hmem => ?_⟩
    rcases List.mem_cons.mp hmem with rfl | hmem
    · have := words_same hw
      rw [words_veq hm hw] at this
      rw [Option.some.inj this]; rfl
    · rw [h2 hmem, Bool.or_true]
theorem vidx_some {σ : Store} {x : V} : ∀ (l : List V) (i : Nat), vin σ x l = some true → ∃ k, vidx σ x l i = some k
  | [], i, h => by cases h
  | y :: r, i, h => by
    have h : (match veq σ y x, vin σ x r with | some e, some t => some (e || t) | _, _ => none) = some true := h
    show ∃ k, (match veq σ y x with | some true => some i | some false => vidx σ x r (i + 1) | none => none) = some k
    cases e1 : veq σ y x with
    | none => rw [e1] at h; cases h
    | some b =>
      cases e2 : vin σ x r with
      | none => rw [e1, e2] at h; cases h
      | some t =>
        rw [e1, e2] at h
        cases b with
        | true => exact ⟨i, rfl⟩
        | false =>
          have ht : t = true := by simpa using h
          subst ht
          exact vidx_some r (i + 1) e2
theorem vin_strs {σ : Store} {s : Str} : ∀ ss : List Str, vin σ (.str s) (ss.map V.str) = some (decide (s ∈ ss))
  | [] => rfl
  | y :: r => by
    show (match veq σ (.str y) (.str s), vin σ (.str s) (r.map V.str) with | some e, some t => some (e || t) | _, _ => none) = _
    rw [vin_strs r, show veq σ (.str y) (.str s) = some (y == s) from rfl]
    show some _ = some _
    congr 1
    by_cases h : s = y
    · subst h; simp
    · have : (y == s) = false := beq_false_of_ne fun e => h e.symm
      rw [this]; simp [h]

/-! ## what a run may change -/
noncomputable def LeEx (X : List Nat) (σ σ' : Store) : Prop := ∀ (n : Nat) (o : O), n ∉ X → σ[n]? = some o → σ'[n]? = some o
theorem LeEx.trans {X : List Nat} {σ σ' σ'' : Store} (h : LeEx X σ σ') (h' : LeEx X σ' σ'') : LeEx X σ σ'' := fun n o hn e => h' n o hn (h n o hn e)
theorem Le.ex {X : List Nat} {σ σ' : Store} (h : Le σ σ') : LeEx X σ σ' := fun n o _ e => h n o e
theorem LeEx.set {X : List Nat} {σ : Store} {k : Nat} {o : O} (hk : k ∈ X) : LeEx X σ (σ.set k o) := fun n o' hn e => by
  rw [List.getElem?_set_ne (show k ≠ n from fun e => hn (e ▸ hk))]; exact e
theorem LeEx.setNew {X : List Nat} {σ τ : Store} {k : Nat} {o : O} (h : LeEx X σ τ) (hk : σ.length ≤ k) : LeEx X σ (τ.set k o) := fun n o' hn e => by
  rw [List.getElem?_set_ne (fun eq => by have := lt_of_get e; omega)]; exact h n o' hn e
theorem LeEx.mono {X Y : List Nat} {σ σ' : Store} (h : LeEx X σ σ') (hs : ∀ n ∈ X, n ∈ Y) : LeEx Y σ σ' := fun n o hn e => h n o (fun hm => hn (hs n hm)) e

/-- the state, the labels, what is met -/
structure Gk (B : Nat) (σ : Store) (st lb mt ml : Nat) (ls : List Str) : Prop where
  st0 : 0 < st
  ml0 : 0 < ml
  n1 : lb ≠ st
  n2 : mt ≠ st
  n3 : st ≠ ml
  n4 : lb ≠ ml
  n5 : mt ≠ ml
  lab : σ[lb]? = some (.list (ls.map V.str))
  four : ls.length = 4
  nd : ls.Nodup
  small : B ≤ 1000
  met : ∃ q : Int, Small q ∧ σ[mt]? = some (.list [.int q, .ref ml])
  run : ∃ (s c : Int) (ms : List Nat), σ[st]? = some (.list [.int s, .int c]) ∧ σ[ml]? = some (.list (ms.map V.ref)) ∧ (∀ m ∈ ms, m ≠ st ∧ m ≠ ml ∧ ∃ ws : List Str, σ[m]? = some (.list (ws.map V.str))) ∧ ms.length ≤ B ∧ (ms.length : Int) + c ≤ B
section
variable {B : Nat} {σ σ' : Store} {st lb mt ml : Nat} {ls : List Str}
theorem Gk.le (g : Gk B σ st lb mt ml ls) (h : Le σ σ') : Gk B σ' st lb mt ml ls where
  st0 := g.st0
  ml0 := g.ml0
  n1 := g.n1
  n2 := g.n2
  n3 := g.n3
  n4 := g.n4
  n5 := g.n5
  lab := h _ _ g.lab
  four := g.four
  nd := g.nd
  small := g.small
  met := let ⟨q, hq, e⟩ := g.met; ⟨q, hq, h _ _ e⟩
  run := let ⟨s, c, ms, e1, e2, e3, e4⟩ := g.run; ⟨s, c, ms, h _ _ e1, h _ _ e2, fun m hm => let ⟨a, b, ws, e⟩ := e3 m hm; ⟨a, b, ws, h _ _ e⟩, e4⟩
theorem Gk.up (g : Gk B σ st lb mt ml ls) {C : Nat} (h : B ≤ C) (hc : C ≤ 1000) : Gk C σ st lb mt ml ls where
  st0 := g.st0
  ml0 := g.ml0
  n1 := g.n1
  n2 := g.n2
  n3 := g.n3
  n4 := g.n4
  n5 := g.n5
  lab := g.lab
  four := g.four
  nd := g.nd
  small := hc
  met := g.met
  run := let ⟨s, c, ms, e1, e2, e3, e4, e5⟩ := g.run; ⟨s, c, ms, e1, e2, e3, by omega, by omega⟩

theorem next_ex {d : Nat} (g : Gk B σ st lb mt ml ls) : Wp (cl05 (d + 1) "_law_next" [.ref st]) σ (fun r σ' => ∃ (z s' c : Int), r = .int z ∧ 0 ≤ z ∧ z < 2147483647 ∧ LeEx [st] σ σ' ∧ σ'[st]? = some (.list [.int s', .int c]) ∧ Gk B σ' st lb mt ml ls ∧
    (0 < c → Gk (B - 1) σ' st lb mt ml ls ∧ 1 ≤ B)) := by
  obtain ⟨s, c, ms, e1, e2, e3, e4, e5⟩ := g.run
  refine (next_ok e1 g.st0).mono fun r σ' h => ?_
  obtain ⟨z, s', rfl, h0, h1, rfl⟩ := h
  have hx : LeEx [st] σ (σ.set st (.list [.int s', .int (c - 1)])) := LeEx.set (List.mem_singleton.mpr rfl)
  have ns : ∀ {k : Nat}, k ≠ st → k ∉ [st] := fun hk hm => hk (List.mem_singleton.mp hm)
  have mk : ∀ C : Nat, C ≤ 1000 → ms.length ≤ C → (ms.length : Int) + (c - 1) ≤ C → Gk C (σ.set st (.list [.int s', .int (c - 1)])) st lb mt ml ls := fun C hC h1 h2 =>
    { st0 := g.st0, ml0 := g.ml0, n1 := g.n1, n2 := g.n2, n3 := g.n3, n4 := g.n4, n5 := g.n5, four := g.four, nd := g.nd, small := hC
      lab := hx _ _ (ns g.n1) g.lab
      met := let ⟨q, hq, e⟩ := g.met; ⟨q, hq, hx _ _ (ns g.n2) e⟩
      run := ⟨s', c - 1, ms, set_get e1, hx _ _ (ns g.n3.symm) e2, fun m hm => let ⟨a, b, ws, e⟩ := e3 m hm; ⟨a, b, ws, hx _ _ (ns a) e⟩, h1, h2⟩ }
  have hB := g.small
  refine ⟨z, s', c - 1, rfl, h0, h1, hx, set_get e1, mk B hB e4 (by omega), fun hc => ⟨mk (B - 1) (by omega) (by omega) (by omega), by omega⟩⟩
end
end Mine

namespace Mine
open PySem PyProof.Rows
section
variable {B : Nat} {σ σ' : Store} {st lb mt ml : Nat} {ls : List Str}

theorem at4 {z : Int} (h : ls.length = 4) : ∃ s, (ls.map V.str)[(z % 4).toNat]? = some (V.str s) := by
  have : (z % 4).toNat < ls.length := by omega
  exact ⟨ls[(z % 4).toNat], by rw [List.getElem?_map, List.getElem?_eq_getElem this]; rfl⟩
theorem cut_strs (ss : List Str) (lo hi : Option Int) : ∃ ts : List Str, cut (ss.map V.str) lo hi = ts.map V.str := by
  unfold cut
  rw [List.length_map, ← List.map_drop, ← List.map_take]
  exact ⟨_, rfl⟩
theorem filter_strs (p : Str → Bool) : ∀ ss : List Str, (ss.map V.str).filterMap (fun v => match v with | .str s => if p s = true then some v else none | _ => none) = (ss.filter p).map V.str
  | [] => rfl
  | s :: r => by
    rw [List.map_cons, List.filterMap_cons, List.filter_cons]
    cases h : p s with
    | true => simp only [h, if_true]; rw [filter_strs p r]; rfl
    | false =>
      simp only [h, Bool.false_eq_true, if_false]
      exact filter_strs p r

/-- the labels that are picked, in order -/
theorem words_ok {d : Nat} {z : Int} {f : V → M V} {Q : V → Store → Prop} {v4 v5 : V} (g : Gk B σ st lb mt ml ls) (hz : 0 ≤ z)
    (k : ∀ (w p : Nat) (ws : List Str) (σ' : Store), Le σ σ' → σ.length ≤ w → σ'[w]? = some (.list (ws.map V.str)) → ws.Nodup → ws.length ≤ 4 → Wp (f (.ref w)) σ' Q) :
    ∀ (pk : Nat) (ps : List Str), σ[pk]? = some (.list (ps.map V.str)) → Wp (bSorted (.ref lb) >>= fun t91 => srcV t91 >>= fun s92 => compAll (cf05 d) (cElt L_kind_c1) (cTgt L_kind_c1) (cIfs L_kind_c1) (cScope L_kind_c1) s92 L_kind_F.names [some (.ref st), some (.ref lb), some (.ref mt), some v4, some v5, some (.ref pk), none, none, none, none, none] >>= f) σ Q := by
  intro pk ps hp
  have h4 := g.four
  have hsl : (16777216 : Nat) = sizeLine := rfl
  simp only [Wp_bind, Wp_sorted g.lab (strs_all ls) (by omega)]
  have hs := get_new (σ := σ) (o := .list ((sortS ls).map V.str))
  rw [Wp_srcRef hs]
  have hp' : (σ ++ [O.list ((sortS ls).map V.str)])[pk]? = some (.list (ps.map V.str)) := Le.append _ _ hp
  have hln : (σ ++ [O.list ((sortS ls).map V.str)]).length = σ.length + 1 := by simp
  have hle : Le σ (σ ++ [O.list ((sortS ls).map V.str)]) := Le.append
  generalize σ ++ [O.list ((sortS ls).map V.str)] = τ at hs hp' hln hle ⊢
  have hlen : ((sortS ls).filter fun s => decide (s ∈ ps)).length ≤ 4 := Nat.le_trans (List.length_filter_le ..) (by rw [sortS_perm.length_eq]; omega)
  refine Wp_compPure (walks_lst fun τ' e => by rw [e]; exact hs) tgtOk_lst L_kind_c1_ok (L_kind_c1_in ..) (fun loc => ∃ o, loc = [none, o, some (.ref pk)]) ⟨_, rfl⟩ (fun v => match v with | .str s => if decide (s ∈ ps) = true then some v else none | _ => none) (fun v loc hv hS => ?_) ?_ ?_
  · obtain ⟨o, rfl⟩ := hS
    obtain ⟨s, _, rfl⟩ := List.mem_map.mp hv
    rw [L_kind_c1_bind, Wp_pure]
    refine ⟨rfl, ⟨_, rfl⟩, ?_⟩
    rw [L_kind_c1_tst]
    simp only [Wp_bind, Wp_inL hp' (vin_strs ps), Wp_truthB, Wp_pure]
    refine ⟨trivial, ?_⟩
    by_cases hm : s ∈ ps
    · rw [if_pos (decide_eq_true hm), L_kind_c1_elt, Wp_pure]
      exact ⟨rfl, by simp [hm]⟩
    · rw [if_neg (by simpa using hm)]
      simp [hm]
  · rw [filter_strs]
    rw [List.length_map]; omega
  · rw [filter_strs]
    refine k τ.length pk _ _ (hle.trans Le.append) (by omega) get_new ?_ hlen
    exact List.Nodup.sublist List.filter_sublist (sortS_perm.nodup_iff.mpr g.nd)
end
end Mine

namespace Mine
open PySem PyProof.Rows
section
variable {B : Nat} {σ σ' : Store} {st lb mt ml : Nat} {ls : List Str}

theorem Wp_sliceRef {Q : V → Store → Prop} {lo hi : Option Int} {n : Nat} {l : List V} (h : σ[n]? = some (.list l)) : Wp (sliceV lo hi (.ref n)) σ Q ↔ Q (.ref σ.length) (σ ++ [.list (cut l lo hi)]) := Wp_ok (by
  show (getList n >>= fun l => newO (.list (cut l lo hi))) σ = _
  rw [bind_ok (getList_at h)]; rfl)

/-- the end of a kind: its rest's number -/
theorem rest_ok {d w : Nat} {ws : List Str} {fs : List (Str × V)} {n : Nat} {v4 v5 v6 : V} (g : Gk B σ st lb mt ml ls) (hB : B + 1 ≤ 1000) (hw : σ[w]? = some (.list (ws.map V.str))) (hws : w ≠ st ∧ w ≠ ml)
    (hf : fs.map (·.1) = ws) (hn : ws.Nodup) (h4 : ws.length ≤ 4) (hk : ∀ p ∈ fs, IsK n p.2) :
    Wp (L_kind_t3 d (.ref st) (.ref lb) (.ref mt) v4 v5 v6 (.ref w) (.tup (fs.map pairV))) σ (fun r σ' => LeEx [st, ml] σ σ' ∧ Gk (B + 1) σ' st lb mt ml ls ∧ IsK (n + 1) r) := by
  have hfin : ∀ (i : Int), IsK (n + 1) (.tup [.str (Str.ofString "record"), .tup (fs.map pairV), .int i]) := fun i => .rcd fs _ (hf ▸ hn) (by have := congrArg List.length hf; rw [List.length_map] at this; omega) hk (.inr ⟨i, rfl⟩)
  have hsl : (16777216 : Nat) = sizeLine := rfl
  obtain ⟨q, hq, hmt⟩ := g.met
  -- the last step, the words being met
  have last : ∀ (τ : Store) (ms : List Nat), LeEx [st, ml] σ τ → Gk (B + 1) τ st lb mt ml ls → τ[mt]? = some (.list [.int q, .ref ml]) → τ[ml]? = some (.list (ms.map V.ref)) → vin τ (.ref w) (ms.map V.ref) = some true →
      Wp (L_kind_t4 d (.ref st) (.ref lb) (.ref mt) v4 v5 v6 (.ref w) (.tup (fs.map pairV))) τ (fun r σ' => LeEx [st, ml] σ σ' ∧ Gk (B + 1) σ' st lb mt ml ls ∧ IsK (n + 1) r) := by
    intro τ ms hle hg hm hml hv
    obtain ⟨k, hk⟩ := vidx_some _ 0 hv
    unfold L_kind_t4
    simp only [Wp_bind, Wp_itemRef hm (show (0 : Int) ≤ 0 by decide) (show ([V.int q, V.ref ml])[(0 : Int).toNat]? = some (.int q) from rfl), Wp_itemRef hm (show (0 : Int) ≤ 1 by decide) (show ([V.int q, V.ref ml])[(1 : Int).toNat]? = some (.ref ml) from rfl), Wp_mtagI hml, Wp_index hml hv hk, Wp_mul (a := 2) (.inl (by decide)), Wp_add, Wp_mul (a := q) (.inl hq), Wp_pure]
    exact ⟨hle, hg, hfin _⟩
  obtain ⟨s, c, ms, e1, e2, e3, e4, e5⟩ := g.run
  obtain ⟨b, hb, _⟩ := vin_words hw ms fun m hm => (e3 m hm).2.2
  unfold L_kind_t3
  simp only [Wp_bind, Wp_itemRef hmt (show (0 : Int) ≤ 1 by decide) (show ([V.int q, V.ref ml])[(1 : Int).toNat]? = some (.ref ml) from rfl), Wp_notInL e2 hb, Wp_truthB]
  cases b with
  | true =>
    rw [if_neg (by decide)]
    exact last σ ms (Le.refl.ex) (g.up (by omega) hB) hmt e2 hb
  | false =>
    rw [if_pos (by decide)]
    have hlt : (ms.map V.ref).length < sizeLine := by rw [List.length_map]; have := g.small; omega
    simp only [Wp_bind, Wp_itemRef hmt (show (0 : Int) ≤ 1 by decide) (show ([V.int q, V.ref ml])[(1 : Int).toNat]? = some (.ref ml) from rfl), Wp_mtag e2, Wp_append e2 g.ml0 hlt]
    have hx : LeEx [ml] σ (σ.set ml (.list (ms.map V.ref ++ [.ref w]))) := LeEx.set (List.mem_singleton.mpr rfl)
    have nm : ∀ {k : Nat}, k ≠ ml → k ∉ [ml] := fun hk hm => hk (List.mem_singleton.mp hm)
    have hml : (σ.set ml (.list (ms.map V.ref ++ [.ref w])))[ml]? = some (.list ((ms ++ [w]).map V.ref)) := by rw [set_get e2, List.map_append]; rfl
    have hall : ∀ m ∈ ms ++ [w], m ≠ st ∧ m ≠ ml ∧ ∃ ws : List Str, (σ.set ml (.list (ms.map V.ref ++ [.ref w])))[m]? = some (.list (ws.map V.str)) := fun m hm => by
      rcases List.mem_append.mp hm with hm | hm
      · obtain ⟨a, b, ws', e⟩ := e3 m hm
        exact ⟨a, b, ws', hx _ _ (nm b) e⟩
      · rw [List.mem_singleton.mp hm]
        exact ⟨hws.1, hws.2, ws, hx _ _ (nm hws.2) hw⟩
    obtain ⟨b', hb', ht⟩ := vin_words (hx _ _ (nm hws.2) hw) (ms ++ [w]) fun m hm => (hall m hm).2.2
    have ht := ht (List.mem_append_right _ (List.mem_singleton.mpr rfl))
    subst ht
    refine last _ (ms ++ [w]) (hx.mono fun n hn => by rw [List.mem_singleton.mp hn]; exact List.mem_cons_of_mem _ (List.mem_singleton.mpr rfl)) ?_ (hx _ _ (nm g.n5) hmt) hml hb'
    exact {
      st0 := g.st0, ml0 := g.ml0, n1 := g.n1, n2 := g.n2, n3 := g.n3, n4 := g.n4, n5 := g.n5, four := g.four, nd := g.nd, small := hB
      lab := hx _ _ (nm g.n4) g.lab
      met := ⟨q, hq, hx _ _ (nm g.n5) hmt⟩
      run := ⟨s, c, ms ++ [w], hx _ _ (nm g.n3) e1, hml, hall, by simp; omega, by simp; omega⟩ }

theorem kind_ok : ∀ (n d B : Nat) (σ : Store), n + 2 ≤ d → Gk B σ st lb mt ml ls → Wp (cl05 d "_law_kind" [.ref st, .ref lb, .ref mt, .int ((n : Int) + 1)]) σ (fun r σ' => LeEx [st, ml] σ σ' ∧ Gk B σ' st lb mt ml ls ∧ IsK (n + 1) r) := by
  intro n
  induction n with
  | zero =>
    intro d B σ hd g
    obtain ⟨d, rfl⟩ : ∃ e, d = e + 2 := ⟨d - 2, by omega⟩
    rw [L_kind_sh]
    refine Wp_bind.mpr ((next_ex g).mono fun r σ₁ h => ?_)
    obtain ⟨z, s', c, rfl, h0, h1, hx, hst, g₁, hc⟩ := h
    simp only [Wp_bind, Wp_le, Wp_truthB]
    rw [decide_eq_true (by omega), cond_true, Wp_pure]
    exact ⟨hx.mono fun n hn => by rw [List.mem_singleton.mp hn]; exact List.mem_cons_self .., g₁, .num⟩
  | succ n ih =>
    intro d B σ hd g
    obtain ⟨d, rfl⟩ : ∃ e, d = e + 2 := ⟨d - 2, by omega⟩
    rw [L_kind_sh]
    refine Wp_bind.mpr ((next_ex g).mono fun r σ₁ h => ?_)
    obtain ⟨z, s', c, rfl, h0, h1, hx, hst, g₁, hc⟩ := h
    have hx : LeEx [st, ml] σ σ₁ := hx.mono fun n hn => by rw [List.mem_singleton.mp hn]; exact List.mem_cons_self ..
    simp only [Wp_bind, Wp_le, Wp_truthB]
    rw [decide_eq_false (by omega), cond_false]
    simp only [Wp_bind, Wp_itemRef hst (show (0 : Int) ≤ 1 by decide) (show ([V.int s', V.int c])[(1 : Int).toNat]? = some (.int c) from rfl), Wp_le, Wp_truthB]
    by_cases hc0 : c ≤ 0
    · rw [decide_eq_true hc0, cond_true, Wp_pure]
      exact ⟨hx, g₁, .num⟩
    rw [decide_eq_false hc0, cond_false]
    obtain ⟨g₂, hB1⟩ := hc (by omega)
    simp only [Wp_bind, Wp_mod (b := 7) (by decide) (by decide), Wp_lt, Wp_truthB]
    by_cases h2 : z % 7 < 2
    · rw [decide_eq_true h2, cond_true, Wp_pure]
      exact ⟨hx, g₁, .num⟩
    rw [decide_eq_false h2, cond_false]
    unfold L_kind_t1
    obtain ⟨q, hq, hmt⟩ := g₁.met
    simp only [Wp_bind, Wp_mod (b := 7) (by decide) (by decide), eq_ints, Wp_truthB]
    by_cases h3 : z % 7 = 2
    · rw [h3, if_pos (by decide)]
      simp only [Wp_bind, Wp_itemRef hmt (show (0 : Int) ≤ 0 by decide) (show ([V.int q, V.ref ml])[(0 : Int).toNat]? = some (.int q) from rfl), Wp_mul (b := 2) (.inr (by decide)), Wp_div (b := 7) (by decide) (by decide), Wp_mod (b := 3) (by decide) (by decide), Wp_mul (b := z / 7 % 3) (.inr (by unfold Small; omega)), Wp_pure]
      exact ⟨hx, g₁, .blank _⟩
    rw [if_neg (by simpa using h3)]
    unfold L_kind_t2
    obtain ⟨l1, hl1⟩ := at4 (z := z / 7) g₁.four
    obtain ⟨l2, hl2⟩ := at4 (z := z / 28) g₁.four
    obtain ⟨l3, hl3⟩ := at4 (z := z / 112) g₁.four
    simp only [Wp_bind, Wp_div (b := 7) (by decide) (by decide), Wp_div (b := 28) (by decide) (by decide), Wp_div (b := 112) (by decide) (by decide), Wp_div (b := 448) (by decide) (by decide), Wp_mod (b := 4) (by decide) (by decide),
      Wp_itemRef g₁.lab (show 0 ≤ z / 7 % 4 by omega) hl1, Wp_itemRef g₁.lab (show 0 ≤ z / 28 % 4 by omega) hl2, Wp_itemRef g₁.lab (show 0 ≤ z / 112 % 4 by omega) hl3, Wp_newO, Wp_boundNone, Wp_boundInt,
      Wp_sliceRef (get_new (σ := σ₁) (o := .list [V.str l1, V.str l2, V.str l3]))]
    obtain ⟨ps, hps⟩ := cut_strs [l1, l2, l3] none (some (z / 448 % 4))
    rw [show [V.str l1, V.str l2, V.str l3] = [l1, l2, l3].map V.str from rfl, hps]
    have hpk : (σ₁ ++ [O.list ([l1, l2, l3].map V.str)] ++ [O.list (ps.map V.str)])[(σ₁ ++ [O.list ([l1, l2, l3].map V.str)]).length]? = some (.list (ps.map V.str)) := get_new
    have hle2 : Le σ₁ (σ₁ ++ [O.list ([l1, l2, l3].map V.str)] ++ [O.list (ps.map V.str)]) := Le.append.trans Le.append
    generalize (σ₁ ++ [O.list ([l1, l2, l3].map V.str)]).length = pk at hpk ⊢
    generalize σ₁ ++ [O.list ([l1, l2, l3].map V.str)] ++ [O.list (ps.map V.str)] = σ₂ at hpk hle2 ⊢
    have g₃ : Gk (B - 1) σ₂ st lb mt ml ls := g₂.le hle2
    have hw := words_ok (d := d + 1) (z := z) (v4 := .int (((n + 1 : Nat) : Int) + 1)) (v5 := .int z) (Q := fun r σ' => LeEx [st, ml] σ σ' ∧ Gk B σ' st lb mt ml ls ∧ IsK (n + 1 + 1) r) g₃ h0 (f := fun t90 => srcV t90 >>= fun s96 => (compAll (cf05 (d + 1)) (cElt L_kind_c2) (cTgt L_kind_c2) (cIfs L_kind_c2) (cScope L_kind_c2) s96 L_kind_F.names [some (.ref st), some (.ref lb), some (.ref mt), some (.int (((n + 1 : Nat) : Int) + 1)), some (.int z), some (.ref pk), some t90, none, none, none, none] >>= fun t95 => (bTuple t95 >>= fun t97 => (binop .FloorDiv (.int z) (V.int 1792) >>= fun t111 => (binop .Mod t111 (V.int 2) >>= fun t112 => (cmp .Eq t112 (V.int 0) >>= fun t113 => (truth t113 >>= fun b114 => (if b114 = true then (pure (V.tup [(V.str (Str.ofString "record")), t97, V.none]) : M V) else (L_kind_t3 (d + 1) (.ref st) (.ref lb) (.ref mt) (.int (((n + 1 : Nat) : Int) + 1)) (.int z) (.ref pk) t90 t97))))))))) (fun w p ws σ₃ hle3 hwl hwg hwn hw4 => ?_) pk ps hpk
    · simp only [Wp_bind] at hw
      exact hw
    have g₄ : Gk (B - 1) σ₃ st lb mt ml ls := g₃.le hle3
    obtain ⟨s3, c3, ms3, r1, r2, r3, r4, r5⟩ := g₃.run
    have hwst : w ≠ st ∧ w ≠ ml := ⟨fun e => by have := lt_of_get r1; omega, fun e => by have := lt_of_get r2; omega⟩
    have nw : w ∉ [st, ml] := fun hm => by
      rcases List.mem_cons.mp hm with e | hm
      · exact hwst.1 e
      · exact hwst.2 (List.mem_singleton.mp hm)
    have hx3 : LeEx [st, ml] σ σ₃ := hx.trans (hle2.trans hle3).ex
    have hsl : (16777216 : Nat) = sizeLine := rfl
    simp only [Wp_bind, Wp_srcRef hwg]
    refine Wp_compAll (J := fun τ => τ[w]? = some (.list (ws.map V.str))) (walks_lst fun τ h => h) tgtOk_lst L_kind_c2_ok (L_kind_c2_in ..) (fun i acc loc τ => τ[w]? = some (.list (ws.map V.str)) ∧ LeEx [st, ml] σ τ ∧ Gk (B - 1) τ st lb mt ml ls ∧ (∃ o, loc = [none, o, none, some (.ref lb), some (.int (((n + 1 : Nat) : Int) + 1)), some (.ref mt), some (.ref st)]) ∧ ∃ fs : List (Str × V), acc = fs.map pairV ∧ fs.map (·.1) = ws.take i ∧ ∀ p ∈ fs, IsK (n + 1) p.2) (fun _ _ _ _ h => h.1) ⟨hwg, hx3, g₄, ⟨_, rfl⟩, [], rfl, rfl, by simp⟩ (fun i v acc loc τ hv hp => ?_) fun out loc τ hp => ?_
    · obtain ⟨hwt, hxt, gt, ⟨o, rfl⟩, fs, rfl, hfw, hfk⟩ := hp
      rw [List.getElem?_map] at hv
      obtain ⟨s, hs, rfl⟩ := Option.map_eq_some_iff.mp hv
      rw [L_kind_c2_bind, Wp_pure, L_kind_c2_tst, Wp_pure, if_pos rfl, L_kind_c2_elt]
      simp only [Wp_bind, Wp_sub]
      have e : ((n + 1 : Nat) : Int) + 1 - 1 = (n : Int) + 1 := by omega
      rw [e]
      refine (ih (d + 1) (B - 1) τ (by omega) gt).mono fun r τ' h => ?_
      obtain ⟨hxt', gt', hk⟩ := h
      rw [Wp_pure]
      refine ⟨hxt' _ _ nw hwt, hxt.trans hxt', gt', ⟨_, rfl⟩, fs ++ [(s, r)], by rw [List.map_append]; rfl, ?_, fun p hp => ?_⟩
      · rw [List.map_append, hfw, List.take_add_one, hs]; rfl
      · rcases List.mem_append.mp hp with hp | hp
        · exact hfk p hp
        · rw [List.mem_singleton.mp hp]; exact hk
    · obtain ⟨hwt, hxt, gt, _, fs, rfl, hfw, hfk⟩ := hp
      rw [List.length_map, List.take_length] at hfw
      have hfl : fs.length = ws.length := by rw [← hfw, List.length_map]
      refine ⟨by rw [List.length_map]; omega, ?_⟩
      simp only [Wp_tupleRef (get_new (σ := τ) (o := .list (fs.map pairV))), Wp_div (b := 1792) (by decide) (by decide), Wp_mod (b := 2) (by decide) (by decide), eq_ints, Wp_truthB]
      have gt' : Gk (B - 1) (τ ++ [O.list (fs.map pairV)]) st lb mt ml ls := gt.le Le.append
      have hxt' : LeEx [st, ml] σ (τ ++ [O.list (fs.map pairV)]) := hxt.trans Le.append.ex
      have hb := g.small
      split
      · rw [Wp_pure]
        exact ⟨hxt', gt'.up (by omega) hb, .rcd fs _ (by rw [hfw]; exact hwn) (by omega) hfk (.inl rfl)⟩
      · refine (rest_ok (n := n + 1) gt' (by omega) (Le.append _ _ hwt) hwst hfw hwn hw4 hfk).mono fun r σ' h => ?_
        obtain ⟨h1, h2, h3⟩ := h
        exact ⟨hxt'.trans h1, h2.up (by omega) hb, h3⟩
end
end Mine

namespace Mine
open PySem PyProof.Rows

/-! ## a dict's pairs, in order -/
noncomputable def resort (ps : List (Str × V)) : List (Str × V) := (sortS (ps.map (·.1))).map fun l => (l, (ps.lookup l).getD .none)
theorem resort_keys (ps : List (Str × V)) : (resort ps).map (·.1) = sortS (ps.map (·.1)) := by
  unfold resort
  rw [List.map_map]
  exact List.map_id' _
theorem resort_nodup {ps : List (Str × V)} (h : (ps.map (·.1)).Nodup) : ((resort ps).map (·.1)).Nodup := by rw [resort_keys]; exact sortS_perm.nodup_iff.mpr h
theorem resort_len (ps : List (Str × V)) : (resort ps).length = ps.length := by
  have := congrArg List.length (resort_keys ps)
  rw [List.length_map, sortS_perm.length_eq, List.length_map] at this
  exact this
theorem resort_mem {ps : List (Str × V)} {p : Str × V} (h : p ∈ resort ps) : ps.lookup p.1 = some p.2 := by
  obtain ⟨l, hl, rfl⟩ := List.mem_map.mp h
  obtain ⟨x, hx⟩ := lookup_some (sortS_perm.mem_iff.mp hl)
  show ps.lookup l = some ((ps.lookup l).getD .none)
  rw [hx]; rfl
theorem resort_lookup {ps : List (Str × V)} (h : (ps.map (·.1)).Nodup) (l : Str) : (resort ps).lookup l = ps.lookup l := by
  cases e : ps.lookup l with
  | none =>
    rw [lookup_none, resort_keys]
    exact fun hm => lookup_none.mp e (sortS_perm.mem_iff.mp hm)
  | some x =>
    refine lookup_nodup (resort_nodup h) (List.mem_map.mpr ⟨l, sortS_perm.mem_iff.mpr ?_, by rw [e]; rfl⟩)
    exact List.mem_map.mpr ⟨(l, x), lookup_mem e, rfl⟩

section
variable {B : Nat} {σ σ' : Store} {st lb mt ml : Nat} {ls : List Str}
/-- a dict elsewhere is turned -/
theorem Gk.dict (g : Gk B σ st lb mt ml ls) {N : Nat} {l l' : Tab} (hN : σ[N]? = some (.dict l)) : Gk B (σ.set N (.dict l')) st lb mt ml ls := by
  have hk : ∀ {k : Nat} {o : List V}, σ[k]? = some (.list o) → (σ.set N (.dict l'))[k]? = some (.list o) := fun {k o} e => by
    rw [List.getElem?_set_ne (fun eq => by rw [eq, e] at hN; cases hN)]; exact e
  obtain ⟨s, c, ms, e1, e2, e3, e4, e5⟩ := g.run
  exact { st0 := g.st0, ml0 := g.ml0, n1 := g.n1, n2 := g.n2, n3 := g.n3, n4 := g.n4, n5 := g.n5, four := g.four, nd := g.nd, small := g.small
          lab := hk g.lab
          met := let ⟨q, hq, e⟩ := g.met; ⟨q, hq, hk e⟩
          run := ⟨s, c, ms, hk e1, hk e2, fun m hm => let ⟨a, b, ws, e⟩ := e3 m hm; ⟨a, b, ws, hk e⟩, e4, e5⟩ }

theorem anyInt_ok {z : Int} {Q : V → Store → Prop} (q : ∀ (i : Int) (σ' : Store), Le σ σ' → Q (.int i) σ') :
    Wp (binop .FloorDiv (.int z) (V.int 2) >>= fun t161 => (binop .Mod t161 (V.int 5) >>= fun t162 => (binop .FloorDiv (.int z) (V.int 2) >>= fun t163 => (binop .Pow (V.int 10) (V.int 12) >>= fun t164 => (binop .Mult (V.int 2) t164 >>= fun t165 => (binop .Mod t163 t165 >>= fun t166 => (binop .Pow (V.int 10) (V.int 12) >>= fun t167 => (binop .Sub t166 t167 >>= fun t168 => (newO (.list [t162, t168]) >>= fun t169 => (binop .FloorDiv (.int z) (V.int 20) >>= fun t170 => (binop .Mod t170 (V.int 2) >>= fun t171 => (item t169 t171 >>= fun t172 => (pure t172 : M V))))))))))))) σ Q := by
  have hp : (10 : Int) ^ (12 : Int).toNat = 1000000000000 := by decide
  simp only [Wp_bind, Wp_pow (show (0 : Int) ≤ 12 by decide) (show (12 : Int) ≤ 1000 by decide) (show (10 : Int).natAbs < 1000 by decide), hp, Wp_mul (Or.inl (show Small 2 by decide)), Wp_sub, Wp_newO,
    Wp_div (b := 2) (by decide) (by decide), Wp_div (b := 20) (by decide) (by decide), Wp_mod (b := 5) (by decide) (by decide), Wp_mod (b := 2) (by decide) (by decide), Wp_mod (b := 2 * 1000000000000) (by decide) (by decide)]
  have h1 : 0 ≤ z / 20 % 2 := by omega
  have h2 : (z / 20 % 2).toNat < 2 := by omega
  have hx : ∃ i, ([V.int (z / 2 % 5), V.int (z / 2 % (2 * 1000000000000) - 1000000000000)])[(z / 20 % 2).toNat]? = some (.int i) := by
    generalize (z / 20 % 2).toNat = j at h2
    rcases j with _ | _ | j
    · exact ⟨_, rfl⟩
    · exact ⟨_, rfl⟩
    · omega
  obtain ⟨i, hx⟩ := hx
  rw [Wp_itemRef get_new h1 hx, Wp_pure]
  exact q i _ Le.append

theorem any_ok : ∀ (n d : Nat) (σ : Store), n + 2 ≤ d → Gk B σ st lb mt ml ls → Wp (cl05 d "_law_any" [.ref st, .ref lb, .int ((n : Int) + 1)]) σ (fun r σ' => LeEx [st, ml] σ σ' ∧ Gk B σ' st lb mt ml ls ∧ IsW 20 n r) := by
  intro n
  induction n with
  | zero =>
    intro d σ hd g
    obtain ⟨d, rfl⟩ : ∃ e, d = e + 2 := ⟨d - 2, by omega⟩
    rw [L_any_sh]
    refine Wp_bind.mpr ((next_ex g).mono fun r σ₁ h => ?_)
    obtain ⟨z, s', c, rfl, h0, h1, hx, hst, g₁, hc⟩ := h
    have hx : LeEx [st, ml] σ σ₁ := hx.mono fun n hn => by rw [List.mem_singleton.mp hn]; exact List.mem_cons_self ..
    rw [Wp_bind, Wp_le, Wp_bind, Wp_truthB, decide_eq_true (by omega), cond_true]
    exact anyInt_ok fun i σ' h => ⟨hx.trans h.ex, g₁.le h, .num i⟩
  | succ n ih =>
    intro d σ hd g
    obtain ⟨d, rfl⟩ : ∃ e, d = e + 2 := ⟨d - 2, by omega⟩
    rw [L_any_sh]
    refine Wp_bind.mpr ((next_ex g).mono fun r σ₁ h => ?_)
    obtain ⟨z, s', c, rfl, h0, h1, hx, hst, g₁, hc⟩ := h
    have hx : LeEx [st, ml] σ σ₁ := hx.mono fun n hn => by rw [List.mem_singleton.mp hn]; exact List.mem_cons_self ..
    rw [Wp_bind, Wp_le, Wp_bind, Wp_truthB, decide_eq_false (by omega), cond_false, Wp_bind, Wp_mod (b := 2) (by decide) (by decide), Wp_bind, eq_ints, Wp_bind, Wp_truthB]
    cases hb : (z % 2 == 0) with
    | true =>
      rw [cond_true]
      exact anyInt_ok fun i σ' h => ⟨hx.trans h.ex, g₁.le h, .num i⟩
    | false =>
      rw [cond_false]
      unfold L_any_t1
      have h4 := g₁.four
      have hsl : (16777216 : Nat) = sizeLine := rfl
      simp only [Wp_bind, Wp_sorted g₁.lab (strs_all ls) (by omega)]
      have hs := get_new (σ := σ₁) (o := .list ((sortS ls).map V.str))
      rw [Wp_srcRef hs]
      have hle : Le σ₁ (σ₁ ++ [O.list ((sortS ls).map V.str)]) := Le.append
      have hS : σ₁.length ∉ [st, ml] := by
        obtain ⟨s, c, ms, e1, e2, _⟩ := g₁.run
        have := lt_of_get e1; have := lt_of_get e2
        simp only [List.mem_cons, List.not_mem_nil, or_false, not_or]; omega
      generalize σ₁ ++ [O.list ((sortS ls).map V.str)] = σ₂ at hs hle ⊢
      generalize σ₁.length = S at hs hS ⊢
      have g₂ := g₁.le hle
      have hx₂ : LeEx [st, ml] σ σ₂ := hx.trans hle.ex
      refine Wp_compAll (J := fun τ => τ[S]? = some (.list ((sortS ls).map V.str))) (walks_lst fun τ h => h) tgtOk_lst L_any_c1_ok (L_any_c1_in ..) (fun i acc loc τ => τ[S]? = some (.list ((sortS ls).map V.str)) ∧ LeEx [st, ml] σ τ ∧ Gk B τ st lb mt ml ls ∧ (∃ o, loc = [none, o, none, some (.ref st)]) ∧ ∃ ws : List Str, acc = ws.map V.str ∧ ws.Sublist ((sortS ls).take i)) (fun _ _ _ _ h => h.1) ⟨hs, hx₂, g₂, ⟨_, rfl⟩, [], rfl, List.Sublist.refl _⟩ (fun i v acc loc τ hv hp => ?_) fun out loc τ hp => ?_
      · obtain ⟨hst, hxt, gt, ⟨o, rfl⟩, ws, rfl, hsub⟩ := hp
        rw [List.getElem?_map] at hv
        obtain ⟨s, hs', rfl⟩ := Option.map_eq_some_iff.mp hv
        rw [L_any_c1_bind, Wp_pure, L_any_c1_tst]
        refine Wp_bind.mpr ((next_ex gt).mono fun r τ₁ h => ?_)
        obtain ⟨z', _, _, rfl, _, _, hx', _, g', _⟩ := h
        have hx' : LeEx [st, ml] τ τ₁ := hx'.mono fun n hn => by rw [List.mem_singleton.mp hn]; exact List.mem_cons_self ..
        simp only [Wp_bind, Wp_mod (b := 2) (by decide) (by decide), eq_ints, Wp_truthB, Wp_pure]
        have htake : (sortS ls).take (i + 1) = (sortS ls).take i ++ [s] := by rw [List.take_add_one, hs']; rfl
        split
        · rw [L_any_c1_elt, Wp_pure]
          refine ⟨hx' _ _ hS hst, hxt.trans hx', g', ⟨_, rfl⟩, ws ++ [s], by rw [List.map_append]; rfl, by rw [htake]; exact hsub.append (List.Sublist.refl _)⟩
        · exact ⟨hx' _ _ hS hst, hxt.trans hx', g', ⟨_, rfl⟩, ws, rfl, by rw [htake]; exact hsub.trans (List.sublist_append_left _ _)⟩
      · obtain ⟨hst, hxt, gt, _, ws, rfl, hsub⟩ := hp
        rw [List.length_map, List.take_length] at hsub
        have hw4 : ws.length ≤ 4 := by have := hsub.length_le; rw [sortS_perm.length_eq] at this; omega
        have hwn : ws.Nodup := hsub.nodup (sortS_perm.nodup_iff.mpr g₁.nd)
        refine ⟨by rw [List.length_map]; omega, ?_⟩
        have hW := get_new (σ := τ) (o := .list (ws.map V.str))
        rw [Wp_srcRef hW]
        have hWn : τ.length ∉ [st, ml] := by
          obtain ⟨s, c, ms, e1, e2, _⟩ := gt.run
          have := lt_of_get e1; have := lt_of_get e2
          simp only [List.mem_cons, List.not_mem_nil, or_false, not_or]; omega
        have gt' : Gk B (τ ++ [O.list (ws.map V.str)]) st lb mt ml ls := gt.le Le.append
        have hxt' : LeEx [st, ml] σ (τ ++ [O.list (ws.map V.str)]) := hxt.trans Le.append.ex
        generalize τ ++ [O.list (ws.map V.str)] = σ₃ at hW gt' hxt' ⊢
        generalize τ.length = W at hW hWn ⊢
        refine Wp_compAll (J := fun τ => τ[W]? = some (.list (ws.map V.str))) (walks_lst fun τ h => h) tgtOk_lst L_any_c2_ok (L_any_c2_in ..) (fun i acc loc τ => τ[W]? = some (.list (ws.map V.str)) ∧ LeEx [st, ml] σ τ ∧ Gk B τ st lb mt ml ls ∧ (∃ o, loc = [none, o, none, some (.ref lb), some (.int (((n + 1 : Nat) : Int) + 1)), some (.ref st)]) ∧ ∃ fs : List (Str × V), acc = fs.map pairV ∧ fs.map (·.1) = ws.take i ∧ ∀ p ∈ fs, IsW 20 n p.2) (fun _ _ _ _ h => h.1) ⟨hW, hxt', gt', ⟨_, rfl⟩, [], rfl, rfl, by simp⟩ (fun i v acc loc τ hv hp => ?_) fun out loc τ hp => ?_
        · obtain ⟨hwt, hxt, gt, ⟨o, rfl⟩, fs, rfl, hfw, hfk⟩ := hp
          rw [List.getElem?_map] at hv
          obtain ⟨s, hs, rfl⟩ := Option.map_eq_some_iff.mp hv
          rw [L_any_c2_bind, Wp_pure, L_any_c2_tst, Wp_pure, if_pos rfl, L_any_c2_elt]
          simp only [Wp_bind, Wp_sub]
          have e : ((n + 1 : Nat) : Int) + 1 - 1 = (n : Int) + 1 := by omega
          rw [e]
          refine (ih (d + 1) τ (by omega) gt).mono fun r τ' h => ?_
          obtain ⟨hxt', gt', hk⟩ := h
          rw [Wp_pure]
          refine ⟨hxt' _ _ hWn hwt, hxt.trans hxt', gt', ⟨_, rfl⟩, fs ++ [(s, r)], by rw [List.map_append]; rfl, ?_, fun p hp => ?_⟩
          · rw [List.map_append, hfw, List.take_add_one, hs]; rfl
          · rcases List.mem_append.mp hp with hp | hp
            · exact hfk p hp
            · rw [List.mem_singleton.mp hp]; exact hk
        · obtain ⟨hwt, hxt, gt, _, fs, rfl, hfw, hfk⟩ := hp
          rw [List.length_map, List.take_length] at hfw
          have hfl : fs.length = ws.length := by rw [← hfw, List.length_map]
          refine ⟨by rw [List.length_map]; omega, ?_⟩
          rw [Wp_tupleRef (get_new (σ := τ) (o := .list (fs.map pairV))), Wp_pure]
          exact ⟨hxt.trans Le.append.ex, gt.le Le.append, .rcd fs (by rw [hfw]; exact hwn) (by omega) hfk⟩
end
end Mine

namespace Mine
open PySem PyProof.Rows
section
variable {B : Nat} {σ σ' : Store} {st lb mt ml : Nat} {ls : List Str}

/-- a dict's pairs, as a tuple -/
theorem tupled_ok {d N : Nat} {ps : List (Str × V)} {v1 v2 v3 : V} {o1 o2 : Option V} (hN : σ[N]? = some (.dict (tb ps))) (hn : (ps.map (·.1)).Nodup) (hl : ps.length ≤ 60) : Wp (L_value_t3 d v1 v2 v3 (.ref N) o1 o2) σ (fun r σ' => Le σ σ' ∧ r = .tup ((resort ps).map pairV)) := by
  unfold L_value_t3
  have hsl : (16777216 : Nat) = sizeLine := rfl
  simp only [Wp_bind, Wp_listD hN, tb_keys]
  have h1 := get_new (σ := σ) (o := .list ((ps.map (·.1)).map V.str))
  rw [Wp_sorted h1 (strs_all _) (by rw [List.length_map]; omega)]
  have hle : Le σ (σ ++ [O.list ((ps.map (·.1)).map V.str)] ++ [O.list ((sortS (ps.map (·.1))).map V.str)]) := Le.append.trans Le.append
  have h2 := get_new (σ := σ ++ [O.list ((ps.map (·.1)).map V.str)]) (o := .list ((sortS (ps.map (·.1))).map V.str))
  rw [Wp_srcRef h2]
  generalize (σ ++ [O.list ((ps.map (·.1)).map V.str)]).length = S at h2 ⊢
  generalize σ ++ [O.list ((ps.map (·.1)).map V.str)] ++ [O.list ((sortS (ps.map (·.1))).map V.str)] = σ₁ at h2 hle ⊢
  have hN' := hle _ _ hN
  have hfm : ((sortS (ps.map (·.1))).map V.str).filterMap (fun v => match v with | .str l => some (pairV (l, (ps.lookup l).getD .none)) | _ => none) = (resort ps).map pairV := by
    unfold resort
    generalize sortS (ps.map (·.1)) = q
    rw [List.filterMap_map, List.map_map, ← List.filterMap_eq_map]; rfl
  refine Wp_compPure (walks_lst fun τ' e => by rw [e]; exact h2) tgtOk_lst L_value_c1_ok (L_value_c1_in ..) (fun loc => ∃ o, loc = [none, o, some (.ref N)]) ⟨_, rfl⟩ (fun v => match v with | .str l => some (pairV (l, (ps.lookup l).getD .none)) | _ => none) (fun v loc hv hS => ?_) ?_ ?_
  · obtain ⟨o, rfl⟩ := hS
    obtain ⟨l, hl', rfl⟩ := List.mem_map.mp hv
    obtain ⟨x, hx⟩ := lookup_some (sortS_perm.mem_iff.mp hl')
    rw [L_value_c1_bind, Wp_pure]
    refine ⟨rfl, ⟨_, rfl⟩, ?_⟩
    rw [L_value_c1_tst, Wp_pure]
    refine ⟨rfl, ?_⟩
    rw [if_pos rfl, L_value_c1_elt, Wp_bind, Wp_itemD hN' (show keyOf (.str l) = some (.inr l) from rfl) ((tb_get ps l).trans hx), Wp_pure]
    exact ⟨rfl, by show some (pairV (l, (ps.lookup l).getD .none)) = _; rw [hx]; rfl⟩
  · rw [hfm, List.length_map, resort_len]; omega
  · rw [hfm, Wp_tupleRef (get_new (σ := σ₁) (o := .list ((resort ps).map pairV))), Wp_pure]
    exact ⟨hle.trans Le.append, rfl⟩

/-- what a dict holds of the fields of a kind -/
structure Holds (n : Nat) (fs ps : List (Str × V)) : Prop where
  nd : (ps.map (·.1)).Nodup
  w : ∀ p ∈ ps, IsW 20 (n + 2) p.2
  ok : ∀ f ∈ fs, ∃ x, ps.lookup f.1 = some x ∧ isOfB n x f.2 = true
theorem Holds.put {n : Nat} {fs ps : List (Str × V)} {l : Str} {x : V} (h : Holds n fs ps) (hx : IsW 20 (n + 2) x) (hl : ps.lookup l = none) : Holds n fs (sput ps l x) where
  nd := sput_nodup h.nd
  w := fun p hp => (sput_mem hp).elim (h.w p) fun e => e ▸ hx
  ok := fun f hf => by
    obtain ⟨y, hy, hb⟩ := h.ok f hf
    exact ⟨y, by rw [sput_other (fun e => by rw [e, hl] at hy; cases hy)]; exact hy, hb⟩

theorem valueFin {n d N : Nat} {fs ps : List (Str × V)} {r : V} {v1 v2 v3 : V} {o1 o2 : Option V} (hN : σ[N]? = some (.dict (tb ps))) (h : Holds n fs ps) (hl : ps.length ≤ 20) (hr : isRest r = true ∨ ps.length = fs.length) :
    Wp (L_value_t3 d v1 v2 v3 (.ref N) o1 o2) σ (fun v σ' => Le σ σ' ∧ IsW 20 (n + 3) v ∧ isOfB (n + 1) v (.tup [.str (Str.ofString "record"), .tup (fs.map pairV), r]) = true) := by
  refine (tupled_ok hN h.nd (by omega)).mono fun v σ' hv => ?_
  obtain ⟨hle, rfl⟩ := hv
  refine ⟨hle, .rcd _ (resort_nodup h.nd) (by rw [resort_len]; exact hl) fun p hp => h.w _ (lookup_mem (resort_mem hp)), ?_⟩
  rw [isOfB_rec (resort_nodup h.nd), Bool.and_eq_true]
  constructor
  · rw [List.all_eq_true]
    intro f hf
    obtain ⟨x, hx, hb⟩ := h.ok f hf
    unfold fldB
    rw [resort_lookup h.nd, hx]; exact hb
  · rw [resort_len]
    rcases hr with hr | hr
    · rw [hr]; rfl
    · simp [hr]

theorem value_ok : ∀ (n d : Nat) (k : V) (σ : Store), n + 6 ≤ d → IsK n k → Gk B σ st lb mt ml ls → Wp (cl05 d "_law_value" [.ref st, k, .ref lb]) σ (fun v σ' => LeEx [st, ml] σ σ' ∧ Gk B σ' st lb mt ml ls ∧ IsW 20 (n + 2) v ∧ isOfB n v k = true) := by
  intro n
  induction n with
  | zero => intro d k σ hd hk; cases hk
  | succ n ih =>
    intro d k σ hd hk g
    obtain ⟨d, rfl⟩ : ∃ e, d = e + 1 := ⟨d - 1, by omega⟩
    rw [L_value_sh]
    have hsl : (16777216 : Nat) = sizeLine := rfl
    cases hk with
    | blank i =>
      simp only [Wp_bind, Wp_item0, eq_str, beq_self_eq_true, Wp_truthB]
      rw [if_pos trivial]
      refine Wp_bind.mpr ((any_ok 2 d σ (by omega) g).mono fun v σ' h => ?_)
      obtain ⟨h1, h2, h3⟩ := h
      rw [Wp_pure]
      exact ⟨h1, h2, h3.mono (by omega), rfl⟩
    | num =>
      simp only [Wp_bind, Wp_item0, eq_str, ne_bn, Wp_truthB]
      rw [if_neg (by decide)]
      unfold L_value_t1
      simp only [Wp_bind, Wp_item0, eq_str, beq_self_eq_true, Wp_truthB]
      rw [if_pos trivial]
      refine Wp_bind.mpr ((any_ok 0 d σ (by omega) g).mono fun v σ' h => ?_)
      obtain ⟨h1, h2, h3⟩ := h
      rw [Wp_pure]
      cases h3 with
      | num i => exact ⟨h1, h2, .num i, rfl⟩
    | rcd fs r hfn hfl hfk hr =>
      simp only [Wp_bind, Wp_item0, eq_str, ne_rb, Wp_truthB]
      rw [if_neg (by decide)]
      unfold L_value_t1
      simp only [Wp_bind, Wp_item0, eq_str, ne_rn, Wp_truthB]
      rw [if_neg (by decide)]
      unfold L_value_t2
      simp only [Wp_bind, Wp_newO, Wp_item1, Wp_srcTup]
      have hN0 := get_new (σ := σ) (o := .dict [])
      have hNn : σ.length ∉ [st, ml] := by
        obtain ⟨s, c, ms, e1, e2, _⟩ := g.run
        have := lt_of_get e1; have := lt_of_get e2
        simp only [List.mem_cons, List.not_mem_nil, or_false, not_or]; omega
      have g₁ : Gk B (σ ++ [O.dict []]) st lb mt ml ls := g.le Le.append
      have hx₁ : LeEx [st, ml] σ (σ ++ [O.dict []]) := Le.append.ex
      have hNl : σ.length ≤ σ.length := Nat.le_refl _
      have hN0' : 0 < σ.length := by obtain ⟨s, c, ms, e1, _⟩ := g.run; have := lt_of_get e1; omega
      generalize σ ++ [O.dict []] = σ₁ at hN0 g₁ hx₁ ⊢
      generalize hNe : σ.length = N at hN0 hNn hN0' ⊢
      generalize hK : V.tup [.str (Str.ofString "record"), .tup (fs.map pairV), r] = K
      refine Wp_forAll (J := fun τ => True) walks_vals tgtOk_vals (fun i loc τ => LeEx [st, ml] σ τ ∧ Gk B τ st lb mt ml ls ∧ (∃ o1 o2, loc = [some (.ref st), some K, some (.ref lb), some (.ref N), o1, o2, none, none, none, none, none, none]) ∧ ∃ ps, τ[N]? = some (.dict (tb ps)) ∧ Holds n (fs.take i) ps ∧ ps.map (·.1) = (fs.take i).map (·.1)) (fun _ _ _ _ => trivial) ⟨hx₁, g₁, ⟨_, _, rfl⟩, [], hN0, ⟨by simp, by simp, by simp⟩, rfl⟩ (fun i v loc τ hv hp => ?_) fun loc τ hp => ?_
      · obtain ⟨hx, gt, ⟨o1, o2, rfl⟩, ps, hN, hH, hkeys⟩ := hp
        obtain ⟨f, hf, rfl⟩ := map_at hv
        have hfm := List.mem_of_getElem? hf
        have htake : fs.take (i + 1) = fs.take i ++ [f] := by rw [List.take_add_one, hf]; rfl
        have hnew : ps.lookup f.1 = none := by
          rw [lookup_none, hkeys]
          have : ((fs.take (i + 1)).map (·.1)).Nodup := List.Nodup.sublist ((List.take_sublist ..).map _) hfn
          rw [htake, List.map_append, List.nodup_append] at this
          exact fun hm => this.2.2 _ hm _ (List.mem_singleton.mpr rfl) rfl
        have hpl : ps.length ≤ 4 := by
          have := congrArg List.length hkeys
          rw [List.length_map, List.length_map, List.length_take] at this
          omega
        rw [L_value_l1_step]
        refine Wp_bind.mpr ((ih d f.2 τ (by omega) (hfk f hfm) gt).mono fun x τ' h => ?_)
        obtain ⟨hx', gt', hw, hb⟩ := h
        have hN' := hx' _ _ hNn hN
        rw [Wp_bind, Wp_setD hN' hN0' (show keyOf (.str f.1) = some (.inr f.1) from rfl) (by rw [tb_len]; omega), tb_set, Wp_pure]
        refine .inl ⟨rfl, (hx.trans hx').setNew (by omega), gt'.dict hN', ⟨_, _, rfl⟩, sput ps f.1 x, set_get hN', ?_, ?_⟩
        · have hp := hH.put hw hnew
          refine ⟨hp.nd, hp.w, fun f' hf' => ?_⟩
          rw [htake] at hf'
          rcases List.mem_append.mp hf' with hf' | hf'
          · exact hp.ok f' hf'
          · rw [List.mem_singleton.mp hf']; exact ⟨x, sput_same, hb⟩
        · rw [sput_keys, if_neg (lookup_none.mp hnew), hkeys, htake, List.map_append]; rfl
      · obtain ⟨hx, gt, ⟨o1, o2, rfl⟩, ps, hN, hH, hkeys⟩ := hp
        rw [List.length_map, List.take_length] at hH hkeys
        have hpl : ps.length = fs.length := by have := congrArg List.length hkeys; rw [List.length_map, List.length_map] at this; exact this
        show Wp (L_value_a1 d _) _ _
        rw [L_value_a1_eq]
        subst hK
        simp only [Wp_bind, Wp_item2, Wp_notNone hr, Wp_truthB]
        cases hrb : isRest r with
        | false =>
          rw [if_neg (by decide)]
          refine (valueFin (n := n) (r := r) hN hH (by omega) (.inr hpl)).mono fun v σ' h => ?_
          exact ⟨hx.trans h.1.ex, gt.le h.1, h.2.1, h.2.2⟩
        | true =>
          rw [if_pos rfl]
          simp only [Wp_bind, Wp_newO]
          have hl1 : (τ ++ [O.list [V.str (Str.ofString "zzzzzzzz"), V.str (Str.ofString "a")]])[lb]? = some (.list (ls.map V.str)) := Le.append _ _ gt.lab
          rw [Wp_addRef hl1 (get_new (σ := τ)) (by rw [List.length_map, gt.four]; show (4 : Nat) + 2 ≤ sizeLine; omega)]
          have hle : Le τ (τ ++ [O.list [V.str (Str.ofString "zzzzzzzz"), V.str (Str.ofString "a")]] ++ [O.list (ls.map V.str ++ [V.str (Str.ofString "zzzzzzzz"), V.str (Str.ofString "a")])]) := Le.append.trans Le.append
          have hM := get_new (σ := τ ++ [O.list [V.str (Str.ofString "zzzzzzzz"), V.str (Str.ofString "a")]]) (o := .list (ls.map V.str ++ [V.str (Str.ofString "zzzzzzzz"), V.str (Str.ofString "a")]))
          rw [Wp_srcRef hM]
          have hms : ls.map V.str ++ [V.str (Str.ofString "zzzzzzzz"), V.str (Str.ofString "a")] = (ls ++ [Str.ofString "zzzzzzzz", Str.ofString "a"]).map V.str := by rw [List.map_append]; rfl
          rw [hms] at hM hle ⊢
          have hMn : (τ ++ [O.list [V.str (Str.ofString "zzzzzzzz"), V.str (Str.ofString "a")]]).length ∉ [st, ml] := by
            obtain ⟨s, c, ms, e1, e2, _⟩ := gt.run
            have := lt_of_get e1; have := lt_of_get e2
            simp only [List.mem_cons, List.not_mem_nil, or_false, not_or, List.length_append, List.length_singleton]; omega
          generalize (τ ++ [O.list [V.str (Str.ofString "zzzzzzzz"), V.str (Str.ofString "a")]]).length = M at hM hMn ⊢
          generalize τ ++ [O.list [V.str (Str.ofString "zzzzzzzz"), V.str (Str.ofString "a")]] ++ [O.list ((ls ++ [Str.ofString "zzzzzzzz", Str.ofString "a"]).map V.str)] = σ₂ at hM hle ⊢
          generalize hK : V.tup [.str (Str.ofString "record"), .tup (fs.map pairV), r] = K
          have hlen6 : (ls ++ [Str.ofString "zzzzzzzz", Str.ofString "a"]).length = 6 := by rw [List.length_append, gt.four]; rfl
          generalize ls ++ [Str.ofString "zzzzzzzz", Str.ofString "a"] = ms at hM hle hlen6 ⊢
          refine Wp_forAll (J := fun τ => τ[M]? = some (.list (ms.map V.str))) (walks_lst fun τ h => h) tgtOk_lst (fun i loc τ => τ[M]? = some (.list (ms.map V.str)) ∧ LeEx [st, ml] σ τ ∧ Gk B τ st lb mt ml ls ∧ (∃ o1 o2, loc = [some (.ref st), some K, some (.ref lb), some (.ref N), o1, o2, none, none, none, none, none, none]) ∧ ∃ ps, τ[N]? = some (.dict (tb ps)) ∧ Holds n fs ps ∧ ps.length ≤ fs.length + i) (fun _ _ _ h => h.1) ⟨hM, hx.trans hle.ex, gt.le hle, ⟨_, _, rfl⟩, ps, hle _ _ hN, hH, by omega⟩ (fun i v loc τ hv hp => ?_) fun loc τ hp => ?_
          · obtain ⟨hMt, hxt, gt, ⟨o1, o2, rfl⟩, ps, hN, hH, hlen⟩ := hp
            have hi := lt_of_get hv
            rw [List.length_map] at hi
            rw [List.getElem?_map] at hv
            obtain ⟨s, hs, rfl⟩ := Option.map_eq_some_iff.mp hv
            rw [L_value_l2_step]
            simp only [Wp_bind, Wp_notInD hN (show keyOf (.str s) = some (.inr s) from rfl), tb_get, Wp_truthB]
            cases hlk : ps.lookup s with
            | some x =>
              simp only [Option.isSome_some, Bool.not_true, cond_false]
              rw [Wp_pure]
              exact .inl ⟨rfl, hMt, hxt, gt, ⟨_, _, rfl⟩, ps, hN, hH, by omega⟩
            | none =>
              simp only [Option.isSome_none, Bool.not_false, cond_true]
              obtain ⟨e, rfl⟩ : ∃ e, d = e + 1 := ⟨d - 1, by omega⟩
              refine Wp_bind.mpr ((next_ex gt).mono fun z τ₁ h => ?_)
              obtain ⟨z, _, _, rfl, _, _, hx₁, _, gt₁, _⟩ := h
              have hx₁ : LeEx [st, ml] τ τ₁ := hx₁.mono fun n hn => by rw [List.mem_singleton.mp hn]; exact List.mem_cons_self ..
              simp only [Wp_bind, Wp_mod (b := 2) (by decide) (by decide), eq_ints, Wp_truthB]
              cases hb : (z % 2 == 0) with
              | false =>
                rw [cond_false, Wp_pure]
                exact .inl ⟨rfl, hx₁ _ _ hMn hMt, hxt.trans hx₁, gt₁, ⟨_, _, rfl⟩, ps, hx₁ _ _ hNn hN, hH, by omega⟩
              | true =>
                rw [cond_true]
                refine Wp_bind.mpr ((any_ok 1 (e + 1) τ₁ (by omega) gt₁).mono fun x τ₂ h => ?_)
                obtain ⟨hx₂, gt₂, hw⟩ := h
                have hN₂ := hx₂ _ _ hNn (hx₁ _ _ hNn hN)
                have hM₂ := hx₂ _ _ hMn (hx₁ _ _ hMn hMt)
                rw [Wp_bind, Wp_setD hN₂ hN0' (show keyOf (.str s) = some (.inr s) from rfl) (by rw [tb_len]; omega), tb_set, Wp_pure]
                refine .inl ⟨rfl, ?_, ((hxt.trans hx₁).trans hx₂).setNew (by omega), gt₂.dict hN₂, ⟨_, _, rfl⟩, _, set_get hN₂, hH.put (hw.mono (by omega)) hlk, ?_⟩
                · rw [List.getElem?_set_ne (fun eq => by rw [eq, hM₂] at hN₂; cases hN₂)]; exact hM₂
                · have := sput_len ps s x; omega
          · obtain ⟨hMt, hxt, gt, ⟨o1, o2, rfl⟩, ps, hN, hH, hlen⟩ := hp
            rw [List.length_map] at hlen
            show Wp (L_value_a2 d _) _ _
            rw [L_value_a2_eq]
            subst hK
            refine (valueFin (n := n) (r := r) hN hH (by omega) (.inl hrb)).mono fun v σ' h => ?_
            exact ⟨hxt.trans h.1.ex, gt.le h.1, h.2.1, h.2.2⟩
end
end Mine

namespace Mine
open PySem PyProof.Rows
section
variable {σ σ' : Store} {lb : Nat} {ls : List Str}

mutual
theorem isW_data {b : Nat} (f : Nat → Option PyData) : ∀ {m : Nat} {v : V}, IsW b m v → ∃ d, toPyT f v = some d
  | _, _, .num i => ⟨.int i, rfl⟩
  | _, _, .rcd fs _ _ h => by
    obtain ⟨ds, hd⟩ := isWs_data f fs fun p hp => isW_data f (h p hp)
    exact ⟨.tuple ds, by show (toPyTs f _).map PyData.tuple = _; rw [hd]; rfl⟩
theorem isWs_data (f : Nat → Option PyData) : ∀ (fs : List (Str × V)), (∀ p ∈ fs, ∃ d, toPyT f p.2 = some d) → ∃ ds, toPyTs f (fs.map pairV) = some ds
  | [], _ => ⟨[], rfl⟩
  | p :: r, h => by
    obtain ⟨d, hd⟩ := h p (List.mem_cons_self ..)
    obtain ⟨ds, hds⟩ := isWs_data f r fun q hq => h q (List.mem_cons_of_mem _ hq)
    have e : toPyT f (pairV p) = some (.tuple [.str p.1, d]) := by
      show (toPyTs f [.str p.1, p.2]).map PyData.tuple = _
      have : toPyTs f [.str p.1, p.2] = (match toPyT f (.str p.1), toPyTs f [p.2] with | some d, some ds => some (d :: ds) | _, _ => none) := rfl
      have h2 : toPyTs f [p.2] = (match toPyT f p.2, toPyTs f [] with | some d, some ds => some (d :: ds) | _, _ => none) := rfl
      rw [this, h2, hd]; rfl
    refine ⟨.tuple [.str p.1, d] :: ds, ?_⟩
    show (match toPyT f (pairV p), toPyTs f (r.map pairV) with | some d, some ds => some (d :: ds) | _, _ => none) = _
    rw [e, hds]
end
theorem eq_unit {b m : Nat} {v : V} {Q : V → Store → Prop} (h : IsW b m v) (q : ∀ c, (v = .tup [] → c = true) → Q (.bool c) σ) : Wp (cmp .Eq v (.tup [])) σ Q := by
  obtain ⟨d, hd⟩ := isW_data (toPyF σ 4) h
  have e : veq σ v (.tup []) = some (PyData.eqv d (.tuple [])) := by
    unfold veq toPy
    rw [hd]
    show (if min d.depth (PyData.tuple []).depth ≤ 200 then some (PyData.eqv d (.tuple [])) else none) = _
    rw [if_pos]
    exact Nat.le_trans (Nat.min_le_right _ _) (show 1 ≤ 200 by decide)
  refine ⟨.bool (PyData.eqv d (.tuple [])), σ, ?_, q _ fun ev => ?_⟩
  · show askS (fun σ => (veq σ v (.tup [])).map V.bool) σ = _
    unfold askS; dsimp only; rw [e]; rfl
  · subst ev
    cases hd; rfl
theorem ne_str {Q : V → Store → Prop} {a b : Str} : Wp (cmp .NotEq (.str a) (.str b)) σ Q ↔ Q (.bool (!(a == b))) σ := Wp_ok rfl
theorem cut_to {α : Type} {l : List α} {k : Int} (h0 : 0 ≤ k) (h1 : k ≤ l.length) : cut l none (some k) = l.take k.toNat := by
  unfold cut
  have e : clipAt l.length k = k.toNat := by unfold clipAt; rw [if_neg (by omega)]; omega
  show (l.drop 0).take (clipAt l.length k - 0) = _
  rw [e]; rfl
theorem cut_from {α : Type} {l : List α} {k : Int} (h0 : 0 ≤ k) (h1 : k ≤ l.length) : cut l (some k) none = l.drop k.toNat := by
  unfold cut
  have e : clipAt l.length k = k.toNat := by unfold clipAt; rw [if_neg (by omega)]; omega
  show (l.drop (clipAt l.length k)).take (l.length - clipAt l.length k) = _
  rw [e]
  exact List.take_of_length_le (by rw [List.length_drop]; exact Nat.le_refl _)

/-- the odd values -/
theorem odd_ok {z : Int} (hl : σ[lb]? = some (.list (ls.map V.str))) (h4 : ls.length = 4) (hz : 0 ≤ z) :
    Wp (item (.ref lb) (V.int 0) >>= fun t287 => (newO (.list [(V.int 3), (V.tup []), (V.tup [(V.tup [(V.str (Str.ofString "zzzzzzzz")), (V.int 5)])]), (V.tup [(V.tup [t287, (V.int 0)])]), (V.int (-7))]) >>= fun t288 => (binop .FloorDiv (.int z) (V.int 5) >>= fun t289 => (binop .Mod t289 (V.int 5) >>= fun t290 => (item t288 t290 >>= fun t291 => (pure t291 : M V)))))) σ (fun r σ' => Le σ σ' ∧ IsW 20 1 r) := by
  have hx : (ls.map V.str)[(0 : Int).toNat]? = some (V.str (ls[0]'(by omega))) := by
    rw [List.getElem?_map, List.getElem?_eq_getElem (show (0 : Int).toNat < ls.length by show 0 < ls.length; omega)]; rfl
  simp only [Wp_bind, Wp_itemRef hl (show (0 : Int) ≤ 0 by decide) hx, Wp_newO, Wp_div (b := 5) (by decide) (by decide), Wp_mod (b := 5) (by decide) (by decide)]
  generalize ls[0]'(by omega) = l0
  have h2 : (z / 5 % 5).toNat < 5 := by omega
  have key : ∃ r, ([V.int 3, V.tup [], V.tup [V.tup [V.str (Str.ofString "zzzzzzzz"), V.int 5]], V.tup [V.tup [V.str l0, V.int 0]], V.int (-7)])[(z / 5 % 5).toNat]? = some r ∧ IsW 20 1 r := by
    have one : ∀ (s : Str) (i : Int), IsW 20 1 (.tup [.tup [.str s, .int i]]) := fun s i => .rcd [(s, .int i)] (by simp) (by simp) fun p hp => by rw [List.mem_singleton.mp hp]; exact .num i
    generalize (z / 5 % 5).toNat = j at h2
    rcases j with _ | _ | _ | _ | _ | j
    · exact ⟨_, rfl, .num _⟩
    · exact ⟨_, rfl, .rcd [] (by simp) (by simp) (by simp)⟩
    · exact ⟨_, rfl, one _ _⟩
    · exact ⟨_, rfl, one _ _⟩
    · exact ⟨_, rfl, .num _⟩
    · omega
  obtain ⟨r, hr, hw⟩ := key
  rw [Wp_itemRef get_new (by omega) hr, Wp_pure]
  exact ⟨Le.append, hw⟩
end
end Mine

namespace Mine
open PySem PyProof.Rows
section
variable {σ σ' : Store} {lb : Nat} {ls : List Str}

/-- a dict's pairs, as a tuple -/
theorem tupledB_ok {d N : Nat} {ps : List (Str × V)} {v1 v2 v3 v4 v5 : V} (hN : σ[N]? = some (.dict (tb ps))) (hn : (ps.map (·.1)).Nodup) (hl : ps.length ≤ 60) : Wp (bList (.ref N) >>= fun t240 => (bSorted t240 >>= fun t241 => (srcV t241 >>= fun s242 => (compAll (cf05 d) (cElt L_bent_c2) (cTgt L_bent_c2) (cIfs L_bent_c2) (cScope L_bent_c2) s242 L_bent_F.names [some v1, some v2, some v3, some v4, some v5, some (.ref N), none, none, none, none, none, none, none, none, none] >>= fun t239 => (bTuple t239 >>= fun t243 => (pure t243 : M V)))))) σ (fun r σ' => Le σ σ' ∧ r = .tup ((resort ps).map pairV)) := by
  have hsl : (16777216 : Nat) = sizeLine := rfl
  simp only [Wp_bind, Wp_listD hN, tb_keys]
  have h1 := get_new (σ := σ) (o := .list ((ps.map (·.1)).map V.str))
  rw [Wp_sorted h1 (strs_all _) (by rw [List.length_map]; omega)]
  have hle : Le σ (σ ++ [O.list ((ps.map (·.1)).map V.str)] ++ [O.list ((sortS (ps.map (·.1))).map V.str)]) := Le.append.trans Le.append
  have h2 := get_new (σ := σ ++ [O.list ((ps.map (·.1)).map V.str)]) (o := .list ((sortS (ps.map (·.1))).map V.str))
  rw [Wp_srcRef h2]
  generalize (σ ++ [O.list ((ps.map (·.1)).map V.str)]).length = S at h2 ⊢
  generalize σ ++ [O.list ((ps.map (·.1)).map V.str)] ++ [O.list ((sortS (ps.map (·.1))).map V.str)] = σ₁ at h2 hle ⊢
  have hN' := hle _ _ hN
  have hfm : ((sortS (ps.map (·.1))).map V.str).filterMap (fun v => match v with | .str l => some (pairV (l, (ps.lookup l).getD .none)) | _ => none) = (resort ps).map pairV := by
    unfold resort
    generalize sortS (ps.map (·.1)) = q
    rw [List.filterMap_map, List.map_map, ← List.filterMap_eq_map]; rfl
  refine Wp_compPure (walks_lst fun τ' e => by rw [e]; exact h2) tgtOk_lst L_bent_c2_ok (L_bent_c2_in ..) (fun loc => ∃ o, loc = [none, o, some (.ref N)]) ⟨_, rfl⟩ (fun v => match v with | .str l => some (pairV (l, (ps.lookup l).getD .none)) | _ => none) (fun v loc hv hS => ?_) ?_ ?_
  · obtain ⟨o, rfl⟩ := hS
    obtain ⟨l, hl', rfl⟩ := List.mem_map.mp hv
    obtain ⟨x, hx⟩ := lookup_some (sortS_perm.mem_iff.mp hl')
    rw [L_bent_c2_bind, Wp_pure]
    refine ⟨rfl, ⟨_, rfl⟩, ?_⟩
    rw [L_bent_c2_tst, Wp_pure]
    refine ⟨rfl, ?_⟩
    rw [if_pos rfl, L_bent_c2_elt, Wp_bind, Wp_itemD hN' (show keyOf (.str l) = some (.inr l) from rfl) ((tb_get ps l).trans hx), Wp_pure]
    exact ⟨rfl, by show some (pairV (l, (ps.lookup l).getD .none)) = _; rw [hx]; rfl⟩
  · rw [hfm, List.length_map, resort_len]; omega
  · rw [hfm, Wp_tupleRef (get_new (σ := σ₁) (o := .list ((resort ps).map pairV))), Wp_pure]
    exact ⟨hle.trans Le.append, rfl⟩


theorem filterMap_keep (q : Str → Bool) : ∀ ps : List (Str × V), (ps.map pairV).filterMap (fun v => match v with | .tup (.str l :: _) => if q l = true then some v else none | _ => none) = (ps.filter fun p => q p.1).map pairV
  | [] => rfl
  | p :: r => by
    rw [List.map_cons, List.filterMap_cons, List.filter_cons]
    cases h : q p.1 with
    | true =>
      have e : (match pairV p with | .tup (.str l :: _) => if q l = true then some (pairV p) else none | _ => none : Option V) = some (pairV p) := by show (if q p.1 = true then some (pairV p) else none) = _; rw [h]; rfl
      rw [e]
      show pairV p :: _ = _
      rw [filterMap_keep q r]; rfl
    | false =>
      have e : (match pairV p with | .tup (.str l :: _) => if q l = true then some (pairV p) else none | _ => none : Option V) = none := by show (if q p.1 = true then some (pairV p) else none) = _; rw [h]; rfl
      rw [e]
      exact filterMap_keep q r

theorem rec_of {m : Nat} {ps qs : List (Str × V)} (hn : (ps.map (·.1)).Nodup) (hl : ps.length ≤ 21) (hw : ∀ p ∈ ps, IsW 21 m p.2) : IsW 21 (m + 1) (.tup ((resort ps).map pairV)) :=
  .rcd _ (resort_nodup hn) (by rw [resort_len]; exact hl) fun p hp => hw _ (lookup_mem (resort_mem hp))

/-- a dict of a list of pairs, in order -/
theorem bent3_ok {d m R : Nat} {ps : List (Str × V)} {v1 v2 v3 v4 : V} (hR : σ[R]? = some (.list (ps.map pairV))) (hn : (ps.map (·.1)).Nodup) (hl : ps.length ≤ 21) (hw : ∀ p ∈ ps, IsW 21 m p.2) : Wp (L_bent_t3 d v1 v2 v3 v4 (.ref R)) σ (fun r σ' => Le σ σ' ∧ IsW 21 (m + 1) r) := by
  unfold L_bent_t3
  rw [Wp_bind, Wp_dictRef hR (pairs_of ps), merge_tb hn]
  refine (tupledB_ok (get_new (σ := σ)) hn (by omega)).mono fun r σ' h => ?_
  obtain ⟨h1, rfl⟩ := h
  exact ⟨Le.append.trans h1, rec_of (qs := []) hn hl hw⟩

/-- a field more, or one less -/
theorem fields_ok {d m : Nat} {z : Int} {ps : List (Str × V)} (hl : σ[lb]? = some (.list (ls.map V.str))) (h4 : ls.length = 4) (hz : 0 ≤ z) (hn : (ps.map (·.1)).Nodup) (hpl : ps.length ≤ 20) (hw : ∀ p ∈ ps, IsW 20 m p.2) :
    Wp (newO (.list [(V.str (Str.ofString "zzzzzzzz")), (V.str (Str.ofString "a"))]) >>= fun t227 => (binop .Add (.ref lb) t227 >>= fun t228 => (binop .FloorDiv (.int z) (V.int 5) >>= fun t229 => (binop .Mod t229 (V.int 6) >>= fun t230 => (item t228 t230 >>= fun t231 => (srcV (.tup (ps.map pairV)) >>= fun s236 => (compAll (cf05 d) (cElt L_bent_c1) (cTgt L_bent_c1) (cIfs L_bent_c1) (cScope L_bent_c1) s236 L_bent_F.names [some (.tup (ps.map pairV)), some (.int z), some (.ref lb), some t231, none, none, none, none, none, none, none, none, none, none, none] >>= fun t235 => (bLen t235 >>= fun t244 => (bLen (.tup (ps.map pairV)) >>= fun t245 => (cmp .Eq t244 t245 >>= fun t246 => (truth t246 >>= fun b247 => (if b247 = true then (binop .FloorDiv (.int z) (V.int 30) >>= fun t248 => (binop .Mod t248 (V.int 3) >>= fun t249 => (newO (.list [(V.tup [t231, t249])]) >>= fun t250 => (binop .Add t235 t250 >>= fun t251 => (L_bent_t3 d (.tup (ps.map pairV)) (.int z) (.ref lb) t231 t251))))) else (L_bent_t3 d (.tup (ps.map pairV)) (.int z) (.ref lb) t231 t235))))))))))))) σ (fun r σ' => Le σ σ' ∧ IsW 21 (m + 1) r) := by
  have hsl : (16777216 : Nat) = sizeLine := rfl
  have hw' : ∀ p ∈ ps, IsW 21 m p.2 := fun p hp => (hw p hp).mono (Nat.le_refl _)
  rw [Wp_bind, Wp_newO, Wp_bind]
  have hl1 : (σ ++ [O.list [V.str (Str.ofString "zzzzzzzz"), V.str (Str.ofString "a")]])[lb]? = some (.list (ls.map V.str)) := Le.append _ _ hl
  rw [Wp_addRef hl1 (get_new (σ := σ)) (by rw [List.length_map, h4]; show (4 : Nat) + 2 ≤ sizeLine; omega)]
  have hms : ls.map V.str ++ [V.str (Str.ofString "zzzzzzzz"), V.str (Str.ofString "a")] = (ls ++ [Str.ofString "zzzzzzzz", Str.ofString "a"]).map V.str := by rw [List.map_append]; rfl
  rw [hms]
  have hlen6 : (ls ++ [Str.ofString "zzzzzzzz", Str.ofString "a"]).length = 6 := by rw [List.length_append, h4]; rfl
  have hle : Le σ (σ ++ [O.list [V.str (Str.ofString "zzzzzzzz"), V.str (Str.ofString "a")]] ++ [O.list ((ls ++ [Str.ofString "zzzzzzzz", Str.ofString "a"]).map V.str)]) := Le.append.trans Le.append
  have hM := get_new (σ := σ ++ [O.list [V.str (Str.ofString "zzzzzzzz"), V.str (Str.ofString "a")]]) (o := .list ((ls ++ [Str.ofString "zzzzzzzz", Str.ofString "a"]).map V.str))
  generalize (σ ++ [O.list [V.str (Str.ofString "zzzzzzzz"), V.str (Str.ofString "a")]]).length = M at hM ⊢
  generalize σ ++ [O.list [V.str (Str.ofString "zzzzzzzz"), V.str (Str.ofString "a")]] ++ [O.list ((ls ++ [Str.ofString "zzzzzzzz", Str.ofString "a"]).map V.str)] = σ₁ at hM hle ⊢
  generalize ls ++ [Str.ofString "zzzzzzzz", Str.ofString "a"] = ms at hM hlen6
  obtain ⟨wd, hwd⟩ : ∃ s, (ms.map V.str)[(z / 5 % 6).toNat]? = some (V.str s) := by
    have : (z / 5 % 6).toNat < ms.length := by omega
    exact ⟨ms[(z / 5 % 6).toNat], by rw [List.getElem?_map, List.getElem?_eq_getElem this]; rfl⟩
  rw [Wp_bind, Wp_div (b := 5) (by decide) (by decide), Wp_bind, Wp_mod (b := 6) (by decide) (by decide), Wp_bind, Wp_itemRef hM (by omega) hwd, Wp_bind, Wp_srcTup, Wp_bind]
  refine Wp_compPure (σ := σ₁) walks_vals tgtOk_vals L_bent_c1_ok (L_bent_c1_in ..) (fun loc => ∃ o, loc = [none, o, some (.str wd)]) ⟨_, rfl⟩ (fun v => match v with | .tup (.str l :: _) => if (!(l == wd)) = true then some v else none | _ => none) (fun v loc hv hS => ?_) ?_ ?_
  · obtain ⟨o, rfl⟩ := hS
    obtain ⟨p, hp, rfl⟩ := List.mem_map.mp hv
    rw [L_bent_c1_bind, Wp_pure]
    refine ⟨rfl, ⟨_, rfl⟩, ?_⟩
    rw [L_bent_c1_tst]
    unfold pairV
    simp only [Wp_bind, Wp_item0, ne_str, Wp_truthB, Wp_pure]
    refine ⟨trivial, ?_⟩
    split
    · rename_i hc
      rw [L_bent_c1_elt, Wp_pure]
      exact ⟨rfl, rfl⟩
    · rfl
  · rw [filterMap_keep, List.length_map]
    exact Nat.le_trans (List.length_filter_le ..) (by omega)
  · rw [filterMap_keep fun l => !(l == wd)]
    have hqn : ((ps.filter fun p => !(p.1 == wd)).map (·.1)).Nodup := List.Nodup.sublist (List.filter_sublist.map _) hn
    have hql : (ps.filter fun p => !(p.1 == wd)).length ≤ 20 := Nat.le_trans (List.length_filter_le ..) hpl
    have hqw : ∀ p ∈ ps.filter fun p => !(p.1 == wd), IsW 21 m p.2 := fun p hp => hw' p (List.mem_filter.mp hp).1
    have hqk : wd ∉ (ps.filter fun p => !(p.1 == wd)).map (·.1) := fun hm => by
      obtain ⟨p, hp, rfl⟩ := List.mem_map.mp hm
      have := (List.mem_filter.mp hp).2
      simp at this
    generalize (ps.filter fun p => !(p.1 == wd)) = qs at hqn hql hqw hqk ⊢
    have hQ := get_new (σ := σ₁) (o := .list (qs.map pairV))
    have hle' : Le σ (σ₁ ++ [O.list (qs.map pairV)]) := hle.trans Le.append
    generalize σ₁.length = R at hQ ⊢
    generalize σ₁ ++ [O.list (qs.map pairV)] = σ₂ at hQ hle' ⊢
    rw [Wp_bind, Wp_lenRef hQ, Wp_bind, Wp_lenTup, Wp_bind, eq_ints, Wp_bind, Wp_truthB]
    split
    · rw [Wp_bind, Wp_div (b := 30) (by decide) (by decide), Wp_bind, Wp_mod (b := 3) (by decide) (by decide), Wp_bind, Wp_newO, Wp_bind]
      rw [Wp_addRef (Le.append _ _ hQ) (get_new (σ := σ₂)) (by rw [List.length_map]; show _ + 1 ≤ sizeLine; omega)]
      have hms : qs.map pairV ++ [V.tup [.str wd, .int (z / 30 % 3)]] = (qs ++ [(wd, V.int (z / 30 % 3))]).map pairV := by rw [List.map_append]; rfl
      rw [hms]
      refine (bent3_ok (m := m) (get_new (σ := σ₂ ++ [O.list [V.tup [.str wd, .int (z / 30 % 3)]]])) ?_ (by rw [List.length_append]; show _ + 1 ≤ 21; omega) fun p hp => ?_).mono fun r σ' h => ⟨(hle'.trans (Le.append.trans Le.append)).trans h.1, h.2⟩
      · rw [List.map_append, List.nodup_append]
        exact ⟨hqn, by simp, fun a ha b hb e => hqk (by have hb : b = wd := List.mem_singleton.mp hb; rw [← hb, ← e]; exact ha)⟩
      · rcases List.mem_append.mp hp with hp | hp
        · exact hqw p hp
        · rw [List.mem_singleton.mp hp]; exact .num _
    · exact (bent3_ok (m := m) hQ hqn (by omega) hqw).mono fun r σ' h => ⟨hle'.trans h.1, h.2⟩

theorem bent_ok : ∀ (m d : Nat) (z : Int) (v : V) (σ : Store), m + 2 ≤ d → IsW 20 m v → 0 ≤ z → σ[lb]? = some (.list (ls.map V.str)) → ls.length = 4 → Wp (cl05 d "_law_bent" [v, .int z, .ref lb]) σ (fun r σ' => Le σ σ' ∧ IsW 21 (m + 1) r) := by
  intro m
  induction m with
  | zero =>
    intro d z v σ hd hv hz hl h4
    obtain ⟨d, rfl⟩ : ∃ e, d = e + 1 := ⟨d - 1, by omega⟩
    rw [L_bent_sh]
    cases hv with
    | num i =>
      rw [Wp_bind, Wp_kdInt, Wp_bind, Wp_truthB]
      exact (odd_ok hl h4 hz).mono fun r σ' h => ⟨h.1, h.2.mono (by omega)⟩
  | succ m ih =>
    intro d z v σ hd hv hz hl h4
    obtain ⟨d, rfl⟩ : ∃ e, d = e + 1 := ⟨d - 1, by omega⟩
    rw [L_bent_sh]
    have hv0 := hv
    cases hv with
    | num i =>
      rw [Wp_bind, Wp_kdInt, Wp_bind, Wp_truthB]
      exact (odd_ok hl h4 hz).mono fun r σ' h => ⟨h.1, h.2.mono (by omega)⟩
    | rcd ps hn hpl hw =>
      have hsl : (16777216 : Nat) = sizeLine := rfl
      rw [Wp_bind, Wp_kd, Wp_bind, Wp_truthB]
      show Wp (binop .Mod (.int z) (V.int 5) >>= _) σ _
      rw [Wp_bind, Wp_mod (b := 5) (by decide) (by decide), Wp_bind, eq_ints, Wp_bind, Wp_truthB]
      cases hb : (z % 5 == 0) with
      | true =>
        rw [cond_true]
        exact (odd_ok hl h4 hz).mono fun r σ' h => ⟨h.1, h.2.mono (by omega)⟩
      | false =>
        rw [cond_false]
        unfold L_bent_t1
        refine Wp_bind.mpr (eq_unit hv0 fun c hc => ?_)
        rw [Wp_bind, Wp_truthB]
        have hF := fields_ok (d := d) (m := m) hl h4 hz hn hpl hw
        cases c with
        | true => exact hF.mono fun r σ' h => ⟨h.1, h.2.mono (by omega)⟩
        | false =>
          rw [cond_false, Wp_bind, Wp_mod (b := 5) (by decide) (by decide), Wp_bind, eq_ints, Wp_bind, Wp_truthB]
          cases hb1 : (z % 5 == 1) with
          | true => exact hF.mono fun r σ' h => ⟨h.1, h.2.mono (by omega)⟩
          | false =>
            rw [cond_false]
            have hne : 0 < ps.length := by
              cases ps with
              | nil => exact absurd (hc rfl) (by decide)
              | cons _ _ => exact Nat.succ_pos _
            unfold L_bent_t2
            have hat : 0 ≤ z / 5 % (ps.length : Int) ∧ z / 5 % (ps.length : Int) < ps.length := ⟨Int.emod_nonneg _ (by omega), Int.emod_lt_of_pos _ (by omega)⟩
            rw [Wp_bind, Wp_div (b := 5) (by decide) (by decide), Wp_bind, Wp_lenTup, List.length_map, Wp_bind, Wp_mod (b := (ps.length : Int)) (by omega) (by omega)]
            generalize z / 5 % (ps.length : Int) = at' at hat ⊢
            obtain ⟨j, rfl⟩ := Int.eq_ofNat_of_zero_le hat.1
            have hj : j < ps.length := by omega
            have hx : (ps.map pairV)[((j : Nat) : Int).toNat]? = some (pairV ps[j]) := by
              rw [List.getElem?_map, Int.toNat_natCast, List.getElem?_eq_getElem hj]; rfl
            rw [Wp_bind, Wp_itemTup (by omega) hx, Wp_bind]
            unfold pairV at *
            rw [Wp_item1, Wp_bind, Wp_div (b := 20) (by decide) (by decide), Wp_bind]
            refine (ih d (z / 20) ps[j].2 σ (by omega) (hw _ (List.getElem_mem hj)) (by omega) hl h4).mono fun r σ' h => ?_
            obtain ⟨hle, hr⟩ := h
            have hlm : (ps.map fun p => V.tup [.str p.1, p.2]).length = ps.length := List.length_map ..
            simp only [Wp_bind, Wp_boundNone, Wp_boundInt, Wp_sliceTup, Wp_itemTup (show (0 : Int) ≤ ((j : Nat) : Int) by omega) hx, Wp_item0]
            rw [cut_to (by omega) (by rw [hlm]; omega), Int.toNat_natCast, Wp_addTup (by rw [List.length_take, hlm]; show _ + 1 ≤ sizeLine; omega), Wp_add, Wp_boundInt, cut_from (by omega) (by rw [hlm]; omega),
              show ((j : Int) + 1).toNat = j + 1 by omega, Wp_addTup (by rw [List.length_append, List.length_take, List.length_drop, hlm]; show _ + 1 + _ ≤ sizeLine; omega), Wp_pure]
            have e : List.take j (ps.map fun p => V.tup [.str p.1, p.2]) ++ [V.tup [.str ps[j].1, r]] ++ List.drop (j + 1) (ps.map fun p => V.tup [.str p.1, p.2]) = (ps.take j ++ [(ps[j].1, r)] ++ ps.drop (j + 1)).map fun p => V.tup [.str p.1, p.2] := by
              rw [List.map_append, List.map_append, List.map_take, List.map_drop]; rfl
            rw [e]
            have hkeys : (ps.take j ++ [(ps[j].1, r)] ++ ps.drop (j + 1)).map (·.1) = ps.map (·.1) := by
              have h1 : ps.map (·.1) = (ps.take j ++ [ps[j]] ++ ps.drop (j + 1)).map (·.1) := by
                congr 1
                rw [List.append_assoc]
                show ps = ps.take j ++ (ps[j] :: ps.drop (j + 1))
                rw [← List.drop_eq_getElem_cons hj, List.take_append_drop]
              rw [h1, List.map_append, List.map_append, List.map_append, List.map_append]; rfl
            refine ⟨hle, .rcd (ps.take j ++ [(ps[j].1, r)] ++ ps.drop (j + 1)) (by rw [hkeys]; exact hn) ?_ fun p hp => ?_⟩
            · have := congrArg List.length hkeys
              rw [List.length_map, List.length_map] at this
              omega
            · rcases List.mem_append.mp hp with hp | hp
              · rcases List.mem_append.mp hp with hp | hp
                · exact (hw p (List.mem_of_mem_take hp)).mono (by omega)
                · rw [List.mem_singleton.mp hp]; exact hr
              · exact (hw p (List.mem_of_mem_drop hp)).mono (by omega)
end
end Mine

namespace Mine
open PySem PyProof.Rows
section
variable {σ σ' : Store}

theorem ne_bools {Q : V → Store → Prop} {b : Bool} : Wp (cmp .NotEq (.bool b) (.bool b)) σ Q ↔ Q (.bool false) σ := Wp_ok (by cases b <;> rfl)
theorem eq_bools {Q : V → Store → Prop} {b : Bool} : Wp (cmp .Eq (.bool b) (.bool b)) σ Q ↔ Q (.bool true) σ := Wp_ok (by cases b <;> rfl)
theorem Wp_kdBool {Q : V → Store → Prop} {b : Bool} : Wp (isKd .bool (.bool b)) σ Q ↔ Q (.bool true) σ := Wp_ok rfl

/-- the end: the value is asked of three kinds, and of two more -/
theorem asked_ok {d n bw m : Nat} {k v v1 v2 v3 v4 v5 : V} (hd : n + 3 ≤ d) (hk : IsK (n + 1) k) (hv : IsW bw m v) : Wp (L_law_t2 d v1 v2 v3 v4 k v v5) σ (fun r _ => r = .bool true) := by
  unfold L_law_t2
  simp only [Wp_bind, Wp_newO]
  have hM := get_new (σ := σ) (o := .list [k, V.tup [V.str (Str.ofString "number")], k])
  rw [Wp_srcRef hM]
  generalize σ ++ [O.list [k, V.tup [V.str (Str.ofString "number")], k]] = σ₁ at hM ⊢
  generalize σ.length = M at hM ⊢
  refine Wp_forAll (J := fun τ => τ[M]? = some (.list [k, V.tup [V.str (Str.ofString "number")], k])) (walks_lst fun τ h => h) tgtOk_lst (fun i loc τ => τ[M]? = some (.list [k, V.tup [V.str (Str.ofString "number")], k]) ∧ ∃ o1 o2, loc = [some v1, some v2, some v3, some v4, some k, some v, some v5, o1, o2, none, none, none, none, none, none, none, none, none, none]) (fun _ _ _ h => h.1) ⟨hM, _, _, rfl⟩ (fun i u loc τ hu hp => ?_) fun loc τ hp => ?_
  · obtain ⟨hMt, o1, o2, rfl⟩ := hp
    have hu' : IsK (n + 1) u := by
      have := List.mem_of_getElem? hu
      rcases List.mem_cons.mp this with rfl | this
      · exact hk
      · rcases List.mem_cons.mp this with rfl | this
        · exact .num
        · rw [List.mem_singleton.mp this]; exact hk
    rw [L_law_l1_step]
    refine Wp_bind.mpr ((isOf_ok (n + 1) u v bw m d τ hu' hv (by omega)).mono fun r τ₁ h => ?_)
    obtain ⟨hle, rfl⟩ := h
    rw [Wp_bind, Wp_kdBool, Wp_bind, Wp_truthB]
    show Wp (cl05 d "_law_due" [v, u] >>= _) τ₁ _
    refine Wp_bind.mpr ((due_ok (n + 1) u v bw m d τ₁ hu' hv (by omega)).mono fun r τ₂ h => ?_)
    obtain ⟨hle', rfl⟩ := h
    rw [Wp_bind, ne_bools, Wp_bind, Wp_truthB]
    show Wp (pure _) τ₂ _
    rw [Wp_pure]
    exact .inl ⟨rfl, hle' _ _ (hle _ _ hMt), _, _, rfl⟩
  · obtain ⟨hMt, o1, o2, rfl⟩ := hp
    show Wp (L_law_a1 d _) _ _
    rw [L_law_a1_eq]
    refine Wp_bind.mpr ((isOf_ok (n + 1) _ v bw m d τ (.blank 3) hv (by omega)).mono fun r τ₁ h => ?_)
    obtain ⟨hle, rfl⟩ := h
    rw [show isOfB (n + 1) v (V.tup [V.str (Str.ofString "blank"), V.int 3]) = true from rfl, Wp_bind, Wp_isTrue, Wp_bind, Wp_truthB, cond_true]
    have hrec : IsK (n + 1) (.tup [.str (Str.ofString "record"), .tup (([] : List (Str × V)).map pairV), .int 0]) := .rcd [] _ (by simp) (by simp) (by simp) (.inr ⟨0, rfl⟩)
    refine Wp_bind.mpr ((isOf_ok (n + 1) _ v bw m d τ₁ hrec hv (by omega)).mono fun r τ₂ h => ?_)
    obtain ⟨hle', rfl⟩ := h
    cases hv with
    | num i =>
      rw [Wp_bind, Wp_kdInt, Wp_bind]
      show Wp (cmp .Eq (.bool false) (.bool false)) _ _
      rw [eq_bools, Wp_pure]
    | rcd fs hn _ _ =>
      rw [Wp_bind, Wp_kd, Wp_bind]
      show Wp (cmp .Eq (.bool true) (.bool true)) _ _
      rw [eq_bools, Wp_pure]

theorem law05_wp (zs : List Int) : Wp (cl05 40 "law" [.ref 0]) [.list (zs.map .int)] (fun r _ => r = .bool true) := by
  rw [L_law_sh]
  generalize hσ : [O.list (zs.map V.int)] = σ
  have h0 : σ[0]? = some (.list (zs.map .int)) := by rw [← hσ]; rfl
  have hlen : σ.length = 1 := by rw [← hσ]; rfl
  refine Wp_bind.mpr ((cell_ok h0 (by decide)).mono fun r τ h => ?_)
  obtain ⟨rfl, c2, rfl, hc2, _⟩ := h
  refine Wp_bind.mpr (labels_ok.mono fun r σ₁ h => ?_)
  obtain ⟨hle1, lb, ls, rfl, hlbl, hlb, h4, hnd⟩ := h
  have h01 := hle1 _ _ h0
  refine Wp_bind.mpr ((cell_ok h01 (by decide)).mono fun r τ' h => ?_)
  obtain ⟨rfl, c0, rfl, hc0, hc0'⟩ := h
  rw [Wp_bind, Wp_mod (b := 2147483645) (by decide) (by decide), Wp_bind, Wp_add]
  refine Wp_bind.mpr ((cell_ok h01 (by decide)).mono fun r τ' h => ?_)
  obtain ⟨rfl, c1, rfl, hc1, hc1'⟩ := h
  rw [Wp_bind, Wp_mod (b := 20) (by decide) (by decide), Wp_bind, Wp_add, Wp_bind, Wp_newO]
  have hst := get_new (σ := τ') (o := .list [V.int (1 + c0 % 2147483645), V.int (1 + c1 % 20)])
  have hle2 : Le τ' (τ' ++ [O.list [V.int (1 + c0 % 2147483645), V.int (1 + c1 % 20)]]) := Le.append
  have hst0 : 0 < τ'.length := by have := lt_of_get h01; omega
  have hlbst : lb < τ'.length := lt_of_get hlb
  generalize hl2 : (τ' ++ [O.list [V.int (1 + c0 % 2147483645), V.int (1 + c1 % 20)]]) = σ₂ at hst hle2 ⊢
  have hσ2 : σ₂.length = τ'.length + 1 := by rw [← hl2]; simp
  generalize τ'.length = st at hst hst0 hlbst hσ2 ⊢
  have h02 := hle2 _ _ h01
  refine Wp_bind.mpr ((cell_ok h02 (by decide)).mono fun r τ₂ h => ?_)
  obtain ⟨rfl, c3, rfl, hc3, hc3'⟩ := h
  have hp : (10 : Int) ^ (6 : Int).toNat = 1000000 := by decide
  rw [Wp_bind, Wp_pow (show (0 : Int) ≤ 6 by decide) (show (6 : Int) ≤ 1000 by decide) (show (10 : Int).natAbs < 1000 by decide), hp, Wp_bind, Wp_mod (b := 1000000) (by decide) (by decide), Wp_bind, Wp_add, Wp_bind, Wp_newO, Wp_bind, Wp_newO]
  have hml : (τ₂ ++ [O.list []] ++ [O.list [V.int (1 + c3 % 1000000), V.ref τ₂.length]])[τ₂.length]? = some (.list []) := Le.append _ _ get_new
  have hmt := get_new (σ := τ₂ ++ [O.list []]) (o := .list [V.int (1 + c3 % 1000000), V.ref τ₂.length])
  have hle3 : Le τ₂ (τ₂ ++ [O.list []] ++ [O.list [V.int (1 + c3 % 1000000), V.ref τ₂.length]]) := Le.append.trans Le.append
  have hmtl : (τ₂ ++ [O.list []]).length = τ₂.length + 1 := by simp
  generalize τ₂ ++ [O.list []] ++ [O.list [V.int (1 + c3 % 1000000), V.ref τ₂.length]] = σ₃ at hml hmt hle3 ⊢
  generalize (τ₂ ++ [O.list []]).length = mt at hmt hmtl ⊢
  have h03 := hle3 _ _ h02
  refine Wp_bind.mpr ((cell_ok h03 (by decide)).mono fun r τ₃ h => ?_)
  obtain ⟨rfl, c1', rfl, hc1'', _⟩ := h
  rw [Wp_bind, Wp_div (b := 20) (by decide) (by decide), Wp_bind, Wp_mod (b := 5) (by decide) (by decide), Wp_bind, Wp_add]
  obtain ⟨n, hn⟩ := Int.eq_ofNat_of_zero_le (show 0 ≤ c1' / 20 % 5 by omega)
  have hn5 : n < 5 := by omega
  rw [hn, show (1 : Int) + (n : Int) = (n : Int) + 1 by omega]
  have g : Gk 20 τ₃ st lb mt τ₂.length ls :=
    { st0 := hst0, ml0 := by omega, n1 := by omega, n2 := by omega, n3 := by omega, n4 := by omega, n5 := by omega
      lab := hle3 _ _ (hle2 _ _ hlb), four := h4, nd := hnd, small := by decide
      met := ⟨_, by unfold Small; omega, hmt⟩
      run := ⟨_, _, [], hle3 _ _ hst, hml, by simp, by simp, by simp; omega⟩ }
  refine Wp_bind.mpr ((kind_ok n 39 20 τ₃ (by omega) g).mono fun k σ₄ h => ?_)
  obtain ⟨hx4, g4, hk⟩ := h
  refine Wp_bind.mpr ((value_ok (n + 1) 39 k σ₄ (by omega) hk g4).mono fun v σ₅ h => ?_)
  obtain ⟨hx5, g5, hv, hb⟩ := h
  refine Wp_bind.mpr ((isOf_ok (n + 1) k v 20 (n + 1 + 2) 39 σ₅ hk hv (by omega)).mono fun r σ₆ h => ?_)
  obtain ⟨hle6, rfl⟩ := h
  rw [hb, Wp_bind, Wp_isNotTrue, Wp_bind, Wp_truthB]
  rw [if_neg (by decide)]
  unfold L_law_t1
  have n0 : (0 : Nat) ∉ [st, τ₂.length] := by simp only [List.mem_cons, List.not_mem_nil, or_false, not_or]; omega
  have h06 := hle6 _ _ (hx5 _ _ n0 (hx4 _ _ n0 h03))
  refine Wp_bind.mpr ((cell_ok h06 (by decide)).mono fun r τ₆ h => ?_)
  obtain ⟨rfl, c4, rfl, hc4, _⟩ := h
  rw [Wp_bind, Wp_mod (b := 3) (by decide) (by decide), Wp_bind, Wp_gt, Wp_bind, Wp_truthB]
  split
  · rw [Wp_bind, Wp_div (b := 3) (by decide) (by decide)]
    refine Wp_bind.mpr ((bent_ok (n + 1 + 2) 39 (c4 / 3) v τ₆ (by omega) hv (by omega) (hle6 _ _ g5.lab) h4).mono fun v' σ₇ h => ?_)
    exact asked_ok (by omega) hk h.2
  · exact asked_ok (by omega) hk hv
end

theorem law05 : LawOk tab05 gl05 40 := fun zs _ => by
  obtain ⟨r, σ', e, h⟩ := law05_wp zs
  exact ⟨σ', by rw [← h]; exact e⟩
end Mine

open PySem PySem.W PyProof.Rows
set_option maxHeartbeats 8000000 in
theorem PySem.Challenge.cw_uf010004_05_holds : PySem.Challenge.rw_uf010004_05.Holds := by
  w_on; o_law; o_head Hook.none; (case hw => w_witness2)
  intro w s₀ s₁ mg mb G Y fa o pm cd doc dV kV ho hd hcd hD hmg hg args vals as hpre hlay hrd hwl hlo
  refine Ground.open G ?_
  intro T B D TE TW
  have hmg' : mg "law" = some (.ref fa) := hmg
  clear hmg
  clear hd hcd hD Y
  wrow_args hpre hlay hrd hwl hlo
  rename_i zs _ _ _ _ _ _ _ la vs _ hL _ hw _ hI _ hlen _
  have hB := Mine.base_of (tab := Mine.tab05) (gs := Mine.gs05) T (by decide +kernel) (by kernel_rfl) (by decide +kernel) (by decide +kernel)
  refine wpAny_mono (Mine.law_run hB (by decide +kernel) hmg' (by decide +kernel) (Mine.list_at hL hw) hI (by omega) Mine.law05 (Mine.room_caller (by decide))) (fun v s' hp => ?_) fun _ _ f => f.elim
  obtain ⟨rfl, h1, h2, h3⟩ := hp
  exact GoodW.toG ⟨.inl ⟨_, .bool true, [], rfl, fun _ => by kernel_rfl, .bool true, by kernel_rfl, fun _ => ⟨List.nodup_nil, fun _ hm => absurd hm List.not_mem_nil⟩⟩, h1, h2, h3.trans hg⟩
