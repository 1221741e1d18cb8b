import PyProof.Rows.All
import Wide.All
import OpenK.AllK
import Wide.FinOn
import HandS.ExcInit
import HandS.ExcField
import HandS.Words
import HandS.HeadHook4
import HandS.HeadWalk
import KE.KIsAll
import KE.KStateDown
import HandS.Head0
import HandS.Head1
import HandS.Head2
import HandS.ForMost
import HandS.Lambda
import HandS.Flow
import HandS.TryMany
import HandS.IsInst
import HandS.Nested
import HandS.More
import HandS.NoneIn
import HandS.Zip
import HandS.MakeKw
import HandS.Defaults
import HandS.ForExc
import HandS.CallLocal
import HandS.Text
import HandS.StrMore
import HandS.Codes
import PyProof.StrLawsLast
import HandS.Comp
import HandS.Star
import HandS.ListItems
import HandS.Conv
import HandS.Style
import HandS.ExcIs
import HandS.ExcOwn
import HandS.ExcValue
import HandS.MakeKwOnly
import PySem.Challenge.RW_asuncut_k00_errors_made
section
/-! Vm: a small memory machine in plain Lean: values, cells, results; the operators of Python on them, as far as the
laws need them. What a construct of Python means here is what Sim.lean shows of the model. -/
namespace Vm
set_option autoImplicit false

/-- a text: its code points -/
abbrev Sg := List Nat

/-- a value: what never changes by what it holds (also a list that is changed no more); `ref n`: cell n of the memory -/
inductive Va where
  | non
  | bl (b : Bool)
  | int (i : Int)
  | str (x : Sg)
  | ty (n : String)
  | fn (k : Nat)
  | tup (xs : List Va)
  | lst (xs : List Va)
  | dct (t : Bool) (kvs : List (Va × Va))
  | obj (c : Nat) (fs : List (Sg × Va))
  | ref (n : Nat)
  | clo (l : Nat) (xs : List Va)
  | scr (xs : List Int)
  | wtp (xs : List Va)
  deriving Inhabited

inductive Cell where
  | lst (xs : List Va)
  | dct (t : Bool) (kvs : List (Va × Va))
  | ins (c : Nat) (fs : List (Sg × Va))
  | cel (v : Va)
  deriving Inhabited

abbrev Mem := List Cell
abbrev Env := List (Option Va)

/-- a result: a value and the memory behind it; an error of the class c with its fields; nothing (not covered) -/
inductive Res (α : Type) where
  | ok (a : α) (m : Mem)
  | er (c : Nat) (fs : List (Sg × Va)) (m : Mem)
  | no

def Res.bind {α β : Type} : Res α → (α → Mem → Res β) → Res β
  | .ok a m, f => f a m
  | .er c fs m, _ => .er c fs m
  | .no, _ => .no

def M (α : Type) := Mem → Res α
def M.pure {α : Type} (a : α) : M α := fun m => .ok a m
def M.bind {α β : Type} (x : M α) (f : α → M β) : M β := fun m => (x m).bind fun a m' => f a m'
instance : Monad M where
  pure := M.pure
  bind := M.bind
def stuck {α : Type} : M α := fun _ => .no
def raise {α : Type} (c : Nat) (fs : List (Sg × Va)) : M α := fun m => .er c fs m
def lift {α : Type} : Option α → M α
  | some a => M.pure a
  | none => stuck
def guard (b : Bool) : M Unit := if b then M.pure () else stuck

@[simp] theorem bind_eq {α β : Type} (x : M α) (f : α → M β) (m : Mem) : (x >>= f) m = (x m).bind fun a m' => f a m' := rfl
@[simp] theorem pure_eq {α : Type} (a : α) (m : Mem) : (pure a : M α) m = .ok a m := rfl
@[simp] theorem Mpure_eq {α : Type} (a : α) (m : Mem) : (M.pure a : M α) m = .ok a m := rfl
@[simp] theorem Mbind_eq {α β : Type} (x : M α) (f : α → M β) (m : Mem) : (M.bind x f) m = (x m).bind fun a m' => f a m' := rfl
@[simp] theorem bind_ok {α β : Type} (a : α) (m : Mem) (f : α → Mem → Res β) : (Res.ok a m).bind f = f a m := rfl
@[simp] theorem bind_er {α β : Type} (c : Nat) (fs : List (Sg × Va)) (m : Mem) (f : α → Mem → Res β) : (Res.er c fs m).bind f = .er c fs m := rfl
@[simp] theorem bind_no {α β : Type} (f : α → Mem → Res β) : (Res.no : Res α).bind f = .no := rfl
@[simp] theorem lift_some {α : Type} (a : α) (m : Mem) : lift (some a) m = .ok a m := rfl
@[simp] theorem lift_none {α : Type} (m : Mem) : (lift none : M α) m = .no := rfl
@[simp] theorem stuck_eq {α : Type} (m : Mem) : (stuck : M α) m = .no := rfl
@[simp] theorem raise_eq {α : Type} (c : Nat) (fs : List (Sg × Va)) (m : Mem) : (raise c fs : M α) m = .er c fs m := rfl
@[simp] theorem guard_true (m : Mem) : guard true m = .ok () m := rfl
@[simp] theorem guard_false (m : Mem) : guard false m = .no := rfl

/-! ### plain values: no cell of the memory in them -/
mutual
def plain : Va → Bool
  | .tup xs => plains xs
  | .wtp xs => plains xs
  | .lst xs => plains xs
  | .dct _ kvs => plainK kvs
  | .obj _ fs => plainF fs
  | .ref _ => false
  | .clo _ xs => plains xs
  | _ => true
def plains : List Va → Bool
  | [] => true
  | x :: r => plain x && plains r
def plainK : List (Va × Va) → Bool
  | [] => true
  | (k, x) :: r => plain k && plain x && plainK r
def plainF : List (Sg × Va) → Bool
  | [] => true
  | (_, x) :: r => plain x && plainF r
end

def mapO {α β : Type} (f : α → Option β) : List α → Option (List β)
  | [] => some []
  | x :: r => match f x with
    | some y => match mapO f r with
      | some s => some (y :: s)
      | none => none
    | none => none
/-- a value with what the memory holds in the place of its cells -/
def resolve : Nat → Mem → Va → Option Va
  | 0, _, v => if plain v then some v else none
  | n + 1, m, v => if plain v then some v else
    match v with
    | .tup xs => (mapO (resolve n m) xs).map .tup
    | .lst xs => (mapO (resolve n m) xs).map .lst
    | .ref k => match m[k]? with
      | some (.lst xs) => (mapO (resolve n m) xs).map .lst
      | some (.dct t kvs) => (mapO (fun (p : Va × Va) => if plain p.1 then (resolve n m p.2).map fun b => (p.1, b) else none) kvs).map (.dct t)
      | some (.ins c fs) => if c < 1000 then (mapO (fun (p : Sg × Va) => (resolve n m p.2).map fun b => (p.1, b)) fs).map (.obj c) else none
      | _ => none
    | _ => none
abbrev deep : Nat := 60

/-! ### equality, as Python has it, of plain values -/
mutual
def eqv : Va → Va → Bool
  | .non, .non => true
  | .bl a, .bl b => a == b
  | .int i, .int j => decide (i = j)
  | .bl a, .int j => decide ((if a then 1 else 0 : Int) = j)
  | .int i, .bl b => decide (i = (if b then 1 else 0 : Int))
  | .str x, .str y => decide (x = y)
  | .lst xs, .lst ys => eqvs xs ys
  | .tup xs, .tup ys => eqvs xs ys
  | _, _ => false
def eqvs : List Va → List Va → Bool
  | [], [] => true
  | x :: r, y :: s => eqv x y && eqvs r s
  | _, _ => false
end

/-! ### shapes of data -/
mutual
/-- data: no dict, no object, no cell -/
def isDat : Va → Bool
  | .non => true
  | .bl _ => true
  | .int _ => true
  | .str x => x.all (· < 1114112)
  | .tup xs => isDats xs
  | .lst xs => isDats xs
  | _ => false
def isDats : List Va → Bool
  | [] => true
  | x :: r => isDat x && isDats r
end
mutual
def dep : Va → Nat
  | .tup xs => deps xs + 1
  | .lst xs => deps xs + 1
  | _ => 0
def deps : List Va → Nat
  | [] => 0
  | x :: r => max (dep x) (deps r)
end
def flat : Va → Bool
  | .non => true
  | .bl _ => true
  | .int _ => true
  | .str _ => true
  | _ => false
abbrev line : Nat := 16777216

/-- the items of a list, of a tuple -/
def asL (v : Va) : M (List Va) := fun m =>
  match v with
  | .lst xs => .ok xs m
  | .ref n => match m[n]? with
    | some (.lst xs) => .ok xs m
    | _ => .no
  | _ => .no
def asQ (v : Va) : M (List Va) := fun m =>
  match v with
  | .lst xs => .ok xs m
  | .tup xs => .ok xs m
  | .wtp xs => .ok xs m
  | .ref n => match m[n]? with
    | some (.lst xs) => .ok xs m
    | _ => .no
  | _ => .no
def asI : Va → M Int
  | .int i => M.pure i
  | _ => stuck
def asB : Va → M Bool
  | .bl b => M.pure b
  | _ => stuck
def res (v : Va) : M Va := fun m => lift (resolve deep m v) m

/-! ### operators -/
def oAdd : Va → Va → M Va
  | .int i, .int j => M.pure (.int (i + j))
  | .str x, .str y => if x.length + y.length ≤ line then M.pure (.str (x ++ y)) else stuck
  | .tup xs, .tup ys => if xs ≠ [] ∧ xs.length + ys.length ≤ line then M.pure (.tup (xs ++ ys)) else stuck
  | x, y => do
    let xs ← asL x
    let ys ← asL y
    if xs.length + ys.length ≤ line then M.pure (.lst (xs ++ ys)) else stuck
def oSub : Va → Va → M Va
  | .int i, .int j => M.pure (.int (i - j))
  | _, _ => stuck
def big : Int := 18446744073709551616
def oMul : Va → Va → M Va
  | .int i, .int j => if (-big < i ∧ i < big) ∨ (-big < j ∧ j < big) then M.pure (.int (i * j)) else stuck
  | x, .int k => do
    let xs ← asL x
    if -9223372036854775808 ≤ k ∧ k < 9223372036854775808 ∧ xs.length * k.toNat ≤ line then M.pure (.lst (List.replicate k.toNat xs).flatten) else stuck
  | _, _ => stuck
def oMod : Va → Va → M Va
  | .int i, .int j => if 0 < j then M.pure (.int (i % j)) else stuck
  | _, _ => stuck
def oDiv : Va → Va → M Va
  | .int i, .int j => if 0 < j ∧ j < 1073741824 then M.pure (.int (i / j)) else stuck
  | _, _ => stuck
def oPow : Va → Va → M Va
  | .int i, .int j => if 0 ≤ j ∧ j ≤ 1000 ∧ i.natAbs < 18446744073709551616 then M.pure (.int (i ^ j.toNat)) else stuck
  | _, _ => stuck
def oNeg : Va → M Va
  | .int i => M.pure (.int (-i))
  | _ => stuck
def oLt : Va → Va → M Va
  | .int i, .int j => M.pure (.bl (decide (i < j)))
  | _, _ => stuck
def oLe : Va → Va → M Va
  | .int i, .int j => M.pure (.bl (decide (i ≤ j)))
  | _, _ => stuck
def oGt : Va → Va → M Va
  | .int i, .int j => M.pure (.bl (decide (j < i)))
  | _, _ => stuck
def oGe : Va → Va → M Va
  | .int i, .int j => M.pure (.bl (decide (j ≤ i)))
  | _, _ => stuck
/-- equality: of flat values, of data -/
def eqM (x y : Va) : M Bool :=
  if flat x && flat y then M.pure (eqv x y) else do
    let a ← res x
    let b ← res y
    if isDat a && isDat b && decide (dep a ≤ 64) && decide (dep b ≤ 64) then M.pure (eqv a b) else stuck
def oEq (x y : Va) : M Va := do let b ← eqM x y; M.pure (.bl b)
def oNe (x y : Va) : M Va := do let b ← eqM x y; M.pure (.bl (!b))
def isNon : Va → Bool
  | .non => true
  | _ => false
/-- x is y, y None, or a built-in class where x is one -/
def isM : Va → Va → M Bool
  | .ty a, .ty b => M.pure (decide (a = b))
  | x, .non => M.pure (isNon x)
  | _, _ => stuck
def oIs (x y : Va) : M Va := do let b ← isM x y; M.pure (.bl b)
def oIsNot (x y : Va) : M Va := do let b ← isM x y; M.pure (.bl (!b))
/-- two keys: ints, texts -/
def keq1 : Va → Va → Bool
  | .int i, .int j => decide (i = j)
  | .str x, .str y => decide (x = y)
  | _, _ => false
/-- tuples of such -/
def keqs : List Va → List Va → Bool
  | [], [] => true
  | x :: r, y :: s => keq1 x y && keqs r s
  | _, _ => false
def keq : Bool → Va → Va → Bool
  | true, .tup xs, .tup ys => keqs xs ys
  | false, x, y => keq1 x y
  | _, _, _ => false
def key1 : Va → Bool
  | .int _ => true
  | .str _ => true
  | _ => false
def isKey : Bool → Va → Bool
  | true, .tup xs => xs.all key1
  | false, x => key1 x
  | _, _ => false
/-- what stands in a dict at a key -/
def findK (t : Bool) (k : Va) : List (Va × Va) → Option Va
  | [] => none
  | (q, x) :: r => if keq t q k then some x else findK t k r
/-- a dict, what it holds -/
def asD (v : Va) : M (Bool × List (Va × Va)) := fun m =>
  match v with
  | .dct t kvs => .ok (t, kvs) m
  | .ref n => match m[n]? with
    | some (.dct t kvs) => .ok (t, kvs) m
    | _ => .no
  | _ => .no
/-- whether a value is among others, as `in` of lists and tuples has it: flat values -/
def inM (x y : Va) : M Bool := fun m =>
  match y with
  | .str z => match x with
    | .str [c] => .ok (decide (c ∈ z)) m
    | _ => .no
  | .dct t kvs => if isKey t x then .ok (findK t x kvs).isSome m else .no
  | .ref n => match m[n]? with
    | some (.lst xs) => if flat x && xs.all flat then .ok (xs.any fun y => eqv y x) m else .no
    | some (.dct t kvs) => if isKey t x then .ok (findK t x kvs).isSome m else .no
    | _ => .no
  | .lst xs => if flat x && xs.all flat then .ok (xs.any fun y => eqv y x) m else .no
  | .tup xs => if flat x && xs.all flat then .ok (xs.any fun y => eqv y x) m else .no
  | .wtp xs => if flat x && xs.all flat then .ok (xs.any fun y => eqv y x) m else .no
  | _ => .no
def oIn (x y : Va) : M Va := do let b ← inM x y; M.pure (.bl b)
def oNotIn (x y : Va) : M Va := do let b ← inM x y; M.pure (.bl (!b))

/-! ### truth, displays, items -/
def tru (x : Va) : M Bool := fun m =>
  match x with
  | .non => .ok false m
  | .bl b => .ok b m
  | .int i => .ok (i != 0) m
  | .str y => if y.length ≤ line then .ok (!y.isEmpty) m else .no
  | .lst xs => .ok (!xs.isEmpty) m
  | .tup xs => .ok (!xs.isEmpty) m
  | .wtp xs => .ok (!xs.isEmpty) m
  | .ref n => match m[n]? with
    | some (.lst xs) => .ok (!xs.isEmpty) m
    | some (.dct false kvs) => .ok (!kvs.isEmpty) m
    | _ => .no
  | _ => .no
def tTru (a : Env → M Va) (env : Env) : M Bool := do let x ← a env; tru x
def tB (a : Env → M Va) (env : Env) : M Bool := do let x ← a env; asB x
def tNot (a : Env → M Bool) (env : Env) : M Bool := do let b ← a env; M.pure (!b)
def tAnd (a b : Env → M Bool) (env : Env) : M Bool := do if (← a env) then b env else M.pure false
def tOr (a b : Env → M Bool) (env : Env) : M Bool := do if (← a env) then M.pure true else b env
def eAnd (a b : Env → M Va) (env : Env) : M Va := do let x ← a env; if (← tru x) then b env else M.pure x
def eOr (a b : Env → M Va) (env : Env) : M Va := do let x ← a env; if (← tru x) then M.pure x else b env
def eNot (a : Env → M Va) (env : Env) : M Va := do let x ← a env; let b ← tru x; M.pure (.bl (!b))
def eIf (c : Env → M Bool) (a b : Env → M Va) (env : Env) : M Va := do if (← c env) then a env else b env
def aNil (_ : Env) : M (List Va) := M.pure []
def aCons (a : Env → M Va) (r : Env → M (List Va)) (env : Env) : M (List Va) := do let x ← a env; let xs ← r env; M.pure (x :: xs)
def eTup (a : Env → M (List Va)) (env : Env) : M Va := do let xs ← a env; if xs.length ≤ line then M.pure (.tup xs) else stuck
def eLst (a : Env → M (List Va)) (env : Env) : M Va := do let xs ← a env; if xs.length ≤ line then M.pure (.lst xs) else stuck
/-- a new cell -/
def newM (c : Cell) : M Va := fun m => .ok (.ref m.length) (m ++ [c])
def eLstM (a : Env → M (List Va)) (env : Env) : M Va := do let xs ← a env; if xs.length ≤ line then newM (.lst xs) else stuck
def atV {α : Type} (xs : List α) (i : Int) : Option α := if 0 ≤ i then xs[i.toNat]? else if -(xs.length : Int) ≤ i then xs[(i + xs.length).toNat]? else none
/-- a[b] -/
def oIx (x y : Va) : M Va := fun m =>
  match x with
  | .lst xs => match y with
    | .int i => lift (atV xs i) m
    | _ => .no
  | .tup xs => match y with
    | .int i => lift (atV xs i) m
    | _ => .no
  | .wtp xs => match y with
    | .int i => lift (atV xs i) m
    | _ => .no
  | .str z => match y with
    | .int i => if z.length ≤ line then lift ((atV z i).map fun c => .str [c]) m else .no
    | _ => .no
  | .dct t kvs => if isKey t y then lift (findK t y kvs) m else .no
  | .ref n => match m[n]? with
    | some (.lst xs) => match y with
      | .int i => lift (atV xs i) m
      | _ => .no
    | some (.dct t kvs) => if isKey t y then lift (findK t y kvs) m else .no
    | _ => .no
  | _ => .no
def cutI (n d : Nat) : Option Int → Nat
  | none => d
  | some v => if v < 0 then (v + (n : Int)).toNat else min v.toNat n
def cut {α : Type} (xs : List α) (lo hi : Option Int) : List α := (xs.drop (cutI xs.length 0 lo)).take (cutI xs.length xs.length hi - cutI xs.length 0 lo)
/-- a[lo:hi] -/
def oCut (x : Va) (lo hi : Option Int) : M Va := fun m =>
  match x with
  | .lst xs => .ok (.lst (cut xs lo hi)) m
  | .tup xs => if cutI xs.length 0 lo = 0 ∧ cutI xs.length xs.length hi = xs.length then .no else .ok (.tup (cut xs lo hi)) m
  | .str z => if z.length ≤ line then .ok (.str (cut z lo hi)) m else .no
  | .ref n => match m[n]? with
    | some (.lst xs) => .ok (.lst (cut xs lo hi)) m
    | _ => .no
  | _ => .no
def pNone (_ : Env) : M (Option Int) := M.pure none
def pSome (a : Env → M Va) (env : Env) : M (Option Int) := do let x ← a env; let i ← asI x; M.pure (some i)
def eCut (a : Env → M Va) (lo hi : Env → M (Option Int)) (env : Env) : M Va := do let x ← a env; let l ← lo env; let h ← hi env; oCut x l h

/-! ### statements -/
inductive Flow where
  | nx (e : Env)
  | rt (v : Va)
  | bk (e : Env)
  | ct (e : Env)
def sNext (env : Env) : M Flow := M.pure (.nx env)
def sBreak (env : Env) : M Flow := M.pure (.bk env)
def sCont (env : Env) : M Flow := M.pure (.ct env)
def sSeq (f g : Env → M Flow) (env : Env) : M Flow := do
  match ← f env with
  | .nx e => g e
  | .rt v => M.pure (.rt v)
  | .bk e => M.pure (.bk e)
  | .ct e => M.pure (.ct e)
def sExpr (a : Env → M Va) (env : Env) : M Flow := do let _ ← a env; M.pure (.nx env)
def sRet (a : Env → M Va) (env : Env) : M Flow := do let x ← a env; M.pure (.rt x)
def sRetN (_ : Env) : M Flow := M.pure (.rt .non)
def sSet (i : Nat) (a : Env → M Va) (env : Env) : M Flow := do let x ← a env; M.pure (.nx (env.set i (some x)))
def sAsg (g : Va → Env → M Env) (a : Env → M Va) (env : Env) : M Flow := do let x ← a env; let e ← g x env; M.pure (.nx e)
def sIf (c : Env → M Bool) (f g : Env → M Flow) (env : Env) : M Flow := do if (← c env) then f env else g env
def sWhile : Nat → (Env → M Bool) → (Env → M Flow) → Env → M Flow
  | 0, _, _, _ => stuck
  | n + 1, c, b, env => do
    if (← c env) then
      match ← b env with
      | .nx e => sWhile n c b e
      | .ct e => sWhile n c b e
      | .bk e => M.pure (.nx e)
      | .rt v => M.pure (.rt v)
    else M.pure (.nx env)
/-- what a loop walks: values at once, or what stands in the memory turn by turn -/
inductive Src where
  | val (xs : List Va)
  | live (rd : Mem → Option (List Va))
def forL (g : Va → Env → M Env) (b : Env → M Flow) : List Va → Env → M Flow
  | [], env => M.pure (.nx env)
  | x :: r, env => do
    let e ← g x env
    match ← b e with
    | .nx e => forL g b r e
    | .ct e => forL g b r e
    | .bk e => M.pure (.nx e)
    | .rt v => M.pure (.rt v)
def forC (g : Va → Env → M Env) (b : Env → M Flow) (rd : Mem → Option (List Va)) : Nat → Nat → Env → M Flow
  | 0, _, _ => stuck
  | n + 1, i, env => fun m =>
    match rd m with
    | none => .no
    | some xs => match xs[i]? with
      | none => .ok (.nx env) m
      | some x => (do
        let e ← g x env
        match ← b e with
        | .nx e => forC g b rd n (i + 1) e
        | .ct e => forC g b rd n (i + 1) e
        | .bk e => M.pure (.nx e)
        | .rt v => M.pure (.rt v) : M Flow) m
abbrev fuel : Nat := 1000000
def sFor (s : Env → M Src) (g : Va → Env → M Env) (b : Env → M Flow) (env : Env) : M Flow := do
  match ← s env with
  | .val xs => forL g b xs env
  | .live rd => forC g b rd fuel 0 env
/-! ### targets -/
def gVar (i : Nat) (x : Va) (env : Env) : M Env := M.pure (env.set i (some x))
def gNil (xs : List Va) (env : Env) : M Env := match xs with
  | [] => M.pure env
  | _ => stuck
def gCons (g : Va → Env → M Env) (h : List Va → Env → M Env) (xs : List Va) (env : Env) : M Env := match xs with
  | x :: r => do let e ← g x env; h r e
  | [] => stuck
/-- a tuple, a list of so many -/
def gTup (n : Nat) (h : List Va → Env → M Env) (x : Va) (env : Env) : M Env := do
  let xs ← asQ x
  if xs.length = n then h xs env else stuck
def putK (t : Bool) (k x : Va) (kvs : List (Va × Va)) : List (Va × Va) :=
  if kvs.any (fun p => keq t p.1 k) then kvs.map (fun p => if keq t p.1 k then (p.1, x) else p) else kvs ++ [(k, x)]
def putF (f : Sg) (x : Va) : List (Sg × Va) → List (Sg × Va)
  | [] => [(f, x)]
  | (q, y) :: r => if q = f then (q, x) :: r else (q, y) :: putF f x r
/-- where an index of any sign stands -/
def ixV (n : Nat) (i : Int) : Option Nat := if 0 ≤ i then (if i < n then some i.toNat else none) else if -(n : Int) ≤ i then some (i + n).toNat else none
def setM (o k x : Va) : M Unit := fun m =>
  match o with
  | .ref n => match m[n]? with
    | some (.lst xs) => match k with
      | .int i => match ixV xs.length i with
        | some j => .ok () (m.set n (.lst (xs.set j x)))
        | none => .no
      | _ => .no
    | some (.dct t kvs) => if isKey t k ∧ kvs.length < line then .ok () (m.set n (.dct t (putK t k x kvs))) else .no
    | _ => .no
  | _ => .no
def gIx (a i : Env → M Va) (x : Va) (env : Env) : M Env := do let o ← a env; let k ← i env; setM o k x; M.pure env
def fldM (cs : List Nat) (f : Sg) (o x : Va) : M Unit := fun m =>
  match o with
  | .ref n => match m[n]? with
    | some (.ins c fs) => if c ∈ cs ∧ fs.length < 1000 then .ok () (m.set n (.ins c (putF f x fs))) else .no
    | _ => .no
  | _ => .no
def gFld (cs : List Nat) (f : Sg) (a : Env → M Va) (x : Va) (env : Env) : M Env := do let o ← a env; fldM cs f o x; M.pure env
def findF (f : Sg) : List (Sg × Va) → Option Va
  | [] => none
  | (q, x) :: r => if q = f then some x else findF f r
/-- o.f -/
def oFld (cs : List Nat) (f : Sg) (o : Va) : M Va := fun m =>
  match o with
  | .obj c fs => if c ∈ cs ∧ c < 1000 then lift (findF f fs) m else .no
  | .ref n => match m[n]? with
    | some (.ins c fs) => if c ∈ cs then lift (findF f fs) m else .no
    | _ => .no
  | _ => .no

/-! ### what is walked -/
def rdCell (n : Nat) (m : Mem) : Option (List Va) := match m[n]? with
  | some (.lst xs) => some xs
  | _ => none
def srcOf (x : Va) : M Src := fun m =>
  match x with
  | .lst xs => .ok (.val xs) m
  | .tup xs => .ok (.val xs) m
  | .wtp xs => .ok (.val xs) m
  | .str z => .ok (.val (z.map fun c => .str [c])) m
  | .ref n => match m[n]? with
    | some (.lst _) => .ok (.live (rdCell n)) m
    | _ => .no
  | _ => .no
def iSeq (a : Env → M Va) (env : Env) : M Src := do let x ← a env; srcOf x
def upFrom (lo : Int) (n : Nat) : List Va := (List.range n).map fun (i : Nat) => .int (lo + i)
def half : Int := 4611686018427387904
def range1 : List Va → M Src
  | [.int j] => if -half ≤ j ∧ j < half then M.pure (.val (upFrom 0 j.toNat)) else stuck
  | _ => stuck
def range2 : List Va → M Src
  | [.int i, .int j] => if -half ≤ i ∧ i < half ∧ -half ≤ j ∧ j < half then M.pure (.val (upFrom i (j - i).toNat)) else stuck
  | _ => stuck
def iRange1 (a : Env → M (List Va)) (env : Env) : M Src := do let xs ← a env; range1 xs
def iRange2 (a : Env → M (List Va)) (env : Env) : M Src := do let xs ← a env; range2 xs
def enumV (xs : List Va) : List Va := (List.range xs.length).map fun (i : Nat) => .tup [.int i, xs.getD i .non]
def rdL (x : Va) (m : Mem) : Option (List Va) := match x with
  | .lst xs => some xs
  | .ref n => rdCell n m
  | _ => none
def enumOf (ws : List Va) : M Src := fun m =>
  match ws with
  | [.lst xs] => .ok (.val (enumV xs)) m
  | [x] => match rdL x m with
    | some _ => .ok (.live fun m => (rdL x m).map enumV) m
    | none => .no
  | _ => .no
def iEnum (a : Env → M (List Va)) (env : Env) : M Src := do let xs ← a env; enumOf xs
def zipV (xs ys : List Va) : List Va := (List.zip xs ys).map fun p => .tup [p.1, p.2]
def zipOf (ws : List Va) : M Src := fun m =>
  match ws with
  | [.lst xs, .lst ys] => .ok (.val (zipV xs ys)) m
  | [.tup xs, .tup ys] => .ok (.val (zipV xs ys)) m
  | [x, y] => match rdL x m, rdL y m with
    | some _, some _ => .ok (.live fun m => (rdL x m).bind fun xs => (rdL y m).map fun ys => zipV xs ys) m
    | _, _ => .no
  | _ => .no
def iZip (a : Env → M (List Va)) (env : Env) : M Src := do let xs ← a env; zipOf xs

/-! ### calls -/
def resolveF (m : Mem) (fs : List (Sg × Va)) : Option (List (Sg × Va)) := mapO (fun (p : Sg × Va) => (resolve deep m p.2).map fun b => (p.1, b)) fs
/-- a call with a memory of its own: plain values in, a plain value out -/
def pureM (f : List Va → M Va) (xs : List Va) : M Va := fun m =>
  if plains xs then
    match f xs [] with
    | .ok r m1 => match resolve deep m1 r with
      | some d => .ok d m
      | none => .no
    | .er c fs m1 => match resolveF m1 fs with
      | some ds => .er c ds m
      | none => .no
    | .no => .no
  else .no
def eCall (f : List Va → M Va) (a : Env → M (List Va)) (env : Env) : M Va := do let xs ← a env; f xs
/-- a def's run: its slots, its body -/
def runF (n : Nat) (b : Env → M Flow) (xs : List Va) : M Va := do
  match ← b (xs.map some ++ List.replicate (n - xs.length) none) with
  | .nx _ => M.pure .non
  | .rt v => M.pure v
  | _ => stuck

def makeM (c : Nat) (f : List Va → M Va) (xs : List Va) : M Va := do
  let o ← newM (.ins c [])
  let r ← f (o :: xs)
  if isNon r then M.pure o else stuck
/-- a receiver: of the class c, without a field m -/
def recv (c : Nat) (m : Sg) (o : Va) : M Unit := fun mem =>
  match o with
  | .obj k fs => if (k = c ∧ k < 1000) ∧ findF m fs = none then .ok () mem else .no
  | .ref n => match mem[n]? with
    | some (.ins k fs) => if k = c ∧ findF m fs = none then .ok () mem else .no
    | _ => .no
  | _ => .no
def eMeth (c : Nat) (m : Sg) (f : List Va → M Va) (o : Env → M Va) (a : Env → M (List Va)) (env : Env) : M Va := do
  let x ← o env
  recv c m x
  let xs ← a env
  f (x :: xs)
/-- positional arguments, then those by name, put in order by g -/
def eCallK (f : List Va → M Va) (g : List Va → List Va → List Va) (a k : Env → M (List Va)) (env : Env) : M Va := do
  let xs ← a env
  let ys ← k env
  f (g xs ys)
/-! ### not covered -/
def eStuck (_ : Env) : M Va := stuck
def sStuck (_ : Env) : M Flow := stuck
def tStuck (_ : Env) : M Bool := stuck
def needM (c : Mem → Bool) : M Unit := fun m => if c m then .ok () m else .no
/-- o.m(..) of a built-in type -/
def eM (chk : Va → Mem → Bool) (op : Va → List Va → M Va) (fo : Env → M Va) (fs : Env → M (List Va)) (env : Env) : M Va := do let x ← fo env; needM (chk x); let ws ← fs env; op x ws
def chkS (x : Va) (_ : Mem) : Bool := match x with | .str _ => true | _ => false
def chkL (x : Va) (m : Mem) : Bool := match asL x m with | .ok _ _ => true | _ => false
/-! ### functions -/
def one1 (f : Va → M Va) : List Va → M Va
  | [x] => f x
  | _ => stuck
def uLen (x : Va) : M Va := fun m => match x with
  | .str z => if z.length ≤ line then .ok (.int z.length) m else .no
  | _ => (asQ x >>= fun xs => M.pure (Va.int xs.length)) m
def bLen : List Va → M Va := one1 uLen
def bAbs : List Va → M Va
  | [.int i] => M.pure (.int (if i < 0 then -i else i))
  | _ => stuck
/-- an int's decimal text -/
def digs : Nat → Nat → Sg → Sg
  | 0, _, acc => acc
  | n + 1, k, acc => if k < 10 then (48 + k) :: acc else digs n (k / 10) ((48 + k % 10) :: acc)
def bStr : List Va → M Va
  | [.int i] => if 0 ≤ i ∧ i < 10 ^ 30 then M.pure (.str (digs 31 i.toNat [])) else stuck
  | _ => stuck
/-- the int that a text of figures tells -/
def figs (x : Sg) : Int := x.foldl (fun (a : Int) (c : Nat) => a * 10 + ((c : Int) - 48)) 0
def bInt : List Va → M Va
  | [.int i] => M.pure (.int i)
  | [.str x] => if x ≠ [] ∧ (x.all fun (c : Nat) => decide (48 ≤ c ∧ c ≤ 57)) = true ∧ x.length ≤ 600 then M.pure (.int (figs x)) else stuck
  | _ => stuck
/-- a new list of a sequence's items, of a script's numbers -/
def uList (x : Va) : M Va := fun m => match x with
  | .scr ns => newM (.lst (ns.map Va.int)) m
  | _ => (asQ x >>= fun xs => newM (.lst xs)) m
def bList : List Va → M Va := one1 uList
/-- a text's signs -/
def uListS (x : Va) : M Va := fun m => match x with
  | .str z => if z.length ≤ line then newM (.lst (z.map fun c => .str [c])) m else .no
  | _ => .no
def bListS : List Va → M Va := one1 uListS
/-- a dict's pairs -/
def uItems (x : Va) : M Va := fun m => match x with
  | .dct false kvs => newM (.lst (kvs.map fun p => .tup [p.1, p.2])) m
  | .ref n => match m[n]? with
    | some (.dct false kvs) => newM (.lst (kvs.map fun p => .tup [p.1, p.2])) m
    | _ => .no
  | _ => .no
def eItems (a : Env → M Va) (env : Env) : M Va := do let x ← a env; uItems x
def aStar (a : Env → M Va) (r : Env → M (List Va)) (env : Env) : M (List Va) := do let x ← a env; let xs ← asQ x; let ys ← r env; M.pure (xs ++ ys)
def eDictK (_ : Env) : M Va := newM (.dct false [])
def eDictT (_ : Env) : M Va := newM (.dct true [])
def uTuple (x : Va) : M Va := fun m => match x with
  | .tup xs => .ok (.tup xs) m
  | .wtp xs => .ok (.wtp xs) m
  | _ => (asL x >>= fun xs => M.pure (Va.tup xs)) m
def bTuple : List Va → M Va := one1 uTuple
def asBls : List Va → Option (List Bool)
  | [] => some []
  | .bl b :: r => (asBls r).map (b :: ·)
  | _ :: _ => none
def bAll : List Va → M Va
  | [x] => do let xs ← asL x; lift ((asBls xs).map fun bs => .bl (bs.all id))
  | _ => stuck
def bAny : List Va → M Va
  | [x] => do let xs ← asL x; lift ((asBls xs).map fun bs => .bl (bs.any id))
  | _ => stuck
/-! ### texts -/
/-- the place of the last c in z -/
def rfi (c : Nat) (z : Sg) : Int := if c ∈ z then (z.length : Int) - 1 - (z.reverse.idxOf c : Nat) else -1
def oCount : Va → List Va → M Va
  | .str z, [.str [c]] => M.pure (.int (z.count c : Nat))
  | _, _ => stuck
def oRfind : Va → List Va → M Va
  | .str z, [.str [c]] => M.pure (.int (rfi c z))
  | _, _ => stuck
def joinG (s : Sg) : List Sg → Sg
  | [] => []
  | [x] => x
  | x :: y :: r => x ++ (s ++ joinG s (y :: r))
def asTs : List Va → Option (List Sg)
  | [] => some []
  | .str z :: r => (asTs r).map (z :: ·)
  | _ :: _ => none
def joinC (s : Sg) (zs : List Sg) : M Va := if (zs.map List.length).sum + zs.length * s.length ≤ line then M.pure (.str (joinG s zs)) else stuck
def oJoin : Va → List Va → M Va
  | .str s, [x] => do let xs ← asQ x; let zs ← lift (asTs xs); joinC s zs
  | _, _ => stuck
/-! ### changes of lists -/
def setCell (n : Nat) (c : Cell) (r : Va) : M Va := fun m => .ok r (m.set n c)
def oAppend (o : Va) (ws : List Va) : M Va := fun m =>
  match o, ws with
  | .ref n, [x] => match m[n]? with
    | some (.lst xs) => if xs.length < line then .ok .non (m.set n (.lst (xs ++ [x]))) else .no
    | _ => .no
  | _, _ => .no
def oExtend (o : Va) (ws : List Va) : M Va := fun m =>
  match o, ws with
  | .ref n, [x] => match m[n]?, asL x m with
    | some (.lst xs), .ok ys _ => if xs.length + ys.length ≤ line then .ok .non (m.set n (.lst (xs ++ ys))) else .no
    | _, _ => .no
  | _, _ => .no
def oPop (o : Va) (ws : List Va) : M Va := fun m =>
  match o, ws with
  | .ref n, [] => match m[n]? with
    | some (.lst xs) => match xs[xs.length - 1]? with
      | some y => .ok y (m.set n (.lst xs.dropLast))
      | none => .no
    | _ => .no
  | _, _ => .no
def oPopAt (o : Va) (ws : List Va) : M Va := fun m =>
  match o, ws with
  | .ref n, [.int i] => match m[n]? with
    | some (.lst xs) => match ixV xs.length i with
      | some j => match xs[j]? with
        | some y => if xs.length ≤ line then .ok y (m.set n (.lst (xs.eraseIdx j))) else .no
        | none => .no
      | none => .no
    | _ => .no
  | _, _ => .no
/-! ### types -/
def tyS (x : Va) (m : Mem) : Option String :=
  match x with
  | .non => some "NoneType"
  | .bl _ => some "bool"
  | .int _ => some "int"
  | .str _ => some "str"
  | .tup _ => some "tuple"
  | .wtp _ => some "tuple"
  | .lst _ => some "list"
  | .scr _ => some "list"
  | .dct _ _ => some "dict"
  | .ref n => match m[n]? with
    | some (.lst _) => some "list"
    | some (.dct _ _) => some "dict"
    | _ => none
  | _ => none
def isub (t n : String) : Bool := t == n || (t == "bool" && n == "int")
def tyNs : List Va → Option (List String)
  | [] => some []
  | .ty n :: r => (tyNs r).map (n :: ·)
  | _ :: _ => none
/-- isinstance(x, T), isinstance(x, (T, ..)), built-in ones among ns -/
def bIsi (ns : List String) (ws : List Va) : M Va := fun m =>
  match ws with
  | [x, .ty n] => match tyS x m with
    | some t => if n ∈ ns then .ok (.bl (isub t n)) m else .no
    | none => .no
  | [x, .tup cs] => match tyS x m, tyNs cs with
    | some t, some us => if us.all (· ∈ ns) then .ok (.bl (us.any (isub t))) m else .no
    | _, _ => .no
  | _ => .no
def uType (x : Va) : M Va := fun m =>
  match x with
  | .dct true _ => .no
  | .dct false _ => .no
  | .ref n => match m[n]? with
    | some (.lst _) => .ok (.ty "list") m
    | some (.dct false _) => .ok (.ty "dict") m
    | _ => .no
  | _ => match tyS x m with
    | some t => .ok (.ty t) m
    | none => .no
def bType : List Va → M Va := one1 uType
/-! ### comprehensions -/
def wipeE (env : Env) : List Nat → Env
  | [] => env
  | v :: vs => (wipeE env vs).set v none
def pushM (n : Nat) (y : Va) : M Unit := fun m => match m[n]? with
  | some (.lst xs) => if xs.length < line then .ok () (m.set n (.lst (xs ++ [y]))) else .no
  | _ => .no
/-- one turn: the target, the test, the element -/
def lcT (n : Nat) (g : Va → Env → M Env) (t : Env → M Bool) (el : Env → M Va) (x : Va) (env : Env) : M Unit := do
  let e ← g x env
  if (← t e) then (do let y ← el e; pushM n y) else M.pure ()
def lcL (n : Nat) (g : Va → Env → M Env) (t : Env → M Bool) (el : Env → M Va) : List Va → Env → M Unit
  | [], _ => M.pure ()
  | x :: r, env => do lcT n g t el x env; lcL n g t el r env
def lcC (n : Nat) (g : Va → Env → M Env) (t : Env → M Bool) (el : Env → M Va) (rd : Mem → Option (List Va)) : Nat → Nat → Env → M Unit
  | 0, _, _ => stuck
  | k + 1, i, env => fun m =>
    match rd m with
    | none => .no
    | some xs => match xs[i]? with
      | none => .ok () m
      | some x => (do lcT n g t el x env; lcC n g t el rd k (i + 1) env : M Unit) m
def endLc (n : Nat) : Res Unit → Res Va
  | .ok _ m => .ok (.ref n) m
  | _ => .no
def srcLc (g : Va → Env → M Env) (t : Env → M Bool) (el : Env → M Va) (vs : List Nat) (s : Src) (env : Env) : M Va := fun m =>
  match s with
  | .val xs => endLc m.length (lcL m.length g t el xs (wipeE env vs) (m ++ [.lst []]))
  | .live rd => endLc m.length (lcC m.length g t el rd fuel 0 (wipeE env vs) (m ++ [.lst []]))
def tYesM (_ : Env) : M Bool := M.pure true
/-- [el for g in s if t], vs: the slots of its own names -/
def eLcM (s : Env → M Src) (g : Va → Env → M Env) (t : Env → M Bool) (el : Env → M Va) (vs : List Nat) (env : Env) : M Va := do let x ← s env; srcLc g t el vs x env
def setAll : List Nat → List Va → Env → Env
  | i :: is, x :: xs, env => setAll is xs (env.set i (some x))
  | _, _, env => env
/-- a, b = x, y with plain names -/
def sPar (is : List Nat) (a : Env → M (List Va)) (env : Env) : M Flow := do let xs ← a env; if xs.length = is.length then M.pure (.nx (setAll is xs env)) else stuck
/-- a call that only looks: its arguments as the memory has them, a flat answer -/
def peekM (f : List Va → M Va) (xs : List Va) : M Va := fun m =>
  match mapO (resolve deep m) xs with
  | some ds => match f ds [] with
    | .ok r _ => if flat r then .ok r m else .no
    | _ => .no
  | none => .no
/-! ### names, calls, errors -/
def eVar (i : Nat) (env : Env) : M Va := lift (env[i]?.join)
def eC (v : Va) (env : Env) : M Va := M.pure v
def eNone : Env → M Va := eC .non
def eOp (op : Va → Va → M Va) (a b : Env → M Va) (env : Env) : M Va := do let x ← a env; let y ← b env; op x y
def eUn (op : Va → M Va) (a : Env → M Va) (env : Env) : M Va := do let x ← a env; op x
def lenM (n : Nat) (f : List Va → M Va) (ws : List Va) : M Va := if ws.length = n then f ws else stuck
mutual
def noClo : Va → Bool
  | .tup xs => noClos xs
  | .wtp xs => noClos xs
  | .lst xs => noClos xs
  | .dct _ kvs => noCloK kvs
  | .obj c fs => decide (c < 1000) && noCloF fs
  | .clo _ _ => false
  | _ => true
def noClos : List Va → Bool
  | [] => true
  | x :: r => noClo x && noClos r
def noCloK : List (Va × Va) → Bool
  | [] => true
  | (_, x) :: r => noClo x && noCloK r
def noCloF : List (Sg × Va) → Bool
  | [] => true
  | (_, x) :: r => noClo x && noCloF r
end
def noCloC : Cell → Bool
  | .lst xs => noClos xs
  | .dct _ kvs => noCloK kvs
  | .ins _ fs => noCloF fs
  | .cel v => noClo v
def noCloM (m : Mem) : Bool := m.all noCloC
/-- a lambda's run: what it captured, its arguments -/
def runL (nn : Nat) (b : Env → M Va) (xs ys : List Va) : M Va := b (ys.map some ++ (xs.map some ++ List.replicate (nn - ys.length - xs.length) none))
/-- behind a call that took lambdas: none of them is left -/
def unpinM (g : List Va → M Va) (ws : List Va) : M Va := fun m =>
  match g ws m with
  | .ok r m' => if noClo r && noCloM m' then .ok r m' else .no
  | .er c fs m' => if noCloF fs && noCloM m' then .er c fs m' else .no
  | .no => .no
/-- a lambda: what it captures stands in the slots js -/
def eClo (l : Nat) (js : List Nat) (env : Env) : M Va := lift ((mapO (fun (j : Nat) => env[j]?.join) js).map (.clo l))
/-- a lambda's call: its cells stand free meanwhile -/
def cloM (n : Nat) (m : List Va → M Va) (ws : List Va) : M Va := fun mem => if ws.length = n ∧ noClos ws = true ∧ noCloM mem = true then m ws mem else .no
def eCallV (can : Va → Bool) (app : Va → List Va → M Va) (i : Nat) (fs : Env → M (List Va)) (env : Env) : M Va := do let x ← eVar i env; if can x then (do let ws ← fs env; app x ws) else stuck
/-- raise C(a), whose __init__ keeps it as q -/
def sRaise1 (c : Nat) (q : Sg) (a : Env → M Va) (env : Env) : M Flow := do let x ← a env; raise c [(q, x)]
/-- try: b; except C as e: return (t, e.q). cs: the classes that may come by -/
def sTry1 (cs : List Nat) (c : Nat) (t q : Sg) (b : Env → M Flow) (env : Env) : M Flow := fun m =>
  match b env m with
  | .er c' fs m' => if c' = c then (match findF q fs with
      | some x => .ok (.rt (.tup [.str t, x])) m'
      | none => .no) else if c' ∈ cs then .er c' fs m' else .no
  | r => r
def perm {α : Type} (d : α) (pi : List Nat) (ws : List α) : List α := pi.map fun i => ws.getD i d
def eCallK0 (n : Nat) (m : List Va → M Va) (pi : List Nat) (fk : Env → M (List Va)) (env : Env) : M Va := do let ws ← fk env; if ws.length = n then m (perm .non pi ws) else stuck
/-! ### own exceptions that are held -/
/-- C(x), the x kept as q -/
def mkE (c : Nat) (q : Sg) : List Va → M Va
  | [x] => M.pure (.obj c [(q, x)])
  | _ => stuck
def mkE0 (c : Nat) (_ : Env) : M Va := M.pure (.obj c [])
/-- e.q, e a held exception of one of the classes cs -/
def oFldE (cs : List Nat) (q : Sg) (o : Va) : M Va := match o with
  | .obj c fs => if c ∈ cs ∧ 1000 ≤ c then lift (findF q fs) else stuck
  | _ => stuck
/-- isinstance(e, ..), e a held exception -/
def bIsE (tab : Nat → Va → Option Bool) (ws : List Va) : M Va := match ws with
  | [.obj c _, y] => lift ((tab c y).map .bl)
  | _ => stuck
/-! ### a table of isinstance: own exceptions cs, beneath base, beneath the built-in ones tys, of none of tus -/
def isTab (cs base : List Nat) (tys : List String) (tus : List (List String)) (c : Nat) (y : Va) : Option Bool :=
  if c ∈ cs then match y with
    | .fn j => if j ∈ base then some true else if j ∈ cs then some (decide (c = j)) else none
    | .ty t => if t ∈ tys then some true else none
    | .tup us => match tyNs us with
      | some ts => if ts ∈ tus then some false else none
      | none => none
    | _ => none
  else none
/-- {k: v} -/
def eDict1 (k v : Va) (_ : Env) : M Va := newM (.dct false [(k, v)])
/-! ### ints as texts, texts as ints: below 0, too -/
def digsI (i : Int) : Sg := if 0 ≤ i then digs 31 i.toNat [] else 45 :: digs 31 (-i).toNat []
def bStrI : List Va → M Va
  | [.int i] => if -10 ^ 30 < i ∧ i < 10 ^ 30 then M.pure (.str (digsI i)) else stuck
  | _ => stuck
def isFigs (x : Sg) : Bool := !x.isEmpty && (x.all (fun (c : Nat) => decide (48 ≤ c ∧ c ≤ 57)) && decide (x.length ≤ 600))
def bIntI : List Va → M Va
  | [.int i] => M.pure (.int i)
  | [.str (45 :: x)] => if isFigs x then M.pure (.int (-figs x)) else stuck
  | [.str x] => if isFigs x then M.pure (.int (figs x)) else stuck
  | _ => stuck
/-- a op b op' c -/
def chainK (op' : Va → Va → M Va) (fc : Env → M Va) (y : Va) (env : Env) (k : Bool) : M Va := if k then (do let w ← fc env; op' y w) else M.pure (.bl false)
def eChain (op op' : Va → Va → M Va) (fa fb fc : Env → M Va) (env : Env) : M Va := do
  let x ← fa env
  let y ← fb env
  let z ← op x y
  let k ← asB z
  chainK op' fc y env k
/-! ### texts cut up -/
/-- z cut at each c, acc ahead -/
def splC (c : Nat) : Sg → Sg → List Sg
  | acc, [] => [acc]
  | acc, d :: r => if d = c then acc :: splC c [] r else splC c (acc ++ [d]) r
def oSplit : Va → List Va → M Va
  | .str z, [.str [c]] => if c < 128 ∧ z.length + 2 ≤ line then newM (.lst ((splC c [] z).map Va.str)) else stuck
  | _, _ => stuck
def isSp (c : Nat) : Bool := c == 32 || ((decide (9 ≤ c) && decide (c ≤ 13)) || (decide (28 ≤ c) && decide (c ≤ 31)))
def wdStep (st : List Sg × Sg) (c : Nat) : List Sg × Sg := if isSp c then (if st.2 = [] then st else (st.1 ++ [st.2], [])) else (st.1, st.2 ++ [c])
def wdFin (st : List Sg × Sg) : List Sg := if st.2 = [] then st.1 else st.1 ++ [st.2]
def wordsG (z : Sg) : List Sg := wdFin (z.foldl wdStep ([], []))
def oWords : Va → List Va → M Va
  | .str z, [] => if z.all (· < 128) ∧ z.length + 2 ≤ line then newM (.lst ((wordsG z).map Va.str)) else stuck
  | _, _ => stuck
/-- xs.count(None), xs of flat values -/
def oCountN (x : Va) (ws : List Va) : M Va := match ws with
  | [.non] => do let xs ← asL x; if xs.all flat then M.pure (.int (xs.countP isNon : Nat)) else stuck
  | _ => stuck
def bMax2 : List Va → M Va
  | [.int i, .int j] => M.pure (.int (if j > i then j else i))
  | _ => stuck
end Vm
end
section
set_option Elab.async false
set_option linter.all false
set_option autoImplicit false
set_option maxRecDepth 100000
/-! Chk: what the head's run looks at -/
namespace Vm
open PySem PySem.Spec PyProof.Rows L2
abbrev tys7 : List String := ["NoneType", "bool", "int", "str", "tuple", "list", "dict"]
def kitsB (K : PySem.W.Frag) (ns : List String) : Bool := tys7.all fun t => ns.all fun n => decide (PySem.W.kitOne K (.type t) (.type n) = some (isub t n))
/-- a class over ValueError with an __init__ -/
def oexB (K : PySem.W.Frag) (C : Addr) : Bool := (match K.lookup C with
  | some ⟨.type "type", _, .cls cd, sl⟩ => (match cd.mro, sl.toList with
    | .ref C' :: bm, [_, _, _, _, some (.builtin n), _] => decide (C' = C) && (decide (n = "ValueError.__new__") && (cd.hasDict && (!cd.hasDel && PySem.HandSPX.refsVE bm)))
    | _, _ => false)
  | _ => false) && (He.eqO (PySem.W.findIn K (.ref C) "__setattr__") (some (some (.builtin "object.__setattr__"))) && (decide (PySem.W.subIn K (.ref C) (.type "BaseException") = some true) && (decide (PySem.W.typeIn K (.ref C) = some (.type "type")) && PySem.W.keepIn K (.ref C))))
def tuB (T : List (Addr × Str)) (P : Addr) (q : Str) : Bool := T.all fun p => !decide (p.1 = P) || decide (p.2 = q)
def excCB (K : PySem.W.Frag) (D : Addr) : Bool :=
  decide (PySem.W.findIn K (.ref D) "__getattribute__" = some (some (.builtin "BaseException.__getattribute__"))) && (decide (PySem.W.findIn K (.ref D) "__getattr__" = some none) && (decide (PySem.W.subIn K (.ref D) (.type "BaseException") = some true) && (PySem.W.hasDictIn K D &&
    (decide (PySem.W.findIn K (.ref D) "__class__" = some (some (.builtin "object.__class__"))) && (decide (PySem.W.specialIn K (.builtin "object.__class__") "__get__" = some (some (.builtin "getset_descriptor.__get__"))) && (decide (PySem.W.takesIn K (.builtin "object.__class__") = some true) && decide (PySem.W.mroIn K D (.type "object") = some true)))))))
def isB1 (K : PySem.W.Frag) (ca : Nat → Addr) (ds cs base : List Nat) (tys : List String) (tus : List (List String)) : Bool :=
  ds.all fun c => excCB K (ca c) && (base.all (fun b => decide (PySem.W.kitOne K (.ref (ca c)) (.ref (ca b)) = some true)) && (cs.all (fun j => decide (PySem.W.kitOne K (.ref (ca c)) (.ref (ca j)) = some (decide (c = j)))) &&
    (tys.all (fun t => decide (PySem.W.kitOne K (.ref (ca c)) (.type t) = some true)) && tus.all (fun us => decide (PySem.W.kitAny K (.ref (ca c)) (us.map Value.type) = some false)))))
def isB (K : PySem.W.Frag) (ca : Nat → Addr) (cs base : List Nat) (tys : List String) (tus : List (List String)) : Bool := isB1 K ca cs cs base tys tus
theorem run_join {σ A B C : Type} {o : Option σ} {f1 : σ → A} {f2 : σ → B} {f3 : σ → C} {x1 x2 x3 t : σ → Bool} {a : A} {b : B} {c : C} (h1 : o.map (fun s => (f1 s, f2 s)) = some (a, b)) (h0 : o.map f3 = some c) (h2 : o.map (fun s => x1 s && t s) = some true) (h3 : o.map x2 = some true) (h4 : o.map x3 = some true) :
    o.map (fun s => (f1 s, f2 s, (f3 s, (x1 s && (x2 s && x3 s)) && t s))) = some (a, b, (c, true)) := by
  cases o with
  | none => cases h1
  | some s =>
    have e1 := Option.some.inj h1
    have e0 := Option.some.inj h0
    have e2 := Option.some.inj h2
    have e3 := Option.some.inj h3
    have e4 := Option.some.inj h4
    simp only [Prod.mk.injEq] at e1
    obtain ⟨q1, q2⟩ := e1
    simp only [Bool.and_eq_true] at e2
    simp only [Option.map_some, q1, q2, e0, e2.1, e2.2, e3, e4, Bool.and_self]
end Vm
end
section
set_option Elab.async false
set_option linter.all false
set_option autoImplicit false
set_option maxRecDepth 100000
namespace Vm
namespace K00
/-! ### constants: printed -/
def kts : List String := ["bool", "dict", "int", "list", "str", "tuple"]
end K00
end Vm
end
section
set_option Elab.async false
set_option linter.all false
set_option autoImplicit false
set_option maxRecDepth 100000
namespace Vm
namespace K00
open PySem PySem.Spec PyProof.Rows L2
def top (i : Nat) : Stmt := PySem.Challenge.pw_asuncut_k00_errors_made.main.body.getD i (.Pass ⟨0, 0, 0, 0⟩)
def ini_BadText : Stmt := match top 2 with
  | .ClassDef _ _ _ b _ _ _ _ _ _ _ => b.getD 0 (.Pass ⟨0, 0, 0, 0⟩)
  | _ => .Pass ⟨0, 0, 0, 0⟩
def ini_BadProgram : Stmt := match top 3 with
  | .ClassDef _ _ _ b _ _ _ _ _ _ _ => b.getD 0 (.Pass ⟨0, 0, 0, 0⟩)
  | _ => .Pass ⟨0, 0, 0, 0⟩
def ini_BadTexts : Stmt := match top 4 with
  | .ClassDef _ _ _ b _ _ _ _ _ _ _ => b.getD 0 (.Pass ⟨0, 0, 0, 0⟩)
  | _ => .Pass ⟨0, 0, 0, 0⟩
def ini_BadIndex : Stmt := match top 5 with
  | .ClassDef _ _ _ b _ _ _ _ _ _ _ => b.getD 0 (.Pass ⟨0, 0, 0, 0⟩)
  | _ => .Pass ⟨0, 0, 0, 0⟩
def ini_BadName : Stmt := match top 7 with
  | .ClassDef _ _ _ b _ _ _ _ _ _ _ => b.getD 0 (.Pass ⟨0, 0, 0, 0⟩)
  | _ => .Pass ⟨0, 0, 0, 0⟩
def ini_BadAnswers : Stmt := match top 8 with
  | .ClassDef _ _ _ b _ _ _ _ _ _ _ => b.getD 0 (.Pass ⟨0, 0, 0, 0⟩)
  | _ => .Pass ⟨0, 0, 0, 0⟩
def ini_BadMost : Stmt := match top 9 with
  | .ClassDef _ _ _ b _ _ _ _ _ _ _ => b.getD 0 (.Pass ⟨0, 0, 0, 0⟩)
  | _ => .Pass ⟨0, 0, 0, 0⟩
def ini_BadModule : Stmt := match top 10 with
  | .ClassDef _ _ _ b _ _ _ _ _ _ _ => b.getD 0 (.Pass ⟨0, 0, 0, 0⟩)
  | _ => .Pass ⟨0, 0, 0, 0⟩
def ini_BadObject : Stmt := match top 11 with
  | .ClassDef _ _ _ b _ _ _ _ _ _ _ => b.getD 0 (.Pass ⟨0, 0, 0, 0⟩)
  | _ => .Pass ⟨0, 0, 0, 0⟩
def ini_BadObjects : Stmt := match top 12 with
  | .ClassDef _ _ _ b _ _ _ _ _ _ _ => b.getD 0 (.Pass ⟨0, 0, 0, 0⟩)
  | _ => .Pass ⟨0, 0, 0, 0⟩
def ini_BadForm : Stmt := match top 14 with
  | .ClassDef _ _ _ b _ _ _ _ _ _ _ => b.getD 0 (.Pass ⟨0, 0, 0, 0⟩)
  | _ => .Pass ⟨0, 0, 0, 0⟩
def ini_BadLinked : Stmt := match top 15 with
  | .ClassDef _ _ _ b _ _ _ _ _ _ _ => b.getD 0 (.Pass ⟨0, 0, 0, 0⟩)
  | _ => .Pass ⟨0, 0, 0, 0⟩
def ini_BadState : Stmt := match top 16 with
  | .ClassDef _ _ _ b _ _ _ _ _ _ _ => b.getD 0 (.Pass ⟨0, 0, 0, 0⟩)
  | _ => .Pass ⟨0, 0, 0, 0⟩
def ini_BadPlan : Stmt := match top 17 with
  | .ClassDef _ _ _ b _ _ _ _ _ _ _ => b.getD 0 (.Pass ⟨0, 0, 0, 0⟩)
  | _ => .Pass ⟨0, 0, 0, 0⟩
def ini_BadStretch : Stmt := match top 18 with
  | .ClassDef _ _ _ b _ _ _ _ _ _ _ => b.getD 0 (.Pass ⟨0, 0, 0, 0⟩)
  | _ => .Pass ⟨0, 0, 0, 0⟩
def ini_BadBegin : Stmt := match top 19 with
  | .ClassDef _ _ _ b _ _ _ _ _ _ _ => b.getD 0 (.Pass ⟨0, 0, 0, 0⟩)
  | _ => .Pass ⟨0, 0, 0, 0⟩
def ini_BadUnits : Stmt := match top 20 with
  | .ClassDef _ _ _ b _ _ _ _ _ _ _ => b.getD 0 (.Pass ⟨0, 0, 0, 0⟩)
  | _ => .Pass ⟨0, 0, 0, 0⟩
def ini_BadRow : Stmt := match top 21 with
  | .ClassDef _ _ _ b _ _ _ _ _ _ _ => b.getD 0 (.Pass ⟨0, 0, 0, 0⟩)
  | _ => .Pass ⟨0, 0, 0, 0⟩
def ini_BadKeeps : Stmt := match top 22 with
  | .ClassDef _ _ _ b _ _ _ _ _ _ _ => b.getD 0 (.Pass ⟨0, 0, 0, 0⟩)
  | _ => .Pass ⟨0, 0, 0, 0⟩
def ini_BadMemory : Stmt := match top 23 with
  | .ClassDef _ _ _ b _ _ _ _ _ _ _ => b.getD 0 (.Pass ⟨0, 0, 0, 0⟩)
  | _ => .Pass ⟨0, 0, 0, 0⟩
def ini_BadStand : Stmt := match top 24 with
  | .ClassDef _ _ _ b _ _ _ _ _ _ _ => b.getD 0 (.Pass ⟨0, 0, 0, 0⟩)
  | _ => .Pass ⟨0, 0, 0, 0⟩
def ini_BadOrder : Stmt := match top 26 with
  | .ClassDef _ _ _ b _ _ _ _ _ _ _ => b.getD 0 (.Pass ⟨0, 0, 0, 0⟩)
  | _ => .Pass ⟨0, 0, 0, 0⟩
def ini_BadCharge : Stmt := match top 27 with
  | .ClassDef _ _ _ b _ _ _ _ _ _ _ => b.getD 0 (.Pass ⟨0, 0, 0, 0⟩)
  | _ => .Pass ⟨0, 0, 0, 0⟩
def ini_BadCharges : Stmt := match top 28 with
  | .ClassDef _ _ _ b _ _ _ _ _ _ _ => b.getD 0 (.Pass ⟨0, 0, 0, 0⟩)
  | _ => .Pass ⟨0, 0, 0, 0⟩
def ini_BadMany : Stmt := match top 29 with
  | .ClassDef _ _ _ b _ _ _ _ _ _ _ => b.getD 0 (.Pass ⟨0, 0, 0, 0⟩)
  | _ => .Pass ⟨0, 0, 0, 0⟩
def ini_BadCells : Stmt := match top 31 with
  | .ClassDef _ _ _ b _ _ _ _ _ _ _ => b.getD 0 (.Pass ⟨0, 0, 0, 0⟩)
  | _ => .Pass ⟨0, 0, 0, 0⟩
def ini_BadTorns : Stmt := match top 32 with
  | .ClassDef _ _ _ b _ _ _ _ _ _ _ => b.getD 0 (.Pass ⟨0, 0, 0, 0⟩)
  | _ => .Pass ⟨0, 0, 0, 0⟩
def ini_BadWay : Stmt := match top 34 with
  | .ClassDef _ _ _ b _ _ _ _ _ _ _ => b.getD 0 (.Pass ⟨0, 0, 0, 0⟩)
  | _ => .Pass ⟨0, 0, 0, 0⟩
def ini_BadCount : Stmt := match top 37 with
  | .ClassDef _ _ _ b _ _ _ _ _ _ _ => b.getD 0 (.Pass ⟨0, 0, 0, 0⟩)
  | _ => .Pass ⟨0, 0, 0, 0⟩
def ini_BadPlace : Stmt := match top 38 with
  | .ClassDef _ _ _ b _ _ _ _ _ _ _ => b.getD 0 (.Pass ⟨0, 0, 0, 0⟩)
  | _ => .Pass ⟨0, 0, 0, 0⟩
def ini_BadThing : Stmt := match top 39 with
  | .ClassDef _ _ _ b _ _ _ _ _ _ _ => b.getD 0 (.Pass ⟨0, 0, 0, 0⟩)
  | _ => .Pass ⟨0, 0, 0, 0⟩
def ini_NoName : Stmt := match top 40 with
  | .ClassDef _ _ _ b _ _ _ _ _ _ _ => b.getD 0 (.Pass ⟨0, 0, 0, 0⟩)
  | _ => .Pass ⟨0, 0, 0, 0⟩
def ini_InRing : Stmt := match top 41 with
  | .ClassDef _ _ _ b _ _ _ _ _ _ _ => b.getD 0 (.Pass ⟨0, 0, 0, 0⟩)
  | _ => .Pass ⟨0, 0, 0, 0⟩
def ini_InUse : Stmt := match top 42 with
  | .ClassDef _ _ _ b _ _ _ _ _ _ _ => b.getD 0 (.Pass ⟨0, 0, 0, 0⟩)
  | _ => .Pass ⟨0, 0, 0, 0⟩
def ini_NoThing : Stmt := match top 43 with
  | .ClassDef _ _ _ b _ _ _ _ _ _ _ => b.getD 0 (.Pass ⟨0, 0, 0, 0⟩)
  | _ => .Pass ⟨0, 0, 0, 0⟩
def ini_BadVow : Stmt := match top 44 with
  | .ClassDef _ _ _ b _ _ _ _ _ _ _ => b.getD 0 (.Pass ⟨0, 0, 0, 0⟩)
  | _ => .Pass ⟨0, 0, 0, 0⟩
def ini_Watched : Stmt := match top 45 with
  | .ClassDef _ _ _ b _ _ _ _ _ _ _ => b.getD 0 (.Pass ⟨0, 0, 0, 0⟩)
  | _ => .Pass ⟨0, 0, 0, 0⟩
def ini_NotHeldNow : Stmt := match top 46 with
  | .ClassDef _ _ _ b _ _ _ _ _ _ _ => b.getD 0 (.Pass ⟨0, 0, 0, 0⟩)
  | _ => .Pass ⟨0, 0, 0, 0⟩
def ini_NotWatched : Stmt := match top 47 with
  | .ClassDef _ _ _ b _ _ _ _ _ _ _ => b.getD 0 (.Pass ⟨0, 0, 0, 0⟩)
  | _ => .Pass ⟨0, 0, 0, 0⟩
def ini_Broken : Stmt := match top 48 with
  | .ClassDef _ _ _ b _ _ _ _ _ _ _ => b.getD 0 (.Pass ⟨0, 0, 0, 0⟩)
  | _ => .Pass ⟨0, 0, 0, 0⟩
def nmF (i : Nat) : Str := ([("_law_stream" : Str), ("_law_draw" : Str), ("_law_pick" : Str), ("_law_same" : Str), ("_law_made_a" : Str), ("_law_made_b" : Str), ("_law_kinds_a" : Str), ("_law_kinds_b" : Str), ("_law_is_own" : Str), ("law" : Str)] : List Str).getD i ""
def nmC (i : Nat) : Str := ([("UncutError" : Str), ("BadText" : Str), ("BadProgram" : Str), ("BadTexts" : Str), ("BadIndex" : Str), ("NotRight" : Str), ("BadName" : Str), ("BadAnswers" : Str), ("BadMost" : Str), ("BadModule" : Str), ("BadObject" : Str), ("BadObjects" : Str), ("NotLinked" : Str), ("BadForm" : Str), ("BadLinked" : Str), ("BadState" : Str), ("BadPlan" : Str), ("BadStretch" : Str), ("BadBegin" : Str), ("BadUnits" : Str), ("BadRow" : Str), ("BadKeeps" : Str), ("BadMemory" : Str), ("BadStand" : Str), ("BadOrder" : Str), ("BadCharge" : Str), ("BadCharges" : Str), ("BadMany" : Str), ("NoEnd" : Str), ("BadCells" : Str), ("BadTorns" : Str), ("NotFree" : Str), ("BadWay" : Str), ("NotClear" : Str), ("NotStraight" : Str), ("BadCount" : Str), ("BadPlace" : Str), ("BadThing" : Str), ("NoName" : Str), ("InRing" : Str), ("InUse" : Str), ("NoThing" : Str), ("BadVow" : Str), ("Watched" : Str), ("NotHeldNow" : Str), ("NotWatched" : Str), ("Broken" : Str)] : List Str).getD (i % 1000) ""
def dfs : List He.DefD := [⟨("_law_kinds_a", none), "_law_kinds_a", "_law_kinds_a", defArgs (top 56), defBody (top 56), defScope (top 56), [], []⟩,
  ⟨("_law_kinds_b", none), "_law_kinds_b", "_law_kinds_b", defArgs (top 57), defBody (top 57), defScope (top 57), [], []⟩,
  ⟨("_law_is_own", none), "_law_is_own", "_law_is_own", defArgs (top 58), defBody (top 58), defScope (top 58), [], []⟩,
  ⟨("_law_made_a", none), "_law_made_a", "_law_made_a", defArgs (top 54), defBody (top 54), defScope (top 54), [], []⟩,
  ⟨("_law_made_b", none), "_law_made_b", "_law_made_b", defArgs (top 55), defBody (top 55), defScope (top 55), [], []⟩,
  ⟨("_law_draw", none), "_law_draw", "_law_draw", defArgs (top 51), defBody (top 51), defScope (top 51), [], []⟩,
  ⟨("_law_pick", none), "_law_pick", "_law_pick", defArgs (top 52), defBody (top 52), defScope (top 52), [], []⟩,
  ⟨("_law_same", none), "_law_same", "_law_same", defArgs (top 53), defBody (top 53), defScope (top 53), [], []⟩,
  ⟨("_law_stream", none), "_law_stream", "_law_stream", defArgs (top 50), defBody (top 50), defScope (top 50), [], []⟩,
  ⟨("law", none), "law", "law", defArgs (top 59), defBody (top 59), defScope (top 59), [], []⟩,
  ⟨("BadText", some "__init__"), "__init__", "BadText.__init__", defArgs ini_BadText, defBody ini_BadText, defScope ini_BadText, [], []⟩,
  ⟨("BadProgram", some "__init__"), "__init__", "BadProgram.__init__", defArgs ini_BadProgram, defBody ini_BadProgram, defScope ini_BadProgram, [], []⟩,
  ⟨("BadTexts", some "__init__"), "__init__", "BadTexts.__init__", defArgs ini_BadTexts, defBody ini_BadTexts, defScope ini_BadTexts, [], []⟩,
  ⟨("BadIndex", some "__init__"), "__init__", "BadIndex.__init__", defArgs ini_BadIndex, defBody ini_BadIndex, defScope ini_BadIndex, [], []⟩,
  ⟨("BadName", some "__init__"), "__init__", "BadName.__init__", defArgs ini_BadName, defBody ini_BadName, defScope ini_BadName, [], []⟩,
  ⟨("BadAnswers", some "__init__"), "__init__", "BadAnswers.__init__", defArgs ini_BadAnswers, defBody ini_BadAnswers, defScope ini_BadAnswers, [], []⟩,
  ⟨("BadMost", some "__init__"), "__init__", "BadMost.__init__", defArgs ini_BadMost, defBody ini_BadMost, defScope ini_BadMost, [], []⟩,
  ⟨("BadModule", some "__init__"), "__init__", "BadModule.__init__", defArgs ini_BadModule, defBody ini_BadModule, defScope ini_BadModule, [], []⟩,
  ⟨("BadObject", some "__init__"), "__init__", "BadObject.__init__", defArgs ini_BadObject, defBody ini_BadObject, defScope ini_BadObject, [], []⟩,
  ⟨("BadObjects", some "__init__"), "__init__", "BadObjects.__init__", defArgs ini_BadObjects, defBody ini_BadObjects, defScope ini_BadObjects, [], []⟩,
  ⟨("BadForm", some "__init__"), "__init__", "BadForm.__init__", defArgs ini_BadForm, defBody ini_BadForm, defScope ini_BadForm, [], []⟩,
  ⟨("BadLinked", some "__init__"), "__init__", "BadLinked.__init__", defArgs ini_BadLinked, defBody ini_BadLinked, defScope ini_BadLinked, [], []⟩,
  ⟨("BadState", some "__init__"), "__init__", "BadState.__init__", defArgs ini_BadState, defBody ini_BadState, defScope ini_BadState, [], []⟩,
  ⟨("BadPlan", some "__init__"), "__init__", "BadPlan.__init__", defArgs ini_BadPlan, defBody ini_BadPlan, defScope ini_BadPlan, [], []⟩,
  ⟨("BadStretch", some "__init__"), "__init__", "BadStretch.__init__", defArgs ini_BadStretch, defBody ini_BadStretch, defScope ini_BadStretch, [], []⟩,
  ⟨("BadBegin", some "__init__"), "__init__", "BadBegin.__init__", defArgs ini_BadBegin, defBody ini_BadBegin, defScope ini_BadBegin, [], []⟩,
  ⟨("BadUnits", some "__init__"), "__init__", "BadUnits.__init__", defArgs ini_BadUnits, defBody ini_BadUnits, defScope ini_BadUnits, [], []⟩,
  ⟨("BadRow", some "__init__"), "__init__", "BadRow.__init__", defArgs ini_BadRow, defBody ini_BadRow, defScope ini_BadRow, [], []⟩,
  ⟨("BadKeeps", some "__init__"), "__init__", "BadKeeps.__init__", defArgs ini_BadKeeps, defBody ini_BadKeeps, defScope ini_BadKeeps, [], []⟩,
  ⟨("BadMemory", some "__init__"), "__init__", "BadMemory.__init__", defArgs ini_BadMemory, defBody ini_BadMemory, defScope ini_BadMemory, [], []⟩,
  ⟨("BadStand", some "__init__"), "__init__", "BadStand.__init__", defArgs ini_BadStand, defBody ini_BadStand, defScope ini_BadStand, [], []⟩,
  ⟨("BadOrder", some "__init__"), "__init__", "BadOrder.__init__", defArgs ini_BadOrder, defBody ini_BadOrder, defScope ini_BadOrder, [], []⟩,
  ⟨("BadCharge", some "__init__"), "__init__", "BadCharge.__init__", defArgs ini_BadCharge, defBody ini_BadCharge, defScope ini_BadCharge, [], []⟩,
  ⟨("BadCharges", some "__init__"), "__init__", "BadCharges.__init__", defArgs ini_BadCharges, defBody ini_BadCharges, defScope ini_BadCharges, [], []⟩,
  ⟨("BadMany", some "__init__"), "__init__", "BadMany.__init__", defArgs ini_BadMany, defBody ini_BadMany, defScope ini_BadMany, [], []⟩,
  ⟨("BadCells", some "__init__"), "__init__", "BadCells.__init__", defArgs ini_BadCells, defBody ini_BadCells, defScope ini_BadCells, [], []⟩,
  ⟨("BadTorns", some "__init__"), "__init__", "BadTorns.__init__", defArgs ini_BadTorns, defBody ini_BadTorns, defScope ini_BadTorns, [], []⟩,
  ⟨("BadWay", some "__init__"), "__init__", "BadWay.__init__", defArgs ini_BadWay, defBody ini_BadWay, defScope ini_BadWay, [], []⟩,
  ⟨("BadCount", some "__init__"), "__init__", "BadCount.__init__", defArgs ini_BadCount, defBody ini_BadCount, defScope ini_BadCount, [], []⟩,
  ⟨("BadPlace", some "__init__"), "__init__", "BadPlace.__init__", defArgs ini_BadPlace, defBody ini_BadPlace, defScope ini_BadPlace, [], []⟩,
  ⟨("BadThing", some "__init__"), "__init__", "BadThing.__init__", defArgs ini_BadThing, defBody ini_BadThing, defScope ini_BadThing, [], []⟩,
  ⟨("NoName", some "__init__"), "__init__", "NoName.__init__", defArgs ini_NoName, defBody ini_NoName, defScope ini_NoName, [], []⟩,
  ⟨("InRing", some "__init__"), "__init__", "InRing.__init__", defArgs ini_InRing, defBody ini_InRing, defScope ini_InRing, [], []⟩,
  ⟨("InUse", some "__init__"), "__init__", "InUse.__init__", defArgs ini_InUse, defBody ini_InUse, defScope ini_InUse, [], []⟩,
  ⟨("NoThing", some "__init__"), "__init__", "NoThing.__init__", defArgs ini_NoThing, defBody ini_NoThing, defScope ini_NoThing, [], []⟩,
  ⟨("BadVow", some "__init__"), "__init__", "BadVow.__init__", defArgs ini_BadVow, defBody ini_BadVow, defScope ini_BadVow, [], []⟩,
  ⟨("Watched", some "__init__"), "__init__", "Watched.__init__", defArgs ini_Watched, defBody ini_Watched, defScope ini_Watched, [], []⟩,
  ⟨("NotHeldNow", some "__init__"), "__init__", "NotHeldNow.__init__", defArgs ini_NotHeldNow, defBody ini_NotHeldNow, defScope ini_NotHeldNow, [], []⟩,
  ⟨("NotWatched", some "__init__"), "__init__", "NotWatched.__init__", defArgs ini_NotWatched, defBody ini_NotWatched, defScope ini_NotWatched, [], []⟩,
  ⟨("Broken", some "__init__"), "__init__", "Broken.__init__", defArgs ini_Broken, defBody ini_Broken, defScope ini_Broken, [], []⟩]
def fa : List He.Fa := [.glo "_law_kinds_a", .glo "_law_kinds_b", .glo "_law_is_own", .glo "_law_made_a", .glo "_law_made_b", .glo "_law_draw", .glo "_law_pick", .glo "_law_same", .glo "_law_stream", .glo "law", .free "ArithmeticError", .free "AttributeError", .free "LookupError", .free "RuntimeError", .free "TypeError", .free "ValueError", .free "abs", .free "all", .free "bool", .free "dict", .free "enumerate", .free "int", .free "isinstance", .free "len", .free "list", .free "range", .free "str", .free "tuple", .free "zip", .glo "BadText", .noat "BadText" "text", .meth "BadText" "__init__", .exm "BadText" "BadText" true, .glo "BadProgram", .noat "BadProgram" "program", .meth "BadProgram" "__init__", .exm "BadProgram" "BadProgram" true, .glo "BadTexts", .noat "BadTexts" "texts", .meth "BadTexts" "__init__", .exm "BadTexts" "BadTexts" true, .glo "BadIndex", .noat "BadIndex" "index", .meth "BadIndex" "__init__", .exm "BadIndex" "BadIndex" true, .glo "BadName", .noat "BadName" "name", .meth "BadName" "__init__", .exm "BadName" "BadName" true, .glo "BadAnswers", .noat "BadAnswers" "answers", .meth "BadAnswers" "__init__", .exm "BadAnswers" "BadAnswers" true, .glo "BadMost", .noat "BadMost" "most", .meth "BadMost" "__init__", .exm "BadMost" "BadMost" true, .glo "BadModule", .noat "BadModule" "m", .meth "BadModule" "__init__", .exm "BadModule" "BadModule" true, .glo "BadObject", .noat "BadObject" "one", .meth "BadObject" "__init__", .exm "BadObject" "BadObject" true, .glo "BadObjects", .noat "BadObjects" "objects", .meth "BadObjects" "__init__", .exm "BadObjects" "BadObjects" true, .glo "BadForm", .noat "BadForm" "thing", .meth "BadForm" "__init__", .exm "BadForm" "BadForm" true, .glo "BadLinked", .noat "BadLinked" "linked", .meth "BadLinked" "__init__", .exm "BadLinked" "BadLinked" true, .glo "BadState", .noat "BadState" "state", .meth "BadState" "__init__", .exm "BadState" "BadState" true, .glo "BadPlan", .noat "BadPlan" "plan", .meth "BadPlan" "__init__", .exm "BadPlan" "BadPlan" true, .glo "BadStretch", .noat "BadStretch" "stretch", .meth "BadStretch" "__init__", .exm "BadStretch" "BadStretch" true, .glo "BadBegin", .noat "BadBegin" "begin", .meth "BadBegin" "__init__", .exm "BadBegin" "BadBegin" true, .glo "BadUnits", .noat "BadUnits" "units", .meth "BadUnits" "__init__", .exm "BadUnits" "BadUnits" true, .glo "BadRow", .noat "BadRow" "row", .meth "BadRow" "__init__", .exm "BadRow" "BadRow" true, .glo "BadKeeps", .noat "BadKeeps" "keeps", .meth "BadKeeps" "__init__", .exm "BadKeeps" "BadKeeps" true, .glo "BadMemory", .noat "BadMemory" "memory", .meth "BadMemory" "__init__", .exm "BadMemory" "BadMemory" true, .glo "BadStand", .noat "BadStand" "stand", .meth "BadStand" "__init__", .exm "BadStand" "BadStand" true, .glo "BadOrder", .noat "BadOrder" "order", .meth "BadOrder" "__init__", .exm "BadOrder" "BadOrder" true, .glo "BadCharge", .noat "BadCharge" "charge", .meth "BadCharge" "__init__", .exm "BadCharge" "BadCharge" true, .glo "BadCharges", .noat "BadCharges" "charges", .meth "BadCharges" "__init__", .exm "BadCharges" "BadCharges" true, .glo "BadMany", .noat "BadMany" "many", .meth "BadMany" "__init__", .exm "BadMany" "BadMany" true, .glo "BadCells", .noat "BadCells" "cells", .meth "BadCells" "__init__", .exm "BadCells" "BadCells" true, .glo "BadTorns", .noat "BadTorns" "torns", .meth "BadTorns" "__init__", .exm "BadTorns" "BadTorns" true, .glo "BadWay", .noat "BadWay" "way", .meth "BadWay" "__init__", .exm "BadWay" "BadWay" true, .glo "BadCount", .noat "BadCount" "count", .meth "BadCount" "__init__", .exm "BadCount" "BadCount" true, .glo "BadPlace", .noat "BadPlace" "place", .meth "BadPlace" "__init__", .exm "BadPlace" "BadPlace" true, .glo "BadThing", .noat "BadThing" "thing", .meth "BadThing" "__init__", .exm "BadThing" "BadThing" true, .glo "NoName", .noat "NoName" "name", .meth "NoName" "__init__", .exm "NoName" "NoName" true, .glo "InRing", .noat "InRing" "name", .meth "InRing" "__init__", .exm "InRing" "InRing" true, .glo "InUse", .noat "InUse" "user", .meth "InUse" "__init__", .exm "InUse" "InUse" true, .glo "NoThing", .noat "NoThing" "name", .meth "NoThing" "__init__", .exm "NoThing" "NoThing" true, .glo "BadVow", .noat "BadVow" "vow", .meth "BadVow" "__init__", .exm "BadVow" "BadVow" true, .glo "Watched", .noat "Watched" "vow", .meth "Watched" "__init__", .exm "Watched" "Watched" true, .glo "NotHeldNow", .noat "NotHeldNow" "vow", .meth "NotHeldNow" "__init__", .exm "NotHeldNow" "NotHeldNow" true, .glo "NotWatched", .noat "NotWatched" "vow", .meth "NotWatched" "__init__", .exm "NotWatched" "NotWatched" true, .glo "Broken", .noat "Broken" "vow", .meth "Broken" "__init__", .exm "Broken" "Broken" true, .glo "UncutError", .glo "NotRight", .glo "NotLinked", .glo "NoEnd", .glo "NotFree", .glo "NotClear", .glo "NotStraight"]
def tf : List He.Defn := [("_law_made_a", none), ("_law_made_b", none)]
def tcF (K : PySem.W.Frag) (i : Nat) : Addr := He.codeOf K (nmF i, none)
def tpF (K : PySem.W.Frag) (i : Nat) : Addr := He.tabOf K (He.codeOf K (nmF i, none))
def tabs (K : PySem.W.Frag) : List (Addr × Str) := [(tpF K 4, "_law_made_a.<locals>.<lambda>"), (tpF K 5, "_law_made_b.<locals>.<lambda>")]
def exs (K : PySem.W.Frag) : List Bool := [kitsB K kts,
  oexB K (He.ga K "BadText"),
  L2.xfB K (He.ga K "BadText"),
  oexB K (He.ga K "BadProgram"),
  L2.xfB K (He.ga K "BadProgram"),
  oexB K (He.ga K "BadTexts"),
  L2.xfB K (He.ga K "BadTexts"),
  oexB K (He.ga K "BadIndex"),
  L2.xfB K (He.ga K "BadIndex"),
  oexB K (He.ga K "BadName"),
  L2.xfB K (He.ga K "BadName"),
  oexB K (He.ga K "BadAnswers"),
  L2.xfB K (He.ga K "BadAnswers"),
  oexB K (He.ga K "BadMost"),
  L2.xfB K (He.ga K "BadMost"),
  oexB K (He.ga K "BadModule"),
  L2.xfB K (He.ga K "BadModule"),
  oexB K (He.ga K "BadObject"),
  L2.xfB K (He.ga K "BadObject"),
  oexB K (He.ga K "BadObjects"),
  L2.xfB K (He.ga K "BadObjects"),
  oexB K (He.ga K "BadForm"),
  L2.xfB K (He.ga K "BadForm"),
  oexB K (He.ga K "BadLinked"),
  L2.xfB K (He.ga K "BadLinked"),
  oexB K (He.ga K "BadState"),
  L2.xfB K (He.ga K "BadState"),
  oexB K (He.ga K "BadPlan"),
  L2.xfB K (He.ga K "BadPlan"),
  oexB K (He.ga K "BadStretch"),
  L2.xfB K (He.ga K "BadStretch"),
  oexB K (He.ga K "BadBegin"),
  L2.xfB K (He.ga K "BadBegin"),
  oexB K (He.ga K "BadUnits"),
  L2.xfB K (He.ga K "BadUnits"),
  oexB K (He.ga K "BadRow"),
  L2.xfB K (He.ga K "BadRow"),
  oexB K (He.ga K "BadKeeps"),
  L2.xfB K (He.ga K "BadKeeps"),
  oexB K (He.ga K "BadMemory"),
  L2.xfB K (He.ga K "BadMemory"),
  oexB K (He.ga K "BadStand"),
  L2.xfB K (He.ga K "BadStand"),
  oexB K (He.ga K "BadOrder"),
  L2.xfB K (He.ga K "BadOrder"),
  oexB K (He.ga K "BadCharge"),
  L2.xfB K (He.ga K "BadCharge"),
  oexB K (He.ga K "BadCharges"),
  L2.xfB K (He.ga K "BadCharges"),
  oexB K (He.ga K "BadMany"),
  L2.xfB K (He.ga K "BadMany"),
  oexB K (He.ga K "BadCells"),
  L2.xfB K (He.ga K "BadCells"),
  oexB K (He.ga K "BadTorns"),
  L2.xfB K (He.ga K "BadTorns"),
  oexB K (He.ga K "BadWay"),
  L2.xfB K (He.ga K "BadWay"),
  oexB K (He.ga K "BadCount"),
  L2.xfB K (He.ga K "BadCount"),
  oexB K (He.ga K "BadPlace"),
  L2.xfB K (He.ga K "BadPlace"),
  oexB K (He.ga K "BadThing"),
  L2.xfB K (He.ga K "BadThing"),
  oexB K (He.ga K "NoName"),
  L2.xfB K (He.ga K "NoName"),
  oexB K (He.ga K "InRing"),
  L2.xfB K (He.ga K "InRing"),
  oexB K (He.ga K "InUse"),
  L2.xfB K (He.ga K "InUse"),
  oexB K (He.ga K "NoThing"),
  L2.xfB K (He.ga K "NoThing"),
  oexB K (He.ga K "BadVow"),
  L2.xfB K (He.ga K "BadVow"),
  oexB K (He.ga K "Watched"),
  L2.xfB K (He.ga K "Watched"),
  oexB K (He.ga K "NotHeldNow"),
  L2.xfB K (He.ga K "NotHeldNow"),
  oexB K (He.ga K "NotWatched"),
  L2.xfB K (He.ga K "NotWatched"),
  oexB K (He.ga K "Broken"),
  L2.xfB K (He.ga K "Broken"),
  (PySem.W.excIn K (He.ga K "NotRight") [.type "ValueError", .type "Exception", .type "BaseException", .type "object"] "ValueError.__new__" && PySem.W.keepIn K (.ref (He.ga K "NotRight"))),
  (PySem.W.excIn K (He.ga K "NotLinked") [.type "ValueError", .type "Exception", .type "BaseException", .type "object"] "ValueError.__new__" && PySem.W.keepIn K (.ref (He.ga K "NotLinked"))),
  (PySem.W.excIn K (He.ga K "NoEnd") [.type "ValueError", .type "Exception", .type "BaseException", .type "object"] "ValueError.__new__" && PySem.W.keepIn K (.ref (He.ga K "NoEnd"))),
  (PySem.W.excIn K (He.ga K "NotFree") [.type "ValueError", .type "Exception", .type "BaseException", .type "object"] "ValueError.__new__" && PySem.W.keepIn K (.ref (He.ga K "NotFree"))),
  (PySem.W.excIn K (He.ga K "NotClear") [.type "ValueError", .type "Exception", .type "BaseException", .type "object"] "ValueError.__new__" && PySem.W.keepIn K (.ref (He.ga K "NotClear"))),
  (PySem.W.excIn K (He.ga K "NotStraight") [.type "ValueError", .type "Exception", .type "BaseException", .type "object"] "ValueError.__new__" && PySem.W.keepIn K (.ref (He.ga K "NotStraight"))),
  tuB (tabs K) (tpF K 4) "_law_made_a.<locals>.<lambda>",
  tuB (tabs K) (tpF K 5) "_law_made_b.<locals>.<lambda>"]
def ex1 (K : PySem.W.Frag) : Bool := (exs K).all id
def ex2 (K : PySem.W.Frag) : Bool := isB1 K (fun i => He.ga K (nmC i)) [1001, 1002, 1003, 1004, 1005, 1006, 1007, 1008, 1009, 1010, 1011, 1012, 1013, 1014, 1015, 1016, 1017, 1018, 1019, 1020, 1021, 1022, 1023] [1001, 1002, 1003, 1004, 1005, 1006, 1007, 1008, 1009, 1010, 1011, 1012, 1013, 1014, 1015, 1016, 1017, 1018, 1019, 1020, 1021, 1022, 1023, 1024, 1025, 1026, 1027, 1028, 1029, 1030, 1031, 1032, 1033, 1034, 1035, 1036, 1037, 1038, 1039, 1040, 1041, 1042, 1043, 1044, 1045, 1046] [1000] ["ValueError"] [["LookupError", "TypeError", "ArithmeticError", "AttributeError", "RuntimeError"]]
def ex3 (K : PySem.W.Frag) : Bool := isB1 K (fun i => He.ga K (nmC i)) [1024, 1025, 1026, 1027, 1028, 1029, 1030, 1031, 1032, 1033, 1034, 1035, 1036, 1037, 1038, 1039, 1040, 1041, 1042, 1043, 1044, 1045, 1046] [1001, 1002, 1003, 1004, 1005, 1006, 1007, 1008, 1009, 1010, 1011, 1012, 1013, 1014, 1015, 1016, 1017, 1018, 1019, 1020, 1021, 1022, 1023, 1024, 1025, 1026, 1027, 1028, 1029, 1030, 1031, 1032, 1033, 1034, 1035, 1036, 1037, 1038, 1039, 1040, 1041, 1042, 1043, 1044, 1045, 1046] [1000] ["ValueError"] [["LookupError", "TypeError", "ArithmeticError", "AttributeError", "RuntimeError"]]
def ex (K : PySem.W.Frag) : Bool := ex1 K && (ex2 K && ex3 K)
theorem ex_ok {K : PySem.W.Frag} (h : ex K = true) {i : Nat} {b : Bool} (e : (exs K)[i]? = some b) : b = true := List.all_eq_true.mp (Bool.and_eq_true_iff.mp h).1 b (List.mem_of_getElem? e)
end K00
end Vm
end
section
set_option Elab.async false
set_option linter.all false
set_option maxRecDepth 100000
set_option maxHeartbeats 0
namespace Vm.K00
open PySem PySem.Spec PyProof.Rows L2
abbrev R : PySem.W.OpenRow := PySem.W.OpenLaw.row PySem.Challenge.rw_asuncut_k00_errors_made
abbrev hk : PySem.W.Hook := He.hookX 4 fa dfs [] tf ex
def ob (s : PySem.W.SharedT) : He.AlX := He.obsX 4 fa dfs [] tf ex (HandSHeadRun.getT s)
theorem ob_eq (s : PySem.W.SharedT) : ob s = hk.obs s.abs := He.obsX_eq (HandSHeadRun.getT_eq s)
def loose : List Str := [("UncutError" : Str), ("BadText" : Str), ("BadProgram" : Str), ("BadTexts" : Str), ("BadIndex" : Str), ("NotRight" : Str), ("BadName" : Str), ("BadAnswers" : Str), ("BadMost" : Str), ("BadModule" : Str), ("BadObject" : Str), ("BadObjects" : Str), ("NotLinked" : Str), ("BadForm" : Str), ("BadLinked" : Str), ("BadState" : Str), ("BadPlan" : Str), ("BadStretch" : Str), ("BadBegin" : Str), ("BadUnits" : Str), ("BadRow" : Str), ("BadKeeps" : Str), ("BadMemory" : Str), ("BadStand" : Str), ("BadOrder" : Str), ("BadCharge" : Str), ("BadCharges" : Str), ("BadMany" : Str), ("NoEnd" : Str), ("BadCells" : Str), ("BadTorns" : Str), ("NotFree" : Str), ("BadWay" : Str), ("NotClear" : Str), ("NotStraight" : Str), ("BadCount" : Str), ("BadPlace" : Str), ("BadThing" : Str), ("NoName" : Str), ("InRing" : Str), ("InUse" : Str), ("NoThing" : Str), ("BadVow" : Str), ("Watched" : Str), ("NotHeldNow" : Str), ("NotWatched" : Str), ("Broken" : Str), ("_law_stream" : Str), ("_law_draw" : Str), ("_law_pick" : Str), ("_law_same" : Str), ("_law_made_a" : Str), ("_law_made_b" : Str), ("_law_kinds_a" : Str), ("_law_kinds_b" : Str), ("_law_is_own" : Str)]
noncomputable def st (w : World) (os : OsState) : Option PySem.W.SharedT := HandSHeadRun.endF (HandSHeadRun.stepQ (HandSHeadRun.denQ HandSHeadRun.tabQ) R.prog w) 20000 R.prog w os
def KK (s : PySem.W.SharedT) : PySem.W.Frag := He.frT (HandSHeadRun.getT s) (He.asD (HandSHeadRun.getT s) 4)
open HandSHeadRun PySem.W in
noncomputable def sees (s : PySem.W.SharedT) := seenQ (PySem.W.view R.prog [59]) loose (importedModules R.prog.main.body) (fun s => xlAt (PySem.W.view R.prog [59]) [] s && recOk R.toRowW.records s) s.abs
open HandSHeadRun PySem.W in
theorem run1 (w : World) (os : OsState) : (st w os).map (fun s => (looksF R.prog (boot_heap w.params) s.abs, sees s)) = some (true, openGood (PySem.W.view R.prog [59]) loose) := by
  kernel_rfl
theorem run5 (w : World) (os : OsState) : (st w os).map (fun s => He.obsT fa dfs [] (KK s)) = some (He.valT dfs [] w) := by
  kernel_rfl
theorem run2 (w : World) (os : OsState) : (st w os).map (fun s => ex1 (KK s) && He.tabsB (HandSHeadRun.getT s) tf (KK s)) = some true := by
  kernel_rfl
theorem run3 (w : World) (os : OsState) : (st w os).map (fun s => ex2 (KK s)) = some true := by
  kernel_rfl
theorem run4 (w : World) (os : OsState) : (st w os).map (fun s => ex3 (KK s)) = some true := by
  kernel_rfl
theorem run (w : World) : HandSHeadRun.RunEq R (PySem.W.view R.prog [59]) hk ob 20000 loose w := fun os => run_join (run1 w os) (run5 w os) (run2 w os) (run3 w os) (run4 w os)
end Vm.K00
end
section
set_option Elab.async false
set_option linter.all false
set_option autoImplicit false
set_option maxRecDepth 100000
/-! Sim: what stands in the model's memory for a value, a memory of Vm; what a reading is met by. -/
namespace Vm
open PySem PySem.Spec PyProof.Rows L2

/-- a lambda: its words; its parameters, the names that it captures, all its names -/
structure LamD where
  qual : Str
  params : Arguments
  body : Expr
  scope : Scope
  ps : List Str
  fr : List Str
  N : List Str
/-- the program's classes, defs and lambdas by number; the code tables of the defs that make lambdas -/
structure Gc where
  ca : Nat → Addr
  fa : Nat → Addr
  lam : Nat → LamD
  T : List (Addr × Str)
/-- a made lambda at f: cl its cells, c its code object -/
def CloO (f : Addr) (D : LamD) (cl : List (Str × Addr)) (c : Addr) : HO :=
  .ext fun h => ∃ pm ctv : Value, h.get? f = some (PySem.W.kla_obj "<lambda>" D.qual D.params D.body D.scope cl pm c ctv)
/-- a captured cell, told to be the object o -/
def PinC (c : Addr) (o : Obj) : HO := .ext fun h => h.get? c = some o
/-- c is one of the cells cl -/
def cellOf (cl : List (Str × Addr)) (c : Addr) : Prop := ∃ y, cl.lookup y = some c
/-- without the cells cl -/
def lessS (S : Addr → Prop) (cl : List (Str × Addr)) : Addr → Prop := fun b => S b ∧ ¬ cellOf cl b
open Classical in
noncomputable def lessH (H : Hp) (cl : List (Str × Addr)) : Hp := fun b => if cellOf cl b then none else H b
/-- the cells cl stand pinned in H, those of the names fr hold vs -/
structure Pins (S : Addr → Prop) (H : Hp) (cl : List (Str × Addr)) (fr : List Str) (vs : List V) : Prop where
  all : ∀ c, cellOf cl c → S c ∧ ∃ o u, H c = some (PinC c o) ∧ o.data = .cell u
  inj : ∀ x y c, cl.lookup x = some c → cl.lookup y = some c → x = y
  len : vs.length = fr.length
  nil : fr = [] → cl = []
  has : ∀ (i : Nat) (y : Str), fr[i]? = some y → ∃ c v o u, cl.lookup y = some c ∧ vs[i]? = some v ∧ H c = some (PinC c o) ∧ o.data = .cell (some u) ∧ L2.RelV v u

abbrev sg (x : Sg) : Str := ⟨x.toArray⟩

/-- a list of the written part -/
def WrL (K : PySem.W.Frag) (a : Addr) (xs : List V) : Prop :=
  ∃ (o : Obj) (its : Array Value) (n : Nat), K.lookup a = some o ∧ o.cls = .type "list" ∧ o.dict = none ∧ o.data = .seq its n ∧ its.size ≤ sizeLine ∧ Vals xs its.toList
/-- a tuple of the written part -/
def WrT (K : PySem.W.Frag) (a : Addr) (xs : List V) : Prop :=
  ∃ (o : Obj) (its : Array Value) (n : Nat), K.lookup a = some o ∧ o.cls = .type "tuple" ∧ o.data = .seq its n ∧ its.size ≤ sizeLine ∧ Vals xs its.toList

section
variable (K : PySem.W.Frag) (G : Gc) (ρ : List Addr) (S : Addr → Prop) (H : Hp)
def AtL (a : Addr) (xs : List V) : Prop := S a ∧ H a = some (.lst xs)
def AtT (a : Addr) (xs : List V) : Prop := S a ∧ H a = some (.tup xs)
/-- a key of a dict -/
def keyV : Va → Option Key
  | .int i => some (.inl i)
  | .str x => some (.inr (sg x))
  | _ => none
def keyT : Va → Option (List Key)
  | .tup xs => xs.mapM keyV
  | _ => none
end
/-- an object that stays as it is: an instance of a plain class, an own exception (c from 1000 on) -/
def ObjAt (G : Gc) (S : Addr → Prop) (H : Hp) (c : Nat) (a : Addr) (ps : List (Str × V)) : Prop :=
  (c < 1000 ∧ ∃ dx, H a = some (.ins (G.ca c) dx ps)) ∨ (1000 ≤ c ∧ ∃ d, H a = some (L2.exo a (G.ca c) d) ∧ ((d = none ∧ ps = []) ∨ ∃ dx, d = some dx ∧ S dx ∧ H dx = some (L2.exd dx ps)))
theorem exd_tbl {e : Addr} {fs : List (Str × V)} {ps : Array Value} : L2.exd e fs ≠ .tbl ps := fun z => by
  have z' : HO.ext _ = HO.tbl ps := z
  cases z'
theorem ObjAt.plain {G : Gc} {S : Addr → Prop} {H : Hp} {c : Nat} {a : Addr} {ps : List (Str × V)} (h : ObjAt G S H c a ps) (hc : c < 1000) : ∃ dx, H a = some (.ins (G.ca c) dx ps) := by
  rcases h with h | h
  · exact h.2
  · exact absurd h.1 (Nat.not_le_of_lt hc)
theorem ObjAt.sub {G : Gc} {S S' : Addr → Prop} {H : Hp} {c : Nat} {a : Addr} {ps : List (Str × V)} (hs : ∀ a, S a → S' a) (h : ObjAt G S H c a ps) : ObjAt G S' H c a ps := by
  rcases h with h | ⟨h1, d, h2, h3⟩
  · exact .inl h
  · exact .inr ⟨h1, d, h2, h3.imp id fun ⟨dx, g1, g2, g3⟩ => ⟨dx, g1, hs dx g2, g3⟩⟩
mutual
/-- v stands for the value x -/
def Rv (K : PySem.W.Frag) (G : Gc) (ρ : List Addr) (S : Addr → Prop) (H : Hp) : Va → V → Prop
  | .non, v => v = .non
  | .bl b, v => v = .bl b
  | .int i, v => v = .int i
  | .str x, v => v = .str (sg x)
  | .ty n, v => v = .ty n
  | .fn k, v => v = .ref (G.fa k)
  | .tup xs, v => ∃ a vs, v = .ref a ∧ AtT S H a vs ∧ Rvs K G ρ S H xs vs
  | .lst xs, v => ∃ a vs, v = .ref a ∧ AtL S H a vs ∧ Rvs K G ρ S H xs vs
  | .dct t kvs, v => ∃ a, v = .ref a ∧ S a ∧ ((t = false ∧ ∃ ps, H a = some (.dK ps) ∧ RvK K G ρ S H kvs ps) ∨ (t = true ∧ ∃ ps, H a = some (.dT ps) ∧ RvT K G ρ S H kvs ps))
  | .obj c fs, v => ∃ a ps, v = .ref a ∧ S a ∧ ObjAt G S H c a ps ∧ RvF K G ρ S H fs ps
  | .ref n, v => ∃ a, v = .ref a ∧ ρ[n]? = some a
  | .scr xs, v => ∃ a, v = .ref a ∧ ((S a ∧ Rd H a (.lst (xs.map V.int))) ∨ WrL K a (xs.map V.int))
  | .wtp xs, v => ∃ a vs, v = .ref a ∧ WrT K a vs ∧ Rvs K G ρ S H xs vs
  | .clo l xs, v => ∃ f cl c vs, v = .ref f ∧ S f ∧ H f = some (CloO f (G.lam l) cl c) ∧ S c ∧ H c = some (LamX.CodeO c (G.lam l).qual) ∧ Pins S H cl (G.lam l).fr vs ∧ Rvs K G ρ (lessS S cl) (lessH H cl) xs vs
def Rvs (K : PySem.W.Frag) (G : Gc) (ρ : List Addr) (S : Addr → Prop) (H : Hp) : List Va → List V → Prop
  | [], vs => vs = []
  | x :: r, vs => ∃ v s, vs = v :: s ∧ Rv K G ρ S H x v ∧ Rvs K G ρ S H r s
def RvK (K : PySem.W.Frag) (G : Gc) (ρ : List Addr) (S : Addr → Prop) (H : Hp) : List (Va × Va) → List (Key × V) → Prop
  | [], ps => ps = []
  | (k, x) :: r, ps => ∃ q v s, ps = (q, v) :: s ∧ keyV k = some q ∧ Rv K G ρ S H x v ∧ RvK K G ρ S H r s
def RvT (K : PySem.W.Frag) (G : Gc) (ρ : List Addr) (S : Addr → Prop) (H : Hp) : List (Va × Va) → List (List Key × V) → Prop
  | [], ps => ps = []
  | (k, x) :: r, ps => ∃ q v s, ps = (q, v) :: s ∧ keyT k = some q ∧ Rv K G ρ S H x v ∧ RvT K G ρ S H r s
def RvF (K : PySem.W.Frag) (G : Gc) (ρ : List Addr) (S : Addr → Prop) (H : Hp) : List (Sg × Va) → List (Str × V) → Prop
  | [], ps => ps = []
  | (k, x) :: r, ps => ∃ v s, ps = (sg k, v) :: s ∧ Rv K G ρ S H x v ∧ RvF K G ρ S H r s
end
section
variable (K : PySem.W.Frag) (G : Gc) (ρ : List Addr) (S : Addr → Prop) (H : Hp)
/-- a cell of the memory at a -/
def RvC (a : Addr) : Cell → Prop
  | .lst xs => ∃ vs, H a = some (.lst vs) ∧ Rvs K G ρ S H xs vs
  | .dct t kvs => (t = false ∧ ∃ ps, H a = some (.dK ps) ∧ RvK K G ρ S H kvs ps) ∨ (t = true ∧ ∃ ps, H a = some (.dT ps) ∧ RvT K G ρ S H kvs ps)
  | .ins c fs => ∃ dx ps, H a = some (.ins (G.ca c) dx ps) ∧ RvF K G ρ S H fs ps
  | .cel _ => False
/-- the code tables; what they tell is kept for good -/
def TabsS (T : List (Addr × Str)) (S : Addr → Prop) (H : Hp) : Prop :=
  LamX.Tabs T H ∧ ∀ p ∈ T, ∀ ps pos c, H p.1 = some (.tbl ps) → codeAmong pos ps.toList = some (.ref c) → S c
/-- the memory -/
structure RelM (mem : Mem) : Prop where
  there : ∀ a, S a → H a ≠ none
  cell : ∀ (n : Nat) (c : Cell), mem[n]? = some c → ∃ a, ρ[n]? = some a ∧ RvC K G ρ S H a c
  out : ∀ a ∈ ρ, ¬ S a
  len : ρ.length = mem.length
  nd : ρ.Nodup
  tabs : TabsS G.T S H
/-- a slot -/
def RvO : Option Va → Option V → Prop
  | none, _ => True
  | some x, some v => Rv K G ρ S H x v
  | some _, none => False
structure Rel (env : Env) (mem : Mem) (σ : L2.St) : Prop extends RelM K G ρ S H mem where
  slot : ∀ (i : Nat) (x : Va), env[i]? = some (some x) → ∃ v, σ[i]? = some (some v) ∧ Rv K G ρ S H x v
  size : env.length = σ.length
end

/-- how the model's memory may go on: what is tracked, and is no cell, stays; what is kept for good is old, or was new, or was a cell -/
structure Ext (ρ : List Addr) (S : Addr → Prop) (H : Hp) (ρ' : List Addr) (S' : Addr → Prop) (H' : Hp) : Prop where
  pre : ρ <+: ρ'
  sub : ∀ a, S a → S' a
  old : ∀ a o, H a = some o → a ∉ ρ → (∀ ps, o ≠ .tbl ps) → H' a = some o
  trk : ∀ a, H' a = none → H a = none
  src : ∀ a, S' a → S a ∨ H a = none ∨ a ∈ ρ
  new : ∀ a, a ∈ ρ' → a ∈ ρ ∨ H a = none
section
variable {K : PySem.W.Frag} {G : Gc} {ρ ρ1 ρ2 : List Addr} {S S1 S2 : Addr → Prop} {H H1 H2 : Hp}
theorem Ext.refl : Ext ρ S H ρ S H :=
  ⟨⟨[], by simp⟩, fun _ h => h, fun _ _ h _ _ => h, fun _ h => h, fun _ h => .inl h, fun _ h => .inl h⟩
theorem Ext.trans (a : Ext ρ S H ρ1 S1 H1) (b : Ext ρ1 S1 H1 ρ2 S2 H2) : Ext ρ S H ρ2 S2 H2 where
  pre := a.pre.trans b.pre
  sub := fun x h => b.sub x (a.sub x h)
  old := fun x o h n t => b.old x o (a.old x o h n t) (fun z => by
    rcases a.new x z with q | q
    · exact n q
    · rw [h] at q; cases q) t
  trk := fun x h => a.trk x (b.trk x h)
  src := fun x h => by
    rcases b.src x h with q | q | q
    · exact a.src x q
    · exact .inr (.inl (a.trk x q))
    · exact (a.new x q).elim (fun z => .inr (.inr z)) fun z => .inr (.inl z)
  new := fun x h => by
    rcases b.new x h with q | q
    · exact a.new x q
    · exact .inr (a.trk x q)
/-- what is kept for good stays -/
theorem Ext.stay (e : Ext ρ S H ρ1 S1 H1) (out : ∀ a ∈ ρ, ¬ S a) {a : Addr} {o : HO} (h : S a) (ho : H a = some o) (ht : ∀ ps, o ≠ .tbl ps := by intro _ z; cases z) : H1 a = some o :=
  e.old a o ho (fun z => out a z h) ht
theorem Ext.rd (e : Ext ρ S H ρ1 S1 H1) (out : ∀ a ∈ ρ, ¬ S a) {a : Addr} {u : HO} (h : S a) (r : Rd H a u) (ht : ∀ ps, u ≠ .tbl ps := by intro _ z; cases z) : Rd H1 a u := by
  rcases r with r | ⟨o, r⟩
  · exact .inl (e.stay out h r ht)
  · exact .inr ⟨o, e.stay out h r⟩
theorem AtL.mono (e : Ext ρ S H ρ1 S1 H1) (out : ∀ a ∈ ρ, ¬ S a) {a : Addr} {xs : List V} (h : AtL S H a xs) : AtL S1 H1 a xs := ⟨e.sub a h.1, e.stay out h.1 h.2⟩
theorem AtT.mono (e : Ext ρ S H ρ1 S1 H1) (out : ∀ a ∈ ρ, ¬ S a) {a : Addr} {xs : List V} (h : AtT S H a xs) : AtT S1 H1 a xs := ⟨e.sub a h.1, e.stay out h.1 h.2⟩
theorem AtL.sq {a : Addr} {xs : List V} (h : AtL S H a xs) : SqL K H a xs := .inl (.inl h.2)
theorem AtT.sq {a : Addr} {xs : List V} (h : AtT S H a xs) : SqT K H a xs := .inl (.inl h.2)
theorem WrT.sq {a : Addr} {xs : List V} (h : WrT K a xs) : SqT K H a xs := .inr h
theorem get_pre {α : Type} {l m : List α} (h : l <+: m) {n : Nat} {x : α} (e : l[n]? = some x) : m[n]? = some x := by
  obtain ⟨t, rfl⟩ := h
  rw [List.getElem?_append_left (List.getElem?_eq_some_iff.mp e).1]
  exact e
theorem cloO_ne {f c : Addr} {D : LamD} {cl : List (Str × Addr)} (ps : Array Value) : CloO f D cl c ≠ .tbl ps := fun z => by unfold CloO at z; cases z
theorem pinC_ne {c : Addr} {o : Obj} (ps : Array Value) : PinC c o ≠ .tbl ps := fun z => by unfold PinC at z; cases z
theorem lessH_some {cl : List (Str × Addr)} {a : Addr} {o : HO} : lessH H cl a = some o ↔ ¬ cellOf cl a ∧ H a = some o := by
  unfold lessH
  split
  · rename_i h; exact ⟨(fun z => by cases z), fun z => absurd h z.1⟩
  · rename_i h; exact ⟨fun z => ⟨h, z⟩, fun z => z.2⟩
theorem lessH_none {cl : List (Str × Addr)} {a : Addr} : lessH H cl a = none ↔ cellOf cl a ∨ H a = none := by
  unfold lessH
  split
  · rename_i h; exact ⟨fun _ => .inl h, fun _ => rfl⟩
  · rename_i h; exact ⟨fun z => .inr z, fun z => z.elim (fun q => absurd q h) id⟩
theorem Ext.cut (e : Ext ρ S H ρ1 S1 H1) (cl : List (Str × Addr)) : Ext ρ (lessS S cl) (lessH H cl) ρ1 (lessS S1 cl) (lessH H1 cl) where
  pre := e.pre
  sub := fun a h => ⟨e.sub a h.1, h.2⟩
  old := fun a o h n t => by
    obtain ⟨h1, h2⟩ := lessH_some.mp h
    exact lessH_some.mpr ⟨h1, e.old a o h2 n t⟩
  trk := fun a h => lessH_none.mpr ((lessH_none.mp h).imp id (e.trk a))
  src := fun a h => (e.src a h.1).elim (fun z => .inl ⟨z, h.2⟩) fun z => z.elim (fun q => .inr (.inl (lessH_none.mpr (.inr q)))) fun q => .inr (.inr q)
  new := fun a h => (e.new a h).imp id fun q => lessH_none.mpr (.inr q)
theorem Pins.mono {cl : List (Str × Addr)} {fr : List Str} {vs : List V} (p : Pins S H cl fr vs) (e : Ext ρ S H ρ1 S1 H1) (out : ∀ a ∈ ρ, ¬ S a) : Pins S1 H1 cl fr vs where
  all := fun c hc => by
    obtain ⟨h1, o, u, h2, h3⟩ := p.all c hc
    exact ⟨e.sub c h1, o, u, e.stay out h1 h2 (fun ps => pinC_ne ps), h3⟩
  inj := p.inj
  len := p.len
  nil := p.nil
  has := fun i y h => by
    obtain ⟨c, v, o, u, h1, h2, h3, h4, h5⟩ := p.has i y h
    have hc : cellOf cl c := ⟨y, h1⟩
    exact ⟨c, v, o, u, h1, h2, e.stay out (p.all c hc).1 h3 (fun ps => pinC_ne ps), h4, h5⟩
theorem Pins.sub {cl : List (Str × Addr)} {fr : List Str} {vs : List V} (p : Pins S H cl fr vs) (hs : ∀ a, S a → S1 a) : Pins S1 H cl fr vs :=
  ⟨fun c hc => ⟨hs c (p.all c hc).1, (p.all c hc).2⟩, p.inj, p.len, p.nil, p.has⟩
theorem TabsS.ext {T : List (Addr × Str)} (t : TabsS T S H) (k : ∀ a o, H a = some o → H1 a = some o) (sub : ∀ a, S a → S1 a) : TabsS T S1 H1 :=
  ⟨t.1.ext k, fun p hp ps pos c h1 h2 => by
    obtain ⟨ps', h3, _⟩ := t.1 p hp
    have h4 := k _ _ h3
    rw [h1] at h4
    cases h4
    exact sub c (t.2 p hp ps pos c h3 h2)⟩
mutual
theorem Rv.mono {K : PySem.W.Frag} {G : Gc} {ρ ρ1 : List Addr} {S S1 : Addr → Prop} {H H1 : Hp} (e : Ext ρ S H ρ1 S1 H1) (out : ∀ a ∈ ρ, ¬ S a) : ∀ (x : Va) (v : V), Rv K G ρ S H x v → Rv K G ρ1 S1 H1 x v
  | .non, _, h => by simpa only [Rv] using h
  | .bl _, _, h => by simpa only [Rv] using h
  | .int _, _, h => by simpa only [Rv] using h
  | .str _, _, h => by simpa only [Rv] using h
  | .ty _, _, h => by simpa only [Rv] using h
  | .fn _, _, h => by simpa only [Rv] using h
  | .tup xs, _, h => by
    simp only [Rv] at h ⊢
    obtain ⟨a, vs, rfl, h1, h2⟩ := h
    exact ⟨a, vs, rfl, h1.mono e out, Rvs.mono e out xs vs h2⟩
  | .lst xs, _, h => by
    simp only [Rv] at h ⊢
    obtain ⟨a, vs, rfl, h1, h2⟩ := h
    exact ⟨a, vs, rfl, h1.mono e out, Rvs.mono e out xs vs h2⟩
  | .dct t kvs, _, h => by
    simp only [Rv] at h ⊢
    obtain ⟨a, rfl, hs, h⟩ := h
    refine ⟨a, rfl, e.sub a hs, ?_⟩
    rcases h with ⟨ht, ps, h1, h2⟩ | ⟨ht, ps, h1, h2⟩
    · exact .inl ⟨ht, ps, e.stay out hs h1, RvK.mono e out kvs ps h2⟩
    · exact .inr ⟨ht, ps, e.stay out hs h1, RvT.mono e out kvs ps h2⟩
  | .obj c fs, _, h => by
    simp only [Rv] at h ⊢
    obtain ⟨a, ps, rfl, h1, h3, h4⟩ := h
    refine ⟨a, ps, rfl, e.sub a h1, ?_, RvF.mono e out fs ps h4⟩
    rcases h3 with ⟨hc, dx, h3⟩ | ⟨hc, d, h3, h5⟩
    · exact .inl ⟨hc, dx, e.stay out h1 h3⟩
    · exact .inr ⟨hc, d, e.stay out h1 h3 (fun _ => L2.exo_tbl), h5.imp id fun ⟨dx, g1, g2, g3⟩ => ⟨dx, g1, e.sub dx g2, e.stay out g2 g3 (fun _ => exd_tbl)⟩⟩
  | .ref n, _, h => by
    simp only [Rv] at h ⊢
    obtain ⟨a, rfl, h1⟩ := h
    exact ⟨a, rfl, get_pre e.pre h1⟩
  | .scr xs, _, h => by
    simp only [Rv] at h ⊢
    obtain ⟨a, rfl, h1⟩ := h
    exact ⟨a, rfl, h1.imp (fun z => ⟨e.sub a z.1, e.rd out z.1 z.2⟩) id⟩
  | .wtp xs, _, h => by
    simp only [Rv] at h ⊢
    obtain ⟨a, vs, rfl, h1, h2⟩ := h
    exact ⟨a, vs, rfl, h1, Rvs.mono e out xs vs h2⟩
  | .clo l xs, _, h => by
    simp only [Rv] at h ⊢
    obtain ⟨f, cl, c, vs, rfl, h1, h2, h3, h4, h5, h6⟩ := h
    exact ⟨f, cl, c, vs, rfl, e.sub f h1, e.stay out h1 h2 (cloO_ne), e.sub c h3, e.stay out h3 h4 (fun ps => LamX.codeO_ne ps), h5.mono e out, Rvs.mono (e.cut cl) (fun a h z => out a h z.1) xs vs h6⟩
theorem Rvs.mono {K : PySem.W.Frag} {G : Gc} {ρ ρ1 : List Addr} {S S1 : Addr → Prop} {H H1 : Hp} (e : Ext ρ S H ρ1 S1 H1) (out : ∀ a ∈ ρ, ¬ S a) : ∀ (xs : List Va) (vs : List V), Rvs K G ρ S H xs vs → Rvs K G ρ1 S1 H1 xs vs
  | [], _, h => by simpa only [Rvs] using h
  | x :: r, _, h => by
    simp only [Rvs] at h ⊢
    obtain ⟨v, s, rfl, h1, h2⟩ := h
    exact ⟨v, s, rfl, Rv.mono e out x v h1, Rvs.mono e out r s h2⟩
theorem RvK.mono {K : PySem.W.Frag} {G : Gc} {ρ ρ1 : List Addr} {S S1 : Addr → Prop} {H H1 : Hp} (e : Ext ρ S H ρ1 S1 H1) (out : ∀ a ∈ ρ, ¬ S a) : ∀ (xs : List (Va × Va)) (vs : List (Key × V)), RvK K G ρ S H xs vs → RvK K G ρ1 S1 H1 xs vs
  | [], _, h => by simpa only [RvK] using h
  | (k, x) :: r, _, h => by
    simp only [RvK] at h ⊢
    obtain ⟨q, v, s, rfl, h0, h1, h2⟩ := h
    exact ⟨q, v, s, rfl, h0, Rv.mono e out x v h1, RvK.mono e out r s h2⟩
theorem RvT.mono {K : PySem.W.Frag} {G : Gc} {ρ ρ1 : List Addr} {S S1 : Addr → Prop} {H H1 : Hp} (e : Ext ρ S H ρ1 S1 H1) (out : ∀ a ∈ ρ, ¬ S a) : ∀ (xs : List (Va × Va)) (vs : List (List Key × V)), RvT K G ρ S H xs vs → RvT K G ρ1 S1 H1 xs vs
  | [], _, h => by simpa only [RvT] using h
  | (k, x) :: r, _, h => by
    simp only [RvT] at h ⊢
    obtain ⟨q, v, s, rfl, h0, h1, h2⟩ := h
    exact ⟨q, v, s, rfl, h0, Rv.mono e out x v h1, RvT.mono e out r s h2⟩
theorem RvF.mono {K : PySem.W.Frag} {G : Gc} {ρ ρ1 : List Addr} {S S1 : Addr → Prop} {H H1 : Hp} (e : Ext ρ S H ρ1 S1 H1) (out : ∀ a ∈ ρ, ¬ S a) : ∀ (xs : List (Sg × Va)) (vs : List (Str × V)), RvF K G ρ S H xs vs → RvF K G ρ1 S1 H1 xs vs
  | [], _, h => by simpa only [RvF] using h
  | (k, x) :: r, _, h => by
    simp only [RvF] at h ⊢
    obtain ⟨v, s, rfl, h1, h2⟩ := h
    exact ⟨v, s, rfl, Rv.mono e out x v h1, RvF.mono e out r s h2⟩
end
end
end Vm
end
section
set_option Elab.async false
set_option linter.all false
set_option autoImplicit false
set_option maxRecDepth 100000
/-! SimE: expressions. -/
namespace Vm
open PySem PySem.Spec PyProof.Rows L2

/-- an error's fields: no dict of its own, or a dict that holds them -/
def XAt (K : PySem.W.Frag) (G : Gc) (ρ : List Addr) (S : Addr → Prop) (H : Hp) (fs : List (Sg × Va)) : Option Addr → Prop
  | none => fs = []
  | some d => ∃ ps, H d = some (.xd ps) ∧ RvF K G ρ S H fs ps
abbrev Rx (α β : Type) := List Addr → (Addr → Prop) → Hp → α → β → Prop
section
variable (K : PySem.W.Frag) (G : Gc) {α β : Type} (rel : Rx α β)
/-- what is wanted behind a piece: Q of its value, W of its error -/
def Sat (ρ : List Addr) (S : Addr → Prop) (env : Env) (σ : L2.St) (H : Hp) (W : WX) (Q : β → Hp → Prop) : Res α → Prop
  | .ok w m => ∀ ρ' S' H' v, Ext ρ S H ρ' S' H' → Rel K G ρ' S' H' env m σ → rel ρ' S' H' w v → Q v H'
  | .er c fs m => ∀ ρ' S' H' d, Ext ρ S H ρ' S' H' → Rel K G ρ' S' H' env m σ → XAt K G ρ' S' H' fs d → W (.ref (G.ca c)) d σ H'
  | .no => False
def tX (W : WX) (f : Env → M α) : L2.St → Hp → (β → Hp → Prop) → Prop := fun σ H Q => ∃ ρ S env mem, Rel K G ρ S H env mem σ ∧ Sat K G rel ρ S env σ H W Q (f env mem)
end
def Req {α : Type} : Rx α α := fun _ _ _ a b => a = b
abbrev tE (K : PySem.W.Frag) (G : Gc) (W : WX) (f : Env → M Va) : TE := tX K G (Rv K G) W f
abbrev tT (K : PySem.W.Frag) (G : Gc) (W : WX) (f : Env → M Bool) : TT := tX K G Req W f
abbrev tA (K : PySem.W.Frag) (G : Gc) (W : WX) (f : Env → M (List Va)) : TA := tX K G (Rvs K G) W f
/-- e is met by f -/
abbrev SE (X : Cx) (G : Gc) (W : WX) (e : Expr) (f : Env → M Va) : Prop := PE X e (tE X.K G W f)
abbrev ST (X : Cx) (G : Gc) (W : WX) (e : Expr) (f : Env → M Bool) : Prop := PT X e (tT X.K G W f)
abbrev SA (X : Cx) (G : Gc) (W : WX) (es : List Expr) (f : Env → M (List Va)) : Prop := PA X es (tA X.K G W f)
theorem PE.imp {X : Cx} {e : Expr} {t t' : TE} (h : PE X e t) (i : ∀ σ H Q, t' σ H Q → t σ H Q) : PE X e t' := ⟨fun pins s σ H Q I q => h.run pins s σ H Q I (i σ H Q q)⟩
theorem PT.imp {X : Cx} {e : Expr} {t t' : TT} (h : PT X e t) (i : ∀ σ H Q, t' σ H Q → t σ H Q) : PT X e t' := ⟨fun pins s σ H Q I q => h.run pins s σ H Q I (i σ H Q q)⟩
theorem PA.imp {X : Cx} {e : List Expr} {t t' : TA} (h : PA X e t) (i : ∀ σ H Q, t' σ H Q → t σ H Q) : PA X e t' := ⟨fun pos pins s σ H Q I q => h.run pos pins s σ H Q I (i σ H Q q)⟩

section
variable {K : PySem.W.Frag} {G : Gc} {ρ ρ1 ρ2 : List Addr} {S S1 S2 : Addr → Prop} {H H1 H2 : Hp} {env : Env} {mem mem1 : Mem} {σ : L2.St} {W : WX} {α β γ δ : Type} {rel : Rx α β} {rel2 : Rx γ δ}
theorem Sat.ext {Q : β → Hp → Prop} (e : Ext ρ S H ρ1 S1 H1) : ∀ {r : Res α}, Sat K G rel ρ S env σ H W Q r → Sat K G rel ρ1 S1 env σ H1 W Q r
  | .ok _ _, h => fun ρ2 S2 H2 v2 e2 R2 rv2 => h ρ2 S2 H2 v2 (e.trans e2) R2 rv2
  | .er _ _ _, h => fun ρ2 S2 H2 d e2 R2 x => h ρ2 S2 H2 d (e.trans e2) R2 x
  | .no, h => h
/-- from one piece to the next -/
theorem Sat.bind {f : α → Mem → Res γ} {Q : δ → Hp → Prop} : ∀ {r : Res α}, Sat K G rel2 ρ S env σ H W Q (r.bind f) →
    Sat K G rel ρ S env σ H W (fun v H1 => ∃ ρ1 S1 w m1, Ext ρ S H ρ1 S1 H1 ∧ Rel K G ρ1 S1 H1 env m1 σ ∧ rel ρ1 S1 H1 w v ∧ Sat K G rel2 ρ1 S1 env σ H1 W Q (f w m1)) r
  | .ok w m, h => fun ρ1 S1 H1 v e R rv => ⟨ρ1, S1, w, m, e, R, rv, Sat.ext e (r := f w m) h⟩
  | .er c fs m, h => h
  | .no, h => h
theorem Sat.imp {Q Q' : β → Hp → Prop} (i : ∀ v H', Q v H' → Q' v H') : ∀ {r : Res α}, Sat K G rel ρ S env σ H W Q r → Sat K G rel ρ S env σ H W Q' r
  | .ok _ _, h => fun ρ2 S2 H2 v2 e2 R2 rv2 => i _ _ (h ρ2 S2 H2 v2 e2 R2 rv2)
  | .er _ _ _, h => h
  | .no, h => h
theorem tX.of {f : Env → M α} {Q : β → Hp → Prop} (R : Rel K G ρ S H env mem σ) (h : Sat K G rel ρ S env σ H W Q (f env mem)) : tX K G rel W f σ H Q := ⟨ρ, S, env, mem, R, h⟩
theorem Rel.out' (R : Rel K G ρ S H env mem σ) : ∀ a ∈ ρ, ¬ S a := R.out
/-- two pieces, then an operation on their values: h is what the operation wants -/
theorem tX.two {fa fb : Env → M Va} {op : Va → Va → M α} {Q : β → Hp → Prop} {P : V → V → Hp → Prop}
    (hop : ∀ ρ S mem H x y v u, Rel K G ρ S H env mem σ → Rv K G ρ S H x v → Rv K G ρ S H y u → Sat K G rel ρ S env σ H W Q (op x y mem) → P v u H)
    (R : Rel K G ρ S H env mem σ) (h : Sat K G rel ρ S env σ H W Q ((do let x ← fa env; let y ← fb env; op x y : M α) mem)) :
    tE K G W fa σ H fun x H1 => tE K G W fb σ H1 fun y H2 => P x y H2 := by
  refine tX.of R ((Sat.bind h).imp fun v H1 ⟨ρ1, S1, w, m1, e1, R1, r1, h1⟩ => ?_)
  refine tX.of R1 ((Sat.bind h1).imp fun u H2 ⟨ρ2, S2, w2, m2, e2, R2, r2, h2⟩ => ?_)
  exact hop ρ2 S2 m2 H2 w w2 v u R2 (Rv.mono e2 R1.out _ _ r1) r2 h2
theorem tX.one {fa : Env → M Va} {op : Va → M α} {Q : β → Hp → Prop} {P : V → Hp → Prop}
    (hop : ∀ ρ S mem H x v, Rel K G ρ S H env mem σ → Rv K G ρ S H x v → Sat K G rel ρ S env σ H W Q (op x mem) → P v H)
    (R : Rel K G ρ S H env mem σ) (h : Sat K G rel ρ S env σ H W Q ((do let x ← fa env; op x : M α) mem)) : tE K G W fa σ H P :=
  tX.of R ((Sat.bind h).imp fun v H1 ⟨ρ1, S1, w, m1, e1, R1, r1, h1⟩ => hop ρ1 S1 m1 H1 w v R1 r1 h1)
theorem tX.args {fa : Env → M (List Va)} {op : List Va → M α} {Q : β → Hp → Prop} {P : List V → Hp → Prop}
    (hop : ∀ ρ S mem H x v, Rel K G ρ S H env mem σ → Rvs K G ρ S H x v → Sat K G rel ρ S env σ H W Q (op x mem) → P v H)
    (R : Rel K G ρ S H env mem σ) (h : Sat K G rel ρ S env σ H W Q ((do let x ← fa env; op x : M α) mem)) : tA K G W fa σ H P :=
  tX.of R ((Sat.bind h).imp fun v H1 ⟨ρ1, S1, w, m1, e1, R1, r1, h1⟩ => hop ρ1 S1 m1 H1 w v R1 r1 h1)
end

/-! ### names, constants -/
section
variable {X : Cx} {G : Gc} {W : WX} {pos : Pos}
theorem sim_var {i : Nat} {x : Str} (hN : X.N[i]? = some x) (hv : Vis X.env.scope x) (hd : (x == ("__debug__" : Str)) = false := by decide) (hcd : (x == ("__classdict__" : Str)) = false := by decide) : SE X G W (.Name x pos) (eVar i) := by
  refine PE.imp (pe_var hN hv hd hcd) fun σ H Q h => ?_
  obtain ⟨ρ, S, env, mem, R, h⟩ := h
  unfold eVar at h
  cases e : env[i]? with
  | none => rw [e] at h; exact h.elim
  | some o =>
    cases o with
    | none => rw [e] at h; exact h.elim
    | some x =>
      rw [e] at h
      obtain ⟨v, hs, rv⟩ := R.slot i x e
      exact ⟨v, hs, h ρ S H v Ext.refl R rv⟩
/-- a value that stands for v wherever -/
def Fix (K : PySem.W.Frag) (G : Gc) (x : Va) (v : V) : Prop := ∀ ρ S H, Rv K G ρ S H x v
theorem sim_C {e : Expr} {x : Va} {v : V} (h : PE X e (tC v)) (hf : Fix X.K G x v) : SE X G W e (eC x) :=
  PE.imp h fun σ H Q ⟨ρ, S, env, mem, R, h⟩ => h ρ S H v Ext.refl R (hf ρ S H)
theorem sim_int {i j} : SE X G W (.Constant (.int i) j pos) (eC (.int i)) := sim_C pe_int fun _ _ _ => by simp only [Rv]
theorem sim_bl {b j} : SE X G W (.Constant (.bool b) j pos) (eC (.bl b)) := sim_C pe_bl fun _ _ _ => by simp only [Rv]
theorem sim_non {j} : SE X G W (.Constant .none j pos) (eC .non) := sim_C pe_non fun _ _ _ => by simp only [Rv]
theorem sim_str {x : Str} {y : Sg} {j} (h : x = sg y) : SE X G W (.Constant (.str x) j pos) (eC (.str y)) := sim_C pe_str fun _ _ _ => by simp only [Rv, h]
theorem sim_glob {x : Str} {y : Va} {v : V} {u : Value} (hg : Gl X x) (hm : X.mg x = some u) (r : RelV v u) (hf : Fix X.K G y v) (hd : (x == ("__debug__" : Str)) = false := by decide) : SE X G W (.Name x pos) (eC y) := sim_C (pe_glob hg hm r hd) hf
theorem sim_bltn {x : Str} {y : Va} {v : V} {u : Value} (hg : Gl X x) (hm : X.mg x = none) (hv : bootBuiltins x = some u) (r : RelV v u) (hf : Fix X.K G y v) (hn : x ≠ "__name__" := by decide) (hd : (x == ("__debug__" : Str)) = false := by decide) :
    SE X G W (.Name x pos) (eC y) := sim_C (pe_bltn hg hm hv r hn hd) hf
end

/-! ### operators -/
/-- the operation op is met by the reading r -/
def OpS (K : PySem.W.Frag) (op : Va → Va → M Va) (r : R2) : Prop :=
  ∀ (G : Gc) (W : WX) (ρ : List Addr) (S : Addr → Prop) (env : Env) (σ : L2.St) (mem : Mem) (H : Hp) (x y : Va) (v u : V) (Q : VK), Rel K G ρ S H env mem σ → Rv K G ρ S H x v → Rv K G ρ S H y u →
    Sat K G (Rv K G) ρ S env σ H W Q (op x y mem) → r v u H Q
def UnS (K : PySem.W.Frag) (op : Va → M Va) (r : V → Hp → VK → Prop) : Prop :=
  ∀ (G : Gc) (W : WX) (ρ : List Addr) (S : Addr → Prop) (env : Env) (σ : L2.St) (mem : Mem) (H : Hp) (x : Va) (v : V) (Q : VK), Rel K G ρ S H env mem σ → Rv K G ρ S H x v →
    Sat K G (Rv K G) ρ S env σ H W Q (op x mem) → r v H Q
section
variable {X : Cx} {G : Gc} {W : WX} {pos : Pos} {a b c : Expr} {fa fb fc : Env → M Va} {op op' : Va → Va → M Va} {r r' : R2}
theorem sim_op {o : Operator} (ho : OpR X (binaryOp o) r) (hs : OpS X.K op r) (ha : SE X G W a fa) (hb : SE X G W b fb) : SE X G W (.BinOp a o b pos) (eOp op fa fb) :=
  PE.imp (pe_op ho ha hb) fun σ H Q ⟨ρ, S, env, mem, R, h⟩ => tX.two (fun ρ S mem H x y v u R r1 r2 q => hs G W ρ S env σ mem H x y v u Q R r1 r2 q) R h
theorem sim_un {o : UnaryOp} {op : Va → M Va} {r : V → Hp → VK → Prop} (ho : UnR X (unaryOp o) r) (hs : UnS X.K op r) (ha : SE X G W a fa) : SE X G W (.UnaryOp o a pos) (eUn op fa) :=
  PE.imp (pe_un ho ha) fun σ H Q ⟨ρ, S, env, mem, R, h⟩ => tX.one (fun ρ S mem H x v R r1 q => hs G W ρ S env σ mem H x v Q R r1 q) R h
theorem sim_cmp {o : CmpOp} (ho : OpR X (compareOp o) r) (hs : OpS X.K op r) (ha : SE X G W a fa) (hb : SE X G W b fb) (hm : behindInMarks o b = false) : SE X G W (.Compare a [o] [b] pos) (eOp op fa fb) :=
  PE.imp (pe_cmpR ho ha hb hm) fun σ H Q ⟨ρ, S, env, mem, R, h⟩ => tX.two (fun ρ S mem H x y v u R r1 r2 q => hs G W ρ S env σ mem H x y v u Q R r1 r2 q) R h
end
end Vm
end
section
set_option Elab.async false
set_option linter.all false
set_option autoImplicit false
set_option maxRecDepth 100000
/-! SimOps: operators. -/
namespace Vm
open PySem PySem.Spec PyProof.Rows L2

theorem OpR.or {X : Cx} {f : Value → Value → Sem Value} {r r' : R2} (h : OpR X f r) (h' : OpR X f r') : OpR X f fun x y H Q => r x y H Q ∨ r' x y H Q :=
  fun pins s σ H x y v u Q I rx ry q => q.elim (fun z => h pins s σ H x y v u Q I rx ry z) fun z => h' pins s σ H x y v u Q I rx ry z
theorem line_eq : line = sizeLine := by rw [sizeLine_eq]

section
variable {K : PySem.W.Frag} {G : Gc} {ρ : List Addr} {S : Addr → Prop} {H : Hp} {env : Env} {mem : Mem} {σ : L2.St} {W : WX} {α β : Type} {rel : Rx α β}
/-- a value at once -/
theorem sat_pure {Q : β → Hp → Prop} {w : α} {v : β} (R : Rel K G ρ S H env mem σ) (h : Sat K G rel ρ S env σ H W Q (.ok w mem)) (r : rel ρ S H w v) : Q v H := h ρ S H v Ext.refl R r
theorem rvs_length : ∀ {xs : List Va} {vs : List V}, Rvs K G ρ S H xs vs → vs.length = xs.length
  | [], vs, h => by simp only [Rvs] at h; subst h; rfl
  | x :: r, vs, h => by
    simp only [Rvs] at h
    obtain ⟨v, s, rfl, _, h2⟩ := h
    simp only [List.length_cons, rvs_length h2]
theorem rvs_append : ∀ {xs ys : List Va} {vs us : List V}, Rvs K G ρ S H xs vs → Rvs K G ρ S H ys us → Rvs K G ρ S H (xs ++ ys) (vs ++ us)
  | [], ys, vs, us, h, h' => by simp only [Rvs] at h; subst h; exact h'
  | x :: r, ys, vs, us, h, h' => by
    simp only [Rvs] at h
    obtain ⟨v, s, rfl, h1, h2⟩ := h
    simp only [List.cons_append, Rvs]
    exact ⟨v, s ++ us, rfl, h1, rvs_append h2 h'⟩
theorem rvs_get : ∀ {xs : List Va} {vs : List V} {i : Nat} {x : Va}, Rvs K G ρ S H xs vs → xs[i]? = some x → ∃ v, vs[i]? = some v ∧ Rv K G ρ S H x v
  | [], vs, i, x, h, e => by simp at e
  | y :: r, vs, 0, x, h, e => by
    simp only [Rvs] at h
    obtain ⟨v, s, rfl, h1, h2⟩ := h
    simp at e; subst e
    exact ⟨v, rfl, h1⟩
  | y :: r, vs, i + 1, x, h, e => by
    simp only [Rvs] at h
    obtain ⟨v, s, rfl, h1, h2⟩ := h
    have := rvs_get (i := i) (x := x) h2 (by simpa using e)
    simpa using this
theorem rvs_nil : Rvs K G ρ S H [] [] := by simp only [Rvs]
theorem rvs_cons {x : Va} {r : List Va} {v : V} {s : List V} (h : Rv K G ρ S H x v) (h' : Rvs K G ρ S H r s) : Rvs K G ρ S H (x :: r) (v :: s) := by
  simp only [Rvs]; exact ⟨v, s, rfl, h, h'⟩

/-! ### a new object that is kept for good -/
theorem ext_new {p : Addr} {o : HO} (hp : H p = none) : Ext ρ S H ρ (fun a => S a ∨ a = p) (upd H p o) where
  pre := ⟨[], by simp⟩
  sub := fun _ h => .inl h
  old := fun a o' h _ _ => by rw [upd_ne (ne_of_none h hp)]; exact h
  trk := fun a h => by
    by_cases e : a = p
    · subst e; exact hp
    · rw [upd_ne e] at h; exact h
  src := fun a h => h.elim .inl fun e => .inr (.inl (e ▸ hp))
  new := fun _ h => .inl h
theorem codeO_stay {H H' : Hp} {T : List (Addr × Str)} (t : LamX.Tabs T H) (e : ∀ b o, H b = some o → H' b = some o) : LamX.Tabs T H' := t.ext e
theorem RvC.mono {ρ1 : List Addr} {S1 : Addr → Prop} {H1 : Hp} (e : Ext ρ S H ρ1 S1 H1) (out : ∀ a ∈ ρ, ¬ S a) {a : Addr} (ha : ∀ o, H a = some o → H1 a = some o) : ∀ {c : Cell}, RvC K G ρ S H a c → RvC K G ρ1 S1 H1 a c
  | .lst xs, h => by
    obtain ⟨vs, h1, h2⟩ := h
    exact ⟨vs, ha _ h1, Rvs.mono e out _ _ h2⟩
  | .dct t kvs, h => by
    rcases h with ⟨ht, ps, h1, h2⟩ | ⟨ht, ps, h1, h2⟩
    · exact .inl ⟨ht, ps, ha _ h1, RvK.mono e out _ _ h2⟩
    · exact .inr ⟨ht, ps, ha _ h1, RvT.mono e out _ _ h2⟩
  | .ins c fs, h => by
    obtain ⟨dx, ps, h1, h3⟩ := h
    exact ⟨dx, ps, ha _ h1, RvF.mono e out _ _ h3⟩
  | .cel _, h => h.elim
theorem rel_new {p : Addr} {o : HO} (R : Rel K G ρ S H env mem σ) (hp : H p = none) : Rel K G ρ (fun a => S a ∨ a = p) (upd H p o) env mem σ := by
  have e : Ext ρ S H ρ (fun a => S a ∨ a = p) (upd H p o) := ext_new hp
  have k : ∀ a o', H a = some o' → upd H p o a = some o' := fun a o' h => by rw [upd_ne (ne_of_none h hp)]; exact h
  refine ⟨⟨fun a h => ?_, fun n c h => ?_, fun a h z => ?_, R.len, R.nd, R.tabs.ext k (fun _ z => .inl z)⟩, fun i x h => ?_, R.size⟩
  · rcases h with h | rfl
    · cases q : H a with
      | none => exact absurd q (R.there a h)
      | some o' => rw [k a o' q]; simp
    · rw [upd_same]; simp
  · obtain ⟨a, h1, h2⟩ := R.cell n c h
    exact ⟨a, h1, h2.mono e R.out (fun o' => k a o')⟩
  · rcases z with z | rfl
    · exact R.out a h z
    · obtain ⟨n, hn⟩ := List.getElem?_of_mem h
      have hl : n < mem.length := by rw [← R.len]; exact (List.getElem?_eq_some_iff.mp hn).1
      obtain ⟨b, h1, h2⟩ := R.cell n mem[n] (by simp [hl])
      rw [hn] at h1; cases h1
      have : H a ≠ none := by
        revert h2
        cases mem[n] with
        | lst xs => rintro ⟨_, q, _⟩; rw [q]; simp
        | dct t kvs => rintro (⟨_, _, q, _⟩ | ⟨_, _, q, _⟩) <;> (rw [q]; simp)
        | ins c fs => rintro ⟨_, _, q, _⟩; rw [q]; simp
        | cel _ => intro q; exact q.elim
      exact this hp
  · obtain ⟨v, h1, h2⟩ := R.slot i x h
    exact ⟨v, h1, Rv.mono e R.out _ _ h2⟩
/-- a new list, a new tuple that is kept for good -/
theorem sat_lst {Q : VK} {xs : List Va} {vs : List V} {p : Addr} (R : Rel K G ρ S H env mem σ) (h : Sat K G (Rv K G) ρ S env σ H W Q (.ok (.lst xs) mem)) (r : Rvs K G ρ S H xs vs) (hp : H p = none) : Q (.ref p) (upd H p (.lst vs)) :=
  h ρ (fun a => S a ∨ a = p) _ _ (ext_new hp) (rel_new R hp) (by
    simp only [Rv]
    exact ⟨p, vs, rfl, ⟨.inr rfl, upd_same⟩, Rvs.mono (ext_new hp) R.out _ _ r⟩)
theorem sat_tup {Q : VK} {xs : List Va} {vs : List V} {p : Addr} (R : Rel K G ρ S H env mem σ) (h : Sat K G (Rv K G) ρ S env σ H W Q (.ok (.tup xs) mem)) (r : Rvs K G ρ S H xs vs) (hp : H p = none) : Q (.ref p) (upd H p (.tup vs)) :=
  h ρ (fun a => S a ∨ a = p) _ _ (ext_new hp) (rel_new R hp) (by
    simp only [Rv]
    exact ⟨p, vs, rfl, ⟨.inr rfl, upd_same⟩, Rvs.mono (ext_new hp) R.out _ _ r⟩)
/-- the items of a list -/
theorem asL_ok {x : Va} {v : V} {xs : List Va} {m : Mem} (R : Rel K G ρ S H env mem σ) (r : Rv K G ρ S H x v) (h : asL x mem = .ok xs m) : m = mem ∧ ∃ a vs, v = .ref a ∧ H a = some (.lst vs) ∧ Rvs K G ρ S H xs vs := by
  unfold asL at h
  split at h
  · cases h
    simp only [Rv] at r
    obtain ⟨a, vs, rfl, h1, h2⟩ := r
    exact ⟨rfl, a, vs, rfl, h1.2, h2⟩
  · split at h
    · rename_i n _ ys hn
      cases h
      simp only [Rv] at r
      obtain ⟨a, rfl, ha⟩ := r
      obtain ⟨b, h1, vs, h2, h3⟩ := R.cell _ _ hn
      rw [ha] at h1; cases h1
      exact ⟨rfl, a, vs, rfl, h2, h3⟩
    · cases h
  · cases h
theorem asL_case (x : Va) (m : Mem) : (∃ xs, asL x m = .ok xs m) ∨ asL x m = .no := by
  unfold asL
  split
  · exact .inl ⟨_, rfl⟩
  · split
    · exact .inl ⟨_, rfl⟩
    · exact .inr rfl
  · exact .inr rfl
end

/-! ### arithmetic -/
section
variable {X : Cx} {K : PySem.W.Frag}
def rAddV (K : PySem.W.Frag) : R2 := fun x y H Q => (rI0 (fun i j => .int (i + j)) x y H Q ∨ (∃ i j, x = .str i ∧ y = .str j ∧ i.length + j.length ≤ sizeLine ∧ Q (.str (i ++ j)) H)) ∨ (rCatT K x y H Q ∨ rCat x y H Q)
theorem op_addV : OpR X (binaryOp .Add) (rAddV X.K) := (op_add.or op_add_str).or (op_catT.or op_cat)
theorem sg_append (x y : Sg) : sg x ++ sg y = sg (x ++ y) := by
  show Str.append _ _ = _
  simp [Str.append, sg]
theorem sg_length (x : Sg) : (sg x).length = x.length := by simp [Str.length, sg]
theorem oAdd_ok : OpS K oAdd (rAddV K) := by
  intro G W ρ S env σ mem H x y v u Q R r1 r2 h
  unfold oAdd at h
  split at h
  · simp only [Rv] at r1 r2
    subst r1; subst r2
    exact .inl (.inl ⟨_, _, rfl, rfl, sat_pure R h (by simp only [Rv])⟩)
  · split at h
    · rename_i hl
      simp only [Rv] at r1 r2
      subst r1; subst r2
      refine .inl (.inr ⟨_, _, rfl, rfl, by rw [sg_length, sg_length, ← line_eq]; exact hl, ?_⟩)
      rw [sg_append]
      exact sat_pure R h (by simp only [Rv])
    · exact h.elim
  · split at h
    · rename_i xs ys hl
      have q1 := r1
      simp only [Rv] at r1 r2
      obtain ⟨a, vs, rfl, h1, h2⟩ := r1
      obtain ⟨b, us, rfl, h3, h4⟩ := r2
      have e1 := rvs_length h2
      have e2 := rvs_length h4
      refine .inr (.inl ⟨a, b, vs, us, rfl, rfl, h1.sq, h3.sq, ?_, ?_, fun e => ?_, fun e p hp => ?_⟩)
      · intro z
        rw [z] at e1
        exact hl.1 (List.eq_nil_of_length_eq_zero (by simpa using e1.symm))
      · rw [e1, e2, ← line_eq]; exact hl.2
      · have : ys = [] := List.eq_nil_of_length_eq_zero (by rw [← e2, e]; rfl)
        subst this
        rw [List.append_nil] at h
        exact sat_pure R h q1
      · exact sat_tup R h (rvs_append h2 h4) hp
    · exact h.elim
  · simp only [bind_eq] at h
    rcases asL_case x mem with ⟨xs, e⟩ | e
    · rw [e] at h
      simp only [bind_ok, bind_eq] at h
      rcases asL_case y mem with ⟨ys, e'⟩ | e'
      · rw [e'] at h
        simp only [bind_ok] at h
        split at h
        · rename_i hl
          obtain ⟨_, a, vs, rfl, h1, h2⟩ := asL_ok R r1 e
          obtain ⟨_, b, us, rfl, h3, h4⟩ := asL_ok R r2 e'
          refine .inr (.inr ⟨a, b, vs, us, rfl, rfl, h1, h3, ?_, fun p hp => sat_lst R h (rvs_append h2 h4) hp⟩)
          rw [rvs_length h2, rvs_length h4, ← line_eq]; exact hl
        · exact h.elim
      · rw [e'] at h; exact h.elim
    · rw [e] at h; exact h.elim
/-- two ints -/
theorem ints_ok {op : Va → Va → M Va} {C : Int → Int → Prop} {g : Int → Int → Va} {g' : Int → Int → V} (hg : ∀ ρ S H i j (G : Gc), Rv K G ρ S H (g i j) (g' i j))
    (h : ∀ x y mem, (∃ i j, x = .int i ∧ y = .int j ∧ C i j ∧ op x y mem = .ok (g i j) mem) ∨ op x y mem = .no) : OpS K op (rI C g') := by
  intro G W ρ S env σ mem H x y v u Q R r1 r2 q
  rcases h x y mem with ⟨i, j, rfl, rfl, c, e⟩ | e
  · rw [e] at q
    simp only [Rv] at r1 r2
    subst r1; subst r2
    exact ⟨i, j, rfl, rfl, c, sat_pure R q (hg ρ S H i j G)⟩
  · rw [e] at q; exact q.elim
theorem ints0_ok {op : Va → Va → M Va} {g : Int → Int → Va} {g' : Int → Int → V} (hg : ∀ ρ S H i j (G : Gc), Rv K G ρ S H (g i j) (g' i j))
    (h : ∀ x y mem, (∃ i j, x = .int i ∧ y = .int j ∧ op x y mem = .ok (g i j) mem) ∨ op x y mem = .no) : OpS K op (rI0 g') := by
  intro G W ρ S env σ mem H x y v u Q R r1 r2 q
  rcases h x y mem with ⟨i, j, rfl, rfl, e⟩ | e
  · rw [e] at q
    simp only [Rv] at r1 r2
    subst r1; subst r2
    exact ⟨i, j, rfl, rfl, sat_pure R q (hg ρ S H i j G)⟩
  · rw [e] at q; exact q.elim
theorem oSub_ok : OpS K oSub (rI0 fun i j => .int (i - j)) := ints0_ok (g := fun i j => .int (i - j)) (fun _ _ _ _ _ _ => by simp only [Rv]) fun x y mem => by
  unfold oSub; split
  · exact .inl ⟨_, _, rfl, rfl, rfl⟩
  · exact .inr rfl
theorem oMod_ok : OpS K oMod (rI (fun _ j => 0 < j) fun i j => .int (i % j)) := ints_ok (g := fun i j => .int (i % j)) (fun _ _ _ _ _ _ => by simp only [Rv]) fun x y mem => by
  unfold oMod; split
  · split
    · rename_i h; exact .inl ⟨_, _, rfl, rfl, h, rfl⟩
    · exact .inr rfl
  · exact .inr rfl
theorem oDiv_ok : OpS K oDiv (rI CDiv fun i j => .int (i / j)) := ints_ok (g := fun i j => .int (i / j)) (fun _ _ _ _ _ _ => by simp only [Rv]) fun x y mem => by
  unfold oDiv; split
  · split
    · rename_i h; exact .inl ⟨_, _, rfl, rfl, h, rfl⟩
    · exact .inr rfl
  · exact .inr rfl
theorem oPow_ok : OpS K oPow (rI CPow fun i j => .int (i ^ j.toNat)) := ints_ok (g := fun i j => .int (i ^ j.toNat)) (fun _ _ _ _ _ _ => by simp only [Rv]) fun x y mem => by
  unfold oPow; split
  · split
    · rename_i h
      exact .inl ⟨_, _, rfl, rfl, ⟨h.1, Int.le_trans h.2.1 (by decide), Nat.lt_of_lt_of_le h.2.2 (by decide)⟩, rfl⟩
    · exact .inr rfl
  · exact .inr rfl
theorem oLt_ok : OpS K oLt (rI0 fun i j => .bl (decide (i < j))) := ints0_ok (g := fun i j => .bl (decide (i < j))) (fun _ _ _ _ _ _ => by simp only [Rv]) fun x y mem => by
  unfold oLt; split
  · exact .inl ⟨_, _, rfl, rfl, rfl⟩
  · exact .inr rfl
theorem oLe_ok : OpS K oLe (rI0 fun i j => .bl (decide (i ≤ j))) := ints0_ok (g := fun i j => .bl (decide (i ≤ j))) (fun _ _ _ _ _ _ => by simp only [Rv]) fun x y mem => by
  unfold oLe; split
  · exact .inl ⟨_, _, rfl, rfl, rfl⟩
  · exact .inr rfl
theorem oGt_ok : OpS K oGt (rI0 fun i j => .bl (decide (j < i))) := ints0_ok (g := fun i j => .bl (decide (j < i))) (fun _ _ _ _ _ _ => by simp only [Rv]) fun x y mem => by
  unfold oGt; split
  · exact .inl ⟨_, _, rfl, rfl, rfl⟩
  · exact .inr rfl
theorem oGe_ok : OpS K oGe (rI0 fun i j => .bl (decide (j ≤ i))) := ints0_ok (g := fun i j => .bl (decide (j ≤ i))) (fun _ _ _ _ _ _ => by simp only [Rv]) fun x y mem => by
  unfold oGe; split
  · exact .inl ⟨_, _, rfl, rfl, rfl⟩
  · exact .inr rfl
theorem oNeg_ok : UnS K oNeg (rU fun i => .int (-i)) := by
  intro G W ρ S env σ mem H x v Q R r1 q
  unfold oNeg at q
  split at q
  · simp only [Rv] at r1
    subst r1
    exact ⟨_, rfl, sat_pure R q (by simp only [Rv])⟩
  · exact q.elim
def rMulV : R2 := fun x y H Q => rI CMul (fun i j => .int (i * j)) x y H Q ∨ rRep x y H Q
theorem op_mulV : OpR X (binaryOp .Mult) rMulV := op_mul.or op_rep
theorem rvs_rep {G : Gc} {ρ : List Addr} {S : Addr → Prop} {H : Hp} {xs : List Va} {vs : List V} (h : Rvs K G ρ S H xs vs) : ∀ n : Nat, Rvs K G ρ S H (List.replicate n xs).flatten (List.replicate n vs).flatten
  | 0 => by simp only [List.replicate_zero, List.flatten_nil]; exact rvs_nil
  | n + 1 => by
    simp only [List.replicate_succ, List.flatten_cons]
    exact rvs_append h (rvs_rep h n)
theorem oMul_ok : OpS K oMul rMulV := by
  intro G W ρ S env σ mem H x y v u Q R r1 r2 h
  unfold oMul at h
  split at h
  · split at h
    · rename_i hc
      simp only [Rv] at r1 r2
      subst r1; subst r2
      refine .inl ⟨_, _, rfl, rfl, ?_, sat_pure R h (by simp only [Rv])⟩
      simp only [big] at hc
      unfold CMul
      omega
    · exact h.elim
  · simp only [bind_eq] at h
    rcases asL_case x mem with ⟨xs, e⟩ | e
    · rw [e] at h
      simp only [bind_ok] at h
      split at h
      · rename_i k hl
        obtain ⟨_, a, vs, rfl, h1, h2⟩ := asL_ok R r1 e
        simp only [Rv] at r2
        subst r2
        refine .inr ⟨a, _, vs, rfl, rfl, h1, by omega, by omega, ?_, fun p hp => sat_lst R h (rvs_rep h2 _) hp⟩
        rw [rvs_length h2, ← line_eq]; exact hl.2.2
      · exact h.elim
    · rw [e] at h; exact h.elim
  · exact h.elim
end
end Vm
end
section
set_option Elab.async false
set_option linter.all false
set_option autoImplicit false
set_option maxRecDepth 100000
/-! SimRes: values with what the memory holds put in; equality. -/
namespace Vm
open PySem PySem.Spec PyProof.Rows L2
section
variable {K : PySem.W.Frag} {G : Gc} {ρ ρ' : List Addr} {S S' : Addr → Prop} {H : Hp} {env : Env} {mem : Mem} {σ : L2.St}
theorem AtT.wide {a : Addr} {xs : List V} (hs : ∀ a, S a → S' a) (h : AtT S H a xs) : AtT S' H a xs := ⟨hs a h.1, h.2⟩
mutual
/-- a plain value hangs on no cell -/
theorem Rv.plain {K : PySem.W.Frag} {G : Gc} {ρ ρ' : List Addr} {S S' : Addr → Prop} {H : Hp} (hs : ∀ a, S a → S' a) : ∀ (x : Va) (v : V), plain x = true → Rv K G ρ S H x v → Rv K G ρ' S' H x v
  | .non, _, _, h => by simpa only [Rv] using h
  | .bl _, _, _, h => by simpa only [Rv] using h
  | .int _, _, _, h => by simpa only [Rv] using h
  | .str _, _, _, h => by simpa only [Rv] using h
  | .ty _, _, _, h => by simpa only [Rv] using h
  | .fn _, _, _, h => by simpa only [Rv] using h
  | .tup xs, _, p, h => by
    simp only [Rv] at h ⊢
    simp only [Vm.plain] at p
    obtain ⟨a, vs, rfl, h1, h2⟩ := h
    exact ⟨a, vs, rfl, h1.wide hs, Rvs.plain hs xs vs p h2⟩
  | .lst xs, _, p, h => by
    simp only [Rv] at h ⊢
    simp only [Vm.plain] at p
    obtain ⟨a, vs, rfl, h1, h2⟩ := h
    exact ⟨a, vs, rfl, ⟨hs a h1.1, h1.2⟩, Rvs.plain hs xs vs p h2⟩
  | .dct t kvs, _, p, h => by
    simp only [Rv] at h ⊢
    simp only [Vm.plain] at p
    obtain ⟨a, rfl, h0, h⟩ := h
    refine ⟨a, rfl, hs a h0, ?_⟩
    rcases h with ⟨ht, ps, h1, h2⟩ | ⟨ht, ps, h1, h2⟩
    · exact .inl ⟨ht, ps, h1, RvK.plain hs kvs ps p h2⟩
    · exact .inr ⟨ht, ps, h1, RvT.plain hs kvs ps p h2⟩
  | .obj c fs, _, p, h => by
    simp only [Rv] at h ⊢
    simp only [Vm.plain] at p
    obtain ⟨a, ps, rfl, h1, h3, h4⟩ := h
    exact ⟨a, ps, rfl, hs a h1, h3.sub hs, RvF.plain hs fs ps p h4⟩
  | .ref n, _, p, h => by simp only [Vm.plain] at p; cases p
  | .scr xs, _, p, h => by
    simp only [Rv] at h ⊢
    obtain ⟨a, rfl, h1⟩ := h
    exact ⟨a, rfl, h1.imp (fun z => ⟨hs a z.1, z.2⟩) id⟩
  | .wtp xs, _, p, h => by
    simp only [Rv] at h ⊢
    simp only [Vm.plain] at p
    obtain ⟨a, vs, rfl, h1, h2⟩ := h
    exact ⟨a, vs, rfl, h1, Rvs.plain hs xs vs p h2⟩
  | .clo l xs, _, p, h => by
    simp only [Rv] at h ⊢
    simp only [Vm.plain] at p
    obtain ⟨f, cl, c, vs, rfl, h1, h2, h3, h4, h5, h6⟩ := h
    exact ⟨f, cl, c, vs, rfl, hs f h1, h2, hs c h3, h4, h5.sub hs, Rvs.plain (fun a z => ⟨hs a z.1, z.2⟩) xs vs p h6⟩
theorem Rvs.plain {K : PySem.W.Frag} {G : Gc} {ρ ρ' : List Addr} {S S' : Addr → Prop} {H : Hp} (hs : ∀ a, S a → S' a) : ∀ (xs : List Va) (vs : List V), plains xs = true → Rvs K G ρ S H xs vs → Rvs K G ρ' S' H xs vs
  | [], _, _, h => by simpa only [Rvs] using h
  | x :: r, _, p, h => by
    simp only [Rvs] at h ⊢
    simp only [plains, Bool.and_eq_true] at p
    obtain ⟨v, s, rfl, h1, h2⟩ := h
    exact ⟨v, s, rfl, Rv.plain hs x v p.1 h1, Rvs.plain hs r s p.2 h2⟩
theorem RvK.plain {K : PySem.W.Frag} {G : Gc} {ρ ρ' : List Addr} {S S' : Addr → Prop} {H : Hp} (hs : ∀ a, S a → S' a) : ∀ (xs : List (Va × Va)) (vs : List (Key × V)), plainK xs = true → RvK K G ρ S H xs vs → RvK K G ρ' S' H xs vs
  | [], _, _, h => by simpa only [RvK] using h
  | (k, x) :: r, _, p, h => by
    simp only [RvK] at h ⊢
    simp only [plainK, Bool.and_eq_true] at p
    obtain ⟨q, v, s, rfl, h0, h1, h2⟩ := h
    exact ⟨q, v, s, rfl, h0, Rv.plain hs x v p.1.2 h1, RvK.plain hs r s p.2 h2⟩
theorem RvT.plain {K : PySem.W.Frag} {G : Gc} {ρ ρ' : List Addr} {S S' : Addr → Prop} {H : Hp} (hs : ∀ a, S a → S' a) : ∀ (xs : List (Va × Va)) (vs : List (List Key × V)), plainK xs = true → RvT K G ρ S H xs vs → RvT K G ρ' S' H xs vs
  | [], _, _, h => by simpa only [RvT] using h
  | (k, x) :: r, _, p, h => by
    simp only [RvT] at h ⊢
    simp only [plainK, Bool.and_eq_true] at p
    obtain ⟨q, v, s, rfl, h0, h1, h2⟩ := h
    exact ⟨q, v, s, rfl, h0, Rv.plain hs x v p.1.2 h1, RvT.plain hs r s p.2 h2⟩
theorem RvF.plain {K : PySem.W.Frag} {G : Gc} {ρ ρ' : List Addr} {S S' : Addr → Prop} {H : Hp} (hs : ∀ a, S a → S' a) : ∀ (xs : List (Sg × Va)) (vs : List (Str × V)), plainF xs = true → RvF K G ρ S H xs vs → RvF K G ρ' S' H xs vs
  | [], _, _, h => by simpa only [RvF] using h
  | (k, x) :: r, _, p, h => by
    simp only [RvF] at h ⊢
    simp only [plainF, Bool.and_eq_true] at p
    obtain ⟨v, s, rfl, h1, h2⟩ := h
    exact ⟨v, s, rfl, Rv.plain hs x v p.1 h1, RvF.plain hs r s p.2 h2⟩
end
/-- what is kept for good once the cells are changed no more -/
def Sfr (ρ : List Addr) (S : Addr → Prop) : Addr → Prop := fun a => S a ∨ a ∈ ρ
theorem mapO_cons {α β : Type} {f : α → Option β} {x : α} {r : List α} {ys : List β} (h : mapO f (x :: r) = some ys) : ∃ y s, f x = some y ∧ mapO f r = some s ∧ ys = y :: s := by
  unfold mapO at h
  split at h
  · split at h
    · cases h; exact ⟨_, _, by assumption, by assumption, rfl⟩
    · cases h
  · cases h
theorem mapO_nil {α β : Type} {f : α → Option β} {ys : List β} (h : mapO f [] = some ys) : ys = [] := by
  unfold mapO at h; cases h; rfl
theorem opt_map {α β : Type} {f : α → β} {o : Option α} {y : β} (h : o.map f = some y) : ∃ x, o = some x ∧ y = f x := by
  cases o with
  | none => cases h
  | some x => cases h; exact ⟨x, rfl, rfl⟩
theorem resolve_ok (R : RelM K G ρ S H mem) : ∀ (n : Nat) (x d : Va) (v : V), resolve n mem x = some d → Rv K G ρ S H x v → Rv K G [] (Sfr ρ S) H d v
  | 0, x, d, v, h, r => by
    unfold resolve at h
    split at h
    · rename_i p
      cases h
      exact Rv.plain (fun _ z => .inl z) x v p r
    · cases h
  | n + 1, x, d, v, h, r => by
    have ih := resolve_ok R n
    have ihs : ∀ (xs ds : List Va) (vs : List V), mapO (resolve n mem) xs = some ds → Rvs K G ρ S H xs vs → Rvs K G [] (Sfr ρ S) H ds vs := by
      intro xs
      induction xs with
      | nil =>
        intro ds vs h r
        rw [mapO_nil h]
        simpa only [Rvs] using r
      | cons x xs ihx =>
        intro ds vs h r
        obtain ⟨y, s, h1, h2, rfl⟩ := mapO_cons h
        simp only [Rvs] at r ⊢
        obtain ⟨v, s', rfl, r1, r2⟩ := r
        exact ⟨v, s', rfl, ih x y v h1 r1, ihx s s' h2 r2⟩
    unfold resolve at h
    split at h
    · rename_i p
      cases h
      exact Rv.plain (fun _ z => .inl z) x v p r
    · split at h
      · obtain ⟨ds, h1, rfl⟩ := opt_map h
        simp only [Rv] at r ⊢
        obtain ⟨a, vs, rfl, h2, h3⟩ := r
        exact ⟨a, vs, rfl, h2.wide fun _ z => .inl z, ihs _ _ _ h1 h3⟩
      · obtain ⟨ds, h1, rfl⟩ := opt_map h
        simp only [Rv] at r ⊢
        obtain ⟨a, vs, rfl, h2, h3⟩ := r
        exact ⟨a, vs, rfl, ⟨.inl h2.1, h2.2⟩, ihs _ _ _ h1 h3⟩
      · simp only [Rv] at r
        obtain ⟨a, rfl, ha⟩ := r
        have hm : a ∈ ρ := List.mem_of_getElem? ha
        split at h
        · rename_i hk
          obtain ⟨ds, h1, rfl⟩ := opt_map h
          obtain ⟨b, e, c⟩ := R.cell _ _ hk
          rw [ha] at e; cases e
          obtain ⟨vs, h2, h3⟩ := c
          simp only [Rv]
          exact ⟨a, vs, rfl, ⟨.inr hm, h2⟩, ihs _ _ _ h1 h3⟩
        · rename_i t kvs hk
          obtain ⟨ds, h1, rfl⟩ := opt_map h
          obtain ⟨b, e, c⟩ := R.cell _ _ hk
          rw [ha] at e; cases e
          simp only [Rv]
          refine ⟨a, rfl, .inr hm, ?_⟩
          rcases c with ⟨ht, ps, h2, h3⟩ | ⟨ht, ps, h2, h3⟩
          · refine .inl ⟨ht, ps, h2, ?_⟩
            clear hk h h2
            induction kvs generalizing ds ps with
            | nil => rw [mapO_nil h1]; simpa only [RvK] using h3
            | cons p r ihp =>
              obtain ⟨y, s, h4, h5, rfl⟩ := mapO_cons h1
              obtain ⟨k, x⟩ := p
              simp only at h4
              split at h4
              · obtain ⟨b, h6, rfl⟩ := opt_map h4
                simp only [RvK] at h3 ⊢
                obtain ⟨q, v, t, rfl, e0, e1, e2⟩ := h3
                exact ⟨q, v, t, rfl, e0, ih x b v h6 e1, ihp s h5 t e2⟩
              · cases h4
          · refine .inr ⟨ht, ps, h2, ?_⟩
            clear hk h h2
            induction kvs generalizing ds ps with
            | nil => rw [mapO_nil h1]; simpa only [RvT] using h3
            | cons p r ihp =>
              obtain ⟨y, s, h4, h5, rfl⟩ := mapO_cons h1
              obtain ⟨k, x⟩ := p
              simp only at h4
              split at h4
              · obtain ⟨b, h6, rfl⟩ := opt_map h4
                simp only [RvT] at h3 ⊢
                obtain ⟨q, v, t, rfl, e0, e1, e2⟩ := h3
                exact ⟨q, v, t, rfl, e0, ih x b v h6 e1, ihp s h5 t e2⟩
              · cases h4
        · rename_i c fs hk
          split at h
          case isFalse => cases h
          rename_i hc
          obtain ⟨ds, h1, rfl⟩ := opt_map h
          obtain ⟨b, e, cc⟩ := R.cell _ _ hk
          rw [ha] at e; cases e
          obtain ⟨dx, ps, h2, h4⟩ := cc
          simp only [Rv]
          refine ⟨a, ps, rfl, .inr hm, .inl ⟨hc, dx, h2⟩, ?_⟩
          clear hk h h2
          induction fs generalizing ds ps with
          | nil => rw [mapO_nil h1]; simpa only [RvF] using h4
          | cons p r ihp =>
            obtain ⟨y, s, h5, h6, rfl⟩ := mapO_cons h1
            obtain ⟨k, x⟩ := p
            simp only at h5
            obtain ⟨b, h7, rfl⟩ := opt_map h5
            simp only [RvF] at h4 ⊢
            obtain ⟨v, t, rfl, e1, e2⟩ := h4
            exact ⟨v, t, rfl, ih x b v h7 e1, ihp s h6 t e2⟩
        · cases h
      · cases h

/-! ### data -/
mutual
def toPy : Va → PyData
  | .bl b => .bool b
  | .int i => .int i
  | .str x => .str (sg x)
  | .tup xs => .tuple (toPys xs)
  | .lst xs => .list (toPys xs)
  | _ => .none
def toPys : List Va → List PyData
  | [] => []
  | x :: r => toPy x :: toPys r
end
mutual
theorem dp_ok : ∀ (x : Va) (v : V), isDat x = true → Rv K G ρ S H x v → Dp K H v (toPy x)
  | .non, _, _, h => by simp only [Rv] at h; subst h; simp only [toPy]; exact .non
  | .bl _, _, _, h => by simp only [Rv] at h; subst h; simp only [toPy]; exact .bl _
  | .int _, _, _, h => by simp only [Rv] at h; subst h; simp only [toPy]; exact .int _
  | .str _, _, _, h => by simp only [Rv] at h; subst h; simp only [toPy]; exact .str _
  | .tup xs, _, d, h => by
    simp only [Rv] at h
    simp only [isDat] at d
    obtain ⟨a, vs, rfl, h1, h2⟩ := h
    simp only [toPy]
    exact .tup h1.sq (dps_ok xs vs d h2)
  | .lst xs, _, d, h => by
    simp only [Rv] at h
    simp only [isDat] at d
    obtain ⟨a, vs, rfl, h1, h2⟩ := h
    simp only [toPy]
    exact .lst h1.sq (dps_ok xs vs d h2)
  | .ty _, _, d, _ => by simp only [isDat] at d; cases d
  | .fn _, _, d, _ => by simp only [isDat] at d; cases d
  | .dct _ _, _, d, _ => by simp only [isDat] at d; cases d
  | .obj _ _, _, d, _ => by simp only [isDat] at d; cases d
  | .ref _, _, d, _ => by simp only [isDat] at d; cases d
  | .clo _ _, _, d, _ => by simp only [isDat] at d; cases d
  | .scr _, _, d, _ => by simp only [isDat] at d; cases d
  | .wtp _, _, d, _ => by simp only [isDat] at d; cases d
theorem dps_ok : ∀ (xs : List Va) (vs : List V), isDats xs = true → Rvs K G ρ S H xs vs → DpAll K H vs (toPys xs)
  | [], _, _, h => by simp only [Rvs] at h; subst h; simp only [toPys]; exact .nil
  | x :: r, _, d, h => by
    simp only [Rvs] at h
    simp only [isDats, Bool.and_eq_true] at d
    obtain ⟨v, s, rfl, h1, h2⟩ := h
    simp only [toPys]
    exact .cons (dp_ok x v d.1 h1) (dps_ok r s d.2 h2)
end
mutual
theorem lay_ok : ∀ (x : Va), isDat x = true → (toPy x).canLay0 = true
  | .non, _ => by simp only [toPy, PyData.canLay0]
  | .bl _, _ => by simp only [toPy, PyData.canLay0]
  | .int _, _ => by simp only [toPy, PyData.canLay0]
  | .str x, d => by
    simp only [isDat] at d
    simp only [toPy, PyData.canLay0, PyData.strOk, sg]
    simpa using d
  | .tup xs, d => by
    simp only [isDat] at d
    simp only [toPy, PyData.canLay0]
    exact lays_ok xs d
  | .lst xs, d => by
    simp only [isDat] at d
    simp only [toPy, PyData.canLay0]
    exact lays_ok xs d
  | .ty _, d => by simp only [isDat] at d; cases d
  | .fn _, d => by simp only [isDat] at d; cases d
  | .dct _ _, d => by simp only [isDat] at d; cases d
  | .obj _ _, d => by simp only [isDat] at d; cases d
  | .ref _, d => by simp only [isDat] at d; cases d
  | .clo _ _, d => by simp only [isDat] at d; cases d
  | .scr _, d => by simp only [isDat] at d; cases d
  | .wtp _, d => by simp only [isDat] at d; cases d
theorem lays_ok : ∀ (xs : List Va), isDats xs = true → PyData.canLayAll0 (toPys xs) = true
  | [], _ => by simp only [toPys, PyData.canLayAll0]
  | x :: r, d => by
    simp only [isDats, Bool.and_eq_true] at d
    simp only [toPys, PyData.canLayAll0, Bool.and_eq_true]
    exact ⟨lay_ok x d.1, lays_ok r d.2⟩
end
mutual
theorem dep_ok : ∀ (x : Va), (toPy x).depth = dep x
  | .non => by simp only [toPy, PyData.depth, dep]
  | .bl _ => by simp only [toPy, PyData.depth, dep]
  | .int _ => by simp only [toPy, PyData.depth, dep]
  | .str x => by simp only [toPy, PyData.depth, dep]
  | .tup xs => by simp only [toPy, PyData.depth, dep, deps_ok xs]
  | .lst xs => by simp only [toPy, PyData.depth, dep, deps_ok xs]
  | .ty _ => by simp only [toPy, PyData.depth, dep]
  | .fn _ => by simp only [toPy, PyData.depth, dep]
  | .dct _ _ => by simp only [toPy, PyData.depth, dep]
  | .obj _ _ => by simp only [toPy, PyData.depth, dep]
  | .ref _ => by simp only [toPy, PyData.depth, dep]
  | .clo _ _ => by simp only [toPy, PyData.depth, dep]
  | .scr _ => by simp only [toPy, PyData.depth, dep]
  | .wtp _ => by simp only [toPy, PyData.depth, dep]
theorem deps_ok : ∀ (xs : List Va), PyData.depthAll (toPys xs) = deps xs
  | [] => by simp only [toPys, PyData.depthAll, deps]
  | x :: r => by simp only [toPys, PyData.depthAll, deps, dep_ok x, deps_ok r]
end
end
end Vm
end
section
set_option Elab.async false
set_option linter.all false
set_option autoImplicit false
set_option maxRecDepth 100000
/-! SimEq: comparisons. -/
namespace Vm
open PySem PySem.Spec PyProof.Rows L2
theorem sg_inj {x y : Sg} : (sg x = sg y) ↔ x = y := by simp [sg]
theorem sg_beq (x y : Sg) : (sg x == sg y) = decide (x = y) := by
  rw [Bool.eq_iff_iff, beq_iff_eq, decide_eq_true_iff]; exact sg_inj
mutual
theorem eqv_ok : ∀ (x y : Va), isDat x = true → isDat y = true → PyData.eqv (toPy x) (toPy y) = eqv x y
  | .non, y, _, hy => by cases y <;> simp only [isDat, Bool.false_eq_true] at hy <;> simp [toPy, PyData.eqv, eqv]
  | .bl a, y, _, hy => by cases y <;> simp only [isDat, Bool.false_eq_true] at hy <;> simp [toPy, PyData.eqv, eqv, Bool.beq_eq_decide_eq]
  | .int a, y, _, hy => by cases y <;> simp only [isDat, Bool.false_eq_true] at hy <;> simp [toPy, PyData.eqv, eqv, Bool.beq_eq_decide_eq]
  | .str a, y, _, hy => by cases y <;> simp only [isDat, Bool.false_eq_true] at hy <;> simp [toPy, PyData.eqv, eqv, sg_beq]
  | .tup a, y, hx, hy => by
    simp only [isDat] at hx
    cases y <;> simp only [isDat, Bool.false_eq_true] at hy <;> simp only [toPy, PyData.eqv, eqv]
    rename_i b
    exact eqvs_ok a b hx hy
  | .lst a, y, hx, hy => by
    simp only [isDat] at hx
    cases y <;> simp only [isDat, Bool.false_eq_true] at hy <;> simp only [toPy, PyData.eqv, eqv]
    rename_i b
    exact eqvs_ok a b hx hy
  | .ty _, _, d, _ => by simp only [isDat] at d; cases d
  | .fn _, _, d, _ => by simp only [isDat] at d; cases d
  | .dct _ _, _, d, _ => by simp only [isDat] at d; cases d
  | .obj _ _, _, d, _ => by simp only [isDat] at d; cases d
  | .ref _, _, d, _ => by simp only [isDat] at d; cases d
  | .clo _ _, _, d, _ => by simp only [isDat] at d; cases d
  | .scr _, _, d, _ => by simp only [isDat] at d; cases d
  | .wtp _, _, d, _ => by simp only [isDat] at d; cases d
theorem eqvs_ok : ∀ (xs ys : List Va), isDats xs = true → isDats ys = true → PyData.eqvAll (toPys xs) (toPys ys) = eqvs xs ys
  | [], [], _, _ => by simp only [toPys, PyData.eqvAll, eqvs]
  | [], _ :: _, _, _ => by simp only [toPys, PyData.eqvAll, eqvs]
  | _ :: _, [], _, _ => by simp only [toPys, PyData.eqvAll, eqvs]
  | x :: r, y :: s, hx, hy => by
    simp only [isDats, Bool.and_eq_true] at hx hy
    simp only [toPys, PyData.eqvAll, eqvs, eqv_ok x y hx.1 hy.1, eqvs_ok r s hx.2 hy.2]
end
section
variable {X : Cx} {K : PySem.W.Frag} {G : Gc} {ρ : List Addr} {S : Addr → Prop} {H : Hp} {env : Env} {mem : Mem} {σ : L2.St} {W : WX}
theorem res_case (x : Va) (m : Mem) : (∃ d, resolve deep m x = some d ∧ res x m = .ok d m) ∨ res x m = .no := by
  unfold res
  cases e : resolve deep m x with
  | none => exact .inr rfl
  | some d => exact .inl ⟨d, rfl, rfl⟩
theorem flat_V {x : Va} {v : V} (h : flat x = true) (r : Rv K G ρ S H x v) : flatV v = true ∧ ∀ y u, flat y = true → Rv K G ρ S H y u → eqV v u = eqv x y := by
  cases x with
  | non => simp only [Rv] at r; subst r; exact ⟨rfl, fun y u hy ry => by cases y <;> simp only [flat, Bool.false_eq_true] at hy <;> simp only [Rv] at ry <;> subst ry <;> rfl⟩
  | bl a => simp only [Rv] at r; subst r; exact ⟨rfl, fun y u hy ry => by cases y <;> simp only [flat, Bool.false_eq_true] at hy <;> simp only [Rv] at ry <;> subst ry <;> simp [eqV, eqv, Bool.beq_eq_decide_eq]⟩
  | int a => simp only [Rv] at r; subst r; exact ⟨rfl, fun y u hy ry => by cases y <;> simp only [flat, Bool.false_eq_true] at hy <;> simp only [Rv] at ry <;> subst ry <;> simp [eqV, eqv, Bool.beq_eq_decide_eq]⟩
  | str a => simp only [Rv] at r; subst r; exact ⟨rfl, fun y u hy ry => by cases y <;> simp only [flat, Bool.false_eq_true] at hy <;> simp only [Rv] at ry <;> subst ry <;> simp [eqV, eqv, sg_beq]⟩
  | _ => simp only [flat] at h; cases h
def rEqV (K : PySem.W.Frag) : R2 := fun x y H Q => rEq x y H Q ∨ rEqD K x y H Q
def rNeV (K : PySem.W.Frag) : R2 := fun x y H Q => rNe x y H Q ∨ rNeD K x y H Q
theorem op_eqV (hu : X.A.units + 64 < cLine) : OpR X (compareOp .Eq) (rEqV X.K) := op_eq.or (op_eqD hu)
theorem op_neV (hu : X.A.units + 64 < cLine) : OpR X (compareOp .NotEq) (rNeV X.K) := op_ne.or (op_neD hu)
/-- what a comparison of two values comes to -/
theorem eqM_case (x y : Va) (m : Mem) : (∃ b, eqM x y m = .ok b m ∧ ((flat x = true ∧ flat y = true ∧ b = eqv x y) ∨ ∃ d e, resolve deep m x = some d ∧ resolve deep m y = some e ∧ isDat d = true ∧ isDat e = true ∧ dep d ≤ 64 ∧ dep e ≤ 64 ∧ b = eqv d e)) ∨ eqM x y m = .no := by
  unfold eqM
  split
  · rename_i h
    simp only [Bool.and_eq_true] at h
    exact .inl ⟨_, rfl, .inl ⟨h.1, h.2, rfl⟩⟩
  · rcases res_case x m with ⟨d, h1, h2⟩ | h2
    · rcases res_case y m with ⟨e, h3, h4⟩ | h4
      · simp only [bind_eq, h2, h4, bind_ok]
        split
        · rename_i h
          simp only [Bool.and_eq_true, decide_eq_true_eq] at h
          exact .inl ⟨_, rfl, .inr ⟨d, e, h1, h3, h.1.1.1, h.1.1.2, h.1.2, h.2, rfl⟩⟩
        · exact .inr rfl
      · exact .inr (by simp only [bind_eq, h2, h4, bind_ok, bind_no])
    · exact .inr (by simp only [bind_eq, h2, bind_no])
theorem shaped_ok {d : Va} (h : isDat d = true) (hd : dep d ≤ 64) : SeqAt.shaped (toPy d) = true := by
  unfold SeqAt.shaped
  rw [lay_ok d h, dep_ok]
  simpa using hd
/-- .. for the model -/
theorem eqM_ok {x y : Va} {b : Bool} {v u : V} (R : Rel K G ρ S H env mem σ) (r1 : Rv K G ρ S H x v) (r2 : Rv K G ρ S H y u)
    (h : (flat x = true ∧ flat y = true ∧ b = eqv x y) ∨ ∃ d e, resolve deep mem x = some d ∧ resolve deep mem y = some e ∧ isDat d = true ∧ isDat e = true ∧ dep d ≤ 64 ∧ dep e ≤ 64 ∧ b = eqv d e) :
    (scal v u = true ∧ decide (v = u) = b) ∨ ∃ d e, Dp K H v d ∧ Dp K H u e ∧ SeqAt.shaped d = true ∧ SeqAt.shaped e = true ∧ PyData.eqv d e = b := by
  rcases h with ⟨h1, h2, rfl⟩ | ⟨d, e, h1, h2, h3, h4, h5, h6, rfl⟩
  · have dd : ∀ {z : Va} {w : V}, flat z = true → Rv K G ρ S H z w → (∀ q, z ≠ .str q) → Dp K H w (toPy z) ∧ SeqAt.shaped (toPy z) = true := by
      intro z w hz rz hs
      have hd : isDat z = true := by cases z <;> simp only [flat, Bool.false_eq_true] at hz <;> first | rfl | exact absurd rfl (hs _)
      exact ⟨dp_ok z w hd rz, shaped_ok hd (by cases z <;> simp only [flat, Bool.false_eq_true] at hz <;> simp [dep])⟩
    cases x <;> simp only [flat, Bool.false_eq_true] at h1 <;> cases y <;> simp only [flat, Bool.false_eq_true] at h2
    all_goals (have q1 := r1; have q2 := r2; simp only [Rv] at r1 r2; subst r1; subst r2)
    all_goals first
      | (refine .inl ⟨rfl, ?_⟩; simp [eqv]; done)
      | (refine .inl ⟨rfl, ?_⟩; simp only [eqv]; rw [Bool.beq_eq_decide_eq]; simp; done)
      | (refine .inl ⟨rfl, ?_⟩; simp [eqv, sg_inj]; done)
      | (obtain ⟨a1, a2⟩ := dd (z := .bl _) rfl q1 (by intro q e; cases e); obtain ⟨b1, b2⟩ := dd (z := .int _) rfl q2 (by intro q e; cases e); exact .inr ⟨_, _, a1, b1, a2, b2, eqv_ok _ _ rfl rfl⟩)
      | (obtain ⟨a1, a2⟩ := dd (z := .int _) rfl q1 (by intro q e; cases e); obtain ⟨b1, b2⟩ := dd (z := .bl _) rfl q2 (by intro q e; cases e); exact .inr ⟨_, _, a1, b1, a2, b2, eqv_ok _ _ rfl rfl⟩)
  · exact .inr ⟨toPy d, toPy e, dp_ok _ _ h3 (resolve_ok R.toRelM _ _ _ _ h1 r1), dp_ok _ _ h4 (resolve_ok R.toRelM _ _ _ _ h2 r2), shaped_ok h3 h5, shaped_ok h4 h6, eqv_ok d e h3 h4⟩
theorem oEq_ok : OpS K oEq (rEqV K) := by
  intro G W ρ S env σ mem H x y v u Q R r1 r2 h
  unfold oEq at h
  rcases eqM_case x y mem with ⟨b, e, hb⟩ | e
  · simp only [bind_eq, e, bind_ok] at h
    have q : Q (.bl b) H := sat_pure R h (by simp only [Rv])
    rcases eqM_ok R r1 r2 hb with ⟨h1, h2⟩ | ⟨d, f, h1, h2, h3, h4, h5⟩
    · exact .inl ⟨h1, by rw [h2]; exact q⟩
    · exact .inr ⟨d, f, h1, h2, h3, h4, by rw [h5]; exact q⟩
  · simp only [bind_eq, e, bind_no] at h; exact h.elim
theorem oNe_ok : OpS K oNe (rNeV K) := by
  intro G W ρ S env σ mem H x y v u Q R r1 r2 h
  unfold oNe at h
  rcases eqM_case x y mem with ⟨b, e, hb⟩ | e
  · simp only [bind_eq, e, bind_ok] at h
    have q : Q (.bl (!b)) H := sat_pure R h (by simp only [Rv])
    rcases eqM_ok R r1 r2 hb with ⟨h1, h2⟩ | ⟨d, f, h1, h2, h3, h4, h5⟩
    · exact .inl ⟨h1, by rw [h2]; exact q⟩
    · exact .inr ⟨d, f, h1, h2, h3, h4, by rw [h5]; exact q⟩
  · simp only [bind_eq, e, bind_no] at h; exact h.elim
end
end Vm
end
section
set_option Elab.async false
set_option linter.all false
set_option autoImplicit false
set_option maxRecDepth 100000
/-! SimIn: in, is; what dicts hold. -/
namespace Vm
open PySem PySem.Spec PyProof.Rows L2
section
variable {X : Cx} {K : PySem.W.Frag} {G : Gc} {ρ : List Addr} {S : Addr → Prop} {H : Hp} {env : Env} {mem : Mem} {σ : L2.St} {W : WX}
/-! ### keys -/
theorem keyV_kV {x : Va} {v : V} {k : Key} (h : keyV x = some k) (r : Rv K G ρ S H x v) : v = kV k := by
  cases x <;> simp only [keyV] at h <;> cases h <;> simp only [Rv] at r <;> (subst r; rfl)
theorem keq1_ok {x y : Va} {p q : Key} (hx : keyV x = some p) (hy : keyV y = some q) : keq1 x y = decide (p = q) := by
  cases x <;> simp only [keyV] at hx <;> cases hx <;> cases y <;> simp only [keyV] at hy <;> cases hy <;> simp [keq1, sg_inj]
theorem key1_ok {x : Va} (h : key1 x = true) : ∃ k, keyV x = some k := by
  cases x <;> simp only [key1, Bool.false_eq_true] at h <;> exact ⟨_, rfl⟩
theorem mapM_cons_some {α β : Type} {f : α → Option β} {x : α} {r : List α} {ys : List β} (h : (x :: r).mapM f = some ys) : ∃ y s, f x = some y ∧ r.mapM f = some s ∧ ys = y :: s := by
  rw [List.mapM_cons] at h
  cases e : f x with
  | none => rw [e] at h; cases h
  | some y =>
    rw [e] at h
    cases e2 : r.mapM f with
    | none => rw [e2] at h; cases h
    | some s => rw [e2] at h; cases h; exact ⟨y, s, rfl, rfl, rfl⟩
theorem keys_ok : ∀ {xs : List Va}, xs.all key1 = true → ∃ ks, xs.mapM keyV = some ks
  | [], _ => ⟨[], rfl⟩
  | x :: r, h => by
    simp only [List.all_cons, Bool.and_eq_true] at h
    obtain ⟨k, hk⟩ := key1_ok h.1
    obtain ⟨ks, hs⟩ := keys_ok h.2
    exact ⟨k :: ks, by rw [List.mapM_cons, hk, hs]; rfl⟩
theorem keqs_ok : ∀ {xs ys : List Va} {p q : List Key}, xs.mapM keyV = some p → ys.mapM keyV = some q → keqs xs ys = decide (p = q)
  | [], [], p, q, hp, hq => by cases hp; cases hq; rfl
  | [], y :: s, p, q, hp, hq => by
    cases hp
    obtain ⟨_, _, _, _, rfl⟩ := mapM_cons_some hq
    rfl
  | x :: r, [], p, q, hp, hq => by
    cases hq
    obtain ⟨_, _, _, _, rfl⟩ := mapM_cons_some hp
    rfl
  | x :: r, y :: s, p, q, hp, hq => by
    obtain ⟨a, as, h1, h2, rfl⟩ := mapM_cons_some hp
    obtain ⟨b, bs, h3, h4, rfl⟩ := mapM_cons_some hq
    simp only [keqs, keq1_ok h1 h3, keqs_ok h2 h4, List.cons.injEq]
    rw [Bool.decide_and]
theorem rvs_keys : ∀ {xs : List Va} {vs : List V} {ks : List Key}, xs.mapM keyV = some ks → Rvs K G ρ S H xs vs → vs = ks.map kV
  | [], vs, ks, h, r => by cases h; simp only [Rvs] at r; exact r
  | x :: r, vs, ks, h, q => by
    obtain ⟨a, as, h1, h2, rfl⟩ := mapM_cons_some h
    simp only [Rvs] at q
    obtain ⟨v, s, rfl, q1, q2⟩ := q
    rw [keyV_kV h1 q1, rvs_keys h2 q2]; rfl
/-- what is found at a key -/
def Fnd (K : PySem.W.Frag) (G : Gc) (ρ : List Addr) (S : Addr → Prop) (H : Hp) : Option Va → Option V → Prop
  | none, o => o = none
  | some w, o => ∃ v, o = some v ∧ Rv K G ρ S H w v
theorem findK_K {x : Va} {k : Key} (hx : keyV x = some k) : ∀ {kvs : List (Va × Va)} {ps : List (Key × V)}, RvK K G ρ S H kvs ps → Fnd K G ρ S H (findK false x kvs) (valV ps k)
  | [], ps, h => by simp only [RvK] at h; subst h; rfl
  | (q, w) :: r, ps, h => by
    simp only [RvK] at h
    obtain ⟨p, v, s, rfl, h0, h1, h2⟩ := h
    have e1 : keq false q x = decide (p = k) := keq1_ok h0 hx
    simp only [findK]
    rw [e1]
    by_cases e : p = k
    · rw [if_pos (by simpa using e)]
      exact ⟨v, valV_pos e, h1⟩
    · rw [if_neg (by simpa using e), valV_neg (p := (p, v)) e]
      exact findK_K hx h2
theorem keyT_tup {x : Va} {k : List Key} (h : keyT x = some k) : ∃ xs, x = .tup xs ∧ xs.mapM keyV = some k := by
  unfold keyT at h
  split at h
  · exact ⟨_, rfl, h⟩
  · cases h
theorem findK_T {x : Va} {k : List Key} (hx : keyT x = some k) : ∀ {kvs : List (Va × Va)} {ps : List (List Key × V)}, RvT K G ρ S H kvs ps → Fnd K G ρ S H (findK true x kvs) (valV ps k)
  | [], ps, h => by simp only [RvT] at h; subst h; rfl
  | (q, w) :: r, ps, h => by
    simp only [RvT] at h
    obtain ⟨p, v, s, rfl, h0, h1, h2⟩ := h
    obtain ⟨xs, rfl, hxs⟩ := keyT_tup hx
    obtain ⟨ys, rfl, hys⟩ := keyT_tup h0
    have e1 : keq true (.tup ys) (.tup xs) = decide (p = k) := keqs_ok hys hxs
    simp only [findK]
    rw [e1]
    by_cases e : p = k
    · rw [if_pos (by simpa using e)]
      exact ⟨v, valV_pos e, h1⟩
    · rw [if_neg (by simpa using e), valV_neg (p := (p, v)) e]
      exact findK_T (by exact hx) h2
/-- a dict at a, kept for good or a cell -/
def DictAt (K : PySem.W.Frag) (G : Gc) (ρ : List Addr) (S : Addr → Prop) (H : Hp) (t : Bool) (kvs : List (Va × Va)) (a : Addr) : Prop :=
  (t = false ∧ ∃ ps, H a = some (.dK ps) ∧ RvK K G ρ S H kvs ps) ∨ (t = true ∧ ∃ ps, H a = some (.dT ps) ∧ RvT K G ρ S H kvs ps)
theorem dict_get {t : Bool} {kvs : List (Va × Va)} {a : Addr} {x : Va} {v : V} (d : DictAt K G ρ S H t kvs a) (hk : isKey t x = true) (r : Rv K G ρ S H x v) : ∃ o, DGet H a v o ∧ Fnd K G ρ S H (findK t x kvs) o := by
  rcases d with ⟨rfl, ps, h1, h2⟩ | ⟨rfl, ps, h1, h2⟩
  · obtain ⟨k, e⟩ := key1_ok (x := x) (by simpa [isKey] using hk)
    exact ⟨valV ps k, .inl ⟨ps, k, .inl h1, keyV_kV e r, rfl⟩, findK_K e h2⟩
  · cases x <;> simp only [isKey, Bool.false_eq_true] at hk
    obtain ⟨ks, e⟩ := keys_ok hk
    simp only [Rv] at r
    obtain ⟨b, vs, rfl, h3, h4⟩ := r
    have := rvs_keys e h4
    subst this
    exact ⟨valV ps ks, .inr ⟨ps, ks, b, .inl h1, rfl, h3.2, rfl⟩, findK_T (by simpa [keyT] using e) h2⟩
theorem asD_case (x : Va) (m : Mem) : (∃ d, asD x m = .ok d m) ∨ asD x m = .no := by
  unfold asD
  split
  · exact .inl ⟨_, rfl⟩
  · split
    · exact .inl ⟨_, rfl⟩
    · exact .inr rfl
  · exact .inr rfl
theorem asD_ok {x : Va} {v : V} {t : Bool} {kvs : List (Va × Va)} {m : Mem} (R : Rel K G ρ S H env mem σ) (r : Rv K G ρ S H x v) (h : asD x mem = .ok (t, kvs) m) : m = mem ∧ ∃ a, v = .ref a ∧ DictAt K G ρ S H t kvs a := by
  unfold asD at h
  split at h
  · cases h
    simp only [Rv] at r
    obtain ⟨a, rfl, h1, h2⟩ := r
    exact ⟨rfl, a, rfl, h2⟩
  · split at h
    · rename_i n _ t' ys hn
      cases h
      simp only [Rv] at r
      obtain ⟨a, rfl, ha⟩ := r
      obtain ⟨b, h1, c⟩ := R.cell _ _ hn
      rw [ha] at h1; cases h1
      refine ⟨rfl, a, rfl, ?_⟩
      rcases c with ⟨e, ps, h2, h3⟩ | ⟨e, ps, h2, h3⟩
      · exact .inl ⟨e, ps, h2, h3⟩
      · exact .inr ⟨e, ps, h2, h3⟩
    · cases h
  · cases h
theorem DictAt.isD {t : Bool} {kvs : List (Va × Va)} {a : Addr} (d : DictAt K G ρ S H t kvs a) : IsD H a := by
  rcases d with ⟨_, ps, h1, _⟩ | ⟨_, ps, h1, _⟩
  · exact .inl ⟨ps, .inl h1⟩
  · exact .inr ⟨ps, .inl h1⟩

/-! ### in -/
def rInD (neg : Bool) : R2 := fun y x H Q => ∃ a o, x = .ref a ∧ DGet H a y o ∧ Q (.bl (if neg then !o.isSome else o.isSome)) H
theorem op_inD' (hu : X.A.units + 1 < cLine) : OpR X (compareOp .In) (rInD false) := by
  intro pins s σ H x y v u Q I rx ry h
  obtain ⟨a, o, rfl, g, q⟩ := h
  obtain rfl : u = Value.ref a := ry
  exact d_in hu I g rx fun s' I' => ⟨.bl o.isSome, H, I', rfl, q⟩
theorem op_notInD' (hu : X.A.units + 1 < cLine) : OpR X (compareOp .NotIn) (rInD true) := by
  intro pins s σ H x y v u Q I rx ry h
  obtain ⟨a, o, rfl, g, q⟩ := h
  obtain rfl : u = Value.ref a := ry
  exact d_notIn hu I g rx fun s' I' => ⟨.bl (!o.isSome), H, I', rfl, q⟩
def rInS (neg : Bool) : R2 := fun x y H Q => ∃ (c : Nat) (z : Str), x = .str ⟨#[c]⟩ ∧ y = .str z ∧ Q (.bl (if neg then !decide (c ∈ z.cps.toList) else decide (c ∈ z.cps.toList))) H
theorem op_inS : OpR X (compareOp .In) (rInS false) := fun pins s σ H x y v u Q I rx ry ⟨c, z, h1, h2, q⟩ => op_in_sign pins s σ H x y v u Q I rx ry ⟨c, z, h1, h2, q⟩
theorem op_notInS : OpR X (compareOp .NotIn) (rInS true) := fun pins s σ H x y v u Q I rx ry ⟨c, z, h1, h2, q⟩ => op_notIn_sign pins s σ H x y v u Q I rx ry ⟨c, z, h1, h2, q⟩
def rInV (K : PySem.W.Frag) (neg : Bool) : R2 := fun x y H Q => (rIn K neg x y H Q ∨ rInD neg x y H Q) ∨ rInS neg x y H Q
theorem op_inV (hu : X.A.units + 1 < cLine) : OpR X (compareOp .In) (rInV X.K false) := (op_in_seq.or (op_inD' hu)).or op_inS
theorem op_notInV (hu : X.A.units + 1 < cLine) : OpR X (compareOp .NotIn) (rInV X.K true) := (op_notIn_seq.or (op_notInD' hu)).or op_notInS
theorem any_eq {x : Va} {v : V} (h : flat x = true) (r : Rv K G ρ S H x v) : ∀ {xs : List Va} {vs : List V}, xs.all flat = true → Rvs K G ρ S H xs vs → vs.all flatV = true ∧ inV v vs = xs.any fun y => eqv y x
  | [], vs, _, q => by simp only [Rvs] at q; subst q; exact ⟨rfl, rfl⟩
  | y :: s, vs, hs, q => by
    simp only [List.all_cons, Bool.and_eq_true] at hs
    simp only [Rvs] at q
    obtain ⟨u, us, rfl, q1, q2⟩ := q
    obtain ⟨i1, i2⟩ := any_eq h r hs.2 q2
    obtain ⟨f1, f2⟩ := flat_V hs.1 q1
    refine ⟨by simp [f1, i1], ?_⟩
    simp only [inV, List.any_cons] at i2 ⊢
    rw [i2, f2 x v h r]
theorem inM_case (x y : Va) (m : Mem) : (∃ b, inM x y m = .ok b m) ∨ inM x y m = .no := by
  unfold inM
  repeat' split
  all_goals first | exact .inl ⟨_, rfl⟩ | exact .inr rfl
theorem inM_ok {x y : Va} {b neg : Bool} {v u : V} {Q : VK} (R : Rel K G ρ S H env mem σ) (r1 : Rv K G ρ S H x v) (r2 : Rv K G ρ S H y u) (h : inM x y mem = .ok b mem) (q : Q (.bl (if neg then !b else b)) H) : rInV K neg v u H Q := by
  have seq : ∀ {xs : List Va} {a : Addr} {vs : List V}, (if flat x && xs.all flat then Res.ok (xs.any fun y => eqv y x) mem else .no) = .ok b mem → Rvs K G ρ S H xs vs → u = .ref a → (SqL K H a vs ∨ SqT K H a vs) → rInV K neg v u H Q := by
    intro xs a vs h rs eu sq
    split at h
    · rename_i hf
      simp only [Bool.and_eq_true] at hf
      injection h with h _
      obtain ⟨i1, i2⟩ := any_eq hf.1 r1 hf.2 rs
      refine .inl (.inl ⟨a, vs, eu, sq, (flat_V hf.1 r1).1, i1, ?_⟩)
      rw [i2, h]; exact q
    · cases h
  have dic : ∀ {t : Bool} {kvs : List (Va × Va)} {a : Addr}, (if isKey t x then Res.ok (findK t x kvs).isSome mem else .no) = .ok b mem → DictAt K G ρ S H t kvs a → u = .ref a → rInV K neg v u H Q := by
    intro t kvs a h d eu
    split at h
    · rename_i hk
      injection h with h _
      obtain ⟨o, g, f⟩ := dict_get d hk r1
      refine .inl (.inr ⟨a, o, eu, g, ?_⟩)
      have e : o.isSome = b := by
        rw [← h]
        cases z : findK t x kvs with
        | none => rw [z] at f; rw [show o = none from f]; rfl
        | some w => rw [z] at f; obtain ⟨v', e, _⟩ := f; rw [e]; rfl
      rw [e]; exact q
    · cases h
  unfold inM at h
  split at h
  · split at h
    · simp only [Rv] at r1 r2
      subst r1; subst r2
      injection h with h _
      refine .inr ⟨_, _, rfl, rfl, ?_⟩
      simp only [sg]
      rw [h]; exact q
    · cases h
  · have r2' := r2
    simp only [Rv] at r2
    obtain ⟨a, rfl, _, d⟩ := r2
    exact dic h d rfl
  · simp only [Rv] at r2
    obtain ⟨a, rfl, ha⟩ := r2
    split at h
    · rename_i hn
      obtain ⟨b', h1, vs, h2, h3⟩ := R.cell _ _ hn
      rw [ha] at h1; cases h1
      exact seq h h3 rfl (.inl (SqL.of h2))
    · rename_i hn
      obtain ⟨b', h1, c⟩ := R.cell _ _ hn
      rw [ha] at h1; cases h1
      refine dic h ?_ rfl
      rcases c with ⟨e, ps, h2, h3⟩ | ⟨e, ps, h2, h3⟩
      · exact .inl ⟨e, ps, h2, h3⟩
      · exact .inr ⟨e, ps, h2, h3⟩
    · cases h
  · simp only [Rv] at r2
    obtain ⟨a, vs, rfl, h1, h2⟩ := r2
    exact seq h h2 rfl (.inl h1.sq)
  · simp only [Rv] at r2
    obtain ⟨a, vs, rfl, h1, h2⟩ := r2
    exact seq h h2 rfl (.inr h1.sq)
  · simp only [Rv] at r2
    obtain ⟨a, vs, rfl, h1, h2⟩ := r2
    exact seq h h2 rfl (.inr h1.sq)
  · cases h
theorem oIn_ok : OpS K oIn (rInV K false) := by
  intro G W ρ S env σ mem H x y v u Q R r1 r2 h
  unfold oIn at h
  rcases inM_case x y mem with ⟨b, e⟩ | e
  · simp only [bind_eq, e, bind_ok] at h
    exact inM_ok R r1 r2 e (sat_pure R h (by simp only [Rv]; rfl))
  · simp only [bind_eq, e, bind_no] at h; exact h.elim
theorem oNotIn_ok : OpS K oNotIn (rInV K true) := by
  intro G W ρ S env σ mem H x y v u Q R r1 r2 h
  unfold oNotIn at h
  rcases inM_case x y mem with ⟨b, e⟩ | e
  · simp only [bind_eq, e, bind_ok] at h
    exact inM_ok R r1 r2 e (sat_pure R h (by simp only [Rv]; rfl))
  · simp only [bind_eq, e, bind_no] at h; exact h.elim

/-! ### is -/
def rIsV (neg : Bool) : R2 := fun x y H Q => (∃ m n, x = .ty m ∧ y = .ty n ∧ Q (.bl (if neg then !decide (m = n) else decide (m = n))) H) ∨ (y = .non ∧ Q (.bl (if neg then !decide (x = .non) else decide (x = .non))) H)
theorem op_isV : OpR X (compareOp .Is) (rIsV false) := op_isTy.or op_isN
theorem op_isNotV : OpR X (compareOp .IsNot) (rIsV true) := op_isNotTy.or op_notN
theorem isNon_ok {x : Va} {v : V} (r : Rv K G ρ S H x v) : isNon x = decide (v = .non) := by
  cases x with
  | non => simp only [Rv] at r; subst r; rfl
  | bl _ => simp only [Rv] at r; subst r; rfl
  | int _ => simp only [Rv] at r; subst r; rfl
  | str _ => simp only [Rv] at r; subst r; rfl
  | ty _ => simp only [Rv] at r; subst r; rfl
  | fn _ => simp only [Rv] at r; subst r; rfl
  | tup _ => simp only [Rv] at r; obtain ⟨_, _, rfl, _⟩ := r; rfl
  | lst _ => simp only [Rv] at r; obtain ⟨_, _, rfl, _⟩ := r; rfl
  | dct _ _ => simp only [Rv] at r; obtain ⟨_, rfl, _⟩ := r; rfl
  | obj _ _ => simp only [Rv] at r; obtain ⟨_, _, rfl, _⟩ := r; rfl
  | ref _ => simp only [Rv] at r; obtain ⟨_, rfl, _⟩ := r; rfl
  | clo _ _ => simp only [Rv] at r; obtain ⟨_, _, _, _, rfl, _⟩ := r; rfl
  | scr _ => simp only [Rv] at r; obtain ⟨_, rfl, _⟩ := r; rfl
  | wtp _ => simp only [Rv] at r; obtain ⟨_, _, rfl, _⟩ := r; rfl
theorem isM_ok {x y : Va} {v u : V} {b neg : Bool} {Q : VK} {m : Mem} (r1 : Rv K G ρ S H x v) (r2 : Rv K G ρ S H y u) (h : isM x y mem = .ok b m) (q : Q (.bl (if neg then !b else b)) H) : m = mem ∧ rIsV neg v u H Q := by
  unfold isM at h
  split at h
  · simp only [Rv] at r1 r2
    subst r1; subst r2
    injection h with h1 h2
    exact ⟨h2.symm, .inl ⟨_, _, rfl, rfl, by rw [h1]; exact q⟩⟩
  · simp only [Rv] at r2
    subst r2
    injection h with h1 h2
    refine ⟨h2.symm, .inr ⟨rfl, ?_⟩⟩
    rw [← isNon_ok r1, h1]; exact q
  · cases h
theorem isM_case (x y : Va) (m : Mem) : (∃ b, isM x y m = .ok b m) ∨ isM x y m = .no := by
  unfold isM
  repeat' split
  all_goals first | exact .inl ⟨_, rfl⟩ | exact .inr rfl
theorem oIs_ok : OpS K oIs (rIsV false) := by
  intro G W ρ S env σ mem H x y v u Q R r1 r2 h
  unfold oIs at h
  rcases isM_case x y mem with ⟨b, e⟩ | e
  · simp only [bind_eq, e, bind_ok] at h
    exact (isM_ok r1 r2 e (sat_pure R h (by simp only [Rv]; rfl))).2
  · simp only [bind_eq, e, bind_no] at h; exact h.elim
theorem oIsNot_ok : OpS K oIsNot (rIsV true) := by
  intro G W ρ S env σ mem H x y v u Q R r1 r2 h
  unfold oIsNot at h
  rcases isM_case x y mem with ⟨b, e⟩ | e
  · simp only [bind_eq, e, bind_ok] at h
    exact (isM_ok r1 r2 e (sat_pure R h (by simp only [Rv]; rfl))).2
  · simp only [bind_eq, e, bind_no] at h; exact h.elim
end
end Vm
end
section
set_option Elab.async false
set_option linter.all false
set_option autoImplicit false
set_option maxRecDepth 100000
/-! SimD: truth, and, or, not, displays, items, slices. -/
namespace Vm
open PySem PySem.Spec PyProof.Rows L2
section
variable {X : Cx} {K : PySem.W.Frag} {G : Gc} {ρ : List Addr} {S : Addr → Prop} {H : Hp} {env : Env} {mem : Mem} {σ : L2.St} {W : WX}
theorem rvs_empty {xs : List Va} {vs : List V} (r : Rvs K G ρ S H xs vs) : vs.isEmpty = xs.isEmpty := by
  cases xs <;> simp only [Rvs] at r
  · subst r; rfl
  · obtain ⟨_, _, rfl, _⟩ := r; rfl
theorem rvk_empty {xs : List (Va × Va)} {vs : List (Key × V)} (r : RvK K G ρ S H xs vs) : vs.isEmpty = xs.isEmpty := by
  cases xs <;> simp only [RvK] at r
  · subst r; rfl
  · obtain ⟨_, _, _, rfl, _⟩ := r; rfl
theorem tru_case (x : Va) (m : Mem) : (∃ b, tru x m = .ok b m) ∨ tru x m = .no := by
  unfold tru
  repeat' split
  all_goals first | exact .inl ⟨_, rfl⟩ | exact .inr rfl
theorem tru_okV {x : Va} {v : V} {b : Bool} (R : Rel K G ρ S H env mem σ) (r : Rv K G ρ S H x v) (h : tru x mem = .ok b mem) : TruV K v H b := by
  unfold tru at h
  split at h
  · simp only [Rv] at r; subst r; injection h with h _; exact h.symm
  · simp only [Rv] at r; subst r; injection h with h _; exact h.symm
  · simp only [Rv] at r; subst r; injection h with h _; exact h.symm
  · split at h
    · rename_i y hl
      simp only [Rv] at r; subst r; injection h with h _
      refine ⟨by rw [sg_length, ← line_eq]; exact hl, ?_⟩
      rw [sg_length, ← h]
      cases y <;> simp
      omega
    · cases h
  · simp only [Rv] at r
    obtain ⟨a, vs, rfl, h1, h2⟩ := r
    injection h with h _
    exact .inl ⟨vs, h1.sq, by rw [rvs_empty h2, h]⟩
  · simp only [Rv] at r
    obtain ⟨a, vs, rfl, h1, h2⟩ := r
    injection h with h _
    exact .inr (.inl ⟨vs, h1.sq, by rw [rvs_empty h2, h]⟩)
  · simp only [Rv] at r
    obtain ⟨a, vs, rfl, h1, h2⟩ := r
    injection h with h _
    exact .inr (.inl ⟨vs, h1.sq, by rw [rvs_empty h2, h]⟩)
  · simp only [Rv] at r
    obtain ⟨a, rfl, ha⟩ := r
    split at h
    · rename_i hn
      obtain ⟨b', h1, vs, h2, h3⟩ := R.cell _ _ hn
      rw [ha] at h1; cases h1
      injection h with h _
      exact .inl ⟨vs, SqL.of h2, by rw [rvs_empty h3, h]⟩
    · rename_i hn
      obtain ⟨b', h1, c⟩ := R.cell _ _ hn
      rw [ha] at h1; cases h1
      rcases c with ⟨_, ps, h2, h3⟩ | ⟨z, _⟩
      · injection h with h _
        exact .inr (.inr ⟨ps, h2, by rw [rvk_empty h3, h]⟩)
      · cases z
    · cases h
  · cases h
/-! ### tests -/
variable {pos : Pos} {a b c : Expr} {fa fb : Env → M Va} {rest : List Expr}
theorem tX.bindOk {α β γ δ : Type} {rel : Rx α β} {rel2 : Rx γ δ} {f : Env → M α} {g : α → M γ} {Q : δ → Hp → Prop} {P : β → Hp → Prop}
    (R : Rel K G ρ S H env mem σ) (h : Sat K G rel2 ρ S env σ H W Q ((f env mem).bind fun x m => g x m))
    (i : ∀ ρ1 S1 H1 m1 w v, Rel K G ρ1 S1 H1 env m1 σ → rel ρ1 S1 H1 w v → Sat K G rel2 ρ1 S1 env σ H1 W Q (g w m1) → P v H1) : tX K G rel W f σ H P :=
  tX.of R ((Sat.bind h).imp fun v H1 ⟨ρ1, S1, w, m1, e1, R1, r1, h1⟩ => i ρ1 S1 H1 m1 w v R1 r1 h1)
theorem tru_sat {Q : Bool → Hp → Prop} {x : Va} {v : V} (R : Rel K G ρ S H env mem σ) (r : Rv K G ρ S H x v) (h : Sat K G Req ρ S env σ H W Q (tru x mem)) : ∃ k, TruV K v H k ∧ Q k H := by
  rcases tru_case x mem with ⟨b, e⟩ | e
  · rw [e] at h
    exact ⟨b, tru_okV R r e, sat_pure R h rfl⟩
  · rw [e] at h; exact h.elim
theorem sim_truth (ha : SE X G W a fa) (he : ∀ whole, isTrue a X.env whole = (do let v ← whole; standAt a.pos; holding [v] (truthy v)) := by intro _; rfl) : ST X G W a (tTru fa) :=
  PT.imp (pt_truth ha he) fun σ H Q ⟨ρ, S, env, mem, R, h⟩ => tX.bindOk (rel2 := Req) R h fun ρ1 S1 H1 m1 w v R1 r1 h1 => tru_sat R1 r1 h1
theorem asB_sat {Q : Bool → Hp → Prop} {x : Va} {v : V} (R : Rel K G ρ S H env mem σ) (r : Rv K G ρ S H x v) (h : Sat K G Req ρ S env σ H W Q (asB x mem)) : ∃ k, v = .bl k ∧ Q k H := by
  unfold asB at h
  split at h
  · simp only [Rv] at r; subst r
    exact ⟨_, rfl, sat_pure R h rfl⟩
  · exact h.elim
theorem sim_tcmp {o : CmpOp} {op : Va → Va → M Va} {r : R2} (ho : OpR X (compareOp o) r) (hs : OpS X.K op r) (ha : SE X G W a fa) (hb : SE X G W b fb) (hm : behindInMarks o b = false) : ST X G W (.Compare a [o] [b] pos) (tB (eOp op fa fb)) := by
  refine PT.imp (pt_cmpR ho ha hb hm) fun σ H Q ⟨ρ, S, env, mem, R, h⟩ => ?_
  have h' : Sat X.K G (Rv X.K G) ρ S env σ H W (fun v H1 => ∃ k, v = .bl k ∧ Q k H1) (eOp op fa fb env mem) := (Sat.bind (rel := Rv X.K G) h).imp fun v H1 ⟨ρ1, S1, w, m1, e1, R1, r1, h1⟩ => asB_sat R1 r1 h1
  exact tX.two (fun ρ S mem H x y v u R r1 r2 q => hs G W ρ S env σ mem H x y v u _ R r1 r2 q) R h'
theorem sim_tnot {f : Env → M Bool} (h : ST X G W a f) : ST X G W (.UnaryOp .Not a pos) (tNot f) :=
  PT.imp (pt_not h) fun σ H Q ⟨ρ, S, env, mem, R, h⟩ => tX.bindOk (rel2 := Req) R h fun ρ1 S1 H1 m1 w v R1 r1 h1 => by
    cases r1
    exact sat_pure R1 h1 rfl
abbrev SW (X : Cx) (G : Gc) (W : WX) (e : Expr) (f : Env → M Bool) : Prop := PW X e (tT X.K G W f)
theorem PW.imp {X : Cx} {e : Expr} {t t' : TT} (h : PW X e t) (i : ∀ σ H Q, t' σ H Q → t σ H Q) : PW X e t' := ⟨fun wh pins s σ H Q I q => h.run wh pins s σ H Q I (i σ H Q q)⟩
theorem sim_tand1 {f : Env → M Bool} (h : ST X G W a f) : SW X G W (.BoolOp .And [a] pos) f := pw_and1 h
theorem sim_tor1 {f : Env → M Bool} (h : ST X G W a f) : SW X G W (.BoolOp .Or [a] pos) f := pw_or1 h
theorem sim_tand {f g : Env → M Bool} (h : ST X G W a f) (h' : SW X G W (.BoolOp .And (b :: rest) pos) g) : SW X G W (.BoolOp .And (a :: b :: rest) pos) (tAnd f g) :=
  PW.imp (pw_and h h') fun σ H Q ⟨ρ, S, env, mem, R, h⟩ => tX.bindOk (rel2 := Req) R h fun ρ1 S1 H1 m1 w v R1 r1 h1 => by
    cases r1
    cases w with
    | true => exact tX.of R1 h1
    | false => exact sat_pure R1 h1 rfl
theorem sim_tor {f g : Env → M Bool} (h : ST X G W a f) (h' : SW X G W (.BoolOp .Or (b :: rest) pos) g) : SW X G W (.BoolOp .Or (a :: b :: rest) pos) (tOr f g) :=
  PW.imp (pw_or h h') fun σ H Q ⟨ρ, S, env, mem, R, h⟩ => tX.bindOk (rel2 := Req) R h fun ρ1 S1 H1 m1 w v R1 r1 h1 => by
    cases r1
    cases w with
    | true => exact sat_pure R1 h1 rfl
    | false => exact tX.of R1 h1
theorem sim_tbool {f : Env → M Bool} (h : SW X G W a f) : ST X G W a f := PW.pt h
/-! ### and, or, not as values -/
theorem sim_one {op} (h : SE X G W a fa) : SE X G W (.BoolOp op [a] pos) fa := pe_one h
theorem sim_and (h : SE X G W a fa) (h' : SE X G W (.BoolOp .And (b :: rest) pos) fb) : SE X G W (.BoolOp .And (a :: b :: rest) pos) (eAnd fa fb) :=
  PE.imp (pe_andT h h') fun σ H Q ⟨ρ, S, env, mem, R, h⟩ => tX.bindOk (rel2 := Rv X.K G) R h fun ρ1 S1 H1 m1 w v R1 r1 h1 => by
    rcases tru_case w m1 with ⟨k, e⟩ | e
    · simp only [bind_eq, e, bind_ok] at h1
      refine ⟨k, tru_okV R1 r1 e, ?_⟩
      cases k with
      | true => exact tX.of R1 h1
      | false => exact sat_pure R1 h1 r1
    · simp only [bind_eq, e, bind_no] at h1; exact h1.elim
theorem sim_or (h : SE X G W a fa) (h' : SE X G W (.BoolOp .Or (b :: rest) pos) fb) : SE X G W (.BoolOp .Or (a :: b :: rest) pos) (eOr fa fb) :=
  PE.imp (pe_orT h h') fun σ H Q ⟨ρ, S, env, mem, R, h⟩ => tX.bindOk (rel2 := Rv X.K G) R h fun ρ1 S1 H1 m1 w v R1 r1 h1 => by
    rcases tru_case w m1 with ⟨k, e⟩ | e
    · simp only [bind_eq, e, bind_ok] at h1
      refine ⟨k, tru_okV R1 r1 e, ?_⟩
      cases k with
      | true => exact sat_pure R1 h1 r1
      | false => exact tX.of R1 h1
    · simp only [bind_eq, e, bind_no] at h1; exact h1.elim
theorem sim_not (h : SE X G W a fa) : SE X G W (.UnaryOp .Not a pos) (eNot fa) :=
  PE.imp (pe_notT h) fun σ H Q ⟨ρ, S, env, mem, R, h⟩ => tX.bindOk (rel2 := Rv X.K G) R h fun ρ1 S1 H1 m1 w v R1 r1 h1 => by
    rcases tru_case w m1 with ⟨k, e⟩ | e
    · simp only [bind_eq, e, bind_ok] at h1
      exact ⟨k, tru_okV R1 r1 e, sat_pure R1 h1 (by simp only [Rv])⟩
    · simp only [bind_eq, e, bind_no] at h1; exact h1.elim
theorem sim_if {f : Env → M Bool} (hc : ST X G W c f) (ha : SE X G W a fa) (hb : SE X G W b fb) : SE X G W (.IfExp c a b pos) (eIf f fa fb) :=
  PE.imp (pe_ifExp hc ha hb) fun σ H Q ⟨ρ, S, env, mem, R, h⟩ => tX.bindOk (rel2 := Rv X.K G) R h fun ρ1 S1 H1 m1 w v R1 r1 h1 => by
    cases r1
    cases w with
    | true => exact tX.of R1 h1
    | false => exact tX.of R1 h1
/-! ### displays -/
theorem sim_nil : SA X G W [] aNil := PA.imp pa_nil fun σ H Q ⟨ρ, S, env, mem, R, h⟩ => sat_pure R h rvs_nil
theorem sim_cons {es : List Expr} {f : Env → M (List Va)} (h : SE X G W a fa) (h' : SA X G W es f) (hs : starEach (a :: es) X.env = (false, eval a X.env) :: starEach es X.env := by rfl) : SA X G W (a :: es) (aCons fa f) :=
  PA.imp (pa_cons h h' hs) fun σ H Q ⟨ρ, S, env, mem, R, h⟩ => tX.bindOk (rel2 := Rvs X.K G) R h fun ρ1 S1 H1 m1 w v R1 r1 h1 => by
    refine tX.of R1 ((Sat.bind h1).imp fun vs H2 ⟨ρ2, S2, ws, m2, e2, R2, r2, h2⟩ => ?_)
    exact sat_pure R2 h2 (rvs_cons (Rv.mono e2 R1.out _ _ r1) r2)
theorem sim_tup {es : List Expr} {f : Env → M (List Va)} {k} (h : SA X G W es f) : SE X G W (.Tuple es k pos) (eTup f) :=
  PE.imp (pe_tup h) fun σ H Q ⟨ρ, S, env, mem, R, h⟩ => tX.bindOk (rel2 := Rv X.K G) R h fun ρ1 S1 H1 m1 w v R1 r1 h1 => by
    split at h1
    · rename_i hl
      exact ⟨by rw [rvs_length r1, ← line_eq]; exact hl, fun p hp => sat_tup R1 h1 r1 hp⟩
    · exact h1.elim
theorem sim_lst {es : List Expr} {f : Env → M (List Va)} (h : SA X G W es f) : SE X G W (.List es pos) (eLst f) :=
  PE.imp (pe_lst h) fun σ H Q ⟨ρ, S, env, mem, R, h⟩ => tX.bindOk (rel2 := Rv X.K G) R h fun ρ1 S1 H1 m1 w v R1 r1 h1 => by
    split at h1
    · rename_i hl
      exact ⟨by rw [rvs_length r1, ← line_eq]; exact hl, fun p hp => sat_lst R1 h1 r1 hp⟩
    · exact h1.elim
/-! ### a new cell -/
theorem rho_there (R : RelM K G ρ S H mem) {a : Addr} (h : a ∈ ρ) : H a ≠ none := by
  obtain ⟨n, hn⟩ := List.getElem?_of_mem h
  have hl : n < mem.length := by rw [← R.len]; exact (List.getElem?_eq_some_iff.mp hn).1
  obtain ⟨b, h1, h2⟩ := R.cell n mem[n] (by simp [hl])
  rw [hn] at h1; cases h1
  revert h2
  cases mem[n] with
  | lst xs => rintro ⟨_, q, _⟩; rw [q]; simp
  | dct t kvs => rintro (⟨_, _, q, _⟩ | ⟨_, _, q, _⟩) <;> (rw [q]; simp)
  | ins c fs => rintro ⟨_, _, q, _⟩; rw [q]; simp
  | cel _ => intro q; exact q.elim
theorem ext_cell {p : Addr} {o : HO} (hp : H p = none) : Ext ρ S H (ρ ++ [p]) S (upd H p o) where
  pre := ⟨[p], rfl⟩
  sub := fun _ h => h
  old := fun a o' h _ _ => by rw [upd_ne (ne_of_none h hp)]; exact h
  trk := fun a h => by
    by_cases e : a = p
    · subst e; exact hp
    · rw [upd_ne e] at h; exact h
  src := fun a h => .inl h
  new := fun a h => by
    rcases List.mem_append.mp h with h | h
    · exact .inl h
    · rw [List.mem_singleton] at h; subst h; exact .inr hp
theorem rel_cell {p : Addr} {o : HO} {c : Cell} (R : Rel K G ρ S H env mem σ) (hp : H p = none) (hc : RvC K G (ρ ++ [p]) S (upd H p o) p c) : Rel K G (ρ ++ [p]) S (upd H p o) env (mem ++ [c]) σ := by
  have e : Ext ρ S H (ρ ++ [p]) S (upd H p o) := ext_cell hp
  have k : ∀ a o', H a = some o' → upd H p o a = some o' := fun a o' h => by rw [upd_ne (ne_of_none h hp)]; exact h
  have np : ∀ a ∈ ρ, a ≠ p := fun a h z => rho_there R.toRelM h (z ▸ hp)
  refine ⟨⟨fun a h => ?_, fun n c' h => ?_, fun a h z => ?_, by simp [R.len], ?_, R.tabs.ext k (fun _ z => z)⟩, fun i x h => ?_, R.size⟩
  · cases q : H a with
    | none => exact absurd q (R.there a h)
    | some o' => rw [k a o' q]; simp
  · by_cases hn : n < mem.length
    · rw [List.getElem?_append_left hn] at h
      obtain ⟨a, h1, h2⟩ := R.cell n c' h
      exact ⟨a, get_pre ⟨[p], rfl⟩ h1, h2.mono e R.out (fun o' => k a o')⟩
    · have hl : n < (mem ++ [c]).length := (List.getElem?_eq_some_iff.mp h).1
      have en : n = mem.length := by rw [List.length_append, List.length_singleton] at hl; omega
      subst en
      simp at h
      subst h
      exact ⟨p, by rw [← R.len]; simp, hc⟩
  · rcases List.mem_append.mp h with h | h
    · exact R.out a h z
    · rw [List.mem_singleton] at h; subst h
      exact R.there a z hp
  · rw [List.nodup_append]
    refine ⟨R.nd, by simp, fun a ha b hb => ?_⟩
    rw [List.mem_singleton] at hb; subst hb
    exact np a ha
  · obtain ⟨v, h1, h2⟩ := R.slot i x h
    exact ⟨v, h1, Rv.mono e R.out _ _ h2⟩
theorem sat_cell {Q : VK} {c : Cell} {p : Addr} {o : HO} (R : Rel K G ρ S H env mem σ) (h : Sat K G (Rv K G) ρ S env σ H W Q (newM c mem)) (hp : H p = none) (hc : RvC K G (ρ ++ [p]) S (upd H p o) p c) : Q (.ref p) (upd H p o) :=
  h (ρ ++ [p]) S _ _ (ext_cell hp) (rel_cell R hp hc) (by
    simp only [Rv]
    exact ⟨p, rfl, by rw [← R.len]; simp⟩)
theorem sim_lstM {es : List Expr} {f : Env → M (List Va)} (h : SA X G W es f) : SE X G W (.List es pos) (eLstM f) :=
  PE.imp (pe_lst h) fun σ H Q ⟨ρ, S, env, mem, R, h⟩ => tX.bindOk (rel2 := Rv X.K G) R h fun ρ1 S1 H1 m1 w v R1 r1 h1 => by
    split at h1
    · rename_i hl
      exact ⟨by rw [rvs_length r1, ← line_eq]; exact hl, fun p hp => sat_cell R1 h1 hp ⟨_, upd_same, Rvs.mono (ext_cell hp) R1.out _ _ r1⟩⟩
    · exact h1.elim
/-! ### items -/
theorem atV_ok {xs : List Va} {vs : List V} {i : Int} {x : Va} (r : Rvs K G ρ S H xs vs) (h : atV xs i = some x) : ∃ v, atI vs i = some v ∧ Rv K G ρ S H x v := by
  have hl := rvs_length r
  unfold atV at h
  unfold atI ixN
  rw [hl]
  split at h
  · rename_i h0
    obtain ⟨v, h1, h2⟩ := rvs_get r h
    have := (List.getElem?_eq_some_iff.mp h).1
    exact ⟨v, by rw [if_pos h0, if_pos (by omega)]; exact h1, h2⟩
  · rename_i h0
    split at h
    · rename_i h3
      obtain ⟨v, h1, h2⟩ := rvs_get r h
      exact ⟨v, by rw [if_neg h0, if_pos h3]; exact h1, h2⟩
    · cases h
def rIxD : R2 := fun x y H Q => ∃ a v, x = .ref a ∧ DGet H a y (some v) ∧ Q v H
theorem ix_dict (hu : X.A.units + 1 < cLine) : IxR X rIxD := by
  intro value slice pins s σ H x y v u Q I rx ry h hs
  obtain ⟨a, z, rfl, g, q⟩ := h
  obtain rfl : v = Value.ref a := rx
  exact tail_any (dict_typeIs I g) PySem.F.slot_dict_getitem.lookup (d_getItem hu I g ry fun w' s' I' rw' => ⟨z, H, I', rw', q⟩) hs
def rIxV (K : PySem.W.Frag) : R2 := fun x y H Q => rIx K x y H Q ∨ rIxD x y H Q
theorem ix_V (hu : X.A.units + 1 < cLine) : IxR X (rIxV X.K) := ix_seq.or (ix_dict hu)
theorem atV_str {z : Sg} {i : Int} {c : Nat} (h : atV z i = some c) : atI (sg z).cps.toList i = some c := by
  unfold atV at h
  unfold atI ixN
  simp only [sg]
  split at h
  · rename_i h0
    have := (List.getElem?_eq_some_iff.mp h).1
    rw [if_pos h0, if_pos (by omega)]; exact h
  · rename_i h0
    split at h
    · rename_i h3
      rw [if_neg h0, if_pos h3]; exact h
    · cases h
theorem lift_sat {α β : Type} {rel : Rx α β} {Q : β → Hp → Prop} {o : Option α} (h : Sat K G rel ρ S env σ H W Q (lift o mem)) : ∃ x, o = some x ∧ Sat K G rel ρ S env σ H W Q (.ok x mem) := by
  cases o with
  | none => exact h.elim
  | some x => exact ⟨x, rfl, h⟩
theorem oIx_ok : OpS K oIx (rIxV K) := by
  intro G W ρ S env σ mem H x y v u Q R r1 r2 h
  have seq : ∀ {xs : List Va} {i : Int} {a : Addr} {vs : List V}, Sat K G (Rv K G) ρ S env σ H W Q (lift (atV xs i) mem) → u = .int i → v = .ref a → Rvs K G ρ S H xs vs → (SqL K H a vs ∨ SqT K H a vs) → rIxV K v u H Q := by
    intro xs i a vs h eu ev r sq
    obtain ⟨z, e, h⟩ := lift_sat h
    obtain ⟨w, h1, h2⟩ := atV_ok r e
    have q := sat_pure R h h2
    rcases sq with sq | sq
    · exact .inl (.inl ⟨a, vs, i, w, ev, eu, sq, h1, q⟩)
    · exact .inl (.inr (.inl ⟨a, vs, i, w, ev, eu, sq, h1, q⟩))
  have dic : ∀ {t : Bool} {kvs : List (Va × Va)} {a : Addr}, Sat K G (Rv K G) ρ S env σ H W Q (if isKey t y then lift (findK t y kvs) mem else .no) → DictAt K G ρ S H t kvs a → v = .ref a → rIxV K v u H Q := by
    intro t kvs a h d ev
    split at h
    · rename_i hk
      obtain ⟨z, e, h⟩ := lift_sat h
      obtain ⟨o, g, f⟩ := dict_get d hk r2
      rw [e] at f
      obtain ⟨w, rfl, rw'⟩ := f
      exact .inr ⟨a, w, ev, g, sat_pure R h rw'⟩
    · exact h.elim
  unfold oIx at h
  split at h
  · split at h
    · simp only [Rv] at r1 r2
      obtain ⟨a, vs, rfl, h1, h2⟩ := r1
      exact seq h r2 rfl h2 (.inl h1.sq)
    · exact h.elim
  · split at h
    · simp only [Rv] at r1 r2
      obtain ⟨a, vs, rfl, h1, h2⟩ := r1
      exact seq h r2 rfl h2 (.inr h1.sq)
    · exact h.elim
  · split at h
    · simp only [Rv] at r1 r2
      obtain ⟨a, vs, rfl, h1, h2⟩ := r1
      exact seq h r2 rfl h2 (.inr h1.sq)
    · exact h.elim
  · split at h
    · split at h
      · rename_i z _ i hl
        simp only [Rv] at r1 r2
        subst r1; subst r2
        obtain ⟨w, e, h⟩ := lift_sat h
        obtain ⟨c, e1, rfl⟩ := opt_map e
        refine .inl (.inr (.inr ⟨_, _, c, rfl, rfl, by rw [sg_length, ← line_eq]; exact hl, atV_str e1, ?_⟩))
        exact sat_pure R h (by simp only [Rv, sg])
      · exact h.elim
    · exact h.elim
  · simp only [Rv] at r1
    obtain ⟨a, rfl, _, d⟩ := r1
    exact dic h d rfl
  · simp only [Rv] at r1
    obtain ⟨a, rfl, ha⟩ := r1
    split at h
    · rename_i hn
      obtain ⟨b', h1, vs, h2, h3⟩ := R.cell _ _ hn
      rw [ha] at h1; cases h1
      split at h
      · simp only [Rv] at r2
        exact seq h r2 rfl h3 (.inl (SqL.of h2))
      · exact h.elim
    · rename_i hn
      obtain ⟨b', h1, c⟩ := R.cell _ _ hn
      rw [ha] at h1; cases h1
      refine dic h ?_ rfl
      rcases c with ⟨e, ps, h2, h3⟩ | ⟨e, ps, h2, h3⟩
      · exact .inl ⟨e, ps, h2, h3⟩
      · exact .inr ⟨e, ps, h2, h3⟩
    · exact h.elim
  · exact h.elim
theorem sim_ix (hu : X.A.units + 1 < cLine) (ha : SE X G W a fa) (hb : SE X G W b fb) (hs : PlainIx b := by intro _ _; rfl) : SE X G W (.Subscript a b pos) (eOp oIx fa fb) :=
  PE.imp (pe_ix (ix_V hu) ha hb hs) fun σ H Q ⟨ρ, S, env, mem, R, h⟩ => tX.two (fun ρ S mem H x y v u R r1 r2 q => oIx_ok G W ρ S env σ mem H x y v u Q R r1 r2 q) R h
/-! ### slices -/
theorem cutI_eq (n d : Nat) (o : Option Int) : cutI n d o = HT.sIx n d o := by cases o <;> rfl
theorem rvs_drop : ∀ (n : Nat) {xs : List Va} {vs : List V}, Rvs K G ρ S H xs vs → Rvs K G ρ S H (xs.drop n) (vs.drop n)
  | 0, _, _, h => h
  | n + 1, [], vs, h => by simp only [Rvs] at h; subst h; simp only [List.drop_nil]; exact rvs_nil
  | n + 1, x :: r, vs, h => by
    simp only [Rvs] at h
    obtain ⟨v, s, rfl, h1, h2⟩ := h
    exact rvs_drop n h2
theorem rvs_take : ∀ (n : Nat) {xs : List Va} {vs : List V}, Rvs K G ρ S H xs vs → Rvs K G ρ S H (xs.take n) (vs.take n)
  | 0, _, _, h => rvs_nil
  | n + 1, [], vs, h => by simp only [Rvs] at h; subst h; simp only [List.take_nil]; exact rvs_nil
  | n + 1, x :: r, vs, h => by
    simp only [Rvs] at h
    obtain ⟨v, s, rfl, h1, h2⟩ := h
    exact rvs_cons h1 (rvs_take n h2)
theorem rvs_cut {xs : List Va} {vs : List V} (lo hi : Option Int) (h : Rvs K G ρ S H xs vs) : Rvs K G ρ S H (cut xs lo hi) (cutV vs lo hi) := by
  unfold cut cutV
  rw [rvs_length h, cutI_eq, cutI_eq]
  exact rvs_take _ (rvs_drop _ h)
def rSlV (K : PySem.W.Frag) : V → Option Int → Option Int → Hp → VK → Prop := fun x lo hi H Q => rSlL K x lo hi H Q ∨ (rSlT K x lo hi H Q ∨ rSlS x lo hi H Q)
theorem sl_V : SlR X (rSlV X.K) := sl_list.or (sl_tup.or sl_str)
theorem oCut_ok {x : Va} {v : V} {lo hi : Option Int} {Q : VK} (R : Rel K G ρ S H env mem σ) (r : Rv K G ρ S H x v) (h : Sat K G (Rv K G) ρ S env σ H W Q (oCut x lo hi mem)) : rSlV K v lo hi H Q := by
  unfold oCut at h
  split at h
  · simp only [Rv] at r
    obtain ⟨a, vs, rfl, h1, h2⟩ := r
    exact .inl ⟨a, vs, rfl, h1.sq, fun p hp => sat_lst R h (rvs_cut lo hi h2) hp⟩
  · split at h
    · exact h.elim
    · rename_i hn
      simp only [Rv] at r
      obtain ⟨a, vs, rfl, h1, h2⟩ := r
      refine .inr (.inl ⟨a, vs, rfl, h1.sq, ?_, fun p hp => sat_tup R h (rvs_cut lo hi h2) hp⟩)
      rw [rvs_length h2, ← cutI_eq, ← cutI_eq]; exact hn
  · split at h
    · rename_i z hl
      simp only [Rv] at r
      subst r
      refine .inr (.inr ⟨_, rfl, by rw [sg_length, ← line_eq]; exact hl, sat_pure R h ?_⟩)
      simp only [Rv]
      unfold cutS cut
      rw [sg_length, cutI_eq, cutI_eq]
    · exact h.elim
  · simp only [Rv] at r
    obtain ⟨a, rfl, ha⟩ := r
    split at h
    · rename_i hn
      obtain ⟨b', h1, vs, h2, h3⟩ := R.cell _ _ hn
      rw [ha] at h1; cases h1
      exact .inl ⟨a, vs, rfl, SqL.of h2, fun p hp => sat_lst R h (rvs_cut lo hi h3) hp⟩
    · exact h.elim
  · exact h.elim
abbrev SO (X : Cx) (G : Gc) (W : WX) (e : Option Expr) (f : Env → M (Option Int)) : Prop := PO X e (tX X.K G Req W f)
theorem PO.imp {X : Cx} {e : Option Expr} {t t' : TO} (h : PO X e t) (i : ∀ σ H Q, t' σ H Q → t σ H Q) : PO X e t' := ⟨fun pins s σ H Q I q => h.run pins s σ H Q I (i σ H Q q)⟩
theorem sim_pnone : SO X G W none pNone := PO.imp po_none fun σ H Q ⟨ρ, S, env, mem, R, h⟩ => sat_pure R h rfl
theorem sim_psome (h : SE X G W a fa) : SO X G W (some a) (pSome fa) :=
  PO.imp (po_some h) fun σ H Q ⟨ρ, S, env, mem, R, h⟩ => tX.bindOk (rel2 := Req) R h fun ρ1 S1 H1 m1 w v R1 r1 h1 => by
    cases w <;> first | exact h1.elim | skip
    rename_i i
    simp only [Rv] at r1
    exact ⟨i, r1, sat_pure R1 h1 rfl⟩
theorem sim_cut {lo hi : Option Expr} {fl fh : Env → M (Option Int)} {p2 : Pos} (ha : SE X G W a fa) (hl : SO X G W lo fl) (hh : SO X G W hi fh) : SE X G W (.Subscript a (.Slice lo hi none p2) pos) (eCut fa fl fh) :=
  PE.imp (pe_slice sl_V ha hl hh) fun σ H Q ⟨ρ, S, env, mem, R, h⟩ => tX.bindOk (rel2 := Rv X.K G) R h fun ρ1 S1 H1 m1 w v R1 r1 h1 =>
    tX.of R1 ((Sat.bind (rel := Req) h1).imp fun l H2 ⟨ρ2, S2, w2, m2, e2, R2, r2, h2⟩ => tX.of R2 ((Sat.bind (rel := Req) h2).imp fun u H3 ⟨ρ3, S3, w3, m3, e3, R3, r3, h3⟩ => by
      cases r2; cases r3
      exact oCut_ok R3 (Rv.mono e3 R2.out _ _ (Rv.mono e2 R1.out _ _ r1)) h3))
end
end Vm
end
section
set_option Elab.async false
set_option linter.all false
set_option autoImplicit false
set_option maxRecDepth 100000
/-! SimS: statements, targets, loops. -/
namespace Vm
open PySem PySem.Spec PyProof.Rows L2
section
variable (K : PySem.W.Frag) (G : Gc)
/-- what is wanted behind a statement -/
def SatS (ρ : List Addr) (S : Addr → Prop) (H : Hp) (W : WX) (D : Ends) : Res Flow → Prop
  | .ok (.nx e) m => ∀ ρ' S' H' σ', Ext ρ S H ρ' S' H' → Rel K G ρ' S' H' e m σ' → D.nx σ' H'
  | .ok (.bk e) m => ∀ ρ' S' H' σ', Ext ρ S H ρ' S' H' → Rel K G ρ' S' H' e m σ' → D.bk σ' H'
  | .ok (.ct e) m => ∀ ρ' S' H' σ', Ext ρ S H ρ' S' H' → Rel K G ρ' S' H' e m σ' → D.ct σ' H'
  | .ok (.rt w) m => ∀ ρ' S' H' v, Ext ρ S H ρ' S' H' → RelM K G ρ' S' H' m → Rv K G ρ' S' H' w v → D.rt v H'
  | .er c fs m => ∀ ρ' S' H' d σ', Ext ρ S H ρ' S' H' → RelM K G ρ' S' H' m → XAt K G ρ' S' H' fs d → W (.ref (G.ca c)) d σ' H'
  | .no => False
def SatG (ρ : List Addr) (S : Addr → Prop) (H : Hp) (W : WX) (Q : L2.St → Hp → Prop) : Res Env → Prop
  | .ok e m => ∀ ρ' S' H' σ', Ext ρ S H ρ' S' H' → Rel K G ρ' S' H' e m σ' → Q σ' H'
  | .er c fs m => ∀ ρ' S' H' d σ', Ext ρ S H ρ' S' H' → RelM K G ρ' S' H' m → XAt K G ρ' S' H' fs d → W (.ref (G.ca c)) d σ' H'
  | .no => False
def tS (W : WX) (f : Env → M Flow) : TS := fun D σ H => ∃ ρ S env mem, Rel K G ρ S H env mem σ ∧ SatS K G ρ S H W D (f env mem)
def tG (W : WX) (g : Va → Env → M Env) : TG := fun v σ H Q => ∃ ρ S env mem w, Rel K G ρ S H env mem σ ∧ Rv K G ρ S H w v ∧ SatG K G ρ S H W Q (g w env mem)
def tGs (W : WX) (g : List Va → Env → M Env) : TGs := fun vs σ H Q => ∃ ρ S env mem ws, Rel K G ρ S H env mem σ ∧ Rvs K G ρ S H ws vs ∧ SatG K G ρ S H W Q (g ws env mem)
end
abbrev SS (X : Cx) (G : Gc) (W : WX) (st : Stmt) (f : Env → M Flow) : Prop := PS X st (tS X.K G W f)
abbrev SSs (X : Cx) (G : Gc) (W : WX) (st : List Stmt) (f : Env → M Flow) : Prop := PSs X st (tS X.K G W f)
abbrev SG (X : Cx) (G : Gc) (W : WX) (tg : Expr) (g : Va → Env → M Env) : Prop := PG X tg (tG X.K G W g)
abbrev SGs (X : Cx) (G : Gc) (W : WX) (tgs : List Expr) (g : List Va → Env → M Env) : Prop := PGs X tgs (tGs X.K G W g)
theorem PS.imp {X : Cx} {e : Stmt} {t t' : TS} (h : PS X e t) (i : ∀ D σ H, t' D σ H → t D σ H) : PS X e t' := ⟨fun pins s σ H D I q => h.run pins s σ H D I (i D σ H q)⟩
theorem PSs.imp {X : Cx} {e : List Stmt} {t t' : TS} (h : PSs X e t) (i : ∀ D σ H, t' D σ H → t D σ H) : PSs X e t' := ⟨fun pins s σ H D I q => h.run pins s σ H D I (i D σ H q)⟩
theorem PG.imp {X : Cx} {e : Expr} {t t' : TG} (h : PG X e t) (i : ∀ v σ H Q, t' v σ H Q → t v σ H Q) : PG X e t' := ⟨fun pins s σ H v u Q I r q => h.run pins s σ H v u Q I r (i v σ H Q q)⟩
theorem PGs.imp {X : Cx} {e : List Expr} {t t' : TGs} (h : PGs X e t) (i : ∀ v σ H Q, t' v σ H Q → t v σ H Q) : PGs X e t' := ⟨fun pins s σ H v u Q I r q => h.run pins s σ H v u Q I r (i v σ H Q q)⟩
section
variable {X : Cx} {K : PySem.W.Frag} {G : Gc} {ρ ρ1 : List Addr} {S S1 : Addr → Prop} {H H1 : Hp} {env : Env} {mem : Mem} {σ : L2.St} {W : WX} {D D' : Ends}
theorem SatS.ext (e : Ext ρ S H ρ1 S1 H1) : ∀ {r : Res Flow}, SatS K G ρ S H W D r → SatS K G ρ1 S1 H1 W D r
  | .ok (.nx _) _, h => fun ρ' S' H' σ' e2 => h ρ' S' H' σ' (e.trans e2)
  | .ok (.bk _) _, h => fun ρ' S' H' σ' e2 => h ρ' S' H' σ' (e.trans e2)
  | .ok (.ct _) _, h => fun ρ' S' H' σ' e2 => h ρ' S' H' σ' (e.trans e2)
  | .ok (.rt _) _, h => fun ρ' S' H' v e2 => h ρ' S' H' v (e.trans e2)
  | .er _ _ _, h => fun ρ' S' H' d σ' e2 => h ρ' S' H' d σ' (e.trans e2)
  | .no, h => h
theorem SatG.ext {Q : L2.St → Hp → Prop} (e : Ext ρ S H ρ1 S1 H1) : ∀ {r : Res Env}, SatG K G ρ S H W Q r → SatG K G ρ1 S1 H1 W Q r
  | .ok _ _, h => fun ρ' S' H' σ' e2 => h ρ' S' H' σ' (e.trans e2)
  | .er _ _ _, h => fun ρ' S' H' d σ' e2 => h ρ' S' H' d σ' (e.trans e2)
  | .no, h => h
/-- an expression, then what hangs on its value -/
theorem SatS.ofE {α β : Type} {rel : Rx α β} {f : α → Mem → Res Flow} : ∀ {r : Res α}, SatS K G ρ S H W D (r.bind f) →
    Sat K G rel ρ S env σ H W (fun v H1 => ∃ ρ1 S1 w m1, Ext ρ S H ρ1 S1 H1 ∧ Rel K G ρ1 S1 H1 env m1 σ ∧ rel ρ1 S1 H1 w v ∧ SatS K G ρ1 S1 H1 W D (f w m1)) r
  | .ok w m, h => fun ρ1 S1 H1 v e R rv => ⟨ρ1, S1, w, m, e, R, rv, SatS.ext e (r := f w m) h⟩
  | .er c fs m, h => fun ρ1 S1 H1 d e R x => h ρ1 S1 H1 d σ e R.toRelM x
  | .no, h => h
theorem SatG.ofE {α β : Type} {rel : Rx α β} {f : α → Mem → Res Env} {Q : L2.St → Hp → Prop} : ∀ {r : Res α}, SatG K G ρ S H W Q (r.bind f) →
    Sat K G rel ρ S env σ H W (fun v H1 => ∃ ρ1 S1 w m1, Ext ρ S H ρ1 S1 H1 ∧ Rel K G ρ1 S1 H1 env m1 σ ∧ rel ρ1 S1 H1 w v ∧ SatG K G ρ1 S1 H1 W Q (f w m1)) r
  | .ok w m, h => fun ρ1 S1 H1 v e R rv => ⟨ρ1, S1, w, m, e, R, rv, SatG.ext e (r := f w m) h⟩
  | .er c fs m, h => fun ρ1 S1 H1 d e R x => h ρ1 S1 H1 d σ e R.toRelM x
  | .no, h => h
theorem SatS.ofG {f : Env → Mem → Res Flow} : ∀ {r : Res Env}, SatS K G ρ S H W D (r.bind f) →
    SatG K G ρ S H W (fun σ1 H1 => ∃ ρ1 S1 e m1, Ext ρ S H ρ1 S1 H1 ∧ Rel K G ρ1 S1 H1 e m1 σ1 ∧ SatS K G ρ1 S1 H1 W D (f e m1)) r
  | .ok w m, h => fun ρ1 S1 H1 σ1 e R => ⟨ρ1, S1, w, m, e, R, SatS.ext e (r := f w m) h⟩
  | .er c fs m, h => h
  | .no, h => h
theorem SatG.ofG {f : Env → Mem → Res Env} {Q : L2.St → Hp → Prop} : ∀ {r : Res Env}, SatG K G ρ S H W Q (r.bind f) →
    SatG K G ρ S H W (fun σ1 H1 => ∃ ρ1 S1 e m1, Ext ρ S H ρ1 S1 H1 ∧ Rel K G ρ1 S1 H1 e m1 σ1 ∧ SatG K G ρ1 S1 H1 W Q (f e m1)) r
  | .ok w m, h => fun ρ1 S1 H1 σ1 e R => ⟨ρ1, S1, w, m, e, R, SatG.ext e (r := f w m) h⟩
  | .er c fs m, h => h
  | .no, h => h
theorem SatG.imp {Q Q' : L2.St → Hp → Prop} (i : ∀ σ H, Q σ H → Q' σ H) : ∀ {r : Res Env}, SatG K G ρ S H W Q r → SatG K G ρ S H W Q' r
  | .ok _ _, h => fun ρ' S' H' σ' e2 R => i _ _ (h ρ' S' H' σ' e2 R)
  | .er _ _ _, h => h
  | .no, h => h
/-! ### plain ones -/
variable {pos : Pos} {a b c : Expr} {fa fb : Env → M Va} {st : Stmt} {sts sts2 : List Stmt} {f g : Env → M Flow}
theorem sim_snil : SSs X G W [] sNext := PSs.imp pss_nil fun D σ H ⟨ρ, S, env, mem, R, h⟩ => h ρ S H σ Ext.refl R
theorem sim_pass : SS X G W (.Pass pos) sNext := PS.imp ps_pass fun D σ H ⟨ρ, S, env, mem, R, h⟩ => h ρ S H σ Ext.refl R
theorem sim_break : SS X G W (.Break pos) sBreak := PS.imp ps_break fun D σ H ⟨ρ, S, env, mem, R, h⟩ => h ρ S H σ Ext.refl R
theorem sim_cont : SS X G W (.Continue pos) sCont := PS.imp ps_continue fun D σ H ⟨ρ, S, env, mem, R, h⟩ => h ρ S H σ Ext.refl R
theorem SatS.seq : ∀ {r : Res Flow}, SatS K G ρ S H W D (r.bind fun x m => (match x with | .nx e => g e | .rt v => M.pure (.rt v) | .bk e => M.pure (.bk e) | .ct e => M.pure (.ct e) : M Flow) m) →
    SatS K G ρ S H W { D with nx := tS K G W g D } r
  | .ok (.nx e) m, h => fun ρ' S' H' σ' e2 R => ⟨ρ', S', e, m, R, SatS.ext e2 (r := g e m) h⟩
  | .ok (.bk _) _, h => h
  | .ok (.ct _) _, h => h
  | .ok (.rt _) _, h => h
  | .er _ _ _, h => h
  | .no, h => h
theorem sim_scons (h1 : SS X G W st f) (h2 : SSs X G W sts g) : SSs X G W (st :: sts) (sSeq f g) :=
  PSs.imp (pss_cons h1 h2) fun D σ H ⟨ρ, S, env, mem, R, h⟩ => ⟨ρ, S, env, mem, R, SatS.seq h⟩
theorem sim_sone (h1 : SS X G W st f) : SSs X G W [st] f := pss_one h1
theorem sim_expr (ha : SE X G W a fa) (hs : swapsWith a none pos.line X.env = pure false := by rfl) : SS X G W (.Expr a pos) (sExpr fa) :=
  PS.imp (ps_expr ha hs) fun D σ H ⟨ρ, S, env, mem, R, h⟩ => tX.of R ((SatS.ofE (rel := Rv X.K G) h).imp fun v H1 ⟨ρ1, S1, w, m1, e1, R1, r1, h1⟩ => h1 ρ1 S1 H1 σ Ext.refl R1)
theorem sim_ret (ha : SE X G W a fa) : SS X G W (.Return (some a) pos) (sRet fa) :=
  PS.imp (ps_ret ha) fun D σ H ⟨ρ, S, env, mem, R, h⟩ => tX.of R ((SatS.ofE (rel := Rv X.K G) h).imp fun v H1 ⟨ρ1, S1, w, m1, e1, R1, r1, h1⟩ => h1 ρ1 S1 H1 v Ext.refl R1.toRelM r1)
theorem sim_retN : SS X G W (.Return none pos) sRetN :=
  PS.imp ps_retN fun D σ H ⟨ρ, S, env, mem, R, h⟩ => h ρ S H .non Ext.refl R.toRelM (by simp only [Rv])
/-- a slot stored -/
theorem Rel.put {i : Nat} {x : Va} {v : V} (R : Rel K G ρ S H env mem σ) (r : Rv K G ρ S H x v) : Rel K G ρ S H (env.set i (some x)) mem (σ.set i (some v)) := by
  refine ⟨R.toRelM, fun j y h => ?_, by simp [R.size]⟩
  by_cases e : i = j
  · subst e
    by_cases hl : i < env.length
    · rw [List.getElem?_set_self hl] at h
      cases h
      exact ⟨v, by rw [List.getElem?_set_self (by rw [← R.size]; exact hl)], r⟩
    · rw [List.getElem?_eq_none (by rw [List.length_set]; omega)] at h; cases h
  · rw [List.getElem?_set_ne e] at h
    rw [List.getElem?_set_ne e]
    exact R.slot j y h
theorem sim_set {i : Nat} {x : Str} {pos' : Pos} (hN : X.N.Nodup) (hi : X.N[i]? = some x) (hx : Loc X.env.scope x) (ha : SE X G W a fa) (hs : swapsWith a (some (.Name x pos')) pos.line X.env = pure false := by rfl)
    (hf : X.fn x = true ∨ X.env.scope.names.lookup x = some .local := by first | exact .inl rfl | exact .inr rfl | assumption) : SS X G W (.Assign [.Name x pos'] a pos) (sSet i fa) :=
  PS.imp (ps_set hN hi hx ha hs hf) fun D σ H ⟨ρ, S, env, mem, R, h⟩ => tX.of R ((SatS.ofE (rel := Rv X.K G) h).imp fun v H1 ⟨ρ1, S1, w, m1, e1, R1, r1, h1⟩ => h1 ρ1 S1 H1 _ Ext.refl (R1.put r1))
theorem sim_asg {tg : Expr} {gt : Va → Env → M Env} (ha : SE X G W a fa) (hg : SG X G W tg gt) (hs : swapsWithSole [tg] a pos.line X.env = pure false := by rfl) (hw : swappedStores [tg] a X.env = pure none := by rfl)
    (h1 : (assignEach [tg] X.env).map (·.2) = [assign tg X.env] := by rfl) : SS X G W (.Assign [tg] a pos) (sAsg gt fa) :=
  PS.imp (ps_asg ha hg hs hw h1) fun D σ H ⟨ρ, S, env, mem, R, h⟩ => tX.of R ((SatS.ofE (rel := Rv X.K G) h).imp fun v H1 ⟨ρ1, S1, w, m1, e1, R1, r1, h1⟩ =>
    ⟨ρ1, S1, env, m1, w, R1, r1, (SatS.ofG h1).imp fun σ2 H2 ⟨ρ2, S2, e, m2, e2, R2, h2⟩ => h2 ρ2 S2 H2 σ2 Ext.refl R2⟩)
theorem sim_sif {fc : Env → M Bool} (hc : ST X G W c fc) (h1 : SSs X G W sts f) (h2 : SSs X G W sts2 g) : SS X G W (.If c sts sts2 pos) (sIf fc f g) :=
  PS.imp (ps_if hc h1 h2) fun D σ H ⟨ρ, S, env, mem, R, h⟩ => tX.of R ((SatS.ofE (rel := Req) h).imp fun v H1 ⟨ρ1, S1, w, m1, e1, R1, r1, h1⟩ => by
    cases r1
    cases v with
    | true => exact ⟨ρ1, S1, env, m1, R1, h1⟩
    | false => exact ⟨ρ1, S1, env, m1, R1, h1⟩)
/-! ### targets -/
theorem sim_gvar {i : Nat} {x : Str} (hN : X.N.Nodup) (hi : X.N[i]? = some x) (hx : Loc X.env.scope x) (hf : X.fn x = true ∨ X.env.scope.names.lookup x = some .local := by first | exact .inl rfl | exact .inr rfl | assumption) : SG X G W (.Name x pos) (gVar i) :=
  PG.imp (pg_name hN hi hx hf) fun v σ H Q ⟨ρ, S, env, mem, w, R, r, h⟩ => h ρ S H _ Ext.refl (R.put r)
theorem sim_gnil : SGs X G W [] gNil := PGs.imp pgs_nil fun vs σ H Q ⟨ρ, S, env, mem, ws, R, r, h⟩ => by
  cases ws with
  | nil => simp only [Rvs] at r; exact ⟨r, h ρ S H σ Ext.refl R⟩
  | cons _ _ => exact h.elim
theorem sim_gcons {tgs : List Expr} {gt : Va → Env → M Env} {gts : List Va → Env → M Env} (h1 : SG X G W a gt) (h2 : SGs X G W tgs gts) (hs : (assignEach (a :: tgs) X.env).map (·.2) = assign a X.env :: (assignEach tgs X.env).map (·.2) := by rfl) : SGs X G W (a :: tgs) (gCons gt gts) :=
  PGs.imp (pgs_cons h1 h2 hs) fun vs σ H Q ⟨ρ, S, env, mem, ws, R, r, h⟩ => by
    cases ws with
    | nil => exact h.elim
    | cons w ws =>
      simp only [Rvs] at r
      obtain ⟨v, s, rfl, r1, r2⟩ := r
      exact ⟨v, s, rfl, ρ, S, env, mem, w, R, r1, (SatG.ofG h).imp fun σ2 H2 ⟨ρ2, S2, e, m2, e2, R2, h2⟩ => ⟨ρ2, S2, e, m2, ws, R2, Rvs.mono e2 R.out _ _ r2, h2⟩⟩
theorem asQ_ok {x : Va} {v : V} {xs : List Va} {m : Mem} (R : RelM K G ρ S H mem) (r : Rv K G ρ S H x v) (h : asQ x mem = .ok xs m) : m = mem ∧ ∃ a vs, v = .ref a ∧ (SqL K H a vs ∨ SqT K H a vs) ∧ Rvs K G ρ S H xs vs := by
  unfold asQ at h
  split at h
  · cases h
    simp only [Rv] at r
    obtain ⟨a, vs, rfl, h1, h2⟩ := r
    exact ⟨rfl, a, vs, rfl, .inl h1.sq, h2⟩
  · cases h
    simp only [Rv] at r
    obtain ⟨a, vs, rfl, h1, h2⟩ := r
    exact ⟨rfl, a, vs, rfl, .inr h1.sq, h2⟩
  · cases h
    simp only [Rv] at r
    obtain ⟨a, vs, rfl, h1, h2⟩ := r
    exact ⟨rfl, a, vs, rfl, .inr h1.sq, h2⟩
  · split at h
    · rename_i hn
      cases h
      simp only [Rv] at r
      obtain ⟨a, rfl, ha⟩ := r
      obtain ⟨b, h1, vs, h2, h3⟩ := R.cell _ _ hn
      rw [ha] at h1; cases h1
      exact ⟨rfl, a, vs, rfl, .inl (SqL.of h2), h3⟩
    · cases h
  · cases h
theorem asQ_case (x : Va) (m : Mem) : (∃ xs, asQ x m = .ok xs m) ∨ asQ x m = .no := by
  unfold asQ
  repeat' split
  all_goals first | exact .inl ⟨_, rfl⟩ | exact .inr rfl
theorem PG.or {X : Cx} {tg : Expr} {t t' : TG} (h : PG X tg t) (h' : PG X tg t') : PG X tg fun v σ H Q => t v σ H Q ∨ t' v σ H Q :=
  ⟨fun pins s σ H v u Q I r q => q.elim (fun z => h.run pins s σ H v u Q I r z) fun z => h'.run pins s σ H v u Q I r z⟩
theorem sim_gtup {tgs : List Expr} {gts : List Va → Env → M Env} {k n : Nat} (hc : X.calm = true) (h : SGs X G W tgs gts) (hn : (assignEach tgs X.env).length = n := by rfl) (hst : (assignEach tgs X.env).findIdx? (·.1) = none := by rfl) :
    SG X G W (.Tuple tgs k pos) (gTup n gts) :=
  PG.imp (PG.or (pg_tup hc h hn hst) (pg_unl hc h hn hst)) fun v σ H Q ⟨ρ, S, env, mem, w, R, r, h⟩ => by
    unfold gTup at h
    rcases asQ_case w mem with ⟨xs, e⟩ | e
    · simp only [bind_eq, e, bind_ok] at h
      obtain ⟨_, a, vs, rfl, sq, rs⟩ := asQ_ok R.toRelM r e
      split at h
      · rename_i hl
        rcases sq with sq | sq
        · exact .inr ⟨a, vs, rfl, sq, by rw [rvs_length rs, hl], ρ, S, env, mem, xs, R, rs, h⟩
        · exact .inl ⟨a, vs, rfl, sq, by rw [rvs_length rs, hl], ρ, S, env, mem, xs, R, rs, h⟩
      · exact h.elim
    · simp only [bind_eq, e, bind_no] at h; exact h.elim
/-! ### a cell written -/
theorem ext_set {p : Addr} {o : HO} (hp : p ∈ ρ) : Ext ρ S H ρ S (upd H p o) where
  pre := ⟨[], by simp⟩
  sub := fun _ h => h
  old := fun a o' h hn _ => by rw [upd_ne (fun (z : a = p) => hn (z ▸ hp))]; exact h
  trk := fun a h => by
    by_cases e : a = p
    · subst e; rw [upd_same] at h; cases h
    · rw [upd_ne e] at h; exact h
  src := fun a h => .inl h
  new := fun a h => .inl h
theorem tabs_set {T : List (Addr × Str)} {p : Addr} {o u : HO} (t : LamX.Tabs T H) (hp : H p = some u) (h1 : ∀ ps, u ≠ .tbl ps) (h2 : ∀ φ, u ≠ .ext φ) : LamX.Tabs T (upd H p o) := by
  intro q hq
  obtain ⟨ps, a, b, c⟩ := t q hq
  refine ⟨ps, by rw [upd_ne (ne_of a hp (fun z => h1 ps z.symm))]; exact a, b, fun pos cv hc => ?_⟩
  obtain ⟨d, e1, e2⟩ := c pos cv hc
  exact ⟨d, e1, by rw [upd_ne (ne_of e2 hp (fun z => h2 _ z.symm))]; exact e2⟩
theorem tabsS_set {T : List (Addr × Str)} {p : Addr} {o u : HO} (t : TabsS T S H) (hp : H p = some u) (h1 : ∀ ps, u ≠ .tbl ps) (h2 : ∀ φ, u ≠ .ext φ) : TabsS T S (upd H p o) :=
  ⟨tabs_set t.1 hp h1 h2, fun q hq ps pos c h3 h4 => by
    obtain ⟨ps', a, _⟩ := t.1 q hq
    rw [upd_ne (ne_of a hp (fun z => h1 ps' z.symm))] at h3
    exact t.2 q hq ps pos c h3 h4⟩
theorem rel_set {p : Addr} {n : Nat} {o : HO} {c : Cell} (R : Rel K G ρ S H env mem σ) (hp : ρ[n]? = some p) (hk : ∃ u, H p = some u ∧ (∀ ps, u ≠ .tbl ps) ∧ (∀ φ, u ≠ .ext φ) ∧ ∀ x, u ≠ .own x) (hc : RvC K G ρ S (upd H p o) p c) :
    Rel K G ρ S (upd H p o) env (mem.set n c) σ := by
  have hm : p ∈ ρ := List.mem_of_getElem? hp
  have e : Ext ρ S H ρ S (upd H p o) := ext_set hm
  obtain ⟨u, hu, k1, k2, k3⟩ := hk
  refine ⟨⟨fun a h => ?_, fun j c' h => ?_, R.out, by simp [R.len], R.nd, tabsS_set R.tabs hu k1 k2⟩, fun i x h => ?_, R.size⟩
  · by_cases z : a = p
    · subst z; rw [upd_same]; simp
    · rw [upd_ne z]; exact R.there a h
  · by_cases hj : n = j
    · subst hj
      have hl : n < mem.length := by rw [← R.len]; exact (List.getElem?_eq_some_iff.mp hp).1
      rw [List.getElem?_set_self hl] at h
      cases h
      exact ⟨p, hp, hc⟩
    · rw [List.getElem?_set_ne hj] at h
      obtain ⟨a, h1, h2⟩ := R.cell j c' h
      have na : a ≠ p := fun z => by
        subst z
        obtain ⟨b1, q1⟩ := List.getElem?_eq_some_iff.mp hp
        obtain ⟨b2, q2⟩ := List.getElem?_eq_some_iff.mp h1
        exact hj ((List.getElem_inj R.nd).mp (q1.trans q2.symm))
      exact ⟨a, h1, h2.mono e R.out (fun o' ho => by rw [upd_ne na]; exact ho)⟩
  · obtain ⟨v, h1, h2⟩ := R.slot i x h
    exact ⟨v, h1, Rv.mono e R.out _ _ h2⟩
end
end Vm
end
section
set_option Elab.async false
set_option linter.all false
set_option autoImplicit false
set_option maxRecDepth 100000
/-! SimL: stores to cells, loops. -/
namespace Vm
open PySem PySem.Spec PyProof.Rows L2
section
variable {X : Cx} {K : PySem.W.Frag} {G : Gc} {ρ ρ1 : List Addr} {S S1 : Addr → Prop} {H H1 : Hp} {env : Env} {mem : Mem} {σ : L2.St} {W : WX} {D D' : Ends}
variable {pos : Pos} {a b c : Expr} {fa fb : Env → M Va} {st : Stmt} {sts sts2 : List Stmt} {f g : Env → M Flow}
/-! ### o[i] = x -/
theorem rvs_set {x : Va} {v : V} (r : Rv K G ρ S H x v) : ∀ {xs : List Va} {vs : List V} (j : Nat), Rvs K G ρ S H xs vs → Rvs K G ρ S H (xs.set j x) (vs.set j v)
  | [], vs, j, h => by simp only [Rvs] at h; subst h; simp only [List.set_nil]; exact rvs_nil
  | y :: s, vs, 0, h => by
    simp only [Rvs] at h
    obtain ⟨u, t, rfl, h1, h2⟩ := h
    exact rvs_cons r h2
  | y :: s, vs, j + 1, h => by
    simp only [Rvs] at h
    obtain ⟨u, t, rfl, h1, h2⟩ := h
    exact rvs_cons h1 (rvs_set r j h2)
theorem ixV_ok {n : Nat} {i : Int} {j : Nat} (h : ixV n i = some j) : ixN n i = some j := h
theorem rvk_len : ∀ {kvs : List (Va × Va)} {ps : List (Key × V)}, RvK K G ρ S H kvs ps → ps.length = kvs.length
  | [], ps, h => by simp only [RvK] at h; subst h; rfl
  | (q, w) :: r, ps, h => by
    simp only [RvK] at h
    obtain ⟨p, v, s, rfl, h0, h1, h2⟩ := h
    simp only [List.length_cons, rvk_len h2]
theorem rvt_len : ∀ {kvs : List (Va × Va)} {ps : List (List Key × V)}, RvT K G ρ S H kvs ps → ps.length = kvs.length
  | [], ps, h => by simp only [RvT] at h; subst h; rfl
  | (q, w) :: r, ps, h => by
    simp only [RvT] at h
    obtain ⟨p, v, s, rfl, h0, h1, h2⟩ := h
    simp only [List.length_cons, rvt_len h2]
theorem rvk_any {x : Va} {k : Key} (hk : keyV x = some k) : ∀ {kvs : List (Va × Va)} {ps : List (Key × V)}, RvK K G ρ S H kvs ps → (ps.any fun kv => decide (kv.1 = k)) = kvs.any fun p => keq false p.1 x
  | [], ps, h => by simp only [RvK] at h; subst h; rfl
  | (q, w) :: r, ps, h => by
    simp only [RvK] at h
    obtain ⟨p, u, s, rfl, h0, h1, h2⟩ := h
    have e1 : keq false q x = decide (p = k) := keq1_ok h0 hk
    simp only [List.any_cons, rvk_any hk h2, e1]
theorem rvk_map {x y : Va} {k : Key} {v : V} (hk : keyV x = some k) (ry : Rv K G ρ S H y v) : ∀ {kvs : List (Va × Va)} {ps : List (Key × V)}, RvK K G ρ S H kvs ps → RvK K G ρ S H (kvs.map fun p => if keq false p.1 x then (p.1, y) else p) (ps.map fun kv => if kv.1 = k then (kv.1, v) else kv)
  | [], ps, h => by simp only [RvK] at h; subst h; simp only [List.map_nil, RvK]
  | (q, w) :: r, ps, h => by
    simp only [RvK] at h
    obtain ⟨p, u, s, rfl, h0, h1, h2⟩ := h
    have e1 : keq false q x = decide (p = k) := keq1_ok h0 hk
    simp only [List.map_cons]
    rw [e1]
    by_cases e : p = k
    · rw [if_pos (by simpa using e), if_pos e]
      simp only [RvK]
      exact ⟨p, v, _, rfl, h0, ry, rvk_map hk ry h2⟩
    · rw [if_neg (by simpa using e), if_neg e]
      simp only [RvK]
      exact ⟨p, u, _, rfl, h0, h1, rvk_map hk ry h2⟩
theorem rvk_snoc {x y : Va} {k : Key} {v : V} (hk : keyV x = some k) (ry : Rv K G ρ S H y v) : ∀ {kvs : List (Va × Va)} {ps : List (Key × V)}, RvK K G ρ S H kvs ps → RvK K G ρ S H (kvs ++ [(x, y)]) (ps ++ [(k, v)])
  | [], ps, h => by simp only [RvK] at h; subst h; simp only [List.nil_append, RvK]; exact ⟨k, v, [], rfl, hk, ry, rfl⟩
  | (q, w) :: r, ps, h => by
    simp only [RvK] at h
    obtain ⟨p, u, s, rfl, h0, h1, h2⟩ := h
    simp only [List.cons_append, RvK]
    exact ⟨p, u, _, rfl, h0, h1, rvk_snoc hk ry h2⟩
theorem putK_rvK {x y : Va} {k : Key} {v : V} (hk : keyV x = some k) (ry : Rv K G ρ S H y v) {kvs : List (Va × Va)} {ps : List (Key × V)} (h : RvK K G ρ S H kvs ps) : RvK K G ρ S H (putK false x y kvs) (L2.putK ps k v) := by
  unfold putK L2.putK
  rw [rvk_any hk h]
  split
  · exact rvk_map hk ry h
  · exact rvk_snoc hk ry h
theorem keq_T {q x : Va} {p k : List Key} (h0 : keyT q = some p) (hk : keyT x = some k) : keq true q x = decide (p = k) := by
  obtain ⟨xs, rfl, hxs⟩ := keyT_tup hk
  obtain ⟨ys, rfl, hys⟩ := keyT_tup h0
  exact keqs_ok hys hxs
theorem rvt_any {x : Va} {k : List Key} (hk : keyT x = some k) : ∀ {kvs : List (Va × Va)} {ps : List (List Key × V)}, RvT K G ρ S H kvs ps → (ps.any fun kv => decide (kv.1 = k)) = kvs.any fun p => keq true p.1 x
  | [], ps, h => by simp only [RvT] at h; subst h; rfl
  | (q, w) :: r, ps, h => by
    simp only [RvT] at h
    obtain ⟨p, u, s, rfl, h0, h1, h2⟩ := h
    simp only [List.any_cons, rvt_any hk h2, keq_T h0 hk]
theorem rvt_map {x y : Va} {k : List Key} {v : V} (hk : keyT x = some k) (ry : Rv K G ρ S H y v) : ∀ {kvs : List (Va × Va)} {ps : List (List Key × V)}, RvT K G ρ S H kvs ps → RvT K G ρ S H (kvs.map fun p => if keq true p.1 x then (p.1, y) else p) (ps.map fun kv => if kv.1 = k then (kv.1, v) else kv)
  | [], ps, h => by simp only [RvT] at h; subst h; simp only [List.map_nil, RvT]
  | (q, w) :: r, ps, h => by
    simp only [RvT] at h
    obtain ⟨p, u, s, rfl, h0, h1, h2⟩ := h
    simp only [List.map_cons]
    rw [keq_T h0 hk]
    by_cases e : p = k
    · rw [if_pos (by simpa using e), if_pos e]
      simp only [RvT]
      exact ⟨p, v, _, rfl, h0, ry, rvt_map hk ry h2⟩
    · rw [if_neg (by simpa using e), if_neg e]
      simp only [RvT]
      exact ⟨p, u, _, rfl, h0, h1, rvt_map hk ry h2⟩
theorem rvt_snoc {x y : Va} {k : List Key} {v : V} (hk : keyT x = some k) (ry : Rv K G ρ S H y v) : ∀ {kvs : List (Va × Va)} {ps : List (List Key × V)}, RvT K G ρ S H kvs ps → RvT K G ρ S H (kvs ++ [(x, y)]) (ps ++ [(k, v)])
  | [], ps, h => by simp only [RvT] at h; subst h; simp only [List.nil_append, RvT]; exact ⟨k, v, [], rfl, hk, ry, rfl⟩
  | (q, w) :: r, ps, h => by
    simp only [RvT] at h
    obtain ⟨p, u, s, rfl, h0, h1, h2⟩ := h
    simp only [List.cons_append, RvT]
    exact ⟨p, u, _, rfl, h0, h1, rvt_snoc hk ry h2⟩
theorem putK_rvT {x y : Va} {k : List Key} {v : V} (hk : keyT x = some k) (ry : Rv K G ρ S H y v) {kvs : List (Va × Va)} {ps : List (List Key × V)} (h : RvT K G ρ S H kvs ps) : RvT K G ρ S H (putK true x y kvs) (L2.putK ps k v) := by
  unfold putK L2.putK
  rw [rvt_any hk h]
  split
  · exact rvt_map hk ry h
  · exact rvt_snoc hk ry h
/-! ### stores -/
def rSetD : TSet := fun o i v H Q => ∃ p H', o = .ref p ∧ DPut H p i v H' ∧ Q H'
theorem set_dict (hu : X.A.units + 1 < cLine) : PSet X rSetD := by
  intro pins s σ H o i v ov iv u Q I ro ri rv h
  obtain ⟨p, H', rfl, g, q⟩ := h
  obtain rfl : ov = Value.ref p := ro
  exact d_setItem hu I g ri rv fun s' I' => ⟨H', I', q⟩
theorem PSet.or {t t' : TSet} (h : PSet X t) (h' : PSet X t') : PSet X fun o i v H Q => t o i v H Q ∨ t' o i v H Q :=
  fun pins s σ H o i v ov iv u Q I ro ri rv q => q.elim (fun z => h pins s σ H o i v ov iv u Q I ro ri rv z) fun z => h' pins s σ H o i v ov iv u Q I ro ri rv z
def rSetV : TSet := fun o i v H Q => rSetL o i v H Q ∨ rSetD o i v H Q
theorem set_V (hu : X.A.units + 1 < cLine) : PSet X rSetV := PSet.or set_list (set_dict hu)
theorem setM_case (o k x : Va) (m : Mem) : (∃ m', setM o k x m = .ok () m') ∨ setM o k x m = .no := by
  unfold setM
  repeat' split
  all_goals first | exact .inl ⟨_, rfl⟩ | exact .inr rfl
theorem setM_ok {o k x : Va} {m' : Mem} {ov kv xv : V} {P : Hp → Prop} (R : Rel K G ρ S H env mem σ) (ro : Rv K G ρ S H o ov) (rk : Rv K G ρ S H k kv) (rx : Rv K G ρ S H x xv) (h : setM o k x mem = .ok () m')
    (hP : ∀ H', Ext ρ S H ρ S H' → Rel K G ρ S H' env m' σ → P H') : rSetV ov kv xv H P := by
  unfold setM at h
  split at h
  · rename_i n
    simp only [Rv] at ro
    obtain ⟨p, rfl, hp⟩ := ro
    have hm : p ∈ ρ := List.mem_of_getElem? hp
    split at h
    · rename_i xs hn
      obtain ⟨b, h1, vs, h2, h3⟩ := R.cell _ _ hn
      rw [hp] at h1; cases h1
      split at h
      · rename_i i
        simp only [Rv] at rk
        split at h
        · rename_i j hj
          injection h with _ h
          subst h
          refine .inl ⟨p, vs, i, j, rfl, rk, h2, by rw [rvs_length h3]; exact hj, ?_⟩
          exact hP _ (ext_set hm) (rel_set R hp ⟨_, h2, (by intro _ z; cases z), (by intro _ z; cases z), (by intro _ z; cases z)⟩ ⟨_, upd_same, Rvs.mono (ext_set hm) R.out _ _ (rvs_set rx j h3)⟩)
        · cases h
      · cases h
    · rename_i t kvs hn
      obtain ⟨b, h1, cc⟩ := R.cell _ _ hn
      rw [hp] at h1; cases h1
      split at h
      · rename_i hk
        injection h with _ h
        subst h
        rcases cc with ⟨rfl, ps, h2, h3⟩ | ⟨rfl, ps, h2, h3⟩
        · obtain ⟨q, hq⟩ := key1_ok (x := k) (by simpa [isKey] using hk.1)
          refine .inr ⟨p, _, rfl, .inl ⟨ps, q, h2, keyV_kV hq rk, by rw [rvk_len h3, ← line_eq]; exact hk.2, rfl⟩, ?_⟩
          exact hP _ (ext_set hm) (rel_set R hp ⟨_, h2, (by intro _ z; cases z), (by intro _ z; cases z), (by intro _ z; cases z)⟩ (.inl ⟨rfl, _, upd_same, RvK.mono (ext_set hm) R.out _ _ (putK_rvK hq rx h3)⟩))
        · cases k <;> simp only [isKey, Bool.false_eq_true, false_and] at hk
          obtain ⟨ks, e⟩ := keys_ok hk.1
          simp only [Rv] at rk
          obtain ⟨b, vs, rfl, h5, h6⟩ := rk
          have := rvs_keys e h6
          subst this
          refine .inr ⟨p, _, rfl, .inr ⟨ps, ks, b, h2, rfl, h5.2, by rw [rvt_len h3, ← line_eq]; exact hk.2, rfl⟩, ?_⟩
          exact hP _ (ext_set hm) (rel_set R hp ⟨_, h2, (by intro _ z; cases z), (by intro _ z; cases z), (by intro _ z; cases z)⟩ (.inr ⟨rfl, _, upd_same, RvT.mono (ext_set hm) R.out _ _ (putK_rvT (by simpa [keyT] using e) rx h3)⟩))
      · cases h
    · cases h
  · cases h
theorem SatG.two {op : Va → Va → M Env} {Q : L2.St → Hp → Prop} {P : V → V → Hp → Prop}
    (hop : ∀ ρ1 S1 mem1 H1 x y v u, Ext ρ S H ρ1 S1 H1 → Rel K G ρ1 S1 H1 env mem1 σ → Rv K G ρ1 S1 H1 x v → Rv K G ρ1 S1 H1 y u → SatG K G ρ1 S1 H1 W Q (op x y mem1) → P v u H1)
    (R : Rel K G ρ S H env mem σ) (h : SatG K G ρ S H W Q ((do let x ← fa env; let y ← fb env; op x y : M Env) mem)) :
    tE K G W fa σ H fun x H1 => tE K G W fb σ H1 fun y H2 => P x y H2 :=
  tX.of R ((SatG.ofE h).imp fun v H1 ⟨ρ1, S1, w, m1, e1, R1, r1, h1⟩ => tX.of R1 ((SatG.ofE h1).imp fun u H2 ⟨ρ2, S2, w2, m2, e2, R2, r2, h2⟩ =>
    hop ρ2 S2 m2 H2 w w2 v u (e1.trans e2) R2 (Rv.mono e2 R1.out _ _ r1) r2 h2))
theorem sim_gix (hu : X.A.units + 1 < cLine) (ha : SE X G W a fa) (hb : SE X G W b fb) (he : ∀ v, assign (.Subscript a b pos) X.env v = (do
      let ov ← holding [v] (eval a X.env)
      let iv ← holding [v, ov] (eval b X.env)
      standAt pos
      holding [v, ov, iv] (setItem ov iv v)
      release [v, ov, iv] []) := by intro _; rfl) : SG X G W (.Subscript a b pos) (gIx fa fb) :=
  PG.imp (pg_sub ha hb (set_V hu) he) fun v σ H Q ⟨ρ, S, env, mem, w, R, r, h⟩ =>
    SatG.two (op := fun o k => do setM o k w; M.pure env) (fun ρ1 S1 m1 H1 x y xv yv e R1 r1 r2 q => by
      rcases setM_case x y w m1 with ⟨m', h1⟩ | h1
      · simp only [bind_eq, h1, bind_ok] at q
        exact setM_ok R1 r1 r2 (Rv.mono e R.out _ _ r) h1 fun H' e' R' => q ρ1 S1 H' σ e' R'
      · simp only [bind_eq, h1, bind_no] at q; exact q.elim) R h
/-! ### while -/
theorem tS.of {f : Env → M Flow} (R : Rel K G ρ S H env mem σ) (h : SatS K G ρ S H W D (f env mem)) : tS K G W f D σ H := ⟨ρ, S, env, mem, R, h⟩
/-- behind a loop's body -/
theorem SatS.body {k : Env → M Flow} {N : L2.St → Hp → Prop} (hN : ∀ σ' H', tS K G W k D σ' H' → N σ' H') : ∀ {r : Res Flow}, SatS K G ρ S H W D (r.bind fun x m => (match x with | .nx e => k e | .ct e => k e | .bk e => M.pure (.nx e) | .rt v => M.pure (.rt v) : M Flow) m) →
    SatS K G ρ S H W { D with nx := N, ct := N, bk := D.nx } r
  | .ok (.nx e) m, h => fun ρ' S' H' σ' e2 R => hN _ _ ⟨ρ', S', e, m, R, SatS.ext e2 (r := k e m) h⟩
  | .ok (.ct e) m, h => fun ρ' S' H' σ' e2 R => hN _ _ ⟨ρ', S', e, m, R, SatS.ext e2 (r := k e m) h⟩
  | .ok (.bk e) m, h => h
  | .ok (.rt _) _, h => h
  | .er _ _ _, h => h
  | .no, h => h
theorem sim_while {fc : Env → M Bool} (n : Nat) (hp : PassesOwn (model X.prog X.w) X.A X.env X.xe) (hc : ST X G W c fc) (hb : SSs X G W sts f) : SS X G W (.While c sts [] pos) (sWhile n fc f) :=
  PS.imp (ps_while hp hc hb) fun D σ H h => ⟨fun m σ H => tS X.K G W (sWhile m fc f) D σ H, ⟨n, h⟩, fun m σ H h => by
    obtain ⟨ρ, S, env, mem, R, h⟩ := h
    cases m with
    | zero => exact h.elim
    | succ m =>
      refine tX.of R ((SatS.ofE (rel := Req) h).imp fun v H1 ⟨ρ1, S1, w, m1, e1, R1, r1, h1⟩ => ?_)
      cases r1
      cases v with
      | true =>
        rw [if_pos rfl]
        refine ⟨fun σ' H' => tS X.K G W (sWhile m fc f) D σ' H', fun σ' H' q => ⟨m, Nat.lt_succ_self m, q⟩, tS.of R1 ?_⟩
        exact SatS.body (fun _ _ q => q) h1
      | false =>
        rw [if_neg (by simp)]
        exact h1 ρ1 S1 H1 σ Ext.refl R1⟩
/-! ### for -/
/-- J walks what rd reads, in every later state -/
def Walks (K : PySem.W.Frag) (G : Gc) (ρ0 : List Addr) (S0 : Addr → Prop) (H0 : Hp) (J : It) (rd : Mem → Option (List Va)) : Prop :=
  ∀ ρ S H env mem σ, Ext ρ0 S0 H0 ρ S H → Rel K G ρ S H env mem σ → ∀ xs, rd mem = some xs → ∀ i : Nat,
    (∀ x, xs[i]? = some x → J.go i H ∧ ∀ v H', J.yld i H v H' → ∃ S', Ext ρ S H ρ S' H' ∧ Rel K G ρ S' H' env mem σ ∧ Rv K G ρ S' H' x v) ∧ (xs[i]? = none → J.stop i H)
def rdOf : Src → Mem → Option (List Va)
  | .val xs, _ => some xs
  | .live rd, m => rd m
def tI (K : PySem.W.Frag) (G : Gc) (W : WX) (f : Env → M Src) : TI := fun σ H R => ∃ ρ S env mem, Rel K G ρ S H env mem σ ∧ Sat K G (fun ρ' S' H' (s : Src) (J : It) => Walks K G ρ' S' H' J (rdOf s)) ρ S env σ H W R (f env mem)
abbrev SI (X : Cx) (G : Gc) (W : WX) (tg iter : Expr) (f : Env → M Src) : Prop := PI X tg iter (tI X.K G W f)
theorem PI.imp {X : Cx} {tg e : Expr} {t t' : TI} (h : PI X tg e t) (i : ∀ σ H R, t' σ H R → t σ H R) : PI X tg e t' := ⟨fun pins s σ H R I q => h.run pins s σ H R I (i σ H R q)⟩
/-- one more turn -/
theorem turn_ok {J : It} {rd : Mem → Option (List Va)} {xs : List Va} {x : Va} {i : Nat} {gt : Va → Env → M Env} {k : Env → M Flow} {N : L2.St → Hp → Prop} {ρ0 : List Addr} {S0 : Addr → Prop} {H0 : Hp} (w : Walks K G ρ0 S0 H0 J rd) (e0 : Ext ρ0 S0 H0 ρ S H)
    (R : Rel K G ρ S H env mem σ) (hr : rd mem = some xs) (hx : xs[i]? = some x)
    (hN : ∀ ρ' S' H' σ' e m, Ext ρ0 S0 H0 ρ' S' H' → Rel K G ρ' S' H' e m σ' → SatS K G ρ' S' H' W D (k e m) → N σ' H')
    (h : SatS K G ρ S H W D ((do
        let e ← gt x env
        match ← f e with
        | .nx e => k e
        | .ct e => k e
        | .bk e => M.pure (.nx e)
        | .rt v => M.pure (.rt v) : M Flow) mem)) :
    J.go i H ∧ ∀ y H', J.yld i H y H' → tG K G W gt y σ H' fun σ2 H2 => tS K G W f { D with nx := N, ct := N, bk := D.nx } σ2 H2 := by
  obtain ⟨go, yl⟩ := (w ρ S H env mem σ e0 R xs hr i).1 x hx
  refine ⟨go, fun y H' q => ?_⟩
  obtain ⟨S', e1, R1, r1⟩ := yl y H' q
  refine ⟨ρ, S', env, mem, x, R1, r1, (SatG.imp (fun σ2 H2 q2 => q2) (SatS.ofG (SatS.ext e1 h))).imp fun σ2 H2 ⟨ρ2, S2, e, m2, e2, R2, h2⟩ => ⟨ρ2, S2, e, m2, R2, ?_⟩⟩
  have body : ∀ {r : Res Flow}, SatS K G ρ2 S2 H2 W D (r.bind fun x m => (match x with | .nx e => k e | .ct e => k e | .bk e => M.pure (.nx e) | .rt v => M.pure (.rt v) : M Flow) m) →
      SatS K G ρ2 S2 H2 W { D with nx := N, ct := N, bk := D.nx } r := by
    intro r h
    cases r with
    | ok fl m =>
      cases fl with
      | nx e' => exact fun ρ' S' H' σ' e3 R3 => hN ρ' S' H' σ' e' m (((e0.trans e1).trans e2).trans e3) R3 (SatS.ext e3 (r := k e' m) h)
      | ct e' => exact fun ρ' S' H' σ' e3 R3 => hN ρ' S' H' σ' e' m (((e0.trans e1).trans e2).trans e3) R3 (SatS.ext e3 (r := k e' m) h)
      | bk _ => exact h
      | rt _ => exact h
    | er _ _ _ => exact h
    | no => exact h
  exact body h2
theorem sim_for {tg iter : Expr} {src : Env → M Src} {gt : Va → Env → M Env} (hp : PassesOwn (model X.prog X.w) X.A X.env X.xe) (hc : X.calm = true) (hi : SI X G W tg iter src) (hg : SG X G W tg gt) (hb : SSs X G W sts f)
    (hs : ∀ x, foldedSetIterable iter X.env x = pure x := by intro _; rfl) : SS X G W (.For tg iter sts [] pos) (sFor src gt f) :=
  PS.imp (ps_for hp hc hi hg hb hs) fun D σ H ⟨ρ, S, env, mem, R, h⟩ => by
    refine ⟨ρ, S, env, mem, R, (SatS.ofE (rel := fun ρ' S' H' (s : Src) (J : It) => Walks X.K G ρ' S' H' J (rdOf s)) h).imp fun J H1 ⟨ρ1, S1, s, m1, e1, R1, w1, h1⟩ => ?_⟩
    cases s with
    | val xs =>
      refine ⟨fun i m σ H => ∃ ρ S env mem, Ext ρ1 S1 H1 ρ S H ∧ Rel X.K G ρ S H env mem σ ∧ SatS X.K G ρ S H W D (forL gt f (xs.drop i) env mem) ∧ m = xs.length - i ∧ i ≤ xs.length, ⟨xs.length, ρ1, S1, env, m1, Ext.refl, R1, h1, rfl, Nat.zero_le _⟩, ?_⟩
      rintro i m σ H ⟨ρ, S, env, mem, e, R, h, rfl, hi⟩
      by_cases hlt : i < xs.length
      · rw [List.drop_eq_getElem_cons hlt] at h
        obtain ⟨go, q⟩ := turn_ok (K := X.K) (G := G) (W := W) (D := D) (f := f) (x := xs[i]) (k := forL gt f (xs.drop (i + 1))) (N := fun σ' H' => ∃ ρ S env mem, Ext ρ1 S1 H1 ρ S H' ∧ Rel X.K G ρ S H' env mem σ' ∧ SatS X.K G ρ S H' W D (forL gt f (xs.drop (i + 1)) env mem))
          w1 e R (xs := xs) rfl (List.getElem?_eq_getElem hlt) (fun ρ' S' H' σ' e' m' e2 R2 h2 => ⟨ρ', S', e', m', e2, R2, h2⟩) h
        exact .inr ⟨go, _, fun σ' H' ⟨ρ, S, env, mem, a1, a2, a3⟩ => ⟨xs.length - (i + 1), by omega, ρ, S, env, mem, a1, a2, a3, rfl, hlt⟩, q⟩
      · have hn : xs[i]? = none := List.getElem?_eq_none (by omega)
        rw [List.drop_eq_nil_of_le (by omega)] at h
        exact .inl ⟨(w1 ρ S H env mem σ e R xs rfl i).2 hn, h ρ S H σ Ext.refl R⟩
    | live rd =>
      refine ⟨fun i m σ H => ∃ ρ S env mem, Ext ρ1 S1 H1 ρ S H ∧ Rel X.K G ρ S H env mem σ ∧ SatS X.K G ρ S H W D (forC gt f rd m i env mem), ⟨fuel, ρ1, S1, env, m1, Ext.refl, R1, h1⟩, ?_⟩
      rintro i m σ H ⟨ρ, S, env, mem, e, R, h⟩
      cases m with
      | zero => exact h.elim
      | succ m =>
        have h : SatS X.K G ρ S H W D (match rd mem with
            | none => .no
            | some xs => match xs[i]? with
              | none => .ok (.nx env) mem
              | some x => (do
                let e ← gt x env
                match ← f e with
                | .nx e => forC gt f rd m (i + 1) e
                | .ct e => forC gt f rd m (i + 1) e
                | .bk e => M.pure (.nx e)
                | .rt v => M.pure (.rt v) : M Flow) mem) := h
        cases hr : rd mem with
        | none => rw [hr] at h; exact h.elim
        | some xs =>
          cases hx : xs[i]? with
          | none =>
            simp only [hr, hx] at h
            exact .inl ⟨(w1 ρ S H env mem σ e R xs hr i).2 hx, h ρ S H σ Ext.refl R⟩
          | some x =>
            simp only [hr, hx] at h
            obtain ⟨go, q⟩ := turn_ok (K := X.K) (G := G) (W := W) (D := D) (f := f) (k := forC gt f rd m (i + 1)) (N := fun σ' H' => ∃ ρ S env mem, Ext ρ1 S1 H1 ρ S H' ∧ Rel X.K G ρ S H' env mem σ' ∧ SatS X.K G ρ S H' W D (forC gt f rd m (i + 1) env mem))
              w1 e R hr hx (fun ρ' S' H' σ' e' m' e2 R2 h2 => ⟨ρ', S', e', m', e2, R2, h2⟩) h
            exact .inr ⟨go, _, fun σ' H' z => ⟨m, Nat.lt_succ_self m, z⟩, q⟩
end
end Vm
end
section
set_option Elab.async false
set_option linter.all false
set_option autoImplicit false
set_option maxRecDepth 100000
/-! SimI: what loops walk. -/
namespace Vm
open PySem PySem.Spec PyProof.Rows L2 RZ
section
variable {X : Cx} {K : PySem.W.Frag} {G : Gc} {ρ ρ1 : List Addr} {S S1 : Addr → Prop} {H H1 : Hp} {env : Env} {mem : Mem} {σ : L2.St} {W : WX} {D D' : Ends}
variable {pos : Pos} {a b c tg : Expr} {fa fb : Env → M Va}
/-- a list, a tuple, a text walked -/
def iAny (K : PySem.W.Frag) (tl : TE) : TI := fun σ H R => tl σ H fun x H1 =>
  (∃ a, x = .ref a ∧ (∃ xs, SqL K H1 a xs) ∧ R (Itl K a) H1) ∨ (∃ a, x = .ref a ∧ (∃ xs, SqT K H1 a xs) ∧ R (Itt K a) H1) ∨ ∃ z, x = .str z ∧ R (Its z) H1
theorem pi_any {l : Expr} {tl : TE} (hl : PE X l tl) : PI X tg l (iAny X.K tl) := by
  refine ⟨fun pins s σ H R I h => thn (hl.run pins s σ H _ I h) fun v s1 ⟨x, H1, I1, r1, q1⟩ => ?_⟩
  have fp : FpOk X pins H1 s1.heap.objs.size := I1.fpOk (Nat.le_refl _) (I1.hok.fresh (Nat.le_refl _))
  rcases q1 with ⟨a, rfl, ⟨xs, hq⟩, q⟩ | ⟨a, rfl, ⟨xs, hq⟩, q⟩ | ⟨z, rfl, q⟩
  · cases r1
    obtain ⟨its, rv, p, hz⟩ := I1.list hq
    exact wpAny_pyIter_list p.isList ⟨_, [s1.heap.objs.size], _, _, H1, rfl, I1.kept (t' := s1.toks) fun b o e => Heap.get?_push_of_some _ e, turn_list a _, ⟨_, Heap.get?_push_size _ rfl, rfl, rfl⟩, fun b hb => by
      rw [List.mem_singleton] at hb; rw [hb]; exact fp, q⟩
  · cases r1
    obtain ⟨its, rv, p, hz⟩ := I1.tuple hq
    exact wpAny_pyIter_tuple (show s1.heap.IsTuple a its.toArray from p) ⟨_, [s1.heap.objs.size], _, _, H1, rfl, I1.kept (t' := s1.toks) fun b o e => Heap.get?_push_of_some _ e, turn_tuple a _, ⟨_, Heap.get?_push_size _ rfl, rfl, rfl⟩, fun b hb => by
      rw [List.mem_singleton] at hb; rw [hb]; exact fp, q⟩
  · obtain ⟨t, rfl⟩ := r1
    cases ha : z.cps.all (· < 128)
    · exact wpAny_pyIter_wide ha (pi_one (tk := s1.toks) I1 _ (turn_str _ z t "str_iterator" (.inr rfl)) ⟨_, Heap.get?_push_size _ rfl, rfl, rfl⟩ q)
    · exact wpAny_pyIter_ascii ha (pi_one (tk := s1.toks) I1 _ (turn_str _ z t "str_ascii_iterator" (.inl rfl)) ⟨_, Heap.get?_push_size _ rfl, rfl, rfl⟩ q)
/-- the same memory -/
theorem yld_same {J : It} {i : Nat} {x : Va} (R : Rel K G ρ S H env mem σ) (h : ∀ v H', J.yld i H v H' → H' = H ∧ Rv K G ρ S H x v) : ∀ v H', J.yld i H v H' → ∃ S', Ext ρ S H ρ S' H' ∧ Rel K G ρ S' H' env mem σ ∧ Rv K G ρ S' H' x v := by
  intro v H' q
  obtain ⟨rfl, r⟩ := h v H' q
  exact ⟨S, Ext.refl, R, r⟩
theorem walks_list {ρ0 : List Addr} {S0 : Addr → Prop} {H0 : Hp} {a : Addr} {rd : Mem → Option (List Va)} (h : ∀ ρ S H env mem σ, Ext ρ0 S0 H0 ρ S H → Rel K G ρ S H env mem σ → ∀ xs, rd mem = some xs → ∃ vs, SqL K H a vs ∧ Rvs K G ρ S H xs vs) : Walks K G ρ0 S0 H0 (Itl K a) rd := by
  intro ρ S H env mem σ e R xs hx i
  obtain ⟨vs, sq, r⟩ := h ρ S H env mem σ e R xs hx
  refine ⟨fun x hi => ?_, fun hi => ⟨vs, sq, by rw [rvs_length r]; exact List.getElem?_eq_none_iff.mp hi⟩⟩
  obtain ⟨v, h1, h2⟩ := rvs_get r hi
  refine ⟨⟨vs, v, sq, h1⟩, yld_same R fun u H' q => ⟨q.1, ?_⟩⟩
  have := q.2 vs sq
  rw [h1] at this; cases this
  exact h2
theorem walks_tup {ρ0 : List Addr} {S0 : Addr → Prop} {H0 : Hp} {a : Addr} {rd : Mem → Option (List Va)} (h : ∀ ρ S H env mem σ, Ext ρ0 S0 H0 ρ S H → Rel K G ρ S H env mem σ → ∀ xs, rd mem = some xs → ∃ vs, SqT K H a vs ∧ Rvs K G ρ S H xs vs) : Walks K G ρ0 S0 H0 (Itt K a) rd := by
  intro ρ S H env mem σ e R xs hx i
  obtain ⟨vs, sq, r⟩ := h ρ S H env mem σ e R xs hx
  refine ⟨fun x hi => ?_, fun hi => ⟨vs, sq, by rw [rvs_length r]; exact List.getElem?_eq_none_iff.mp hi⟩⟩
  obtain ⟨v, h1, h2⟩ := rvs_get r hi
  refine ⟨⟨vs, v, sq, h1⟩, yld_same R fun u H' q => ⟨q.1, ?_⟩⟩
  have := q.2 vs sq
  rw [h1] at this; cases this
  exact h2
theorem cell_list {n : Nat} {a : Addr} {ρ0 : List Addr} {S0 : Addr → Prop} {H0 : Hp} (ha : ρ0[n]? = some a) : ∀ ρ S H env mem σ, Ext ρ0 S0 H0 ρ S H → Rel K G ρ S H env mem σ → ∀ xs, rdCell n mem = some xs → ∃ vs, SqL K H a vs ∧ Rvs K G ρ S H xs vs := by
  intro ρ S H env mem σ e R xs hx
  unfold rdCell at hx
  split at hx
  · rename_i hn
    cases hx
    obtain ⟨b, h1, vs, h2, h3⟩ := R.cell _ _ hn
    have := get_pre e.pre ha
    rw [this] at h1; cases h1
    exact ⟨vs, SqL.of h2, h3⟩
  · cases hx
theorem val_list {a : Addr} {xs : List Va} {vs : List V} {ρ0 : List Addr} {S0 : Addr → Prop} {H0 : Hp} (out : ∀ a ∈ ρ0, ¬ S0 a) (h1 : AtL S0 H0 a vs) (h2 : Rvs K G ρ0 S0 H0 xs vs) : ∀ ρ S H env mem σ, Ext ρ0 S0 H0 ρ S H → Rel K G ρ S H env mem σ → ∀ ys, (some xs : Option (List Va)) = some ys → ∃ vs, SqL K H a vs ∧ Rvs K G ρ S H ys vs := by
  intro ρ S H env mem σ e R ys hy
  cases hy
  exact ⟨vs, (h1.mono e out).sq, Rvs.mono e out _ _ h2⟩
theorem sim_iseq (ha : SE X G W a fa) : SI X G W tg a (iSeq fa) :=
  PI.imp (pi_any ha) fun σ H Q ⟨ρ, S, env, mem, R, h⟩ => tX.of R ((Sat.bind (rel := Rv X.K G) h).imp fun v H1 ⟨ρ1, S1, w, m1, e1, R1, r1, h1⟩ => by
    replace h1 : Sat X.K G _ ρ1 S1 env σ H1 W Q (srcOf w m1) := h1
    unfold srcOf at h1
    split at h1
    · simp only [Rv] at r1
      obtain ⟨a, vs, rfl, h2, h3⟩ := r1
      exact .inl ⟨a, rfl, ⟨vs, h2.sq⟩, sat_pure R1 h1 (walks_list (val_list R1.out h2 h3))⟩
    · simp only [Rv] at r1
      obtain ⟨a, vs, rfl, h2, h3⟩ := r1
      refine .inr (.inl ⟨a, rfl, ⟨vs, h2.sq⟩, sat_pure R1 h1 (walks_tup fun ρ S H env mem σ e R ys hy => ?_)⟩)
      cases hy
      exact ⟨vs, (h2.mono e R1.out).sq, Rvs.mono e R1.out _ _ h3⟩
    · simp only [Rv] at r1
      obtain ⟨a, vs, rfl, h2, h3⟩ := r1
      refine .inr (.inl ⟨a, rfl, ⟨vs, h2.sq⟩, sat_pure R1 h1 (walks_tup fun ρ S H env mem σ e R ys hy => ?_)⟩)
      cases hy
      exact ⟨vs, h2.sq, Rvs.mono e R1.out _ _ h3⟩
    · simp only [Rv] at r1
      subst r1
      refine .inr (.inr ⟨_, rfl, sat_pure R1 h1 fun ρ S H env mem σ e R ys hy i => ?_⟩)
      cases hy
      refine ⟨fun x hi => ?_, fun hi => ?_⟩
      · rw [List.getElem?_map] at hi
        obtain ⟨c, hc, rfl⟩ := opt_map hi
        refine ⟨by simpa [Its, sg] using (List.getElem?_eq_some_iff.mp hc).1, yld_same R fun u H' q => ⟨q.1, ?_⟩⟩
        obtain ⟨c', h2, rfl⟩ := q.2
        simp only [sg, List.getElem?_toArray] at h2
        rw [hc] at h2; cases h2
        simp only [Rv, sg]
      · rw [List.getElem?_map, Option.map_eq_none_iff, List.getElem?_eq_none_iff] at hi
        simpa [Its, sg] using hi
    · simp only [Rv] at r1
      obtain ⟨a, rfl, ha⟩ := r1
      split at h1
      · rename_i hn
        obtain ⟨b, h2, vs, h3, h4⟩ := R1.cell _ _ hn
        rw [ha] at h2; cases h2
        exact .inl ⟨a, rfl, ⟨vs, SqL.of h3⟩, sat_pure R1 h1 (walks_list (cell_list ha))⟩
      · exact h1.elim
    · exact h1.elim)
theorem walks_range {ρ0 : List Addr} {S0 : Addr → Prop} {H0 : Hp} (lo : Int) (n : Nat) : Walks K G ρ0 S0 H0 (Itr lo n) (rdOf (.val (upFrom lo n))) := by
  intro ρ S H env mem σ e R xs hx i
  cases hx
  unfold upFrom
  refine ⟨fun x hi => ?_, fun hi => ?_⟩
  · rw [List.getElem?_map] at hi
    obtain ⟨c, hc, rfl⟩ := opt_map hi
    have hl : i < n := by simpa using (List.getElem?_eq_some_iff.mp hc).1
    have : c = i := by
      rw [List.getElem?_range hl] at hc; cases hc; rfl
    subst this
    exact ⟨hl, yld_same R fun u H' q => ⟨q.1, by rw [q.2]; simp only [Rv]⟩⟩
  · rw [List.getElem?_map, Option.map_eq_none_iff, List.getElem?_eq_none_iff] at hi
    simpa [Itr] using hi
theorem sim_irange1 {fs : Env → M (List Va)} {p : Pos} (hg : Gl X "range") (hm : X.mg "range" = none) (ha : SA X G W [a] fs) (hs : starEach [a] X.env = [(false, eval a X.env)] := by rfl) : SI X G W tg (.Call (.Name "range" p) [a] [] pos) (iRange1 fs) :=
  PI.imp (pi_range1 hg hm ha hs) fun σ H Q ⟨ρ, S, env, mem, R, h⟩ => tX.of R ((Sat.bind (rel := Rvs X.K G) h).imp fun v H1 ⟨ρ1, S1, w, m1, e1, R1, r1, h1⟩ => by
    replace h1 : Sat X.K G _ ρ1 S1 env σ H1 W Q (range1 w m1) := h1
    unfold range1 at h1
    split at h1
    · split at h1
      · rename_i j hj
        simp only [Rvs, Rv] at r1
        obtain ⟨_, _, rfl, rfl, rfl⟩ := r1
        simp only [half] at hj
        exact ⟨j, rfl, by omega, by omega, sat_pure R1 h1 (walks_range 0 _)⟩
      · exact h1.elim
    · exact h1.elim)
theorem sim_irange2 {fs : Env → M (List Va)} {p : Pos} (hg : Gl X "range") (hm : X.mg "range" = none) (ha : SA X G W [a, b] fs) (hs : starEach [a, b] X.env = [(false, eval a X.env), (false, eval b X.env)] := by rfl) (hs2 : starEach [b] X.env = [(false, eval b X.env)] := by rfl) :
    SI X G W tg (.Call (.Name "range" p) [a, b] [] pos) (iRange2 fs) :=
  PI.imp (pi_range2 hg hm ha hs hs2) fun σ H Q ⟨ρ, S, env, mem, R, h⟩ => tX.of R ((Sat.bind (rel := Rvs X.K G) h).imp fun v H1 ⟨ρ1, S1, w, m1, e1, R1, r1, h1⟩ => by
    replace h1 : Sat X.K G _ ρ1 S1 env σ H1 W Q (range2 w m1) := h1
    unfold range2 at h1
    split at h1
    · split at h1
      · rename_i i j hj
        simp only [Rvs, Rv] at r1
        obtain ⟨_, _, rfl, rfl, _, _, rfl, rfl, rfl⟩ := r1
        simp only [half] at hj
        exact ⟨i, j, rfl, ⟨by omega, by omega, by omega, by omega⟩, sat_pure R1 h1 (walks_range i _)⟩
      · exact h1.elim
    · exact h1.elim)
/-! ### enumerate, zip -/
theorem pair_new {x y : Va} {v u : V} {T : Addr} (R : Rel K G ρ S H env mem σ) (r1 : Rv K G ρ S H x v) (r2 : Rv K G ρ S H y u) (hT : H T = none) :
    ∃ S', Ext ρ S H ρ S' (upd H T (.tup [v, u])) ∧ Rel K G ρ S' (upd H T (.tup [v, u])) env mem σ ∧ Rv K G ρ S' (upd H T (.tup [v, u])) (.tup [x, y]) (.ref T) :=
  ⟨_, ext_new hT, rel_new R hT, by
    simp only [Rv]
    exact ⟨T, _, rfl, ⟨.inr rfl, upd_same⟩, Rvs.mono (ext_new hT) R.out _ _ (rvs_cons r1 (rvs_cons r2 rvs_nil))⟩⟩
theorem enum_get {xs : List Va} {i : Nat} {x : Va} (h : (enumV xs)[i]? = some x) : ∃ y, xs[i]? = some y ∧ x = .tup [.int i, y] := by
  unfold enumV at h
  rw [List.getElem?_map] at h
  obtain ⟨c, hc, rfl⟩ := opt_map h
  have hl : i < xs.length := by simpa using (List.getElem?_eq_some_iff.mp hc).1
  have : c = i := by rw [List.getElem?_range hl] at hc; cases hc; rfl
  subst this
  exact ⟨xs[c], List.getElem?_eq_getElem hl, by simp [List.getD_eq_getElem?_getD, hl]⟩
theorem walks_enum {ρ0 : List Addr} {S0 : Addr → Prop} {H0 : Hp} {a : Addr} {rd : Mem → Option (List Va)} (h : ∀ ρ S H env mem σ, Ext ρ0 S0 H0 ρ S H → Rel K G ρ S H env mem σ → ∀ xs, rd mem = some xs → ∃ vs, SqL K H a vs ∧ Rvs K G ρ S H xs vs) : Walks K G ρ0 S0 H0 (Ite K a) fun m => (rd m).map enumV := by
  intro ρ S H env mem σ e R zs hz i
  obtain ⟨xs, hx, rfl⟩ := opt_map hz
  obtain ⟨vs, sq, r⟩ := h ρ S H env mem σ e R xs hx
  refine ⟨fun x hi => ?_, fun hi => ⟨vs, sq, ?_⟩⟩
  · obtain ⟨y, hy, rfl⟩ := enum_get hi
    obtain ⟨v, h1, h2⟩ := rvs_get r hy
    refine ⟨⟨vs, v, sq, h1⟩, fun u H' ⟨T, z, eu, hT, eH, hz⟩ => ?_⟩
    have := hz vs sq
    rw [h1] at this; cases this
    subst eu; subst eH
    exact pair_new R (by simp only [Rv]) h2 hT
  · have := List.getElem?_eq_none_iff.mp hi
    rw [rvs_length r]
    simpa [enumV] using this
theorem rdL_ok {x : Va} {v : V} {xs : List Va} (R : Rel K G ρ S H env mem σ) (r : Rv K G ρ S H x v) (h : rdL x mem = some xs) :
    ∃ a vs, v = .ref a ∧ SqL K H a vs ∧ ∀ ρ' S' H' env' mem' σ', Ext ρ S H ρ' S' H' → Rel K G ρ' S' H' env' mem' σ' → ∀ ys, rdL x mem' = some ys → ∃ vs, SqL K H' a vs ∧ Rvs K G ρ' S' H' ys vs := by
  unfold rdL at h
  split at h
  · simp only [Rv] at r
    obtain ⟨a, vs, rfl, h1, h2⟩ := r
    exact ⟨a, vs, rfl, h1.sq, val_list R.out h1 h2⟩
  · simp only [Rv] at r
    obtain ⟨a, rfl, ha⟩ := r
    obtain ⟨vs, h1, h2⟩ := cell_list (K := K) (G := G) ha ρ S H env mem σ Ext.refl R xs h
    exact ⟨a, vs, rfl, h1, cell_list ha⟩
  · cases h
theorem sim_ienum {fs : Env → M (List Va)} {p tpos : Pos} {elts : List Expr} {kk : Nat} (hg : Gl X "enumerate") (hm : X.mg "enumerate" = none) (ha : SA X G W [a] fs) (hs : starEach [a] X.env = [(false, eval a X.env)] := by rfl) :
    SI X G W (.Tuple elts kk tpos) (.Call (.Name "enumerate" p) [a] [] pos) (iEnum fs) :=
  PI.imp (pi_enum hg hm ha hs) fun σ H Q ⟨ρ, S, env, mem, R, h⟩ => tX.of R ((Sat.bind (rel := Rvs X.K G) h).imp fun v H1 ⟨ρ1, S1, w, m1, e1, R1, r1, h1⟩ => by
    replace h1 : Sat X.K G _ ρ1 S1 env σ H1 W Q (enumOf w m1) := h1
    unfold enumOf at h1
    split at h1
    · simp only [Rvs, Rv] at r1
      obtain ⟨_, _, rfl, ⟨a, vs, rfl, h2, h3⟩, rfl⟩ := r1
      exact ⟨a, vs, rfl, h2.sq, sat_pure R1 h1 (walks_enum (rd := fun _ => some _) (val_list R1.out h2 h3))⟩
    · split at h1
      · rename_i hx
        simp only [Rvs] at r1
        obtain ⟨_, _, rfl, q1, rfl⟩ := r1
        obtain ⟨a, vs, rfl, h2, h3⟩ := rdL_ok R1 q1 hx
        exact ⟨a, vs, rfl, h2, sat_pure R1 h1 (walks_enum h3)⟩
      · exact h1.elim
    · exact h1.elim)
theorem zip_get {xs ys : List Va} {i : Nat} {x : Va} (h : (zipV xs ys)[i]? = some x) : ∃ y z, xs[i]? = some y ∧ ys[i]? = some z ∧ x = .tup [y, z] := by
  unfold zipV at h
  rw [List.getElem?_map] at h
  obtain ⟨c, hc, rfl⟩ := opt_map h
  obtain ⟨h1, h2⟩ := List.getElem?_zip_eq_some.mp hc
  exact ⟨c.1, c.2, h1, h2, rfl⟩
theorem zip_none {xs ys : List Va} {i : Nat} (h : (zipV xs ys)[i]? = none) : xs.length ≤ i ∨ ys.length ≤ i := by
  have := List.getElem?_eq_none_iff.mp h
  simp only [zipV, List.length_map, List.length_zip] at this
  omega
theorem walks_zip {ρ0 : List Addr} {S0 : Addr → Prop} {H0 : Hp} {a b : Addr} {rd rd2 : Mem → Option (List Va)}
    (h : ∀ ρ S H env mem σ, Ext ρ0 S0 H0 ρ S H → Rel K G ρ S H env mem σ → ∀ xs, rd mem = some xs → ∃ vs, SqL K H a vs ∧ Rvs K G ρ S H xs vs)
    (h' : ∀ ρ S H env mem σ, Ext ρ0 S0 H0 ρ S H → Rel K G ρ S H env mem σ → ∀ xs, rd2 mem = some xs → ∃ vs, SqL K H b vs ∧ Rvs K G ρ S H xs vs) :
    Walks K G ρ0 S0 H0 (Itz K a b) fun m => (rd m).bind fun xs => (rd2 m).map fun ys => zipV xs ys := by
  intro ρ S H env mem σ e R zs hz i
  cases hx : rd mem with
  | none => simp only [hx] at hz; cases hz
  | some xs =>
    simp only [hx, Option.bind_some] at hz
    obtain ⟨ys, hy, rfl⟩ := opt_map hz
    obtain ⟨vs, sq, r⟩ := h ρ S H env mem σ e R xs hx
    obtain ⟨us, sq', r'⟩ := h' ρ S H env mem σ e R ys hy
    refine ⟨fun x hi => ?_, fun hi => ⟨vs, us, sq, sq', ?_⟩⟩
    · obtain ⟨y, z, hy, hz, rfl⟩ := zip_get hi
      obtain ⟨v, h1, h2⟩ := rvs_get r hy
      obtain ⟨u, h3, h4⟩ := rvs_get r' hz
      refine ⟨⟨vs, us, v, u, sq, sq', h1, h3⟩, fun w H' ⟨T, p, q, eu, hT, eH, hp, hq⟩ => ?_⟩
      have := hp vs sq
      rw [h1] at this; cases this
      have := hq us sq'
      rw [h3] at this; cases this
      subst eu; subst eH
      exact pair_new R h2 h4 hT
    · rw [rvs_length r, rvs_length r']
      exact zip_none hi
theorem walks_zipT {ρ0 : List Addr} {S0 : Addr → Prop} {H0 : Hp} {a b : Addr} {xs ys : List Va}
    (h : ∀ ρ S H env mem σ, Ext ρ0 S0 H0 ρ S H → Rel K G ρ S H env mem σ → ∃ vs, SqT K H a vs ∧ Rvs K G ρ S H xs vs)
    (h' : ∀ ρ S H env mem σ, Ext ρ0 S0 H0 ρ S H → Rel K G ρ S H env mem σ → ∃ vs, SqT K H b vs ∧ Rvs K G ρ S H ys vs) :
    Walks K G ρ0 S0 H0 (ItzT K a b) (rdOf (.val (zipV xs ys))) := by
  intro ρ S H env mem σ e R zs hz i
  cases hz
  obtain ⟨vs, sq, r⟩ := h ρ S H env mem σ e R
  obtain ⟨us, sq', r'⟩ := h' ρ S H env mem σ e R
  refine ⟨fun x hi => ?_, fun hi => ⟨vs, us, sq, sq', ?_⟩⟩
  · obtain ⟨y, z, hy, hz, rfl⟩ := zip_get hi
    obtain ⟨v, h1, h2⟩ := rvs_get r hy
    obtain ⟨u, h3, h4⟩ := rvs_get r' hz
    refine ⟨⟨vs, us, v, u, sq, sq', h1, h3⟩, fun w H' ⟨T, p, q, eu, hT, eH, hp, hq⟩ => ?_⟩
    have := hp vs sq
    rw [h1] at this; cases this
    have := hq us sq'
    rw [h3] at this; cases this
    subst eu; subst eH
    exact pair_new R h2 h4 hT
  · rw [rvs_length r, rvs_length r']
    exact zip_none hi
theorem sim_izip {fs : Env → M (List Va)} {p tpos : Pos} {elts : List Expr} {kk : Nat} (hg : Gl X "zip") (hm : X.mg "zip" = none) (ha : SA X G W [a, b] fs)
    (hs : starEach [a, b] X.env = (false, eval a X.env) :: starEach [b] X.env := by rfl) (hpl : (backTo pos (starEach [b] X.env)).any (·.1) = false := by rfl) :
    SI X G W (.Tuple elts kk tpos) (.Call (.Name "zip" p) [a, b] [] pos) (iZip fs) :=
  PI.imp (pi_zipA hg hm ha hs hpl) fun σ H Q ⟨ρ, S, env, mem, R, h⟩ => tX.of R ((Sat.bind (rel := Rvs X.K G) h).imp fun v H1 ⟨ρ1, S1, w, m1, e1, R1, r1, h1⟩ => by
    replace h1 : Sat X.K G _ ρ1 S1 env σ H1 W Q (zipOf w m1) := h1
    unfold zipOf at h1
    split at h1
    · simp only [Rvs, Rv] at r1
      obtain ⟨_, _, rfl, ⟨a, vs, rfl, h2, h3⟩, _, _, rfl, ⟨b, us, rfl, h4, h5⟩, rfl⟩ := r1
      exact ⟨a, b, vs, us, rfl, .inl ⟨h2.sq, h4.sq, sat_pure R1 h1 (walks_zip (rd := fun _ => some _) (rd2 := fun _ => some _) (val_list R1.out h2 h3) (val_list R1.out h4 h5))⟩⟩
    · simp only [Rvs, Rv] at r1
      obtain ⟨_, _, rfl, ⟨a, vs, rfl, h2, h3⟩, _, _, rfl, ⟨b, us, rfl, h4, h5⟩, rfl⟩ := r1
      refine ⟨a, b, vs, us, rfl, .inr ⟨h2.sq, h4.sq, sat_pure R1 h1 (walks_zipT (fun ρ S H env mem σ e R => ?_) fun ρ S H env mem σ e R => ?_)⟩⟩
      · exact ⟨vs, (h2.mono e R1.out).sq, Rvs.mono e R1.out _ _ h3⟩
      · exact ⟨us, (h4.mono e R1.out).sq, Rvs.mono e R1.out _ _ h5⟩
    · split at h1
      · rename_i x y _ _ _ _ _ hx hy
        simp only [Rvs] at r1
        obtain ⟨_, _, rfl, q1, _, _, rfl, q2, rfl⟩ := r1
        obtain ⟨a, vs, rfl, h2, h3⟩ := rdL_ok R1 q1 hx
        obtain ⟨b, us, rfl, h4, h5⟩ := rdL_ok R1 q2 hy
        exact ⟨a, b, vs, us, rfl, .inl ⟨h2, h4, sat_pure R1 h1 (walks_zip h3 h5)⟩⟩
      · exact h1.elim
    · exact h1.elim)
end
end Vm
end
section
set_option Elab.async false
set_option linter.all false
set_option autoImplicit false
set_option maxRecDepth 100000
/-! SimC: defs and their calls. -/
namespace Vm
open PySem PySem.Spec PyProof.Rows L2
section
variable (K : PySem.W.Frag) (G : Gc)
/-- what is wanted behind a call -/
def SatF (ρ : List Addr) (S : Addr → Prop) (H : Hp) (Q : VK) (E : XK) : Res Va → Prop
  | .ok w m => ∀ ρ' S' H' v, Ext ρ S H ρ' S' H' → RelM K G ρ' S' H' m → Rv K G ρ' S' H' w v → Q v H'
  | .er c fs m => ∀ ρ' S' H' d, Ext ρ S H ρ' S' H' → RelM K G ρ' S' H' m → XAt K G ρ' S' H' fs d → E (.ref (G.ca c)) d H'
  | .no => False
/-- the promise of a def that is met by f: n arguments -/
def spS (n : Nat) (f : List Va → M Va) : Sp := fun vs H Q E => ∃ ρ S ws mem, RelM K G ρ S H mem ∧ Rvs K G ρ S H ws vs ∧ vs.length = n ∧ SatF K G ρ S H Q E (f ws mem)
end
/-- a wish about errors that hangs on no slot -/
abbrev WF (E : XK) : WX := fun c d _ H => E c d H
section
variable {X : Cx} {K : PySem.W.Frag} {G : Gc} {ρ ρ1 : List Addr} {S S1 : Addr → Prop} {H H1 : Hp} {env : Env} {mem mem1 : Mem} {σ : L2.St} {W : WX} {E : XK}
variable {pos : Pos} {a b c : Expr} {es : List Expr} {fs : Env → M (List Va)} {f : List Va → M Va} {n : Nat}
/-- the slots stay -/
theorem Rel.lift (R : Rel K G ρ S H env mem σ) (e : Ext ρ S H ρ1 S1 H1) (R1 : RelM K G ρ1 S1 H1 mem1) : Rel K G ρ1 S1 H1 env mem1 σ :=
  ⟨R1, fun i x h => let ⟨v, h1, h2⟩ := R.slot i x h; ⟨v, h1, Rv.mono e R.out _ _ h2⟩, R.size⟩
theorem SatF.of {Q : VK} (R : Rel K G ρ S H env mem σ) : ∀ {r : Res Va}, Sat K G (Rv K G) ρ S env σ H W Q r → SatF K G ρ S H Q (fun c d H' => W c d σ H') r
  | .ok w m, h => fun ρ' S' H' v e R1 r => h ρ' S' H' v e (R.lift e R1) r
  | .er c fs m, h => fun ρ' S' H' d e R1 x => h ρ' S' H' d e (R.lift e R1) x
  | .no, h => h
/-- what a call wants, its arguments there -/
theorem sp_call {Q : VK} {ws : List Va} {vs : List V} (R : Rel K G ρ S H env mem σ) (r : Rvs K G ρ S H ws vs) (hn : ws.length = n) (h : Sat K G (Rv K G) ρ S env σ H W Q (f ws mem)) : spS K G n f vs H Q (fun c d H' => W c d σ H') :=
  ⟨ρ, S, ws, mem, R.toRelM, r, by rw [rvs_length r, hn], SatF.of R h⟩
theorem sp_callN {Q : VK} {ws : List Va} {vs : List V} (R : Rel K G ρ S H env mem σ) (r : Rvs K G ρ S H ws vs) (h : Sat K G (Rv K G) ρ S env σ H W Q (lenM n f ws mem)) : spS K G n f vs H Q (fun c d H' => W c d σ H') := by
  unfold lenM at h
  split at h
  · rename_i hn; exact sp_call R r hn h
  · exact h.elim
/-! ### a call with a memory of its own -/
theorem relM_nil (R : RelM K G ρ S H mem) : RelM K G [] S H [] := ⟨R.there, (fun n c h => by simp at h), (fun _ h => nomatch h), rfl, List.nodup_nil, R.tabs⟩
theorem ext_back {ρ' : List Addr} {S' : Addr → Prop} {H' : Hp} (R : RelM K G ρ S H mem) (e : Ext [] S H ρ' S' H') : Ext ρ S H ρ (Sfr ρ' S') H' where
  pre := ⟨[], by simp⟩
  sub := fun a h => .inl (e.sub a h)
  old := fun a o h _ t => e.old a o h (by simp) t
  trk := e.trk
  src := fun a h => by
    rcases h with h | h
    · rcases e.src a h with q | q | q
      · exact .inl q
      · exact .inr (.inl q)
      · cases q
    · rcases e.new a h with q | q
      · cases q
      · exact .inr (.inl q)
  new := fun _ h => .inl h
theorem cell_at (R : RelM K G ρ S H mem) {a : Addr} (h : a ∈ ρ) : ∃ o, H a = some o ∧ ∀ ps, o ≠ .tbl ps := by
  obtain ⟨n, hn⟩ := List.getElem?_of_mem h
  have hl : n < mem.length := by rw [← R.len]; exact (List.getElem?_eq_some_iff.mp hn).1
  obtain ⟨b, h1, h2⟩ := R.cell n mem[n] (by simp [hl])
  rw [hn] at h1; cases h1
  revert h2
  cases mem[n] with
  | lst xs => rintro ⟨_, q, _⟩; exact ⟨_, q, by intro _ z; cases z⟩
  | dct t kvs => rintro (⟨_, _, q, _⟩ | ⟨_, _, q, _⟩) <;> exact ⟨_, q, by intro _ z; cases z⟩
  | ins c fs => rintro ⟨_, _, q, _⟩; exact ⟨_, q, by intro _ z; cases z⟩
  | cel _ => intro q; exact q.elim
theorem relM_back {ρ' : List Addr} {S' : Addr → Prop} {H' : Hp} {m1 : Mem} (R : RelM K G ρ S H mem) (e : Ext [] S H ρ' S' H') (R1 : RelM K G ρ' S' H' m1) : RelM K G ρ (Sfr ρ' S') H' mem := by
  have e2 := ext_back R e
  refine ⟨fun a h => ?_, fun n c h => ?_, fun a h z => ?_, R.len, R.nd, R1.tabs.ext (fun _ _ z => z) (fun _ z => .inl z)⟩
  · rcases h with h | h
    · exact R1.there a h
    · exact rho_there R1 h
  · obtain ⟨a, h1, h2⟩ := R.cell n c h
    obtain ⟨o, h3, h4⟩ := cell_at R (List.mem_of_getElem? h1)
    exact ⟨a, h1, h2.mono e2 R.out fun o' ho => by rw [h3] at ho; cases ho; exact e.old a o h3 (by simp) h4⟩
  · have hn : H a ≠ none := rho_there R h
    rcases z with z | z
    · rcases e.src a z with q | q | q
      · exact R.out a h q
      · exact hn q
      · cases q
    · rcases e.new a z with q | q
      · cases q
      · exact hn q
theorem resolveF_ok {m : Mem} (R : RelM K G ρ S H m) : ∀ {gs ds : List (Sg × Va)} {ps : List (Str × V)}, resolveF m gs = some ds → RvF K G ρ S H gs ps → RvF K G [] (Sfr ρ S) H ds ps
  | [], ds, ps, h, r => by
    rw [mapO_nil h]; simpa only [RvF] using r
  | (k, x) :: t, ds, ps, h, r => by
    obtain ⟨y, s, h1, h2, rfl⟩ := mapO_cons h
    obtain ⟨b, h3, rfl⟩ := opt_map h1
    simp only [RvF] at r ⊢
    obtain ⟨v, s', rfl, r1, r2⟩ := r
    exact ⟨v, s', rfl, resolve_ok R _ _ _ _ h3 r1, resolveF_ok R h2 r2⟩
mutual
/-- what hangs on no cell hangs on any -/
theorem Rv.any {K : PySem.W.Frag} {G : Gc} {S : Addr → Prop} {H : Hp} {ρ' : List Addr} : ∀ (x : Va) (v : V), Rv K G [] S H x v → Rv K G ρ' S H x v
  | .non, _, h => by simpa only [Rv] using h
  | .bl _, _, h => by simpa only [Rv] using h
  | .int _, _, h => by simpa only [Rv] using h
  | .str _, _, h => by simpa only [Rv] using h
  | .ty _, _, h => by simpa only [Rv] using h
  | .fn _, _, h => by simpa only [Rv] using h
  | .scr _, _, h => by simpa only [Rv] using h
  | .tup xs, _, h => by simp only [Rv] at h ⊢; obtain ⟨a, vs, rfl, h1, h2⟩ := h; exact ⟨a, vs, rfl, h1, Rvs.any xs vs h2⟩
  | .wtp xs, _, h => by simp only [Rv] at h ⊢; obtain ⟨a, vs, rfl, h1, h2⟩ := h; exact ⟨a, vs, rfl, h1, Rvs.any xs vs h2⟩
  | .lst xs, _, h => by simp only [Rv] at h ⊢; obtain ⟨a, vs, rfl, h1, h2⟩ := h; exact ⟨a, vs, rfl, h1, Rvs.any xs vs h2⟩
  | .dct t kvs, _, h => by
    simp only [Rv] at h ⊢
    obtain ⟨a, rfl, h0, h⟩ := h
    refine ⟨a, rfl, h0, ?_⟩
    rcases h with ⟨ht, ps, h1, h2⟩ | ⟨ht, ps, h1, h2⟩
    · exact .inl ⟨ht, ps, h1, RvK.any kvs ps h2⟩
    · exact .inr ⟨ht, ps, h1, RvT.any kvs ps h2⟩
  | .obj c fs, _, h => by simp only [Rv] at h ⊢; obtain ⟨a, ps, rfl, h1, h2, h3⟩ := h; exact ⟨a, ps, rfl, h1, h2, RvF.any fs ps h3⟩
  | .ref n, _, h => by simp only [Rv] at h; obtain ⟨a, _, h1⟩ := h; simp at h1
  | .clo l xs, _, h => by simp only [Rv] at h ⊢; obtain ⟨f, cl, c, vs, rfl, h1, h2, h3, h4, h5, h6⟩ := h; exact ⟨f, cl, c, vs, rfl, h1, h2, h3, h4, h5, Rvs.any xs vs h6⟩
theorem Rvs.any {K : PySem.W.Frag} {G : Gc} {S : Addr → Prop} {H : Hp} {ρ' : List Addr} : ∀ (xs : List Va) (vs : List V), Rvs K G [] S H xs vs → Rvs K G ρ' S H xs vs
  | [], _, h => by simpa only [Rvs] using h
  | x :: r, _, h => by simp only [Rvs] at h ⊢; obtain ⟨v, s, rfl, h1, h2⟩ := h; exact ⟨v, s, rfl, Rv.any x v h1, Rvs.any r s h2⟩
theorem RvK.any {K : PySem.W.Frag} {G : Gc} {S : Addr → Prop} {H : Hp} {ρ' : List Addr} : ∀ (xs : List (Va × Va)) (vs : List (Key × V)), RvK K G [] S H xs vs → RvK K G ρ' S H xs vs
  | [], _, h => by simpa only [RvK] using h
  | (k, x) :: r, _, h => by simp only [RvK] at h ⊢; obtain ⟨q, v, s, rfl, h0, h1, h2⟩ := h; exact ⟨q, v, s, rfl, h0, Rv.any x v h1, RvK.any r s h2⟩
theorem RvT.any {K : PySem.W.Frag} {G : Gc} {S : Addr → Prop} {H : Hp} {ρ' : List Addr} : ∀ (xs : List (Va × Va)) (vs : List (List Key × V)), RvT K G [] S H xs vs → RvT K G ρ' S H xs vs
  | [], _, h => by simpa only [RvT] using h
  | (k, x) :: r, _, h => by simp only [RvT] at h ⊢; obtain ⟨q, v, s, rfl, h0, h1, h2⟩ := h; exact ⟨q, v, s, rfl, h0, Rv.any x v h1, RvT.any r s h2⟩
theorem RvF.any {K : PySem.W.Frag} {G : Gc} {S : Addr → Prop} {H : Hp} {ρ' : List Addr} : ∀ (xs : List (Sg × Va)) (vs : List (Str × V)), RvF K G [] S H xs vs → RvF K G ρ' S H xs vs
  | [], _, h => by simpa only [RvF] using h
  | (k, x) :: r, _, h => by simp only [RvF] at h ⊢; obtain ⟨v, s, rfl, h1, h2⟩ := h; exact ⟨v, s, rfl, Rv.any x v h1, RvF.any r s h2⟩
end
theorem satF_pure {Q : VK} {ws : List Va} (R : Rel K G ρ S H env mem σ) (h : Sat K G (Rv K G) ρ S env σ H W Q (pureM f ws mem)) : plains ws = true ∧ SatF K G [] S H Q (fun c d H' => W c d σ H') (f ws []) := by
  unfold pureM at h
  split at h
  · rename_i hp
    refine ⟨hp, ?_⟩
    cases q : f ws [] with
    | ok w m1 =>
      simp only [q] at h
      cases q2 : resolve deep m1 w with
      | none => simp only [q2] at h; exact h.elim
      | some d =>
        simp only [q2] at h
        intro ρ' S' H' v e R1 rv
        exact h ρ (Sfr ρ' S') H' v (ext_back R.toRelM e) (R.lift (ext_back R.toRelM e) (relM_back R.toRelM e R1)) (Rv.any d v (resolve_ok R1 _ _ _ _ q2 rv))
    | er c gs m1 =>
      simp only [q] at h
      cases q2 : resolveF m1 gs with
      | none => simp only [q2] at h; exact h.elim
      | some ds =>
        simp only [q2] at h
        intro ρ' S' H' d e R1 x
        refine h ρ (Sfr ρ' S') H' d (ext_back R.toRelM e) (R.lift (ext_back R.toRelM e) (relM_back R.toRelM e R1)) ?_
        cases d with
        | none =>
          have x : gs = [] := x
          subst x
          have : ds = [] := mapO_nil q2
          exact this
        | some d =>
          obtain ⟨ps, h1, h2⟩ := x
          exact ⟨ps, h1, RvF.any ds ps (resolveF_ok R1 q2 h2)⟩
    | no => simp only [q] at h; exact h.elim
  · exact h.elim
theorem sp_pure {Q : VK} {ws : List Va} {vs : List V} (R : Rel K G ρ S H env mem σ) (r : Rvs K G ρ S H ws vs) (hn : ws.length = n) (h : Sat K G (Rv K G) ρ S env σ H W Q (pureM f ws mem)) : spS K G n f vs H Q (fun c d H' => W c d σ H') :=
  let ⟨hp, q⟩ := satF_pure R h
  ⟨[], S, ws, [], relM_nil R.toRelM, Rvs.plain (fun _ z => z) ws vs hp r, by rw [rvs_length r, hn], q⟩
theorem sp_pureN {Q : VK} {ws : List Va} {vs : List V} (R : Rel K G ρ S H env mem σ) (r : Rvs K G ρ S H ws vs) (h : Sat K G (Rv K G) ρ S env σ H W Q (lenM n (pureM f) ws mem)) : spS K G n f vs H Q (fun c d H' => W c d σ H') := by
  unfold lenM at h
  split at h
  · rename_i hn; exact sp_pure R r hn h
  · exact h.elim
end
end Vm
end
section
set_option Elab.async false
set_option linter.all false
set_option autoImplicit false
set_option maxRecDepth 100000
/-! SimF: calls of defs, methods, classes; a def by its body. -/
namespace Vm
open PySem PySem.Spec PyProof.Rows L2
section
variable {X : Cx} {K : PySem.W.Frag} {G : Gc} {ρ ρ1 : List Addr} {S S1 : Addr → Prop} {H H1 : Hp} {env : Env} {mem mem1 : Mem} {σ : L2.St} {W : WX} {E : XK}
variable {pos p : Pos} {a b c e : Expr} {es : List Expr} {fs : Env → M (List Va)} {m : List Va → M Va} {n k : Nat} {x : Str} {f : Addr} {fd : FuncData} {ps : List Str}
/-- a def that is met by m -/
structure Fn (P : Program) (w : World) (K : PySem.W.Frag) (mg : Str → Option Value) (base : Heap) (G : Gc) (k : Nat) (f : Addr) (fd : FuncData) (ps : List Str) (m : List Va → M Va) : Prop where
  ok : FnOk P w K mg base (L2.CX P w) k f fd ps (spS K G ps.length m)
  kp : PySem.W.keepIn K (.ref f) = true
  bd : Binds K fd ps []
theorem sim_callS (F : Fn X.prog X.w X.K X.mg X.base G k f fd ps m) (tk : Takes X W) (hr : Room k X.A) (hm : X.mg x = some (.ref f)) (ha : SA X G W (e :: es) fs) (hg : Gl X x := by rfl)
    (hdb : (x == ("__debug__" : Str)) = false := by decide) (he : starEach (e :: es) X.env = (false, eval e X.env) :: starEach es X.env := by rfl) (hpl : (backTo pos (starEach es X.env)).any (·.1) = false := by rfl) :
    SE X G W (.Call (.Name x p) (e :: es) [] pos) (eCall (lenM ps.length m) fs) :=
  PE.imp (pe_callS F.ok hr hg hm F.kp F.bd (fun σ => passAt tk σ) ha hdb he hpl) fun σ H Q ⟨ρ, S, env, mem, R, h⟩ =>
    tX.args (op := lenM ps.length m) (fun ρ S mem H ws vs R r q => sp_callN R r q) R h
theorem sim_callP (F : Fn X.prog X.w X.K X.mg X.base G k f fd ps m) (tk : Takes X W) (hr : Room k X.A) (hm : X.mg x = some (.ref f)) (ha : SA X G W (e :: es) fs) (hg : Gl X x := by rfl)
    (hdb : (x == ("__debug__" : Str)) = false := by decide) (he : starEach (e :: es) X.env = (false, eval e X.env) :: starEach es X.env := by rfl) (hpl : (backTo pos (starEach es X.env)).any (·.1) = false := by rfl) :
    SE X G W (.Call (.Name x p) (e :: es) [] pos) (eCall (lenM ps.length (pureM m)) fs) :=
  PE.imp (pe_callS F.ok hr hg hm F.kp F.bd (fun σ => passAt tk σ) ha hdb he hpl) fun σ H Q ⟨ρ, S, env, mem, R, h⟩ =>
    tX.args (op := lenM ps.length (pureM m)) (fun ρ S mem H ws vs R r q => sp_pureN R r q) R h
theorem passesF (tk : Takes X (WF E)) : Passes (L2.CX X.prog X.w) X E := passes_call tk fun _ _ _ _ h => h
theorem sim_callS0 (F : Fn X.prog X.w X.K X.mg X.base G k f fd [] m) (tk : Takes X (WF E)) (hr : Room k X.A) (hm : X.mg x = some (.ref f)) (hg : Gl X x := by rfl) (hdb : (x == ("__debug__" : Str)) = false := by decide) :
    SE X G (WF E) (.Call (.Name x p) [] [] pos) (eCall (lenM 0 m) aNil) :=
  PE.imp (pe_call0 F.ok hr hg hm F.kp F.bd .nil (passesF tk) hdb) fun σ H Q ⟨ρ, S, env, mem, R, h⟩ => by
    show spS X.K G 0 m ([] ++ []) H Q E
    exact sp_callN (W := WF E) R rvs_nil h
theorem sim_callP0 (F : Fn X.prog X.w X.K X.mg X.base G k f fd [] m) (tk : Takes X (WF E)) (hr : Room k X.A) (hm : X.mg x = some (.ref f)) (hg : Gl X x := by rfl) (hdb : (x == ("__debug__" : Str)) = false := by decide) :
    SE X G (WF E) (.Call (.Name x p) [] [] pos) (eCall (lenM 0 (pureM m)) aNil) :=
  PE.imp (pe_call0 F.ok hr hg hm F.kp F.bd .nil (passesF tk) hdb) fun σ H Q ⟨ρ, S, env, mem, R, h⟩ => by
    show spS X.K G 0 m ([] ++ []) H Q E
    exact sp_pureN (W := WF E) R rvs_nil h
/-! ### methods -/
theorem findF_none : ∀ {fs : List (Sg × Va)} {ps : List (Str × V)} {q : Sg}, RvF K G ρ S H fs ps → findF q fs = none → ps.lookup (sg q) = none
  | [], ps, q, h, _ => by simp only [RvF] at h; subst h; rfl
  | (g, y) :: r, ps, q, h, hn => by
    simp only [RvF] at h
    obtain ⟨v, s, rfl, h1, h2⟩ := h
    simp only [findF] at hn
    split at hn
    · cases hn
    · rename_i hq
      rw [List.lookup_cons]
      have : (sg q == sg g) = false := by rw [sg_beq]; simp; exact fun z => hq z.symm
      rw [this]
      exact findF_none h2 hn
theorem recv_case (c : Nat) (q : Sg) (o : Va) (m : Mem) : recv c q o m = .ok () m ∨ recv c q o m = .no := by
  unfold recv
  repeat' split
  all_goals first | exact .inl rfl | exact .inr rfl
theorem recv_ok {c : Nat} {q : Sg} {o : Va} {v : V} {m' : Mem} (R : RelM K G ρ S H mem) (r : Rv K G ρ S H o v) (h : recv c q o mem = .ok () m') : ∃ a dx ps, v = .ref a ∧ H a = some (.ins (G.ca c) dx ps) ∧ ps.lookup (sg q) = none := by
  unfold recv at h
  split at h
  · split at h
    · rename_i hc
      obtain ⟨⟨rfl, hlt⟩, hn⟩ := hc
      simp only [Rv] at r
      obtain ⟨a, ps, rfl, h1, h2, h3⟩ := r
      obtain ⟨dx, h2⟩ := h2.plain hlt
      exact ⟨a, dx, ps, rfl, h2, findF_none h3 hn⟩
    · cases h
  · split at h
    · rename_i hk
      split at h
      · rename_i hc
        obtain ⟨rfl, hn⟩ := hc
        simp only [Rv] at r
        obtain ⟨a, rfl, ha⟩ := r
        obtain ⟨b, h1, dx, ps, h2, h3⟩ := R.cell _ _ hk
        rw [ha] at h1; cases h1
        exact ⟨a, dx, ps, rfl, h2, findF_none h3 hn⟩
      · cases h
    · cases h
  · cases h
/-- o.m(..): the receiver, then the arguments -/
theorem meth_ok {C : Nat} {q : Sg} {fo : Env → M Va} {g : List Va → M Va} {Q : VK} {P : List V → Hp → Prop}
    (hop : ∀ ρ S mem H ws vs, Rel K G ρ S H env mem σ → Rvs K G ρ S H ws vs → Sat K G (Rv K G) ρ S env σ H W Q (g ws mem) → P vs H)
    (R : Rel K G ρ S H env mem σ) (h : Sat K G (Rv K G) ρ S env σ H W Q (eMeth C q g fo fs env mem)) :
    tE K G W fo σ H fun x H1 => ∃ a dx ps, x = .ref a ∧ H1 a = some (.ins (G.ca C) dx ps) ∧ ps.lookup (sg q) = none ∧ tA K G W fs σ H1 fun vs H2 => P (x :: vs) H2 :=
  tX.of R ((Sat.bind (rel := Rv K G) h).imp fun v H1 ⟨ρ1, S1, w, m1, e1, R1, r1, h1⟩ => by
    rcases recv_case C q w m1 with e | e
    · simp only [bind_eq, e, bind_ok] at h1
      obtain ⟨a, dx, ps, rfl, h2, h3⟩ := recv_ok R1.toRelM r1 e
      refine ⟨a, dx, ps, rfl, h2, h3, tX.of R1 ((Sat.bind (rel := Rvs K G) h1).imp fun vs H2 ⟨ρ2, S2, ws, m2, e2, R2, r2, h4⟩ => ?_)⟩
      exact hop ρ2 S2 m2 H2 _ _ R2 (rvs_cons (Rv.mono e2 R1.out _ _ r1) r2) h4
    · simp only [bind_eq, e, bind_no] at h1; exact h1.elim)
theorem meth_ok' {C : Nat} {q : Sg} {fo : Env → M Va} {g : List Va → M Va} {Q : VK} {P : List V → Hp → Prop}
    (hop : ∀ ρ S mem H ws vs, Rel K G ρ S H env mem σ → Rvs K G ρ S H ws vs → Sat K G (Rv K G) ρ S env σ H W Q (g ws mem) → P vs H)
    (R : Rel K G ρ S H env mem σ) (h : Sat K G (Rv K G) ρ S env σ H W Q (eMeth C q g fo fs env mem)) :
    tE K G W fo σ H fun x H1 => ∃ a dx ps, x = .ref a ∧ H1 a = some (.ins (G.ca C) dx ps) ∧ ps.lookup (sg q) = none ∧ tA K G W fs σ H1 fun vs H2 => P (x :: (vs ++ [])) H2 := by
  simp only [List.append_nil]
  exact meth_ok hop R h
section
variable {C : Nat} {q : Sg} {o : Expr} {fo : Env → M Va} {apos : Pos} {pl : Sem Bool} {mn : Str}
theorem sim_methS (F : Fn X.prog X.w X.K X.mg X.base G k f fd ps m) (tk : Takes X (WF E)) (hr : Room k X.A) (hc : Cls X.K (G.ca C)) (hm : Meth X.K (G.ca C) mn f) (hq : mn = sg q) (ho : SE X G (WF E) o fo) (ha : SA X G (WF E) (e :: es) fs)
    (hst : starEach (e :: es) X.env = (false, eval e X.env) :: starEach es X.env := by rfl) (hpl : (backTo pos (starEach es X.env)).any (·.1) = false := by rfl)
    (ht : eval (.Call (.Attribute o mn apos) (e :: es) [] pos) X.env = (do
      let ov ← eval o X.env
      standAt apos.atName
      let (f, first) ← holding [ov] (getMethod ov mn pl)
      callWith pos f first (backTo pos (starEach (e :: es) X.env)) (backToKw pos (keywordEach [] X.env))) := by rfl) :
    SE X G (WF E) (.Call (.Attribute o mn apos) (e :: es) [] pos) (eMeth C q (lenM ps.length m) fo fs) := by
  subst hq
  exact PE.imp (pe_meth (pl := pl) ho hc hm F.ok hr F.bd .nil (passesF tk) ha hst hpl ht) fun σ H Q ⟨ρ, S, env, mem, R, h⟩ =>
    meth_ok' (W := WF E) (P := fun vs H => spS X.K G ps.length m vs H Q E) (fun ρ S mem H ws vs R r z => sp_callN (W := WF E) R r z) R h
theorem sim_methP (F : Fn X.prog X.w X.K X.mg X.base G k f fd ps m) (tk : Takes X (WF E)) (hr : Room k X.A) (hc : Cls X.K (G.ca C)) (hm : Meth X.K (G.ca C) mn f) (hq : mn = sg q) (ho : SE X G (WF E) o fo) (ha : SA X G (WF E) (e :: es) fs)
    (hst : starEach (e :: es) X.env = (false, eval e X.env) :: starEach es X.env := by rfl) (hpl : (backTo pos (starEach es X.env)).any (·.1) = false := by rfl)
    (ht : eval (.Call (.Attribute o mn apos) (e :: es) [] pos) X.env = (do
      let ov ← eval o X.env
      standAt apos.atName
      let (f, first) ← holding [ov] (getMethod ov mn pl)
      callWith pos f first (backTo pos (starEach (e :: es) X.env)) (backToKw pos (keywordEach [] X.env))) := by rfl) :
    SE X G (WF E) (.Call (.Attribute o mn apos) (e :: es) [] pos) (eMeth C q (lenM ps.length (pureM m)) fo fs) := by
  subst hq
  exact PE.imp (pe_meth (pl := pl) ho hc hm F.ok hr F.bd .nil (passesF tk) ha hst hpl ht) fun σ H Q ⟨ρ, S, env, mem, R, h⟩ =>
    meth_ok' (W := WF E) (P := fun vs H => spS X.K G ps.length m vs H Q E) (fun ρ S mem H ws vs R r z => sp_pureN (W := WF E) R r z) R h
end
/-! ### a def by its body -/
theorem lenM_ok {ws : List Va} (h : ws.length = n) : lenM n m ws = m ws := by unfold lenM; rw [if_pos h]
theorem start_rel {N : List Str} {ws : List Va} {vs : List V} (R : RelM K G ρ S H mem) (r : Rvs K G ρ S H ws vs) : Rel K G ρ S H (ws.map some ++ List.replicate (N.length - ws.length) none) mem (L2.start N vs) := by
  have hl := rvs_length r
  refine ⟨R, fun i y h => ?_, by simp [L2.start, hl]⟩
  by_cases hi : i < ws.length
  · rw [List.getElem?_append_left (by simpa using hi), List.getElem?_map] at h
    obtain ⟨z, h1, h2⟩ := opt_map h
    cases h2
    obtain ⟨v, h3, h4⟩ := rvs_get r h1
    refine ⟨v, ?_, h4⟩
    unfold L2.start
    rw [List.getElem?_append_left (by simpa [hl] using hi), List.getElem?_map, h3]; rfl
  · rw [List.getElem?_append_right (by simpa using hi), List.getElem?_replicate] at h
    split at h <;> cases h
theorem SatF.run {bf : Env → M Flow} {nn : Nat} {ws : List Va} {Q : VK} (h : SatF K G ρ S H Q E (runF nn bf ws mem)) : SatS K G ρ S H (WF E) { nx := fun _ H' => Q .non H', rt := Q } (bf (ws.map some ++ List.replicate (nn - ws.length) none) mem) := by
  unfold runF at h
  simp only [bind_eq] at h
  cases q : bf (ws.map some ++ List.replicate (nn - ws.length) none) mem with
  | ok fl m' =>
    rw [q] at h
    cases fl with
    | nx e' => exact fun ρ' S' H' σ' e R => h ρ' S' H' .non e R.toRelM (by simp only [Rv])
    | rt v => exact fun ρ' S' H' v e R r => h ρ' S' H' v e R r
    | bk _ => exact h.elim
    | ct _ => exact h.elim
  | er c gs m' => rw [q] at h; exact fun ρ' S' H' d σ' e R x => h ρ' S' H' d e R x
  | no => rw [q] at h; exact h
section
variable {P : Program} {w : World} {mg : Str → Option Value} {base : Heap} {qual : Str} {params : Arguments} {body : List Stmt} {scope : Scope} {dvs : List V} {kws : List (Str × V)} {N : List Str}
theorem fnD (F : FunD K x qual params body scope [] [] f fd) (Sc : FnScope N ps scope) {bf : Env → M Flow}
    (hbody : ∀ (cdv : Value) (A : Around) (outer : List PySem.Env) (s : Shared) (H : Hp) (E : XK), Room k (A.deeper (envOfC qual scope s.heap.objs.size f cdv)) →
      SSs (cxOf (L2.CX P w) P w K mg base N qual scope f cdv A outer s H E) G (WF E) body bf) :
    FnOk P w K mg base (L2.CX P w) (k + 1) f fd ps (spS K G ps.length (runF N.length bf)) :=
  F.ok Sc (fun vs H Q E ⟨_, _, _, _, _, _, h, _⟩ => h) fun cdv A outer s H vs Q E hr ⟨ρ, S, ws, mem, R, r, hn, h⟩ =>
    ⟨_, hbody cdv A outer s H E hr, ⟨ρ, S, _, mem, start_rel R r, SatF.run h⟩⟩
/-- … its code object known -/
theorem fnDc (F : FunD K x qual params body scope [] [] f fd) (Sc : FnScope N ps scope) {bf : Env → M Flow}
    (hbody : ∀ (cdv : Value) (_ : fd.code = cdv) (A : Around) (outer : List PySem.Env) (s : Shared) (H : Hp) (E : XK), Room k (A.deeper (envOfC qual scope s.heap.objs.size f cdv)) →
      SSs (cxOf (L2.CX P w) P w K mg base N qual scope f cdv A outer s H E) G (WF E) body bf) :
    FnOk P w K mg base (L2.CX P w) (k + 1) f fd ps (spS K G ps.length (runF N.length bf)) := by
  obtain ⟨oc, od, dV, kV, doc, pm, an, cdv, ct, osl, rfl, lk, hcd, _, _⟩ := F.ex
  exact fn_of lk hcd Sc (fun vs H Q E ⟨_, _, _, _, _, _, h, _⟩ => h) fun A outer s H vs Q E hr ⟨ρ, S, ws, mem, R, r, hn, h⟩ =>
    ⟨_, hbody cdv rfl A outer s H E hr, ⟨ρ, S, _, mem, start_rel R r, SatF.run h⟩⟩
end
end
end Vm
end
section
set_option Elab.async false
set_option linter.all false
set_option autoImplicit false
set_option maxRecDepth 100000
/-! SimM: fields, new instances, calls with keywords. -/
namespace Vm
open PySem PySem.Spec PyProof.Rows L2
section
variable {X : Cx} {K : PySem.W.Frag} {G : Gc} {ρ ρ1 : List Addr} {S S1 : Addr → Prop} {H H1 : Hp} {env : Env} {mem mem1 : Mem} {σ : L2.St} {W : WX} {E : XK}
variable {pos p apos : Pos} {a b c e o : Expr} {es : List Expr} {fs : Env → M (List Va)} {fa fb fo : Env → M Va} {m : List Va → M Va} {n k : Nat} {x fn : Str} {f : Addr} {fd : FuncData} {ps : List Str} {q : Sg} {cs : List Nat}
/-! ### fields -/
theorem findF_some : ∀ {gs : List (Sg × Va)} {ps : List (Str × V)} {q : Sg} {w : Va}, RvF K G ρ S H gs ps → findF q gs = some w → ∃ v, ps.lookup (sg q) = some v ∧ Rv K G ρ S H w v
  | [], ps, q, w, _, h => by cases h
  | (g, y) :: r, ps, q, w, h, hn => by
    simp only [RvF] at h
    obtain ⟨v, s, rfl, h1, h2⟩ := h
    simp only [findF] at hn
    split at hn
    · rename_i hq
      cases hn
      subst hq
      exact ⟨v, by rw [List.lookup_cons]; simp, h1⟩
    · rename_i hq
      rw [List.lookup_cons]
      have : (sg q == sg g) = false := by rw [sg_beq]; simp; exact fun z => hq z.symm
      rw [this]
      exact findF_some h2 hn
/-- o.f, the receiver of one of the classes cs -/
theorem sim_fld (hC : ∀ c ∈ cs, Cls X.K (G.ca c) ∧ NoAttr X.K (G.ca c) fn) (hq : fn = sg q) (ho : SE X G W o fo) (hb : attributeBase o fn X.env (eval o X.env) = eval o X.env := by rfl) : SE X G W (.Attribute o fn pos) (eUn (oFld cs q) fo) := by
  subst hq
  exact PE.imp (pe_fld ho hb) fun σ H Q ⟨ρ, S, env, mem, R, h⟩ => tX.one (op := oFld cs q) (fun ρ S mem H x v R r z => by
    unfold oFld at z
    split at z
    · split at z
      · rename_i hc
        obtain ⟨w, e, z⟩ := lift_sat z
        simp only [Rv] at r
        obtain ⟨a, ps, rfl, h1, h2, h3⟩ := r
        obtain ⟨dx, h2⟩ := h2.plain hc.2
        obtain ⟨v, h4, h5⟩ := findF_some h3 e
        exact ⟨a, _, dx, ps, v, rfl, h2, (hC _ hc.1).1, (hC _ hc.1).2, h4, sat_pure R z h5⟩
      · exact z.elim
    · split at z
      · rename_i hk
        split at z
        · rename_i hc
          obtain ⟨w, e, z⟩ := lift_sat z
          simp only [Rv] at r
          obtain ⟨a, rfl, ha⟩ := r
          obtain ⟨b, h1, dx, ps, h2, h3⟩ := R.cell _ _ hk
          rw [ha] at h1; cases h1
          obtain ⟨v, h4, h5⟩ := findF_some h3 e
          exact ⟨a, _, dx, ps, v, rfl, h2, (hC _ hc).1, (hC _ hc).2, h4, sat_pure R z h5⟩
        · exact z.elim
      · exact z.elim
    · exact z.elim) R h
theorem rvf_len : ∀ {gs : List (Sg × Va)} {ps : List (Str × V)}, RvF K G ρ S H gs ps → ps.length = gs.length
  | [], ps, h => by simp only [RvF] at h; subst h; rfl
  | (g, y) :: r, ps, h => by
    simp only [RvF] at h
    obtain ⟨v, s, rfl, h1, h2⟩ := h
    simp only [List.length_cons, rvf_len h2]
theorem rvf_put {w : Va} {v : V} {q : Sg} (rw' : Rv K G ρ S H w v) : ∀ {gs : List (Sg × Va)} {ps : List (Str × V)}, RvF K G ρ S H gs ps → RvF K G ρ S H (putF q w gs) (L2.putF (sg q) v ps)
  | [], ps, h => by
    simp only [RvF] at h; subst h
    simp only [putF, L2.putF, RvF]
    exact ⟨v, [], rfl, rw', rfl⟩
  | (g, y) :: r, ps, h => by
    simp only [RvF] at h
    obtain ⟨u, s, rfl, h1, h2⟩ := h
    simp only [putF, L2.putF]
    by_cases e : g = q
    · rw [if_pos e, if_pos (by rw [e])]
      simp only [RvF]
      exact ⟨v, s, rfl, rw', h2⟩
    · rw [if_neg e, if_neg (fun z => e (sg_inj.mp z))]
      simp only [RvF]
      exact ⟨u, _, rfl, h1, rvf_put rw' h2⟩
theorem fldM_case (cs : List Nat) (q : Sg) (o x : Va) (m : Mem) : (∃ m', fldM cs q o x m = .ok () m') ∨ fldM cs q o x m = .no := by
  unfold fldM
  repeat' split
  all_goals first | exact .inl ⟨_, rfl⟩ | exact .inr rfl
theorem fldM_ok {o x : Va} {m' : Mem} {ov xv : V} (R : Rel K G ρ S H env mem σ) (ro : Rv K G ρ S H o ov) (rx : Rv K G ρ S H x xv) (h : fldM cs q o x mem = .ok () m') :
    ∃ a c dx ps, ov = .ref a ∧ c ∈ cs ∧ H a = some (.ins (G.ca c) dx ps) ∧ ps.length < 1000 ∧ Ext ρ S H ρ S (upd H a (.ins (G.ca c) dx (L2.putF (sg q) xv ps))) ∧ Rel K G ρ S (upd H a (.ins (G.ca c) dx (L2.putF (sg q) xv ps))) env m' σ := by
  unfold fldM at h
  split at h
  · split at h
    · rename_i hk
      split at h
      · rename_i hc
        injection h with _ h
        subst h
        simp only [Rv] at ro
        obtain ⟨a, rfl, ha⟩ := ro
        have hm : a ∈ ρ := List.mem_of_getElem? ha
        obtain ⟨b, h1, dx, ps, h2, h3⟩ := R.cell _ _ hk
        rw [ha] at h1; cases h1
        exact ⟨a, _, dx, ps, rfl, hc.1, h2, by rw [rvf_len h3]; exact hc.2, ext_set hm, rel_set R ha ⟨_, h2, (by intro _ z; cases z), (by intro _ z; cases z), (by intro _ z; cases z)⟩ ⟨dx, _, upd_same, RvF.mono (ext_set hm) R.out _ _ (rvf_put rx h3)⟩⟩
      · cases h
    · cases h
  · cases h
/-- o.f as a target -/
theorem pg_fld {to : TE} (ho : PE X o to) (ha : ∀ v, assign (.Attribute o fn pos) X.env v = (do
      let ov ← holding [v] (eval o X.env)
      standAt pos.atName
      holding [v, ov] (setAttr ov fn v)
      release [v, ov] []) := by intro _; rfl) :
    PG X (.Attribute o fn pos) (fun v σ H Q => to σ H fun x H2 => ∃ a C dx fs, x = .ref a ∧ H2 a = some (.ins C dx fs) ∧ Cls X.K C ∧ NoAttr X.K C fn ∧ fs.length < 1000 ∧ Q σ (upd H2 a (.ins C dx (L2.putF fn v fs)))) := by
  refine ⟨fun pins s σ H v u Q I r h => ?_⟩
  rw [ha]
  refine wpAny_bind (wpAny_holding (thn (ho.run pins s σ H _ I h) fun ov s1 ⟨x, H1, I1, r1, a, C, dx, fs, ex, hC, cl, na, hl, q⟩ => ?_))
  subst ex
  obtain rfl : ov = Value.ref a := r1
  refine wpAny_bind (wpAny_standAt (wpAny_bind (wpAny_holding (setattr_ok I1 hC cl na hl r fun s2 I2 => ?_))))
  exact wpAny_release ⟨σ, _, I2, q⟩
theorem sim_gfld (hC : ∀ c ∈ cs, Cls X.K (G.ca c) ∧ NoAttr X.K (G.ca c) fn) (hq : fn = sg q) (ho : SE X G W o fo) (he : ∀ v, assign (.Attribute o fn pos) X.env v = (do
      let ov ← holding [v] (eval o X.env)
      standAt pos.atName
      holding [v, ov] (setAttr ov fn v)
      release [v, ov] []) := by intro _; rfl) : SG X G W (.Attribute o fn pos) (gFld cs q fo) := by
  subst hq
  exact PG.imp (pg_fld ho he) fun v σ H Q ⟨ρ, S, env, mem, w, R, r, h⟩ =>
    tX.of R ((SatG.ofE (rel := Rv X.K G) h).imp fun ov H1 ⟨ρ1, S1, y, m1, e1, R1, r1, h1⟩ => by
      rcases fldM_case cs q y w m1 with ⟨m', z⟩ | z
      · simp only [bind_eq, z, bind_ok] at h1
        obtain ⟨a, c, dx, ps, rfl, hc, h2, h3, h4, h5⟩ := fldM_ok R1 r1 (Rv.mono e1 R.out _ _ r) z
        exact ⟨a, _, dx, ps, rfl, h2, (hC c hc).1, (hC c hc).2, h3, h1 ρ1 S1 _ σ h4 h5⟩
      · simp only [bind_eq, z, bind_no] at h1; exact h1.elim)
/-! ### a new instance -/
theorem isNon_iff {w : Va} {v : V} (h : isNon w = true) (r : Rv K G ρ S H w v) : v = .non := by
  rw [isNon_ok r] at h
  exact of_decide_eq_true h
/-- what the making of an instance wants -/
theorem make_ok {C : Nat} {ws : List Va} {vs : List V} {Q : VK} (R : RelM K G ρ S H mem) (r : Rvs K G ρ S H ws vs) (hn : ws.length = n) (h : SatF K G ρ S H Q E (makeM C m ws mem)) (x dx : Addr) (hx : H x = none) (hdx : H dx = none) (hne : dx ≠ x) :
    spS K G (n + 1) m (.ref x :: vs) (upd (upd H dx (.own x)) x (.ins (G.ca C) dx [])) (fun v H2 => v = .non ∧ Q (.ref x) H2) E := by
  have e1 : Ext ρ S H ρ S (upd H dx (.own x)) := ⟨⟨[], by simp⟩, fun _ h => h, fun a o' h _ _ => by rw [upd_ne (ne_of_none h hdx)]; exact h, fun a h => by
    by_cases e : a = dx
    · subst e; exact hdx
    · rw [upd_ne e] at h; exact h, fun _ h => .inl h, fun _ h => .inl h⟩
  have hx1 : upd H dx (.own x) x = none := by rw [upd_ne (Ne.symm hne)]; exact hx
  have e2 := ext_cell (ρ := ρ) (S := S) (o := .ins (G.ca C) dx []) hx1
  have k1 : ∀ a o', H a = some o' → upd H dx (.own x) a = some o' := fun a o' h => by rw [upd_ne (ne_of_none h hdx)]; exact h
  have R1 : Rel K G ρ S (upd H dx (.own x)) [] mem [] := ⟨⟨fun a h => by
      cases q : H a with
      | none => exact absurd q (R.there a h)
      | some o' => rw [k1 a o' q]; simp, fun j c h => by
      obtain ⟨a, h1, h2⟩ := R.cell j c h
      exact ⟨a, h1, h2.mono e1 R.out fun o' => k1 a o'⟩, R.out, R.len, R.nd, R.tabs.ext k1 (fun _ h => h)⟩, fun i y h => by simp at h, rfl⟩
  have R2 := rel_cell (c := .ins C []) (o := .ins (G.ca C) dx []) R1 hx1 ⟨dx, [], upd_same, by simp only [RvF]⟩
  refine ⟨ρ ++ [x], S, .ref mem.length :: ws, mem ++ [.ins C []], R2.toRelM, rvs_cons ?_ (Rvs.mono e2 R.out _ _ (Rvs.mono e1 R.out _ _ r)), by rw [List.length_cons, rvs_length r, hn], ?_⟩
  · simp only [Rv]
    exact ⟨x, rfl, by rw [← R.len]; simp⟩
  · unfold makeM at h
    simp only [bind_eq, newM, bind_ok] at h
    cases q : m (.ref mem.length :: ws) (mem ++ [.ins C []]) with
    | ok w m' =>
      simp only [q, bind_ok] at h
      split at h
      · rename_i hw
        intro ρ' S' H' v e R' rv
        have hv := isNon_iff hw rv
        refine ⟨hv, h ρ' S' H' (.ref x) ((e1.trans e2).trans e) R' ?_⟩
        simp only [Rv]
        exact ⟨x, rfl, get_pre e.pre (by rw [← R.len]; simp)⟩
      · exact h.elim
    | er c gs m' =>
      simp only [q, bind_er] at h
      exact fun ρ' S' H' d e R' xa => h ρ' S' H' d ((e1.trans e2).trans e) R' xa
    | no => simp only [q, bind_no] at h; exact h.elim
theorem sim_makeS {C : Nat} (Mk' : Mk X.K (G.ca C) f) (F : Fn X.prog X.w X.K X.mg X.base G k f fd ps m) (hps : ps.length = n + 1) (tk : Takes X (WF E)) (hr : Room (k + 1) X.A) (hm : X.mg x = some (.ref (G.ca C))) (ha : SA X G (WF E) (e :: es) fs) (hg : Gl X x := by rfl)
    (hdb : (x == ("__debug__" : Str)) = false := by decide) (he : starEach (e :: es) X.env = (false, eval e X.env) :: starEach es X.env := by rfl) (hpl : (backTo pos (starEach es X.env)).any (·.1) = false := by rfl) :
    SE X G (WF E) (.Call (.Name x p) (e :: es) [] pos) (eCall (lenM n (makeM C m)) fs) :=
  PE.imp (pe_make Mk' F.ok hr hg hm F.bd .nil (passesF tk) ha hdb he hpl) fun σ H Q ⟨ρ, S, env, mem, R, h⟩ =>
    tX.args (op := lenM n (makeM C m)) (P := fun vs H => ∀ x dx, H x = none → H dx = none → dx ≠ x → spS X.K G ps.length m (.ref x :: (vs ++ [])) (upd (upd H dx (.own x)) x (.ins (G.ca C) dx [])) (fun v H2 => v = .non ∧ Q (.ref x) H2) E)
      (fun ρ S mem H ws vs R r z x dx hx hdx hne => by
        unfold lenM at z
        split at z
        · rename_i hn
          rw [List.append_nil, hps]
          exact make_ok R.toRelM r hn (SatF.of (W := WF E) R z) x dx hx hdx hne
        · exact z.elim) R h
end
end Vm
end
section
set_option Elab.async false
set_option linter.all false
set_option autoImplicit false
set_option maxRecDepth 100000
/-! SimK: lambdas: made, handed on, called. -/
namespace Vm
open PySem PySem.Spec PyProof.Rows L2 LamX NdefX
/-! ### heaps less, plus the pinned cells -/
theorem lessH_at {H : Hp} {cl : List (Str × Addr)} {a : Addr} (h : cellOf cl a) : lessH H cl a = none := lessH_none.mpr (.inl h)
theorem lessH_ne {H : Hp} {cl : List (Str × Addr)} {a : Addr} (h : ¬ cellOf cl a) : lessH H cl a = H a := by
  unfold lessH; rw [if_neg h]
open Classical in
/-- H1, the cells as H has them -/
noncomputable def plusH (H H1 : Hp) (cl : List (Str × Addr)) : Hp := fun b => if cellOf cl b then H b else H1 b
theorem plusH_at {H H1 : Hp} {cl : List (Str × Addr)} {a : Addr} (h : cellOf cl a) : plusH H H1 cl a = H a := by unfold plusH; rw [if_pos h]
theorem plusH_ne {H H1 : Hp} {cl : List (Str × Addr)} {a : Addr} (h : ¬ cellOf cl a) : plusH H H1 cl a = H1 a := by unfold plusH; rw [if_neg h]
open Classical in
/-- the cells of the running frame, pinned -/
noncomputable def pinH (X : Cx) (O : Addr → Obj) (H : Hp) : Hp := fun b => if cellOf X.env.cells b then some (PinC b (O b)) else H b
theorem pinH_at {X : Cx} {O : Addr → Obj} {H : Hp} {a : Addr} (h : cellOf X.env.cells a) : pinH X O H a = some (PinC a (O a)) := by unfold pinH; rw [if_pos h]
theorem pinH_ne {X : Cx} {O : Addr → Obj} {H : Hp} {a : Addr} (h : ¬ cellOf X.env.cells a) : pinH X O H a = H a := by unfold pinH; rw [if_neg h]
def plusS (S : Addr → Prop) (X : Cx) : Addr → Prop := fun a => S a ∨ cellOf X.env.cells a
def freeL (X : Cx) (H : Hp) : Prop := ∀ a, cellOf X.env.cells a → H a = none
/-- O tells the objects of the frame's cells, as the slots have them -/
def MatO (X : Cx) (σ : L2.St) (O : Addr → Obj) : Prop := ∀ y c, X.env.cells.lookup y = some c → ∃ u, (O c).data = .cell u ∧
  ∀ (i : Nat) (v : V), (X.env.scope.names.lookup y = some .cell ∨ X.env.scope.names.lookup y = some .free) → X.N[i]? = some y → σ[i]? = some (some v) → ∃ u', u = some u' ∧ L2.RelV v u'
theorem heap_at (c : Addr) (o : Obj) (u : Option Value) (ho : o.data = .cell u) : ∃ h : Heap, h.get? c = some o := by
  refine ⟨⟨Array.replicate (c + 1) o, {}⟩, ?_⟩
  unfold Heap.get?
  have : (Array.replicate (c + 1) o)[c]? = some o := by simp
  show (match (Array.replicate (c + 1) o)[c]? with | some ⟨_, _, .freed, _⟩ => none | o => o) = some o
  rw [this]
  obtain ⟨a, b, d, e⟩ := o
  cases ho
  rfl
theorem codeO_pin {c : Addr} {q : Str} {o : Obj} {u : Option Value} (ho : o.data = .cell u) : CodeO c q ≠ PinC c o := fun z => by
  unfold CodeO PinC at z
  injection z with z
  obtain ⟨h, hh⟩ := heap_at c o u ho
  have := congrFun z h
  obtain ⟨oc, vs, t, h1, h2, _⟩ := this.mpr hh
  rw [hh] at h1
  cases h1
  rw [ho] at h2; cases h2
section
variable {P : Program} {w : World} {K : PySem.W.Frag} {mg : Str → Option Value} {base : Heap} {A : Around} {outer : List PySem.Env} {s : Shared} {H H1 : Hp} {cl : List (Str × Addr)} {h : Heap}
theorem HOk.less (x : HOk P w H h) (hp : ∀ a, cellOf cl a → ∃ φ, H a = some (.ext φ)) : HOk P w (lessH H cl) h := fun a o e => by
  obtain ⟨h1, h2⟩ := lessH_some.mp e
  refine (x a o h2).stay (fun _ _ _ q => q) (fun b q => lessH_some.mpr ⟨fun z => ?_, q⟩) fun b xs q => lessH_some.mpr ⟨fun z => ?_, q⟩
  · obtain ⟨φ, y⟩ := hp b z
    rw [q] at y; cases y
  · obtain ⟨φ, y⟩ := hp b z
    rw [q] at y; cases y
theorem Env0.less (e : Env0 P w K mg base A outer s H) (hp : ∀ a, cellOf cl a → ∃ φ, H a = some (.ext φ)) : Env0 P w K mg base A outer s (lessH H cl) :=
  ⟨e.frames, e.mod, fun b o q => ⟨(e.bs b o q).1, lessH_none.mpr (.inr (e.bs b o q).2)⟩, e.bsz, e.funs, fun b q => lessH_none.mpr (.inr (e.frf b q)), HOk.less e.hok hp, e.bare⟩
end
/-! ### a lambda by its body -/
section
variable (K : PySem.W.Frag) (G : Gc)
/-- the promise of a lambda: ws what it captured -/
def spL (n : Nat) (m : List Va → List Va → M Va) : List V → Sp := fun ws vs H Q E => ∃ ρ S xs ys mem, RelM K G ρ S H mem ∧ Rvs K G ρ S H xs ws ∧ Rvs K G ρ S H ys vs ∧ vs.length = n ∧ SatF K G ρ S H Q E (m xs ys mem)
end
abbrev nfOf (D : LamD) (cl : List (Str × Addr)) (c : Addr) : NF := ⟨"<lambda>", D.qual, D.params, [], D.scope, cl, c⟩
structure LamOk (P : Program) (w : World) (K : PySem.W.Frag) (mg : Str → Option Value) (base : Heap) (G : Gc) (k : Nat) (D : LamD) (m : List Va → List Va → M Va) : Prop where
  run : ∀ (f : Addr) (cl : List (Str × Addr)) (c : Addr) (A : Around) (outer : List PySem.Env) (s : Shared) (H : Hp) (us : List Value) (vs ws : List V) (Q : VK) (E : XK), Room k A → Env0 P w K mg base A outer s H →
    H f = some (CloO f D cl c) → H c = some (CodeO c D.qual) → CellsAt cl D.fr (ws.map some) s.heap H → Vals vs us → spL K G D.ps.length m ws vs H Q E →
    codeAny (model P w) A (.call (.ref f) ⟨us, []⟩) (CR (L2.CX P w) outer P w H s Q E) s
section
variable {P : Program} {w : World} {K : PySem.W.Frag} {mg : Str → Option Value} {base : Heap} {G : Gc} {k : Nat} {D : LamD} {ρ : List Addr} {S : Addr → Prop} {H : Hp} {mem : Mem}
theorem start_relL {N : List Str} {xs ys : List Va} {ws vs : List V} (R : RelM K G ρ S H mem) (r1 : Rvs K G ρ S H xs ws) (r2 : Rvs K G ρ S H ys vs) :
    Rel K G ρ S H (ys.map some ++ (xs.map some ++ List.replicate (N.length - ys.length - xs.length) none)) mem (startF N vs (ws.map some)) := by
  have l1 := rvs_length r1
  have l2 := rvs_length r2
  refine ⟨R, fun i y h => ?_, by simp [startF, l1, l2]⟩
  unfold startF
  by_cases hi : i < ys.length
  · rw [List.getElem?_append_left (by simpa using hi), List.getElem?_map] at h
    obtain ⟨z, h1, h2⟩ := opt_map h
    cases h2
    obtain ⟨v, h3, h4⟩ := rvs_get r2 h1
    exact ⟨v, by rw [List.getElem?_append_left (by simpa [l2] using hi), List.getElem?_map, h3]; rfl, h4⟩
  · rw [List.getElem?_append_right (by simpa using hi), List.length_map] at h
    by_cases hj : i - ys.length < xs.length
    · rw [List.getElem?_append_left (by simpa using hj), List.getElem?_map] at h
      obtain ⟨z, h1, h2⟩ := opt_map h
      cases h2
      obtain ⟨v, h3, h4⟩ := rvs_get r1 h1
      refine ⟨v, ?_, h4⟩
      rw [List.getElem?_append_right (by simpa [l2] using hi)]
      simp only [List.length_map, l2]
      rw [List.getElem?_append_left (by rw [List.length_map, l1]; exact hj), List.getElem?_map, h3]; rfl
    · rw [List.getElem?_append_right (by simpa using hj), List.getElem?_replicate] at h
      split at h <;> cases h
theorem lam_ok {b : Env → M Va} (Sc : NScope D.N D.ps D.fr D.scope)
    (hb : ∀ (cl : List (Str × Addr)) (pm cv ctv : Value) (us : List Value), us.length = D.ps.length → bindArgs (PySem.W.kla_fn "<lambda>" D.qual D.params D.body D.scope cl pm cv ctv) ⟨us, []⟩ = pure (D.ps.zip us))
    (hbody : ∀ (f : Addr) (cl : List (Str × Addr)) (c : Addr) (A : Around) (outer : List PySem.Env) (s : Shared) (H : Hp) (E : XK), Room k (A.deeper (envF (nfOf D cl c) f s.heap.objs.size)) → SE (ncx (L2.CX P w) P w K mg base D.N (nfOf D cl c) f A outer s H E) G (WF E) D.body b) :
    LamOk P w K mg base G (k + 1) D (runL D.N.length b) := by
  refine ⟨fun f cl c A outer s H us vs ws Q E hr e0 hf hc C r hsp => ?_⟩
  obtain ⟨ρ, S, xs, ys, mem, R, r1, r2, hn, hs⟩ := hsp
  have lim : s.heap.NoLimit := e0.mod.nolimit.keeps fun b o e => (e0.bs b o e).1
  obtain ⟨⟨pm, ctv, ho⟩, _, _⟩ := e0.hok f _ hf
  have ul : us.length = D.ps.length := by rw [← r.length, hn]
  refine PySem.W.kla_callFunE hr.depth ho rfl Sc.co Sc.gen rfl (codeO_at e0.hok hc) ?_
  rw [hb cl pm _ ctv us ul]
  refine wpAny_pure (wpAny_newFunctionEnv Sc.nocell (fun ⟨n, _⟩ hy => Sc.par n (List.of_mem_zip hy).1) (fun h₁ hns hsb => ⟨lim.fresh _ hsb, ?_⟩) Sc.kind)
  have kp : ∀ b o, s.heap.get? b = some o → h₁.get? b = some o := fun b o e => hsb.extBut b o (Nat.ne_of_lt (Heap.lt_size e)) (Heap.get?_push_of_some _ e)
  have I : Inv (ncx (L2.CX P w) P w K mg base D.N (nfOf D cl c) f A outer s H E) [] (startF D.N vs (ws.map some)) H { s with heap := h₁, toks := s.toks + (D.ps.zip us).length } := inv_startN Sc hr.hd e0 hn r C hns kp
  refine PySem.W.kla_codeExpr (wpAny_mono ((hbody f cl c A outer s H E (hr.deeper _)).run [] _ _ H Q I ⟨ρ, S, _, mem, start_relL R r1 r2, ?_⟩) (fun v s' hq => ?_) fun e s' hq => hq)
  · unfold runL at hs
    revert hs
    cases b (ys.map some ++ (xs.map some ++ List.replicate (D.N.length - ys.length - xs.length) none)) mem with
    | ok v m' => exact fun hs ρ' S' H' v e R' r => hs ρ' S' H' v e R'.toRelM r
    | er c fs m' => exact fun hs ρ' S' H' d e R' x => hs ρ' S' H' d e R'.toRelM x
    | no => exact fun hs => hs
  · obtain ⟨v', H', J, rv, q⟩ := hq
    exact ⟨v', H', J.os, J.bare, J.base, J.hok, rv, q⟩
end
/-! ### a lambda called: its cells stand free meanwhile -/
section
variable {X : Cx} {G : Gc} {pins : List (Addr × Obj)} {σ : L2.St} {H : Hp} {s : Shared} {cl : List (Str × Addr)} {k : Nat} {D : LamD} {m : List Va → List Va → M Va} {S : Addr → Prop} {f c : Addr} {ws vs : List V} {us : List Value} {Q : VK} {E : XK}
theorem un_plus {fs : List Addr} {H1 : Hp} {h h1 : Heap} (un : Un fs [] (lessH H cl) H1 h h1) (hp : ∀ a, cellOf cl a → ∃ φ, H a = some (.ext φ)) : Un fs [] H (plusH H H1 cl) h h1 := by
  have nc : ∀ b, H b = none → ¬ cellOf cl b := fun b e z => by obtain ⟨φ, q⟩ := hp b z; rw [e] at q; cases q
  have nx : ∀ b o, H b = some o → (∀ φ, o ≠ .ext φ) → ¬ cellOf cl b := fun b o e n z => by obtain ⟨φ, q⟩ := hp b z; rw [e] at q; cases q; exact n φ rfl
  exact ⟨fun b o e n hf hx => un.keep b o e (lessH_none.mpr (.inr n)) hf hx, fun b o e n hf hx => un.slot b o e (lessH_none.mpr (.inr n)) hf hx,
    fun b o e n hx => by rw [plusH_ne (nc b n)]; exact un.free b o e (lessH_none.mpr (.inr n)) hx, un.there,
    fun b xs e => by have q := nx b _ e (fun φ z => by cases z); rw [plusH_ne q]; exact un.tups b xs (lessH_some.mpr ⟨q, e⟩),
    fun b o u e => by have q := nx b _ e (fun φ z => by cases z); rw [plusH_ne q]; exact un.frzs b o u (lessH_some.mpr ⟨q, e⟩),
    fun b ps e => by have q := nx b _ e (fun φ z => by cases z); rw [plusH_ne q]; exact un.tbls b ps (lessH_some.mpr ⟨q, e⟩)⟩
theorem ub_plus {fs : List Addr} {H1 : Hp} {h B h1 : Heap} (un : UB fs (lessH H cl) H1 h B h1) (hp : ∀ a, cellOf cl a → ∃ φ, H a = some (.ext φ)) : UB fs H (plusH H H1 cl) h B h1 := by
  have nc : ∀ b, H b = none → ¬ cellOf cl b := fun b e z => by obtain ⟨φ, q⟩ := hp b z; rw [e] at q; cases q
  have nx : ∀ b o, H b = some o → (∀ φ, o ≠ .ext φ) → ¬ cellOf cl b := fun b o e n z => by obtain ⟨φ, q⟩ := hp b z; rw [e] at q; cases q; exact n φ rfl
  exact ⟨fun b o e n hf => un.keep b o e (lessH_none.mpr (.inr n)) hf, un.slot,
    fun b o e n => by rw [plusH_ne (nc b n)]; exact un.free b o e (lessH_none.mpr (.inr n)), un.there,
    fun b xs e => by have q := nx b _ e (fun φ z => by cases z); rw [plusH_ne q]; exact un.tups b xs (lessH_some.mpr ⟨q, e⟩),
    fun b o u e => by have q := nx b _ e (fun φ z => by cases z); rw [plusH_ne q]; exact un.frzs b o u (lessH_some.mpr ⟨q, e⟩),
    fun b ps e => by have q := nx b _ e (fun φ z => by cases z); rw [plusH_ne q]; exact un.tbls b ps (lessH_some.mpr ⟨q, e⟩)⟩
theorem hok_plus {P : Program} {w : World} {H1 : Hp} {h : Heap} (x : HOk P w H1 h) (hn : ∀ a, cellOf cl a → H1 a = none) (hp : ∀ a, cellOf cl a → ∃ o, H a = some (PinC a o) ∧ h.get? a = some o) : HOk P w (plusH H H1 cl) h := fun a o e => by
  by_cases ha : cellOf cl a
  · rw [plusH_at ha] at e
    obtain ⟨o', h1, h2⟩ := hp a ha
    rw [h1] at e; cases e
    exact ⟨h2, ⟨o', h2⟩, fun h1 h2 q st => st _ q⟩
  · rw [plusH_ne ha] at e
    have nc : ∀ b u, H1 b = some u → plusH H H1 cl b = some u := fun b u q => by
      rw [plusH_ne (fun z => by rw [hn b z] at q; cases q)]; exact q
    exact (x a o e).stay (fun _ _ _ q => q) (fun b q => nc b _ q) fun b xs q => nc b _ q
theorem run_clo (LO : LamOk X.prog X.w X.K X.mg X.base G k D m) (hr : Room k X.A) (hx : Passes (L2.CX X.prog X.w) X E) (I : Inv X pins σ H s) (hf : H f = some (CloO f D cl c)) (hc : H c = some (CodeO c D.qual)) (hp : Pins S H cl D.fr ws) (r : Vals vs us)
    (q : spL X.K G D.ps.length m ws vs (lessH H cl) (fun v H1 => (∀ a, cellOf cl a → H1 a = none) → Q v (plusH H H1 cl)) (fun z d H1 => (∀ a, cellOf cl a → H1 a = none) → E z d (plusH H H1 cl))) :
    wpAny (model X.prog X.w) X.A (call (.ref f) us) (EP X pins σ Q) X.xe s := by
  have hpx : ∀ a, cellOf cl a → ∃ φ, H a = some (.ext φ) := fun a z => by
    obtain ⟨_, o, u, h1, _⟩ := hp.all a z
    exact ⟨_, h1⟩
  have hpo : ∀ a, cellOf cl a → ∃ o u, H a = some (PinC a o) ∧ s.heap.get? a = some o ∧ o.data = .cell u := fun a z => by
    obtain ⟨_, o, u, h1, h2⟩ := hp.all a z
    obtain ⟨h3, _, _⟩ := I.hok a _ h1
    exact ⟨o, u, h1, h3, h2⟩
  have nof : ∀ a, cellOf cl a → a ∉ frs X.stack := fun a z hb => by
    obtain ⟨φ, h1⟩ := hpx a z
    rw [I.stkFree a hb] at h1; cases h1
  have ncf : ¬ cellOf cl f := fun z => by
    obtain ⟨o, u, h1, h2, h3⟩ := hpo f z
    obtain ⟨⟨pm, ctv, h4⟩, _, _⟩ := I.hok f _ hf
    rw [h2] at h4; cases h4; cases h3
  have ncc : ¬ cellOf cl c := fun z => by
    obtain ⟨o, u, h1, h2, h3⟩ := hpo c z
    obtain ⟨⟨oc, xs, t, h4, h5, _⟩, _, _⟩ := I.hok c _ hc
    rw [h2] at h4; cases h4; rw [h3] at h5; cases h5
  have C : CellsAt cl D.fr (ws.map some) s.heap (lessH H cl) := by
    refine ⟨by rw [List.length_map, hp.len], fun y a e => ?_, hp.inj, fun i y e => ?_⟩
    · obtain ⟨o, u, _, h2, h3⟩ := hpo a ⟨y, e⟩
      exact ⟨lessH_at ⟨y, e⟩, u, o, h2, h3⟩
    · obtain ⟨a, v, o, u, h1, h2, h3, h4, h5⟩ := hp.has i y e
      refine ⟨a, h1, fun v' ev => ?_⟩
      rw [List.getElem?_map, h2] at ev
      cases ev
      obtain ⟨h6, _, _⟩ := I.hok a _ h3
      exact ⟨u, h5, o, h6, h4⟩
  refine wpAny_call (codeAny_mono (LO.run f cl c X.A X.stack s (lessH H cl) us vs ws _ _ hr (Env0.less I.env0 hpx) (lessH_some.mpr ⟨ncf, hf⟩) (lessH_some.mpr ⟨ncc, hc⟩) C r q) fun r s' hq => ?_)
  cases r with
  | error e =>
    obtain ⟨a, B, H1, cls, d, h1, h2, h3, h4, h5, h6, h7, h8⟩ := hq
    have hn : ∀ b, cellOf cl b → H1 b = none := fun b z => by
      obtain ⟨o, u, _, g, _⟩ := hpo b z
      exact h4.free b o g (lessH_at z)
    refine hx pins σ H s e s' I ⟨a, B, plusH H H1 cl, cls, d, h1, h2, hok_plus h3 hn (fun b z => ?_), ub_plus h4 hpx, ?_, h6, h7, h8 hn⟩
    · obtain ⟨o, u, g1, g2, _⟩ := hpo b z
      exact ⟨o, g1, h4.keep b o g2 (lessH_at z) (nof b z)⟩
    · have : ¬ cellOf cl a := fun z => by
        obtain ⟨o, u, g1, g2, g3⟩ := hpo a z
        have g4 := h4.keep a o g2 (lessH_at z) (nof a z)
        rw [h2.2.1] at g4; cases g4
      rw [plusH_ne this]; exact h5
  | ok fl =>
    cases fl with
    | ret u =>
      obtain ⟨v, H1, h1, h2, h3, h4, h5, h6⟩ := hq
      have hn : ∀ b, cellOf cl b → H1 b = none := fun b z => by
        obtain ⟨o, u, _, g, _⟩ := hpo b z
        exact h3.free b o g (lessH_at z) (by simp)
      refine I.after ⟨v, plusH H H1 cl, h1, h2, un_plus h3 hpx, hok_plus h4 hn (fun b z => ?_), h5, h6 hn⟩
      obtain ⟨o, u, g1, g2, _⟩ := hpo b z
      exact ⟨o, g1, h3.keep b o g2 (lessH_at z) (nof b z) (by simp)⟩
    | next => exact False.elim hq
    | brk => exact False.elim hq
    | cont => exact False.elim hq
end
end Vm
end
section
set_option Elab.async false
set_option linter.all false
set_option autoImplicit false
set_option maxRecDepth 100000
/-! SimN: a call that hands lambdas on: the frame's cells stand pinned meanwhile. -/
namespace Vm
open PySem PySem.Spec PyProof.Rows L2 LamX NdefX
def QL (X : Cx) (O : Addr → Obj) (Q : VK) : VK := fun v H2 => (∀ a, cellOf X.env.cells a → H2 a = some (PinC a (O a))) ∧ Q v (lessH H2 X.env.cells)
def EL (X : Cx) (O : Addr → Obj) (E : XK) : XK := fun c d H2 => (∀ a, cellOf X.env.cells a → H2 a = some (PinC a (O a))) ∧ E c d (lessH H2 X.env.cells)
section
variable {X : Cx} {G : Gc} {pins : List (Addr × Obj)} {σ : L2.St} {H H1 H2 : Hp} {s : Shared} {O : Addr → Obj} {S S1 : Addr → Prop} {ρ ρ1 : List Addr} {mem : Mem}
theorem freeL_of (I : Inv X pins σ H s) : freeL X H := fun a ⟨y, e⟩ => I.freeC y a e
theorem mat_of (I : Inv X pins σ H s) : ∃ O : Addr → Obj, MatO X σ O ∧ ∀ a, cellOf X.env.cells a → s.heap.get? a = some (O a) := by
  refine ⟨fun a => (s.heap.get? a).getD ⟨.none, none, .cell none, #[]⟩, fun y c e => ?_, fun a ⟨y, e⟩ => ?_⟩
  · obtain ⟨u, o, h1, h2⟩ := I.cell y c e
    refine ⟨u, by show ((s.heap.get? c).getD _).data = _; rw [h1]; exact h2, fun i v hk hN hs => ?_⟩
    obtain ⟨m, hn, hl⟩ := I.loc
    obtain ⟨u', r, l⟩ := hl i y v hN hs (hk.elim (fun z => .inr (.inl z)) fun z => .inr (.inr z))
    rcases l with ⟨z, _⟩ | ⟨_, a', ha', o', g1, g2⟩
    · have z' : X.env.scope.names.lookup y = some .local := z
      rcases hk with k | k <;> rw [k] at z' <;> cases z'
    · rw [e] at ha'; cases ha'
      rw [h1] at g1; cases g1
      rw [h2] at g2; injection g2 with g2
      exact ⟨u', g2, r⟩
  · obtain ⟨u, o, h1, h2⟩ := I.cell y a e
    show _ = some ((s.heap.get? a).getD _)
    rw [h1]; rfl
theorem env0_pin (I : Inv X pins σ H s) (hfn : ∀ y, X.fn y = true) (hO : ∀ a, cellOf X.env.cells a → s.heap.get? a = some (O a)) : Env0 X.prog X.w X.K X.mg X.base X.A X.stack s (pinH X O H) := by
  have e := I.env0
  have up : ∀ b o, H b = some o → pinH X O H b = some o := fun b o h => by
    rw [pinH_ne (fun z => by rw [freeL_of I b z] at h; cases h)]; exact h
  refine ⟨e.frames, e.mod, fun b o q => ⟨(e.bs b o q).1, ?_⟩, e.bsz, e.funs, fun b hb => ?_, fun a o h => ?_, e.bare⟩
  · rw [pinH_ne]
    · exact (e.bs b o q).2
    · rintro ⟨y, z⟩
      exact absurd (Nat.lt_of_lt_of_le (Heap.lt_size q) (Nat.le_trans I.ok.bsz (I.ok.cab y b (hfn y) z))) (Nat.lt_irrefl _)
  · rw [pinH_ne]
    · exact e.frf b hb
    · rintro ⟨y, z⟩
      rcases I.ok.stk with k | ⟨k, hf⟩
      · rw [k] at hb
        obtain ⟨_, o, ho, _⟩ := I.ok.funs.mem hb
        exact absurd (Nat.lt_of_lt_of_le (Heap.lt_size ho) (I.ok.cab y b (hfn y) z)) (Nat.lt_irrefl _)
      · rw [k] at hb
        unfold frs at hb
        rw [List.filterMap_cons, hf] at hb
        rcases List.mem_cons.mp hb with hb | hb
        · exact I.cne y b z hb
        · obtain ⟨_, o, ho, _⟩ := I.ok.funs.mem hb
          exact absurd (Nat.lt_of_lt_of_le (Heap.lt_size ho) (I.ok.cab y b (hfn y) z)) (Nat.lt_irrefl _)
  · by_cases ha : cellOf X.env.cells a
    · rw [pinH_at ha] at h; cases h
      exact ⟨hO a ha, ⟨_, hO a ha⟩, fun h1 h2 q st => st _ q⟩
    · rw [pinH_ne ha] at h
      exact (I.hok a o h).stay (fun _ _ _ q => q) (fun b q => up b _ q) fun b xs q => up b _ q
theorem un_less {fs : List Addr} {h h2 : Heap} (un : Un fs [] (pinH X O H) H2 h h2) (hO : ∀ a, cellOf X.env.cells a → h.get? a = some (O a)) (h2O : ∀ a, cellOf X.env.cells a → h2.get? a = some (O a)) (fr : freeL X H) : Un fs [] H (lessH H2 X.env.cells) h h2 := by
  have nx : ∀ b o, H b = some o → ¬ cellOf X.env.cells b := fun b o e z => by rw [fr b z] at e; cases e
  refine ⟨fun b o e n hf hx => ?_, fun b o e n hf hx => ?_, fun b o e n hx => ?_, un.there, fun b xs e => ?_, fun b o u e => ?_, fun b ps e => ?_⟩
  · by_cases hb : cellOf X.env.cells b
    · rw [hO b hb] at e; cases e; exact h2O b hb
    · exact un.keep b o e (by rw [pinH_ne hb]; exact n) hf hx
  · by_cases hb : cellOf X.env.cells b
    · rw [hO b hb] at e; cases e; exact ⟨_, h2O b hb⟩
    · exact un.slot b o e (by rw [pinH_ne hb]; exact n) hf hx
  · by_cases hb : cellOf X.env.cells b
    · exact lessH_at hb
    · exact lessH_none.mpr (.inr (un.free b o e (by rw [pinH_ne hb]; exact n) hx))
  · have q := nx b _ e; exact lessH_some.mpr ⟨q, un.tups b xs (by rw [pinH_ne q]; exact e)⟩
  · have q := nx b _ e; exact lessH_some.mpr ⟨q, un.frzs b o u (by rw [pinH_ne q]; exact e)⟩
  · have q := nx b _ e
    obtain ⟨more, z⟩ := un.tbls b ps (by rw [pinH_ne q]; exact e)
    exact ⟨more, lessH_some.mpr ⟨q, z⟩⟩
theorem ub_less {fs : List Addr} {h B h2 : Heap} (un : UB fs (pinH X O H) H2 h B h2) (hO : ∀ a, cellOf X.env.cells a → h.get? a = some (O a)) (h2O : ∀ a, cellOf X.env.cells a → B.get? a = some (O a)) (fr : freeL X H) : UB fs H (lessH H2 X.env.cells) h B h2 := by
  have nx : ∀ b o, H b = some o → ¬ cellOf X.env.cells b := fun b o e z => by rw [fr b z] at e; cases e
  refine ⟨fun b o e n hf => ?_, un.slot, fun b o e n => ?_, un.there, fun b xs e => ?_, fun b o u e => ?_, fun b ps e => ?_⟩
  · by_cases hb : cellOf X.env.cells b
    · rw [hO b hb] at e; cases e; exact h2O b hb
    · exact un.keep b o e (by rw [pinH_ne hb]; exact n) hf
  · by_cases hb : cellOf X.env.cells b
    · exact lessH_at hb
    · exact lessH_none.mpr (.inr (un.free b o e (by rw [pinH_ne hb]; exact n)))
  · have q := nx b _ e; exact lessH_some.mpr ⟨q, un.tups b xs (by rw [pinH_ne q]; exact e)⟩
  · have q := nx b _ e; exact lessH_some.mpr ⟨q, un.frzs b o u (by rw [pinH_ne q]; exact e)⟩
  · have q := nx b _ e
    obtain ⟨more, z⟩ := un.tbls b ps (by rw [pinH_ne q]; exact e)
    exact ⟨more, lessH_some.mpr ⟨q, z⟩⟩
/-- the callee runs, the cells pinned -/
theorem run_pin {k : Nat} {f : Addr} {fd : FuncData} {ps : List Str} {sp : Sp} {us : List Value} {vs : List V} {Q : VK} {E : XK} (F : FnOk X.prog X.w X.K X.mg X.base (L2.CX X.prog X.w) k f fd ps sp) (hr : Room k X.A) (hb : Binds X.K fd ps []) (hx : Passes (L2.CX X.prog X.w) X E)
    (hfn : ∀ y, X.fn y = true) (I : Inv X pins σ H s) (r : Vals vs us) (h : ∀ O, MatO X σ O → sp vs (pinH X O H) (QL X O Q) (EL X O E)) : wpAny (model X.prog X.w) X.A (call (.ref f) us) (EP X pins σ Q) X.xe s := by
  obtain ⟨O, hM, hO⟩ := mat_of I
  have h := h O hM
  have hl : (us ++ []).length = ps.length := by rw [List.append_nil, ← r.length]; exact F.len _ _ _ _ h
  have hb' := hb s us I.kIn hl
  rw [List.append_nil] at hb'
  have fr := freeL_of I
  refine wpAny_call (codeAny_mono (F.run X.A X.stack s (pinH X O H) ⟨us, []⟩ us vs _ _ hr (env0_pin I hfn hO) hb' r h) fun r s' hq => ?_)
  cases r with
  | error e =>
    obtain ⟨a, B, H2, cls, d, h1, h2, h3, h4, h5, h6, h7, h8, h9⟩ := hq
    exact hx pins σ H s e s' I ⟨a, B, lessH H2 X.env.cells, cls, d, h1, h2, HOk.less h3 (fun b z => ⟨_, h8 b z⟩), ub_less h4 hO (fun b z => (h3 b _ (h8 b z)).1) fr, lessH_none.mpr (.inr h5), h6, h7, h9⟩
  | ok fl =>
    cases fl with
    | ret u =>
      obtain ⟨v, H2, h1, h2, h3, h4, h5, h6, h7⟩ := hq
      exact I.after ⟨v, lessH H2 X.env.cells, h1, h2, un_less h3 hO (fun b z => (h4 b _ (h6 b z)).1) fr, HOk.less h4 (fun b z => ⟨_, h6 b z⟩), h5, h7⟩
    | next => exact False.elim hq
    | brk => exact False.elim hq
    | cont => exact False.elim hq
/-! ### pinned memories -/
theorem ext_pin (fr : freeL X H) (R : RelM X.K G ρ S H mem) : Ext ρ S H ρ (plusS S X) (pinH X O H) where
  pre := ⟨[], by simp⟩
  sub := fun a h => .inl h
  old := fun a o h n t => by rw [pinH_ne (fun z => by rw [fr a z] at h; cases h)]; exact h
  trk := fun a h => by
    by_cases z : cellOf X.env.cells a
    · exact fr a z
    · rw [pinH_ne z] at h; exact h
  src := fun a h => h.imp id fun z => .inl (fr a z)
  new := fun a h => .inl h
theorem ext_pinless {cl : List (Str × Addr)} (hcl : ∀ a, cellOf cl a → cellOf X.env.cells a) (fr : freeL X H) (R : RelM X.K G ρ S H mem) : Ext ρ S H ρ (lessS (plusS S X) cl) (lessH (pinH X O H) cl) where
  pre := ⟨[], by simp⟩
  sub := fun a h => ⟨.inl h, fun z => R.there a h (fr a (hcl a z))⟩
  old := fun a o h n t => by
    have nc : ¬ cellOf X.env.cells a := fun z => by rw [fr a z] at h; cases h
    exact lessH_some.mpr ⟨fun z => nc (hcl a z), by rw [pinH_ne nc]; exact h⟩
  trk := fun a h => by
    by_cases z : cellOf X.env.cells a
    · exact fr a z
    · rcases lessH_none.mp h with q | q
      · exact absurd (hcl a q) z
      · rw [pinH_ne z] at q; exact q
  src := fun a h => h.1.imp id fun z => .inl (fr a z)
  new := fun a h => .inl h
theorem relM_pin (fr : freeL X H) (R : RelM X.K G ρ S H mem) : RelM X.K G ρ (plusS S X) (pinH X O H) mem := by
  have e := ext_pin (O := O) fr R
  have up : ∀ b o, H b = some o → pinH X O H b = some o := fun b o h => by
    rw [pinH_ne (fun z => by rw [fr b z] at h; cases h)]; exact h
  refine ⟨fun a h => ?_, fun n c h => ?_, fun a h z => ?_, R.len, R.nd, R.tabs.ext up (fun a h => .inl h)⟩
  · rcases h with h | h
    · cases q : H a with
      | none => exact absurd q (R.there a h)
      | some o => rw [up a o q]; simp
    · rw [pinH_at h]; simp
  · obtain ⟨a, h1, h2⟩ := R.cell n c h
    exact ⟨a, h1, h2.mono e R.out (fun o ho => up a o ho)⟩
  · rcases z with z | z
    · exact R.out a h z
    · exact rho_there R h (fr a z)
/-- on from a memory to a later one, both pinned -/
theorem ext_pins (e : Ext ρ S H ρ1 S1 H1) (fr : freeL X H1) (R1 : RelM X.K G ρ1 S1 H1 mem) : Ext ρ (plusS S X) (pinH X O H) ρ1 (plusS S1 X) (pinH X O H1) where
  pre := e.pre
  sub := fun a h => h.imp (e.sub a) id
  old := fun a o h n t => by
    by_cases z : cellOf X.env.cells a
    · rw [pinH_at z] at h ⊢; exact h
    · rw [pinH_ne z] at h ⊢; exact e.old a o h n t
  trk := fun a h => by
    by_cases z : cellOf X.env.cells a
    · rw [pinH_at z] at h; cases h
    · rw [pinH_ne z] at h ⊢; exact e.trk a h
  src := fun a h => by
    by_cases z : cellOf X.env.cells a
    · exact .inl (.inr z)
    · rcases h with h | h
      · rcases e.src a h with q | q | q
        · exact .inl (.inl q)
        · exact .inr (.inl (by rw [pinH_ne z]; exact q))
        · exact .inr (.inr q)
      · exact absurd h z
  new := fun a h => by
    have z : ¬ cellOf X.env.cells a := fun z => rho_there R1 h (fr a z)
    exact (e.new a h).imp id fun q => by rw [pinH_ne z]; exact q
end
end Vm
end
section
set_option Elab.async false
set_option linter.all false
set_option autoImplicit false
set_option maxRecDepth 100000
/-! SimV: lambdas among arguments; calls of values. -/
namespace Vm
open PySem PySem.Spec PyProof.Rows L2 LamX NdefX
/-! ### values without lambdas -/
section
variable {K : PySem.W.Frag} {G : Gc} {ρ : List Addr} {S : Addr → Prop} {H : Hp} {cl : List (Str × Addr)} {mem : Mem}
theorem lessH_up (hx : ∀ a, cellOf cl a → ∃ φ, H a = some (.ext φ)) {a : Addr} {o : HO} (h : H a = some o) (hn : ∀ φ, o ≠ .ext φ) : ¬ cellOf cl a ∧ lessH H cl a = some o := by
  have : ¬ cellOf cl a := fun z => by obtain ⟨φ, q⟩ := hx a z; rw [h] at q; cases q; exact hn φ rfl
  exact ⟨this, lessH_some.mpr ⟨this, h⟩⟩
theorem rd_up (hx : ∀ a, cellOf cl a → ∃ φ, H a = some (.ext φ)) {a : Addr} {o : HO} (h : Rd H a o) (hn : ∀ φ, o ≠ .ext φ) : ¬ cellOf cl a ∧ Rd (lessH H cl) a o := by
  rcases h with h | ⟨u, h⟩
  · obtain ⟨h1, h2⟩ := lessH_up hx h hn; exact ⟨h1, .inl h2⟩
  · obtain ⟨h1, h2⟩ := lessH_up hx h (fun φ z => by cases z); exact ⟨h1, .inr ⟨u, h2⟩⟩
mutual
theorem Rv.less (hx : ∀ a, cellOf cl a → ∃ φ, H a = some (.ext φ)) : ∀ (x : Va) (v : V), noClo x = true → Rv K G ρ S H x v → Rv K G ρ (lessS S cl) (lessH H cl) x v
  | .non, _, _, h => by simpa only [Rv] using h
  | .bl _, _, _, h => by simpa only [Rv] using h
  | .int _, _, _, h => by simpa only [Rv] using h
  | .str _, _, _, h => by simpa only [Rv] using h
  | .ty _, _, _, h => by simpa only [Rv] using h
  | .fn _, _, _, h => by simpa only [Rv] using h
  | .tup xs, _, p, h => by
    simp only [Rv] at h ⊢
    simp only [noClo] at p
    obtain ⟨a, vs, rfl, h1, h2⟩ := h
    obtain ⟨g1, g2⟩ := lessH_up hx h1.2 (fun φ z => by cases z)
    exact ⟨a, vs, rfl, ⟨⟨h1.1, g1⟩, g2⟩, Rvs.less hx xs vs p h2⟩
  | .lst xs, _, p, h => by
    simp only [Rv] at h ⊢
    simp only [noClo] at p
    obtain ⟨a, vs, rfl, h1, h2⟩ := h
    obtain ⟨g1, g2⟩ := lessH_up hx h1.2 (fun φ z => by cases z)
    exact ⟨a, vs, rfl, ⟨⟨h1.1, g1⟩, g2⟩, Rvs.less hx xs vs p h2⟩
  | .dct t kvs, _, p, h => by
    simp only [Rv] at h ⊢
    simp only [noClo] at p
    obtain ⟨a, rfl, h0, h⟩ := h
    rcases h with ⟨ht, ps, h1, h2⟩ | ⟨ht, ps, h1, h2⟩
    · obtain ⟨g1, g2⟩ := lessH_up hx h1 (fun φ z => by cases z)
      exact ⟨a, rfl, ⟨h0, g1⟩, .inl ⟨ht, ps, g2, RvK.less hx kvs ps p h2⟩⟩
    · obtain ⟨g1, g2⟩ := lessH_up hx h1 (fun φ z => by cases z)
      exact ⟨a, rfl, ⟨h0, g1⟩, .inr ⟨ht, ps, g2, RvT.less hx kvs ps p h2⟩⟩
  | .obj c fs, _, p, h => by
    simp only [Rv] at h ⊢
    simp only [noClo, Bool.and_eq_true, decide_eq_true_eq] at p
    obtain ⟨a, ps, rfl, h1, h3, h4⟩ := h
    obtain ⟨dx, h3⟩ := h3.plain p.1
    obtain ⟨g1, g2⟩ := lessH_up hx h3 (fun φ z => by cases z)
    exact ⟨a, ps, rfl, ⟨h1, g1⟩, .inl ⟨p.1, dx, g2⟩, RvF.less hx fs ps p.2 h4⟩
  | .ref n, _, p, h => by simpa only [Rv] using h
  | .scr xs, _, p, h => by
    simp only [Rv] at h ⊢
    obtain ⟨a, rfl, h1⟩ := h
    refine ⟨a, rfl, h1.imp (fun z => ?_) id⟩
    obtain ⟨g1, g2⟩ := rd_up hx z.2 (fun φ z => by cases z)
    exact ⟨⟨z.1, g1⟩, g2⟩
  | .wtp xs, _, p, h => by
    simp only [Rv] at h ⊢
    simp only [noClo] at p
    obtain ⟨a, vs, rfl, h1, h2⟩ := h
    exact ⟨a, vs, rfl, h1, Rvs.less hx xs vs p h2⟩
  | .clo l xs, _, p, h => by simp only [noClo] at p; cases p
theorem Rvs.less (hx : ∀ a, cellOf cl a → ∃ φ, H a = some (.ext φ)) : ∀ (xs : List Va) (vs : List V), noClos xs = true → Rvs K G ρ S H xs vs → Rvs K G ρ (lessS S cl) (lessH H cl) xs vs
  | [], _, _, h => by simpa only [Rvs] using h
  | x :: r, _, p, h => by
    simp only [Rvs] at h ⊢
    simp only [noClos, Bool.and_eq_true] at p
    obtain ⟨v, s, rfl, h1, h2⟩ := h
    exact ⟨v, s, rfl, Rv.less hx x v p.1 h1, Rvs.less hx r s p.2 h2⟩
theorem RvK.less (hx : ∀ a, cellOf cl a → ∃ φ, H a = some (.ext φ)) : ∀ (xs : List (Va × Va)) (vs : List (Key × V)), noCloK xs = true → RvK K G ρ S H xs vs → RvK K G ρ (lessS S cl) (lessH H cl) xs vs
  | [], _, _, h => by simpa only [RvK] using h
  | (k, x) :: r, _, p, h => by
    simp only [RvK] at h ⊢
    simp only [noCloK, Bool.and_eq_true] at p
    obtain ⟨q, v, s, rfl, h0, h1, h2⟩ := h
    exact ⟨q, v, s, rfl, h0, Rv.less hx x v p.1 h1, RvK.less hx r s p.2 h2⟩
theorem RvT.less (hx : ∀ a, cellOf cl a → ∃ φ, H a = some (.ext φ)) : ∀ (xs : List (Va × Va)) (vs : List (List Key × V)), noCloK xs = true → RvT K G ρ S H xs vs → RvT K G ρ (lessS S cl) (lessH H cl) xs vs
  | [], _, _, h => by simpa only [RvT] using h
  | (k, x) :: r, _, p, h => by
    simp only [RvT] at h ⊢
    simp only [noCloK, Bool.and_eq_true] at p
    obtain ⟨q, v, s, rfl, h0, h1, h2⟩ := h
    exact ⟨q, v, s, rfl, h0, Rv.less hx x v p.1 h1, RvT.less hx r s p.2 h2⟩
theorem RvF.less (hx : ∀ a, cellOf cl a → ∃ φ, H a = some (.ext φ)) : ∀ (xs : List (Sg × Va)) (vs : List (Str × V)), noCloF xs = true → RvF K G ρ S H xs vs → RvF K G ρ (lessS S cl) (lessH H cl) xs vs
  | [], _, _, h => by simpa only [RvF] using h
  | (k, x) :: r, _, p, h => by
    simp only [RvF] at h ⊢
    simp only [noCloF, Bool.and_eq_true] at p
    obtain ⟨v, s, rfl, h1, h2⟩ := h
    exact ⟨v, s, rfl, Rv.less hx x v p.1 h1, RvF.less hx r s p.2 h2⟩
end
theorem RvC.less (hx : ∀ a, cellOf cl a → ∃ φ, H a = some (.ext φ)) {a : Addr} : ∀ {c : Cell}, noCloC c = true → RvC K G ρ S H a c → RvC K G ρ (lessS S cl) (lessH H cl) a c
  | .lst xs, p, h => by
    obtain ⟨vs, h1, h2⟩ := h
    exact ⟨vs, (lessH_up hx h1 (fun φ z => by cases z)).2, Rvs.less hx _ _ p h2⟩
  | .dct t kvs, p, h => by
    rcases h with ⟨ht, ps, h1, h2⟩ | ⟨ht, ps, h1, h2⟩
    · exact .inl ⟨ht, ps, (lessH_up hx h1 (fun φ z => by cases z)).2, RvK.less hx _ _ p h2⟩
    · exact .inr ⟨ht, ps, (lessH_up hx h1 (fun φ z => by cases z)).2, RvT.less hx _ _ p h2⟩
  | .ins c fs, p, h => by
    obtain ⟨dx, ps, h1, h3⟩ := h
    exact ⟨dx, ps, (lessH_up hx h1 (fun φ z => by cases z)).2, RvF.less hx _ _ p h3⟩
  | .cel _, p, h => h.elim
theorem TabsS.less {T : List (Addr × Str)} (t : TabsS T S H) (hp : ∀ a, cellOf cl a → ∃ o u, H a = some (PinC a o) ∧ o.data = .cell u) : TabsS T (lessS S cl) (lessH H cl) := by
  have hx : ∀ a, cellOf cl a → ∃ φ, H a = some (.ext φ) := fun a z => by obtain ⟨o, u, h, _⟩ := hp a z; exact ⟨_, h⟩
  have nc : ∀ c q, H c = some (CodeO c q) → ¬ cellOf cl c := fun c q h z => by
    obtain ⟨o, u, h1, h2⟩ := hp c z
    rw [h] at h1; injection h1 with h1; exact codeO_pin h2 h1
  refine ⟨fun p hm => ?_, fun p hm ps pos c h1 h2 => ?_⟩
  · obtain ⟨ps, h1, h2, h3⟩ := t.1 p hm
    refine ⟨ps, (lessH_up hx h1 (fun φ z => by cases z)).2, h2, fun pos cv hc => ?_⟩
    obtain ⟨c, e1, e2⟩ := h3 pos cv hc
    exact ⟨c, e1, lessH_some.mpr ⟨nc c _ e2, e2⟩⟩
  · obtain ⟨_, h1⟩ := lessH_some.mp h1
    refine ⟨t.2 p hm ps pos c h1 h2, ?_⟩
    obtain ⟨ps', g1, _, g3⟩ := t.1 p hm
    rw [h1] at g1; cases g1
    obtain ⟨c', e1, e2⟩ := g3 pos _ h2
    cases e1
    exact nc c _ e2
theorem RelM.less (R : RelM K G ρ S H mem) (hm : noCloM mem = true) (hp : ∀ a, cellOf cl a → ∃ o u, H a = some (PinC a o) ∧ o.data = .cell u) : RelM K G ρ (lessS S cl) (lessH H cl) mem := by
  have hx : ∀ a, cellOf cl a → ∃ φ, H a = some (.ext φ) := fun a z => by obtain ⟨o, u, h, _⟩ := hp a z; exact ⟨_, h⟩
  refine ⟨fun a h => ?_, fun n c h => ?_, fun a h z => R.out a h z.1, R.len, R.nd, R.tabs.less hp⟩
  · rw [lessH_ne h.2]; exact R.there a h.1
  · obtain ⟨a, h1, h2⟩ := R.cell n c h
    unfold noCloM at hm
    rw [List.all_eq_true] at hm
    exact ⟨a, h1, RvC.less hx (hm c (List.mem_of_getElem? h)) h2⟩
end
end Vm
end
section
set_option Elab.async false
set_option linter.all false
set_option autoImplicit false
set_option maxRecDepth 100000
/-! SimW: arguments with lambdas, the call that takes them; a call of what a name holds. -/
namespace Vm
open PySem PySem.Spec PyProof.Rows L2 LamX NdefX
def RvL (X : Cx) (G : Gc) (σ : L2.St) : Rx Va V := fun ρ S H w v => freeL X H → ∀ O, MatO X σ O → Rv X.K G ρ (plusS S X) (pinH X O H) w v
def RvsL (X : Cx) (G : Gc) (σ : L2.St) : Rx (List Va) (List V) := fun ρ S H ws vs => freeL X H → ∀ O, MatO X σ O → Rvs X.K G ρ (plusS S X) (pinH X O H) ws vs
/-- an argument, arguments, lambdas among them -/
abbrev SEL (X : Cx) (G : Gc) (W : WX) (e : Expr) (f : Env → M Va) : Prop := PE X e fun σ H Q => tX X.K G (RvL X G σ) W f σ H Q
abbrev SAL (X : Cx) (G : Gc) (W : WX) (es : List Expr) (f : Env → M (List Va)) : Prop := PA X es fun σ H Q => tX X.K G (RvsL X G σ) W f σ H Q
section
variable {X : Cx} {G : Gc} {W : WX} {E : XK} {e : Expr} {es : List Expr} {f fe : Env → M Va} {fs : Env → M (List Va)} {pos p : Pos}
theorem sel_of (h : SE X G W e f) : SEL X G W e f :=
  PE.imp h fun σ H Q ⟨ρ, S, env, mem, R, hs⟩ => ⟨ρ, S, env, mem, R, by
    revert hs
    cases f env mem with
    | ok w m => exact fun hs ρ' S' H' v e R' r => hs ρ' S' H' v e R' fun fr O _ => Rv.mono (ext_pin fr R'.toRelM) R'.out _ _ r
    | er c fs m => exact fun hs => hs
    | no => exact fun hs => hs⟩
theorem sal_nil : SAL X G W [] aNil := PA.imp pa_nil fun σ H Q ⟨ρ, S, env, mem, R, h⟩ => h ρ S H [] Ext.refl R fun _ _ _ => by simp only [Rvs]
theorem RvL.mono {σ : L2.St} {ρ ρ1 : List Addr} {S S1 : Addr → Prop} {H H1 : Hp} {mem : Mem} {w : Va} {v : V} (ex : Ext ρ S H ρ1 S1 H1) (out : ∀ a ∈ ρ, ¬ S a) (there : ∀ a ∈ ρ, H a ≠ none) (R1 : RelM X.K G ρ1 S1 H1 mem) (h : RvL X G σ ρ S H w v) : RvL X G σ ρ1 S1 H1 w v := fun fr O hO => by
  have fr0 : freeL X H := fun a z => ex.trk a (fr a z)
  refine Rv.mono (ext_pins ex fr R1) (fun a ha z => ?_) _ _ (h fr0 O hO)
  rcases z with z | z
  · exact out a ha z
  · exact there a ha (fr0 a z)
theorem sal_cons (ha : SEL X G W e fe) (hr : SAL X G W es fs) (hs : starEach (e :: es) X.env = (false, eval e X.env) :: starEach es X.env := by rfl) : SAL X G W (e :: es) (aCons fe fs) :=
  PA.imp (pa_cons ha hr hs) fun σ H Q ⟨ρ, S, env, mem, R, h⟩ =>
    tX.of R ((Sat.bind (rel := RvL X G σ) h).imp fun v H1 ⟨ρ1, S1, w, m1, e1, R1, r1, h1⟩ =>
      tX.of R1 ((Sat.bind (rel := RvsL X G σ) h1).imp fun vs H2 ⟨ρ2, S2, ws, m2, e2, R2, r2, h2⟩ =>
        h2 ρ2 S2 H2 (v :: vs) Ext.refl R2 fun fr O hO => rvs_cons (RvL.mono e2 R1.out (fun a ha => rho_there R1.toRelM ha) R2.toRelM r1 fr O hO) (r2 fr O hO)))
theorem mapO_at {α β : Type} {g : α → Option β} : ∀ {l : List α} {ys : List β} {i : Nat} {y : β}, mapO g l = some ys → ys[i]? = some y → ∃ a, l[i]? = some a ∧ g a = some y
  | [], ys, i, y, h, hy => by rw [mapO_nil h] at hy; simp at hy
  | x :: r, ys, i, y, h, hy => by
    obtain ⟨z, s, h1, h2, rfl⟩ := mapO_cons h
    cases i with
    | zero => simp at hy; subst hy; exact ⟨x, rfl, h1⟩
    | succ i => simp at hy; exact mapO_at (l := r) (i := i) h2 hy
theorem mapO_len {α β : Type} {g : α → Option β} : ∀ {l : List α} {ys : List β}, mapO g l = some ys → ys.length = l.length
  | [], ys, h => by rw [mapO_nil h]; rfl
  | x :: r, ys, h => by
    obtain ⟨z, s, h1, h2, rfl⟩ := mapO_cons h
    rw [List.length_cons, List.length_cons, mapO_len h2]
/-- slots by number -/
theorem slots_rvs {K : PySem.W.Frag} {ρ : List Addr} {S : Addr → Prop} {H : Hp} {env : Env} {mem : Mem} {σ : L2.St} (R : Rel K G ρ S H env mem σ) : ∀ {js : List Nat} {xs : List Va}, mapO (fun (j : Nat) => env[j]?.join) js = some xs →
    ∃ vs : List V, Rvs K G ρ S H xs vs ∧ vs.length = js.length ∧ ∀ (i j : Nat), js[i]? = some j → ∃ v, vs[i]? = some v ∧ σ[j]? = some (some v)
  | [], xs, h => by rw [mapO_nil h]; exact ⟨[], by simp only [Rvs], rfl, fun i j h => by simp at h⟩
  | j :: js, xs, h => by
    obtain ⟨z, s, h1, h2, rfl⟩ := mapO_cons h
    obtain ⟨vs, g1, g2, g3⟩ := slots_rvs R h2
    have h1' : env[j]? = some (some z) := by
      cases q : env[j]? with
      | none => rw [q] at h1; cases h1
      | some o => rw [q] at h1; cases o with
        | none => cases h1
        | some o => cases h1; rfl
    obtain ⟨v, k1, k2⟩ := R.slot j z h1'
    refine ⟨v :: vs, rvs_cons k2 g1, by rw [List.length_cons, List.length_cons, g2], fun i j' h => ?_⟩
    cases i with
    | zero => simp at h; subst h; exact ⟨v, rfl, k1⟩
    | succ i => simp at h; obtain ⟨u, u1, u2⟩ := g3 i j' h; exact ⟨u, by simpa using u1, u2⟩
/-- the memory behind the making of a lambda -/
theorem rel_lam {K : PySem.W.Frag} {ρ : List Addr} {S S2 : Addr → Prop} {H H2 : Hp} {env : Env} {mem : Mem} {σ : L2.St} (R : Rel K G ρ S H env mem σ) (ex : Ext ρ S H ρ S2 H2) (up : ∀ a o, H a = some o → (∀ ps, o ≠ .tbl ps) → H2 a = some o) (t : TabsS G.T S2 H2)
    (th : ∀ a, S2 a → H2 a ≠ none) (out : ∀ a ∈ ρ, ¬ S2 a) : Rel K G ρ S2 H2 env mem σ := by
  refine ⟨⟨th, fun n c h => ?_, out, R.len, R.nd, t⟩, fun i x h => ?_, R.size⟩
  · obtain ⟨a, h1, h2⟩ := R.cell n c h
    obtain ⟨o, k1, k2⟩ := cell_at R.toRelM (List.mem_of_getElem? h1)
    exact ⟨a, h1, h2.mono ex R.out fun o' ho => by rw [k1] at ho; cases ho; exact up a o k1 k2⟩
  · obtain ⟨v, h1, h2⟩ := R.slot i x h
    exact ⟨v, h1, Rv.mono ex R.out _ _ h2⟩
theorem cloFrom_none {cells : List (Str × Addr)} : ∀ {ns : List (Str × NameKind)}, ns.all (fun y => !(y.2 == .free)) = true → cloFrom cells ns [] = []
  | [], _ => rfl
  | (n, k) :: r, h => by
    simp only [List.all_cons, Bool.and_eq_true, Bool.not_eq_true'] at h
    show (if (k == .free) = true then _ else cloFrom cells r []) = _
    rw [h.1, if_neg (by simp)]
    exact cloFrom_none h.2
theorem lam_core {D : LamD} {c P : Addr} {pins : List (Addr × Obj)} {s : Shared} {σ : L2.St} {H : Hp} {ρ : List Addr} {S : Addr → Prop} {env : Env} {mem : Mem} {Q : VK} (I : Inv X pins σ H s) (R : Rel X.K G ρ S H env mem σ) (TB : TabB X.base X.mg c P) (hcode : X.env.code = .ref c) (hq : D.qual = X.env.qual ++ "<lambda>") (hm : (P, D.qual) ∈ G.T) (hu : ∀ p ∈ G.T, p.1 = P → p.2 = D.qual)
    (hdef : defaultsOf D.params X.env = ([], [])) (hfree' : ∀ y ∈ D.scope.names, y.2 = .free → ∃ c, X.env.cells.lookup y.1 = some c)
    (fin : ∀ (f c' : Addr) (H2 : Hp) (s' : Shared), Inv X pins σ H2 s' → H f = none → (H c' = none ∨ S c') → (∀ a o, H a = some o → (∀ ps, o ≠ .tbl ps) → H2 a = some o) → (∀ a, H2 a = none → H a = none) →
        TabsS G.T (fun a => S a ∨ a = f ∨ a = c') H2 → H2 f = some (CloO f D (cloFrom X.env.cells D.scope.names []) c') → H2 c' = some (CodeO c' D.qual) → EP X pins σ Q (.ref f) s') :
    wpAny (model X.prog X.w) X.A (eval (.Lambda D.params D.body D.scope pos) X.env) (EP X pins σ Q) X.xe s := by
  obtain ⟨ps, hP, ht, ha⟩ := (show TabS H P D.qual from R.tabs.1 _ hm)
  have hS : ∀ pos c, H P = some (.tbl ps) → codeAmong pos ps.toList = some (.ref c) → S c := R.tabs.2 _ hm ps
  have bP : s.heap.BuiltinsAt X.mg P := TB.bm.keeps I.bk
  have hP' : s.heap.get? P = some { cls := .none, data := .fields ps } := I.hok P _ hP
  refine PySem.W.kla_eval hdef ?_
  rw [← hq]
  cases hc : codeAmong pos ps.toList with
  | none =>
    refine PySem.W.kla_makeFunction (mg := X.mg) (c := c) (P := P) (ps := ps) (closure_ok hfree') I.ok.glob (I.mod.glob.keeps I.bk) hcode (TB.code.keeps I.bk) hP' ht hc TB.gP bP fun c' ctv h' tk hx hge hlt hrec htb => ?_
    obtain ⟨c2, oc, us, t, e2, hoc, hd, hv⟩ := hrec
    cases e2
    have nC : H c' = none := I.hok.fresh hge
    have I1 := inv_table (t' := tk) (more := #[rawInt pos.line, rawInt pos.col, .ref c']) (h' := h') I hP (fun b o hb e => hx b o hb e) htb hge ⟨oc, us, t, hoc, hd, hv⟩
    have nF := I1.hok.fresh (Nat.le_refl h'.objs.size)
    have I2 := I1.laid (t' := tk) (a := h'.objs.size) (o := CloO h'.objs.size D (cloFrom X.env.cells D.scope.names []) c') (h' := h'.push (PySem.W.kla_obj "<lambda>" D.qual D.params D.body D.scope (cloFrom X.env.cells D.scope.names []) ((X.mg "__name__").getD .none) c' ctv))
      (fun b u e => Heap.get?_push_of_some _ e) (Nat.le_refl _) ⟨⟨_, _, Heap.get?_push_size _ rfl⟩, ⟨_, Heap.get?_push_size _ rfl⟩, fun h1 h2 ⟨p1, p2, z⟩ st => ⟨p1, p2, st _ z⟩⟩
    have nPc : P ≠ c' := ne_of_none hP nC
    have eL : (ps ++ #[rawInt pos.line, rawInt pos.col, .ref c']).toList = ps.toList ++ [rawInt pos.line, rawInt pos.col, .ref c'] := by simp
    have nfP : P ≠ h'.objs.size := ne_of_none (o := .tbl (ps ++ #[rawInt pos.line, rawInt pos.col, .ref c'])) (show upd (upd H P (.tbl (ps ++ #[rawInt pos.line, rawInt pos.col, .ref c']))) c' (CodeO c' D.qual) P = _ by rw [upd_ne nPc, upd_same]) nF
    have up : ∀ a o, H a = some o → (∀ ps, o ≠ .tbl ps) → upd (upd (upd H P (.tbl (ps ++ #[rawInt pos.line, rawInt pos.col, .ref c']))) c' (CodeO c' D.qual)) h'.objs.size (CloO h'.objs.size D (cloFrom X.env.cells D.scope.names []) c') a = some o := fun a o e n => by
      have e1 : upd (upd H P (.tbl (ps ++ #[rawInt pos.line, rawInt pos.col, .ref c']))) c' (CodeO c' D.qual) a = some o := by
        rw [upd_ne (ne_of_none e nC), upd_ne (fun z => n ps (Option.some.inj (e.symm.trans (by rw [z]; exact hP))))]; exact e
      rw [upd_ne (ne_of_none e1 nF)]; exact e1
    have atP : upd (upd (upd H P (.tbl (ps ++ #[rawInt pos.line, rawInt pos.col, .ref c']))) c' (CodeO c' D.qual)) h'.objs.size (CloO h'.objs.size D (cloFrom X.env.cells D.scope.names []) c') P = some (.tbl (ps ++ #[rawInt pos.line, rawInt pos.col, .ref c'])) := by
      rw [upd_ne nfP, upd_ne nPc, upd_same]
    have ncf : c' ≠ h'.objs.size := Nat.ne_of_lt hlt
    have atC : upd (upd (upd H P (.tbl (ps ++ #[rawInt pos.line, rawInt pos.col, .ref c']))) c' (CodeO c' D.qual)) h'.objs.size (CloO h'.objs.size D (cloFrom X.env.cells D.scope.names []) c') c' = some (CodeO c' D.qual) := by
      rw [upd_ne ncf, upd_same]
    have other : ∀ a ps', a ≠ P → H a = some (.tbl ps') → upd (upd (upd H P (.tbl (ps ++ #[rawInt pos.line, rawInt pos.col, .ref c']))) c' (CodeO c' D.qual)) h'.objs.size (CloO h'.objs.size D (cloFrom X.env.cells D.scope.names []) c') a = some (.tbl ps') := fun a ps' h1 h2 => by
      have e1 : upd (upd H P (.tbl (ps ++ #[rawInt pos.line, rawInt pos.col, .ref c']))) c' (CodeO c' D.qual) a = some (.tbl ps') := by rw [upd_ne (ne_of_none h2 nC), upd_ne h1]; exact h2
      rw [upd_ne (ne_of_none e1 nF)]; exact e1
    refine fin h'.objs.size c' _ _ I2 (I.hok.fresh (Nat.le_trans hge (Nat.le_of_lt hlt))) (.inl nC) up (fun a e => upd_none (upd_none (upd_none e))) ⟨fun p hp => ?_, fun p hp ps' pos' d h1 h2 => ?_⟩ upd_same atC
    · by_cases hb : p.1 = P
      · rw [hu p hp hb, hb]
        refine ⟨_, atP, by rw [eL]; exact PySem.TriplesOk_snoc _ _ _ _ ht, fun p' cv hcv => ?_⟩
        rw [eL] at hcv
        rcases among_app _ ht hcv with z | z
        · obtain ⟨c0, e1, e2⟩ := ha p' cv z
          exact ⟨c0, e1, up _ _ e2 codeO_ne⟩
        · exact ⟨c', z, atC⟩
      · obtain ⟨ps', a1, a2, a3⟩ := R.tabs.1 p hp
        refine ⟨ps', other _ _ hb a1, a2, fun p' cv hcv => ?_⟩
        obtain ⟨c0, e1, e2⟩ := a3 p' cv hcv
        exact ⟨c0, e1, up _ _ e2 codeO_ne⟩
    · by_cases hb : p.1 = P
      · rw [hb, atP] at h1
        injection h1 with h1
        injection h1 with h1
        subst h1
        rw [eL] at h2
        rcases among_app _ ht h2 with z | z
        · exact .inl (hS pos' d hP z)
        · cases z; exact .inr (.inr rfl)
      · obtain ⟨ps2, a1, a2, a3⟩ := R.tabs.1 p hp
        rw [other _ _ hb a1] at h1
        cases h1
        exact .inl (R.tabs.2 p hp _ pos' d a1 h2)
  | some cv =>
    obtain ⟨c', e, hco⟩ := ha pos cv hc
    subst e
    refine PySem.W.kla_makeFunctionHit (mg := X.mg) (c := c) (P := P) (ps := ps) (closure_ok hfree') I.ok.glob (I.mod.glob.keeps I.bk) hcode (TB.code.keeps I.bk) hP' ht hc bP fun ctv h' tk hx hsz => ?_
    have I1 : Inv X pins σ H { s with heap := h', toks := tk } := I.kept hx
    have nF : H h'.objs.size = none := I1.hok.fresh (Nat.le_refl _)
    have I2 := I1.laid (t' := tk) (a := h'.objs.size) (o := CloO h'.objs.size D (cloFrom X.env.cells D.scope.names []) c') (h' := h'.push (PySem.W.kla_obj "<lambda>" D.qual D.params D.body D.scope (cloFrom X.env.cells D.scope.names []) ((X.mg "__name__").getD .none) c' ctv))
      (fun b u e => Heap.get?_push_of_some _ e) (Nat.le_refl _) ⟨⟨_, _, Heap.get?_push_size _ rfl⟩, ⟨_, Heap.get?_push_size _ rfl⟩, fun h1 h2 ⟨p1, p2, z⟩ st => ⟨p1, p2, st _ z⟩⟩
    have up : ∀ a o, H a = some o → upd H h'.objs.size (CloO h'.objs.size D (cloFrom X.env.cells D.scope.names []) c') a = some o := fun a o e => by rw [upd_ne (ne_of_none e nF)]; exact e
    exact fin h'.objs.size c' _ _ I2 nF (.inr (hS pos c' hP hc)) (fun a o e _ => up a o e) (fun a e => upd_none e) (R.tabs.ext up (fun a z => .inl z)) upd_same (up _ _ hco)
theorem sel_lam {l : Nat} {js : List Nat} {D : LamD} {c P : Addr} (hD : G.lam l = D) (TB : TabB X.base X.mg c P) (hcode : X.env.code = .ref c) (hq : D.qual = X.env.qual ++ "<lambda>") (hm : (P, D.qual) ∈ G.T) (hu : ∀ p ∈ G.T, p.1 = P → p.2 = D.qual)
    (hdef : defaultsOf D.params X.env = ([], [])) (hfree : ∀ y ∈ D.scope.names, y.2 = .free → X.env.scope.names.lookup y.1 = some .cell ∨ X.env.scope.names.lookup y.1 = some .free) (hfr : ∀ y ∈ D.fr, (y, NameKind.free) ∈ D.scope.names)
    (hjs : js.map (fun j => X.N[j]?) = D.fr.map some) (hnil : D.fr = [] → D.scope.names.all (fun y => !(y.2 == .free)) = true := by decide +kernel) : SEL X G W (.Lambda D.params D.body D.scope pos) (eClo l js) := by
  refine ⟨fun pins s σ H Q I ⟨ρ, S, env, mem, R, h⟩ => ?_⟩
  unfold eClo at h
  cases q : mapO (fun (j : Nat) => env[j]?.join) js with
  | none => rw [q] at h; exact h.elim
  | some xs =>
    rw [q] at h
    have h : Sat X.K G (RvL X G σ) ρ S env σ H W Q (.ok (.clo l xs) mem) := h
    obtain ⟨vs, rvs, vl, vat⟩ := slots_rvs R q
    have hfree' : ∀ y ∈ D.scope.names, y.2 = .free → ∃ c, X.env.cells.lookup y.1 = some c := fun y hy e => (hfree y hy e).elim (fun z => I.ok.has _ (.inl z)) fun z => I.ok.has _ (.inr z)
    have cp : Caps X (cloFrom X.env.cells D.scope.names []) D.fr js := Caps.made I.ok hfree hfr hjs
    have sub : ∀ a, cellOf (cloFrom X.env.cells D.scope.names []) a → cellOf X.env.cells a := fun a ⟨y, e⟩ => ⟨y, cp.sub y a e⟩
    have jl : js.length = D.fr.length := by have := congrArg List.length hjs; simpa using this
    have fin : ∀ (f c' : Addr) (H2 : Hp) (s' : Shared), Inv X pins σ H2 s' → H f = none → (H c' = none ∨ S c') → (∀ a o, H a = some o → (∀ ps, o ≠ .tbl ps) → H2 a = some o) → (∀ a, H2 a = none → H a = none) →
        TabsS G.T (fun a => S a ∨ a = f ∨ a = c') H2 → H2 f = some (CloO f D (cloFrom X.env.cells D.scope.names []) c') → H2 c' = some (CodeO c' D.qual) → EP X pins σ Q (.ref f) s' := by
      intro f c' H2 s' I2 nf nc up tr T2 hf2 hc2
      have ex : Ext ρ S H ρ (fun a => S a ∨ a = f ∨ a = c') H2 := ⟨⟨[], by simp⟩, fun a h => .inl h, fun a o h _ t => up a o h t, tr, fun a h => by
          rcases h with h | rfl | rfl
          · exact .inl h
          · exact .inr (.inl nf)
          · exact nc.elim (fun z => .inr (.inl z)) .inl, fun a h => .inl h⟩
      have th : ∀ a, (S a ∨ a = f ∨ a = c') → H2 a ≠ none := fun a h => by
        rcases h with h | rfl | rfl
        · exact fun z => R.there a h (tr a z)
        · rw [hf2]; simp
        · rw [hc2]; simp
      have out : ∀ a ∈ ρ, ¬ (S a ∨ a = f ∨ a = c') := fun a ha z => by
        rcases z with z | rfl | rfl
        · exact R.out a ha z
        · exact rho_there R.toRelM ha nf
        · exact nc.elim (fun z => rho_there R.toRelM ha z) (fun z => R.out _ ha z)
      have R2 := rel_lam R ex up T2 th out
      refine ⟨.ref f, H2, I2, rfl, h ρ _ H2 (.ref f) ex R2 fun fr O hO => ?_⟩
      have frH : freeL X H := fun a z => tr a (fr a z)
      have ncl : ∀ a o, H2 a = some o → ¬ cellOf X.env.cells a := fun a o e z => by rw [fr a z] at e; cases e
      simp only [Rv]
      refine ⟨f, cloFrom X.env.cells D.scope.names [], c', vs, rfl, .inl (.inr (.inl rfl)), by rw [pinH_ne (ncl f _ hf2), hD]; exact hf2, .inl (.inr (.inr rfl)), by rw [pinH_ne (ncl c' _ hc2), hD]; exact hc2, ?_, ?_⟩
      · rw [hD]
        refine ⟨fun a z => ⟨.inr (sub a z), ?_⟩, fun x y a e1 e2 => I.ok.inj x y a (cp.sub x a e1) (cp.sub y a e2), by rw [vl, jl], fun z => cloFrom_none (hnil z), fun i y e => ?_⟩
        · obtain ⟨y, e⟩ := sub a z
          obtain ⟨u, h1, _⟩ := hO y a e
          exact ⟨O a, u, pinH_at ⟨y, e⟩, h1⟩
        · have e2 : (js.map fun j => X.N[j]?)[i]? = some (some y) := by rw [hjs, List.getElem?_map, e]; rfl
          rw [List.getElem?_map] at e2
          cases ej : js[i]? with
          | none => rw [ej] at e2; cases e2
          | some j =>
            rw [ej] at e2
            have hj : X.N[j]? = some y := Option.some.inj e2
            have kd := cp.kin y (List.mem_of_getElem? e)
            obtain ⟨a, ha⟩ : ∃ a, X.env.cells.lookup y = some a := kd.elim (fun z => I.ok.has y (.inl z)) fun z => I.ok.has y (.inr z)
            obtain ⟨v, g1, g2⟩ := vat i j ej
            obtain ⟨u, h1, h2⟩ := hO y a ha
            obtain ⟨u', h3, h4⟩ := h2 j v kd hj g2
            subst h3
            exact ⟨a, v, O a, u', cp.sup y (List.mem_of_getElem? e) a ha, g1, pinH_at ⟨y, ha⟩, h1, h4⟩
      · exact Rvs.mono (ex.trans (ext_pinless sub fr R2.toRelM)) R.out _ _ rvs
    exact lam_core I R TB hcode hq hm hu hdef hfree' fin
end
end Vm
end
section
set_option Elab.async false
set_option linter.all false
set_option autoImplicit false
set_option maxRecDepth 100000
/-! SimX: calls that take lambdas; calls of what a name holds. -/
namespace Vm
open PySem PySem.Spec PyProof.Rows L2 LamX NdefX
section
variable {X : Cx} {G : Gc} {E : XK} {e : Expr} {es : List Expr} {fs : Env → M (List Va)} {pos p : Pos} {k i : Nat} {f : Addr} {fd : FuncData} {ps : List Str} {m : List Va → M Va} {x : Str}
theorem XAt.less {K : PySem.W.Frag} {ρ : List Addr} {S : Addr → Prop} {H : Hp} {cl : List (Str × Addr)} {gs : List (Sg × Va)} (hx : ∀ a, cellOf cl a → ∃ φ, H a = some (.ext φ)) (hn : noCloF gs = true) : ∀ {d : Option Addr}, XAt K G ρ S H gs d → XAt K G ρ (lessS S cl) (lessH H cl) gs d
  | none, h => h
  | some d, ⟨ps, h1, h2⟩ => ⟨ps, (lessH_up hx h1 (fun φ z => by cases z)).2, RvF.less hx gs ps hn h2⟩
/-- from behind the call, the pins away -/
theorem ext_unpin {ρ ρ1 : List Addr} {S S1 : Addr → Prop} {H H1 : Hp} {O : Addr → Obj} {mem : Mem} (fr : freeL X H) (R : RelM X.K G ρ S H mem) (e : Ext ρ (plusS S X) (pinH X O H) ρ1 S1 H1) : Ext ρ S H ρ1 (lessS S1 X.env.cells) (lessH H1 X.env.cells) where
  pre := e.pre
  sub := fun a h => ⟨e.sub a (.inl h), fun z => R.there a h (fr a z)⟩
  old := fun a o h n t => by
    have nc : ¬ cellOf X.env.cells a := fun z => by rw [fr a z] at h; cases h
    exact lessH_some.mpr ⟨nc, e.old a o (by rw [pinH_ne nc]; exact h) n t⟩
  trk := fun a h => by
    by_cases z : cellOf X.env.cells a
    · exact fr a z
    · rw [lessH_ne z] at h
      have := e.trk a h
      rw [pinH_ne z] at this; exact this
  src := fun a h => by
    rcases e.src a h.1 with (q | q) | q | q
    · exact .inl q
    · exact absurd q h.2
    · rw [pinH_ne h.2] at q; exact .inr (.inl q)
    · exact .inr (.inr q)
  new := fun a h => by
    rcases e.new a h with q | q
    · exact .inl q
    · by_cases z : cellOf X.env.cells a
      · rw [pinH_at z] at q; cases q
      · rw [pinH_ne z] at q; exact .inr q
theorem sim_callL (F : Fn X.prog X.w X.K X.mg X.base G k f fd ps m) (tk : Takes X (WF E)) (hr : Room k X.A) (hfn : ∀ y, X.fn y = true) (hm : X.mg x = some (.ref f)) (ha : SAL X G (WF E) (e :: es) fs) (hg : Gl X x := by rfl)
    (hdb : (x == ("__debug__" : Str)) = false := by decide) (he : starEach (e :: es) X.env = (false, eval e X.env) :: starEach es X.env := by rfl) (hpl : (backTo pos (starEach es X.env)).any (·.1) = false := by rfl) :
    SE X G (WF E) (.Call (.Name x p) (e :: es) [] pos) (eCall (unpinM (lenM ps.length m)) fs) := by
  refine ⟨fun pins s σ H Q I ⟨ρ, S, env, mem, R, h⟩ => ?_⟩
  refine wpAny_Call_Name_kw (ld_glob I hg hm ?_ hdb)
  have h' := Sat.bind (rel := RvsL X G σ) h
  refine PySem.W.callWith_K (h₀ := X.base) I.ok.mod.kin F.kp (thn (ha.run pos pins s σ H _ I ⟨ρ, S, env, mem, R, h'⟩) fun us s1 ⟨vs, H1, I1, r, ρ1, S1, ws, m1, e1, R1, r1, h1⟩ => ⟨I1.kIn, ?_⟩) he hpl
  refine run_pin F.ok hr F.bd (passesF tk) hfn I1 r fun O hO => ?_
  replace h1 : Sat X.K G (Rv X.K G) ρ1 S1 env σ H1 (WF E) Q (unpinM (lenM ps.length m) ws m1) := h1
  have fr := freeL_of I1
  have r2 := r1 fr O hO
  have RP := relM_pin (O := O) fr R1.toRelM
  refine ⟨ρ1, plusS S1 X, ws, m1, RP, r2, ?_, ?_⟩
  · by_cases hn : ws.length = ps.length
    · rw [rvs_length r2, hn]
    · exfalso
      have z : unpinM (lenM ps.length m) ws m1 = .no := by unfold unpinM lenM; rw [if_neg hn]; rfl
      rw [z] at h1; exact h1.elim
  · have hl : ws.length = ps.length := by
      by_cases hn : ws.length = ps.length
      · exact hn
      · exfalso
        have z : unpinM (lenM ps.length m) ws m1 = .no := by unfold unpinM lenM; rw [if_neg hn]; rfl
        rw [z] at h1; exact h1.elim
    have z : lenM ps.length m ws m1 = m ws m1 := by unfold lenM; rw [if_pos hl]
    have h2 : Sat X.K G (Rv X.K G) ρ1 S1 env σ H1 (WF E) Q (unpinM (lenM ps.length m) ws m1) := h1
    unfold unpinM at h2
    rw [z] at h2
    have keep : ∀ {ρ' S' H'}, Ext ρ1 (plusS S1 X) (pinH X O H1) ρ' S' H' → ∀ a, cellOf X.env.cells a → H' a = some (PinC a (O a)) := fun {ρ' S' H'} ex a ha =>
      ex.stay RP.out (.inr ha) (pinH_at ha) (fun ps => pinC_ne ps)
    have pinned : ∀ {ρ' S' H'}, Ext ρ1 (plusS S1 X) (pinH X O H1) ρ' S' H' → ∀ a, cellOf X.env.cells a → ∃ o u, H' a = some (PinC a o) ∧ o.data = .cell u := fun {ρ' S' H'} ex a ha => by
      obtain ⟨y, hy⟩ := ha
      obtain ⟨u, h3, _⟩ := hO y a hy
      exact ⟨O a, u, keep ex a ⟨y, hy⟩, h3⟩
    cases q : m ws m1 with
    | ok w m2 =>
      rw [q] at h2
      simp only [] at h2
      split at h2
      · rename_i hc
        rw [Bool.and_eq_true] at hc
        intro ρ' S' H' v ex R' rv
        have hx : ∀ a, cellOf X.env.cells a → ∃ φ, H' a = some (.ext φ) := fun a ha => ⟨_, keep ex a ha⟩
        have e2 := ext_unpin fr R1.toRelM ex
        have R2 := R'.less (cl := X.env.cells) hc.2 (pinned ex)
        exact ⟨keep ex, h2 ρ' _ _ v e2 (R1.lift e2 R2) (Rv.less hx _ _ hc.1 rv)⟩
      · exact h2.elim
    | er c gs m2 =>
      rw [q] at h2
      simp only [] at h2
      split at h2
      · rename_i hc
        rw [Bool.and_eq_true] at hc
        intro ρ' S' H' d ex R' xa
        have hx : ∀ a, cellOf X.env.cells a → ∃ φ, H' a = some (.ext φ) := fun a ha => ⟨_, keep ex a ha⟩
        have e2 := ext_unpin fr R1.toRelM ex
        have R2 := R'.less (cl := X.env.cells) hc.2 (pinned ex)
        exact ⟨keep ex, h2 ρ' _ _ d e2 (R1.lift e2 R2) (XAt.less hx hc.1 xa)⟩
      · exact h2.elim
    | no => rw [q] at h2; exact h2.elim
/-! ### a call of what a name holds -/

/-- how app calls values: those that can have -/
structure Disp (P : Program) (w : World) (K : PySem.W.Frag) (mg : Str → Option Value) (base : Heap) (G : Gc) (k : Nat) (can : Va → Bool) (app : Va → List Va → M Va) : Prop where
  fn : ∀ j, can (.fn j) = true → ∃ fd ps m, Fn P w K mg base G k (G.fa j) fd ps m ∧ ∀ ws, app (.fn j) ws = lenM ps.length m ws
  clo : ∀ l xs, can (.clo l xs) = true → ∃ m, LamOk P w K mg base G k (G.lam l) m ∧ ∀ ws, app (.clo l xs) ws = cloM (G.lam l).ps.length (m xs) ws
  other : ∀ x, can x = true → (∃ j, x = .fn j) ∨ ∃ l xs, x = .clo l xs
theorem ext_plus {K : PySem.W.Frag} {ρ ρ1 : List Addr} {S S1 : Addr → Prop} {H H1 : Hp} {cl : List (Str × Addr)} {mem : Mem} (hs : ∀ a, cellOf cl a → S a) (e : Ext ρ (lessS S cl) (lessH H cl) ρ1 S1 H1) (hn : ∀ a, cellOf cl a → H1 a = none) (R1 : RelM K G ρ1 S1 H1 mem) :
    Ext ρ S H ρ1 (fun a => S1 a ∨ cellOf cl a) (plusH H H1 cl) where
  pre := e.pre
  sub := fun a h => by
    by_cases z : cellOf cl a
    · exact .inr z
    · exact .inl (e.sub a ⟨h, z⟩)
  old := fun a o h n t => by
    by_cases z : cellOf cl a
    · rw [plusH_at z]; exact h
    · rw [plusH_ne z]; exact e.old a o (lessH_some.mpr ⟨z, h⟩) n t
  trk := fun a h => by
    by_cases z : cellOf cl a
    · rw [plusH_at z] at h; exact h
    · rw [plusH_ne z] at h
      exact (lessH_none.mp (e.trk a h)).elim (fun q => absurd q z) id
  src := fun a h => by
    by_cases z : cellOf cl a
    · exact .inl (hs a z)
    · rcases h with h | h
      · rcases e.src a h with q | q | q
        · exact .inl q.1
        · exact (lessH_none.mp q).elim (fun w => absurd w z) fun w => .inr (.inl w)
        · exact .inr (.inr q)
      · exact absurd h z
  new := fun a h => by
    rcases e.new a h with q | q
    · exact .inl q
    · by_cases z : cellOf cl a
      · exact absurd (hn a z) (rho_there R1 h)
      · exact (lessH_none.mp q).elim (fun w => absurd w z) .inr
theorem RelM.up {K : PySem.W.Frag} {ρ : List Addr} {S S1 : Addr → Prop} {H H1 : Hp} {mem : Mem} (R : RelM K G ρ S H mem) (e : Ext ρ S H ρ S1 H1) (up : ∀ a o, H a = some o → H1 a = some o) (th : ∀ a, S1 a → H1 a ≠ none) (out : ∀ a ∈ ρ, ¬ S1 a) : RelM K G ρ S1 H1 mem :=
  ⟨th, fun n c h => by
    obtain ⟨a, h1, h2⟩ := R.cell n c h
    exact ⟨a, h1, h2.mono e R.out (up a)⟩, out, R.len, R.nd, R.tabs.ext up e.sub⟩
theorem ext_plus2 {K : PySem.W.Frag} {ρ : List Addr} {S : Addr → Prop} {H H1 : Hp} {cl : List (Str × Addr)} (hn : ∀ a, cellOf cl a → H1 a = none) : Ext ρ S H1 ρ (fun a => S a ∨ cellOf cl a) (plusH H H1 cl) where
  pre := ⟨[], by simp⟩
  sub := fun a h => .inl h
  old := fun a o h n t => by
    rw [plusH_ne (fun z => by rw [hn a z] at h; cases h)]; exact h
  trk := fun a h => by
    by_cases z : cellOf cl a
    · exact hn a z
    · rw [plusH_ne z] at h; exact h
  src := fun a h => h.imp id fun z => .inl (hn a z)
  new := fun a h => .inl h
/-- what a closure's call wants -/
theorem clo_ok {K : PySem.W.Frag} {ρ : List Addr} {S : Addr → Prop} {H : Hp} {env : Env} {mem : Mem} {σ : L2.St} {D : LamD} {cl : List (Str × Addr)} {xs ys : List Va} {ws vs : List V} {mm : List Va → List Va → M Va} {Q : VK}
    (R : Rel K G ρ S H env mem σ) (hp : Pins S H cl D.fr ws) (rx : Rvs K G ρ (lessS S cl) (lessH H cl) xs ws) (ry : Rvs K G ρ S H ys vs) (h : Sat K G (Rv K G) ρ S env σ H (WF E) Q (cloM D.ps.length (mm xs) ys mem)) :
    spL K G D.ps.length mm ws vs (lessH H cl) (fun v H1 => (∀ a, cellOf cl a → H1 a = none) → Q v (plusH H H1 cl)) (fun z d H1 => (∀ a, cellOf cl a → H1 a = none) → E z d (plusH H H1 cl)) := by
  unfold cloM at h
  split at h
  · rename_i hc
    obtain ⟨h1, h2, h3⟩ := hc
    have pp : ∀ a, cellOf cl a → ∃ o u, H a = some (PinC a o) ∧ o.data = .cell u := fun a z => (hp.all a z).2
    have hx : ∀ a, cellOf cl a → ∃ φ, H a = some (.ext φ) := fun a z => by obtain ⟨o, u, g, _⟩ := pp a z; exact ⟨_, g⟩
    refine ⟨ρ, lessS S cl, xs, ys, mem, R.toRelM.less h3 pp, rx, Rvs.less hx _ _ h2 ry, by rw [rvs_length ry, h1], ?_⟩
    have fin : ∀ {ρ' S' H' m2}, Ext ρ (lessS S cl) (lessH H cl) ρ' S' H' → RelM K G ρ' S' H' m2 → (∀ a, cellOf cl a → H' a = none) → Ext ρ S H ρ' (fun a => S' a ∨ cellOf cl a) (plusH H H' cl) ∧ RelM K G ρ' (fun a => S' a ∨ cellOf cl a) (plusH H H' cl) m2 ∧ Ext ρ' S' H' ρ' (fun a => S' a ∨ cellOf cl a) (plusH H H' cl) := by
      intro ρ' S' H' m2 e R1 hn
      have e3 : Ext ρ' S' H' ρ' (fun a => S' a ∨ cellOf cl a) (plusH H H' cl) := ext_plus2 (K := K) hn
      refine ⟨ext_plus (fun a z => (hp.all a z).1) e hn R1, R1.up e3 (fun a o q => ?_) (fun a q => ?_) (fun a ha q => ?_), e3⟩
      · rw [plusH_ne (fun z => by rw [hn a z] at q; cases q)]; exact q
      · rcases q with q | q
        · rw [plusH_ne (fun z => R1.there a q (hn a z))]; exact R1.there a q
        · rw [plusH_at q]; obtain ⟨φ, g⟩ := hx a q; rw [g]; simp
      · rcases q with q | q
        · exact R1.out a ha q
        · exact rho_there R1 ha (hn a q)
    revert h
    cases mm xs ys mem with
    | ok w m2 =>
      intro h ρ' S' H' v e R1 rv hn
      obtain ⟨e2, R2, e3⟩ := fin e R1 hn
      exact h ρ' _ _ v e2 (R.lift e2 R2) (Rv.mono e3 R1.out _ _ rv)
    | er c gs m2 =>
      intro h ρ' S' H' d e R1 xa hn
      obtain ⟨e2, R2, e3⟩ := fin e R1 hn
      refine h ρ' _ _ d e2 (R.lift e2 R2) ?_
      cases d with
      | none => exact xa
      | some d =>
        obtain ⟨ps, g1, g2⟩ := xa
        exact ⟨ps, by rw [plusH_ne (fun z => by rw [hn d z] at g1; cases g1)]; exact g1, RvF.mono e3 R1.out _ _ g2⟩
    | no => exact fun h => h.elim
  · exact h.elim
section
variable {can : Va → Bool} {app : Va → List Va → M Va}
theorem sim_callV (D : Disp X.prog X.w X.K X.mg X.base G k can app) (tk : Takes X (WF E)) (hr : Room k X.A) (hN : X.N[i]? = some x) (hv : Vis X.env.scope x) (ha : SA X G (WF E) (e :: es) fs)
    (hd : (x == ("__debug__" : Str)) = false := by decide) (hcd : (x == ("__classdict__" : Str)) = false := by decide)
    (he : starEach (e :: es) X.env = (false, eval e X.env) :: starEach es X.env := by rfl) (hpl : (backTo pos (starEach es X.env)).any (·.1) = false := by rfl) :
    SE X G (WF E) (.Call (.Name x p) (e :: es) [] pos) (eCallV can app i fs) := by
  refine ⟨fun pins s σ H Q I ⟨ρ, S, env, mem, R, h⟩ => ?_⟩
  unfold eCallV eVar at h
  simp only [bind_eq] at h
  cases q : env[i]? with
  | none => rw [q] at h; exact h.elim
  | some o =>
    cases o with
    | none => rw [q] at h; exact h.elim
    | some w =>
      rw [q] at h
      replace h : Sat X.K G (Rv X.K G) ρ S env σ H (WF E) Q ((if can w then (fs env >>= fun ws => app w ws) else stuck) mem) := h
      obtain ⟨v, hs, rv⟩ := R.slot i w q
      split at h
      case isFalse => exact h.elim
      rename_i hcan
      refine wpAny_Call_Name_kw (thn ((pe_var (pos := p) hN hv hd hcd).run pins s σ H (fun u H1 => u = v ∧ H1 = H) I ⟨v, hs, rfl, rfl⟩) fun u s1 ⟨v', H1, I1, r1, q1⟩ => ?_)
      obtain ⟨rfl, rfl⟩ := q1
      have h' := Sat.bind (rel := Rvs X.K G) h
      rcases D.other w hcan with ⟨j, rfl⟩ | ⟨l, xs, rfl⟩
      · obtain ⟨fd, ps, m, F, hm⟩ := D.fn j hcan
        simp only [Rv] at rv
        subst rv
        cases r1
        refine PySem.W.callWith_K (h₀ := X.base) I1.ok.mod.kin F.kp (thn (ha.run pos pins s1 σ _ _ I1 ⟨ρ, S, env, mem, R, h'⟩) fun us s2 ⟨vs, H2, I2, r, ρ1, S1, ws, m1, e1, R1, r1, h1⟩ => ⟨I2.kIn, ?_⟩) he hpl
        refine run_fn F.ok hr F.bd .nil (passesF tk) I2 r ?_
        rw [List.append_nil]
        replace h1 : Sat X.K G (Rv X.K G) ρ1 S1 env σ H2 (WF E) Q (app (.fn j) ws m1) := h1
        rw [hm ws] at h1
        exact sp_callN R1 r1 h1
      · obtain ⟨m, LO, hm⟩ := D.clo l xs hcan
        simp only [Rv] at rv
        obtain ⟨f, cl, c, cs, rfl, h1, h2, h3, h4, h5, h6⟩ := rv
        cases r1
        have hfn : PySem.W.FnAt f s1.heap := by
          obtain ⟨⟨pm, ctv, ho⟩, _, _⟩ := I1.hok f _ h2
          exact ⟨_, _, _, _, ho⟩
        refine PySem.W.callWith_F (first := []) hfn (thn (ha.run pos pins s1 σ _ _ I1 ⟨ρ, S, env, mem, R, h'⟩) fun us s2 ⟨vs, H2, I2, r, ρ1, S1, ws, m1, e1, R1, r1, g1⟩ => ?_) he hpl
        replace g1 : Sat X.K G (Rv X.K G) ρ1 S1 env σ H2 (WF E) Q (app (.clo l xs) ws m1) := g1
        rw [hm ws] at g1
        have k2 := e1.stay R.out h1 h2 cloO_ne
        have k4 := e1.stay R.out h3 h4 (fun ps => codeO_ne ps)
        have k5 := h5.mono e1 R.out
        have k6 := Rvs.mono (e1.cut cl) (fun a h z => R.out a h z.1) xs cs h6
        refine ⟨?_, ?_⟩
        · obtain ⟨⟨pm, ctv, ho⟩, _, _⟩ := I2.hok f _ k2
          exact ⟨_, _, _, _, ho⟩
        · show wpAny _ _ (call (.ref f) us) _ _ _
          exact run_clo LO hr (passesF tk) I2 k2 k4 k5 r (clo_ok R1 k5 k6 r1 g1)
theorem sim_callV0 (D : Disp X.prog X.w X.K X.mg X.base G k can app) (tk : Takes X (WF E)) (hr : Room k X.A) (hN : X.N[i]? = some x) (hv : Vis X.env.scope x)
    (hd : (x == ("__debug__" : Str)) = false := by decide) (hcd : (x == ("__classdict__" : Str)) = false := by decide) :
    SE X G (WF E) (.Call (.Name x p) [] [] pos) (eCallV can app i aNil) := by
  refine ⟨fun pins s σ H Q I ⟨ρ, S, env, mem, R, h⟩ => ?_⟩
  unfold eCallV eVar at h
  simp only [bind_eq] at h
  cases q : env[i]? with
  | none => rw [q] at h; exact h.elim
  | some o =>
    cases o with
    | none => rw [q] at h; exact h.elim
    | some w =>
      rw [q] at h
      replace h : Sat X.K G (Rv X.K G) ρ S env σ H (WF E) Q ((if can w then (aNil env >>= fun ws => app w ws) else stuck) mem) := h
      obtain ⟨v, hs, rv⟩ := R.slot i w q
      split at h
      case isFalse => exact h.elim
      rename_i hcan
      replace h : Sat X.K G (Rv X.K G) ρ S env σ H (WF E) Q (app w [] mem) := h
      refine wpAny_Call_Name_kw (thn ((pe_var (pos := p) hN hv hd hcd).run pins s σ H (fun u H1 => u = v ∧ H1 = H) I ⟨v, hs, rfl, rfl⟩) fun u s1 ⟨v', H1, I1, r1, q1⟩ => ?_)
      obtain ⟨rfl, rfl⟩ := q1
      rcases D.other w hcan with ⟨j, rfl⟩ | ⟨l, xs, rfl⟩
      · obtain ⟨fd, ps, m, F, hm⟩ := D.fn j hcan
        simp only [Rv] at rv
        subst rv
        cases r1
        refine PySem.W.callWith_K0 I1.kIn F.kp (run_fn (us := []) (vs := []) F.ok hr F.bd .nil (passesF tk) I1 .nil ?_)
        rw [hm []] at h
        exact sp_callN R rvs_nil h
      · obtain ⟨m, LO, hm⟩ := D.clo l xs hcan
        simp only [Rv] at rv
        obtain ⟨f, cl, c, cs, rfl, h1, h2, h3, h4, h5, h6⟩ := rv
        cases r1
        have hfn : PySem.W.FnAt f s1.heap := by
          obtain ⟨⟨pm, ctv, ho⟩, _, _⟩ := I1.hok f _ h2
          exact ⟨_, _, _, _, ho⟩
        refine PySem.W.callWith_F0 (first := []) hfn ?_
        rw [hm []] at h
        show wpAny _ _ (call (.ref f) []) _ _ _
        exact run_clo LO hr (passesF tk) I1 h2 h4 h5 .nil (clo_ok R h5 h6 rvs_nil h)
end
end
end Vm
end
section
set_option Elab.async false
set_option linter.all false
set_option autoImplicit false
set_option maxRecDepth 100000
/-! SimY: own errors: raised, caught. -/
namespace Vm
open PySem PySem.Spec PyProof.Rows L2
/-- the promise of such an __init__ -/
def spI (K : PySem.W.Frag) (f : Str) : Sp := fun vs H Q E => ∃ a C y, vs = [.ref a, y] ∧ OexC K C ∧ PySem.W.findIn K (.ref C) f = some none ∧ H a = some (exo a C none) ∧ ∀ dx, H dx = none → dx ≠ a → Q .non (upd (upd H dx (exd dx [(f, y)])) a (exo a C (some dx)))
section
variable {P : Program} {w : World} {K : PySem.W.Frag} {mg : Str → Option Value} {base : Heap} {x qual f a1 a2 : Str} {params : Arguments} {scope : Scope} {fa : Addr} {fd : FuncData} {N : List Str} {k : Nat} {p1 p2 p3 p4 : Pos}
theorem init_ok {CX : CXT} (F : FunD K x qual params [.Assign [.Attribute (.Name a1 p1) f p2] (.Name a2 p3) p4] scope [] [] fa fd) (Sc : FnScope N [a1, a2] scope) (h0 : N[0]? = some a1) (h1 : N[1]? = some a2)
    (v1 : Vis scope a1) (v2 : Vis scope a2) (d1 : (a1 == ("__debug__" : Str)) = false := by decide) (d2 : (a2 == ("__debug__" : Str)) = false := by decide) (c1 : (a1 == ("__classdict__" : Str)) = false := by decide) (c2 : (a2 == ("__classdict__" : Str)) = false := by decide) : FnOk P w K mg base CX (k + 1) fa fd [a1, a2] (spI K f) := by
  refine F.ok Sc (fun vs H Q E ⟨a, C, y, e, _⟩ => by rw [e]; rfl) fun cdv A outer s H vs Q E hr ⟨a, C, y, e, T, hn, ha, hq⟩ => ?_
  subst e
  refine ⟨_, pss_one (ps_ost (pe_var (i := 0) h0 v1 d1 c1) (pe_var (i := 1) h1 v2 d2 c2)), ?_⟩
  have s0 : (L2.start N [.ref a, y])[0]? = some (some (.ref a)) := rfl
  have s1 : (L2.start N [.ref a, y])[1]? = some (some y) := rfl
  exact ⟨y, s1, .ref a, s0, a, C, rfl, T, hn, .inl ⟨ha, fun dx n1 n2 => hq dx n1 n2⟩⟩
end
section
variable {X : Cx} {G : Gc} {W : WX} {e : Expr} {fe : Env → M Va} {x f : Str} {fI : Addr} {k c : Nat} {fd : FuncData} {ps : List Str} {q : Sg} {pos p pos' : Pos}
theorem relM_new {K : PySem.W.Frag} {ρ : List Addr} {S : Addr → Prop} {H : Hp} {mem : Mem} {p : Addr} {o : HO} (R : RelM K G ρ S H mem) (hp : H p = none) : RelM K G ρ (fun a => S a ∨ a = p) (upd H p o) mem :=
  (rel_new (env := []) (σ := []) ⟨R, (fun i x h => by simp at h), rfl⟩ hp).toRelM
theorem sim_raise1 (T : OexC X.K (G.ca c)) (iC : PySem.W.findIn X.K (.ref (G.ca c)) "__init__" = some (some (.ref fI))) (tI : PySem.W.typeIn X.K (.ref fI) = some (.type "function")) (hno : PySem.W.findIn X.K (.ref (G.ca c)) f = some none)
    (F1 : FnOk X.prog X.w X.K X.mg X.base (L2.CX X.prog X.w) k fI fd ps (spI X.K f)) (hb : Binds X.K fd ps []) (hq : f = sg q) (tk : Takes X W) (hc : X.calm = true) (hr : Room (k + 1) X.A) (hm : X.mg x = some (.ref (G.ca c))) (ha : SE X G W e fe) (hg : Gl X x := by rfl)
    (hdb : (x == ("__debug__" : Str)) = false := by decide) (he : starEach [e] X.env = (false, eval e X.env) :: starEach [] X.env := by rfl) (hpl : (backTo pos (starEach [] X.env)).any (·.1) = false := by rfl) :
    SS X G W (.Raise (some (.Call (.Name x p) [e] [] pos)) none pos') (sRaise1 c q fe) := by
  subst hq
  refine PS.imp (ps_raise hc tk (pmk_oex T iC tI F1 hr hb .nil (fun _ _ _ _ _ _ _ ⟨_, _, _, _, _, _, _, _, _, _, _, _, z⟩ => z.elim) hg hm (pa_cons ha pa_nil he) hdb he hpl)) fun D σ H ⟨ρ, S, env, mem, R, h⟩ => ?_
  refine tX.of R ((SatS.ofE (rel := Rv X.K G) h).imp fun v H1 ⟨ρ1, S1, y, m1, e1, R1, r1, h1⟩ => ?_)
  refine ⟨(by show 1 ≤ 1000; decide), fun a hna => ⟨a, G.ca c, v, rfl, T, hno, upd_same, fun dx nx ne => ⟨rfl, dx, [(sg q, v)], upd_same, ?_, ?_, ?_⟩⟩⟩
  · rw [upd_ne ne, upd_same]
  · rw [upd_ne ne] at nx; exact nx
  · have nx1 : H1 dx = none := by rw [upd_ne ne] at nx; exact nx
    have eh : upd (del (upd (upd (upd H1 a (exo a (G.ca c) none)) dx (exd dx [(sg q, v)])) a (exo a (G.ca c) (some dx))) a) dx (.xd [(sg q, v)]) = upd H1 dx (.xd [(sg q, v)]) := by
      funext b
      by_cases hb1 : b = dx
      · subst hb1; rw [upd_same, upd_same]
      · rw [upd_ne hb1, upd_ne hb1]
        by_cases hb2 : b = a
        · subst hb2; rw [del_same, hna]
        · rw [del_ne hb2, upd_ne hb2, upd_ne hb1, upd_ne hb2]
    show W _ _ σ (upd (del _ a) dx (.xd [(sg q, v)]))
    rw [eh]
    have h1' : SatS X.K G ρ1 S1 H1 W D (.er c [(q, y)] m1) := h1
    exact h1' ρ1 _ _ (some dx) σ (ext_new nx1) (relM_new R1.toRelM nx1) ⟨_, upd_same, by
      simp only [RvF]
      exact ⟨v, [], rfl, Rv.mono (ext_new nx1) R1.out _ _ r1, rfl⟩⟩
/-- what the body of a try may let out, whatever the slots then hold -/
def EofW (X : Cx) (W : WX) : XK := fun cls d H => ∀ σ' : L2.St, σ'.length = X.N.length → W cls d σ' H
theorem takes_len {W : WX} (tk : Takes X W) : Takes X (WF (EofW X W)) := fun u s' ⟨a, B, sI, pins, σ, H, cls, d, e, I, nb, up, sky, na, os, ag, w⟩ =>
  tk u s' ⟨a, B, sI, pins, σ, H, cls, d, e, I, nb, up, sky, na, os, ag, w σ I.len⟩
theorem sim_try1 {body : List Stmt} {fb : Env → M Flow} {cs : List Nat} {n : Str} {i : Nat} {t qf : Sg} {tx ff : Str} {np p1 p2 p3 p4 p5 pos1 : Pos} {j : Nat} {mk} (hs : X.stack = X.env :: X.outer) (hf : X.env.frame = some X.env.locals) (hN : X.N.Nodup) (hi : X.N[i]? = some n) (hln : X.env.kindOf n = some .local)
    (hc : Names X x (.ref (G.ca c))) (hx : XfC X.K (G.ca c)) (hno : PySem.W.findIn X.K (.ref (G.ca c)) ff = some none) (hsame : PySem.W.exmOne X.K (.ref (G.ca c)) (.ref (G.ca c)) = some true) (hoth : ∀ c' ∈ cs, c' ≠ c → PySem.W.exmOne X.K (.ref (G.ca c')) (.ref (G.ca c)) = some false)
    (htx : tx = sg t) (hff : ff = sg qf) (tk : Takes X W) (hb : ∀ (E : XK) (pn : List (Addr × Obj)) (xe : Value → Shared → Prop), Takes (X.tr pn xe) (WF E) → SSs (X.tr pn xe) G (WF E) body fb)
    (hd : (n == ("__debug__" : Str)) = false := by decide) (hcd : (n == ("__classdict__" : Str)) = false := by decide)
    (hb1 : ∀ (a : Addr) (pq : List (Addr × Obj)), starEach [.Constant (.str tx) j p1, .Attribute (.Name n p2) ff p3] (X.suite a pq).env = (false, eval (.Constant (.str tx) j p1) (X.suite a pq).env) :: starEach [.Attribute (.Name n p2) ff p3] (X.suite a pq).env := by intro _ _; rfl)
    (hb2 : ∀ (a : Addr) (pq : List (Addr × Obj)), starEach [.Attribute (.Name n p2) ff p3] (X.suite a pq).env = (false, eval (.Attribute (.Name n p2) ff p3) (X.suite a pq).env) :: starEach [] (X.suite a pq).env := by intro _ _; rfl)
    (hb3 : attributeBase (.Name n p2) ff X.env (eval (.Name n p2) X.env) = eval (.Name n p2) X.env := by rfl) :
    SS X G W (.Try body [.ExceptHandler (some (.Name x np)) (some n) [.Return (some (.Tuple [.Constant (.str tx) j p1, .Attribute (.Name n p2) ff p3] mk p4)) p5] pos'] [] [] pos1) (sTry1 cs c t qf fb) := by
  subst htx
  subst hff
  have hvis : Vis X.env.scope n := .inl hln
  refine PS.imp (ps_try_as (c := .ref (G.ca c)) (tb := fun W D σ H => tS X.K G (WF (EofW X W)) fb D σ H) hs hf hN hi hln hc tk (fun W pn xe tkb _ => hb (EofW X W) pn xe (takes_len tkb))
    (fun a oe cls d pn hz hfs => pss_one (ps_ret (pe_tup (pa_cons pe_str (pa_cons (pe_xf (C := G.ca c) (n := sg qf) hx hno hz hfs (pe_var (X := X.suite a ((a, oe) :: pn)) (i := i) hi hvis hd hcd) hb3) pa_nil (hb2 a _)) (hb1 a _)))))) fun D σ H ⟨ρ, S, env, mem, R, h⟩ => ⟨ρ, S, env, mem, R, ?_⟩
  unfold sTry1 at h
  revert h
  cases q : fb env mem with
  | ok fl m' =>
    cases fl with
    | nx e => exact fun h => h
    | rt v => exact fun h => h
    | bk e => exact fun h => h
    | ct e => exact fun h => h
  | no => exact fun h => h
  | er c' gs m' =>
    intro h ρ' S' H' d σ0 ex R' xa σ' hl
    simp only [] at h
    by_cases hcc : c' = c
    · subst hcc
      rw [if_pos rfl] at h
      refine ⟨true, hsame, (fun _ a hna => ?_), (fun z => by cases z)⟩
      cases qf2 : findF qf gs with
      | none => rw [qf2] at h; exact h.elim
      | some y =>
        rw [qf2] at h
        have h : SatS X.K G ρ S H W D (.ok (.rt (.tup [.str t, y])) m') := h
        cases d with
        | none =>
          have : gs = [] := xa
          subst this
          cases qf2
        | some dd =>
          obtain ⟨ps, x1, x2⟩ := xa
          obtain ⟨v, l1, rv⟩ := findF_some x2 qf2
          have hlt : i < σ'.length := by
            rw [hl]
            exact (List.getElem?_eq_some_iff.mp hi).1
          refine ⟨.ref a, by rw [List.getElem?_set_self hlt], rfl, rfl, dd, ps, v, rfl, x1, l1, (by show 2 ≤ sizeLine; rw [sizeLine_eq]; omega), fun p hp => ?_⟩
          have e2 := ex.trans (ext_new (ρ := ρ') (S := S') (o := .tup [V.str (sg t), v]) hp)
          refine h ρ' _ _ _ e2 (relM_new R' hp) ?_
          simp only [Rv]
          refine ⟨p, [V.str (sg t), v], rfl, ⟨.inr rfl, upd_same⟩, rvs_cons (by simp only [Rv]) (rvs_cons (Rv.mono (ext_new hp) R'.out _ _ rv) rvs_nil)⟩
    · rw [if_neg hcc] at h
      split at h
      · rename_i hm
        exact ⟨false, hoth c' hm hcc, (fun z => by cases z), fun _ => h ρ' S' H' d σ' ex R' xa⟩
      · exact h.elim
end
end Vm
end
section
set_option Elab.async false
set_option linter.all false
set_option autoImplicit false
set_option maxRecDepth 100000
/-! SimB: built-in functions and methods. -/
namespace Vm
open PySem PySem.Spec PyProof.Rows L2
/-! ### what is not covered -/
section
variable {X : Cx} {G : Gc} {W : WX} {e : Expr} {st : Stmt}
theorem sim_stuck : SE X G W e eStuck := ⟨fun _ _ _ _ _ _ ⟨_, _, _, _, _, h⟩ => h.elim⟩
theorem sim_tstuck : ST X G W e tStuck := ⟨fun _ _ _ _ _ _ ⟨_, _, _, _, _, h⟩ => h.elim⟩
theorem sim_sstuck : SS X G W st sStuck := ⟨fun _ _ _ _ _ _ ⟨_, _, _, _, _, h⟩ => h.elim⟩
end
/-- the operation op is met by the reading r -/
def CallS (K : PySem.W.Frag) (op : List Va → M Va) (r : List V → Hp → VK → Prop) : Prop :=
  ∀ (G : Gc) (W : WX) (ρ : List Addr) (S : Addr → Prop) (env : Env) (σ : L2.St) (mem : Mem) (H : Hp) (xs : List Va) (vs : List V) (Q : VK), Rel K G ρ S H env mem σ → Rvs K G ρ S H xs vs →
    Sat K G (Rv K G) ρ S env σ H W Q (op xs mem) → r vs H Q
def MtS (K : PySem.W.Frag) (op : Va → List Va → M Va) (r : V → List V → Hp → VK → Prop) : Prop :=
  ∀ (G : Gc) (W : WX) (ρ : List Addr) (S : Addr → Prop) (env : Env) (σ : L2.St) (mem : Mem) (H : Hp) (x : Va) (v : V) (xs : List Va) (vs : List V) (Q : VK), Rel K G ρ S H env mem σ → Rv K G ρ S H x v → Rvs K G ρ S H xs vs →
    Sat K G (Rv K G) ρ S env σ H W Q (op x xs mem) → r v vs H Q
def ChkS (K : PySem.W.Frag) (chk : Va → Mem → Bool) (T : String) : Prop := ∀ (G : Gc) (ρ : List Addr) (S : Addr → Prop) (env : Env) (σ : L2.St) (mem : Mem) (H : Hp) (x : Va) (v : V), Rel K G ρ S H env mem σ → Rv K G ρ S H x v → chk x mem = true → tyV K T v H
section
variable {X : Cx} {G : Gc} {W : WX} {e o : Expr} {es : List Expr} {fs : Env → M (List Va)} {fo : Env → M Va} {pos p apos cpos : Pos} {x name : Str} {id T : String} {op : List Va → M Va} {mop : Va → List Va → M Va} {r : List V → Hp → VK → Prop} {rm : V → List V → Hp → VK → Prop} {chk : Va → Mem → Bool}
theorem sim_callB (hc : CallR X (.builtin id) r) (hs : CallS X.K op r) (ha : SA X G W (e :: es) fs) (hv : bootBuiltins x = some (.builtin id)) (hm : X.mg x = none) (hg : Gl X x := by rfl) (hn : x ≠ "__name__" := by decide) (hdb : (x == ("__debug__" : Str)) = false := by decide)
    (he : starEach (e :: es) X.env = (false, eval e X.env) :: starEach es X.env := by rfl) (hpl : (backTo pos (starEach es X.env)).any (·.1) = false := by rfl) : SE X G W (.Call (.Name x p) (e :: es) [] pos) (eCall op fs) :=
  PE.imp (pe_callB hc hg hm hv ha hn hdb he hpl) fun σ H Q ⟨ρ, S, env, mem, R, h⟩ => tX.args (op := op) (fun ρ S mem H ws vs R rv q => hs G W ρ S env σ mem H ws vs Q R rv q) R h
theorem sim_callTy (hc : CallR X (.type T) r) (hs : CallS X.K op r) (ha : SA X G W (e :: es) fs) (hv : bootBuiltins x = some (.type T)) (hm : X.mg x = none) (hg : Gl X x := by rfl) (hn : x ≠ "__name__" := by decide) (hdb : (x == ("__debug__" : Str)) = false := by decide)
    (he : starEach (e :: es) X.env = (false, eval e X.env) :: starEach es X.env := by rfl) (hpl : (backTo pos (starEach es X.env)).any (·.1) = false := by rfl) : SE X G W (.Call (.Name x p) (e :: es) [] pos) (eCall op fs) :=
  PE.imp (pe_callTy hc hg hm hv ha hn hdb he hpl) fun σ H Q ⟨ρ, S, env, mem, R, h⟩ => tX.args (op := op) (fun ρ S mem H ws vs R rv q => hs G W ρ S env σ mem H ws vs Q R rv q) R h
theorem need_case (c : Mem → Bool) (m : Mem) : (c m = true ∧ needM c m = .ok () m) ∨ needM c m = .no := by
  unfold needM
  split
  · rename_i h; exact .inl ⟨h, rfl⟩
  · exact .inr rfl
theorem sim_bm (pa : PlainAttrs T) (slot : Slot T name id) (hty : typeOf (.builtin id) = pure (.type "method_descriptor")) (hm : MtR X id rm) (hs : MtS X.K mop rm) (hk : ChkS X.K chk T) (ho : SE X G W o fo) (ha : SA X G W (e :: es) fs)
    (hbase : attributeBase o name X.env (eval o X.env) = eval o X.env := by rfl)
    (hfew : ((backTo cpos (starEach (e :: es) X.env)).all (fun x => !x.1) && (backToKw cpos (keywordEach [] X.env)).all (fun x => x.1.isSome)
      && decide ((e :: es).length + ([] : List Keyword).length + (if ([] : List Keyword).isEmpty then 0 else 1) < 30)) = true := by rfl)
    (hline : (apos.endLine == cpos.line) = true := by rfl) (hst : starEach (e :: es) X.env = (false, eval e X.env) :: starEach es X.env := by rfl) (hplain : (backTo cpos (starEach es X.env)).any (·.1) = false := by rfl) :
    SE X G W (.Call (.Attribute o name apos) (e :: es) [] cpos) (eM chk mop fo fs) :=
  PE.imp (pe_bm pa slot hty hm ho ha hbase hfew hline hst hplain) fun σ H Q ⟨ρ, S, env, mem, R, h⟩ =>
    tX.of R ((Sat.bind (rel := Rv X.K G) h).imp fun v H1 ⟨ρ1, S1, w, m1, e1, R1, r1, h1⟩ => by
      rcases need_case (chk w) m1 with ⟨c, z⟩ | z
      · simp only [bind_eq, z, bind_ok] at h1
        refine ⟨hk G ρ1 S1 env σ m1 H1 w v R1 r1 c, tX.of R1 ((Sat.bind (rel := Rvs X.K G) h1).imp fun vs H2 ⟨ρ2, S2, ws, m2, e2, R2, r2, h2⟩ => ?_)⟩
        exact hs G W ρ2 S2 env σ m2 H2 w v ws vs Q R2 (Rv.mono e2 R1.out _ _ r1) r2 h2
      · simp only [bind_eq, z, bind_no] at h1; exact h1.elim)
theorem sim_bm0 (pa : PlainAttrs T) (slot : Slot T name id) (hty : typeOf (.builtin id) = pure (.type "method_descriptor")) (hm : MtR X id rm) (hs : MtS X.K mop rm) (hk : ChkS X.K chk T) (ho : SE X G W o fo)
    (hbase : attributeBase o name X.env (eval o X.env) = eval o X.env := by rfl) (hline : (apos.endLine == cpos.line) = true := by rfl) : SE X G W (.Call (.Attribute o name apos) [] [] cpos) (eM chk mop fo aNil) :=
  PE.imp (pe_bm0 pa slot hty hm ho hbase hline) fun σ H Q ⟨ρ, S, env, mem, R, h⟩ =>
    tX.of R ((Sat.bind (rel := Rv X.K G) h).imp fun v H1 ⟨ρ1, S1, w, m1, e1, R1, r1, h1⟩ => by
      rcases need_case (chk w) m1 with ⟨c, z⟩ | z
      · simp only [bind_eq, z, bind_ok] at h1
        exact ⟨hk G ρ1 S1 env σ m1 H1 w v R1 r1 c, hs G W ρ1 S1 env σ m1 H1 w v [] [] Q R1 r1 rvs_nil h1⟩
      · simp only [bind_eq, z, bind_no] at h1; exact h1.elim)
end
/-! ### receivers -/
section
variable {K : PySem.W.Frag}
theorem chkS_ok : ChkS K chkS "str" := fun G ρ S env σ mem H x v R r h => by
  unfold chkS at h
  split at h
  · simp only [Rv] at r; subst r; rfl
  · cases h
theorem chkL_ok : ChkS K chkL "list" := fun G ρ S env σ mem H x v R r h => by
  unfold chkL at h
  split at h
  · rename_i e
    obtain ⟨_, a, vs, rfl, h1, _⟩ := asL_ok R r (by rw [e])
    exact .inl ⟨rfl, vs, SqL.of h1⟩
  · cases h
end
section
variable {X : Cx} {K : PySem.W.Frag}
theorem asQ_at {G : Gc} {ρ : List Addr} {S : Addr → Prop} {H : Hp} {mem : Mem} {x : Va} {v : V} {xs : List Va} (R : RelM K G ρ S H mem) (r : Rv K G ρ S H x v) (h : asQ x mem = .ok xs mem) : ∃ a vs, v = .ref a ∧ (SqL K H a vs ∨ SqT K H a vs) ∧ Rvs K G ρ S H xs vs := (asQ_ok R r h).2
theorem bLen_ok : CallS K bLen (fun xs H Q => ∃ x n, xs = [x] ∧ LenV K x H n ∧ Q (.int n) H) := by
  intro G W ρ S env σ mem H xs vs Q R r h
  unfold bLen one1 at h
  split at h
  · rename_i x
    simp only [Rvs] at r
    obtain ⟨v, s, rfl, r1, rfl⟩ := r
    unfold uLen at h
    split at h
    · split at h
      · rename_i z hz
        simp only [Rv] at r1; subst r1
        exact ⟨_, z.length, rfl, ⟨by rw [sg_length, ← line_eq]; exact hz, (sg_length z).symm⟩, sat_pure R h (by simp only [Rv])⟩
      · exact h.elim
    · simp only [bind_eq] at h
      rcases asQ_case x mem with ⟨xs, e⟩ | e
      · rw [e] at h
        obtain ⟨a, us, rfl, sq, rs⟩ := asQ_at R.toRelM r1 e
        refine ⟨_, us.length, rfl, sq.imp (fun z => ⟨us, z, rfl⟩) (fun z => ⟨us, z, rfl⟩), ?_⟩
        rw [rvs_length rs]
        exact sat_pure R h (by simp only [Rv])
      · rw [e] at h; exact h.elim
  · exact h.elim
theorem bAbs_ok : CallS K bAbs (fun xs H Q => ∃ i, xs = [.int i] ∧ Q (.int (if i < 0 then -i else i)) H) := by
  intro G W ρ S env σ mem H xs vs Q R r h
  unfold bAbs at h
  split at h
  · simp only [Rvs, Rv] at r
    obtain ⟨v, s, rfl, rfl, rfl⟩ := r
    exact ⟨_, rfl, sat_pure R h (by simp only [Rv])⟩
  · exact h.elim
theorem rvs_ints {G : Gc} {ρ : List Addr} {S : Addr → Prop} {H : Hp} : ∀ ns : List Int, Rvs K G ρ S H (ns.map Va.int) (ns.map V.int)
  | [] => rvs_nil
  | n :: t => rvs_cons (by simp only [Rv]) (rvs_ints t)
theorem bList_ok : CallS K bList (fun xs H Q => ∃ p ys, xs = [.ref p] ∧ (SqL K H p ys ∨ SqT K H p ys) ∧ ∀ l, H l = none → Q (.ref l) (upd H l (.lst ys))) := by
  intro G W ρ S env σ mem H xs vs Q R r h
  unfold bList one1 at h
  split at h
  · rename_i x
    simp only [Rvs] at r
    obtain ⟨v, s, rfl, r1, rfl⟩ := r
    unfold uList at h
    split at h
    · rename_i ns
      simp only [Rv] at r1
      obtain ⟨a, rfl, h1⟩ := r1
      refine ⟨a, _, rfl, .inl (h1.imp (·.2) id), fun l hl => sat_cell R h hl ⟨_, upd_same, rvs_ints ns⟩⟩
    · simp only [bind_eq] at h
      rcases asQ_case x mem with ⟨xs, e⟩ | e
      · rw [e] at h
        obtain ⟨a, us, rfl, sq, rs⟩ := asQ_at R.toRelM r1 e
        exact ⟨a, us, rfl, sq, fun l hl => sat_cell R h hl ⟨_, upd_same, Rvs.mono (ext_cell hl) R.out _ _ rs⟩⟩
      · rw [e] at h; exact h.elim
  · exact h.elim
theorem bTuple_ok : CallS K bTuple (fun xs H Q => ∃ p ys, xs = [.ref p] ∧ ((SqL K H p ys ∧ ∀ l, H l = none → Q (.ref l) (upd H l (.tup ys))) ∨ (SqT K H p ys ∧ Q (.ref p) H))) := by
  intro G W ρ S env σ mem H xs vs Q R r h
  unfold bTuple one1 at h
  split at h
  · rename_i x
    simp only [Rvs] at r
    obtain ⟨v, s, rfl, r1, rfl⟩ := r
    unfold uTuple at h
    split at h
    · have q := r1
      simp only [Rv] at r1
      obtain ⟨a, us, rfl, h1, h2⟩ := r1
      exact ⟨a, us, rfl, .inr ⟨h1.sq, sat_pure R h q⟩⟩
    · have q := r1
      simp only [Rv] at r1
      obtain ⟨a, us, rfl, h1, h2⟩ := r1
      exact ⟨a, us, rfl, .inr ⟨h1.sq, sat_pure R h q⟩⟩
    · simp only [bind_eq] at h
      rcases asL_case x mem with ⟨xs, e⟩ | e
      · rw [e] at h
        obtain ⟨_, a, us, rfl, h1, rs⟩ := asL_ok R r1 e
        exact ⟨a, us, rfl, .inl ⟨SqL.of h1, fun l hl => sat_tup R h rs hl⟩⟩
      · rw [e] at h; exact h.elim
  · exact h.elim
theorem asBls_ok {G : Gc} {ρ : List Addr} {S : Addr → Prop} {H : Hp} : ∀ {xs : List Va} {vs : List V} {bs : List Bool}, asBls xs = some bs → Rvs K G ρ S H xs vs → vs = bs.map V.bl
  | [], vs, bs, h, r => by simp only [asBls] at h; cases h; simp only [Rvs] at r; subst r; rfl
  | x :: s, vs, bs, h, r => by
    simp only [Rvs] at r
    obtain ⟨v, t, rfl, r1, r2⟩ := r
    cases x <;> simp only [asBls] at h <;> try cases h
    obtain ⟨b, h1, rfl⟩ := opt_map h
    simp only [Rv] at r1
    subst r1
    rw [asBls_ok h1 r2]; rfl
theorem bAll_ok : CallS K bAll (rAll K) := by
  intro G W ρ S env σ mem H xs vs Q R r h
  unfold bAll at h
  split at h
  · rename_i x
    simp only [Rvs] at r
    obtain ⟨v, s, rfl, r1, rfl⟩ := r
    simp only [bind_eq] at h
    rcases asL_case x mem with ⟨xs, e⟩ | e
    · rw [e] at h
      obtain ⟨_, a, us, rfl, h1, rs⟩ := asL_ok R r1 e
      replace h : Sat K G (Rv K G) ρ S env σ H W Q (lift ((asBls xs).map _) mem) := h
      cases hb : asBls xs with
      | none => rw [hb] at h; exact h.elim
      | some bs =>
        rw [hb] at h
        have := asBls_ok hb rs
        subst this
        exact ⟨a, bs, rfl, SqL.of h1, sat_pure R h (by simp only [Rv])⟩
    · rw [e] at h; exact h.elim
  · exact h.elim
theorem bAny_ok : CallS K bAny (rAny K) := by
  intro G W ρ S env σ mem H xs vs Q R r h
  unfold bAny at h
  split at h
  · rename_i x
    simp only [Rvs] at r
    obtain ⟨v, s, rfl, r1, rfl⟩ := r
    simp only [bind_eq] at h
    rcases asL_case x mem with ⟨xs, e⟩ | e
    · rw [e] at h
      obtain ⟨_, a, us, rfl, h1, rs⟩ := asL_ok R r1 e
      replace h : Sat K G (Rv K G) ρ S env σ H W Q (lift ((asBls xs).map _) mem) := h
      cases hb : asBls xs with
      | none => rw [hb] at h; exact h.elim
      | some bs =>
        rw [hb] at h
        have := asBls_ok hb rs
        subst this
        exact ⟨a, bs, rfl, SqL.of h1, sat_pure R h (by simp only [Rv])⟩
    · rw [e] at h; exact h.elim
  · exact h.elim
end
end Vm
end
section
set_option Elab.async false
set_option linter.all false
set_option autoImplicit false
set_option maxRecDepth 100000
/-! SimT: texts; changes of lists; types. -/
namespace Vm
open PySem PySem.Spec PyProof.Rows L2 Builtin Builtin.Str
section
variable {K : PySem.W.Frag} {X : Cx}
/-! ### int(text), str(int) -/
theorem digs_num : ∀ (f n : Nat) (acc : Sg), n < 10 ^ (f + 1) → digs (f + 1) n acc = TL.numL n ++ acc
  | f, n, acc, h => by
    unfold digs
    split
    · rename_i h1
      rw [TL.numL_lt h1]; rfl
    · rename_i h1
      cases f with
      | zero => exact absurd (by simpa using h) h1
      | succ f =>
        rw [digs_num f (n / 10) _ (Nat.div_lt_of_lt_mul (by rw [Nat.pow_succ, Nat.mul_comm] at h; exact h)), TL.numL_step (by omega : 10 ≤ n), List.append_assoc]
        rfl
theorem bStr_ok : CallS K bStr (fun xs H Q => ∃ i, xs = [.int i] ∧ i.natAbs.log2 < 1920 ∧ Q (.str (toString i)) H) := by
  intro G W ρ S env σ mem H xs vs Q R r h
  unfold bStr at h
  split at h
  · split at h
    · rename_i i hi
      simp only [Rvs, Rv] at r
      obtain ⟨v, s, rfl, rfl, rfl⟩ := r
      refine ⟨i, rfl, ?_, sat_pure R h ?_⟩
      · have h1 : i.natAbs < 2 ^ 1920 := Nat.lt_of_lt_of_le (by omega : i.natAbs < 10 ^ 30) (Nat.le_trans (by decide +kernel : 10 ^ 30 ≤ 2 ^ 100) (Nat.pow_le_pow_right (by decide) (by decide)))
        by_cases h0 : i.natAbs = 0
        · rw [h0]; decide
        · exact (Nat.log2_lt h0).mpr h1
      · simp only [Rv]
        have e : i = ((i.toNat : Nat) : Int) := by omega
        have e2 : ((toString i : String) : Str) = Str.ofString (toString ((i.toNat : Nat) : Int)) := by rw [← e]
        rw [e2, SX.num_S, digs_num 30 i.toNat [] (Nat.lt_of_lt_of_le (by omega : i.toNat < 10 ^ 30) (Nat.pow_le_pow_right (by decide) (by decide))), List.append_nil]
    · exact h.elim
  · exact h.elim
theorem bInt_ok : CallS K bInt (fun xs H Q => (((∃ i, xs = [.int i] ∧ Q (.int i) H) ∨ ∃ k, xs = [.bl k] ∧ Q (.int (if k then 1 else 0)) H)) ∨ ∃ a n, xs = [.str a] ∧ PySem.intText? a = some n ∧ a.length ≤ 640 ∧ Q (.int n) H) := by
  intro G W ρ S env σ mem H xs vs Q R r h
  unfold bInt at h
  split at h
  · simp only [Rvs, Rv] at r
    obtain ⟨v, s, rfl, rfl, rfl⟩ := r
    exact .inl (.inl ⟨_, rfl, sat_pure R h (by simp only [Rv])⟩)
  · split at h
    · rename_i x hx
      simp only [Rvs, Rv] at r
      obtain ⟨v, s, rfl, rfl, rfl⟩ := r
      obtain ⟨h1, h2, h3⟩ := hx
      have hd : x.all (fun c => decide (48 ≤ c) && decide (c ≤ 57)) = true := by
        rw [List.all_eq_true] at h2 ⊢
        intro c hc
        have := h2 c hc
        simp at this ⊢
        exact this
      refine .inr ⟨_, _, rfl, SX.int_S hd h1 (by omega), by rw [sg_length]; omega, ?_⟩
      have e : ((NumText.digitsVal x : Nat) : Int) = figs x := by
        have ad : NumText.AllDigits x := fun c hc => by
          rw [List.all_eq_true] at hd
          have := hd c hc
          simp at this
          exact this
        exact (TL.fold_digits x 0 ad).symm
      rw [e]
      exact sat_pure R h (by simp only [Rv])
    · exact h.elim
  · exact h.elim
theorem CallR.or {f : Value} {r r' : List V → Hp → VK → Prop} (h : CallR X f r) (h' : CallR X f r') : CallR X f (fun xs H Q => r xs H Q ∨ r' xs H Q) := fun pins s σ H xs us Q I rv z => z.elim (h pins s σ H xs us Q I rv) (h' pins s σ H xs us Q I rv)
theorem call_intV : CallR X (.type "int") (fun xs H Q => (((∃ i, xs = [.int i] ∧ Q (.int i) H) ∨ ∃ k, xs = [.bl k] ∧ Q (.int (if k then 1 else 0)) H)) ∨ ∃ a n, xs = [.str a] ∧ PySem.intText? a = some n ∧ a.length ≤ 640 ∧ Q (.int n) H) := CallR.or call_int1 call_int_str
/-! ### count, rfind, join -/
theorem subAt_one (z : Sg) (c i : Nat) : subAt (sg z) (sg [c]) i = decide (z[i]? = some c) := by
  unfold subAt
  have e : (sg z).cps.extract i (i + (sg [c]).length) = ((z.drop i).take 1).toArray := by
    simp [sg, Str.length, List.extract_toArray, List.extract_eq_take_drop]
  rw [e]
  have e2 : ((z.drop i).take 1).toArray == (sg [c]).cps ↔ z[i]? = some c := by
    simp only [sg, beq_iff_eq]
    constructor
    · intro h
      have h2 : (z.drop i).take 1 = [c] := by simpa using congrArg Array.toList h
      have h3 := congrArg (·[0]?) h2
      simp [List.getElem?_take, List.getElem?_drop] at h3
      exact h3
    · intro h
      have : (z.drop i).take 1 = [c] := by
        obtain ⟨hl, he⟩ := List.getElem?_eq_some_iff.mp h
        rw [List.drop_eq_getElem_cons hl, he]; rfl
      rw [this]
  by_cases h : z[i]? = some c
  · rw [e2.mpr h, decide_eq_true h]
  · rw [decide_eq_false h]
    cases q : ((z.drop i).take 1).toArray == (sg [c]).cps with
    | false => rfl
    | true => exact absurd (e2.mp q) h
theorem count_run (z : Sg) (c : Nat) : ∀ (m k : Nat) (st : Array Nat × Nat), k + m = z.length + 1 → st.1.size = (z.take k).count c → st.2 ≤ k →
    (forIn (List.range' k m) st (StrLaws.occBody (sg z) (sg [c]) z.length (z.length + 1))).run.1.size = z.count c
  | 0, k, st, hk, h1, h2 => by
    rw [List.range'_zero, List.forIn_nil]
    show st.1.size = _
    rw [h1, List.take_of_length_le (by omega)]
  | m + 1, k, st, hk, h1, h2 => by
    rw [List.range'_succ, List.forIn_cons]
    unfold StrLaws.occBody
    have hle : st.1.size ≤ k := by
      rw [h1]
      exact Nat.le_trans List.count_le_length (by rw [List.length_take]; omega)
    have sl : (sg [c]).length = 1 := rfl
    by_cases hc : z[k]? = some c
    · obtain ⟨hl, he⟩ := List.getElem?_eq_some_iff.mp hc
      rw [if_pos ⟨⟨⟨by omega, h2⟩, by rw [sl]; omega⟩, by rw [subAt_one]; exact decide_eq_true hc⟩]
      refine count_run z c m (k + 1) _ (by omega) ?_ (by rw [sl]; exact Nat.le_refl _)
      show (st.1.push k).size = _
      rw [Array.size_push, h1, List.take_succ, hc, List.count_append]
      simp
    · rw [if_neg (fun q => hc (by have := q.2; rw [subAt_one] at this; exact of_decide_eq_true this))]
      refine count_run z c m (k + 1) _ (by omega) ?_ (by show st.2 ≤ k + 1; omega)
      show st.1.size = _
      by_cases hl : k < z.length
      · rw [h1, List.take_succ, List.getElem?_eq_getElem hl, List.count_append]
        have : z[k] ≠ c := fun e => hc (by rw [List.getElem?_eq_getElem hl, e])
        simp [this]
      · rw [h1, List.take_of_length_le (by omega), List.take_of_length_le (by omega)]
theorem count_one (z : Sg) (c : Nat) : Txt.count (sg z) (sg [c]) = ((z.count c : Nat) : Int) := by
  unfold Txt.count
  rw [StrLaws.occ_eq, Array.length_toList, sg_length]
  congr 1
  exact count_run z c (z.length + 1 - 0) 0 _ (by omega) (by simp) (Nat.le_refl _)
theorem rfind_one (z : Sg) (c : Nat) : Txt.rfind (sg z) (sg [c]) = rfi c z := by
  unfold Txt.rfind
  have at_ : ∀ i, StrLaws.At (sg z) (sg [c]) (sg z).length i ↔ z[i]? = some c := fun i => by
    unfold StrLaws.At
    rw [subAt_one, sg_length]
    constructor
    · exact fun h => of_decide_eq_true h.2
    · exact fun h => ⟨(List.getElem?_eq_some_iff.mp h).1, decide_eq_true h⟩
  unfold rfi
  rcases StrLaws.last_spec (sg z) (sg [c]) with ⟨h1, h2⟩ | ⟨i, h1, h2, h3⟩
  · rw [h1, if_neg (fun hm => by
      obtain ⟨i, hi⟩ := List.mem_iff_getElem?.mp hm
      exact h2 i ((at_ i).mpr hi))]
  · rw [h1]
    have hi := (at_ i).mp h2
    obtain ⟨hl, he⟩ := List.getElem?_eq_some_iff.mp hi
    rw [if_pos (List.mem_of_getElem? hi)]
    have hmr : c ∈ z.reverse := by rw [List.mem_reverse]; exact List.mem_of_getElem? hi
    have hx : z.reverse.idxOf c < z.reverse.length := List.idxOf_lt_length_iff.mpr hmr
    have hlr : z.reverse.length = z.length := List.length_reverse
    have hg : z.reverse[z.reverse.idxOf c]? = some c := by rw [List.getElem?_eq_getElem hx, List.getElem_idxOf hx]
    rw [List.getElem?_reverse (by omega)] at hg
    have le1 : z.length - 1 - z.reverse.idxOf c ≤ i := by
      rcases Nat.lt_or_ge i (z.length - 1 - z.reverse.idxOf c) with q | q
      · exact absurd ((at_ _).mpr hg) (h3 _ q)
      · exact q
    have le2 : z.reverse.idxOf c ≤ z.length - 1 - i := by
      have hq : z.reverse[z.length - 1 - i]? = some c := by
        rw [List.getElem?_reverse (by omega)]
        have : z.length - 1 - (z.length - 1 - i) = i := by omega
        rw [this]; exact hi
      rcases Nat.lt_or_ge (z.length - 1 - i) (z.reverse.idxOf c) with q | q
      · have := List.not_of_lt_findIdx (p := (· == c)) (xs := z.reverse) (i := z.length - 1 - i) q
        obtain ⟨hl2, he2⟩ := List.getElem?_eq_some_iff.mp hq
        rw [he2] at this
        simp at this
      · exact q
    show (i : Int) = _
    omega
theorem mCount_ok : MtS K oCount (fun x xs H Q => ∃ a b, x = .str a ∧ xs = [.str b] ∧ Q (.int (Txt.count a b)) H) := by
  intro G W ρ S env σ mem H x v xs vs Q R rx r h
  unfold oCount at h
  split at h
  · simp only [Rvs, Rv] at r rx
    obtain ⟨v', s, rfl, rfl, rfl⟩ := r
    subst rx
    refine ⟨_, _, rfl, rfl, ?_⟩
    rw [count_one]
    exact sat_pure R h (by simp only [Rv])
  · exact h.elim
theorem mRfind_ok : MtS K oRfind (fun x xs H Q => ∃ a b, x = .str a ∧ xs = [.str b] ∧ Q (.int (Txt.rfind a b)) H) := by
  intro G W ρ S env σ mem H x v xs vs Q R rx r h
  unfold oRfind at h
  split at h
  · simp only [Rvs, Rv] at r rx
    obtain ⟨v', s, rfl, rfl, rfl⟩ := r
    subst rx
    refine ⟨_, _, rfl, rfl, ?_⟩
    rw [rfind_one]
    exact sat_pure R h (by simp only [Rv])
  · exact h.elim
end
end Vm
end
section
set_option Elab.async false
set_option linter.all false
set_option autoImplicit false
set_option maxRecDepth 100000
/-! SimU: join; changes of lists; types. -/
namespace Vm
open PySem PySem.Spec PyProof.Rows L2
section
variable {K : PySem.W.Frag} {X : Cx}
theorem joinG_eq (s : Sg) : ∀ zs : List Sg, joinG s zs = TL.joinL s zs
  | [] => rfl
  | [_] => rfl
  | x :: y :: r => by
    show x ++ (s ++ joinG s (y :: r)) = x ++ (s ++ TL.joinL s (y :: r))
    rw [joinG_eq s (y :: r)]
theorem asTs_ok {G : Gc} {ρ : List Addr} {S : Addr → Prop} {H : Hp} : ∀ {xs : List Va} {vs : List V} {zs : List Sg}, asTs xs = some zs → Rvs K G ρ S H xs vs → vs = (zs.map sg).map V.str
  | [], vs, zs, h, r => by simp only [asTs] at h; cases h; simp only [Rvs] at r; subst r; rfl
  | x :: s, vs, zs, h, r => by
    simp only [Rvs] at r
    obtain ⟨v, t, rfl, r1, r2⟩ := r
    cases x <;> simp only [asTs] at h <;> try cases h
    obtain ⟨b, h1, rfl⟩ := opt_map h
    simp only [Rv] at r1
    subst r1
    rw [asTs_ok h1 r2]; rfl
theorem mJoin_ok : MtS K oJoin (fun x xs H Q => ∃ a p, ∃ ys : List Str, x = .str a ∧ xs = [.ref p] ∧ (SqL K H p (ys.map V.str) ∨ SqT K H p (ys.map V.str)) ∧ (ys.map (·.length)).sum + ys.length * a.length ≤ 16777216 ∧ Q (.str (Txt.join a ys)) H) := by
  intro G W ρ S env σ mem H x v xs vs Q R rx r h
  unfold oJoin at h
  split at h
  · rename_i s y
    simp only [Rvs, Rv] at r rx
    obtain ⟨v', t, rfl, r1, rfl⟩ := r
    subst rx
    simp only [bind_eq] at h
    rcases asQ_case y mem with ⟨xs, e⟩ | e
    · rw [e] at h
      obtain ⟨a, us, rfl, sq, rs⟩ := asQ_at R.toRelM r1 e
      simp only [bind_ok] at h
      cases ez : asTs xs with
      | none => rw [ez] at h; exact h.elim
      | some zs =>
        rw [ez] at h
        simp only [lift_some, bind_ok] at h
        unfold joinC at h
        split at h
        · rename_i hl
          have := asTs_ok ez rs
          subst this
          refine ⟨_, a, zs.map sg, rfl, rfl, sq, ?_, ?_⟩
          · rw [SX.lens, List.length_map, sg_length]; exact hl
          · rw [SX.join_S, ← joinG_eq]
            exact sat_pure R h (by simp only [Rv])
        · exact h.elim
    · rw [e] at h; exact h.elim
  · exact h.elim
/-! ### changes of lists -/
/-- a list's cell, written -/
theorem sat_setL {G : Gc} {W : WX} {ρ : List Addr} {S : Addr → Prop} {H : Hp} {env : Env} {mem : Mem} {σ : L2.St} {Q : VK} {n : Nat} {a : Addr} {y : Va} {v : V} {ys : List Va} {us vs : List V} (R : Rel K G ρ S H env mem σ) (ha : ρ[n]? = some a) (hl : H a = some (.lst vs)) (h : Sat K G (Rv K G) ρ S env σ H W Q (.ok y (mem.set n (.lst ys))))
    (rv : Rv K G ρ S H y v) (rs : Rvs K G ρ S H ys us) : Q v (upd H a (.lst us)) := by
  have e : Ext ρ S H ρ S (upd H a (.lst us)) := ext_set (List.mem_of_getElem? ha)
  refine h ρ S _ v e (rel_set R ha ⟨_, hl, (by intro _ z; cases z), (by intro _ z; cases z), (by intro _ z; cases z)⟩ ⟨us, upd_same, Rvs.mono e R.out _ _ rs⟩) (Rv.mono e R.out _ _ rv)
theorem lst_at {G : Gc} {ρ : List Addr} {S : Addr → Prop} {H : Hp} {mem : Mem} {n : Nat} {v : V} {xs : List Va} (R : RelM K G ρ S H mem) (r : Rv K G ρ S H (.ref n) v) (h : mem[n]? = some (.lst xs)) : ∃ a vs, v = .ref a ∧ ρ[n]? = some a ∧ H a = some (.lst vs) ∧ Rvs K G ρ S H xs vs := by
  simp only [Rv] at r
  obtain ⟨a, rfl, ha⟩ := r
  obtain ⟨b, h1, vs, h2, h3⟩ := R.cell _ _ h
  rw [ha] at h1; cases h1
  exact ⟨a, vs, rfl, ha, h2, h3⟩
theorem rvs_erase {G : Gc} {ρ : List Addr} {S : Addr → Prop} {H : Hp} : ∀ (j : Nat) {xs : List Va} {vs : List V}, Rvs K G ρ S H xs vs → Rvs K G ρ S H (xs.eraseIdx j) (vs.eraseIdx j)
  | j, [], vs, r => by simp only [Rvs] at r; subst r; simp only [List.eraseIdx_nil, Rvs]
  | 0, x :: s, vs, r => by simp only [Rvs] at r; obtain ⟨v, t, rfl, r1, r2⟩ := r; exact r2
  | j + 1, x :: s, vs, r => by
    simp only [Rvs] at r
    obtain ⟨v, t, rfl, r1, r2⟩ := r
    simp only [List.eraseIdx_cons_succ, Rvs]
    exact ⟨v, _, rfl, r1, rvs_erase j r2⟩
theorem mAppend_ok : MtS K oAppend rAppend := by
  intro G W ρ S env σ mem H x v xs vs Q R rx r h
  unfold oAppend at h
  split at h
  · rename_i n y
    split at h
    · rename_i ys hn
      split at h
      · rename_i hl
        obtain ⟨a, us, rfl, ha, h1, h2⟩ := lst_at R.toRelM rx hn
        simp only [Rvs] at r
        obtain ⟨u, t, rfl, r1, rfl⟩ := r
        exact ⟨a, us, u, rfl, rfl, h1, by rw [rvs_length h2, ← line_eq]; exact hl, sat_setL R ha h1 h (by simp only [Rv]) (rvs_append h2 (rvs_cons r1 rvs_nil))⟩
      · exact h.elim
    · exact h.elim
  · exact h.elim
theorem mExtend_ok : MtS K oExtend rExtend := by
  intro G W ρ S env σ mem H x v xs vs Q R rx r h
  unfold oExtend at h
  split at h
  · rename_i n y
    split at h
    · rename_i ys zs m' hn hz
      split at h
      · rename_i hl
        obtain ⟨a, us, rfl, ha, h1, h2⟩ := lst_at R.toRelM rx hn
        simp only [Rvs] at r
        obtain ⟨u, t, rfl, r1, rfl⟩ := r
        obtain ⟨_, b, ws, rfl, g1, g2⟩ := asL_ok R r1 hz
        exact ⟨a, b, us, ws, rfl, rfl, h1, g1, by rw [rvs_length h2, rvs_length g2, ← line_eq]; exact hl, sat_setL R ha h1 h (by simp only [Rv]) (rvs_append h2 g2)⟩
      · exact h.elim
    · exact h.elim
  · exact h.elim
theorem rvs_dropLast {G : Gc} {ρ : List Addr} {S : Addr → Prop} {H : Hp} {xs : List Va} {vs : List V} (r : Rvs K G ρ S H xs vs) : Rvs K G ρ S H xs.dropLast vs.dropLast := by
  rw [List.dropLast_eq_take, List.dropLast_eq_take, rvs_length r]
  exact rvs_take _ r
theorem mPop_ok : MtS K oPop rPop := by
  intro G W ρ S env σ mem H x v xs vs Q R rx r h
  unfold oPop at h
  split at h
  · rename_i n
    split at h
    · rename_i ys hn
      split at h
      · rename_i y hy
        obtain ⟨a, us, rfl, ha, h1, h2⟩ := lst_at R.toRelM rx hn
        simp only [Rvs] at r
        subst r
        obtain ⟨u, g1, g2⟩ := rvs_get h2 hy
        exact ⟨a, us, u, rfl, rfl, h1, by rw [rvs_length h2]; exact g1, sat_setL R ha h1 h g2 (rvs_dropLast h2)⟩
      · exact h.elim
    · exact h.elim
  · exact h.elim
theorem mPopAt_ok : MtS K oPopAt rPopAt := by
  intro G W ρ S env σ mem H x v xs vs Q R rx r h
  unfold oPopAt at h
  split at h
  · rename_i n i
    split at h
    · rename_i ys hn
      split at h
      · rename_i j hj
        split at h
        · rename_i y hy
          split at h
          · rename_i hl
            obtain ⟨a, us, rfl, ha, h1, h2⟩ := lst_at R.toRelM rx hn
            simp only [Rvs, Rv] at r
            obtain ⟨u, t, rfl, rfl, rfl⟩ := r
            obtain ⟨u, g1, g2⟩ := rvs_get h2 hy
            obtain ⟨k1, k2, k3, k4⟩ := ixN_seq (ixV_ok hj)
            have hl' : ys.length ≤ 16777216 := hl
            refine ⟨a, us, i, j, u, rfl, rfl, h1, by omega, by omega, by rw [rvs_length h2]; exact k1, g1, sat_setL R ha h1 h g2 (rvs_erase j h2)⟩
          · exact h.elim
        · exact h.elim
      · exact h.elim
    · exact h.elim
  · exact h.elim
/-! ### types -/
theorem tyS_ok {G : Gc} {ρ : List Addr} {S : Addr → Prop} {H : Hp} {mem : Mem} {x : Va} {v : V} {t : String} (R : RelM K G ρ S H mem) (r : Rv K G ρ S H x v) (h : tyS x mem = some t) : TyX K H v (.type t) := by
  unfold tyS at h
  split at h
  · cases h; simp only [Rv] at r; subst r; exact .base .non
  · cases h; simp only [Rv] at r; subst r; exact .base (.bl _)
  · cases h; simp only [Rv] at r; subst r; exact .base (.int _)
  · cases h; simp only [Rv] at r; subst r; exact .base (.str _)
  · cases h; simp only [Rv] at r; obtain ⟨a, vs, rfl, h1, _⟩ := r; exact .base (.tup h1.2)
  · cases h; simp only [Rv] at r; obtain ⟨a, vs, rfl, ⟨o, its, n, h1, h2, _⟩, _⟩ := r; exact .kTuple h1 h2
  · cases h; simp only [Rv] at r; obtain ⟨a, vs, rfl, h1, _⟩ := r; exact .base (.lst h1.2)
  · cases h
    simp only [Rv] at r
    obtain ⟨a, rfl, ⟨_, h1 | ⟨o, h1⟩⟩ | ⟨o, its, n, h1, h2, _⟩⟩ := r
    · exact .base (.lst h1)
    · exact .base (.frz h1)
    · exact .kList h1 h2
  · cases h
    simp only [Rv] at r
    obtain ⟨a, rfl, _, ⟨_, ps, h1, _⟩ | ⟨_, ps, h1, _⟩⟩ := r
    · exact .base (.dK h1)
    · exact .base (.dT h1)
  · split at h
    · rename_i hn
      cases h
      obtain ⟨a, us, rfl, ha, h1, h2⟩ := lst_at R r hn
      exact .base (.lst h1)
    · rename_i hn
      cases h
      simp only [Rv] at r
      obtain ⟨a, rfl, ha⟩ := r
      obtain ⟨b, h1, h2⟩ := R.cell _ _ hn
      rw [ha] at h1; cases h1
      rcases h2 with ⟨_, ps, h2, _⟩ | ⟨_, ps, h2, _⟩
      · exact .base (.dK h2)
      · exact .base (.dT h2)
    · cases h
  · cases h
end
end Vm
end
section
set_option Elab.async false
set_option linter.all false
set_option autoImplicit false
set_option maxRecDepth 100000
/-! SimQ: isinstance, type. -/
namespace Vm
open PySem PySem.Spec PyProof.Rows L2
/-- what the written part tells of the built-in types -/
def KitsOk (K : PySem.W.Frag) (ns : List String) : Prop := ∀ t ∈ tys7, ∀ n ∈ ns, PySem.W.kitOne K (.type t) (.type n) = some (isub t n)
section
variable {K : PySem.W.Frag} {X : Cx}
theorem tyS_in {x : Va} {m : Mem} {t : String} (h : tyS x m = some t) : t ∈ tys7 := by
  unfold tyS at h
  repeat' split at h
  all_goals first | (cases h; simp) | cases h
theorem tyNs_ok {G : Gc} {ρ : List Addr} {S : Addr → Prop} {H : Hp} : ∀ {xs : List Va} {vs : List V} {ns : List String}, tyNs xs = some ns → Rvs K G ρ S H xs vs → vs = ns.map V.ty
  | [], vs, ns, h, r => by simp only [tyNs] at h; cases h; simp only [Rvs] at r; subst r; rfl
  | x :: s, vs, ns, h, r => by
    simp only [Rvs] at r
    obtain ⟨v, t, rfl, r1, r2⟩ := r
    cases x <;> simp only [tyNs] at h <;> try cases h
    obtain ⟨b, h1, rfl⟩ := opt_map h
    simp only [Rv] at r1
    subst r1
    rw [tyNs_ok h1 r2]; rfl
theorem kitAny_ok {ns us : List String} {t : String} (hk : KitsOk K ns) (ht : t ∈ tys7) : (∀ u ∈ us, u ∈ ns) → PySem.W.kitAny K (.type t) (us.map Value.type) = some (us.any (isub t)) := by
  induction us with
  | nil => intro _; rfl
  | cons u r ih =>
    intro h
    rw [List.map_cons]
    unfold PySem.W.kitAny
    rw [hk t ht u (h u (List.mem_cons_self ..)), List.any_cons]
    cases isub t u with
    | true => rfl
    | false => exact ih fun z hz => h z (List.mem_cons_of_mem _ hz)
theorem paired_ty : ∀ us : List String, Paired ClsV (us.map V.ty) (us.map Value.type)
  | [] => .nil
  | u :: r => .cons (.ty u) (paired_ty r)
theorem call_isiV : CallR X (.builtin "isinstance") (fun xs H Q => rIsi X.K xs H Q ∨ rIsiT X.K xs H Q) := CallR.or call_isi call_isiT
theorem bIsi_ok {ns : List String} (hk : KitsOk K ns) : CallS K (bIsi ns) (fun xs H Q => rIsi K xs H Q ∨ rIsiT K xs H Q) := by
  intro G W ρ S env σ mem H xs vs Q R r h
  unfold bIsi at h
  split at h
  · rename_i x n
    split at h
    · rename_i t ht
      split at h
      · rename_i hn
        simp only [Rvs] at r
        obtain ⟨v, s, rfl, r1, v2, s2, rfl, r2, rfl⟩ := r
        simp only [Rv] at r2
        subst r2
        exact .inl ⟨v, _, _, _, _, rfl, .ty n, tyS_ok R.toRelM r1 ht, hk t (tyS_in ht) n hn, sat_pure R h (by simp only [Rv])⟩
      · exact h.elim
    · exact h.elim
  · rename_i x cs
    split at h
    · rename_i t us ht hu
      split at h
      · rename_i hn
        simp only [Rvs] at r
        obtain ⟨v, s, rfl, r1, v2, s2, rfl, r2, rfl⟩ := r
        simp only [Rv] at r2
        obtain ⟨a, ws, rfl, h1, h2⟩ := r2
        have := tyNs_ok hu h2
        subst this
        exact .inr ⟨v, a, _, _, _, _, rfl, h1.2, paired_ty us, tyS_ok R.toRelM r1 ht, kitAny_ok hk (tyS_in ht) (by simpa using hn), sat_pure R h (by simp only [Rv])⟩
      · exact h.elim
    · exact h.elim
  · exact h.elim
theorem bType_ok : CallS K bType (rTyp K) := by
  intro G W ρ S env σ mem H xs vs Q R r h
  unfold bType one1 at h
  split at h
  · rename_i x
    simp only [Rvs] at r
    obtain ⟨v, s, rfl, r1, rfl⟩ := r
    unfold uType at h
    split at h
    · exact h.elim
    · exact h.elim
    · split at h
      · rename_i hn
        obtain ⟨a, us, rfl, ha, h1, h2⟩ := lst_at R.toRelM r1 hn
        exact ⟨_, _, rfl, .lst (SqL.of h1), sat_pure R h (by simp only [Rv])⟩
      · rename_i hn
        simp only [Rv] at r1
        obtain ⟨a, rfl, ha⟩ := r1
        obtain ⟨b, h1, h2⟩ := R.cell _ _ hn
        rw [ha] at h1; cases h1
        rcases h2 with ⟨_, ps, h2, _⟩ | ⟨z, _⟩
        · exact ⟨_, _, rfl, .dK h2, sat_pure R h (by simp only [Rv])⟩
        · cases z
      · exact h.elim
    · rename_i nd1 nd2 nr
      cases x with
      | non => simp only [Rv] at r1; subst r1; exact ⟨_, _, rfl, .non, sat_pure R h (by simp only [Rv])⟩
      | bl b => simp only [Rv] at r1; subst r1; exact ⟨_, _, rfl, .bl _, sat_pure R h (by simp only [Rv])⟩
      | int i => simp only [Rv] at r1; subst r1; exact ⟨_, _, rfl, .int _, sat_pure R h (by simp only [Rv])⟩
      | str z => simp only [Rv] at r1; subst r1; exact ⟨_, _, rfl, .str _, sat_pure R h (by simp only [Rv])⟩
      | tup ys => simp only [Rv] at r1; obtain ⟨a, us, rfl, h1, h2⟩ := r1; exact ⟨_, _, rfl, .tup h1.sq, sat_pure R h (by simp only [Rv])⟩
      | wtp ys => simp only [Rv] at r1; obtain ⟨a, us, rfl, h1, h2⟩ := r1; exact ⟨_, _, rfl, .tup h1.sq, sat_pure R h (by simp only [Rv])⟩
      | lst ys => simp only [Rv] at r1; obtain ⟨a, us, rfl, h1, h2⟩ := r1; exact ⟨_, _, rfl, .lst h1.sq, sat_pure R h (by simp only [Rv])⟩
      | scr ys => simp only [Rv] at r1; obtain ⟨a, rfl, h1⟩ := r1; exact ⟨_, _, rfl, .lst (h1.imp (·.2) id), sat_pure R h (by simp only [Rv])⟩
      | dct t kvs => cases t with
        | true => exact (nd1 _ rfl).elim
        | false => exact (nd2 _ rfl).elim
      | ref n => exact (nr n rfl).elim
      | ty _ => exact h.elim
      | fn _ => exact h.elim
      | obj _ _ => exact h.elim
      | clo _ _ => exact h.elim
  · exact h.elim
end
end Vm
end
section
set_option Elab.async false
set_option linter.all false
set_option autoImplicit false
set_option maxRecDepth 100000
/-! SimZ: list comprehensions. -/
namespace Vm
open PySem PySem.Spec PyProof.Rows L2
abbrev W0 : WX := fun _ _ _ _ => False
section
variable (K : PySem.W.Frag) (G : Gc)
/-- behind a target that stores in the slots vs alone -/
def SatP (ρ : List Addr) (S : Addr → Prop) (H : Hp) (vs : List Nat) (σ : L2.St) (Q : L2.St → Hp → Prop) : Res Env → Prop
  | .ok e m => ∀ ρ' S' H' σ', Ext ρ S H ρ' S' H' → Rel K G ρ' S' H' e m σ' → wipe σ' vs = wipe σ vs → Q σ' H'
  | _ => False
def tGP (vs : List Nat) (g : Va → Env → M Env) : TG := fun v σ H Q => ∃ ρ S env mem w, Rel K G ρ S H env mem σ ∧ Rv K G ρ S H w v ∧ SatP K G ρ S H vs σ Q (g w env mem)
def tGPs (vs : List Nat) (g : List Va → Env → M Env) : TGs := fun ws σ H Q => ∃ ρ S env mem xs, Rel K G ρ S H env mem σ ∧ Rvs K G ρ S H xs ws ∧ SatP K G ρ S H vs σ Q (g xs env mem)
end
abbrev SP (X : Cx) (G : Gc) (vs : List Nat) (tg : Expr) (g : Va → Env → M Env) : Prop := PG X tg (tGP X.K G vs g)
abbrev SPs (X : Cx) (G : Gc) (vs : List Nat) (tgs : List Expr) (g : List Va → Env → M Env) : Prop := PGs X tgs (tGPs X.K G vs g)
theorem wipe_set {σ : L2.St} {i : Nat} {v : Option V} : ∀ {vs : List Nat}, i ∈ vs → wipe (σ.set i v) vs = wipe σ vs
  | w :: r, h => by
    unfold wipe
    by_cases e : i ∈ r
    · rw [wipe_set e]
    · rcases List.mem_cons.mp h with h | h
      · subst h
        have : ∀ (r : List Nat), i ∉ r → wipe (σ.set i v) r = (wipe σ r).set i v := by
          intro r
          induction r with
          | nil => intro _; rfl
          | cons y t ih =>
            intro hn
            unfold wipe
            rw [ih (fun z => hn (List.mem_cons_of_mem _ z)), List.set_comm _ _ (fun z => hn (by rw [z]; exact List.mem_cons_self ..))]
        rw [this r e, List.set_set]
      · exact absurd h e
section
variable {X : Cx} {G : Gc} {W : WX} {pos : Pos} {a : Expr} {vs : List Nat}
theorem sp_var {i : Nat} {x : Str} (hN : X.N.Nodup) (hi : X.N[i]? = some x) (hx : Loc X.env.scope x) (hv : i ∈ vs) (hf : X.fn x = true ∨ X.env.scope.names.lookup x = some .local := by first | exact .inl rfl | exact .inr rfl | assumption) : SP X G vs (.Name x pos) (gVar i) :=
  PG.imp (pg_name hN hi hx hf) fun v σ H Q ⟨ρ, S, env, mem, w, R, r, h⟩ => h ρ S H _ Ext.refl (R.put r) (wipe_set hv)
theorem sp_nil : SPs X G vs [] gNil := PGs.imp pgs_nil fun ws σ H Q ⟨ρ, S, env, mem, xs, R, r, h⟩ => by
  cases xs with
  | nil => simp only [Rvs] at r; exact ⟨r, h ρ S H σ Ext.refl R rfl⟩
  | cons _ _ => exact h.elim
theorem SatP.bind {K : PySem.W.Frag} {ρ : List Addr} {S : Addr → Prop} {H : Hp} {σ : L2.St} {f : Env → Mem → Res Env} {Q : L2.St → Hp → Prop} : ∀ {r : Res Env}, SatP K G ρ S H vs σ Q (r.bind f) →
    SatP K G ρ S H vs σ (fun σ1 H1 => ∃ ρ1 S1 e m1, Ext ρ S H ρ1 S1 H1 ∧ Rel K G ρ1 S1 H1 e m1 σ1 ∧ SatP K G ρ1 S1 H1 vs σ1 Q (f e m1)) r
  | .ok w m, h => fun ρ1 S1 H1 σ1 e R hw => ⟨ρ1, S1, w, m, e, R, by
      have h : SatP K G ρ S H vs σ Q (f w m) := h
      revert h
      cases f w m with
      | ok e' m' => exact fun h ρ' S' H' σ' e2 R2 hw2 => h ρ' S' H' σ' (e.trans e2) R2 (hw2.trans hw)
      | er _ _ _ => exact fun h => h
      | no => exact fun h => h⟩
  | .er _ _ _, h => h
  | .no, h => h
theorem SatP.imp {K : PySem.W.Frag} {ρ : List Addr} {S : Addr → Prop} {H : Hp} {σ : L2.St} {Q Q' : L2.St → Hp → Prop} (i : ∀ σ H, Q σ H → Q' σ H) : ∀ {r : Res Env}, SatP K G ρ S H vs σ Q r → SatP K G ρ S H vs σ Q' r
  | .ok _ _, h => fun ρ' S' H' σ' e2 R hw => i _ _ (h ρ' S' H' σ' e2 R hw)
  | .er _ _ _, h => h
  | .no, h => h
theorem sp_cons {tgs : List Expr} {gt : Va → Env → M Env} {gts : List Va → Env → M Env} (h1 : SP X G vs a gt) (h2 : SPs X G vs tgs gts) (hs : (assignEach (a :: tgs) X.env).map (·.2) = assign a X.env :: (assignEach tgs X.env).map (·.2) := by rfl) : SPs X G vs (a :: tgs) (gCons gt gts) :=
  PGs.imp (pgs_cons h1 h2 hs) fun ws σ H Q ⟨ρ, S, env, mem, xs, R, r, h⟩ => by
    cases xs with
    | nil => exact h.elim
    | cons w ws =>
      simp only [Rvs] at r
      obtain ⟨v, s, rfl, r1, r2⟩ := r
      exact ⟨v, s, rfl, ρ, S, env, mem, w, R, r1, (SatP.bind h).imp fun σ2 H2 ⟨ρ2, S2, e, m2, e2, R2, h2⟩ => ⟨ρ2, S2, e, m2, ws, R2, Rvs.mono e2 R.out _ _ r2, h2⟩⟩
theorem sp_tup {tgs : List Expr} {gts : List Va → Env → M Env} {k n : Nat} (hc : X.calm = true) (h : SPs X G vs tgs gts) (hn : (assignEach tgs X.env).length = n := by rfl) (hst : (assignEach tgs X.env).findIdx? (·.1) = none := by rfl) :
    SP X G vs (.Tuple tgs k pos) (gTup n gts) :=
  PG.imp (PG.or (pg_tup hc h hn hst) (pg_unl hc h hn hst)) fun v σ H Q ⟨ρ, S, env, mem, w, R, r, h⟩ => by
    unfold gTup at h
    rcases asQ_case w mem with ⟨xs, e⟩ | e
    · simp only [bind_eq, e, bind_ok] at h
      obtain ⟨_, a, us, rfl, sq, rs⟩ := asQ_ok R.toRelM r e
      split at h
      · rename_i hl
        rcases sq with sq | sq
        · exact .inr ⟨a, us, rfl, sq, by rw [rvs_length rs, hl], ρ, S, env, mem, xs, R, rs, h⟩
        · exact .inl ⟨a, us, rfl, sq, by rw [rvs_length rs, hl], ρ, S, env, mem, xs, R, rs, h⟩
      · exact h.elim
    · simp only [bind_eq, e, bind_no] at h; exact h.elim
end
theorem wipeE_len (env : Env) : ∀ vs : List Nat, (wipeE env vs).length = env.length
  | [] => rfl
  | v :: vs => by unfold wipeE; rw [List.length_set, wipeE_len env vs]
theorem wipeE_some {env : Env} {i : Nat} {x : Va} : ∀ {vs : List Nat}, (wipeE env vs)[i]? = some (some x) → env[i]? = some (some x) ∧ i ∉ vs
  | [], h => ⟨h, by simp⟩
  | v :: vs, h => by
    unfold wipeE at h
    by_cases hi : v = i
    · subst hi
      by_cases hv : v < (wipeE env vs).length
      · rw [List.getElem?_set_self hv] at h; cases h
      · rw [List.getElem?_eq_none (by simpa using hv)] at h; cases h
    · rw [List.getElem?_set_ne hi] at h
      obtain ⟨h1, h2⟩ := wipeE_some h
      exact ⟨h1, by simp only [List.mem_cons, not_or]; exact ⟨fun e => hi e.symm, h2⟩⟩
section
variable {X : Cx} {K : PySem.W.Frag} {G : Gc} {W : WX} {ρ : List Addr} {S : Addr → Prop} {H : Hp} {env : Env} {mem : Mem} {σ : L2.St} {vs : List Nat}
theorem rel_wipe (R : Rel K G ρ S H env mem σ) (vs : List Nat) : Rel K G ρ S H (wipeE env vs) mem (wipe σ vs) :=
  ⟨R.toRelM, fun i x h => by
    obtain ⟨h1, h2⟩ := wipeE_some h
    obtain ⟨v, h3, h4⟩ := R.slot i x h1
    exact ⟨v, by rw [wipe_out h2]; exact h3, h4⟩, by rw [wipeE_len, wipe_length]; exact R.size⟩
/-- what a turn wants of the list's cell -/
theorem push_ok {n : Nat} {D : Addr} {y : Va} {v : V} {Q : Hp → Prop} (R : RelM K G ρ S H mem) (hD : ρ[n]? = some D) (ry : Rv K G ρ S H y v) {m' : Mem} (h : pushM n y mem = .ok () m')
    (q : ∀ acc, H D = some (.lst acc) → Ext ρ S H ρ S (upd H D (.lst (acc ++ [v]))) → RelM K G ρ S (upd H D (.lst (acc ++ [v]))) m' → Q (upd H D (.lst (acc ++ [v])))) :
    ∃ acc, H D = some (.lst acc) ∧ acc.length < sizeLine ∧ Q (upd H D (.lst (acc ++ [v]))) := by
  unfold pushM at h
  split at h
  · rename_i xs hn
    split at h
    · rename_i hl
      injection h with _ h
      subst h
      obtain ⟨b, h1, us, h2, h3⟩ := R.cell _ _ hn
      rw [hD] at h1; cases h1
      have e : Ext ρ S H ρ S (upd H D (.lst (us ++ [v]))) := ext_set (List.mem_of_getElem? hD)
      have R0 : Rel K G ρ S H [] mem [] := ⟨R, (fun i x h => by simp at h), rfl⟩
      refine ⟨us, h2, by rw [rvs_length h3, ← line_eq]; exact hl, q us h2 e (rel_set (c := .lst (xs ++ [y])) (o := .lst (us ++ [v])) R0 hD ⟨_, h2, (by intro _ z; cases z), (by intro _ z; cases z), (by intro _ z; cases z)⟩ ⟨_, upd_same, Rvs.mono e R.out _ _ (rvs_append h3 (rvs_cons ry rvs_nil))⟩).toRelM⟩
    · cases h
  · cases h
theorem push_case (n : Nat) (y : Va) (m : Mem) : (∃ m', pushM n y m = .ok () m') ∨ pushM n y m = .no := by
  unfold pushM
  repeat' split
  all_goals first | exact .inl ⟨_, rfl⟩ | exact .inr rfl
/-- the rest of the comprehension, wanted -/
def SatLc (K : PySem.W.Frag) (G : Gc) (ρ : List Addr) (S : Addr → Prop) (env : Env) (σ : L2.St) (H : Hp) (W : WX) (Q : VK) (n : Nat) (r : Res Unit) : Prop := Sat K G (Rv K G) ρ S env σ H W Q (endLc n r)
/-- one turn -/
theorem lct_ok {env0 : Env} {σ0 : L2.St} {gt : Va → Env → M Env} {t : Env → M Bool} {el : Env → M Va} {n : Nat} {D : Addr} {x : Va} {v : V} {Q : VK} {k : Mem → Res Unit} {N : Hp → Prop} (R : Rel K G ρ S H (wipeE env vs) mem (wipe σ vs)) (hD : ρ[n]? = some D) (rx : Rv K G ρ S H x v)
    (hN : ∀ ρ' S' H' m', Ext ρ S H ρ' S' H' → RelM K G ρ' S' H' m' → SatLc K G ρ' S' env0 σ0 H' W Q n (k m') → N H')
    (h : SatLc K G ρ S env0 σ0 H W Q n ((lcT n gt t el x (wipeE env vs) mem).bind fun _ m => k m)) :
    tGP K G vs gt v (wipe σ vs) H fun σ2 H2 => wipe σ2 vs = wipe σ vs ∧ tT K G W0 t σ2 H2 fun b H3 => if b = true then tE K G W0 el σ2 H3 fun y H4 => ∃ acc, H4 D = some (.lst acc) ∧ acc.length < sizeLine ∧ N (upd H4 D (.lst (acc ++ [y]))) else N H3 := by
  have ww : wipe (wipe σ vs) vs = wipe σ vs := by
    have : ∀ (us ws : List Nat), (∀ u ∈ us, u ∈ ws) → wipe (wipe σ ws) us = wipe σ ws := by
      intro us
      induction us with
      | nil => intro ws _; rfl
      | cons u r ih =>
        intro ws hs
        show (wipe (wipe σ ws) r).set u none = wipe σ ws
        rw [ih ws (fun z hz => hs z (List.mem_cons_of_mem _ hz))]
        have hu := hs u (List.mem_cons_self ..)
        apply List.ext_getElem?
        intro i
        by_cases e : u = i
        · subst e
          by_cases hl : u < (wipe σ ws).length
          · rw [List.getElem?_set_self hl]
            cases q : (wipe σ ws)[u]? with
            | none => rw [List.getElem?_eq_none_iff] at q; omega
            | some o => cases o with
              | none => rfl
              | some y => exact absurd hu (wipe_some q).2
          · rw [List.getElem?_eq_none (by simpa using hl), List.getElem?_eq_none (by simpa using hl)]
        · rw [List.getElem?_set_ne e]
    exact this vs vs (fun _ z => z)
  refine ⟨ρ, S, _, mem, x, R, rx, ?_⟩
  unfold lcT at h
  simp only [bind_eq] at h
  cases q1 : gt x (wipeE env vs) mem with
  | er _ _ _ => rw [q1] at h; exact h.elim
  | no => rw [q1] at h; exact h.elim
  | ok e m1 =>
    rw [q1] at h
    intro ρ1 S1 H1 σ1 e1 R1 hw
    refine ⟨hw.trans ww, ⟨ρ1, S1, e, m1, R1, ?_⟩⟩
    simp only [bind_ok] at h
    cases q2 : t e m1 with
    | er _ _ _ => rw [q2] at h; exact h.elim
    | no => rw [q2] at h; exact h.elim
    | ok b m2 =>
      rw [q2] at h
      intro ρ2 S2 H2 b' e2 R2 hb
      cases hb
      simp only [bind_ok] at h
      cases b with
      | false =>
        rw [if_neg (by simp)] at h ⊢
        exact hN ρ2 S2 H2 m2 (e1.trans e2) R2.toRelM (Sat.ext (e1.trans e2) h)
      | true =>
        rw [if_pos rfl] at h ⊢
        refine ⟨ρ2, S2, e, m2, R2, ?_⟩
        simp only [bind_eq] at h
        cases q3 : el e m2 with
        | er _ _ _ => rw [q3] at h; exact h.elim
        | no => rw [q3] at h; exact h.elim
        | ok y m3 =>
          rw [q3] at h
          simp only [bind_ok] at h
          intro ρ3 S3 H3 u e3 R3 ry
          have e13 := (e1.trans e2).trans e3
          rcases push_case n y m3 with ⟨m4, q4⟩ | q4
          · rw [q4] at h
            refine push_ok R3.toRelM (get_pre e13.pre hD) ry q4 fun acc ha ee RR => ?_
            exact hN ρ3 S3 _ m4 (e13.trans ee) RR (Sat.ext (e13.trans ee) h)
          · rw [q4] at h; exact h.elim
theorem takes_blk {X : Cx} : Takes X (WF fun _ _ _ => False) := fun _ _ ⟨_, _, _, _, _, _, _, _, _, _, _, _, _, _, _, _, z⟩ => z.elim
theorem lc_imp {K : PySem.W.Frag} {src : Env → M Src} {gt : Va → Env → M Env} {t : Env → M Bool} {el : Env → M Va} {own : List (Str × Nat)} {σ : L2.St} {H : Hp} {Q : VK} (z : tE K G W (eLcM src gt t el (own.map (·.2))) σ H Q) : tLc (tI K G W src) (tGP K G (own.map (·.2)) gt) (tT K G W0 t) (tE K G W0 el) (own.map (·.2)) σ H Q := by
  obtain ⟨ρ, S, env, mem, R, h⟩ := z
  refine ⟨ρ, S, env, mem, R, (Sat.bind (rel := fun ρ' S' H' (s : Src) (J : It) => Walks K G ρ' S' H' J (rdOf s)) h).imp fun J H1 ⟨ρ1, S1, s, m1, e1, R1, w1, h1⟩ D hDn => ?_⟩
  have hl1 : ρ1.length = m1.length := R1.len
  have e2 : Ext ρ1 S1 H1 (ρ1 ++ [D]) S1 (upd H1 D (.lst [])) := ext_cell hDn
  have R2 : Rel K G (ρ1 ++ [D]) S1 (upd H1 D (.lst [])) env (m1 ++ [.lst []]) σ := rel_cell R1 hDn ⟨[], upd_same, rvs_nil⟩
  have hD2 : (ρ1 ++ [D])[m1.length]? = some D := by rw [← hl1]; simp
  have R2w := rel_wipe R2 (own.map (·.2))
  have base : ∀ ρ' S' H' m', Ext (ρ1 ++ [D]) S1 (upd H1 D (.lst [])) ρ' S' H' → RelM K G ρ' S' H' m' → Rel K G ρ' S' H' (wipeE env (own.map (·.2))) m' (wipe σ (own.map (·.2))) := fun ρ' S' H' m' e R' => R2w.lift e R'
  have done : ∀ ρ' S' H' m', Ext (ρ1 ++ [D]) S1 (upd H1 D (.lst [])) ρ' S' H' → RelM K G ρ' S' H' m' → SatLc K G ρ' S' env σ H' W Q m1.length (.ok () m') → Q (.ref D) H' := fun ρ' S' H' m' e R' hq => by
    have hq : Sat K G (Rv K G) ρ' S' env σ H' W Q (.ok (.ref m1.length) m') := hq
    refine hq ρ' S' H' _ Ext.refl (R2.lift e R') ?_
    simp only [Rv]
    exact ⟨D, rfl, get_pre e.pre hD2⟩
  replace h1 : Sat K G (Rv K G) ρ1 S1 env σ H1 W Q (srcLc gt t el (own.map (·.2)) s env m1) := h1
  cases s with
  | val xs =>
    have h2 : SatLc K G (ρ1 ++ [D]) S1 env σ (upd H1 D (.lst [])) W Q m1.length (lcL m1.length gt t el xs (wipeE env (own.map (·.2))) (m1 ++ [.lst []])) := Sat.ext e2 h1
    refine ⟨fun i m H => ∃ ρ S mem, Ext (ρ1 ++ [D]) S1 (upd H1 D (.lst [])) ρ S H ∧ RelM K G ρ S H mem ∧ SatLc K G ρ S env σ H W Q m1.length (lcL m1.length gt t el (xs.drop i) (wipeE env (own.map (·.2))) mem) ∧ m = xs.length - i ∧ i ≤ xs.length,
      ⟨xs.length, ρ1 ++ [D], S1, m1 ++ [.lst []], Ext.refl, R2.toRelM, (by rw [List.drop_zero]; exact h2), rfl, Nat.zero_le _⟩, ?_⟩
    rintro i m H ⟨ρ, S, mem, e, R, h, rfl, hi⟩
    have RR := base ρ S H mem e R
    by_cases hlt : i < xs.length
    · rw [List.drop_eq_getElem_cons hlt] at h
      obtain ⟨go, yl⟩ := (w1 ρ S H _ mem _ (e2.trans e) RR xs rfl i).1 xs[i] (List.getElem?_eq_getElem hlt)
      refine .inr ⟨go, fun H' => ∃ ρ S mem, Ext (ρ1 ++ [D]) S1 (upd H1 D (.lst [])) ρ S H' ∧ RelM K G ρ S H' mem ∧ SatLc K G ρ S env σ H' W Q m1.length (lcL m1.length gt t el (xs.drop (i + 1)) (wipeE env (own.map (·.2))) mem),
        fun H' ⟨ρ, S, mem, a1, a2, a3⟩ => ⟨xs.length - (i + 1), by omega, ρ, S, mem, a1, a2, a3, rfl, hlt⟩, fun v H' y => ?_⟩
      obtain ⟨S', e3, R3, r3⟩ := yl v H' y
      exact lct_ok R3 (get_pre (e.trans e3).pre hD2) r3 (fun ρ' S'' H'' m' e4 R4 h4 => ⟨ρ', S'', m', (e.trans e3).trans e4, R4, h4⟩) (Sat.ext e3 h)
    · have hn : xs[i]? = none := List.getElem?_eq_none (by omega)
      rw [List.drop_eq_nil_of_le (by omega)] at h
      exact .inl ⟨(w1 ρ S H _ mem _ (e2.trans e) RR xs rfl i).2 hn, done ρ S H mem e R h⟩
  | live rd =>
    have h2 : SatLc K G (ρ1 ++ [D]) S1 env σ (upd H1 D (.lst [])) W Q m1.length (lcC m1.length gt t el rd fuel 0 (wipeE env (own.map (·.2))) (m1 ++ [.lst []])) := Sat.ext e2 h1
    refine ⟨fun i m H => ∃ ρ S mem, Ext (ρ1 ++ [D]) S1 (upd H1 D (.lst [])) ρ S H ∧ RelM K G ρ S H mem ∧ SatLc K G ρ S env σ H W Q m1.length (lcC m1.length gt t el rd m i (wipeE env (own.map (·.2))) mem),
      ⟨fuel, ρ1 ++ [D], S1, m1 ++ [.lst []], Ext.refl, R2.toRelM, h2⟩, ?_⟩
    rintro i m H ⟨ρ, S, mem, e, R, h⟩
    have RR := base ρ S H mem e R
    cases m with
    | zero => exact h.elim
    | succ m =>
      replace h : SatLc K G ρ S env σ H W Q m1.length (match rd mem with
          | none => .no
          | some xs => match xs[i]? with
            | none => .ok () mem
            | some x => (lcT m1.length gt t el x (wipeE env (own.map (·.2))) mem).bind fun _ m' => lcC m1.length gt t el rd m (i + 1) (wipeE env (own.map (·.2))) m') := h
      cases hr : rd mem with
      | none => rw [hr] at h; exact h.elim
      | some xs =>
        cases hx : xs[i]? with
        | none =>
          simp only [hr, hx] at h
          exact .inl ⟨(w1 ρ S H _ mem _ (e2.trans e) RR xs hr i).2 hx, done ρ S H mem e R h⟩
        | some x =>
          simp only [hr, hx] at h
          obtain ⟨go, yl⟩ := (w1 ρ S H _ mem _ (e2.trans e) RR xs hr i).1 x hx
          refine .inr ⟨go, fun H' => ∃ ρ S mem, Ext (ρ1 ++ [D]) S1 (upd H1 D (.lst [])) ρ S H' ∧ RelM K G ρ S H' mem ∧ SatLc K G ρ S env σ H' W Q m1.length (lcC m1.length gt t el rd m (i + 1) (wipeE env (own.map (·.2))) mem),
            fun H' z => ⟨m, Nat.lt_succ_self m, z⟩, fun v H' y => ?_⟩
          obtain ⟨S', e3, R3, r3⟩ := yl v H' y
          exact lct_ok R3 (get_pre (e.trans e3).pre hD2) r3 (fun ρ' S'' H'' m' e4 R4 h4 => ⟨ρ', S'', m', (e.trans e3).trans e4, R4, h4⟩) (Sat.ext e3 h)
theorem sim_lc {elt tg iter : Expr} {ifs : List Expr} {scope : Scope} {own : List (Str × Nat)} {pos : Pos} {src : Env → M Src} {gt : Va → Env → M Env} {t : Env → M Bool} {el : Env → M Va} (hc : X.calm = true) (hN : X.N.Nodup) (hi : SI X G W tg iter src) (ok : BlkOk X.N X.env.scope scope own) (hvs : own.map (·.2) = vs)
    (hg : ∀ (s : Shared) (H : Hp) (C : Addr) (cl : List (Str × Addr)) (fp : List Addr), SP (X.blk s H scope (compEnvC scope cl C X.env) fp) G vs tg gt)
    (ht : ∀ (s : Shared) (H : Hp) (C : Addr) (cl : List (Str × Addr)) (fp : List Addr), Takes (X.blk s H scope (compEnvC scope cl C X.env) fp) (WF fun _ _ _ => False) → PTs (X.blk s H scope (compEnvC scope cl C X.env) fp) ifs (tT X.K G W0 t))
    (he : ∀ (s : Shared) (H : Hp) (C : Addr) (cl : List (Str × Addr)) (fp : List Addr), Takes (X.blk s H scope (compEnvC scope cl C X.env) fp) (WF fun _ _ _ => False) → SE (X.blk s H scope (compEnvC scope cl C X.env) fp) G W0 elt el) (hs : ∀ x, foldedSetIterable iter X.env x = pure x := by intro _; rfl) :
    SE X G W (.ListComp elt [⟨tg, iter, ifs, 0⟩] scope pos) (eLcM src gt t el vs) := by
  subst hvs
  exact PE.imp (pe_lc (g := tGP X.K G (own.map (·.2)) gt) (tt := tT X.K G W0 t) (te := tE X.K G W0 el) hc hN hi ok hg (fun s H C cl fp => ht s H C cl fp takes_blk) (fun s H C cl fp => he s H C cl fp takes_blk) hs) fun σ H Q z => lc_imp z
theorem sim_setLc {i : Nat} {y : Str} {py spos : Pos} {elt tg iter : Expr} {ifs : List Expr} {scope : Scope} {own : List (Str × Nat)} {pos : Pos} {src : Env → M Src} {gt : Va → Env → M Env} {t : Env → M Bool} {el : Env → M Va} (hc : X.calm = true) (hN : X.N.Nodup) (hy : X.N[i]? = some y) (hyl : X.env.scope.names.lookup y = some .local)
    (hk : X.env.scope.kind = .function) (hl : (py.line == pos.line) = true) (hsc : (scope.names.any fun (n, k) => n == y && (k == .local || k == .cell)) = false) (hi : SI X G W tg iter src) (ok : BlkOk X.N X.env.scope scope own) (hvs : own.map (·.2) = vs)
    (hg : ∀ (s : Shared) (H : Hp) (C : Addr) (cl : List (Str × Addr)) (fp : List Addr), SP (X.blk s H scope (compEnvC scope cl C X.env) fp) G vs tg gt)
    (ht : ∀ (s : Shared) (H : Hp) (C : Addr) (cl : List (Str × Addr)) (fp : List Addr), Takes (X.blk s H scope (compEnvC scope cl C X.env) fp) (WF fun _ _ _ => False) → PTs (X.blk s H scope (compEnvC scope cl C X.env) fp) ifs (tT X.K G W0 t))
    (he : ∀ (s : Shared) (H : Hp) (C : Addr) (cl : List (Str × Addr)) (fp : List Addr), Takes (X.blk s H scope (compEnvC scope cl C X.env) fp) (WF fun _ _ _ => False) → SE (X.blk s H scope (compEnvC scope cl C X.env) fp) G W0 elt el) (hs : ∀ x, foldedSetIterable iter X.env x = pure x := by intro _; rfl) :
    SS X G W (.Assign [.Name y py] (.ListComp elt [⟨tg, iter, ifs, 0⟩] scope pos) spos) (sSet i (eLcM src gt t el vs)) := by
  subst hvs
  refine PS.imp (ps_setLc (i := i) (g := tGP X.K G (own.map (·.2)) gt) (tt := tT X.K G W0 t) (te := tE X.K G W0 el) hc hN hy hyl (sw_true hk hyl hl hsc) hi ok hg (fun s H C cl fp => ht s H C cl fp takes_blk) (fun s H C cl fp => he s H C cl fp takes_blk) hs) fun D σ H ⟨ρ, S, env, mem, R, h⟩ => ?_
  refine lc_imp (own := own) (Q := fun v H1 => gName i v σ H1 D.nx) ?_
  exact tX.of R ((SatS.ofE (rel := Rv X.K G) h).imp fun v H1 ⟨ρ1, S1, w, m1, e1, R1, r1, h1⟩ => h1 ρ1 S1 H1 _ Ext.refl (R1.put r1))
theorem pts_yes : PTs X [] (tT X.K G W0 tYesM) := ⟨fun pins s σ H Q I ⟨ρ, S, env, mem, R, h⟩ => (pts_nil (X := X)).run pins s σ H Q I (h ρ S H true Ext.refl R rfl)⟩
theorem pts_if {c : Expr} {t : Env → M Bool} (h : ST X G W0 c t) : PTs X [c] (tT X.K G W0 t) := pts_one h
end
end Vm
end
section
set_option Elab.async false
set_option linter.all false
set_option autoImplicit false
set_option maxRecDepth 100000
/-! SimR: starred items, empty dicts, pairs of dicts, the signs of a text, keywords. -/
namespace Vm
open PySem PySem.Spec PyProof.Rows L2
section
variable {X : Cx} {G : Gc} {W : WX} {e : Expr} {es : List Expr} {fe : Env → M Va} {fs : Env → M (List Va)} {p pos apos cpos : Pos}
theorem sim_star (ha : SE X G W e fe) (hr : SA X G W es fs) (hs : starEach (.Starred e p :: es) X.env = (true, eval e X.env) :: starEach es X.env := by rfl) : SA X G W (.Starred e p :: es) (aStar fe fs) :=
  PA.imp (StX.pa_star ha hr hs) fun σ H Q ⟨ρ, S, env, mem, R, h⟩ =>
    tX.of R ((Sat.bind (rel := Rv X.K G) h).imp fun v H1 ⟨ρ1, S1, w, m1, e1, R1, r1, h1⟩ => by
      simp only [bind_eq] at h1
      rcases asQ_case w m1 with ⟨xs, q⟩ | q
      · rw [q] at h1
        replace h1 : Sat X.K G (Rvs X.K G) ρ1 S1 env σ H1 W Q ((fs env m1).bind fun ys m => .ok (xs ++ ys) m) := h1
        obtain ⟨a, us, rfl, sq, rs⟩ := asQ_at R1.toRelM r1 q
        refine ⟨a, us, rfl, sq.symm, tX.of R1 ((Sat.bind (rel := Rvs X.K G) h1).imp fun ws H2 ⟨ρ2, S2, ys, m2, e2, R2, r2, h2⟩ => ?_)⟩
        exact h2 ρ2 S2 H2 _ Ext.refl R2 (rvs_append (Rvs.mono e2 R1.out _ _ rs) r2)
      · rw [q] at h1; exact h1.elim)
theorem sim_dictK : SE X G W (.Dict [] [] pos) eDictK :=
  PE.imp pe_dnewK fun σ H Q ⟨ρ, S, env, mem, R, h⟩ p hp => sat_cell R h hp (.inl ⟨rfl, _, upd_same, by simp only [RvK]⟩)
theorem sim_dictT : SE X G W (.Dict [] [] pos) eDictT :=
  PE.imp pe_dnewT fun σ H Q ⟨ρ, S, env, mem, R, h⟩ p hp => sat_cell R h hp (.inr ⟨rfl, _, upd_same, by simp only [RvT]⟩)
theorem keyV_rv {K : PySem.W.Frag} {ρ : List Addr} {S : Addr → Prop} {H : Hp} {k : Va} {q : Key} (h : keyV k = some q) : Rv K G ρ S H k (kV q) := by
  cases k <;> simp only [keyV] at h <;> first | cases h | skip
  all_goals (simp only [Rv]; rfl)
theorem rvk_pairs {K : PySem.W.Frag} {ρ ρ1 : List Addr} {S S1 : Addr → Prop} {H H1 : Hp} (e : Ext ρ S H ρ1 S1 H1) (out : ∀ a ∈ ρ, ¬ S a) : ∀ {kvs : List (Va × Va)} {ps : List (Key × V)} {as : List Addr}, RvK K G ρ S H kvs ps → (∀ a ∈ as, S1 a) → Paired (fun (t : Addr) (q : Key × V) => H1 t = some (.tup [kV q.1, q.2])) as ps →
    Rvs K G ρ1 S1 H1 (kvs.map fun p => .tup [p.1, p.2]) (as.map V.ref)
  | [], ps, as, r, hs, hp => by
    simp only [RvK] at r
    subst r
    cases hp
    exact rvs_nil
  | (k, x) :: t, ps, as, r, hs, hp => by
    simp only [RvK] at r
    obtain ⟨q, v, s, rfl, h0, h1, h2⟩ := r
    cases hp with
    | cons g1 g2 =>
      rename_i a as'
      refine rvs_cons ?_ (rvk_pairs e out h2 (fun b hb => hs b (List.mem_cons_of_mem _ hb)) g2)
      simp only [Rv]
      exact ⟨a, _, rfl, ⟨hs a (List.mem_cons_self ..), g1⟩, rvs_cons (keyV_rv h0) (rvs_cons (Rv.mono e out _ _ h1) rvs_nil)⟩
theorem items_ok {ρ : List Addr} {S : Addr → Prop} {H : Hp} {env : Env} {mem : Mem} {σ : L2.St} {Q : VK} {kvs : List (Va × Va)} {ps : List (Key × V)} (R : Rel X.K G ρ S H env mem σ) (r : RvK X.K G ρ S H kvs ps) (h : Sat X.K G (Rv X.K G) ρ S env σ H W Q (newM (.lst (kvs.map fun p => .tup [p.1, p.2])) mem)) :
    ∀ (H' : Hp) (p : Addr) (ts : List Addr), (∀ b o, H b = some o → H' b = some o) → H p = none → (∀ t ∈ ts, H t = none) → p ∉ ts → H' p = some (.lst (ts.map V.ref)) → Paired (fun (t : Addr) (q : Key × V) => H' t = some (.tup [kV q.1, q.2])) ts ps → Q (.ref p) H' := by
  intro H' p ts k1 k2 k3 k4 k5 k6
  have tn : ∀ a, H' a = none → H a = none := fun a h => by
    cases q : H a with
    | none => rfl
    | some o => rw [k1 a o q] at h; cases h
  have ht : ∀ t ∈ ts, H' t ≠ none := fun t hm => by
    have : ∀ {as : List Addr} {qs : List (Key × V)}, Paired (fun (t : Addr) (q : Key × V) => H' t = some (.tup [kV q.1, q.2])) as qs → t ∈ as → H' t ≠ none := by
      intro as qs hp hm
      induction hp with
      | nil => cases hm
      | cons g _ ih =>
        rcases List.mem_cons.mp hm with e | e
        · rw [e, g]; simp
        · exact ih e
    exact this k6 hm
  have e : Ext ρ S H (ρ ++ [p]) (fun a => S a ∨ a ∈ ts) H' := ⟨⟨[p], rfl⟩, fun a h => .inl h, fun a o h _ _ => k1 a o h, tn, fun a h => h.imp id fun z => .inl (k3 a z), fun a h => by
    rcases List.mem_append.mp h with z | z
    · exact .inl z
    · rw [List.mem_singleton] at z; subst z; exact .inr k2⟩
  have hc : RvC X.K G (ρ ++ [p]) (fun a => S a ∨ a ∈ ts) H' p (.lst (kvs.map fun p => .tup [p.1, p.2])) := ⟨_, k5, rvk_pairs e R.out r (fun a ha => .inr ha) k6⟩
  have R2 : RelM X.K G (ρ ++ [p]) (fun a => S a ∨ a ∈ ts) H' (mem ++ [.lst (kvs.map fun p => .tup [p.1, p.2])]) := by
    refine ⟨fun a h => ?_, fun n c h => ?_, fun a h z => ?_, by simp [R.len], ?_, R.tabs.ext k1 (fun a h => .inl h)⟩
    · rcases h with h | h
      · exact fun z => R.there a h (tn a z)
      · exact ht a h
    · by_cases hn : n < mem.length
      · rw [List.getElem?_append_left hn] at h
        obtain ⟨a, h1, h2⟩ := R.cell n c h
        exact ⟨a, get_pre ⟨[p], rfl⟩ h1, h2.mono e R.out (k1 a)⟩
      · have hl : n < (mem ++ [Cell.lst (kvs.map fun p => Va.tup [p.1, p.2])]).length := (List.getElem?_eq_some_iff.mp h).1
        have en : n = mem.length := by rw [List.length_append, List.length_singleton] at hl; omega
        subst en
        simp at h
        subst h
        exact ⟨p, by rw [← R.len]; simp, hc⟩
    · rcases List.mem_append.mp h with h | h
      · rcases z with z | z
        · exact R.out a h z
        · exact rho_there R.toRelM h (k3 a z)
      · rw [List.mem_singleton] at h; subst h
        rcases z with z | z
        · exact R.there a z k2
        · exact k4 z
    · rw [List.nodup_append]
      refine ⟨R.nd, by simp, fun a ha b hb => ?_⟩
      rw [List.mem_singleton] at hb; subst hb
      exact fun z => rho_there R.toRelM ha (z ▸ k2)
  refine h _ _ H' (.ref p) e (R.lift e R2) ?_
  simp only [Rv]
  exact ⟨p, rfl, by rw [← R.len]; simp⟩
theorem sim_items (hc : X.calm = true) (he : SE X G W e fe) (hm : X.mg "list" = none) (hg : Gl X "list" := by rfl) (hv : bootBuiltins "list" = some (.type "list") := by exact PyProof.Rows.Boot.«list») (hbase : attributeBase e "items" X.env (eval e X.env) = eval e X.env := by rfl) (hline : (apos.endLine == cpos.line) = true := by rfl)
    (hs : starEach [.Call (.Attribute e "items" apos) [] [] cpos] X.env = (false, eval (.Call (.Attribute e "items" apos) [] [] cpos) X.env) :: starEach [] X.env := by rfl) :
    SE X G W (.Call (.Name "list" p) [.Call (.Attribute e "items" apos) [] [] cpos] [] pos) (eItems fe) :=
  PE.imp (LiI.pe_listItems hc he hg hm hv hbase hline hs) fun σ H Q ⟨ρ, S, env, mem, R, h⟩ =>
    tX.one (op := uItems) (fun ρ S mem H x v R r h => by
      unfold uItems at h
      split at h
      · simp only [Rv] at r
        obtain ⟨a, rfl, _, ⟨_, ps, h1, h2⟩ | ⟨z, _⟩⟩ := r
        · exact ⟨a, ps, rfl, h1, items_ok R h2 h⟩
        · cases z
      · split at h
        · rename_i hn
          simp only [Rv] at r
          obtain ⟨a, rfl, ha⟩ := r
          obtain ⟨b, h1, h2⟩ := R.cell _ _ hn
          rw [ha] at h1; cases h1
          rcases h2 with ⟨_, ps, h2, h3⟩ | ⟨z, _⟩
          · exact ⟨a, ps, rfl, h2, items_ok R h3 h⟩
          · cases z
        · exact h.elim
      · exact h.elim) R h
end
end Vm
end
section
set_option Elab.async false
set_option linter.all false
set_option autoImplicit false
set_option maxRecDepth 100000
/-! SimO: list(text); calls by keywords alone. -/
namespace Vm
open PySem PySem.Spec PyProof.Rows L2
section
variable {prog : Program} {w : World} {A : Around} {E : Value → Shared → Prop} {s : Shared}
theorem hint_str {x : Str} {t : Tok} {Q : Bool → Shared → Prop} (h : Q false s) : wpAny (model prog w) A (Builtin.List.listLengthHint (.str x t)) Q E s := by
  have ty : s.TypeIs (.str x t) "str" := typeIs_str s x t
  unfold Builtin.List.listLengthHint
  refine wpAny_bind (wpAny_specialOf ty PySem.F.slot_str_len.lookup ?_)
  generalize hid : ("str.__len__" : String) = i0
  wp_delta
  rw [show splitId i0 = some ("str", "__len__") from by subst hid; decide +kernel]
  subst hid
  refine wpAny_bind (wpAny_isInstance (T := "str") (b := true) ty (by rw [isSubtype_type]; kernel_rfl) ?_)
  refine wpAny_ite_split (fun z => absurd z (by decide)) (fun _ => ?_)
  refine wpAny_ite_split (fun _ => ?_) (fun z => absurd (by decide +kernel) z)
  exact wpAny_bind (wpAny_typeOf ty (wpAny_pure h))
theorem extend_str {R : Result → Shared → Prop} (hh : A.handled = none) (x : Str) (t : Tok) (L : Addr) (res : Value) (c0 : Nat) (hL : s.heap.get? L = some { cls := .type "list", data := .seq #[] c0 })
    (hR : ∀ h' tk acc c1, (∀ b o, b ≠ L → s.heap.get? b = some o → h'.get? b = some o) → h'.get? L = some { cls := .type "list", dict := none, data := .seq acc c1, slots := #[] } → ItemsOf (SignAt x) acc x.cps.size → R (.ok (.ret res)) { s with heap := h', toks := tk }) (hn : x.cps.size ≤ sizeLine) :
    wpAny (model prog w) A.in1 (Builtin.List.listExtendWith (.ref L) (.str x t) res) (fun fin s' => match fin with | .done f => R (.ok f) s' | .again c' => c'.quiet = true ∧ codeAny (model prog w) A c' R s') (fun e s' => R (.error e) s') s := by
  have nI : L ≠ s.heap.objs.size := Nat.ne_of_lt (Heap.lt_size hL)
  have nF : L ∉ [s.heap.objs.size] := fun z => nI (List.mem_singleton.mp z)
  unfold Builtin.List.listExtendWith
  refine wpAny_bind (wpAny_typeOf (T := "str") (v := .str x t) (typeIs_str s x t) ?_)
  have a1 : Builtin.List.listSameRef (.ref L) (.str x t) = false := rfl
  have a2 : (Value.type "str" == Value.type "list") = false := by decide
  have a3 : (Value.type "str" == Value.type "tuple") = false := by decide
  simp only [a1, a2, a3, Bool.or_false, Bool.false_eq_true, if_false]
  refine wpAny_bind (wpAny_pyIter_str fun o St W st => ?_)
  refine wpAny_bind (wpAny_holding (hint_str ?_))
  rw [if_neg (by first | decide | decide +kernel)]
  refine wpAny_pure ⟨plainId_quiet PySem.F.plain_extend_loop _, codeAny_extend_loopS (W A.in1 hh).toS hn _ nF _ x.cps.size 0 _ _ _ rfl (Nat.zero_le _) st (Heap.get?_push_of_some _ hL) (ItemsOf.nil _) fun s' acc c1 hm hS' hacc => ?_⟩
  rw [Moved.eq_with hm]
  refine hR s'.heap s'.toks acc c1 (fun b ob hb e => hm.heap b ob (fun z => ?_) (Heap.get?_push_of_some _ e)) hS' hacc
  rcases List.mem_cons.mp z with z | z
  · exact hb z
  · exact absurd (Heap.lt_size e) (by rw [List.mem_singleton.mp z]; exact Nat.lt_irrefl _)
theorem init_str {R : Result → Shared → Prop} (hh : A.handled = none) (x : Str) (t : Tok) (L : Addr) (hL : s.heap.get? L = some { cls := .type "list", data := .seq #[] })
    (hR : ∀ h' tk acc c1, (∀ b o, b ≠ L → s.heap.get? b = some o → h'.get? b = some o) → h'.get? L = some { cls := .type "list", dict := none, data := .seq acc c1, slots := #[] } → ItemsOf (SignAt x) acc x.cps.size → R (.ok (.ret .none)) { s with heap := h', toks := tk }) (hn : x.cps.size ≤ sizeLine) :
    wpAny (model prog w) A.in1 (Builtin.«list.__init__» ⟨[.ref L, .str x t], []⟩) (fun fin s' => match fin with | .done f => R (.ok f) s' | .again c' => c'.quiet = true ∧ codeAny (model prog w) A c' R s') (fun e s' => R (.error e) s') s := by
  show wpAny _ _ (Builtin.List.listItems (.ref L) >>= fun old => Builtin.List.listUpdate (.ref L) (fun _ => #[]) >>= fun _ => letGo old.toList.reverse >>= fun _ => Builtin.List.listExtendWith (.ref L) (.str x t) .none) _ _ s
  refine wpAny_bind ?_
  unfold Builtin.List.listItems
  refine wpAny_bind (wpAny_seqItems hL rfl (wpAny_pure ?_))
  refine wpAny_bind ?_
  show wpAny _ _ (updateSeq L (fun _ => #[])) _ _ s
  refine wpAny_updateSeq hL rfl ?_
  have h2 := Heap.get?_update_self (Obj.mapSeq (fun _ => (#[] : Array Value))) hL rfl
  have oth : ∀ b o, b ≠ L → s.heap.get? b = some o → (s.heap.update L (Obj.mapSeq (fun _ => (#[] : Array Value)))).get? b = some o := fun b o hb e => by
    rw [Heap.get?_update_other _ _ (Ne.symm hb)]; exact e
  refine wpAny_bind (wpAny_letGo (extend_str hh x t L .none _ h2 (fun h' tk acc c1 hk hS hacc => ?_) hn))
  exact hR h' tk acc c1 (fun b o hb e => hk b o hb (oth b o hb e)) hS hacc
end
section
variable {X : Cx} {K : PySem.W.Frag}
def rListS : List V → Hp → VK → Prop := fun xs H Q => ∃ z : Sg, xs = [.str (sg z)] ∧ z.length ≤ sizeLine ∧ ∀ l, H l = none → Q (.ref l) (upd H l (.lst (z.map fun c => V.str (sg [c]))))
theorem call_listS (hc : X.calm = true) : CallR X (.type "list") rListS := by
  intro pins s σ H xs us Q I r h
  obtain ⟨z, rfl, hz, q⟩ := h
  obtain ⟨u, rfl, t, rfl⟩ := vals1 r
  have hsz : (sg z).cps.size = z.length := by simp [sg]
  refine callType_codes (Q₁ := fun obj s₁ => obj = .ref s.heap.objs.size ∧ s₁ = { s with heap := s.heap.push { cls := .type "list", data := .seq #[] } }) PySem.F.called_list (PySem.F.typeCall_list_1 _) PySem.F.entry_list_init (code_list_new _ ⟨rfl, rfl⟩) fun obj s₁ h₁ => ?_
  obtain ⟨rfl, rfl⟩ := h₁
  have hL : (s.heap.push { cls := .type "list", data := .seq #[] }).get? s.heap.objs.size = some { cls := .type "list", data := .seq #[] } := Heap.get?_push_size _ rfl
  refine ⟨⟨_, hL, rfl⟩, PySem.F.args_list_init_2 _ _, init_str (A := X.A.in1) (I.ok.hd hc) (sg z) t _ hL (fun h' tk acc c1 hk hS hacc => ⟨rfl, ?_⟩) (by rw [hsz]; exact hz)⟩
  refine ⟨.ref s.heap.objs.size, _, I.laid (o := .lst (z.map fun c => V.str (sg [c]))) (fun b o e => hk b o (Nat.ne_of_lt (Heap.lt_size e)) (Heap.get?_push_of_some _ e)) (Nat.le_refl _) ⟨by rw [List.length_map]; exact hz, acc.toList, c1, ?_, by rw [Array.toArray_toList]; exact hS⟩, rfl, q _ (I.hok.fresh (Nat.le_refl _))⟩
  refine vals_of_at (by rw [List.length_map, ← hsz, ← hacc.1]; simp) fun j x u h1 h2 => ?_
  obtain ⟨c, k, e1, rfl⟩ := hacc.2 j u (by rw [← Array.getElem?_toList]; exact h2)
  rw [List.getElem?_map] at h1
  have e2 : z[j]? = some c := by simpa [sg] using e1
  rw [e2] at h1
  cases h1
  exact ⟨k, rfl⟩
theorem bListS_ok : CallS K bListS rListS := by
  intro G W ρ S env σ mem H xs vs Q R r h
  unfold bListS one1 at h
  split at h
  · rename_i x
    simp only [Rvs] at r
    obtain ⟨v, s, rfl, r1, rfl⟩ := r
    unfold uListS at h
    split at h
    · rename_i z
      split at h
      · rename_i hz
        simp only [Rv] at r1
        subst r1
        refine ⟨z, rfl, by rw [← line_eq]; exact hz, fun l hl => sat_cell R h hl ⟨_, upd_same, ?_⟩⟩
        generalize hH : upd H l (.lst (z.map fun c => V.str (sg [c]))) = H1
        clear hH h hz
        induction z with
        | nil => exact rvs_nil
        | cons c t ih => exact rvs_cons (by simp only [Rv]) ih
      · exact h.elim
    · exact h.elim
  · exact h.elim
end
/-! ### f(k = v, ..) -/
structure KFn (P : Program) (w : World) (K : PySem.W.Frag) (mg : Str → Option Value) (base : Heap) (G : Gc) (k : Nat) (f : Addr) (fd : FuncData) (ps ks : List Str) (pi : List Nat) (m : List Va → M Va) : Prop where
  fn : Fn P w K mg base G k f fd ps m
  bk : ∀ (s : Shared) (us : List Value), us.length = ks.length → BindsTo s fd ⟨[], ks.zip us⟩ (ps.zip (perm .none pi us))
abbrev SK (X : Cx) (G : Gc) (W : WX) (kws : List Keyword) (f : Env → M (List Va)) : Prop := PK X kws (tA X.K G W f)
section
variable {X : Cx} {G : Gc} {W : WX} {E : XK} {e : Expr} {fe : Env → M Va} {fs : Env → M (List Va)} {kws : List Keyword} {nm : Option Str} {kpos p pos : Pos} {x : Str} {f : Addr} {fd : FuncData} {ps ks : List Str} {pi : List Nat} {m : List Va → M Va} {k : Nat}
theorem sk_nil : SK X G W [] aNil := ⟨fun pos pins s σ H Q I ⟨ρ, S, env, mem, R, h⟩ => (pk_nil (X := X)).run pos pins s σ H Q I (h ρ S H [] Ext.refl R (by simp only [Rvs]))⟩
theorem sk_cons (ha : SE X G W e fe) (hr : SK X G W kws fs) : SK X G W (⟨nm, e, kpos⟩ :: kws) (aCons fe fs) :=
  ⟨fun pos pins s σ H Q I ⟨ρ, S, env, mem, R, h⟩ => (pk_cons ha hr).run pos pins s σ H Q I (tX.of R ((Sat.bind (rel := Rv X.K G) h).imp fun v H1 ⟨ρ1, S1, w, m1, e1, R1, r1, h1⟩ =>
      tX.of R1 ((Sat.bind (rel := Rvs X.K G) h1).imp fun vs H2 ⟨ρ2, S2, ws, m2, e2, R2, r2, h2⟩ => h2 ρ2 S2 H2 (v :: vs) Ext.refl R2 (rvs_cons (Rv.mono e2 R1.out _ _ r1) r2))))⟩
theorem vals_getD {vs : List V} {us : List Value} (r : Vals vs us) (i : Nat) : L2.RelV (vs.getD i .non) (us.getD i .none) := by
  induction r generalizing i with
  | nil => simp; rfl
  | cons h t ih => cases i with
    | zero => simpa using h
    | succ i => simpa using ih i
theorem vals_perm {vs : List V} {us : List Value} (r : Vals vs us) : ∀ pi : List Nat, Vals (perm .non pi vs) (perm .none pi us)
  | [] => .nil
  | i :: pi => .cons (vals_getD r i) (vals_perm r pi)
theorem rvs_getD {K : PySem.W.Frag} {ρ : List Addr} {S : Addr → Prop} {H : Hp} : ∀ {xs : List Va} {vs : List V} (i : Nat), Rvs K G ρ S H xs vs → Rv K G ρ S H (xs.getD i .non) (vs.getD i .non)
  | [], vs, i, r => by simp only [Rvs] at r; subst r; simp [Rv]
  | x :: t, vs, 0, r => by simp only [Rvs] at r; obtain ⟨v, s, rfl, r1, r2⟩ := r; simpa using r1
  | x :: t, vs, i + 1, r => by simp only [Rvs] at r; obtain ⟨v, s, rfl, r1, r2⟩ := r; simpa using rvs_getD i r2
theorem rvs_perm {K : PySem.W.Frag} {ρ : List Addr} {S : Addr → Prop} {H : Hp} {xs : List Va} {vs : List V} (r : Rvs K G ρ S H xs vs) : ∀ pi : List Nat, Rvs K G ρ S H (perm .non pi xs) (perm .non pi vs)
  | [] => rvs_nil
  | i :: pi => rvs_cons (rvs_getD i r) (rvs_perm r pi)
theorem sim_callK0 (F : KFn X.prog X.w X.K X.mg X.base G k f fd ps ks pi m) (hpi : pi.length = ps.length) (tk : Takes X (WF E)) (hr : Room k X.A) (hm : X.mg x = some (.ref f)) (ha : SK X G (WF E) kws fs) (hg : Gl X x := by rfl)
    (hall : (backToKw pos (keywordEach kws X.env)).all (·.1.isSome) = true := by rfl) (hks : (backToKw pos (keywordEach kws X.env)).filterMap (·.1) = ks := by rfl) (hdb : (x == ("__debug__" : Str)) = false := by decide)
    (hpl : ((backTo pos (starEach [] X.env)).any (·.1) || (backToKw pos (keywordEach kws X.env)).any (·.1.isNone)) = false := by rfl) : SE X G (WF E) (.Call (.Name x p) [] kws pos) (eCallK0 ks.length m pi fs) := by
  refine ⟨fun pins s σ H Q I ⟨ρ, S, env, mem, R, h⟩ => ?_⟩
  refine wpAny_Call_Name_kw (ld_glob I hg hm ?_ hdb)
  refine PySem.W.callWith_KW0 (h₀ := X.base) I.ok.mod.kin F.fn.kp hall ?_ hpl
  refine thn (ha.run pos pins s σ H _ I ⟨ρ, S, env, mem, R, Sat.bind (rel := Rvs X.K G) h⟩) fun us s2 ⟨vs, H2, I2, rz, ρ1, S1, ws, m1, e1, R1, r1, h1⟩ => ⟨I2.kIn, ?_⟩
  replace h1 : Sat X.K G (Rv X.K G) ρ1 S1 env σ H2 (WF E) Q ((if ws.length = ks.length then m (perm .non pi ws) else stuck) m1) := h1
  rw [hks]
  split at h1
  · rename_i hl
    have lu : us.length = ks.length := by rw [← rz.length, rvs_length r1, hl]
    have rp := rvs_perm r1 pi
    have lp : (perm V.non pi vs).length = ps.length := by unfold perm; rw [List.length_map, hpi]
    refine wpAny_call (codeAny_mono (F.fn.ok.run X.A X.stack s2 H2 ⟨[], ks.zip us⟩ (perm .none pi us) (perm .non pi vs) Q E hr I2.env0 (F.bk s2 us lu) (vals_perm rz pi) ⟨ρ1, S1, _, m1, R1.toRelM, rp, lp, SatF.of (W := WF E) R1 h1⟩) fun r s' hq => ?_)
    cases r with
    | error e => exact passesF tk pins σ H2 s2 e s' I2 hq
    | ok fl =>
      cases fl with
      | ret u => exact I2.after hq
      | next => exact False.elim hq
      | brk => exact False.elim hq
      | cont => exact False.elim hq
  · exact h1.elim
end
end Vm
end
section
set_option Elab.async false
set_option linter.all false
set_option autoImplicit false
set_option maxRecDepth 100000
/-! SimH: pairs of stores; what the head tells; the law's end. -/
namespace Vm
open PySem PySem.Spec PyProof.Rows L2 LamX NdefX
section
variable {X : Cx} {G : Gc} {W : WX} {a b c : Expr} {fs : Env → M (List Va)} {i j l : Nat} {x y z : Str} {px py pz pt pos : Pos} {kt k2 pt2}
theorem sim_par (hc : X.calm = true) (hN : X.N.Nodup) (hi : X.N[i]? = some x) (hj : X.N[j]? = some y) (hij : i ≠ j) (hx : X.env.scope.names.lookup x = some .local) (hy : X.env.scope.names.lookup y = some .local) (ha : SA X G W [a, b] fs)
    (hw : swappedStores [.Tuple [.Name x px, .Name y py] kt pt] (.Tuple [a, b] k2 pt2) X.env = pure (some [x, y])) (hs : swapsWithSole [.Tuple [.Name x px, .Name y py] kt pt] (.Tuple [a, b] k2 pt2) pos.line X.env = pure false := by rfl) :
    SS X G W (.Assign [.Tuple [.Name x px, .Name y py] kt pt] (.Tuple [a, b] k2 pt2) pos) (sPar [i, j] fs) :=
  PS.imp (ps_par hc hN hi hj hij hx hy ha hw hs) fun D σ H ⟨ρ, S, env, mem, R, h⟩ => tX.of R ((SatS.ofE (rel := Rvs X.K G) h).imp fun vs H1 ⟨ρ1, S1, ws, m1, e1, R1, r1, h1⟩ => by
    replace h1 : SatS X.K G ρ1 S1 H1 W D ((if ws.length = 2 then M.pure (.nx (setAll [i, j] ws env)) else stuck : M Flow) m1) := h1
    split at h1
    · rename_i hl
      match ws, hl with
      | [w1, w2], _ =>
        simp only [Rvs] at r1
        obtain ⟨v1, s, rfl, q1, v2, s2, rfl, q2, rfl⟩ := r1
        exact ⟨v1, v2, rfl, h1 ρ1 S1 H1 _ Ext.refl ((R1.put q1).put q2)⟩
    · exact h1.elim)
theorem sim_par3 (hc : X.calm = true) (hN : X.N.Nodup) (hi : X.N[i]? = some x) (hj : X.N[j]? = some y) (hl : X.N[l]? = some z) (hij : i ≠ j) (hil : i ≠ l) (hjl : j ≠ l) (hx : X.env.scope.names.lookup x = some .local) (hy : X.env.scope.names.lookup y = some .local) (hz : X.env.scope.names.lookup z = some .local) (ha : SA X G W [a, b, c] fs)
    (hw : swappedStores [.Tuple [.Name x px, .Name y py, .Name z pz] kt pt] (.Tuple [a, b, c] k2 pt2) X.env = pure (some [x, y, z])) (hs : swapsWithSole [.Tuple [.Name x px, .Name y py, .Name z pz] kt pt] (.Tuple [a, b, c] k2 pt2) pos.line X.env = pure false := by rfl) :
    SS X G W (.Assign [.Tuple [.Name x px, .Name y py, .Name z pz] kt pt] (.Tuple [a, b, c] k2 pt2) pos) (sPar [i, j, l] fs) :=
  PS.imp (ps_par3 hc hN hi hj hl hij hil hjl hx hy hz ha hw hs) fun D σ H ⟨ρ, S, env, mem, R, h⟩ => tX.of R ((SatS.ofE (rel := Rvs X.K G) h).imp fun vs H1 ⟨ρ1, S1, ws, m1, e1, R1, r1, h1⟩ => by
    replace h1 : SatS X.K G ρ1 S1 H1 W D ((if ws.length = 3 then M.pure (.nx (setAll [i, j, l] ws env)) else stuck : M Flow) m1) := h1
    split at h1
    · rename_i hl
      match ws, hl with
      | [w1, w2, w3], _ =>
        simp only [Rvs] at r1
        obtain ⟨v1, s, rfl, q1, v2, s2, rfl, q2, v3, s3, rfl, q3, rfl⟩ := r1
        exact ⟨v1, v2, v3, rfl, h1 ρ1 S1 H1 _ Ext.refl (((R1.put q1).put q2).put q3)⟩
    · exact h1.elim)
end
section
variable {P : Program} {w : World} {K : PySem.W.Frag} {mg : Str → Option Value} {base : Heap} {N : List Str} {qual : Str} {scope : Scope} {f : Addr} {cdv : Value} {A : Around} {outer : List PySem.Env} {s : Shared} {H : Hp} {E : XK} {F : NF}
theorem units64 {k : Nat} {A : Around} (r : Room k A) : A.units + 64 < cLine := by have := r.un; omega
theorem LamOk.mono {G : Gc} {j k : Nat} {D : LamD} {m : List Va → List Va → M Va} (F : LamOk P w K mg base G j D m) (h : j ≤ k) : LamOk P w K mg base G k D m := ⟨fun f cl c A outer s H us vs ws Q E r => F.run f cl c A outer s H us vs ws Q E (r.mono h)⟩
theorem units1 {k : Nat} {A : Around} (r : Room k A) : A.units + 1 < cLine := by have := r.un; omega
theorem takes_fn : Takes (cxOf (L2.CX P w) P w K mg base N qual scope f cdv A outer s H E) (WF E) := takes_of rfl rfl rfl rfl
theorem passes_fn : PassesOwn (model P w) (cxOf (L2.CX P w) P w K mg base N qual scope f cdv A outer s H E).A (cxOf (L2.CX P w) P w K mg base N qual scope f cdv A outer s H E).env (cxOf (L2.CX P w) P w K mg base N qual scope f cdv A outer s H E).xe := passes_of (X := cxOf (L2.CX P w) P w K mg base N qual scope f cdv A outer s H E) rfl
theorem takes_lam : Takes (ncx (L2.CX P w) P w K mg base N F f A outer s H E) (WF E) := takes_of rfl rfl rfl rfl
theorem Fn.mono {G : Gc} {j k : Nat} {f : Addr} {fd : FuncData} {ps : List Str} {m : List Va → M Va} (F : Fn P w K mg base G j f fd ps m) (h : j ≤ k) : Fn P w K mg base G k f fd ps m := ⟨F.ok.mono h, F.kp, F.bd⟩
/-- a pure def met by its run in a memory of its own -/
theorem spS_pure {G : Gc} {n : Nat} {m : List Va → M Va} {vs : List V} {Q : VK} (h : spS K G n (pureM m) vs H Q E) : spS K G n m vs H Q E := by
  obtain ⟨ρ, S, ws, mem, R, r, hn, hs⟩ := h
  have R0 : Rel K G ρ S H [] mem [] := ⟨R, (fun i x h => by simp at h), rfl⟩
  obtain ⟨hp, q⟩ := satF_pure (W := WF E) (f := m) (ws := ws) (Q := Q) R0 (by
    revert hs
    cases pureM m ws mem with
    | ok w m' => exact fun hs ρ' S' H' v e R' r => hs ρ' S' H' v e R'.toRelM r
    | er c fs m' => exact fun hs ρ' S' H' d e R' x => hs ρ' S' H' d e R'.toRelM x
    | no => exact fun hs => hs)
  exact ⟨[], S, ws, [], relM_nil R, Rvs.plain (fun _ z => z) ws vs hp r, hn, q⟩
theorem FnOk.pure {CX : CXT} {k n : Nat} {G : Gc} {f : Addr} {fd : FuncData} {ps : List Str} {m : List Va → M Va} (F : FnOk P w K mg base CX k f fd ps (spS K G n m)) : FnOk P w K mg base CX k f fd ps (spS K G n (pureM m)) := F.imp fun vs H Q E h => spS_pure h
end
/-! ### calls that only look -/
section
variable {K : PySem.W.Frag} {G : Gc} {ρ : List Addr} {S : Addr → Prop} {H : Hp} {env : Env} {mem : Mem} {σ : L2.St} {E : XK} {m : List Va → M Va} {n : Nat}
theorem rvs_resolve (R : RelM K G ρ S H mem) : ∀ {ws ds : List Va} {vs : List V}, mapO (resolve deep mem) ws = some ds → Rvs K G ρ S H ws vs → Rvs K G [] (Sfr ρ S) H ds vs
  | [], ds, vs, h, r => by rw [mapO_nil h]; simpa only [Rvs] using r
  | x :: t, ds, vs, h, r => by
    obtain ⟨y, s, h1, h2, rfl⟩ := mapO_cons h
    simp only [Rvs] at r ⊢
    obtain ⟨v, s', rfl, r1, r2⟩ := r
    exact ⟨v, s', rfl, resolve_ok R _ _ _ _ h1 r1, rvs_resolve R h2 r2⟩
theorem cell_no_ext (R : RelM K G ρ S H mem) {a : Addr} (h : a ∈ ρ) : ∃ o, H a = some o ∧ (∀ ps, o ≠ .tbl ps) ∧ ∀ φ, o ≠ .ext φ := by
  obtain ⟨n, hn⟩ := List.getElem?_of_mem h
  have hl : n < mem.length := by rw [← R.len]; exact (List.getElem?_eq_some_iff.mp hn).1
  obtain ⟨b, h1, h2⟩ := R.cell n mem[n] (by simp [hl])
  rw [hn] at h1; cases h1
  revert h2
  cases mem[n] with
  | lst xs => rintro ⟨_, q, _⟩; exact ⟨_, q, (by intro _ z; cases z), (by intro _ z; cases z)⟩
  | dct t kvs => rintro (⟨_, _, q, _⟩ | ⟨_, _, q, _⟩) <;> exact ⟨_, q, (by intro _ z; cases z), (by intro _ z; cases z)⟩
  | ins c fs => rintro ⟨_, _, q, _⟩; exact ⟨_, q, (by intro _ z; cases z), (by intro _ z; cases z)⟩
  | cel _ => intro q; exact q.elim
theorem sp_peek {Q : VK} {ws : List Va} {vs : List V} (R : Rel K G ρ S H env mem σ) (r : Rvs K G ρ S H ws vs) (h : Sat K G (Rv K G) ρ S env σ H (WF E) Q (lenM n (peekM m) ws mem)) : spS K G n m vs H Q E := by
  unfold lenM at h
  split at h
  · rename_i hn
    unfold peekM at h
    cases q : mapO (resolve deep mem) ws with
    | none => rw [q] at h; exact h.elim
    | some ds =>
      rw [q] at h
      replace h : Sat K G (Rv K G) ρ S env σ H (WF E) Q (match m ds [] with | .ok r _ => if flat r then .ok r mem else .no | _ => .no) := h
      have R0 := R.toRelM
      refine ⟨[], Sfr ρ S, ds, [], ⟨fun a z => z.elim (R0.there a) (fun z => rho_there R0 z), (fun i c z => by simp at z), (fun _ z => nomatch z), rfl, List.nodup_nil, R0.tabs.ext (fun _ _ z => z) (fun _ z => .inl z)⟩, rvs_resolve R0 q r, by rw [rvs_length r, hn], ?_⟩
      cases q2 : m ds [] with
      | er _ _ _ => rw [q2] at h; exact h.elim
      | no => rw [q2] at h; exact h.elim
      | ok w m1 =>
        rw [q2] at h
        simp only [] at h
        split at h
        · rename_i hf
          intro ρ1 S1 H1 v e R1 rv
          have stay : ∀ a ∈ ρ, ∀ o, H a = some o → H1 a = some o := fun a ha o ho => by
            obtain ⟨o', k1, k2, _⟩ := cell_no_ext R0 ha
            rw [ho] at k1; cases k1
            exact e.old a o ho (by simp) k2
          have e2 : Ext ρ S H ρ (fun a => (S1 a ∨ a ∈ ρ1) ∧ a ∉ ρ) H1 := ⟨⟨[], by simp⟩, fun a z => ⟨.inl (e.sub a (.inl z)), fun y => R0.out a y z⟩, fun a o ho hn ht => e.old a o ho (by simp) ht, e.trk, fun a z => by
              rcases z.1 with z1 | z1
              · rcases e.src a z1 with (y | y) | y | y
                · exact .inl y
                · exact absurd y z.2
                · exact .inr (.inl y)
                · cases y
              · rcases e.new a z1 with y | y
                · cases y
                · exact .inr (.inl y), fun a z => .inl z⟩
          have R2 : RelM K G ρ (fun a => (S1 a ∨ a ∈ ρ1) ∧ a ∉ ρ) H1 mem := by
            refine ⟨fun a z => z.1.elim (R1.there a) (fun y => rho_there R1 y), fun i c hi => ?_, fun a ha z => z.2 ha, R0.len, R0.nd, R1.tabs.1, fun p hp ps pos c h1 h2 => ⟨.inl (R1.tabs.2 p hp ps pos c h1 h2), fun z => ?_⟩⟩
            · obtain ⟨a, k1, k2⟩ := R0.cell i c hi
              exact ⟨a, k1, k2.mono e2 R0.out (stay a (List.mem_of_getElem? k1))⟩
            · obtain ⟨ps', g1, _, g3⟩ := R1.tabs.1 p hp
              rw [h1] at g1; cases g1
              obtain ⟨c', y1, y2⟩ := g3 pos _ h2
              cases y1
              obtain ⟨o', k1, _, k3⟩ := cell_no_ext R0 z
              rw [stay c z o' k1] at y2
              injection y2 with y2
              exact k3 _ y2
          refine h ρ _ H1 v e2 (R.lift e2 R2) ?_
          cases w <;> simp only [flat, Bool.false_eq_true] at hf <;> simpa only [Rv] using rv
        · exact h.elim
  · exact h.elim
variable {X : Cx} {pos p : Pos} {e : Expr} {es : List Expr} {fs : Env → M (List Va)} {k : Nat} {x : Str} {f : Addr} {fd : FuncData} {ps : List Str}
theorem sim_callQ (F : Fn X.prog X.w X.K X.mg X.base G k f fd ps m) (tk : Takes X (WF E)) (hr : Room k X.A) (hm : X.mg x = some (.ref f)) (ha : SA X G (WF E) (e :: es) fs) (hg : Gl X x := by rfl)
    (hdb : (x == ("__debug__" : Str)) = false := by decide) (he : starEach (e :: es) X.env = (false, eval e X.env) :: starEach es X.env := by rfl) (hpl : (backTo pos (starEach es X.env)).any (·.1) = false := by rfl) :
    SE X G (WF E) (.Call (.Name x p) (e :: es) [] pos) (eCall (lenM ps.length (peekM m)) fs) :=
  PE.imp (pe_callS F.ok hr hg hm F.kp F.bd (fun σ => passAt tk σ) ha hdb he hpl) fun σ H Q ⟨ρ, S, env, mem, R, h⟩ =>
    tX.args (op := lenM ps.length (peekM m)) (fun ρ S mem H ws vs R r q => sp_peek R r q) R h
end
/-! ### what the head tells -/
theorem oexB_ok {K : PySem.W.Frag} {C : Addr} (h : oexB K C = true) : OexC K C := by
  unfold oexB at h
  obtain ⟨h1, h⟩ := Bool.and_eq_true_iff.mp h
  obtain ⟨h2, h⟩ := Bool.and_eq_true_iff.mp h
  obtain ⟨h3, h⟩ := Bool.and_eq_true_iff.mp h
  obtain ⟨h4, h5⟩ := Bool.and_eq_true_iff.mp h
  refine ⟨?_, He.eqO_ok h2, of_decide_eq_true h3, of_decide_eq_true h4, h5⟩
  split at h1
  · rename_i dd cd sl ho
    split at h1
    · rename_i C' bm k0 k1 k2 k3 n k5 hm hs
      obtain ⟨g1, h1⟩ := Bool.and_eq_true_iff.mp h1
      obtain ⟨g2, h1⟩ := Bool.and_eq_true_iff.mp h1
      obtain ⟨g3, h1⟩ := Bool.and_eq_true_iff.mp h1
      obtain ⟨g4, g5⟩ := Bool.and_eq_true_iff.mp h1
      have g1 := of_decide_eq_true g1
      have g2 := of_decide_eq_true g2
      subst g1 g2
      obtain ⟨nm, bs, mro, ns, qn, hd, sn, sub, ab, col, del⟩ := cd
      dsimp only at hm g3 g4
      have g4 : del = false := by cases del <;> simp_all
      subst hm g3 g4
      have hsl : sl = #[k0, k1, k2, k3, some (.builtin "ValueError.__new__"), k5] := by
        obtain ⟨l⟩ := sl
        simp only at hs
        rw [hs]
      subst hsl
      exact ⟨nm, qn, ns, bs, bm, sn, sub, ab, col, dd, k0, k1, k2, k3, k5, ho, g5⟩
    · cases h1
  · cases h1
theorem kitsB_ok {K : PySem.W.Frag} {ns : List String} (h : kitsB K ns = true) : KitsOk K ns := fun t ht n hn => of_decide_eq_true (List.all_eq_true.mp (List.all_eq_true.mp h t ht) n hn)
/-- a tuple of texts of the written part -/
theorem wrT_of {K : PySem.W.Frag} {x : Str} {vs : List He.Dv} (h : He.tupB K x vs = true) : WrT K (He.ga K x) (vs.map (He.Dv.v K)) := by
  rcases He.tupB_ok h (fun _ => none) with z | z
  · rcases z with z | ⟨o, z⟩ <;> cases z
  · exact z
theorem fix_tup {K : PySem.W.Frag} {G : Gc} {a : Addr} : ∀ {zs : List Sg} {vs : List V}, vs = zs.map (fun z => V.str (sg z)) → WrT K a vs → Fix K G (.wtp (zs.map Va.str)) (.ref a) := by
  intro zs vs e h ρ S H
  subst e
  simp only [Rv]
  refine ⟨a, _, rfl, h, ?_⟩
  clear h
  induction zs with
  | nil => exact rvs_nil
  | cons z t ih => exact rvs_cons (by simp only [Rv]) ih
/-! ### the law's end -/
theorem law_sp {K : PySem.W.Frag} {G : Gc} {m : List Va → M Va} {ns : List Int} {H : Hp} {a : Addr} (hm : ∃ m', m [.scr ns] [] = .ok (.bl true) m') (hT : ∀ p ∈ G.T, H p.1 = some (.tbl #[])) (hS : SqL K H a (ns.map V.int)) :
    spS K G 1 m [.ref a] H (fun v _ => v = .bl true) fun _ _ _ => False := by
  obtain ⟨m', hm⟩ := hm
  refine ⟨[], fun b => b = a ∧ H a ≠ none, [.scr ns], [], ⟨fun b h => h.1 ▸ h.2, (fun n c h => by simp at h), (fun b hb => nomatch hb), rfl, List.nodup_nil, fun p hp => TabS.nil (hT p hp), fun p hp ps pos c h1 h2 => ?_⟩, ?_, rfl, ?_⟩
  · rw [hT p hp] at h1
    cases h1
    have z : codeAmong pos [] = some (.ref c) := h2
    simp [codeAmong] at z
  · refine rvs_cons ?_ rvs_nil
    simp only [Rv]
    refine ⟨a, rfl, ?_⟩
    rcases hS with h | h
    · refine .inl ⟨⟨rfl, ?_⟩, h⟩
      rcases h with h | ⟨o, h⟩ <;> (rw [h]; simp)
    · exact .inr h
  · rw [hm]
    intro ρ' S' H' v e R r
    simp only [Rv] at r
    exact r
end Vm
end
section
set_option Elab.async false
set_option linter.all false
set_option autoImplicit false
set_option maxRecDepth 100000
/-! what the head tells, by the module's names -/
namespace Vm
open PySem PySem.Spec PyProof.Rows L2 LamX
def fd0 : FuncData := PySem.W.fnOf "" "" ⟨[], [], none, [], [], none, []⟩ [] ⟨.function, [], false, false, []⟩ .none .none .none .none none .none .none
def fdAt (K : PySem.W.Frag) (a : Addr) : FuncData := match K.lookup a with
  | some ⟨_, _, .func fd, _⟩ => fd
  | _ => fd0
section
variable {K : PySem.W.Frag} {x qual : Str} {params : Arguments} {body : List Stmt} {scope : Scope} {dvs : List V} {kws : List (Str × V)} {f : Addr} {fd : FuncData}
theorem fun_at (h : ∃ fd, FunD K x qual params body scope dvs kws f fd) : FunD K x qual params body scope dvs kws f (fdAt K f) := by
  obtain ⟨fd, F⟩ := h
  obtain ⟨oc, od, dV, kV, doc, pm, an, cdv, ct, osl, e, lk, _⟩ := F.ex
  have e2 : fdAt K f = fd := by unfold fdAt; rw [lk]
  rw [e2]
  exact F
theorem code_at {p : He.Defn} (F : FunD K x qual params body scope dvs kws (He.fAd K p) fd) : fd.code = .ref (He.codeOf K p) := by
  obtain ⟨oc, od, dV, kV, doc, pm, an, cdv, ct, osl, e, lk, hcd, _⟩ := F.ex
  obtain ⟨c, rfl⟩ := He.codeIn_ref hcd
  have e1 : fd.code = .ref c := by rw [e]
  rw [e1, He.codeOf_eq lk e1]
end
theorem tuB_ok {T : List (Addr × Str)} {P : Addr} {q : Str} (h : tuB T P q = true) : ∀ p ∈ T, p.1 = P → p.2 = q := fun p hp e => by
  have z := List.all_eq_true.mp h p hp
  rw [decide_eq_true e] at z
  exact of_decide_eq_true z
end Vm
end
section
set_option Elab.async false
set_option linter.all false
set_option autoImplicit false
set_option maxRecDepth 100000
/-! SimG: lambdas that capture nothing: values like others. -/
namespace Vm
open PySem PySem.Spec PyProof.Rows L2 LamX NdefX
section
variable {X : Cx} {G : Gc} {W : WX} {E : XK} {e : Expr} {es : List Expr} {fs : Env → M (List Va)} {pos p : Pos} {k i : Nat} {x : Str}
theorem lessS_nil (S : Addr → Prop) : lessS S [] = S := by
  funext a
  simp [lessS, cellOf]
theorem lessH_nil (H : Hp) : lessH H [] = H := by
  funext a
  exact lessH_ne (fun ⟨y, z⟩ => by cases z)
theorem plusH_nil (H H1 : Hp) : plusH H H1 [] = H1 := by
  funext a
  exact plusH_ne (fun ⟨y, z⟩ => by cases z)
theorem pins_nil {S : Addr → Prop} {H : Hp} : Pins S H [] [] [] :=
  ⟨(fun a ⟨y, z⟩ => by cases z), (fun x y a z => by cases z), rfl, (fun _ => rfl), (fun i y z => by simp at z)⟩
theorem sim_lam0 {l : Nat} {D : LamD} {c P : Addr} (hD : G.lam l = D) (TB : TabB X.base X.mg c P) (hcode : X.env.code = .ref c) (hq : D.qual = X.env.qual ++ "<lambda>") (hm : (P, D.qual) ∈ G.T) (hu : ∀ p ∈ G.T, p.1 = P → p.2 = D.qual)
    (hdef : defaultsOf D.params X.env = ([], [])) (hfr : D.fr = []) (hnil : D.scope.names.all (fun y => !(y.2 == .free)) = true) : SE X G W (.Lambda D.params D.body D.scope pos) (eClo l []) := by
  refine ⟨fun pins s σ H Q I ⟨ρ, S, env, mem, R, h⟩ => ?_⟩
  have h : Sat X.K G (Rv X.K G) ρ S env σ H W Q (.ok (.clo l []) mem) := h
  have hn : ∀ y ∈ D.scope.names, y.2 = .free → False := fun y hy z => by
    have := List.all_eq_true.mp hnil y hy
    rw [z] at this
    cases this
  refine lam_core I R TB hcode hq hm hu hdef (fun y hy z => (hn y hy z).elim) fun f c' H2 s' I2 nf nc up tr T2 hf2 hc2 => ?_
  have ex : Ext ρ S H ρ (fun a => S a ∨ a = f ∨ a = c') H2 := ⟨⟨[], by simp⟩, fun a h => .inl h, fun a o h _ t => up a o h t, tr, fun a h => by
      rcases h with h | rfl | rfl
      · exact .inl h
      · exact .inr (.inl nf)
      · exact nc.elim (fun z => .inr (.inl z)) .inl, fun a h => .inl h⟩
  have th : ∀ a, (S a ∨ a = f ∨ a = c') → H2 a ≠ none := fun a h => by
    rcases h with h | rfl | rfl
    · exact fun z => R.there a h (tr a z)
    · rw [hf2]; simp
    · rw [hc2]; simp
  have out : ∀ a ∈ ρ, ¬ (S a ∨ a = f ∨ a = c') := fun a ha z => by
    rcases z with z | rfl | rfl
    · exact R.out a ha z
    · exact rho_there R.toRelM ha nf
    · exact nc.elim (fun z => rho_there R.toRelM ha z) (fun z => R.out _ ha z)
  have R2 := rel_lam R ex up T2 th out
  refine ⟨.ref f, H2, I2, rfl, h ρ _ H2 (.ref f) ex R2 ?_⟩
  rw [cloFrom_none hnil] at hf2
  simp only [Rv]
  refine ⟨f, [], c', [], rfl, .inr (.inl rfl), by rw [hD]; exact hf2, .inr (.inr rfl), by rw [hD]; exact hc2, ?_, rvs_nil⟩
  rw [hD, hfr]
  exact pins_nil
/-- how app calls values: lambdas that capture nothing -/
def Disp0 (P : Program) (w : World) (K : PySem.W.Frag) (mg : Str → Option Value) (base : Heap) (G : Gc) (k : Nat) (can : Va → Bool) (app : Va → List Va → M Va) : Prop :=
  ∀ x, can x = true → ∃ l m, x = .clo l [] ∧ (G.lam l).fr = [] ∧ LamOk P w K mg base G k (G.lam l) m ∧ ∀ ws, app x ws = lenM (G.lam l).ps.length (m []) ws
variable {can : Va → Bool} {app : Va → List Va → M Va}
theorem sim_callV1 (D : Disp0 X.prog X.w X.K X.mg X.base G k can app) (tk : Takes X (WF E)) (hr : Room k X.A) (hN : X.N[i]? = some x) (hv : Vis X.env.scope x) (ha : SA X G (WF E) (e :: es) fs)
    (hd : (x == ("__debug__" : Str)) = false := by decide) (hcd : (x == ("__classdict__" : Str)) = false := by decide)
    (he : starEach (e :: es) X.env = (false, eval e X.env) :: starEach es X.env := by rfl) (hpl : (backTo pos (starEach es X.env)).any (·.1) = false := by rfl) :
    SE X G (WF E) (.Call (.Name x p) (e :: es) [] pos) (eCallV can app i fs) := by
  refine ⟨fun pins s σ H Q I ⟨ρ, S, env, mem, R, h⟩ => ?_⟩
  unfold eCallV eVar at h
  simp only [bind_eq] at h
  cases q : env[i]? with
  | none => rw [q] at h; exact h.elim
  | some o =>
    cases o with
    | none => rw [q] at h; exact h.elim
    | some w =>
      rw [q] at h
      replace h : Sat X.K G (Rv X.K G) ρ S env σ H (WF E) Q ((if can w then (fs env >>= fun ws => app w ws) else stuck) mem) := h
      obtain ⟨v, hs, rv⟩ := R.slot i w q
      split at h
      case isFalse => exact h.elim
      rename_i hcan
      refine wpAny_Call_Name_kw (thn ((pe_var (pos := p) hN hv hd hcd).run pins s σ H (fun u H1 => u = v ∧ H1 = H) I ⟨v, hs, rfl, rfl⟩) fun u s1 ⟨v', H1, I1, r1, q1⟩ => ?_)
      obtain ⟨rfl, rfl⟩ := q1
      have h' := Sat.bind (rel := Rvs X.K G) h
      obtain ⟨l, m, rfl, hfr, LO, hm⟩ := D w hcan
      simp only [Rv] at rv
      obtain ⟨f, cl, c, cs, rfl, h1, h2, h3, h4, h5, h6⟩ := rv
      have hcl := h5.nil hfr
      subst hcl
      cases r1
      have hfn : PySem.W.FnAt f s1.heap := by
        obtain ⟨⟨pm, ctv, ho⟩, _, _⟩ := I1.hok f _ h2
        exact ⟨_, _, _, _, ho⟩
      refine PySem.W.callWith_F (first := []) hfn (thn (ha.run pos pins s1 σ _ _ I1 ⟨ρ, S, env, mem, R, h'⟩) fun us s2 ⟨vs, H2, I2, r, ρ1, S1, ws, m1, e1, R1, r1, g1⟩ => ?_) he hpl
      replace g1 : Sat X.K G (Rv X.K G) ρ1 S1 env σ H2 (WF E) Q (app (.clo l []) ws m1) := g1
      rw [hm ws] at g1
      have k2 := e1.stay R.out h1 h2 cloO_ne
      have k4 := e1.stay R.out h3 h4 (fun ps => codeO_ne ps)
      have k5 := h5.mono e1 R.out
      have e0 : cs = [] := by
        simp only [Rvs] at h6
        exact h6
      subst e0
      refine ⟨?_, ?_⟩
      · obtain ⟨⟨pm, ctv, ho⟩, _, _⟩ := I2.hok f _ k2
        exact ⟨_, _, _, _, ho⟩
      · show wpAny _ _ (call (.ref f) us) _ _ _
        refine run_clo LO hr (passesF tk) I2 k2 k4 k5 r ?_
        rw [lessH_nil]
        by_cases hl : ws.length = (G.lam l).ps.length
        · have e9 : lenM (G.lam l).ps.length (m []) ws m1 = m [] ws m1 := by unfold lenM; rw [if_pos hl]
          rw [e9] at g1
          refine ⟨ρ1, S1, [], ws, m1, R1.toRelM, rvs_nil, r1, by rw [rvs_length r1, hl], ?_⟩
          have g2 := SatF.of (W := WF E) R1 g1
          revert g2
          cases m [] ws m1 with
          | ok w m2 => exact fun g ρ' S' H' v ex R' rv _ => by rw [plusH_nil]; exact g ρ' S' H' v ex R' rv
          | er c gs m2 => exact fun g ρ' S' H' d ex R' xa _ => by rw [plusH_nil]; exact g ρ' S' H' d ex R' xa
          | no => exact fun g => g
        · have e9 : lenM (G.lam l).ps.length (m []) ws m1 = .no := by unfold lenM; rw [if_neg hl]; rfl
          rw [e9] at g1
          exact g1.elim
end
end Vm
end
section
set_option Elab.async false
set_option linter.all false
set_option autoImplicit false
set_option maxRecDepth 100000
set_option maxHeartbeats 4000000
/-! Exk: an own exception, made with a keyword, held as a value -/
namespace PySem
namespace HandSPX
open PySem.W PySem.Calls PyProof.Rows
section
variable {prog : Program} {w : World} {A : Around} {E : Value → Shared → Prop} {R : Result → Shared → Prop} {h : Heap} {g : Array GenState} {d : Drawn} {t : Nat} {os : OsState} {M : Model}
variable {nm q : Str} {C N : Addr} {bs bm bmB : List Value} {hdct : Bool} {sn : List Str} {sub : List Value} {ab : Bool} {col : Option Bool} {dd : Option Addr} {k0 k1 k2 k3 k5 : Option Value} {B newId initId : String} {rest : List Value} {kw : List (Str × Value)}
theorem checkK_new (F : ExcBaseFacts B newId initId bmB) (hT : ∀ X : String, bm.contains (.type X) = bmB.contains (.type X)) {Q : Unit → Shared → Prop}
    (hC : h.get? C = some (excClassObj nm q C N bs bm hdct sn sub ab col dd k0 k1 k2 k3 k5 newId)) (hq : Q () ⟨h, g, d, t, os⟩) :
    wpAny M A (checkBuiltinCall newId ⟨.ref C :: rest, kw⟩) Q E ⟨h, g, d, t, os⟩ := by
  have e1 : (Value.ref C :: bm).contains (.type B) = true := by
    rw [List.contains_cons, hT, F.hasB, Bool.or_true]
  have e2 := F.noStar
  simp only [checkBuiltinCall, F.newKind, F.newSplit, F.newRow]
  repeat (first | refine wpAny_loadPart_at hC ?_ | (refine wpAny_isSubtype_exc hC ?_; rw [e1]) | refine wpAny_staticBase_exc hC ?_ | refine wpAny_madeBy_exc hC ?_ | simp only [bne_self_eq_false, Bool.false_eq_true, if_false] | wp_step)
  first | exact hq | skip
theorem newK (F : ExcBaseFacts B newId initId bmB) (hT : ∀ X : String, bm.contains (.type X) = bmB.contains (.type X))
    (hC : h.get? C = some (excClassObj nm q C N bs bm hdct sn sub ab col dd k0 k1 k2 k3 k5 newId)) (hl : rest.length ≤ sizeLine)
    (hq : R (.ok (.ret (.ref (h.objs.size + 1)))) ⟨(h.push (W.kdv_tup rest)).push (excO C h.objs.size), g, d, t, os⟩) :
    codeAny (model prog w) A (.builtin newId ⟨.ref C :: rest, kw⟩) R ⟨h, g, d, t, os⟩ := by
  have e0 := F.ends
  have e1 : (Value.ref C :: bm).contains (.type B) = true := by
    rw [List.contains_cons, hT, F.hasB, Bool.or_true]
  have e2 : (Value.ref C :: bm).contains (.type "AttributeError") = false := by
    rw [List.contains_cons, hT, F.noAttr]; rfl
  have e3 : (Value.ref C :: bm).contains (.type "NameError") = false := by
    rw [List.contains_cons, hT, F.noName]; rfl
  refine codeAny_builtinAt F.entry ?_
  unfold Builtin.«BaseException.__new__»
  refine wpAt_bind ?_
  show wpAt _ _ _ (stack >>= _) _ _ _
  refine wpAt_bind (wpAt_stack fun p below => wpAt_of_wpAny ?_)
  wp_walk
  refine wpAt_of_wpAny ?_
  rw [F.owner]
  repeat (first | with_reducible refine wpAny_madeHere_exc F.canon hC ?_ | with_reducible refine wpAny_loadPart_at hC ?_ | (with_reducible refine wpAny_isSubtype_exc hC ?_; first | rw [e1] | rw [e2] | rw [e3]) | wp_step)
  show R _ _
  rw [Heap.size_push]
  exact hq
theorem typeK (F : ExcBaseFacts B newId initId bmB) (hT : ∀ X : String, bm.contains (.type X) = bmB.contains (.type X)) {fI : Addr} {Q : Fin → Shared → Prop}
    (hC : h.get? C = some (excClassObj nm q C N bs bm hdct sn sub ab col dd k0 k1 k2 k3 k5 newId))
    (hi : W.Looks (model prog w) h (typeLookup (.ref C) "__init__") (some (.ref fI))) (hb : ∀ self, W.Looks (model prog w) h (bindSpecial (.ref fI) self) (.ref fI, [self])) (hl : rest.length ≤ sizeLine)
    (hq : codeAny (model prog w) A (.call (.ref fI) ⟨.ref (h.objs.size + 1) :: rest, kw⟩)
      (fun r s' => match r with | .ok (.ret v) => v = .none ∧ Q (.done (.ret (.ref (h.objs.size + 1)))) s' | .ok _ => False | .error e => E e s')
      ⟨(h.push (W.kdv_tup rest)).push (excO C h.objs.size), g, d, t, os⟩) :
    wpAny (model prog w) A (Builtin.«type.__call__» ⟨.ref C :: rest, kw⟩) Q E ⟨h, g, d, t, os⟩ := by
  repeat (first | with_reducible refine wpAny_loadPart_at hC ?_ | with_reducible refine wpAny_madeBy_exc hC ?_ | wp_step)
  refine codeAny_call_builtin_code (Code.quiet_builtin _ F.quiet) (checkK_new F hT hC ?_)
  refine newK F hT hC hl ?_
  show wpAny _ _ _ _ _ _
  have k : ∀ b o, h.get? b = some o → ((h.push (W.kdv_tup rest)).push (excO C h.objs.size)).get? b = some o := fun b o e => Heap.get?_push_of_some _ (Heap.get?_push_of_some _ e)
  have c1 := k _ _ hC
  have c2 : ((h.push (W.kdv_tup rest)).push (excO C h.objs.size)).get? (h.objs.size + 1) = some (excO C h.objs.size) := by
    heap_get
  have c3 : (Value.ref C :: bm).contains (.ref C) = true := by
    simp
  have i1 := hi.keeps k
  have b1 := (hb (.ref (h.objs.size + 1))).keeps k
  unfold isInstance
  repeat (first | with_reducible refine wpAny_loadPart_at c2 ?_ | (with_reducible refine wpAny_isSubtype_exc c1 ?_; rw [c3]) | wp_step)
  show wpAny _ _ (typeLookup (.ref C) _) _ _ _
  refine i1.at ?_
  refine wpAny_holding (wpAny_bind (b1.at ?_))
  refine wpAny_bind (wpAny_call (codeAny_mono hq fun r s' z => ?_))
  rcases r with e | (v | _ | _ | _) <;> first | exact z | exact z.elim | skip
  obtain ⟨rfl, z⟩ := z
  first
    | exact wpAny_pure (wpAny_pure z)
    | (wp_walk; exact z)
theorem callK (F : ExcBaseFacts B newId initId bmB) (hT : ∀ X : String, bm.contains (.type X) = bmB.contains (.type X)) {fI : Addr}
    (hC : h.get? C = some (excClassObj nm q C N bs bm hdct sn sub ab col dd k0 k1 k2 k3 k5 newId))
    (hi : W.Looks (model prog w) h (typeLookup (.ref C) "__init__") (some (.ref fI))) (hb : ∀ self, W.Looks (model prog w) h (bindSpecial (.ref fI) self) (.ref fI, [self])) (hl : rest.length ≤ sizeLine)
    (hq : codeAny (model prog w) (A.under (.builtin "type.__call__" ⟨.ref C :: rest, kw⟩)) (.call (.ref fI) ⟨.ref (h.objs.size + 1) :: rest, kw⟩) (W.InitBack (h.objs.size + 1) R)
      ⟨(h.push (W.kdv_tup rest)).push (excO C h.objs.size), g, d, t, os⟩) :
    codeAny (model prog w) A (.call (.ref C) ⟨rest, kw⟩) R ⟨h, g, d, t, os⟩ := by
  have f1 := tc_lookup
  have f2 := tc_bind (.ref C)
  have f3 : (⟨h, g, d, t, os⟩ : Shared).TypeIs (.ref C) "type" := ⟨_, hC, rfl⟩
  refine codeAny_of_tree ?_
  show wpAny _ _ (callAny (.ref C) _) _ _ _
  repeat (any_goals (first | assumption | with_reducible refine wpAny_loadPart_at hC ?_ | wp_step))
  refine ⟨rfl, ?_⟩
  refine codeAny_call_builtin_at (Code.quiet_builtin _ (by decide +kernel)) entry_typeCall (wpAny_check_type_call_sub hC (typeK F hT hC hi hb hl ?_))
  refine codeAny_mono hq fun r s' z => ?_
  rcases r with e | (v | _ | _ | _) <;> exact z
end
end HandSPX
end PySem
/-! ### values -/
namespace PySem.W
open PySem PySem.Spec PySem.Calls PyProof.Rows
section
variable {prog : Program} {w : World} {A : Around} {E : Value → Shared → Prop} {s : Shared} {K : Frag} {x D : Addr} {ox : Obj} {od : Option Obj}
theorem find_getO {C : Addr} {name : Str} {a g : Value} (h1 : (clsIn K C).isSome = true) (h2 : findIn K (.ref C) name = some (some a)) (h3 : specialIn K a "__get__" = some (some g)) (h4 : takesIn K a = some true) : findObj K C od name = some (.bind g a) := by
  obtain ⟨cd, h1⟩ := Option.isSome_iff_exists.mp h1
  unfold findObj
  rw [h1, Option.bind_some, h2, Option.bind_some]
  simp [h3, h4]
theorem class_askO {Q : Option Value → Shared → Prop} (C : L2.ExcC K D) (X : K.In s.heap) (I : InstAt s.heap x ox D od) (h : Q (some (.ref D)) { s with toks := s.toks + 1 }) : wpAny (model prog w) A (getAttr? (.ref x) "__class__") Q E s := by
  have hf : findObj K D od "__class__" = some (.bind (.builtin "getset_descriptor.__get__") (.builtin "object.__class__")) := by
    refine find_getO ?_ C.ha C.hn C.ht
    obtain ⟨cd, hc, _⟩ := any_some C.hd
    rw [hc]; rfl
  obtain ⟨hp, g, d, t, os⟩ := s
  have L0 := I.type (M := model prog w)
  have L1 := looks_findIn (M := model prog w) X C.hg
  have L2 := looks_findIn (M := model prog w) X C.hk
  have L3 := looks_find (M := model prog w) X I hf
  have sub : Looks (model prog w) hp (isInstance (.ref x) (.type "BaseException")) true := L0.andThen (looks_subIn X C.hs)
  have b0 : (false && onTheHeap (Value.builtin "BaseException.__getattribute__")) = false := rfl
  have b2 : (Value.builtin "BaseException.__getattribute__" == Value.builtin "object.__getattribute__") = false := by
    decide +kernel
  have b1 : (onTheHeap (Value.ref D) && Value.builtin "BaseException.__getattribute__" == Value.builtin "object.__getattribute__") = false := by
    rw [b2]; rfl
  unfold getAttr? getAttrBy? getAttrBy
  refine wpAny_bind (wpAny_mkText (wpAny_bind (wpAny_attempt (wpAny_holding (wpAny_bind (L0.at (wpAny_bind (L1.at ?_))))))))
  show wpAny _ _ (if (onTheHeap (Value.ref D) && Value.builtin "BaseException.__getattribute__" == Value.builtin "object.__getattribute__") = true then _ else _) _ _ _
  rw [b1, if_neg Bool.false_ne_true]
  unfold getAttrByItsOwn hookBefore
  refine wpAny_bind ?_
  rw [if_pos (show onTheHeap (Value.ref D) = true from rfl)]
  refine L2.at ?_
  refine wpAny_bind (wpAny_attempt (wpAny_holding ?_))
  unfold callGetattribute
  rw [b0, if_neg Bool.false_ne_true]
  unfold boundAndCalled
  rw [PySem.F.excAttr_ValueError.ga.bind (.ref x)]
  refine wpAny_bind (wpAny_pure ?_)
  show wpAny _ _ (call (.builtin "BaseException.__getattribute__") [.ref x, .str "__class__" t]) _ _ _
  refine wpAny_call (codeAny_call_builtin PySem.F.excAttr_ValueError.ga.plain PySem.F.entry_bexc_ga ?_)
  refine @check_slot (model prog w) _ _ ⟨hp, g, d, t + 1, os⟩ "BaseException.__getattribute__" "BaseException" "__getattribute__" (.ref x) [.str "__class__" t] [] _ (by decide +kernel) (by decide +kernel) sub (PySem.F.args_bexc_ga (.ref x) (.str "__class__" t)) ?_
  unfold Builtin.«object.__getattribute__»
  refine wpAny_bind (wpAny_of_eq (a := ((Value.ref x : Value), [Value.str "__class__" t])) (by first | rfl | (simp only [slotArgs]; rfl)) ?_)
  refine wpAny_bind (wpAny_pure (wpAny_bind (L0.at (wpAny_bind (L3.at ?_)))))
  show wpAny _ _ (holding [Value.builtin "object.__class__"] (call (.builtin "getset_descriptor.__get__") [.builtin "object.__class__", .ref x, .ref D]) >>= ret) _ _ _
  refine wpAny_bind (wpAny_holding (wpAny_call (class_get (s := ⟨hp, g, d, t + 1, os⟩) (ox := ox) (od := od) X I C.hm ?_)))
  refine wpAny_pure ?_
  show wpAny _ _ (handedOut (.ref D)) _ _ _
  rw [handedOut_of (v := .ref D) rfl]
  first
    | exact wpAny_pure (wpAny_pure h)
    | exact wpAny_pure h
    | exact wpAny_pure (wpAny_bind (wpAny_pure (wpAny_pure h)))
theorem kitO (C : L2.ExcC K D) : KitX K (.ref x) (.ref D) (fun h => ∃ ox od, InstAt h x ox D od) where
  ty := fun _ _ _ ⟨_, _, I⟩ => I.type
  it := fun _ _ X _ => by
    obtain ⟨cd, hcd, _⟩ := any_some C.hd
    unfold clsIn at hcd
    split at hcd
    · rename_i c' d' cd' sl' ho
      intro A' Q' E' s' k q
      unfold isType loadHead
      exact wpAny_bind (wpAny_loadPart (k _ _ (X _ _ ho)) (wpAny_pure q))
    · cases hcd
  ne := fun h tp dd its n sl X htp => by
    obtain ⟨cd, hcd, _⟩ := any_some C.hd
    refine Bool.eq_false_iff.mpr fun q => ?_
    have e : D = tp := Value.ref.inj (beq_iff_eq.mp q)
    subst e
    unfold clsIn at hcd
    split at hcd
    · rename_i c' d' cd' sl' ho
      have z := (X _ _ ho).symm.trans htp
      cases z
    · cases hcd
  ca := fun X ⟨_, _, I⟩ k => class_askO C X I k
end
end PySem.W
namespace Vm
open PySem PySem.Spec PyProof.Rows L2
section
variable {X : Cx} {a C D dx : Addr} {e : Expr} {te : TE} {pos : Pos} {n : Str}
/-- a held exception as the heap has it -/
theorem exo_inst {P : Program} {w : World} {H : Hp} {h : Heap} {a C : Addr} {d : Option Addr} (hok : HOk P w H h) (he : H a = some (exo a C d)) (hd : ∀ dx, d = some dx → ∃ fs, H dx = some (exd dx fs)) : ∃ ox od, PySem.W.InstAt h a ox C od := by
  obtain ⟨t1, ho⟩ := exo_at hok he
  cases d with
  | none => exact ⟨_, none, ho, rfl, rfl, trivial⟩
  | some dx =>
    obtain ⟨fs, hf⟩ := hd dx rfl
    obtain ⟨mA, hns, _⟩ := exd_at hok hf
    obtain ⟨o, _, _, q, _⟩ := hns
    exact ⟨_, some o, ho, rfl, rfl, q⟩
/-- isinstance(e, c), isinstance(e, (c1, c2, ..)), e a held exception -/
def rIsO (K : PySem.W.Frag) : List V → Hp → VK → Prop := fun xs H Q => ∃ (a D : Addr) (d : Option Addr) (b : Bool), ExcC K D ∧ H a = some (exo a D d) ∧ (∀ dx, d = some dx → ∃ fs, H dx = some (exd dx fs)) ∧ Q (.bl b) H ∧
  ((∃ (c : V) (u : Value), xs = [.ref a, c] ∧ (∀ z, RelV c z → z = u) ∧ PySem.W.kitOne K (.ref D) u = some b) ∨
    ∃ (tp : Addr) (cs : List V) (us : List Value), xs = [.ref a, .ref tp] ∧ H tp = some (.tup cs) ∧ Paired ClsV cs us ∧ PySem.W.kitAny K (.ref D) us = some b)
theorem call_isO : CallR X (.builtin "isinstance") (rIsO X.K) := by
  intro pins s σ H xs us Q I r ⟨a, D, d, b, C, ha, hd, q, h⟩
  have J := exo_inst I.hok ha hd
  rcases h with ⟨c, u, rfl, hu, e⟩ | ⟨tp, cs, ws, rfl, hT, k, e⟩
  · obtain ⟨u1, u2, rfl, r1, r2⟩ := vals2 r
    cases (show u1 = Value.ref a from r1)
    have := hu _ r2
    subst this
    exact PySem.W.kia_one (PySem.W.kitO C) I.kIn J e (fun z => nomatch z) fun tk => ⟨.bl b, H, I.tok tk, rfl, q⟩
  · obtain ⟨u1, u2, rfl, r1, r2⟩ := vals2 r
    cases (show u1 = Value.ref a from r1)
    cases (show u2 = Value.ref tp from r2)
    obtain ⟨_, its, rv, o, h1, h2, n, h3⟩ := (show ObjOk X.prog X.w H s.heap tp (.tup cs) from I.hok tp _ hT)
    have e3 := ClsV.all k rv
    subst e3
    obtain ⟨oc, od, dt, sl⟩ := o
    simp only at h2 h3
    subst h2 h3
    exact PySem.W.kia_tup (PySem.W.kitO C) I.kIn J h1 e (fun z => nomatch z) fun tk => ⟨.bl b, H, I.tok tk, rfl, q⟩
/-- e.n, e a held exception -/
def tXo (K : PySem.W.Frag) (n : Str) (te : TE) : TE := fun σ H Q => te σ H fun x H1 => ∃ (a C dx : Addr) (fs : List (Str × V)) (v : V), x = .ref a ∧ H1 a = some (exo a C (some dx)) ∧ H1 dx = some (exd dx fs) ∧ XfC K C ∧ PySem.W.findIn K (.ref C) n = some none ∧ fs.lookup n = some v ∧ Q v H1
theorem pe_xo (he : PE X e te) (hb : attributeBase e n X.env (eval e X.env) = eval e X.env := by rfl) : PE X (.Attribute e n pos) (tXo X.K n te) := by
  refine ⟨fun pins s σ H Q I h => ?_⟩
  refine attr_of hb (thn (he.run pins s σ H _ I h) fun u s1 ⟨x, H1, I1, rx, a, C, dx, fs, v, ex, ea, ed, T, hno, l, q⟩ => ?_)
  subst ex
  obtain rfl : u = Value.ref a := rx
  obtain ⟨t1, ho⟩ := exo_at I1.hok ea
  obtain ⟨mA, hns, hr⟩ := exd_at I1.hok ed
  obtain ⟨od, hod, hl⟩ := lookIn_ns hns
  obtain ⟨u, hu, ru⟩ := RelO.some_of (v := v) (o := mA n) (by rw [← l]; exact hr n)
  have J : PySem.W.InstAt s1.heap a ({ cls := .ref C, dict := some dx, data := .fields #[.ref t1, .none, .none, .none, .bool false, .none] } : Obj) C (some od) := ⟨ho, rfl, rfl, hod⟩
  exact HandSPX.exc_get I1.kIn J T.ga T.gg T.exC (PySem.W.findObj_own T.hdC hno rfl (by rw [hl, hu])) (handed_of ru) ⟨v, H1, I1.tok _, ru, q⟩
end
end Vm
end
section
set_option Elab.async false
set_option linter.all false
set_option autoImplicit false
set_option maxRecDepth 100000
set_option maxHeartbeats 4000000
/-! Exv: an own exception made and kept -/
namespace Vm
open PySem PySem.Spec PyProof.Rows L2
section
variable {X : Cx} {CX : CXT} {k n : Nat} {C fI : Addr} {fd : FuncData} {ps ks : List Str} {sp : Sp} {E : XK} {x : Str} {p pos : Pos} {e : Expr} {es : List Expr} {kws : List Keyword} {t tk : TA} {gg : List Value → List Value → List Value} {gV : List V → List V → List V}
theorem run_oexV {pins : List (Addr × Obj)} {σ : L2.St} {H : Hp} {s : Shared} {Q : VK} {us ws : List Value} {vs zs : List V} (T : OexC X.K C) (iC : PySem.W.findIn X.K (.ref C) "__init__" = some (some (.ref fI))) (tI : PySem.W.typeIn X.K (.ref fI) = some (.type "function"))
    (Fi : FnOk X.prog X.w X.K X.mg X.base CX k fI fd ps sp) (hr : Room (k + 1) X.A) (hx : Passes CX X E)
    (hb : ∀ a : Addr, ∀ s : Shared, X.K.In s.heap → BindsTo s fd ⟨Value.ref a :: us, ks.zip ws⟩ (ps.zip (gg (Value.ref a :: us) ws))) (hrel : ∀ a : Addr, Vals (gV (.ref a :: vs) zs) (gg (Value.ref a :: us) ws))
    (I : Inv X pins σ H s) (r : Vals vs us) (hl : vs.length ≤ 1000) (h : ∀ a, H a = none → sp (gV (.ref a :: vs) zs) (upd H a (exo a C none)) (fun v H2 => v = .non ∧ Q (.ref a) H2) E) :
    wpAny (model X.prog X.w) X.A (call (.ref C) us (ks.zip ws)) (EP X pins σ Q) X.xe s := by
  obtain ⟨nm, q, N, bs, bm, sn, sub, ab, col, dd, k0, k1, k2, k3, k5, hC, hbm⟩ := T.cls
  obtain ⟨hp, g, dr, tk, os⟩ := s
  have hsz : hp.objs.size ≤ hp.objs.size + 1 := Nat.le_succ _
  have hq := h (hp.objs.size + 1) (I.hok.fresh hsz)
  have kk : ∀ b o, hp.get? b = some o → ((hp.push (PySem.W.kdv_tup us)).push (PySem.HandSPX.excO C hp.objs.size)).get? b = some o := fun b o q => Heap.get?_push_of_some _ (Heap.get?_push_of_some _ q)
  have hget : ((hp.push (PySem.W.kdv_tup us)).push (PySem.HandSPX.excO C hp.objs.size)).get? (hp.objs.size + 1) = some (PySem.HandSPX.excO C hp.objs.size) := by
    heap_get
  have I2 : Inv X pins σ (upd H (hp.objs.size + 1) (exo (hp.objs.size + 1) C none)) ⟨(hp.push (PySem.W.kdv_tup us)).push (PySem.HandSPX.excO C hp.objs.size), g, dr, tk, os⟩ :=
    I.laid (t' := tk) (a := hp.objs.size + 1) (o := exo (hp.objs.size + 1) C none) (h' := (hp.push (PySem.W.kdv_tup us)).push (PySem.HandSPX.excO C hp.objs.size)) kk hsz (exo_ok hget)
  have hus : us.length ≤ sizeLine := by
    rw [← Paired.length r, sizeLine_eq]; omega
  refine wpAny_call (PySem.HandSPX.callK F.excBase_ValueError (fun Y => PySem.HandSPX.refsVE_contains Y bm hbm) (I.kIn _ _ hC) (PySem.W.looks_findIn I.kIn iC) (fun self => PySem.W.bind_fn I.kIn self tI) hus
    (codeAny_mono (Fi.run _ X.stack _ _ ⟨Value.ref (hp.objs.size + 1) :: us, ks.zip ws⟩ (gg (Value.ref (hp.objs.size + 1) :: us) ws) _ _ E (hr.make C us (ks.zip ws)) (I2.env0.make C us (ks.zip ws)) (hb _ _ I2.kIn) (hrel _) hq) fun r s' hq' => ?_))
  cases r with
  | error er => exact hx pins σ _ _ er s' I2 hq'
  | ok fl =>
    cases fl with
    | ret u =>
      obtain ⟨v, H', I3, rv, ev, q3⟩ := I2.after hq'
      subst ev
      exact ⟨rv, ⟨V.ref (hp.objs.size + 1), H', I3, rfl, q3⟩⟩
    | next => exact False.elim hq'
    | brk => exact False.elim hq'
    | cont => exact False.elim hq'
/-- what the making of a held exception wants -/
def tMkV (X : Cx) (C : Addr) (sp : Sp) (gV : List V → List V → List V) (E : XK) (t tk : TA) : TE := fun σ H Q => t σ H fun vs H1 => tk σ H1 fun zs H2 => vs.length + zs.length = 1 ∧
  ∀ a, H2 a = none → sp (gV (.ref a :: vs) zs) (upd H2 a (exo a C none)) (fun v H3 => v = .non ∧ Q (.ref a) H3) E
/-- C(e) -/
theorem pe_oexV (T : OexC X.K C) (iC : PySem.W.findIn X.K (.ref C) "__init__" = some (some (.ref fI))) (tI : PySem.W.typeIn X.K (.ref fI) = some (.type "function"))
    (Fi : FnOk X.prog X.w X.K X.mg X.base CX k fI fd ps sp) (hr : Room (k + 1) X.A) (hb : Binds X.K fd ps []) (hp : ps.length = 2) (hx : Passes CX X E) (hg : Gl X x) (hm : X.mg x = some (.ref C)) (ha : PA X [e] t)
    (hdb : (x == ("__debug__" : Str)) = false := by decide) (he : starEach [e] X.env = (false, eval e X.env) :: starEach [] X.env := by rfl) (hpl : (backTo pos (starEach [] X.env)).any (·.1) = false := by rfl) :
    PE X (.Call (.Name x p) [e] [] pos) (tMkV X C sp (fun vs _ => vs) E t tNil) := by
  refine ⟨fun pins s σ H Q I h => ?_⟩
  refine wpAny_Call_Name_kw (ld_glob I hg hm ?_ hdb)
  refine PySem.W.callWith_K (h₀ := X.base) I.ok.mod.kin T.kC (thn (ha.run pos pins s σ H _ I h) fun us s1 ⟨vs, H1, I1, r1, hz, q1⟩ => ⟨I1.kIn, ?_⟩) he hpl
  have l1 : vs.length = 1 := by simpa using hz
  have l2 : us.length = 1 := by rw [← Paired.length r1, l1]
  refine run_oexV (ks := []) (ws := []) (zs := []) (gV := fun vs _ => vs) (gg := fun us _ => us) T iC tI Fi hr hx (fun a s hk => ?_) (fun a => .cons rfl r1) I1 r1 (by omega) q1
  have := hb s (Value.ref a :: us) hk (by rw [List.append_nil, List.length_cons, l2, hp])
  rw [List.append_nil] at this
  exact this
/-- C(k = e) -/
theorem pe_oexK (T : OexC X.K C) (iC : PySem.W.findIn X.K (.ref C) "__init__" = some (some (.ref fI))) (tI : PySem.W.typeIn X.K (.ref fI) = some (.type "function"))
    (Fi : FnOk X.prog X.w X.K X.mg X.base CX k fI fd ps sp) (hr : Room (k + 1) X.A) (hb : ∀ (s : Shared) (u v : Value), X.K.In s.heap → BindsTo s fd ⟨[u], ks.zip [v]⟩ (ps.zip [u, v])) (hk1 : ks.length = 1) (hx : Passes CX X E) (hg : Gl X x) (hm : X.mg x = some (.ref C)) (hkw : PK X kws tk)
    (hall : (backToKw pos (keywordEach kws X.env)).all (·.1.isSome) = true := by rfl) (hks : (backToKw pos (keywordEach kws X.env)).filterMap (·.1) = ks := by rfl) (hdb : (x == ("__debug__" : Str)) = false := by decide)
    (hpl : ((backTo pos (starEach [] X.env)).any (·.1) || (backToKw pos (keywordEach kws X.env)).any (·.1.isNone)) = false := by rfl) :
    PE X (.Call (.Name x p) [] kws pos) (tMkV X C sp (fun vs zs => vs ++ zs) E tNil tk) := by
  refine ⟨fun pins s σ H Q I h => ?_⟩
  refine wpAny_Call_Name_kw (ld_glob I hg hm ?_ hdb)
  refine PySem.W.callWith_KW0 (h₀ := X.base) I.ok.mod.kin T.kC hall ?_ hpl
  refine thn (hkw.run pos pins s σ H _ I h) fun ws s2 ⟨zs, H2, I2, rz, hz, q2⟩ => ⟨I2.kIn, ?_⟩
  rw [hks]
  have l1 : zs.length = 1 := by simpa using hz
  have l2 : ws.length = 1 := by rw [← Paired.length rz, l1]
  obtain ⟨w, rfl⟩ : ∃ w, ws = [w] := List.length_eq_one_iff.mp l2
  exact run_oexV (us := []) (vs := []) (gV := fun vs zs => vs ++ zs) (gg := fun us ws => us ++ ws) T iC tI Fi hr hx (fun a s hk => hb s _ w hk) (fun a => .cons rfl rz) I2 .nil (by simp) q2
/-- C(), without an __init__ of its own -/
theorem pe_oex0 {bmB : List Value} {B newId initId : String} (Fb : ExcBaseFacts B newId initId bmB) (q : PySem.W.excIn X.K C bmB newId = true) (gC : X.mg x = some (.ref C)) (kC : PySem.W.keepIn X.K (.ref C) = true) (hg : Gl X x) (hdb : (x == ("__debug__" : Str)) = false := by decide) :
    PE X (.Call (.Name x p) [] [] pos) (fun σ H Q => ∀ a, H a = none → Q (.ref a) (upd H a (exo a C none))) := by
  refine ⟨fun pins s σ H Q I h => ?_⟩
  refine wpAny_Call_Name_kw (ld_glob I hg gC ?_ hdb)
  refine PySem.W.callWith_K0 I.kIn kC ?_
  obtain ⟨bm, N, nm, qn, bs, hdct, sn, sub, ab, col, dd, k0, k1, k2, k3, k5, mN, hC, hN, hni, T⟩ := exc_obj I.kIn q
  refine wpAny_call_exc_subT Fb T hC hN hni (fun h' a hm => ?_) (by show 0 ≤ sizeLine; omega)
  have hn : H a = none := I.hok.gone hm.new
  obtain ⟨t, ht, _, _⟩ := hm.there
  exact ⟨.ref a, upd H a (exo a C none), I.laidN hm.keeps hm.new hn (exo_ok ht), rfl, h a hn⟩
end
end Vm
end
section
set_option Elab.async false
set_option linter.all false
set_option autoImplicit false
set_option maxRecDepth 100000
/-! SimA: own exceptions made and held: C(e), C(k = e), C(), e.f, isinstance. -/
namespace Vm
open PySem PySem.Spec PyProof.Rows L2
section
variable {X : Cx} {K : PySem.W.Frag} {G : Gc} {ρ : List Addr} {S : Addr → Prop} {H : Hp} {env : Env} {mem : Mem} {σ : L2.St} {W : WX} {E : XK}
variable {pos p : Pos} {e : Expr} {fe : Env → M Va} {fk : Env → M (List Va)} {k c : Nat} {x f n : Str} {fI : Addr} {fd : FuncData} {ps ks : List Str} {q : Sg} {cs : List Nat} {kws : List Keyword}
/-- what a new exception wants -/
theorem mkE_ok {Q : VK} {y : Va} {v : V} (hc : 1000 ≤ c) (T : OexC K (G.ca c)) (hno : PySem.W.findIn K (.ref (G.ca c)) (sg q) = some none) (R : Rel K G ρ S H env mem σ) (r : Rv K G ρ S H y v) (h : Sat K G (Rv K G) ρ S env σ H W Q (.ok (.obj c [(q, y)]) mem)) {E : XK} :
    ∀ a, H a = none → spI K (sg q) [.ref a, v] (upd H a (exo a (G.ca c) none)) (fun z H3 => z = .non ∧ Q (.ref a) H3) E := by
  intro a hna
  refine ⟨a, G.ca c, v, rfl, T, hno, upd_same, fun dx nx ne => ⟨rfl, ?_⟩⟩
  have nx1 : H dx = none := by rw [upd_ne ne] at nx; exact nx
  have eh : upd (upd (upd H a (exo a (G.ca c) none)) dx (exd dx [(sg q, v)])) a (exo a (G.ca c) (some dx)) = upd (upd H dx (exd dx [(sg q, v)])) a (exo a (G.ca c) (some dx)) := by
    funext b
    by_cases hb : b = a
    · subst hb; rw [upd_same, upd_same]
    · rw [upd_ne hb, upd_ne hb]
      by_cases hd : b = dx
      · subst hd; rw [upd_same, upd_same]
      · rw [upd_ne hd, upd_ne hd, upd_ne hb]
  rw [eh]
  have na2 : upd H dx (exd dx [(sg q, v)]) a = none := by rw [upd_ne (Ne.symm ne)]; exact hna
  have e1 := ext_new (ρ := ρ) (S := S) (o := exd dx [(sg q, v)]) nx1
  have e2 := ext_new (ρ := ρ) (S := fun b => S b ∨ b = dx) (o := exo a (G.ca c) (some dx)) na2
  have R1 := rel_new R nx1 (o := exd dx [(sg q, v)])
  have R2 := rel_new R1 na2 (o := exo a (G.ca c) (some dx))
  refine h ρ _ _ (.ref a) (e1.trans e2) R2 ?_
  simp only [Rv]
  refine ⟨a, [(sg q, v)], rfl, .inr rfl, .inr ⟨hc, some dx, upd_same, .inr ⟨dx, rfl, .inl (.inr rfl), by rw [upd_ne ne, upd_same]⟩⟩, ?_⟩
  simp only [RvF]
  exact ⟨v, [], rfl, Rv.mono e2 R1.out _ _ (Rv.mono e1 R.out _ _ r), rfl⟩
theorem sim_mkE (hc : 1000 ≤ c) (T : OexC X.K (G.ca c)) (iC : PySem.W.findIn X.K (.ref (G.ca c)) "__init__" = some (some (.ref fI))) (tI : PySem.W.typeIn X.K (.ref fI) = some (.type "function")) (hno : PySem.W.findIn X.K (.ref (G.ca c)) f = some none)
    (F1 : FnOk X.prog X.w X.K X.mg X.base (L2.CX X.prog X.w) k fI fd ps (spI X.K f)) (hb : Binds X.K fd ps []) (hp : ps.length = 2) (hq : f = sg q) (tk : Takes X (WF E)) (hr : Room (k + 1) X.A) (hm : X.mg x = some (.ref (G.ca c))) (ha : SE X G (WF E) e fe) (hg : Gl X x := by rfl)
    (hdb : (x == ("__debug__" : Str)) = false := by decide) (he : starEach [e] X.env = (false, eval e X.env) :: starEach [] X.env := by rfl) (hpl : (backTo pos (starEach [] X.env)).any (·.1) = false := by rfl) :
    SE X G (WF E) (.Call (.Name x p) [e] [] pos) (eCall (mkE c q) (aCons fe aNil)) := by
  subst hq
  refine PE.imp (pe_oexV T iC tI F1 hr hb hp (passesF tk) hg hm (sim_cons ha sim_nil he) hdb he hpl) fun σ H Q ⟨ρ, S, env, mem, R, h⟩ => ?_
  refine tX.args (op := mkE c q) (fun ρ S mem H ws vs R r z => ?_) R h
  unfold mkE at z
  split at z
  · rename_i y
    simp only [Rvs] at r
    obtain ⟨v, s, rfl, r1, rfl⟩ := r
    exact ⟨rfl, mkE_ok hc T hno R r1 z⟩
  · exact z.elim
theorem sim_mkEK (hc : 1000 ≤ c) (T : OexC X.K (G.ca c)) (iC : PySem.W.findIn X.K (.ref (G.ca c)) "__init__" = some (some (.ref fI))) (tI : PySem.W.typeIn X.K (.ref fI) = some (.type "function")) (hno : PySem.W.findIn X.K (.ref (G.ca c)) f = some none)
    (F1 : FnOk X.prog X.w X.K X.mg X.base (L2.CX X.prog X.w) k fI fd ps (spI X.K f)) (hb : ∀ (s : Shared) (u v : Value), X.K.In s.heap → BindsTo s fd ⟨[u], ks.zip [v]⟩ (ps.zip [u, v])) (hk1 : ks.length = 1) (hq : f = sg q) (tk : Takes X (WF E)) (hr : Room (k + 1) X.A) (hm : X.mg x = some (.ref (G.ca c)))
    (ha : SK X G (WF E) kws (aCons fe aNil)) (hg : Gl X x := by rfl)
    (hall : (backToKw pos (keywordEach kws X.env)).all (·.1.isSome) = true := by rfl) (hks : (backToKw pos (keywordEach kws X.env)).filterMap (·.1) = ks := by rfl) (hdb : (x == ("__debug__" : Str)) = false := by decide)
    (hpl : ((backTo pos (starEach [] X.env)).any (·.1) || (backToKw pos (keywordEach kws X.env)).any (·.1.isNone)) = false := by rfl) :
    SE X G (WF E) (.Call (.Name x p) [] kws pos) (eCall (mkE c q) (aCons fe aNil)) := by
  subst hq
  refine PE.imp (pe_oexK T iC tI F1 hr hb hk1 (passesF tk) hg hm ha hall hks hdb hpl) fun σ H Q ⟨ρ, S, env, mem, R, h⟩ => ?_
  show tNil σ H _
  refine tX.args (op := mkE c q) (fun ρ S mem H ws vs R r z => ?_) R h
  unfold mkE at z
  split at z
  · rename_i y
    simp only [Rvs] at r
    obtain ⟨v, s, rfl, r1, rfl⟩ := r
    exact ⟨rfl, mkE_ok hc T hno R r1 z⟩
  · exact z.elim
theorem sim_mkE0 {bmB : List Value} {B newId initId : String} (hc : 1000 ≤ c) (Fb : ExcBaseFacts B newId initId bmB) (hi : PySem.W.excIn X.K (G.ca c) bmB newId = true) (kC : PySem.W.keepIn X.K (.ref (G.ca c)) = true) (hm : X.mg x = some (.ref (G.ca c))) (hg : Gl X x := by rfl)
    (hdb : (x == ("__debug__" : Str)) = false := by decide) : SE X G W (.Call (.Name x p) [] [] pos) (mkE0 c) :=
  PE.imp (pe_oex0 Fb hi hm kC hg hdb) fun σ H Q ⟨ρ, S, env, mem, R, h⟩ a hna => by
    have h : Sat X.K G (Rv X.K G) ρ S env σ H W Q (.ok (.obj c []) mem) := h
    have e1 := ext_new (ρ := ρ) (S := S) (o := exo a (G.ca c) none) hna
    refine h ρ _ _ (.ref a) e1 (rel_new R hna) ?_
    simp only [Rv]
    exact ⟨a, [], rfl, .inr rfl, .inr ⟨hc, none, upd_same, .inl ⟨rfl, rfl⟩⟩, by simp only [RvF]⟩
theorem sim_fldE {o : Expr} {fo : Env → M Va} (hC : ∀ c ∈ cs, XfC X.K (G.ca c) ∧ PySem.W.findIn X.K (.ref (G.ca c)) n = some none) (hq : n = sg q) (ho : SE X G W o fo) (hb : attributeBase o n X.env (eval o X.env) = eval o X.env := by rfl) : SE X G W (.Attribute o n pos) (eUn (oFldE cs q) fo) := by
  subst hq
  exact PE.imp (pe_xo ho hb) fun σ H Q ⟨ρ, S, env, mem, R, h⟩ => tX.one (op := oFldE cs q) (fun ρ S mem H y v R r z => by
    unfold oFldE at z
    split at z
    · rename_i c fs
      split at z
      · rename_i hc
        obtain ⟨w, e, z⟩ := lift_sat z
        simp only [Rv] at r
        obtain ⟨a, ps, rfl, h1, h2, h3⟩ := r
        obtain ⟨v, h4, h5⟩ := findF_some h3 e
        rcases h2 with ⟨hlt, _⟩ | ⟨_, d, g1, g2⟩
        · exact absurd hc.2 (Nat.not_le_of_lt hlt)
        · rcases g2 with ⟨_, rfl⟩ | ⟨dx, rfl, _, g3⟩
          · cases h4
          · exact ⟨a, _, dx, ps, v, rfl, g1, g3, (hC _ hc.1).1, (hC _ hc.1).2, h4, sat_pure R z h5⟩
      · exact z.elim
    · exact z.elim) R h
/-- what the table of isinstance must tell -/
def TabOk (K : PySem.W.Frag) (G : Gc) (tab : Nat → Va → Option Bool) : Prop := ∀ c y b, tab c y = some b → 1000 ≤ c ∧ ExcC K (G.ca c) ∧
  ((∃ j, y = .fn j ∧ PySem.W.kitOne K (.ref (G.ca c)) (.ref (G.fa j)) = some b) ∨ (∃ t, y = .ty t ∧ PySem.W.kitOne K (.ref (G.ca c)) (.type t) = some b) ∨
    ∃ us : List String, y = .tup (us.map Va.ty) ∧ PySem.W.kitAny K (.ref (G.ca c)) (us.map Value.type) = some b)
theorem tyNs_map : ∀ us : List String, tyNs (us.map Va.ty) = some us
  | [] => rfl
  | u :: r => by simp only [List.map_cons, tyNs, tyNs_map r, Option.map_some]
theorem bIsE_at {tab : Nat → Va → Option Bool} {G : Gc} (ht : TabOk K G tab) {xs : List Va} {vs : List V} {Q : VK} (R : Rel K G ρ S H env mem σ) (r : Rvs K G ρ S H xs vs) (h : Sat K G (Rv K G) ρ S env σ H W Q (bIsE tab xs mem)) : rIsO K vs H Q := by
  unfold bIsE at h
  split at h
  · rename_i c fs y
    obtain ⟨w, e, z⟩ := lift_sat h
    obtain ⟨b, e2, rfl⟩ := opt_map e
    obtain ⟨hc, C, hy⟩ := ht c y b e2
    simp only [Rvs] at r
    obtain ⟨v, s, rfl, r1, v2, s2, rfl, r2, rfl⟩ := r
    simp only [Rv] at r1
    obtain ⟨a, ps, rfl, h1, h2, h3⟩ := r1
    rcases h2 with ⟨hlt, _⟩ | ⟨_, d, g1, g2⟩
    · exact absurd hc (Nat.not_le_of_lt hlt)
    · refine ⟨a, G.ca c, d, b, C, g1, fun dx hd => ?_, sat_pure R z (by simp only [Rv]), ?_⟩
      · rcases g2 with ⟨rfl, _⟩ | ⟨dx', rfl, _, g3⟩
        · cases hd
        · cases hd; exact ⟨ps, g3⟩
      · rcases hy with ⟨j, rfl, hk⟩ | ⟨t, rfl, hk⟩ | ⟨us, rfl, hk⟩
        · simp only [Rv] at r2
          subst r2
          exact .inl ⟨_, _, rfl, fun z q => q, hk⟩
        · simp only [Rv] at r2
          subst r2
          exact .inl ⟨_, _, rfl, fun z q => q, hk⟩
        · simp only [Rv] at r2
          obtain ⟨tp, ws, rfl, g3, g4⟩ := r2
          have := tyNs_ok (tyNs_map us) g4
          subst this
          exact .inr ⟨tp, _, _, rfl, g3.2, paired_ty us, hk⟩
  · exact h.elim
theorem sim_isE {es : List Expr} {fs : Env → M (List Va)} {tab : Nat → Va → Option Bool} (ht : TabOk X.K G tab) (ha : SA X G W (e :: es) fs) (hv : bootBuiltins x = some (.builtin "isinstance")) (hm : X.mg x = none) (hg : Gl X x := by rfl) (hn : x ≠ "__name__" := by decide) (hdb : (x == ("__debug__" : Str)) = false := by decide)
    (he : starEach (e :: es) X.env = (false, eval e X.env) :: starEach es X.env := by rfl) (hpl : (backTo pos (starEach es X.env)).any (·.1) = false := by rfl) : SE X G W (.Call (.Name x p) (e :: es) [] pos) (eCall (bIsE tab) fs) :=
  PE.imp (pe_callB call_isO hg hm hv ha hn hdb he hpl) fun σ H Q ⟨ρ, S, env, mem, R, h⟩ => tX.args (op := bIsE tab) (fun ρ S mem H ws vs R rv q => bIsE_at ht R rv q) R h
end
theorem excCB_ok {K : PySem.W.Frag} {D : Addr} (h : excCB K D = true) : ExcC K D := by
  unfold excCB at h
  simp only [Bool.and_eq_true, decide_eq_true_eq] at h
  obtain ⟨h1, h2, h3, h4, h5, h6, h7, h8⟩ := h
  exact ⟨h1, h2, h3, h4, h5, h6, h7, h8⟩
theorem isB_two {K : PySem.W.Frag} {ca : Nat → Addr} {d1 d2 cs base : List Nat} {tys : List String} {tus : List (List String)} (e : d1 ++ d2 = cs) (h1 : isB1 K ca d1 cs base tys tus = true) (h2 : isB1 K ca d2 cs base tys tus = true) : isB K ca cs base tys tus = true := by
  subst e
  unfold isB isB1 at *
  rw [List.all_append, h1, h2]; rfl
theorem tyNs_inv : ∀ {us : List Va} {ts : List String}, tyNs us = some ts → us = ts.map Va.ty
  | [], ts, h => by cases h; rfl
  | .ty n :: r, ts, h => by
    simp only [tyNs] at h
    obtain ⟨t, h1, rfl⟩ := opt_map h
    rw [tyNs_inv h1]; rfl
  | .non :: _, _, h | .bl _ :: _, _, h | .int _ :: _, _, h | .str _ :: _, _, h | .fn _ :: _, _, h | .tup _ :: _, _, h | .lst _ :: _, _, h | .dct _ _ :: _, _, h | .obj _ _ :: _, _, h | .ref _ :: _, _, h | .clo _ _ :: _, _, h | .scr _ :: _, _, h | .wtp _ :: _, _, h => by
    simp only [tyNs] at h; cases h
theorem isB_ok {K : PySem.W.Frag} {G : Gc} {cs base : List Nat} {tys : List String} {tus : List (List String)} (hf : ∀ j, 1000 ≤ j → G.fa j = G.ca j) (hc : cs.all (fun c => decide (1000 ≤ c)) = true) (hb : base.all (fun c => decide (1000 ≤ c)) = true) (h : isB K G.ca cs base tys tus = true) : TabOk K G (isTab cs base tys tus) := by
  intro c y b e
  unfold isTab at e
  split at e
  case isFalse => cases e
  rename_i hm
  have q := List.all_eq_true.mp h c hm
  simp only [Bool.and_eq_true] at q
  obtain ⟨q1, q2, q3, q4, q5⟩ := q
  refine ⟨of_decide_eq_true (List.all_eq_true.mp hc c hm), excCB_ok q1, ?_⟩
  split at e
  · rename_i j
    split at e
    · rename_i hj
      cases e
      refine .inl ⟨j, rfl, ?_⟩
      rw [hf j (of_decide_eq_true (List.all_eq_true.mp hb j hj))]
      exact of_decide_eq_true (List.all_eq_true.mp q2 j hj)
    · split at e
      · rename_i hj
        cases e
        refine .inl ⟨j, rfl, ?_⟩
        rw [hf j (of_decide_eq_true (List.all_eq_true.mp hc j hj))]
        exact of_decide_eq_true (List.all_eq_true.mp q3 j hj)
      · cases e
  · rename_i t
    split at e
    · rename_i ht
      cases e
      exact .inr (.inl ⟨t, rfl, of_decide_eq_true (List.all_eq_true.mp q4 t ht)⟩)
    · cases e
  · rename_i us
    split at e
    · rename_i ts hts
      split at e
      · rename_i ht
        cases e
        exact .inr (.inr ⟨ts, by rw [tyNs_inv hts], of_decide_eq_true (List.all_eq_true.mp q5 ts ht)⟩)
      · cases e
    · cases e
  · cases e
end Vm
end
section
set_option Elab.async false
set_option linter.all false
set_option autoImplicit false
set_option maxRecDepth 100000
/-! SimP: a display of a dict with one pair. -/
namespace Vm
open PySem PySem.Spec PyProof.Rows L2
section
variable {X : Cx} {G : Gc} {W : WX} {j : Nat} {t : Str} {z : Sg} {i : Int} {v : Expr} {p pos : Pos} {kd}
theorem sim_dict1 (ht : t = sg z) (hv : PE X v (tC (.int i))) : SE X G W (.Dict [some (.Constant (.str t) kd p)] [v] pos) (eDict1 (.str z) (.int i)) :=
  PE.imp (pe_disp (pps_cons pe_str hv pps_nil) rfl rfl (by simp) (by simp)) fun σ H Q ⟨ρ, S, env, mem, R, h⟩ a ha => by
    subst ht
    refine ⟨upd_same, [(.inr (sg z), .int i)], rfl, by simp, ?_⟩
    have eh : upd (upd H a (.dK [])) a (.dK (mergeK [] [((.inr (sg z) : Key), V.int i)])) = upd H a (.dK [(.inr (sg z), V.int i)]) := by
      funext b
      by_cases hb : b = a
      · subst hb; rw [upd_same, upd_same]; rfl
      · rw [upd_ne hb, upd_ne hb, upd_ne hb]
    rw [eh]
    refine sat_cell R h ha (.inl ⟨rfl, _, upd_same, ?_⟩)
    simp only [RvK]
    exact ⟨_, .int i, [], rfl, rfl, by simp only [Rv], rfl⟩
end
end Vm
end
section
set_option Elab.async false
set_option linter.all false
set_option autoImplicit false
set_option maxRecDepth 100000
/-! SimAa: signed ints and their texts; chained comparisons; except with more clauses. -/
namespace Vm
open PySem PySem.Spec PyProof.Rows L2 Builtin Builtin.Str PySem.SeqAt
section
variable {K : PySem.W.Frag} {X : Cx}
theorem str_neg (k : Nat) : Str.ofString (toString (-((k + 1 : Nat) : Int))) = sg (45 :: TL.numL (k + 1)) := by
  refine TL.ext_tl ?_
  have e : toString (-((k + 1 : Nat) : Int)) = "-" ++ toString (((k + 1 : Nat) : Int)) := rfl
  rw [e, TL.tl_ofString, String.toList_append, List.map_append, ← TL.tl_ofString, ← TL.tl_ofString, TL.tl_num]
  rfl
theorem digsI_ok {i : Int} (h1 : -10 ^ 30 < i) (h2 : i < 10 ^ 30) : ((toString i : String) : Str) = sg (digsI i) := by
  unfold digsI
  split
  · rename_i h0
    have e : i = ((i.toNat : Nat) : Int) := by omega
    have e2 : ((toString i : String) : Str) = Str.ofString (toString ((i.toNat : Nat) : Int)) := by rw [← e]
    rw [e2, SX.num_S, digs_num 30 i.toNat [] (Nat.lt_of_lt_of_le (by omega : i.toNat < 10 ^ 30) (Nat.pow_le_pow_right (by decide) (by decide))), List.append_nil]
  · rename_i h0
    obtain ⟨k, hk⟩ : ∃ k : Nat, (-i).toNat = k + 1 := ⟨(-i).toNat - 1, by omega⟩
    have e : i = -((k + 1 : Nat) : Int) := by omega
    rw [hk, digs_num 30 (k + 1) [] (Nat.lt_of_lt_of_le (by omega : k + 1 < 10 ^ 30) (Nat.pow_le_pow_right (by decide) (by decide))), List.append_nil, ← str_neg k, e]
theorem bStrI_ok : CallS K bStrI (fun xs H Q => ∃ i, xs = [.int i] ∧ i.natAbs.log2 < 1920 ∧ Q (.str (toString i)) H) := by
  intro G W ρ S env σ mem H xs vs Q R r h
  unfold bStrI at h
  split at h
  · split at h
    · rename_i i hi
      simp only [Rvs, Rv] at r
      obtain ⟨v, s, rfl, rfl, rfl⟩ := r
      refine ⟨i, rfl, ?_, sat_pure R h ?_⟩
      · have h1 : i.natAbs < 2 ^ 1920 := Nat.lt_of_lt_of_le (by omega : i.natAbs < 10 ^ 30) (Nat.le_trans (by decide +kernel : 10 ^ 30 ≤ 2 ^ 100) (Nat.pow_le_pow_right (by decide) (by decide)))
        by_cases h0 : i.natAbs = 0
        · rw [h0]; decide
        · exact (Nat.log2_lt h0).mpr h1
      · simp only [Rv]
        rw [digsI_ok hi.1 hi.2]
    · exact h.elim
  · exact h.elim
theorem figs_of {x : Sg} (h : isFigs x = true) : NumText.AllDigits x ∧ x ≠ [] ∧ x.length ≤ 600 ∧ ((NumText.digitsVal x : Nat) : Int) = figs x := by
  unfold isFigs at h
  simp only [Bool.and_eq_true, Bool.not_eq_true', List.isEmpty_eq_false_iff, decide_eq_true_eq] at h
  obtain ⟨h1, h2, h3⟩ := h
  have ad : NumText.AllDigits x := fun c hc => by
    have := of_decide_eq_true (List.all_eq_true.mp h2 c hc)
    exact this
  exact ⟨ad, h1, h3, (TL.fold_digits x 0 ad).symm⟩
theorem bIntI_ok : CallS K bIntI (fun xs H Q => (((∃ i, xs = [.int i] ∧ Q (.int i) H) ∨ ∃ k, xs = [.bl k] ∧ Q (.int (if k then 1 else 0)) H)) ∨ ∃ a n, xs = [.str a] ∧ PySem.intText? a = some n ∧ a.length ≤ 640 ∧ Q (.int n) H) := by
  intro G W ρ S env σ mem H xs vs Q R r h
  unfold bIntI at h
  split at h
  · simp only [Rvs, Rv] at r
    obtain ⟨v, s, rfl, rfl, rfl⟩ := r
    exact .inl (.inl ⟨_, rfl, sat_pure R h (by simp only [Rv])⟩)
  · rename_i x
    split at h
    · rename_i hx
      simp only [Rvs, Rv] at r
      obtain ⟨v, s, rfl, rfl, rfl⟩ := r
      obtain ⟨h1, h2, h3, h4⟩ := figs_of hx
      refine .inr ⟨_, _, rfl, intText_neg (cs := x) rfl h1 h2 (by rw [sg_length]; simp only [List.length_cons]; omega), by rw [sg_length]; simp only [List.length_cons]; omega, ?_⟩
      rw [h4]
      exact sat_pure R h (by simp only [Rv])
    · exact h.elim
  · rename_i x _
    split at h
    · rename_i hx
      simp only [Rvs, Rv] at r
      obtain ⟨v, s, rfl, rfl, rfl⟩ := r
      obtain ⟨h1, h2, h3, h4⟩ := figs_of hx
      refine .inr ⟨_, _, rfl, intText_digits (x := sg x) h1 h2 (by rw [sg_length]; omega), by rw [sg_length]; omega, ?_⟩
      rw [show (NumText.digitsVal (sg x).cps.toList : Nat) = NumText.digitsVal x from rfl, h4]
      exact sat_pure R h (by simp only [Rv])
    · exact h.elim
  · exact h.elim
end
section
variable {X : Cx} {G : Gc} {W : WX} {a b c : Expr} {fa fb fc : Env → M Va} {pos : Pos}
theorem sim_chain {o o' : CmpOp} {op op' : Va → Va → M Va} {r r' : R2} (ho : OpR X (compareOp o) r) (hs : OpS X.K op r) (ho' : OpR X (compareOp o') r') (hs' : OpS X.K op' r') (ha : SE X G W a fa) (hb : SE X G W b fb) (hc : SE X G W c fc)
    (hm : lastMarks [o, o'] [b, c] = false := by with_unfolding_all rfl) : SE X G W (.Compare a [o, o'] [b, c] pos) (eChain op op' fa fb fc) :=
  PE.imp (pe_chain ho ho' ha hb hc hm) fun σ H Q ⟨ρ, S, env, mem, R, h⟩ =>
    tX.of R ((Sat.bind (rel := Rv X.K G) h).imp fun v H1 ⟨ρ1, S1, w, m1, e1, R1, r1, h1⟩ => tX.of R1 ((Sat.bind (rel := Rv X.K G) h1).imp fun u H2 ⟨ρ2, S2, w2, m2, e2, R2, r2, h2⟩ => by
      refine hs G W ρ2 S2 env σ m2 H2 w w2 v u _ R2 (Rv.mono e2 R1.out _ _ r1) r2 ((Sat.bind (rel := Rv X.K G) h2).imp fun z H3 ⟨ρ3, S3, zz, m3, e3, R3, r3, h3⟩ => ?_)
      cases zz with
      | bl k =>
        simp only [Rv] at r3
        subst r3
        refine ⟨k, rfl, ?_⟩
        cases k with
        | false => exact sat_pure R3 (show Sat X.K G (Rv X.K G) ρ3 S3 env σ H3 W Q (.ok (.bl false) m3) from h3) (by simp only [Rv])
        | true =>
          have h4 : Sat X.K G (Rv X.K G) ρ3 S3 env σ H3 W Q ((fc env >>= fun w => op' w2 w) m3) := h3
          exact tX.of R3 ((Sat.bind (rel := Rv X.K G) h4).imp fun w' H4 ⟨ρ4, S4, ww, m4, e4, R4, r4, h5⟩ => hs' G W ρ4 S4 env σ m4 H4 w2 ww u w' Q R4 (Rv.mono e4 R3.out _ _ (Rv.mono e3 R2.out _ _ r2)) r4 h5)
      | _ => exact h3.elim))
end
/-! ### texts cut up -/
section
variable {K : PySem.W.Frag} {X : Cx}
theorem splC_ok (c : Nat) : ∀ (z acc : Sg), TL.spl [c] 0 acc z = splC c acc z
  | [], acc => rfl
  | d :: r, acc => by
    by_cases h : d = c
    · have hp : TL.pre [c] (d :: r) = true := by
        subst h
        show ((d :: r).take 1 == [d]) = true
        simp
      rw [TL.spl_hit hp]
      show acc :: TL.spl [c] 0 [] r = _
      rw [splC_ok c r []]
      show _ = if d = c then _ else _
      rw [if_pos h]
    · rw [TL.spl_miss (TL.pre_of_head [] r h), splC_ok c r (acc ++ [d])]
      show _ = if d = c then _ else _
      rw [if_neg h]
theorem rvs_strs {G : Gc} {ρ : List Addr} {S : Addr → Prop} {H : Hp} : ∀ zs : List Sg, Rvs K G ρ S H (zs.map Va.str) (zs.map fun z => V.str (sg z))
  | [] => rvs_nil
  | z :: r => rvs_cons (by simp only [Rv]) (rvs_strs r)
theorem strs_of_tl {ys : List Str} {zs : List Sg} (h : ys.map TL.tl = zs) : ys.map V.str = zs.map fun z => V.str (sg z) := by
  subst h
  rw [List.map_map]
  refine List.map_congr_left fun y _ => ?_
  show V.str y = V.str ⟨(TL.tl y).toArray⟩
  rw [TL.mk_tl]
theorem kind_low {x : Str} {c : Nat} (hc : c < 128) : ¬ Builtin.Str.strKind x < Builtin.Str.strKind (sg [c]) := by
  have e : Builtin.Str.strKind (sg [c]) = 1 := by
    unfold Builtin.Str.strKind
    have : ((sg [c]).cps.all (· < 256)) = true := by
      simp
      omega
    rw [if_pos this]
  rw [e]
  unfold Builtin.Str.strKind
  split
  · omega
  · split <;> omega
theorem mSplit_ok : MtS K oSplit (fun x xs H Q => ∃ a b, x = .str a ∧ xs = [.str b] ∧ (b.length == 0) = false ∧ a.length + 2 ≤ sizeLine ∧ rNewStrs (Txt.split a b) H Q) := by
  intro G W ρ S env σ mem H x v xs vs Q R r rs h
  unfold oSplit at h
  split at h
  · rename_i z c
    split at h
    · rename_i hz
      simp only [Rv] at r
      simp only [Rvs, Rv] at rs
      obtain ⟨u, s, rfl, rfl, rfl⟩ := rs
      subst r
      refine ⟨_, _, rfl, rfl, rfl, by rw [sg_length, ← line_eq]; exact hz.2, fun p hp => sat_cell R h hp ⟨_, upd_same, ?_⟩⟩
      have e := TL.split_spl (sg z) (sg [c]) (by show [c] ≠ []; simp) (kind_low hz.1)
      have e2 : (Txt.split (sg z) (sg [c])).map TL.tl = splC c [] z := e.trans (splC_ok c z [])
      rw [strs_of_tl e2]
      exact rvs_strs _
    · exact h.elim
  · exact h.elim
theorem isSp_ok {c : Nat} (h : c < 128) : Unicode.isSpace c = isSp c := by
  have q : ∀ c < 128, Unicode.isSpace c = isSp c := by decide +kernel
  exact q c h
theorem words_fold : ∀ (z : Sg) (st : List Sg × Sg), z.all (· < 128) = true → z.foldl TL.wstep st = z.foldl wdStep st
  | [], _, _ => rfl
  | c :: r, st, h => by
    simp only [List.all_cons, Bool.and_eq_true, decide_eq_true_eq] at h
    rw [List.foldl_cons, List.foldl_cons]
    have e : TL.wstep st c = wdStep st c := by
      unfold TL.wstep wdStep
      rw [isSp_ok h.1]
    rw [e]
    exact words_fold r _ h.2
theorem mWords_ok : MtS K oWords (fun x xs H Q => ∃ a, x = .str a ∧ xs = [] ∧ a.length + 2 ≤ sizeLine ∧ rNewStrs (Txt.words a) H Q) := by
  intro G W ρ S env σ mem H x v xs vs Q R r rs h
  unfold oWords at h
  split at h
  · rename_i z
    split at h
    · rename_i hz
      simp only [Rv] at r
      simp only [Rvs] at rs
      subst rs r
      refine ⟨_, rfl, rfl, by rw [sg_length, ← line_eq]; exact hz.2, fun p hp => sat_cell R h hp ⟨_, upd_same, ?_⟩⟩
      have e2 : (Txt.words (sg z)).map TL.tl = wordsG z := by
        rw [TL.words_tl]
        show TL.wfin (z.foldl TL.wstep ([], [])) = _
        rw [words_fold z ([], []) hz.1]
        rfl
      rw [strs_of_tl e2]
      exact rvs_strs _
    · exact h.elim
  · exact h.elim
end
/-! ### xs.count(None), max of two -/
section
variable {K : PySem.W.Frag} {X : Cx}
def nonV : Value → Bool
  | .none => true
  | _ => false
/-- a value that stands for a flat one -/
def FlV : V → Prop
  | .non => True
  | .bl _ => True
  | .int _ => True
  | .str _ => True
  | _ => False
def vNon : V → Bool
  | .non => true
  | _ => false
theorem fl_count : ∀ {ys : List V} {us : List Value}, Vals ys us → (∀ y ∈ ys, FlV y) → (∀ (A : Around) (s : Shared), ∀ u ∈ us, EqAt A s u .none (nonV u)) ∧ us.countP nonV = ys.countP vNon
  | _, _, .nil, _ => ⟨(fun _ _ u h => by cases h), rfl⟩
  | _, _, .cons (a := y) (b := u) ry r, h => by
    obtain ⟨h1, h2⟩ := fl_count r fun z hz => h z (List.mem_cons_of_mem _ hz)
    have hy := h y (List.mem_cons_self ..)
    have key : (∀ (A : Around) (s : Shared), EqAt A s u .none (nonV u)) ∧ nonV u = vNon y := by
      cases y with
      | non => cases ry; exact ⟨fun A s => EqAt.same .none, rfl⟩
      | bl b => cases ry; exact ⟨fun A s => EqAt.bool_none b, rfl⟩
      | int i => obtain ⟨t, rfl⟩ := ry; exact ⟨fun A s => EqAt.int_none i t, rfl⟩
      | str z => obtain ⟨t, rfl⟩ := ry; exact ⟨fun A s => EqAt.str_none z t, rfl⟩
      | _ => exact hy.elim
    refine ⟨fun A s w hw => ?_, ?_⟩
    · rcases List.mem_cons.mp hw with rfl | hw
      · exact key.1 A s
      · exact h1 A s w hw
    · rw [List.countP_cons, List.countP_cons, h2, key.2]
def rCntN (K : PySem.W.Frag) : V → List V → Hp → VK → Prop := fun x xs H Q => ∃ (p : Addr) (ys : List V), x = .ref p ∧ xs = [.non] ∧ SqL K H p ys ∧ (∀ y ∈ ys, FlV y) ∧ Q (.int (ys.countP vNon : Nat)) H
theorem mt_countN : MtR X "list.count" (rCntN X.K) := by
  intro pins s σ H x xs v us Q I rx rxs h
  obtain ⟨p, ys, rfl, rfl, hs, hf, q⟩ := h
  cases rx
  obtain ⟨u, rfl, ru⟩ := rxs.one
  cases ru
  obtain ⟨its, rv, ⟨⟨cls, dd, data, sl⟩, n, ho, hc, hdn, hd⟩, hlen⟩ := I.list hs
  simp only at hc hd
  subst hc hd
  obtain ⟨e1, e2⟩ := fl_count rv hf
  refine call_meets PySem.F.slot_list_count ⟨_, ho, rfl⟩ PySem.F.entry_list_count (PySem.F.args_list_count_2 _ _)
    (SeqAt.list_countAt p its.toArray n dd sl .none nonV) ⟨ho, fun y hy => e1 _ _ y (by simpa using hy), ?_⟩
  have ec : its.toArray.toList.countP nonV = ys.countP vNon := e2
  refine ⟨.int (ys.countP vNon : Nat), H, I.tok _, ⟨s.toks, ?_⟩, q⟩
  rw [← ec]
theorem bMax2_ok : CallS K bMax2 (fun xs H Q => ∃ i j, xs = [.int i, .int j] ∧ Q (.int (if j > i then j else i)) H) := by
  intro G W ρ S env σ mem H xs vs Q R r h
  unfold bMax2 at h
  split at h
  · simp only [Rvs, Rv] at r
    obtain ⟨v, s, rfl, rfl, v2, s2, rfl, rfl, rfl⟩ := r
    exact ⟨_, _, rfl, sat_pure R h (by simp only [Rv])⟩
  · exact h.elim
end
end Vm
end
section
set_option Elab.async false
set_option linter.all false
set_option autoImplicit false
set_option maxRecDepth 100000
/-! how a run of the memory machine is told step by step: the combinators, run on a memory -/
namespace Vm
section
variable {α β : Type} {i n : Nat} {env : Env} {m : Mem} {x y z : Va} {xs ys : List Va}
@[simp] theorem eVar_at {v : Va} (h : env[i]? = some (some v)) : eVar i env m = .ok v m := by unfold eVar; rw [h]; rfl
@[simp] theorem eC_at : eC x env m = .ok x m := rfl
@[simp] theorem eOp_at {op : Va → Va → M Va} {a b : Env → M Va} : eOp op a b env m = (a env m).bind fun x m => (b env m).bind fun y m => op x y m := rfl
@[simp] theorem eUn_at {op : Va → M Va} {a : Env → M Va} : eUn op a env m = (a env m).bind fun x m => op x m := rfl
@[simp] theorem eCall_at {f : List Va → M Va} {a : Env → M (List Va)} : eCall f a env m = (a env m).bind fun xs m => f xs m := rfl
@[simp] theorem aNil_at : aNil env m = .ok [] m := rfl
@[simp] theorem aCons_at {a : Env → M Va} {r : Env → M (List Va)} : aCons a r env m = (a env m).bind fun x m => (r env m).bind fun xs m => .ok (x :: xs) m := rfl
@[simp] theorem aStar_at {a : Env → M Va} {r : Env → M (List Va)} : aStar a r env m = (a env m).bind fun x m => (asQ x m).bind fun xs m => (r env m).bind fun ys m => .ok (xs ++ ys) m := rfl
@[simp] theorem eTup_at {a : Env → M (List Va)} : eTup a env m = (a env m).bind fun xs m => if xs.length ≤ line then .ok (.tup xs) m else .no := by
  show (a env m).bind _ = _
  congr 1; funext xs m; dsimp only; split <;> rfl
@[simp] theorem eLst_at {a : Env → M (List Va)} : eLst a env m = (a env m).bind fun xs m => if xs.length ≤ line then .ok (.lst xs) m else .no := by
  show (a env m).bind _ = _
  congr 1; funext xs m; dsimp only; split <;> rfl
@[simp] theorem eLstM_at {a : Env → M (List Va)} : eLstM a env m = (a env m).bind fun xs m => if xs.length ≤ line then .ok (.ref m.length) (m ++ [.lst xs]) else .no := by
  show (a env m).bind _ = _
  congr 1; funext xs m; dsimp only; split <;> rfl
@[simp] theorem newM_at {c : Cell} : newM c m = .ok (.ref m.length) (m ++ [c]) := rfl
@[simp] theorem tB_at {a : Env → M Va} : tB a env m = (a env m).bind fun x m => asB x m := rfl
@[simp] theorem asB_bl {b : Bool} : asB (.bl b) m = .ok b m := rfl
@[simp] theorem tTru_at {a : Env → M Va} : tTru a env m = (a env m).bind fun x m => tru x m := rfl
@[simp] theorem tNot_at {a : Env → M Bool} : tNot a env m = (a env m).bind fun b m => .ok (!b) m := rfl
@[simp] theorem tAnd_at {a b : Env → M Bool} : tAnd a b env m = (a env m).bind fun x m => if x then b env m else .ok false m := by
  show (a env m).bind _ = _
  congr 1; funext x m; cases x <;> rfl
@[simp] theorem tOr_at {a b : Env → M Bool} : tOr a b env m = (a env m).bind fun x m => if x then .ok true m else b env m := by
  show (a env m).bind _ = _
  congr 1; funext x m; cases x <;> rfl
@[simp] theorem eAnd_at {a b : Env → M Va} : eAnd a b env m = (a env m).bind fun x m => (tru x m).bind fun t m => if t then b env m else .ok x m := by
  show (a env m).bind _ = _
  congr 1; funext x m; show (tru x m).bind _ = _; congr 1; funext t m; cases t <;> rfl
@[simp] theorem eOr_at {a b : Env → M Va} : eOr a b env m = (a env m).bind fun x m => (tru x m).bind fun t m => if t then .ok x m else b env m := by
  show (a env m).bind _ = _
  congr 1; funext x m; show (tru x m).bind _ = _; congr 1; funext t m; cases t <;> rfl
@[simp] theorem eNot_at {a : Env → M Va} : eNot a env m = (a env m).bind fun x m => (tru x m).bind fun t m => .ok (.bl (!t)) m := rfl
@[simp] theorem eIf_at {c : Env → M Bool} {a b : Env → M Va} : eIf c a b env m = (c env m).bind fun t m => if t then a env m else b env m := by
  show (c env m).bind _ = _
  congr 1; funext t m; cases t <;> rfl
@[simp] theorem sIf_at {c : Env → M Bool} {a b : Env → M Flow} : sIf c a b env m = (c env m).bind fun t m => if t then a env m else b env m := by
  show (c env m).bind _ = _
  congr 1; funext t m; cases t <;> rfl
def seqK (g : Env → M Flow) : Flow → Mem → Res Flow
  | .nx e, m => g e m
  | .rt v, m => .ok (.rt v) m
  | .bk e, m => .ok (.bk e) m
  | .ct e, m => .ok (.ct e) m
@[simp] theorem seqK_nx {g : Env → M Flow} : seqK g (.nx env) m = g env m := rfl
@[simp] theorem seqK_rt {g : Env → M Flow} : seqK g (.rt x) m = .ok (.rt x) m := rfl
@[simp] theorem seqK_bk {g : Env → M Flow} : seqK g (.bk env) m = .ok (.bk env) m := rfl
@[simp] theorem seqK_ct {g : Env → M Flow} : seqK g (.ct env) m = .ok (.ct env) m := rfl
@[simp] theorem sSeq_at {f g : Env → M Flow} : sSeq f g env m = (f env m).bind fun fl m => seqK g fl m := by
  show (f env m).bind _ = _
  congr 1; funext fl m; cases fl <;> rfl
@[simp] theorem sSet_at {a : Env → M Va} : sSet i a env m = (a env m).bind fun x m => .ok (.nx (env.set i (some x))) m := rfl
@[simp] theorem sAsg_at {g : Va → Env → M Env} {a : Env → M Va} : sAsg g a env m = (a env m).bind fun x m => (g x env m).bind fun e m => .ok (.nx e) m := rfl
@[simp] theorem sExpr_at {a : Env → M Va} : sExpr a env m = (a env m).bind fun x m => .ok (.nx env) m := rfl
@[simp] theorem sRet_at {a : Env → M Va} : sRet a env m = (a env m).bind fun x m => .ok (.rt x) m := rfl
@[simp] theorem sNext_at : sNext env m = .ok (.nx env) m := rfl
@[simp] theorem sBreak_at : sBreak env m = .ok (.bk env) m := rfl
@[simp] theorem sCont_at : sCont env m = .ok (.ct env) m := rfl
def whK (n : Nat) (c : Env → M Bool) (b : Env → M Flow) : Flow → Mem → Res Flow
  | .nx e, m => sWhile n c b e m
  | .ct e, m => sWhile n c b e m
  | .bk e, m => .ok (.nx e) m
  | .rt v, m => .ok (.rt v) m
@[simp] theorem whK_nx {c : Env → M Bool} {b : Env → M Flow} : whK n c b (.nx env) m = sWhile n c b env m := rfl
@[simp] theorem whK_ct {c : Env → M Bool} {b : Env → M Flow} : whK n c b (.ct env) m = sWhile n c b env m := rfl
@[simp] theorem whK_bk {c : Env → M Bool} {b : Env → M Flow} : whK n c b (.bk env) m = .ok (.nx env) m := rfl
@[simp] theorem whK_rt {c : Env → M Bool} {b : Env → M Flow} : whK n c b (.rt x) m = .ok (.rt x) m := rfl
theorem sWhile_at {c : Env → M Bool} {b : Env → M Flow} : sWhile (n + 1) c b env m = (c env m).bind fun t m => if t then (b env m).bind fun fl m => whK n c b fl m else .ok (.nx env) m := by
  show (c env m).bind _ = _
  congr 1; funext t m; cases t
  · rfl
  · show (b env m).bind _ = _
    rw [if_pos rfl]
    congr 1; funext fl m; cases fl <;> rfl
theorem wh_yes {c : Env → M Bool} {b : Env → M Flow} {m1 m2 : Mem} {e : Env} (hc : c env m = .ok true m1) (hb : b env m1 = .ok (.nx e) m2) : sWhile (n + 1) c b env m = sWhile n c b e m2 := by
  rw [sWhile_at, hc, bind_ok, if_pos rfl, hb, bind_ok, whK_nx]
theorem wh_no {c : Env → M Bool} {b : Env → M Flow} {m1 : Mem} (hc : c env m = .ok false m1) : sWhile (n + 1) c b env m = .ok (.nx env) m1 := by
  rw [sWhile_at, hc, bind_ok, if_neg (by simp)]
def forK (g : Va → Env → M Env) (b : Env → M Flow) (env : Env) : Src → Mem → Res Flow
  | .val xs, m => forL g b xs env m
  | .live rd, m => forC g b rd fuel 0 env m
@[simp] theorem forK_val {g : Va → Env → M Env} {b : Env → M Flow} : forK g b env (.val xs) m = forL g b xs env m := rfl
@[simp] theorem forK_live {g : Va → Env → M Env} {b : Env → M Flow} {rd : Mem → Option (List Va)} : forK g b env (.live rd) m = forC g b rd fuel 0 env m := rfl
@[simp] theorem sFor_at {s : Env → M Src} {g : Va → Env → M Env} {b : Env → M Flow} : sFor s g b env m = (s env m).bind fun q m => forK g b env q m := by
  show (s env m).bind _ = _
  congr 1; funext q m; cases q <;> rfl
@[simp] theorem iSeq_at {a : Env → M Va} : iSeq a env m = (a env m).bind fun x m => srcOf x m := rfl
@[simp] theorem srcOf_wtp : srcOf (.wtp xs) m = .ok (.val xs) m := rfl
@[simp] theorem srcOf_tup : srcOf (.tup xs) m = .ok (.val xs) m := rfl
@[simp] theorem srcOf_lst : srcOf (.lst xs) m = .ok (.val xs) m := rfl
theorem srcOf_ref {k : Nat} (h : m[k]? = some (.lst xs)) : srcOf (.ref k) m = .ok (.live (rdCell k)) m := by unfold srcOf; simp only [h]
@[simp] theorem forL_nil {g : Va → Env → M Env} {b : Env → M Flow} : forL g b [] env m = .ok (.nx env) m := rfl
theorem forL_nx {g : Va → Env → M Env} {b : Env → M Flow} {e e2 : Env} {m1 m2 : Mem} (hg : g x env m = .ok e m1) (hb : b e m1 = .ok (.nx e2) m2) : forL g b (x :: xs) env m = forL g b xs e2 m2 := by
  show (g x env m).bind _ = _
  rw [hg, bind_ok]
  show (b e m1).bind _ = _
  rw [hb, bind_ok]
theorem forL_rt {g : Va → Env → M Env} {b : Env → M Flow} {e : Env} {m1 m2 : Mem} (hg : g x env m = .ok e m1) (hb : b e m1 = .ok (.rt y) m2) : forL g b (x :: xs) env m = .ok (.rt y) m2 := by
  show (g x env m).bind _ = _
  rw [hg, bind_ok]
  show (b e m1).bind _ = _
  rw [hb, bind_ok]; rfl
theorem cut_nat {α : Type} {zs : List α} {a k : Nat} {i j : Int} (hi : i = a) (hj : j = (a + k : Nat)) (h : a ≤ zs.length) : cut zs (some i) (some j) = (zs.drop a).take k := by
  subst hi hj
  have e0 : ∀ (n d v : Nat), cutI n d (some (v : Int)) = min v n := fun n d v => by
    show (if (v : Int) < 0 then ((v : Int) + (n : Int)).toNat else min (v : Int).toNat n) = _
    rw [if_neg (by omega)]
    rfl
  have e1 : cutI zs.length 0 (some (a : Int)) = a := by rw [e0]; omega
  have e2 : cutI zs.length zs.length (some ((a + k : Nat) : Int)) = min (a + k) zs.length := e0 _ _ _
  unfold cut
  rw [e1, e2, List.take_eq_take_iff, List.length_drop]
  omega
theorem oCut_str {w : Sg} {l h : Option Int} (hl : w.length ≤ line) : oCut (.str w) l h m = .ok (.str (cut w l h)) m := by
  unfold oCut; simp only [if_pos hl]
theorem any_strs {s : Sg} : ∀ ws : List Sg, ((ws.map Va.str).any fun y => eqv y (.str s)) = decide (s ∈ ws)
  | [] => rfl
  | w :: r => by
    simp only [List.map_cons, List.any_cons, any_strs r, eqv]
    by_cases h : w = s
    · simp [h]
    · have h' : ¬ s = w := fun e => h e.symm
      simp [h, h']
theorem all_strs : ∀ ws : List Sg, (ws.map Va.str).all flat = true
  | [] => rfl
  | w :: r => by simp only [List.map_cons, List.all_cons, all_strs r, flat, Bool.and_self]
theorem inM_wtps {s : Sg} {ws : List Sg} : inM (.str s) (.wtp (ws.map Va.str)) m = .ok (decide (s ∈ ws)) m := by
  unfold inM
  simp only [all_strs, any_strs, flat, Bool.and_self, if_true]
theorem set_self {α : Type} {l : List α} {i : Nat} {v : α} (h : l[i]? = some v) : l.set i v = l := by
  apply List.ext_getElem?
  intro j
  by_cases e : i = j
  · subst e
    rw [List.getElem?_set]
    simp [h]
    obtain ⟨q, _⟩ := List.getElem?_eq_some_iff.mp h
    exact q
  · rw [List.getElem?_set_ne e]
@[simp] theorem sPar_at {is : List Nat} {a : Env → M (List Va)} : sPar is a env m = (a env m).bind fun xs m => if xs.length = is.length then .ok (.nx (setAll is xs env)) m else .no := by
  show (a env m).bind _ = _
  congr 1; funext xs m; dsimp only; split <;> rfl
theorem oAppend_ref {k : Nat} (h : m[k]? = some (.lst xs)) (hl : xs.length < line) : oAppend (.ref k) [x] m = .ok .non (m.set k (.lst (xs ++ [x]))) := by
  unfold oAppend; simp only [h, if_pos hl]
@[simp] theorem asQ_lst : asQ (.lst xs) m = .ok xs m := rfl
@[simp] theorem asQ_tup : asQ (.tup xs) m = .ok xs m := rfl
theorem asQ_ref {k : Nat} (h : m[k]? = some (.lst xs)) : asQ (.ref k) m = .ok xs m := by unfold asQ; simp only [h]
theorem last_at {α : Type} {l : List α} {v : α} : (l ++ [v])[l.length]? = some v := by simp
theorem set_last {α : Type} {l : List α} {v w : α} : (l ++ [v]).set l.length w = l ++ [w] := by simp
@[simp] theorem eLcM_at {s : Env → M Src} {g : Va → Env → M Env} {t : Env → M Bool} {el : Env → M Va} {vs : List Nat} : eLcM s g t el vs env m = (s env m).bind fun q m => srcLc g t el vs q env m := rfl
@[simp] theorem srcLc_val {g : Va → Env → M Env} {t : Env → M Bool} {el : Env → M Va} {vs : List Nat} : srcLc g t el vs (.val xs) env m = endLc m.length (lcL m.length g t el xs (wipeE env vs) (m ++ [.lst []])) := rfl
@[simp] theorem lcL_nil {g : Va → Env → M Env} {t : Env → M Bool} {el : Env → M Va} : lcL n g t el [] env m = .ok () m := rfl
theorem lcL_cons {g : Va → Env → M Env} {t : Env → M Bool} {el : Env → M Va} {e : Env} {m1 m2 m3 : Mem} (hg : g x env m = .ok e m1) (ht : t e m1 = .ok true m2) (he : el e m2 = .ok y m3) {acc : List Va} (hm : m3[n]? = some (.lst acc)) (hl : acc.length < line) :
    lcL n g t el (x :: xs) env m = lcL n g t el xs env (m3.set n (.lst (acc ++ [y]))) := by
  have p : pushM n y m3 = .ok () (m3.set n (.lst (acc ++ [y]))) := by unfold pushM; simp only [hm, if_pos hl]
  have q : lcT n g t el x env m = .ok () (m3.set n (.lst (acc ++ [y]))) := by
    show (g x env m).bind _ = _
    rw [hg, bind_ok]
    show (t e m1).bind _ = _
    rw [ht, bind_ok]
    show (el e m2).bind _ = _
    rw [he, bind_ok]
    exact p
  show (lcT n g t el x env m).bind _ = _
  rw [q, bind_ok]
@[simp] theorem iZip_at {a : Env → M (List Va)} : iZip a env m = (a env m).bind fun xs m => zipOf xs m := rfl
@[simp] theorem zipOf_lst : zipOf [.lst xs, .lst ys] m = .ok (.val (zipV xs ys)) m := rfl
@[simp] theorem zipOf_tup : zipOf [.tup xs, .tup ys] m = .ok (.val (zipV xs ys)) m := rfl
@[simp] theorem iRange1_at {a : Env → M (List Va)} : iRange1 a env m = (a env m).bind fun xs m => range1 xs m := rfl
@[simp] theorem endLc_ok : endLc n (.ok () m) = .ok (.ref n) m := rfl
def runK : Flow → Mem → Res Va
  | .nx _, m => .ok .non m
  | .rt v, m => .ok v m
  | _, _ => .no
@[simp] theorem runK_nx : runK (.nx env) m = .ok .non m := rfl
@[simp] theorem runK_rt : runK (.rt x) m = .ok x m := rfl
@[simp] theorem runF_at {b : Env → M Flow} : runF n b xs m = (b (xs.map some ++ List.replicate (n - xs.length) none) m).bind fun fl m => runK fl m := by
  show (b _ m).bind _ = _
  congr 1; funext fl m; cases fl <;> rfl
@[simp] theorem lenM_at {f : List Va → M Va} : lenM n f xs m = if xs.length = n then f xs m else .no := by unfold lenM; split <;> rfl
@[simp] theorem gVar_at : gVar i x env m = .ok (env.set i (some x)) m := rfl
@[simp] theorem gNil_at : gNil [] env m = .ok env m := rfl
@[simp] theorem gCons_at {g : Va → Env → M Env} {h : List Va → Env → M Env} : gCons g h (x :: xs) env m = (g x env m).bind fun e m => h xs e m := rfl
@[simp] theorem gTup_at {h : List Va → Env → M Env} : gTup n h x env m = (asQ x m).bind fun xs m => if xs.length = n then h xs env m else .no := by
  show (asQ x m).bind _ = _
  congr 1; funext xs m; dsimp only; split <;> rfl
@[simp] theorem gIx_at {a b : Env → M Va} : gIx a b x env m = (a env m).bind fun o m => (b env m).bind fun k m => (setM o k x m).bind fun _ m => .ok env m := rfl
@[simp] theorem oEq_at : oEq x y m = (eqM x y m).bind fun b m => .ok (.bl b) m := rfl
@[simp] theorem oNe_at : oNe x y m = (eqM x y m).bind fun b m => .ok (.bl (!b)) m := rfl
@[simp] theorem oIn_at : oIn x y m = (inM x y m).bind fun b m => .ok (.bl b) m := rfl
@[simp] theorem oIs_at : oIs x y m = (isM x y m).bind fun b m => .ok (.bl b) m := rfl
@[simp] theorem oIsNot_at : oIsNot x y m = (isM x y m).bind fun b m => .ok (.bl (!b)) m := rfl
@[simp] theorem pSome_at {a : Env → M Va} : pSome a env m = (a env m).bind fun x m => (asI x m).bind fun i m => .ok (some i) m := rfl
@[simp] theorem pNone_at : pNone env m = .ok none m := rfl
@[simp] theorem asI_int {i : Int} : asI (.int i) m = .ok i m := rfl
@[simp] theorem eCut_at {a : Env → M Va} {l h : Env → M (Option Int)} : eCut a l h env m = (a env m).bind fun x m => (l env m).bind fun l m => (h env m).bind fun h m => oCut x l h m := rfl
@[simp] theorem eM_at {chk : Va → Mem → Bool} {op : Va → List Va → M Va} {fo : Env → M Va} {fs : Env → M (List Va)} : eM chk op fo fs env m = (fo env m).bind fun x m => (needM (chk x) m).bind fun _ m => (fs env m).bind fun ws m => op x ws m := rfl
@[simp] theorem needM_at {c : Mem → Bool} : needM c m = if c m then .ok () m else .no := rfl
theorem chkL_ref {k : Nat} {zs : List Va} (h : m[k]? = some (.lst zs)) : chkL (.ref k) m = true := by unfold chkL asL; simp only [h]
theorem eqM_flat (h : (flat x && flat y) = true) : eqM x y m = .ok (eqv x y) m := by unfold eqM; rw [if_pos h]; rfl
def ixC (m : Mem) (k : Va) : Option Cell → Res Va
  | some (.lst xs) => match k with
    | .int i => lift (atV xs i) m
    | _ => .no
  | some (.dct t kvs) => if isKey t k then lift (findK t k kvs) m else .no
  | _ => .no
@[simp] theorem oIx_ref {k : Nat} {j : Va} : oIx (.ref k) j m = ixC m j m[k]? := by
  unfold oIx ixC
  rfl
@[simp] theorem ixC_lst {j : Int} : ixC m (.int j) (some (.lst xs)) = lift (atV xs j) m := rfl
@[simp] theorem ixC_dct {t : Bool} {kvs : List (Va × Va)} : ixC m x (some (.dct t kvs)) = if isKey t x then lift (findK t x kvs) m else .no := rfl
@[simp] theorem oIx_lst {j : Int} : oIx (.lst xs) (.int j) m = lift (atV xs j) m := rfl
@[simp] theorem oIx_tup {j : Int} : oIx (.tup xs) (.int j) m = lift (atV xs j) m := rfl
@[simp] theorem oIx_str {j : Int} {w : Sg} : oIx (.str w) (.int j) m = if w.length ≤ line then lift ((atV w j).map fun c => .str [c]) m else .no := rfl
def stC (m : Mem) (k : Nat) (j x : Va) : Option Cell → Res Unit
  | some (.lst xs) => match j with
    | .int i => match ixV xs.length i with
      | some q => .ok () (m.set k (.lst (xs.set q x)))
      | none => .no
    | _ => .no
  | some (.dct t kvs) => if isKey t j ∧ kvs.length < line then .ok () (m.set k (.dct t (putK t j x kvs))) else .no
  | _ => .no
@[simp] theorem setM_ref {k : Nat} {j : Va} : setM (.ref k) j x m = stC m k j x m[k]? := by
  unfold setM stC
  rfl
def stI (m : Mem) (k : Nat) (x : Va) (zs : List Va) : Option Nat → Res Unit
  | some q => .ok () (m.set k (.lst (zs.set q x)))
  | none => .no
@[simp] theorem stC_lst {k : Nat} {j : Int} : stC m k (.int j) x (some (.lst xs)) = stI m k x xs (ixV xs.length j) := by
  show (match ixV xs.length j with | some q => Res.ok () (m.set k (.lst (xs.set q x))) | none => .no) = _
  cases ixV xs.length j <;> rfl
@[simp] theorem stI_some {k q : Nat} : stI m k x xs (some q) = .ok () (m.set k (.lst (xs.set q x))) := rfl
theorem resolve_ref {n k : Nat} {zs : List Va} (h : m[k]? = some (.lst zs)) : resolve (n + 1) m (.ref k) = (mapO (resolve n m) zs).map .lst := by
  rw [resolve]
  simp only [plain, h, Bool.false_eq_true, if_false]
theorem resolve_plain {n : Nat} (h : plain x = true) : resolve n m x = some x := by
  cases n <;> simp only [resolve, h, if_true]
theorem eqM_data {a b : Va} (h : (flat x && flat y) = false) (h1 : resolve deep m x = some a) (h2 : resolve deep m y = some b) (d : (isDat a && isDat b && decide (dep a ≤ 64) && decide (dep b ≤ 64)) = true) : eqM x y m = .ok (eqv a b) m := by
  unfold eqM
  rw [if_neg (by rw [h]; simp)]
  simp only [res, bind_eq, h1, h2, lift_some, bind_ok]
  rw [if_pos d]; rfl
@[simp] theorem bInt_int {a : Int} : bInt [.int a] m = .ok (.int a) m := rfl
@[simp] theorem bAbs_int {a : Int} : bAbs [.int a] m = .ok (.int (if a < 0 then -a else a)) m := rfl
@[simp] theorem bLen_lst : bLen [.lst xs] m = .ok (.int xs.length) m := rfl
@[simp] theorem bLen_tup : bLen [.tup xs] m = .ok (.int xs.length) m := rfl
@[simp] theorem bLen_str {w : Sg} : bLen [.str w] m = if w.length ≤ line then .ok (.int w.length) m else .no := rfl
theorem bLen_ref {k : Nat} (h : m[k]? = some (.lst xs)) : bLen [.ref k] m = .ok (.int xs.length) m := by
  show (asQ (.ref k) m).bind _ = _
  unfold asQ
  simp only [h]
  rfl
theorem atV_in {α : Type} {zs : List α} {d : Int} (h0 : 0 ≤ d) (h1 : d < zs.length) : ∃ q ∈ zs, atV zs d = some q := by
  have e : d.toNat < zs.length := by omega
  exact ⟨zs[d.toNat], List.getElem_mem e, by unfold atV; rw [if_pos h0, List.getElem?_eq_getElem e]⟩
theorem atV_nat {α : Type} {zs : List α} {k : Nat} : atV zs (k : Int) = zs[k]? := by unfold atV; rw [if_pos (by omega)]; rfl
theorem oIx_strN {w : Sg} {k : Nat} {c : Nat} (hl : w.length ≤ line) (h : w[k]? = some c) : oIx (.str w) (.int k) m = .ok (.str [c]) m := by
  rw [oIx_str, if_pos hl, atV_nat, h]; rfl
@[simp] theorem inM_str {c : Nat} {w : Sg} : inM (.str [c]) (.str w) m = .ok (decide (c ∈ w)) m := rfl
@[simp] theorem tru_bl {b : Bool} : tru (.bl b) m = .ok b m := rfl
@[simp] theorem tru_int {i : Int} : tru (.int i) m = .ok (i != 0) m := rfl
theorem bInt_str {w : Sg} (h : w ≠ [] ∧ (w.all fun (c : Nat) => decide (48 ≤ c ∧ c ≤ 57)) = true ∧ w.length ≤ 600) : bInt [.str w] m = .ok (.int (figs w)) m := by
  show (if w ≠ [] ∧ (w.all fun (c : Nat) => decide (48 ≤ c ∧ c ≤ 57)) = true ∧ w.length ≤ 600 then M.pure (Va.int (figs w)) else stuck) m = _
  rw [if_pos h]; rfl
@[simp] theorem oAdd_int {a b : Int} : oAdd (.int a) (.int b) m = .ok (.int (a + b)) m := rfl
@[simp] theorem oSub_int {a b : Int} : oSub (.int a) (.int b) m = .ok (.int (a - b)) m := rfl
theorem oMul_int {a b : Int} (h : (-big < a ∧ a < big) ∨ (-big < b ∧ b < big)) : oMul (.int a) (.int b) m = .ok (.int (a * b)) m := by unfold oMul; simp only [if_pos h]; rfl
theorem oMod_int {a b : Int} (h : 0 < b) : oMod (.int a) (.int b) m = .ok (.int (a % b)) m := by unfold oMod; simp only [if_pos h]; rfl
theorem oDiv_int {a b : Int} (h : 0 < b ∧ b < 1073741824) : oDiv (.int a) (.int b) m = .ok (.int (a / b)) m := by unfold oDiv; simp only [if_pos h]; rfl
theorem oPow_int {a b : Int} (h : 0 ≤ b ∧ b ≤ 1000 ∧ a.natAbs < 18446744073709551616) : oPow (.int a) (.int b) m = .ok (.int (a ^ b.toNat)) m := by unfold oPow; simp only [if_pos h]; rfl
@[simp] theorem oLt_int {a b : Int} : oLt (.int a) (.int b) m = .ok (.bl (decide (a < b))) m := rfl
@[simp] theorem oLe_int {a b : Int} : oLe (.int a) (.int b) m = .ok (.bl (decide (a ≤ b))) m := rfl
@[simp] theorem oGt_int {a b : Int} : oGt (.int a) (.int b) m = .ok (.bl (decide (b < a))) m := rfl
@[simp] theorem oGe_int {a b : Int} : oGe (.int a) (.int b) m = .ok (.bl (decide (b ≤ a))) m := rfl
end
end Vm
end
section
set_option Elab.async false
set_option linter.all false
set_option autoImplicit false
set_option maxRecDepth 100000
namespace Vm
namespace Com
@[reducible] def b__law_stream : Env → M Flow := (sRet (eLstM (aCons (eCall bList (aCons (eVar 0) aNil)) (aCons (eC (.int 0)) (aCons (eC (.int 0)) (aCons (eC (.int 17)) aNil))))))
def m__law_stream : List Va → M Va := runF 1 b__law_stream
@[reducible] def b_drawLoop : Env → M Flow := (sSeq (sSet 2 (eCall bAbs (aCons (eM chkL oPopAt (eOp oIx (eVar 0) (eC (.int 0))) (aCons (eC (.int 0)) aNil)) aNil)))
  (sSeq (sAsg (gIx (eVar 0) (eC (.int 3))) (eOp oMod (eCall bInt (aCons (eOp oAdd (eOp oAdd (eOp oMul (eOp oIx (eVar 0) (eC (.int 3))) (eC (.int 8191))) (eVar 2)) (eC (.int 3))) aNil)) (eC (.int 2147483647))))
  (sAsg (gIx (eVar 0) (eC (.int 1))) (eIf (tB (eOp oGe (eVar 2) (eOp oPow (eC (.int 10)) (eC (.int 18))))) (eVar 2) (eC (.int 0))))))
@[reducible] def c_drawLoop : Env → M Bool := (tAnd (tB (eOp oEq (eOp oIx (eVar 0) (eC (.int 1))) (eC (.int 0)))) (tB (eOp oNe (eOp oIx (eVar 0) (eC (.int 0))) (eLst aNil))))
@[reducible] def b__law_draw : Env → M Flow := (sSeq (sAsg (gIx (eVar 0) (eC (.int 2))) (eOp oAdd (eOp oIx (eVar 0) (eC (.int 2))) (eC (.int 1))))
  (sSeq (sWhile fuel c_drawLoop b_drawLoop)
  (sSeq (sIf (tB (eOp oGt (eOp oIx (eVar 0) (eC (.int 1))) (eC (.int 0)))) (sSeq (sSet 3 (eOp oMod (eCall bInt (aCons (eOp oIx (eVar 0) (eC (.int 1))) aNil)) (eVar 1)))
  (sSeq (sAsg (gIx (eVar 0) (eC (.int 1))) (eOp oDiv (eOp oIx (eVar 0) (eC (.int 1))) (eVar 1)))
  (sRet (eVar 3)))) sNext)
  (sSeq (sSet 4 (eOp oMod (eCall bInt (aCons (eOp oPow (eOp oAdd (eOp oAdd (eOp oIx (eVar 0) (eC (.int 3))) (eOp oMul (eC (.int 7919)) (eOp oIx (eVar 0) (eC (.int 2))))) (eC (.int 104729))) (eC (.int 5))) aNil)) (eC (.int 2147483629))))
  (sRet (eOp oMod (eOp oMod (eCall bInt (aCons (eOp oPow (eOp oAdd (eOp oAdd (eOp oMul (eVar 4) (eC (.int 48271))) (eOp oMul (eC (.int 30011)) (eOp oIx (eVar 0) (eC (.int 2))))) (eC (.int 29))) (eC (.int 3))) aNil)) (eC (.int 1000000007))) (eVar 1)))))))
def m__law_draw : List Va → M Va := runF 5 b__law_draw
@[reducible] def b__law_pick : Env → M Flow := (sRet (eOp oIx (eVar 1) (eCall (lenM 2 m__law_draw) (aCons (eVar 0) (aCons (eCall bLen (aCons (eVar 1) aNil)) aNil)))))
def m__law_pick : List Va → M Va := runF 2 b__law_pick
/-! ### the stream -/
/-- the stream of draws: the script's rest, its three numbers. It stands in the memory's first two cells -/
structure St where
  xs : List Int
  a : Int
  b : Int
  c : Int
def St.mem (s : St) (r : Mem) : Mem := .lst (s.xs.map Va.int) :: .lst [.ref 0, .int s.a, .int s.b, .int s.c] :: r
/-- so many draws are left -/
structure St.Ok (s : St) (n : Nat) : Prop where
  xs : s.xs.length ≤ 1000
  a : 0 ≤ s.a
  b : 0 ≤ s.b
  bn : s.b + n ≤ 1000000000
  c : 0 ≤ s.c
  cn : s.c < 2147483647
theorem resolve_ints (m : Mem) (n : Nat) : ∀ xs : List Int, mapO (resolve n m) (xs.map Va.int) = some (xs.map Va.int)
  | [] => rfl
  | x :: r => by
    have e : resolve n m (.int x) = some (.int x) := resolve_plain rfl
    simp only [List.map_cons, mapO, e, resolve_ints m n r]
theorem isDats_ints : ∀ xs : List Int, isDats (xs.map Va.int) = true
  | [] => rfl
  | x :: r => by simp only [List.map_cons, isDats, isDat, isDats_ints r, Bool.and_self]
theorem deps_ints : ∀ xs : List Int, deps (xs.map Va.int) = 0
  | [] => rfl
  | x :: r => by simp only [List.map_cons, deps, dep, deps_ints r, Nat.max_self]
theorem eqM_nil {m : Mem} {k : Nat} {xs : List Int} (h : m[k]? = some (.lst (xs.map Va.int))) : eqM (.ref k) (.lst []) m = .ok (xs.isEmpty) m := by
  have e1 : resolve deep m (.ref k) = some (.lst (xs.map Va.int)) := by
    rw [show deep = 59 + 1 from rfl, resolve_ref h, resolve_ints]; rfl
  have e2 : resolve deep m (.lst []) = some (.lst []) := resolve_plain rfl
  have f : (flat (.ref k) && flat (.lst [])) = false := rfl
  have d : (isDat (.lst (xs.map Va.int)) && isDat (.lst []) && decide (dep (.lst (xs.map Va.int)) ≤ 64) && decide (dep (.lst []) ≤ 64)) = true := by
    simp [isDat, isDats, isDats_ints, dep, deps, deps_ints]
  have q : eqv (.lst (xs.map Va.int)) (.lst []) = xs.isEmpty := by cases xs <;> rfl
  rw [eqM_data f e1 e2 d, q]
theorem oPopAt_0 {m : Mem} {k : Nat} {v : Va} {zs : List Va} (h : m[k]? = some (.lst (v :: zs))) (hl : (v :: zs).length ≤ line) : oPopAt (.ref k) [.int 0] m = .ok v (m.set k (.lst zs)) := by
  have e : ixV (v :: zs).length 0 = some 0 := by simp [ixV]
  unfold oPopAt
  simp only [h, e]
  simp only [List.getElem?_cons_zero, if_pos hl, List.eraseIdx_cons_zero]
theorem loop_ok {n : Nat} {many : Int} {r : Mem} : ∀ (k : Nat) (s : St) (c : Option Va), s.Ok n → s.xs.length < k → ∃ (s' : St) (c' : Option Va), s'.Ok n ∧
    sWhile k c_drawLoop b_drawLoop [some (.ref 1), some (.int many), c, none, none] (s.mem r) = .ok (.nx [some (.ref 1), some (.int many), c', none, none]) (s'.mem r)
  | 0, s, c, h, hl => by omega
  | k + 1, s, c, h, hl => by
    have e0 : (s.mem r)[0]? = some (.lst (s.xs.map Va.int)) := rfl
    by_cases ha : s.a = 0
    · cases hx : s.xs with
      | nil =>
        refine ⟨s, c, h, ?_⟩
        have e := eqM_nil (m := s.mem r) (k := 0) e0
        simp [St.mem, hx, ha] at e
        simp [sWhile_at, St.mem, atV, eqM_flat, flat, eqv, ha, hx, e]
      | cons x t =>
        have e := eqM_nil (m := s.mem r) (k := 0) e0
        simp [St.mem, hx, ha] at e
        have h1 := h.c
        have h2 := h.cn
        have hp := oPopAt_0 (m := s.mem r) (k := 0) (v := .int x) (zs := t.map Va.int) (by rw [e0, hx]; rfl) (by have := h.xs; rw [hx] at this; simp only [List.length_cons, List.length_map] at this ⊢; exact Nat.le_trans this (by decide))
        simp [St.mem, hx, ha] at hp
        have hm : ∀ m, oMul (.int s.c) (.int 8191) m = .ok (.int (s.c * 8191)) m := fun m => oMul_int (.inr (by decide))
        obtain ⟨ab, hab⟩ : ∃ ab : Int, (if x < 0 then -x else x) = ab := ⟨_, rfl⟩
        obtain ⟨s', c', h', z⟩ := loop_ok k ⟨t, if 1000000000000000000 ≤ ab then ab else 0, s.b, (s.c * 8191 + ab + 3) % 2147483647⟩ (some (.int ab)) (by
          refine ⟨?_, ?_, h.b, h.bn, ?_, ?_⟩
          · have := h.xs; rw [hx] at this; simp at this ⊢; omega
          · show 0 ≤ (if 1000000000000000000 ≤ ab then ab else 0); split <;> omega
          · exact Int.emod_nonneg _ (by decide)
          · exact Int.emod_lt_of_pos _ (by decide)) (by rw [hx] at hl; simp at hl ⊢; omega)
        refine ⟨s', c', h', ?_⟩
        rw [← z]
        simp [sWhile_at, St.mem, atV, ixV, eqM_flat, flat, eqv, ha, hx, e, asL, chkL, hp, hm, hab, oMod_int, oPow_int, big]
        by_cases hq : 1000000000000000000 ≤ ab
        · simp [hq, atV, ixV]
        · simp [hq, atV, ixV]
    · refine ⟨s, c, h, ?_⟩
      simp [sWhile_at, St.mem, atV, eqM_flat, flat, eqv, ha]
theorem draw_ok {n : Nat} {many : Int} {r : Mem} (s : St) (h : s.Ok (n + 1)) (h0 : 0 < many) (h1 : many < 1073741824) : ∃ (d : Int) (s' : St), s'.Ok n ∧ 0 ≤ d ∧ d < many ∧ m__law_draw [.ref 1, .int many] (s.mem r) = .ok (.int d) (s'.mem r) := by
  obtain ⟨t, c, ht, z⟩ := loop_ok (n := n) (many := many) (r := r) fuel ⟨s.xs, s.a, s.b + 1, s.c⟩ none ⟨h.xs, h.a, by have := h.b; show 0 ≤ s.b + 1; omega, by have := h.bn; show s.b + 1 + (n : Int) ≤ _; push_cast at this; omega, h.c, h.cn⟩ (Nat.lt_of_le_of_lt h.xs (by decide))
  have z2 : sWhile fuel c_drawLoop b_drawLoop [some (Va.ref 1), some (Va.int many), none, none, none] (.lst (s.xs.map Va.int) :: .lst [.ref 0, .int s.a, .int (s.b + 1), .int s.c] :: r) = _ := z
  have b1 := ht.a
  have b2 := ht.b
  have b3 := ht.bn
  have b4 := ht.c
  have b5 := ht.cn
  by_cases ha : 0 < t.a
  · refine ⟨t.a % many, ⟨t.xs, t.a / many, t.b, t.c⟩, ⟨ht.xs, Int.ediv_nonneg b1 (by omega), b2, b3, b4, b5⟩, Int.emod_nonneg _ (by omega), Int.emod_lt_of_pos _ h0, ?_⟩
    simp [m__law_draw, St.mem, atV, ixV, z2, ha, h0, h1, oMod_int, oDiv_int]
  · have p1 : ∀ m, oMul (.int 7919) (.int t.b) m = .ok (.int (7919 * t.b)) m := fun m => oMul_int (.inl (by decide))
    have p2 : ∀ m, oPow (.int (t.c + 7919 * t.b + 104729)) (.int 5) m = .ok (.int ((t.c + 7919 * t.b + 104729) ^ 5)) m := fun m => oPow_int ⟨by decide, by decide, by omega⟩
    obtain ⟨q, hq⟩ : ∃ q, (t.c + 7919 * t.b + 104729) ^ 5 % 2147483629 = q := ⟨_, rfl⟩
    have q1 : 0 ≤ q := hq ▸ Int.emod_nonneg _ (by decide)
    have q2 : q < 2147483629 := hq ▸ Int.emod_lt_of_pos _ (by decide)
    have p3 : ∀ m, oMul (.int q) (.int 48271) m = .ok (.int (q * 48271)) m := fun m => oMul_int (.inr (by decide))
    have p4 : ∀ m, oMul (.int 30011) (.int t.b) m = .ok (.int (30011 * t.b)) m := fun m => oMul_int (.inl (by decide))
    have p5 : ∀ m, oPow (.int (q * 48271 + 30011 * t.b + 29)) (.int 3) m = .ok (.int ((q * 48271 + 30011 * t.b + 29) ^ 3)) m := fun m => oPow_int ⟨by decide, by decide, by omega⟩
    refine ⟨(q * 48271 + 30011 * t.b + 29) ^ 3 % 1000000007 % many, t, ht, Int.emod_nonneg _ (by omega), Int.emod_lt_of_pos _ h0, ?_⟩
    simp [m__law_draw, St.mem, atV, ixV, z2, ha, h0, h1, oMod_int, p1, p2, hq, p3, p4, p5]
theorem pick_lst {n : Nat} {r : Mem} {xs : List Va} (s : St) (h : s.Ok (n + 1)) (h0 : xs ≠ []) (h1 : xs.length < 1073741824) : ∃ (x : Va) (s' : St), x ∈ xs ∧ s'.Ok n ∧ m__law_pick [.ref 1, .lst xs] (s.mem r) = .ok x (s'.mem r) := by
  have hl : 0 < xs.length := List.length_pos_iff.mpr h0
  obtain ⟨d, s', hs, d0, d1, e⟩ := draw_ok (r := r) s h (many := xs.length) (by omega) (by omega)
  obtain ⟨q, hq, hv⟩ := atV_in d0 d1
  exact ⟨q, s', hq, hs, by simp [m__law_pick, e, hv]⟩
theorem pick_tup {n : Nat} {r : Mem} {xs : List Va} (s : St) (h : s.Ok (n + 1)) (h0 : xs ≠ []) (h1 : xs.length < 1073741824) : ∃ (x : Va) (s' : St), x ∈ xs ∧ s'.Ok n ∧ m__law_pick [.ref 1, .tup xs] (s.mem r) = .ok x (s'.mem r) := by
  have hl : 0 < xs.length := List.length_pos_iff.mpr h0
  obtain ⟨d, s', hs, d0, d1, e⟩ := draw_ok (r := r) s h (many := xs.length) (by omega) (by omega)
  obtain ⟨q, hq, hv⟩ := atV_in d0 d1
  exact ⟨q, s', hq, hs, by simp [m__law_pick, e, hv]⟩
theorem St.at2 (s : St) (r : Mem) (k : Nat) : (s.mem r)[k + 2]? = r[k]? := rfl
theorem pick_ref {n k : Nat} {r : Mem} {xs : List Va} (s : St) (h : s.Ok (n + 1)) (hk : r[k]? = some (.lst xs)) (h0 : xs ≠ []) (h1 : xs.length < 1073741824) : ∃ (x : Va) (s' : St), x ∈ xs ∧ s'.Ok n ∧ m__law_pick [.ref 1, .ref (k + 2)] (s.mem r) = .ok x (s'.mem r) := by
  have hl : 0 < xs.length := List.length_pos_iff.mpr h0
  obtain ⟨d, s', hs, d0, d1, e⟩ := draw_ok (r := r) s h (many := xs.length) (by omega) (by omega)
  obtain ⟨q, hq, hv⟩ := atV_in d0 d1
  have hb : bLen [.ref (k + 2)] (s.mem r) = .ok (.int xs.length) (s.mem r) := bLen_ref ((s.at2 r k).trans hk)
  exact ⟨q, s', hq, hs, by simp [m__law_pick, hb, e, s'.at2, hk, hv]⟩
theorem stream_ok (ns : List Int) : m__law_stream [.scr ns] [] = .ok (.ref 1) (St.mem ⟨ns, 0, 0, 17⟩ []) := rfl
theorem St.start {ns : List Int} {n : Nat} (h : ns.length ≤ 1000) (hn : n ≤ 1000000000) : St.Ok ⟨ns, 0, 0, 17⟩ n := ⟨h, Int.le_refl 0, Int.le_refl 0, by show (0 : Int) + n ≤ _; omega, (by decide : (0 : Int) ≤ 17), (by decide : (17 : Int) < 2147483647)⟩
theorem St.Ok.le {s : St} {n k : Nat} (h : s.Ok n) (hk : k ≤ n) : s.Ok k := ⟨h.xs, h.a, h.b, by have := h.bn; omega, h.c, h.cn⟩
end Com
end Vm
end
section
set_option Elab.async false
set_option linter.all false
set_option autoImplicit false
set_option maxRecDepth 100000
/-! the mirrors of the laws' common helpers on data -/
namespace Vm
namespace Com
def kts : List String := ["bool", "dict", "int", "list", "str", "tuple"]
def m__law_same : Nat → List Va → M Va
  | 0 => fun _ => stuck
  | n + 1 => runF 4 (sSeq (sIf (tTru (eCall (bIsi kts) (aCons (eVar 1) (aCons (eTup (aCons (eC (.ty "list")) (aCons (eC (.ty "tuple")) aNil))) aNil)))) (sSeq (sIf (tOr (tB (eOp oNe (eCall (bIsi kts) (aCons (eVar 0) (aCons (eC (.ty "list")) aNil))) (eCall (bIsi kts) (aCons (eVar 1) (aCons (eC (.ty "list")) aNil))))) (tB (eOp oNe (eCall (bIsi kts) (aCons (eVar 0) (aCons (eC (.ty "tuple")) aNil))) (eCall (bIsi kts) (aCons (eVar 1) (aCons (eC (.ty "tuple")) aNil)))))) (sRet (eC (.bl false))) sNext)
  (sRet (eAnd (eOp oEq (eCall bLen (aCons (eVar 0) aNil)) (eCall bLen (aCons (eVar 1) aNil))) (eCall bAll (aCons (eLcM (iZip (aCons (eVar 0) (aCons (eVar 1) aNil))) (gTup 2 (gCons (gVar 2) (gCons (gVar 3) gNil))) tYesM (eCall (lenM 2 (peekM (m__law_same n))) (aCons (eVar 2) (aCons (eVar 3) aNil))) [2, 3]) aNil))))) sNext)
  (sSeq (sIf (tTru (eCall (bIsi kts) (aCons (eVar 1) (aCons (eC (.ty "dict")) aNil)))) (sRet (eAnd (eCall (bIsi kts) (aCons (eVar 0) (aCons (eC (.ty "dict")) aNil))) (eCall (lenM 2 (peekM (m__law_same n))) (aCons (eItems (eVar 0)) (aCons (eItems (eVar 1)) aNil))))) sNext)
  (sSeq (sIf (tOr (tTru (eCall (bIsi kts) (aCons (eVar 1) (aCons (eC (.ty "bool")) aNil)))) (tTru (eCall (bIsi kts) (aCons (eVar 0) (aCons (eC (.ty "bool")) aNil))))) (sRet (eAnd (eCall (bIsi kts) (aCons (eVar 1) (aCons (eC (.ty "bool")) aNil))) (eAnd (eCall (bIsi kts) (aCons (eVar 0) (aCons (eC (.ty "bool")) aNil))) (eOp oEq (eVar 0) (eVar 1))))) sNext)
  (sSeq (sIf (tOr (tB (eOp oIs (eVar 1) (eC .non))) (tB (eOp oIs (eVar 0) (eC .non)))) (sRet (eAnd (eOp oIs (eVar 1) (eC .non)) (eOp oIs (eVar 0) (eC .non)))) sNext)
  (sSeq (sIf (tOr (tB (eOp oNe (eCall (bIsi kts) (aCons (eVar 1) (aCons (eC (.ty "int")) aNil))) (eCall (bIsi kts) (aCons (eVar 0) (aCons (eC (.ty "int")) aNil))))) (tB (eOp oNe (eCall (bIsi kts) (aCons (eVar 1) (aCons (eC (.ty "str")) aNil))) (eCall (bIsi kts) (aCons (eVar 0) (aCons (eC (.ty "str")) aNil)))))) (sRet (eC (.bl false))) sNext)
  (sRet (eAnd (eNot (eCall (bIsi kts) (aCons (eVar 0) (aCons (eTup (aCons (eC (.ty "list")) (aCons (eC (.ty "tuple")) (aCons (eC (.ty "dict")) aNil)))) aNil)))) (eOp oEq (eVar 0) (eVar 1)))))))))
def m__law_spoilt : Nat → List Va → M Va
  | 0 => fun _ => stuck
  | n + 1 => runF 2 (sSeq (sIf (tTru (eCall (bIsi kts) (aCons (eVar 0) (aCons (eTup (aCons (eC (.ty "list")) (aCons (eC (.ty "tuple")) aNil))) aNil)))) (sFor (iSeq (eVar 0)) (gVar 1) (sExpr (eCall (lenM 1 (m__law_spoilt n)) (aCons (eVar 1) aNil)))) sNext)
  (sIf (tTru (eCall (bIsi kts) (aCons (eVar 0) (aCons (eC (.ty "list")) aNil)))) (sExpr (eM chkL oAppend (eVar 0) (aCons (eC (.str [108, 97, 116, 101])) aNil))) sNext))
def m__law_copied : Nat → List Va → M Va
  | 0 => fun _ => stuck
  | n + 1 => runF 4 (sSeq (sIf (tTru (eCall (bIsi kts) (aCons (eVar 0) (aCons (eC (.ty "dict")) aNil)))) (sRet eStuck) sNext)
  (sSeq (sSet 1 (eIf (tTru (eCall (bIsi kts) (aCons (eVar 0) (aCons (eTup (aCons (eC (.ty "list")) (aCons (eC (.ty "tuple")) aNil))) aNil)))) (eLcM (iSeq (eVar 0)) (gVar 2) tYesM (eCall (lenM 1 (m__law_copied n)) (aCons (eVar 2) aNil)) [2]) (eVar 0)))
  (sRet (eIf (tTru (eCall (bIsi kts) (aCons (eVar 0) (aCons (eC (.ty "tuple")) aNil)))) (eCall bTuple (aCons (eVar 1) aNil)) (eVar 1)))))
mutual
/-- what `_law_same` tells of data -/
def sameV : Va → Va → Bool
  | .lst xs, .lst ys => decide (xs.length = ys.length) && sameVs xs ys
  | .tup xs, .tup ys => decide (xs.length = ys.length) && sameVs xs ys
  | .bl a, .bl b => a == b
  | .non, .non => true
  | .int i, .int j => decide (i = j)
  | .str x, .str y => decide (x = y)
  | _, _ => false
def sameVs : List Va → List Va → Bool
  | x :: r, y :: s => sameV x y && sameVs r s
  | _, _ => true
end
mutual
theorem dat_plain : ∀ x : Va, isDat x = true → plain x = true
  | .non, _ => rfl
  | .bl _, _ => rfl
  | .int _, _ => rfl
  | .str _, _ => rfl
  | .tup xs, h => dats_plain xs h
  | .lst xs, h => dats_plain xs h
  | .ty _, h => by cases h
  | .fn _, h => by cases h
  | .dct _ _, h => by cases h
  | .obj _ _, h => by cases h
  | .ref _, h => by cases h
  | .clo _ _, h => by cases h
  | .scr _, h => by cases h
  | .wtp _, h => by cases h
theorem dats_plain : ∀ xs : List Va, isDats xs = true → plains xs = true
  | [], _ => rfl
  | x :: r, h => by
    simp only [isDats, Bool.and_eq_true] at h
    simp only [plains, Bool.and_eq_true]
    exact ⟨dat_plain x h.1, dats_plain r h.2⟩
end
mutual
theorem same_refl : ∀ x : Va, isDat x = true → sameV x x = true
  | .non, _ => rfl
  | .bl b, _ => by simp [sameV]
  | .int _, _ => by simp [sameV]
  | .str _, _ => by simp [sameV]
  | .tup xs, h => by simp [sameV, sames_refl xs h]
  | .lst xs, h => by simp [sameV, sames_refl xs h]
  | .ty _, h => by cases h
  | .fn _, h => by cases h
  | .dct _ _, h => by cases h
  | .obj _ _, h => by cases h
  | .ref _, h => by cases h
  | .clo _ _, h => by cases h
  | .scr _, h => by cases h
  | .wtp _, h => by cases h
theorem sames_refl : ∀ xs : List Va, isDats xs = true → sameVs xs xs = true
  | [], _ => rfl
  | x :: r, h => by
    simp only [isDats, Bool.and_eq_true] at h
    simp only [sameVs, Bool.and_eq_true]
    exact ⟨same_refl x h.1, sames_refl r h.2⟩
end
theorem same_flat {n : Nat} {x y : Va} {m : Mem} (hx : isDat x = true) (hy : flat y = true) : m__law_same (n + 1) [x, y] m = .ok (.bl (sameV x y)) m := by
  unfold m__law_same
  cases x <;> first | (cases hx; done) | skip
  all_goals (cases y <;> first | (cases hy; done) | skip)
  all_goals simp [bIsi, tyS, tyNs, isub, kts, line, sameV, eqM_flat, flat, eqv, isM, isNon]
theorem peek_same {n : Nat} {x y : Va} {m : Mem} (hx : isDat x = true) (hy : isDat y = true) (h : ∃ m', m__law_same n [x, y] [] = .ok (.bl (sameV x y)) m') : peekM (m__law_same n) [x, y] m = .ok (.bl (sameV x y)) m := by
  obtain ⟨m', h⟩ := h
  unfold peekM
  have e : mapO (resolve deep m) [x, y] = some [x, y] := by
    simp only [mapO, resolve_plain (dat_plain x hx), resolve_plain (dat_plain y hy)]
  simp only [e, h, flat, if_true]
mutual
def small : Va → Bool
  | .lst xs => decide (xs.length < 1000000) && smalls xs
  | .tup xs => decide (xs.length < 1000000) && smalls xs
  | _ => true
def smalls : List Va → Bool
  | [] => true
  | x :: r => small x && smalls r
end
@[reducible] def el_same (n : Nat) : Env → M Va := eCall (lenM 2 (peekM (m__law_same n))) (aCons (eVar 2) (aCons (eVar 3) aNil))
theorem same_loop {n : Nat} {v0 v1 : Option Va} {k : Nat} (ih : ∀ x y : Va, isDat x = true → isDat y = true → small y = true → dep y < n → ∃ m', m__law_same n [x, y] [] = .ok (.bl (sameV x y)) m') :
    ∀ (xs ys : List Va) (acc : List Bool) (m : Mem), isDats xs = true → isDats ys = true → smalls ys = true → deps ys < n → acc.length + xs.length < line → m[k]? = some (.lst (acc.map Va.bl)) →
      ∃ bs : List Bool, bs.all id = sameVs xs ys ∧ lcL k (gTup 2 (gCons (gVar 2) (gCons (gVar 3) gNil))) tYesM (el_same n) (zipV xs ys) [v0, v1, none, none] m = .ok () (m.set k (.lst ((acc ++ bs).map Va.bl)))
  | [], ys, acc, m, _, _, _, _, _, hm => ⟨[], by cases ys <;> rfl, by
      have : zipV [] ys = [] := by unfold zipV; simp
      rw [this, List.append_nil, lcL_nil, set_self hm]⟩
  | x :: xs, [], acc, m, _, _, _, _, _, hm => ⟨[], rfl, by
      have : zipV (x :: xs) [] = [] := by unfold zipV; simp
      rw [this, List.append_nil, lcL_nil, set_self hm]⟩
  | x :: xs, y :: ys, acc, m, hx, hy, hs, hd, hl, hm => by
    simp only [isDats, Bool.and_eq_true] at hx hy
    simp only [smalls, Bool.and_eq_true] at hs
    simp only [deps] at hd
    simp only [List.length_cons] at hl
    have e : zipV (x :: xs) (y :: ys) = .tup [x, y] :: zipV xs ys := by unfold zipV; simp
    have pk := peek_same (m := m) hx.1 hy.1 (ih x y hx.1 hy.1 hs.1 (by omega))
    have hk : k < m.length := (List.getElem?_eq_some_iff.mp hm).1
    have hm2 : (m.set k (.lst (acc.map Va.bl ++ [.bl (sameV x y)])))[k]? = some (.lst ((acc ++ [sameV x y]).map Va.bl)) := by
      rw [List.getElem?_set]; simp [hk]
    obtain ⟨bs, h1, h2⟩ := same_loop ih xs ys (acc ++ [sameV x y]) _ hx.2 hy.2 hs.2 (by omega) (by simp; omega) hm2
    refine ⟨sameV x y :: bs, by simp [h1, sameVs], ?_⟩
    rw [e, lcL_cons (e := [v0, v1, some x, some y]) (m1 := m) (m2 := m) (m3 := m) (y := .bl (sameV x y)) (by simp) rfl (by simp [pk]) hm (by simp; omega), h2, List.set_set]
    simp
theorem asBls_map : ∀ bs : List Bool, asBls (bs.map Va.bl) = some bs
  | [] => rfl
  | b :: r => by simp only [List.map_cons, asBls, asBls_map r, Option.map_some]
theorem bAll_ref {m : Mem} {k : Nat} {bs : List Bool} (h : m[k]? = some (.lst (bs.map Va.bl))) : bAll [.ref k] m = .ok (.bl (bs.all id)) m := by
  have e : asL (.ref k) m = .ok (bs.map Va.bl) m := by unfold asL; simp only [h]
  show (asL (.ref k) m).bind _ = _
  rw [e, bind_ok]
  show lift ((asBls (bs.map Va.bl)).map fun bs => Va.bl (bs.all id)) m = _
  rw [asBls_map]; rfl
/-- `_law_same` on data tells `sameV` -/
theorem same_ok : ∀ (n : Nat) (x y : Va), isDat x = true → isDat y = true → small y = true → dep y < n → ∀ m : Mem, ∃ m', m__law_same n [x, y] m = .ok (.bl (sameV x y)) m'
  | 0, x, y, _, _, _, h, m => by omega
  | n + 1, x, y, hx, hy, hs, hd, m => by
    have ih := same_ok n
    cases hf : flat y with
    | true => exact ⟨m, same_flat hx hf⟩
    | false =>
      cases y with
      | tup ys =>
        simp only [isDat] at hy
        simp only [dep] at hd
        simp only [small, Bool.and_eq_true, decide_eq_true_eq] at hs
        cases x <;> first | (cases hx; done) | skip
        case tup xs =>
          simp only [isDat] at hx
          by_cases hl : xs.length = ys.length
          · obtain ⟨bs, h1, h2⟩ := same_loop (v0 := some (.tup xs)) (v1 := some (.tup ys)) (k := m.length) (fun x y a b c d => ih x y a b c d []) xs ys [] (m ++ [.lst []]) hx hy hs.2 (by omega) (by have : line = 16777216 := rfl; simp; omega) last_at
            rw [set_last, List.nil_append] at h2
            have ha := bAll_ref (m := m ++ [.lst (bs.map Va.bl)]) (k := m.length) last_at
            refine ⟨m ++ [.lst (bs.map Va.bl)], ?_⟩
            unfold m__law_same
            simp [bIsi, tyS, tyNs, isub, kts, line, sameV, eqM_flat, flat, eqv, hl, wipeE, h2, ha, h1]
          · have hl' : ¬ (xs.length : Int) = ys.length := by omega
            refine ⟨m, ?_⟩
            unfold m__law_same
            simp [bIsi, tyS, tyNs, isub, kts, line, sameV, eqM_flat, flat, eqv, hl, hl']
        all_goals
          refine ⟨m, ?_⟩
          unfold m__law_same
          simp [bIsi, tyS, tyNs, isub, kts, line, sameV, eqM_flat, flat, eqv]
      | lst ys =>
        simp only [isDat] at hy
        simp only [dep] at hd
        simp only [small, Bool.and_eq_true, decide_eq_true_eq] at hs
        cases x <;> first | (cases hx; done) | skip
        case lst xs =>
          simp only [isDat] at hx
          by_cases hl : xs.length = ys.length
          · obtain ⟨bs, h1, h2⟩ := same_loop (v0 := some (.lst xs)) (v1 := some (.lst ys)) (k := m.length) (fun x y a b c d => ih x y a b c d []) xs ys [] (m ++ [.lst []]) hx hy hs.2 (by omega) (by have : line = 16777216 := rfl; simp; omega) last_at
            rw [set_last, List.nil_append] at h2
            have ha := bAll_ref (m := m ++ [.lst (bs.map Va.bl)]) (k := m.length) last_at
            refine ⟨m ++ [.lst (bs.map Va.bl)], ?_⟩
            unfold m__law_same
            simp [bIsi, tyS, tyNs, isub, kts, line, sameV, eqM_flat, flat, eqv, hl, wipeE, h2, ha, h1]
          · have hl' : ¬ (xs.length : Int) = ys.length := by omega
            refine ⟨m, ?_⟩
            unfold m__law_same
            simp [bIsi, tyS, tyNs, isub, kts, line, sameV, eqM_flat, flat, eqv, hl, hl']
        all_goals
          refine ⟨m, ?_⟩
          unfold m__law_same
          simp [bIsi, tyS, tyNs, isub, kts, line, sameV, eqM_flat, flat, eqv]
      | _ => first | (cases hy; done) | (cases hf; done)
end Com
end Vm
end
section
set_option Elab.async false
set_option linter.all false
set_option autoImplicit false
set_option maxRecDepth 100000
/-! rules for loops, by invariants; the memory behind the stream -/
namespace Vm
theorem forL_rule {g : Va → Env → M Env} {b : Env → M Flow} (P : List Va → Env → Mem → Prop)
    (step : ∀ x r e m, P (x :: r) e m → ∃ e1 m1 e2 m2, g x e m = .ok e1 m1 ∧ (b e1 m1 = .ok (.nx e2) m2 ∨ b e1 m1 = .ok (.ct e2) m2) ∧ P r e2 m2) :
    ∀ xs e m, P xs e m → ∃ e' m', forL g b xs e m = .ok (.nx e') m' ∧ P [] e' m'
  | [], e, m, h => ⟨e, m, rfl, h⟩
  | x :: r, e, m, h => by
    obtain ⟨e1, m1, e2, m2, hg, hb, hp⟩ := step x r e m h
    obtain ⟨e', m', h1, h2⟩ := forL_rule P step r e2 m2 hp
    refine ⟨e', m', ?_, h2⟩
    show (g x e m).bind _ = _
    rw [hg, bind_ok]
    show (b e1 m1).bind _ = _
    rcases hb with hb | hb <;> rw [hb, bind_ok] <;> exact h1
theorem forC_aux {g : Va → Env → M Env} {b : Env → M Flow} {rd : Mem → Option (List Va)} {xs : List Va} (P : Nat → Env → Mem → Prop)
    (hrd : ∀ i e m, P i e m → rd m = some xs)
    (step : ∀ i x e m, P i e m → xs[i]? = some x → ∃ e1 m1 e2 m2, g x e m = .ok e1 m1 ∧ (b e1 m1 = .ok (.nx e2) m2 ∨ b e1 m1 = .ok (.ct e2) m2) ∧ P (i + 1) e2 m2) :
    ∀ n i e m, P i e m → i ≤ xs.length → xs.length - i < n → ∃ e' m', forC g b rd n i e m = .ok (.nx e') m' ∧ P xs.length e' m'
  | 0, i, e, m, _, _, h => by omega
  | n + 1, i, e, m, h, hi, hn => by
    cases hx : xs[i]? with
    | none =>
      have : xs.length ≤ i := List.getElem?_eq_none_iff.mp hx
      have e0 : i = xs.length := by omega
      refine ⟨e, m, ?_, e0 ▸ h⟩
      unfold forC
      simp only [hrd i e m h, hx]
    | some x =>
      obtain ⟨e1, m1, e2, m2, hg, hb, hp⟩ := step i x e m h hx
      have hi2 : i < xs.length := (List.getElem?_eq_some_iff.mp hx).1
      obtain ⟨e', m', h1, h2⟩ := forC_aux P hrd step n (i + 1) e2 m2 hp (by omega) (by omega)
      refine ⟨e', m', ?_, h2⟩
      unfold forC
      simp only [hrd i e m h, hx]
      show (g x e m).bind _ = _
      rw [hg, bind_ok]
      show (b e1 m1).bind _ = _
      rcases hb with hb | hb <;> rw [hb, bind_ok] <;> exact h1
theorem forC_rule {g : Va → Env → M Env} {b : Env → M Flow} {rd : Mem → Option (List Va)} {xs : List Va} (P : Nat → Env → Mem → Prop)
    (hrd : ∀ i e m, P i e m → rd m = some xs)
    (step : ∀ i x e m, P i e m → xs[i]? = some x → ∃ e1 m1 e2 m2, g x e m = .ok e1 m1 ∧ (b e1 m1 = .ok (.nx e2) m2 ∨ b e1 m1 = .ok (.ct e2) m2) ∧ P (i + 1) e2 m2)
    {e : Env} {m : Mem} (h : P 0 e m) (hl : xs.length < fuel) : ∃ e' m', forC g b rd fuel 0 e m = .ok (.nx e') m' ∧ P xs.length e' m' :=
  forC_aux P hrd step fuel 0 e m h (Nat.zero_le _) (by omega)
/-- a comprehension over given items, without a test -/
theorem lcL_rule {n : Nat} {g : Va → Env → M Env} {el : Env → M Va} {env : Env} (P : List Va → List Va → Mem → Prop)
    (step : ∀ x r acc m, P (x :: r) acc m → ∃ e1 m1 y m2, g x env m = .ok e1 m1 ∧ el e1 m1 = .ok y m2 ∧ m2[n]? = some (.lst acc) ∧ acc.length < line ∧ P r (acc ++ [y]) (m2.set n (.lst (acc ++ [y])))) :
    ∀ xs acc m, P xs acc m → ∃ acc' m', lcL n g tYesM el xs env m = .ok () m' ∧ P [] acc' m'
  | [], acc, m, h => ⟨acc, m, rfl, h⟩
  | x :: r, acc, m, h => by
    obtain ⟨e1, m1, y, m2, hg, he, hn, hl, hp⟩ := step x r acc m h
    obtain ⟨acc', m', h1, h2⟩ := lcL_rule P step r _ _ hp
    exact ⟨acc', m', by rw [lcL_cons hg rfl he hn hl]; exact h1, h2⟩
/-- the same over a list that stands in the memory -/
theorem lcC_aux {n : Nat} {g : Va → Env → M Env} {el : Env → M Va} {env : Env} {rd : Mem → Option (List Va)} {xs : List Va} (P : Nat → List Va → Mem → Prop)
    (hrd : ∀ i acc m, P i acc m → rd m = some xs)
    (step : ∀ i x acc m, P i acc m → xs[i]? = some x → ∃ e1 m1 y m2, g x env m = .ok e1 m1 ∧ el e1 m1 = .ok y m2 ∧ m2[n]? = some (.lst acc) ∧ acc.length < line ∧ P (i + 1) (acc ++ [y]) (m2.set n (.lst (acc ++ [y])))) :
    ∀ k i acc m, P i acc m → i ≤ xs.length → xs.length - i < k → ∃ acc' m', lcC n g tYesM el rd k i env m = .ok () m' ∧ P xs.length acc' m'
  | 0, i, acc, m, _, _, h => by omega
  | k + 1, i, acc, m, h, hi, hk => by
    cases hx : xs[i]? with
    | none =>
      have : xs.length ≤ i := List.getElem?_eq_none_iff.mp hx
      have e0 : i = xs.length := by omega
      refine ⟨acc, m, ?_, e0 ▸ h⟩
      unfold lcC
      simp only [hrd i acc m h, hx]
    | some x =>
      obtain ⟨e1, m1, y, m2, hg, he, hn, hl, hp⟩ := step i x acc m h hx
      have hi2 : i < xs.length := (List.getElem?_eq_some_iff.mp hx).1
      obtain ⟨acc', m', h1, h2⟩ := lcC_aux P hrd step k (i + 1) _ _ hp (by omega) (by omega)
      refine ⟨acc', m', ?_, h2⟩
      have p : pushM n y m2 = .ok () (m2.set n (.lst (acc ++ [y]))) := by unfold pushM; simp only [hn, if_pos hl]
      have q : lcT n g tYesM el x env m = .ok () (m2.set n (.lst (acc ++ [y]))) := by
        show (g x env m).bind _ = _
        rw [hg, bind_ok]
        show ((tYesM e1 m1).bind fun a m => (if a = true then (do let y ← el e1; pushM n y : M Unit) else M.pure ()) m) = _
        show (el e1 m1).bind _ = _
        rw [he, bind_ok]
        exact p
      unfold lcC
      simp only [hrd i acc m h, hx]
      show (lcT n g tYesM el x env m).bind _ = _
      rw [q, bind_ok]
      exact h1
theorem lcC_rule {n : Nat} {g : Va → Env → M Env} {el : Env → M Va} {env : Env} {rd : Mem → Option (List Va)} {xs : List Va} (P : Nat → List Va → Mem → Prop)
    (hrd : ∀ i acc m, P i acc m → rd m = some xs)
    (step : ∀ i x acc m, P i acc m → xs[i]? = some x → ∃ e1 m1 y m2, g x env m = .ok e1 m1 ∧ el e1 m1 = .ok y m2 ∧ m2[n]? = some (.lst acc) ∧ acc.length < line ∧ P (i + 1) (acc ++ [y]) (m2.set n (.lst (acc ++ [y]))))
    {acc : List Va} {m : Mem} (h : P 0 acc m) (hl : xs.length < fuel) : ∃ acc' m', lcC n g tYesM el rd fuel 0 env m = .ok () m' ∧ P xs.length acc' m' :=
  lcC_aux P hrd step fuel 0 acc m h (Nat.zero_le _) (by omega)
@[simp] theorem srcLc_live {g : Va → Env → M Env} {t : Env → M Bool} {el : Env → M Va} {vs : List Nat} {rd : Mem → Option (List Va)} {env : Env} {m : Mem} : srcLc g t el vs (.live rd) env m = endLc m.length (lcC m.length g t el rd fuel 0 (wipeE env vs) (m ++ [.lst []])) := rfl
theorem rdCell_at {m : Mem} {k : Nat} {xs : List Va} (h : m[k]? = some (.lst xs)) : rdCell k m = some xs := by unfold rdCell; simp only [h]
theorem range1_at {j : Int} {m : Mem} (h : -half ≤ j ∧ j < half) : range1 [.int j] m = .ok (.val (upFrom 0 j.toNat)) m := by
  show (if -half ≤ j ∧ j < half then M.pure (Src.val (upFrom 0 j.toNat)) else stuck) m = _
  rw [if_pos h]; rfl
theorem upFrom_len (n : Nat) (i : Int) : (upFrom i n).length = n := by simp [upFrom]
theorem noClos_app : ∀ xs ys : List Va, noClos (xs ++ ys) = (noClos xs && noClos ys)
  | [], ys => by simp [noClos]
  | x :: r, ys => by simp [noClos, noClos_app r ys, Bool.and_assoc]
theorem noCloM_app (a b : Mem) : noCloM (a ++ b) = (noCloM a && noCloM b) := by unfold noCloM; simp
@[simp] theorem noCloM_nil : noCloM [] = true := rfl
@[simp] theorem noCloM_cons (c : Cell) (m : Mem) : noCloM (c :: m) = (noCloC c && noCloM m) := rfl
theorem noCloM_set {m : Mem} {c : Cell} (hc : noCloC c = true) : ∀ {k : Nat}, noCloM m = true → noCloM (m.set k c) = true := by
  induction m with
  | nil => intro k h; rfl
  | cons d r ih =>
    intro k h
    rw [noCloM_cons, Bool.and_eq_true] at h
    cases k with
    | zero => rw [List.set_cons_zero, noCloM_cons, hc, h.2]; rfl
    | succ k => rw [List.set_cons_succ, noCloM_cons, h.1, ih h.2]; rfl
mutual
theorem dat_noClo : ∀ x : Va, isDat x = true → noClo x = true
  | .non, _ => rfl
  | .bl _, _ => rfl
  | .int _, _ => rfl
  | .str _, _ => rfl
  | .tup xs, h => by simp only [isDat] at h; simp only [noClo]; exact dats_noClo xs h
  | .lst xs, h => by simp only [isDat] at h; simp only [noClo]; exact dats_noClo xs h
  | .ty _, h => by cases h
  | .fn _, h => by cases h
  | .dct _ _, h => by cases h
  | .obj _ _, h => by cases h
  | .ref _, h => by cases h
  | .clo _ _, h => by cases h
  | .scr _, h => by cases h
  | .wtp _, h => by cases h
theorem dats_noClo : ∀ xs : List Va, isDats xs = true → noClos xs = true
  | [], _ => rfl
  | x :: r, h => by
    simp only [isDats, Bool.and_eq_true] at h
    simp only [noClos, Bool.and_eq_true]
    exact ⟨dat_noClo x h.1, dats_noClo r h.2⟩
end
theorem noClos_strs : ∀ ws : List Sg, noClos (ws.map Va.str) = true
  | [] => rfl
  | w :: r => by simp only [List.map_cons, noClos, noClo, noClos_strs r, Bool.and_self]
theorem inM_refs {s : Sg} {ws : List Sg} {k : Nat} {m : Mem} (h : m[k]? = some (.lst (ws.map Va.str))) : inM (.str s) (.ref k) m = .ok (decide (s ∈ ws)) m := by
  unfold inM
  simp only [h, all_strs, any_strs, flat, Bool.and_self, if_true]
theorem asTs_map : ∀ zs : List Sg, asTs (zs.map Va.str) = some zs
  | [] => rfl
  | z :: r => by simp only [List.map_cons, asTs, asTs_map r, Option.map_some]
theorem joinG_nil : ∀ zs : List Sg, joinG [] zs = zs.flatten
  | [] => rfl
  | [x] => by simp [joinG]
  | x :: y :: r => by
    have := joinG_nil (y :: r)
    simp only [joinG, this, List.nil_append, List.flatten_cons]
theorem oJoin_ref {sep : Sg} {zs : List Sg} {k : Nat} {m : Mem} (h : m[k]? = some (.lst (zs.map Va.str))) (hl : (zs.map List.length).sum + zs.length * sep.length ≤ line) : oJoin (.str sep) [.ref k] m = .ok (.str (joinG sep zs)) m := by
  show (asQ (.ref k) m).bind _ = _
  rw [asQ_ref h, bind_ok]
  show (lift (asTs (zs.map Va.str)) m).bind _ = _
  rw [asTs_map]
  show joinC sep zs m = _
  unfold joinC
  rw [if_pos hl]; rfl
@[simp] theorem oAdd_str {x y : Sg} {m : Mem} : oAdd (.str x) (.str y) m = if x.length + y.length ≤ line then .ok (.str (x ++ y)) m else .no := by
  show (if x.length + y.length ≤ line then M.pure (Va.str (x ++ y)) else stuck) m = _
  split <;> rfl
@[simp] theorem oAdd_lst {xs ys : List Va} {m : Mem} : oAdd (.lst xs) (.lst ys) m = if xs.length + ys.length ≤ line then .ok (.lst (xs ++ ys)) m else .no := by
  show ((M.pure xs : M (List Va)) >>= fun xs => (M.pure ys : M (List Va)) >>= fun ys => if xs.length + ys.length ≤ line then M.pure (Va.lst (xs ++ ys)) else stuck) m = _
  show (if xs.length + ys.length ≤ line then M.pure (Va.lst (xs ++ ys)) else stuck) m = _
  split <;> rfl
theorem asL_ref {xs : List Va} {k : Nat} {m : Mem} (h : m[k]? = some (.lst xs)) : asL (.ref k) m = .ok xs m := by unfold asL; simp only [h]
theorem oAdd_rl {xs ys : List Va} {k : Nat} {m : Mem} (h : m[k]? = some (.lst xs)) : oAdd (.ref k) (.lst ys) m = if xs.length + ys.length ≤ line then .ok (.lst (xs ++ ys)) m else .no := by
  show (asL (.ref k) m).bind _ = _
  rw [asL_ref h, bind_ok]
  show (if xs.length + ys.length ≤ line then M.pure (Va.lst (xs ++ ys)) else stuck) m = _
  split <;> rfl
theorem oAdd_rr {xs ys : List Va} {k j : Nat} {m : Mem} (h : m[k]? = some (.lst xs)) (h2 : m[j]? = some (.lst ys)) : oAdd (.ref k) (.ref j) m = if xs.length + ys.length ≤ line then .ok (.lst (xs ++ ys)) m else .no := by
  show (asL (.ref k) m).bind _ = _
  rw [asL_ref h, bind_ok]
  show (asL (.ref j) m).bind _ = _
  rw [asL_ref h2, bind_ok]
  show (if xs.length + ys.length ≤ line then M.pure (Va.lst (xs ++ ys)) else stuck) m = _
  split <;> rfl
@[simp] theorem oCount_str {x : Sg} {c : Nat} {m : Mem} : oCount (.str x) [.str [c]] m = .ok (.int (x.count c : Nat)) m := rfl
@[simp] theorem oRfind_str {x : Sg} {c : Nat} {m : Mem} : oRfind (.str x) [.str [c]] m = .ok (.int (rfi c x)) m := rfl
@[simp] theorem chkS_str {x : Sg} {m : Mem} : chkS (.str x) m = true := rfl
namespace Com
@[simp] theorem St.app (s : St) (r x : Mem) : s.mem r ++ x = s.mem (r ++ x) := rfl
@[simp] theorem St.len (s : St) (r : Mem) : (s.mem r).length = r.length + 2 := rfl
theorem St.noClo (s : St) {r : Mem} (h : noCloM r = true) : noCloM (s.mem r) = true := by
  have e : noClos (s.xs.map Va.int) = true := dats_noClo _ (isDats_ints s.xs)
  simp [St.mem, noCloC, noClos, Vm.noClo, e, h]
theorem St.set2 (s : St) (r : Mem) (k : Nat) (c : Cell) : (s.mem r).set (k + 2) c = s.mem (r.set k c) := rfl
end Com
end Vm
end
section
set_option Elab.async false
set_option linter.all false
set_option autoImplicit false
set_option maxRecDepth 100000
/-! what `_law_same`, `_law_copied`, `_law_spoilt` do with a list of data -/
namespace Vm
namespace Com
theorem peek_at {n : Nat} {a b x y : Va} {m : Mem} (ha : resolve deep m a = some x) (hb : resolve deep m b = some y) (hx : isDat x = true) (hy : isDat y = true) (hs : small y = true) (hd : dep y < n) : peekM (m__law_same n) [a, b] m = .ok (.bl (sameV x y)) m := by
  obtain ⟨m', h⟩ := same_ok n x y hx hy hs hd []
  unfold peekM
  simp only [mapO, ha, hb, h, flat, if_true]
theorem resolve_dats {n : Nat} {m : Mem} : ∀ xs : List Va, isDats xs = true → mapO (resolve n m) xs = some xs
  | [], _ => rfl
  | x :: r, h => by
    simp only [isDats, Bool.and_eq_true] at h
    simp only [mapO, resolve_plain (dat_plain x h.1), resolve_dats r h.2]
theorem resolve_cell {n k : Nat} {m : Mem} {xs : List Va} (h : m[k]? = some (.lst xs)) (hx : isDats xs = true) : resolve (n + 1) m (.ref k) = some (.lst xs) := by
  rw [resolve_ref h, resolve_dats xs hx]; rfl
mutual
/-- without a list -/
def noLst : Va → Bool
  | .lst _ => false
  | .tup xs => decide (xs.length < 1000000) && noLsts xs
  | _ => true
def noLsts : List Va → Bool
  | [] => true
  | x :: r => noLst x && noLsts r
end
theorem get_app {a b : Mem} {k : Nat} {c : Cell} (h : a[k]? = some c) : (a ++ b)[k]? = some c := by
  rw [List.getElem?_append_left (List.getElem?_eq_some_iff.mp h).1, h]
theorem set_app {a b : Mem} {c d : Cell} : (a ++ c :: b).set a.length d = a ++ d :: b := by simp
theorem at_app {a b : Mem} {c : Cell} : (a ++ c :: b)[a.length]? = some c := by simp
/-- a tuple's parts are copied -/
theorem copied_loop {n : Nat} {v0 v1 v2 v3 : Option Va} {base : Mem} (ih : ∀ x : Va, isDat x = true → noLst x = true → dep x < n → ∀ m, ∃ g, noCloM g = true ∧ m__law_copied n [x] m = .ok x (m ++ g)) :
    ∀ (xs acc : List Va) (g : Mem), isDats xs = true → noLsts xs = true → deps xs < n → acc.length + xs.length < line → noCloM g = true →
      ∃ g', noCloM g' = true ∧ lcL base.length (gVar 2) tYesM (eCall (lenM 1 (m__law_copied n)) (aCons (eVar 2) aNil)) xs [v0, v1, none, v3] (base ++ .lst acc :: g) = .ok () (base ++ .lst (acc ++ xs) :: g')
  | [], acc, g, _, _, _, _, hg => ⟨g, hg, by rw [List.append_nil]; rfl⟩
  | x :: xs, acc, g, hx, hn, hd, hl, hg => by
    simp only [isDats, Bool.and_eq_true] at hx
    simp only [noLsts, Bool.and_eq_true] at hn
    simp only [deps] at hd
    simp only [List.length_cons] at hl
    obtain ⟨g1, n1, e1⟩ := ih x hx.1 hn.1 (by omega) (base ++ .lst acc :: g)
    obtain ⟨g2, n2, e2⟩ := copied_loop (v0 := v0) (v1 := v1) (v2 := v2) (v3 := v3) (base := base) ih xs (acc ++ [x]) (g ++ g1) hx.2 hn.2 (by omega) (by simp; omega) (by rw [noCloM_app, hg, n1]; rfl)
    refine ⟨g2, n2, ?_⟩
    rw [List.append_assoc, List.cons_append] at e1
    rw [lcL_cons (y := x) (e := [v0, v1, some x, v3]) (m1 := base ++ .lst acc :: g) (m2 := base ++ .lst acc :: g) (m3 := base ++ .lst acc :: (g ++ g1)) (acc := acc) (gVar_at ..) rfl (by simp [e1]) at_app (by omega), set_app]
    rw [e2, List.append_assoc]; rfl
theorem bTuple_ref {m : Mem} {k : Nat} {xs : List Va} (h : m[k]? = some (.lst xs)) : bTuple [.ref k] m = .ok (.tup xs) m := by
  have e : asL (.ref k) m = .ok xs m := by unfold asL; simp only [h]
  show uTuple (.ref k) m = _
  unfold uTuple
  show (asL (.ref k) m).bind _ = _
  rw [e, bind_ok]; rfl
theorem copied_tup : ∀ (n : Nat) (x : Va), isDat x = true → noLst x = true → dep x < n → ∀ m, ∃ g, noCloM g = true ∧ m__law_copied n [x] m = .ok x (m ++ g)
  | 0, x, _, _, h, m => by omega
  | n + 1, x, hx, hn, hd, m => by
    cases hf : flat x with
    | true =>
      refine ⟨[], rfl, ?_⟩
      unfold m__law_copied
      cases x <;> first | (cases hf; done) | skip
      all_goals simp [bIsi, tyS, tyNs, isub, kts, line]
    | false =>
      cases x with
      | tup xs =>
        simp only [isDat] at hx
        simp only [dep] at hd
        simp only [noLst, Bool.and_eq_true, decide_eq_true_eq] at hn
        obtain ⟨g, hg, e⟩ := copied_loop (v0 := some (.tup xs)) (v1 := none) (v2 := none) (v3 := none) (base := m) (fun x a b c => copied_tup n x a b c) xs [] [] hx hn.2 (by omega) (by have : line = 16777216 := rfl; simp; omega) rfl
        rw [List.nil_append] at e
        refine ⟨.lst xs :: g, by rw [noCloM_cons, hg, noCloC, dats_noClo xs hx]; rfl, ?_⟩
        have ht := bTuple_ref (m := m ++ .lst xs :: g) (k := m.length) at_app
        unfold m__law_copied
        simp [bIsi, tyS, tyNs, isub, kts, line, wipeE, e, ht]
      | lst xs => cases hn
      | _ => first | (cases hx; done) | (cases hf; done)
theorem dats_mem {n : Nat} {x : Va} : ∀ {xs : List Va}, isDats xs = true → noLsts xs = true → deps xs < n → x ∈ xs → isDat x = true ∧ noLst x = true ∧ dep x < n
  | [], _, _, _, h => by cases h
  | y :: r, hx, hn, hd, h => by
    simp only [isDats, Bool.and_eq_true] at hx
    simp only [noLsts, Bool.and_eq_true] at hn
    simp only [deps] at hd
    rcases List.mem_cons.mp h with rfl | hm
    · exact ⟨hx.1, hn.1, by omega⟩
    · exact dats_mem hx.2 hn.2 (by omega) hm
/-- a list in the memory: a new one -/
theorem copied_ref {n k : Nat} {m : Mem} {xs : List Va} (hk : m[k]? = some (.lst xs)) (hx : isDats xs = true) (hn : noLsts xs = true) (hd : deps xs < n) (hl : xs.length < fuel) : ∃ g, noCloM g = true ∧ m__law_copied (n + 1) [.ref k] m = .ok (.ref m.length) (m ++ .lst xs :: g) := by
  have hkl : k < m.length := (List.getElem?_eq_some_iff.mp hk).1
  obtain ⟨acc', m', e, i', g, hg, rfl, ha⟩ := lcC_rule (n := m.length) (g := gVar 2) (el := eCall (lenM 1 (m__law_copied n)) (aCons (eVar 2) aNil)) (env := [some (.ref k), none, none, none]) (rd := rdCell k) (xs := xs)
    (fun i acc m' => i ≤ xs.length ∧ ∃ g, noCloM g = true ∧ m' = m ++ .lst acc :: g ∧ acc = xs.take i)
    (fun i acc m' ⟨_, g, hg, e, _⟩ => rdCell_at (by rw [e]; exact get_app hk))
    (fun i x acc m' ⟨hi, g, hg, e, ha⟩ hxi => by
      subst e ha
      have hi2 : i < xs.length := (List.getElem?_eq_some_iff.mp hxi).1
      have hmem : x ∈ xs := List.mem_of_getElem? hxi
      have hdx := dats_mem hx hn hd hmem
      obtain ⟨g1, n1, e1⟩ := copied_tup n x hdx.1 hdx.2.1 hdx.2.2 (m ++ .lst (xs.take i) :: g)
      rw [List.append_assoc, List.cons_append] at e1
      refine ⟨_, _, x, m ++ .lst (xs.take i) :: (g ++ g1), gVar_at .., by simp [e1], at_app, ?_, hi2, g ++ g1, by rw [noCloM_app, hg, n1]; rfl, by rw [set_app], ?_⟩
      · have : line = 16777216 := rfl
        have : fuel = 1000000 := rfl
        rw [List.length_take]; omega
      · rw [List.take_succ, hxi]; rfl)
    (acc := []) (m := m ++ [.lst []]) ⟨Nat.zero_le _, [], rfl, rfl, by simp⟩ hl
  rw [List.take_length] at ha
  subst ha
  refine ⟨g, hg, ?_⟩
  have hs := srcOf_ref hk
  have hk2 : (m ++ Cell.lst acc' :: g)[k]? = some (.lst acc') := get_app hk
  unfold m__law_copied
  simp [bIsi, tyS, tyNs, isub, kts, line, wipeE, hk, hk2, hs, e]
/-- nothing in a tuple can be spoilt -/
theorem spoilt_tup : ∀ (n : Nat) (x : Va), isDat x = true → noLst x = true → dep x < n → ∀ m, m__law_spoilt n [x] m = .ok .non m
  | 0, x, _, _, h, m => by omega
  | n + 1, x, hx, hn, hd, m => by
    cases hf : flat x with
    | true =>
      unfold m__law_spoilt
      cases x <;> first | (cases hf; done) | skip
      all_goals simp [bIsi, tyS, tyNs, isub, kts, line]
    | false =>
      cases x with
      | tup xs =>
        simp only [isDat] at hx
        simp only [dep] at hd
        simp only [noLst, Bool.and_eq_true, decide_eq_true_eq] at hn
        obtain ⟨e', m', e, hp⟩ := forL_rule (g := gVar 1) (b := sExpr (eCall (lenM 1 (m__law_spoilt n)) (aCons (eVar 1) aNil))) (fun r e m' => isDats r = true ∧ noLsts r = true ∧ deps r < n ∧ m' = m ∧ ∃ v, e = [some (.tup xs), v])
          (fun x r e m' ⟨h1, h2, h3, h4, v, h5⟩ => by
            simp only [isDats, Bool.and_eq_true] at h1
            simp only [noLsts, Bool.and_eq_true] at h2
            simp only [deps] at h3
            subst h4 h5
            exact ⟨[some (.tup xs), some x], m', [some (.tup xs), some x], m', rfl, .inl (by simp [spoilt_tup n x h1.1 h2.1 (by omega)]), h1.2, h2.2, by omega, rfl, _, rfl⟩)
          xs [some (.tup xs), none] m ⟨hx, hn.2, by omega, rfl, none, rfl⟩
        obtain ⟨_, _, _, rfl, v, rfl⟩ := hp
        unfold m__law_spoilt
        simp [bIsi, tyS, tyNs, isub, kts, line, e]
      | lst xs => cases hn
      | _ => first | (cases hx; done) | (cases hf; done)
abbrev vLate : Va := .str [108, 97, 116, 101]
/-- a list in the memory is made longer -/
theorem spoilt_ref {n k : Nat} {m : Mem} {xs : List Va} (hk : m[k]? = some (.lst xs)) (hx : isDats xs = true) (hn : noLsts xs = true) (hd : deps xs < n) (hl : xs.length < fuel) : m__law_spoilt (n + 1) [.ref k] m = .ok .non (m.set k (.lst (xs ++ [vLate]))) := by
  obtain ⟨e', m', e, rfl, v, rfl⟩ := forC_rule (g := gVar 1) (b := sExpr (eCall (lenM 1 (m__law_spoilt n)) (aCons (eVar 1) aNil))) (rd := rdCell k) (xs := xs) (fun i e m' => m' = m ∧ ∃ v, e = [some (.ref k), v])
    (fun i e m' ⟨h, _⟩ => rdCell_at (by rw [h]; exact hk))
    (fun i x e m' ⟨h4, v, h5⟩ hxi => by
      subst h4 h5
      obtain ⟨h1, h2, h3⟩ := dats_mem hx hn hd (List.mem_of_getElem? hxi)
      exact ⟨[some (.ref k), some x], m', [some (.ref k), some x], m', rfl, .inl (by simp [spoilt_tup n x h1 h2 h3]), rfl, _, rfl⟩)
    (e := [some (.ref k), none]) (m := m) ⟨rfl, none, rfl⟩ hl
  have hs := srcOf_ref hk
  have ha := oAppend_ref (x := vLate) hk (by have : line = 16777216 := rfl; have : fuel = 1000000 := rfl; omega)
  have hc := chkL_ref hk
  unfold m__law_spoilt
  simp [bIsi, tyS, tyNs, isub, kts, line, hk, hs, e, ha, hc]
end Com
end Vm
end
section
set_option Elab.async false
set_option linter.all false
set_option autoImplicit false
set_option maxRecDepth 100000
/-! `_law_twice` with what tells a new list of data -/
namespace Vm
namespace Com
@[reducible] def b_twice (can : Va → Bool) (app : Va → List Va → M Va) : Env → M Flow := (sSeq (sPar [3, 4] (aCons (eCallV can app 1 aNil) (aCons (eCall (lenM 1 (m__law_copied 6)) (aCons (eVar 0) aNil)) aNil)))
  (sSeq (sIf (tNot (tTru (eCall (lenM 2 (peekM (m__law_same 14))) (aCons (eVar 3) (aCons (eVar 0) aNil))))) (sRet (eC (.bl false))) sNext)
  (sSeq (sExpr (eCall (lenM 1 (m__law_spoilt 6)) (aCons (eVar 3) aNil)))
  (sSeq (sExpr (eCall (lenM 1 (m__law_spoilt 6)) (aCons (eVar 4) aNil)))
  (sRet (eCall (lenM 2 (peekM (m__law_same 14))) (aCons (eLst (aCons (eVar 3) (aCons (eCallV can app 2 aNil) (aCons (eCallV can app 1 aNil) aNil)))) (aCons (eLst (aCons (eVar 4) (aCons (eVar 0) (aCons (eVar 0) aNil)))) aNil))))))))
/-- a callable that tells a new list of these -/
def Tells (f : List Va → M Va) (V : List Va) : Prop := ∀ m, noCloM m = true → ∃ (g : Mem) (j : Nat), noCloM g = true ∧ f [] m = .ok (.ref (m.length + j)) (m ++ g) ∧ g[j]? = some (.lst V)
@[simp] theorem eCallV_at {can : Va → Bool} {app : Va → List Va → M Va} {i : Nat} {fs : Env → M (List Va)} {env : Env} {m : Mem} {x : Va} (h : env[i]? = some (some x)) : eCallV can app i fs env m = if can x then (fs env m).bind fun ws m => app x ws m else .no := by
  show (eVar i env m).bind _ = _
  rw [eVar_at h, bind_ok]
  show (if can x = true then (fs env >>= fun ws => app x ws) else stuck : M Va) m = _
  split <;> rfl
@[simp] theorem eCallK0_at {n : Nat} {f : List Va → M Va} {pi : List Nat} {fk : Env → M (List Va)} {env : Env} {m : Mem} : eCallK0 n f pi fk env m = (fk env m).bind fun ws m => if ws.length = n then f (perm .non pi ws) m else .no := by
  show (fk env m).bind _ = _
  congr 1; funext ws m; dsimp only; split <;> rfl
theorem get_far {a b : Mem} {j : Nat} {c : Cell} (h : b[j]? = some c) : (a ++ b)[a.length + j]? = some c := by
  rw [List.getElem?_append_right (by omega), Nat.add_sub_cancel_left, h]
theorem set_get {m : Mem} {i : Nat} {c : Cell} (h : i < m.length) : (m.set i c)[i]? = some c := by
  rw [List.getElem?_set]; simp [h]
theorem isDats_app : ∀ xs ys : List Va, isDats (xs ++ ys) = (isDats xs && isDats ys)
  | [], ys => by simp [isDats]
  | x :: r, ys => by simp [isDats, isDats_app r ys, Bool.and_assoc]
theorem smalls_app : ∀ xs ys : List Va, smalls (xs ++ ys) = (smalls xs && smalls ys)
  | [], ys => by simp [smalls]
  | x :: r, ys => by simp [smalls, smalls_app r ys, Bool.and_assoc]
theorem deps_app : ∀ xs ys : List Va, deps (xs ++ ys) = max (deps xs) (deps ys)
  | [], ys => by simp [deps]
  | x :: r, ys => by simp [deps, deps_app r ys, Nat.max_assoc]
mutual
theorem noLst_small : ∀ x : Va, noLst x = true → small x = true
  | .tup xs, h => by
    simp only [noLst, Bool.and_eq_true] at h
    simp only [small, Bool.and_eq_true]
    exact ⟨h.1, noLsts_smalls xs h.2⟩
  | .lst _, h => by cases h
  | .non, _ => rfl
  | .bl _, _ => rfl
  | .int _, _ => rfl
  | .str _, _ => rfl
  | .ty _, _ => rfl
  | .fn _, _ => rfl
  | .dct _ _, _ => rfl
  | .obj _ _, _ => rfl
  | .ref _, _ => rfl
  | .clo _ _, _ => rfl
  | .scr _, _ => rfl
  | .wtp _, _ => rfl
theorem noLsts_smalls : ∀ xs : List Va, noLsts xs = true → smalls xs = true
  | [], _ => rfl
  | x :: r, h => by
    simp only [noLsts, Bool.and_eq_true] at h
    simp only [smalls, Bool.and_eq_true]
    exact ⟨noLst_small x h.1, noLsts_smalls r h.2⟩
end
theorem resolve_lst {n : Nat} {m : Mem} {xs ys : List Va} (hp : plains xs = false) (h : mapO (resolve n m) xs = some ys) : resolve (n + 1) m (.lst xs) = some (.lst ys) := by
  rw [resolve]
  simp only [plain, hp, Bool.false_eq_true, if_false, h]
  rfl
/-- asking twice: what is told is what is due -/
theorem twice_ok {can : Va → Bool} {app : Va → List Va → M Va} {f1 f2 : Va} {k : Nat} {D : List Va} {m : Mem} (c1 : can f1 = true) (c2 : can f2 = true) (t1 : Tells (app f1) D) (t2 : Tells (app f2) D)
    (hk : m[k]? = some (.lst D)) (hx : isDats D = true) (hn : noLsts D = true) (hd : deps D < 5) (hl : D.length < 900000) (hm : noCloM m = true) :
    ∃ g, noCloM g = true ∧ runF 5 (b_twice can app) [.ref k, f1, f2] m = .ok (.bl true) (m ++ g) := by
  obtain ⟨g1, j1, n1, e1, h1⟩ := t1 m hm
  have nm1 : noCloM (m ++ g1) = true := by rw [noCloM_app, hm, n1]; rfl
  have hk1 : (m ++ g1)[k]? = some (.lst D) := get_app hk
  obtain ⟨g2, n2, e2⟩ := copied_ref (n := 5) hk1 hx hn hd (by have : fuel = 1000000 := rfl; omega)
  have nD : noCloC (.lst D) = true := dats_noClo D hx
  -- the memory behind both
  have hk2 : (m ++ g1 ++ .lst D :: g2)[k]? = some (.lst D) := get_app hk1
  have hj2 : (m ++ g1 ++ .lst D :: g2)[m.length + j1]? = some (.lst D) := get_app (get_far h1)
  have hs : sameV (.lst D) (.lst D) = true := same_refl _ (by simpa [isDat] using hx)
  have sD : small (.lst D) = true := by simp [small, noLsts_smalls D hn]; omega
  have p1 := peek_at (n := 14) (resolve_cell (n := 59) hj2 hx) (resolve_cell (n := 59) hk2 hx) (by simpa [isDat] using hx) (by simpa [isDat] using hx) sD (by simp only [dep]; omega)
  rw [hs] at p1
  have s1 := spoilt_ref (n := 5) hj2 hx hn hd (by have : fuel = 1000000 := rfl; omega)
  have jl : m.length + j1 < (m ++ g1).length := by
    have := (List.getElem?_eq_some_iff.mp h1).1
    rw [List.length_append]; omega
  have e3 : (m ++ g1 ++ .lst D :: g2).set (m.length + j1) (.lst (D ++ [vLate])) = m ++ (g1.set j1 (.lst (D ++ [vLate]))) ++ .lst D :: g2 := by
    rw [List.set_append_left _ _ jl, List.set_append_right _ _ (by omega), Nat.add_sub_cancel_left]
  rw [e3] at s1
  have ll : (m ++ g1.set j1 (.lst (D ++ [vLate]))).length = (m ++ g1).length := by simp
  have s2 := spoilt_ref (n := 5) (m := m ++ (g1.set j1 (.lst (D ++ [vLate]))) ++ .lst D :: g2) (k := (m ++ g1).length) (by rw [← ll]; exact at_app) hx hn hd (by have : fuel = 1000000 := rfl; omega)
  rw [← ll, set_app] at s2
  have nL : noCloC (.lst (D ++ [vLate])) = true := by show noClos (D ++ [vLate]) = true; rw [noClos_app, dats_noClo D hx]; rfl
  -- the memory behind the spoiling
  generalize hG : g1.set j1 (.lst (D ++ [vLate])) ++ .lst (D ++ [vLate]) :: g2 = G at *
  have nG : noCloM G = true := by rw [← hG, noCloM_app, noCloM_cons, nL, n2, noCloM_set nL n1]; rfl
  have eG : m ++ g1.set j1 (.lst (D ++ [vLate])) ++ .lst (D ++ [vLate]) :: g2 = m ++ G := by rw [← hG, List.append_assoc]
  rw [eG] at s2
  have jl1 : j1 < g1.length := (List.getElem?_eq_some_iff.mp h1).1
  have hG1 : G[j1]? = some (.lst (D ++ [vLate])) := by
    rw [← hG]; exact get_app (set_get jl1)
  have hG2 : G[g1.length]? = some (.lst (D ++ [vLate])) := by
    rw [← hG]
    have : g1.length = (g1.set j1 (.lst (D ++ [vLate]))).length := by simp
    rw [this]; exact at_app
  have nmG : noCloM (m ++ G) = true := by rw [noCloM_app, hm, nG]; rfl
  obtain ⟨g5, j5, n5, e5, h5⟩ := t2 (m ++ G) nmG
  obtain ⟨g6, j6, n6, e6, h6⟩ := t1 (m ++ G ++ g5) (by rw [noCloM_app, nmG, n5]; rfl)
  refine ⟨G ++ g5 ++ g6, by rw [noCloM_app, noCloM_app, nG, n5, n6]; rfl, ?_⟩
  have c3 : (m ++ G ++ g5 ++ g6)[m.length + j1]? = some (.lst (D ++ [vLate])) := get_app (get_app (get_far hG1))
  have c4 : (m ++ G ++ g5 ++ g6)[m.length + g1.length]? = some (.lst (D ++ [vLate])) := get_app (get_app (get_far hG2))
  have c5 : (m ++ G ++ g5 ++ g6)[(m ++ G).length + j5]? = some (.lst D) := get_app (get_far h5)
  have c6 : (m ++ G ++ g5 ++ g6)[(m ++ G ++ g5).length + j6]? = some (.lst D) := get_far h6
  have ck : (m ++ G ++ g5 ++ g6)[k]? = some (.lst D) := get_app (get_app (get_app hk))
  have hxL : isDats (D ++ [vLate]) = true := by rw [isDats_app, hx]; rfl
  have r1 : resolve deep (m ++ G ++ g5 ++ g6) (.lst [.ref (m.length + j1), .ref ((m ++ G).length + j5), .ref ((m ++ G ++ g5).length + j6)]) = some (.lst [.lst (D ++ [vLate]), .lst D, .lst D]) :=
    resolve_lst (n := 59) rfl (by simp only [mapO, resolve_cell (n := 58) c3 hxL, resolve_cell (n := 58) c5 hx, resolve_cell (n := 58) c6 hx])
  have r2 : resolve deep (m ++ G ++ g5 ++ g6) (.lst [.ref (m.length + g1.length), .ref k, .ref k]) = some (.lst [.lst (D ++ [vLate]), .lst D, .lst D]) :=
    resolve_lst (n := 59) rfl (by simp only [mapO, resolve_cell (n := 58) c4 hxL, resolve_cell (n := 58) ck hx])
  have hA : isDat (.lst [.lst (D ++ [vLate]), .lst D, .lst D]) = true := by simp only [isDat, isDats, hxL, hx]; rfl
  have hS : small (.lst [.lst (D ++ [vLate]), .lst D, .lst D]) = true := by
    simp [small, smalls, smalls_app, noLsts_smalls D hn]; omega
  have hDp : dep (.lst [.lst (D ++ [vLate]), .lst D, .lst D]) < 14 := by
    simp only [dep, deps, deps_app]; omega
  have p2 := peek_at (n := 14) r1 r2 hA hA hS hDp
  rw [same_refl _ hA] at p2
  have l1 : (m ++ g1).length = m.length + g1.length := List.length_append
  rw [l1] at e2
  rw [ll, l1] at s2
  simp only [List.append_assoc] at e2 s1 s2 p1 p2 e5 e6
  simp only [List.length_append] at p2
  simp [e1, c1, c2, e2, p1, s1, s2, e5, e6, p2, setAll, line]
end Com
end Vm
end
section
set_option Elab.async false
set_option linter.all false
set_option autoImplicit false
set_option maxRecDepth 100000
namespace Vm
namespace K00
/-! ### mirrors: printed -/
def isT : Nat → Va → Option Bool := isTab [1001, 1002, 1003, 1004, 1005, 1006, 1007, 1008, 1009, 1010, 1011, 1012, 1013, 1014, 1015, 1016, 1017, 1018, 1019, 1020, 1021, 1022, 1023, 1024, 1025, 1026, 1027, 1028, 1029, 1030, 1031, 1032, 1033, 1034, 1035, 1036, 1037, 1038, 1039, 1040, 1041, 1042, 1043, 1044, 1045, 1046] [1000] ["ValueError"] [["LookupError", "TypeError", "ArithmeticError", "AttributeError", "RuntimeError"]]
@[reducible] def lb_0 : Env → M Va := (eLst (aCons (eUn (oFldE [1001] [116, 101, 120, 116]) (eVar 0)) aNil))
@[reducible] def lb_1 : Env → M Va := (eLst (aCons (eUn (oFldE [1002] [112, 114, 111, 103, 114, 97, 109]) (eVar 0)) aNil))
@[reducible] def lb_2 : Env → M Va := (eLst (aCons (eUn (oFldE [1003] [116, 101, 120, 116, 115]) (eVar 0)) aNil))
@[reducible] def lb_3 : Env → M Va := (eLst (aCons (eUn (oFldE [1004] [105, 110, 100, 101, 120]) (eVar 0)) aNil))
@[reducible] def lb_4 : Env → M Va := (eLst aNil)
@[reducible] def lb_5 : Env → M Va := (eLst (aCons (eUn (oFldE [1006, 1038, 1039, 1041] [110, 97, 109, 101]) (eVar 0)) aNil))
@[reducible] def lb_6 : Env → M Va := (eLst (aCons (eUn (oFldE [1007] [97, 110, 115, 119, 101, 114, 115]) (eVar 0)) aNil))
@[reducible] def lb_7 : Env → M Va := (eLst (aCons (eUn (oFldE [1008] [109, 111, 115, 116]) (eVar 0)) aNil))
@[reducible] def lb_8 : Env → M Va := (eLst (aCons (eUn (oFldE [1009] [109]) (eVar 0)) aNil))
@[reducible] def lb_9 : Env → M Va := (eLst (aCons (eUn (oFldE [1010] [111, 110, 101]) (eVar 0)) aNil))
@[reducible] def lb_10 : Env → M Va := (eLst (aCons (eUn (oFldE [1011] [111, 98, 106, 101, 99, 116, 115]) (eVar 0)) aNil))
@[reducible] def lb_11 : Env → M Va := (eLst aNil)
@[reducible] def lb_12 : Env → M Va := (eLst (aCons (eUn (oFldE [1013, 1037] [116, 104, 105, 110, 103]) (eVar 0)) aNil))
@[reducible] def lb_13 : Env → M Va := (eLst (aCons (eUn (oFldE [1014] [108, 105, 110, 107, 101, 100]) (eVar 0)) aNil))
@[reducible] def lb_14 : Env → M Va := (eLst (aCons (eUn (oFldE [1015] [115, 116, 97, 116, 101]) (eVar 0)) aNil))
@[reducible] def lb_15 : Env → M Va := (eLst (aCons (eUn (oFldE [1016] [112, 108, 97, 110]) (eVar 0)) aNil))
@[reducible] def lb_16 : Env → M Va := (eLst (aCons (eUn (oFldE [1017] [115, 116, 114, 101, 116, 99, 104]) (eVar 0)) aNil))
@[reducible] def lb_17 : Env → M Va := (eLst (aCons (eUn (oFldE [1018] [98, 101, 103, 105, 110]) (eVar 0)) aNil))
@[reducible] def lb_18 : Env → M Va := (eLst (aCons (eUn (oFldE [1019] [117, 110, 105, 116, 115]) (eVar 0)) aNil))
@[reducible] def lb_19 : Env → M Va := (eLst (aCons (eUn (oFldE [1020] [114, 111, 119]) (eVar 0)) aNil))
@[reducible] def lb_20 : Env → M Va := (eLst (aCons (eUn (oFldE [1021] [107, 101, 101, 112, 115]) (eVar 0)) aNil))
@[reducible] def lb_21 : Env → M Va := (eLst (aCons (eUn (oFldE [1022] [109, 101, 109, 111, 114, 121]) (eVar 0)) aNil))
@[reducible] def lb_22 : Env → M Va := (eLst (aCons (eUn (oFldE [1023] [115, 116, 97, 110, 100]) (eVar 0)) aNil))
@[reducible] def lb_23 : Env → M Va := (eLst (aCons (eUn (oFldE [1024] [111, 114, 100, 101, 114]) (eVar 0)) aNil))
@[reducible] def lb_24 : Env → M Va := (eLst (aCons (eUn (oFldE [1025] [99, 104, 97, 114, 103, 101]) (eVar 0)) aNil))
@[reducible] def lb_25 : Env → M Va := (eLst (aCons (eUn (oFldE [1026] [99, 104, 97, 114, 103, 101, 115]) (eVar 0)) aNil))
@[reducible] def lb_26 : Env → M Va := (eLst (aCons (eUn (oFldE [1027] [109, 97, 110, 121]) (eVar 0)) aNil))
@[reducible] def lb_27 : Env → M Va := (eLst aNil)
@[reducible] def lb_28 : Env → M Va := (eLst (aCons (eUn (oFldE [1029] [99, 101, 108, 108, 115]) (eVar 0)) aNil))
@[reducible] def lb_29 : Env → M Va := (eLst (aCons (eUn (oFldE [1030] [116, 111, 114, 110, 115]) (eVar 0)) aNil))
@[reducible] def lb_30 : Env → M Va := (eLst aNil)
@[reducible] def lb_31 : Env → M Va := (eLst (aCons (eUn (oFldE [1032] [119, 97, 121]) (eVar 0)) aNil))
@[reducible] def lb_32 : Env → M Va := (eLst aNil)
@[reducible] def lb_33 : Env → M Va := (eLst aNil)
@[reducible] def lb_34 : Env → M Va := (eLst (aCons (eUn (oFldE [1035] [99, 111, 117, 110, 116]) (eVar 0)) aNil))
@[reducible] def lb_35 : Env → M Va := (eLst (aCons (eUn (oFldE [1036] [112, 108, 97, 99, 101]) (eVar 0)) aNil))
@[reducible] def lb_36 : Env → M Va := (eLst (aCons (eUn (oFldE [1013, 1037] [116, 104, 105, 110, 103]) (eVar 0)) aNil))
@[reducible] def lb_37 : Env → M Va := (eLst (aCons (eUn (oFldE [1006, 1038, 1039, 1041] [110, 97, 109, 101]) (eVar 0)) aNil))
@[reducible] def lb_38 : Env → M Va := (eLst (aCons (eUn (oFldE [1006, 1038, 1039, 1041] [110, 97, 109, 101]) (eVar 0)) aNil))
@[reducible] def lb_39 : Env → M Va := (eLst (aCons (eUn (oFldE [1040] [117, 115, 101, 114]) (eVar 0)) aNil))
@[reducible] def lb_40 : Env → M Va := (eLst (aCons (eUn (oFldE [1006, 1038, 1039, 1041] [110, 97, 109, 101]) (eVar 0)) aNil))
@[reducible] def lb_41 : Env → M Va := (eLst (aCons (eUn (oFldE [1042, 1043, 1044, 1045, 1046] [118, 111, 119]) (eVar 0)) aNil))
@[reducible] def lb_42 : Env → M Va := (eLst (aCons (eUn (oFldE [1042, 1043, 1044, 1045, 1046] [118, 111, 119]) (eVar 0)) aNil))
@[reducible] def lb_43 : Env → M Va := (eLst (aCons (eUn (oFldE [1042, 1043, 1044, 1045, 1046] [118, 111, 119]) (eVar 0)) aNil))
@[reducible] def lb_44 : Env → M Va := (eLst (aCons (eUn (oFldE [1042, 1043, 1044, 1045, 1046] [118, 111, 119]) (eVar 0)) aNil))
@[reducible] def lb_45 : Env → M Va := (eLst (aCons (eUn (oFldE [1042, 1043, 1044, 1045, 1046] [118, 111, 119]) (eVar 0)) aNil))
def lbs : Nat → Env → M Va
  | 0 => lb_0
  | 1 => lb_1
  | 2 => lb_2
  | 3 => lb_3
  | 4 => lb_4
  | 5 => lb_5
  | 6 => lb_6
  | 7 => lb_7
  | 8 => lb_8
  | 9 => lb_9
  | 10 => lb_10
  | 11 => lb_11
  | 12 => lb_12
  | 13 => lb_13
  | 14 => lb_14
  | 15 => lb_15
  | 16 => lb_16
  | 17 => lb_17
  | 18 => lb_18
  | 19 => lb_19
  | 20 => lb_20
  | 21 => lb_21
  | 22 => lb_22
  | 23 => lb_23
  | 24 => lb_24
  | 25 => lb_25
  | 26 => lb_26
  | 27 => lb_27
  | 28 => lb_28
  | 29 => lb_29
  | 30 => lb_30
  | 31 => lb_31
  | 32 => lb_32
  | 33 => lb_33
  | 34 => lb_34
  | 35 => lb_35
  | 36 => lb_36
  | 37 => lb_37
  | 38 => lb_38
  | 39 => lb_39
  | 40 => lb_40
  | 41 => lb_41
  | 42 => lb_42
  | 43 => lb_43
  | 44 => lb_44
  | 45 => lb_45
  | _ => fun _ => stuck
def can0 : Va → Bool
  | .clo l [] => decide (l < 46)
  | _ => false
def app0 : Va → List Va → M Va
  | .clo l [] => lenM 1 (runL 1 (lbs l) [])
  | _ => fun _ => stuck
@[reducible] def b__law_made_a : Env → M Flow := (sSeq (sSet 1 (eLstM aNil))
  (sSeq (sExpr (eM chkL oAppend (eVar 1) (aCons (eTup (aCons (eCall (mkE 1001 [116, 101, 120, 116]) (aCons (eVar 0) aNil)) (aCons (eCall (mkE 1001 [116, 101, 120, 116]) (aCons (eVar 0) aNil)) (aCons (eClo 0 []) (aCons (eLst (aCons (eVar 0) aNil)) aNil))))) aNil)))
  (sSeq (sExpr (eM chkL oAppend (eVar 1) (aCons (eTup (aCons (eCall (mkE 1002 [112, 114, 111, 103, 114, 97, 109]) (aCons (eVar 0) aNil)) (aCons (eCall (mkE 1002 [112, 114, 111, 103, 114, 97, 109]) (aCons (eVar 0) aNil)) (aCons (eClo 1 []) (aCons (eLst (aCons (eVar 0) aNil)) aNil))))) aNil)))
  (sSeq (sExpr (eM chkL oAppend (eVar 1) (aCons (eTup (aCons (eCall (mkE 1003 [116, 101, 120, 116, 115]) (aCons (eVar 0) aNil)) (aCons (eCall (mkE 1003 [116, 101, 120, 116, 115]) (aCons (eVar 0) aNil)) (aCons (eClo 2 []) (aCons (eLst (aCons (eVar 0) aNil)) aNil))))) aNil)))
  (sSeq (sExpr (eM chkL oAppend (eVar 1) (aCons (eTup (aCons (eCall (mkE 1004 [105, 110, 100, 101, 120]) (aCons (eVar 0) aNil)) (aCons (eCall (mkE 1004 [105, 110, 100, 101, 120]) (aCons (eVar 0) aNil)) (aCons (eClo 3 []) (aCons (eLst (aCons (eVar 0) aNil)) aNil))))) aNil)))
  (sSeq (sExpr (eM chkL oAppend (eVar 1) (aCons (eTup (aCons (mkE0 1005) (aCons (mkE0 1005) (aCons (eClo 4 []) (aCons (eLst aNil) aNil))))) aNil)))
  (sSeq (sExpr (eM chkL oAppend (eVar 1) (aCons (eTup (aCons (eCall (mkE 1006 [110, 97, 109, 101]) (aCons (eVar 0) aNil)) (aCons (eCall (mkE 1006 [110, 97, 109, 101]) (aCons (eVar 0) aNil)) (aCons (eClo 5 []) (aCons (eLst (aCons (eVar 0) aNil)) aNil))))) aNil)))
  (sSeq (sExpr (eM chkL oAppend (eVar 1) (aCons (eTup (aCons (eCall (mkE 1007 [97, 110, 115, 119, 101, 114, 115]) (aCons (eVar 0) aNil)) (aCons (eCall (mkE 1007 [97, 110, 115, 119, 101, 114, 115]) (aCons (eVar 0) aNil)) (aCons (eClo 6 []) (aCons (eLst (aCons (eVar 0) aNil)) aNil))))) aNil)))
  (sSeq (sExpr (eM chkL oAppend (eVar 1) (aCons (eTup (aCons (eCall (mkE 1008 [109, 111, 115, 116]) (aCons (eVar 0) aNil)) (aCons (eCall (mkE 1008 [109, 111, 115, 116]) (aCons (eVar 0) aNil)) (aCons (eClo 7 []) (aCons (eLst (aCons (eVar 0) aNil)) aNil))))) aNil)))
  (sSeq (sExpr (eM chkL oAppend (eVar 1) (aCons (eTup (aCons (eCall (mkE 1009 [109]) (aCons (eVar 0) aNil)) (aCons (eCall (mkE 1009 [109]) (aCons (eVar 0) aNil)) (aCons (eClo 8 []) (aCons (eLst (aCons (eVar 0) aNil)) aNil))))) aNil)))
  (sSeq (sExpr (eM chkL oAppend (eVar 1) (aCons (eTup (aCons (eCall (mkE 1010 [111, 110, 101]) (aCons (eVar 0) aNil)) (aCons (eCall (mkE 1010 [111, 110, 101]) (aCons (eVar 0) aNil)) (aCons (eClo 9 []) (aCons (eLst (aCons (eVar 0) aNil)) aNil))))) aNil)))
  (sSeq (sExpr (eM chkL oAppend (eVar 1) (aCons (eTup (aCons (eCall (mkE 1011 [111, 98, 106, 101, 99, 116, 115]) (aCons (eVar 0) aNil)) (aCons (eCall (mkE 1011 [111, 98, 106, 101, 99, 116, 115]) (aCons (eVar 0) aNil)) (aCons (eClo 10 []) (aCons (eLst (aCons (eVar 0) aNil)) aNil))))) aNil)))
  (sSeq (sExpr (eM chkL oAppend (eVar 1) (aCons (eTup (aCons (mkE0 1012) (aCons (mkE0 1012) (aCons (eClo 11 []) (aCons (eLst aNil) aNil))))) aNil)))
  (sSeq (sExpr (eM chkL oAppend (eVar 1) (aCons (eTup (aCons (eCall (mkE 1013 [116, 104, 105, 110, 103]) (aCons (eVar 0) aNil)) (aCons (eCall (mkE 1013 [116, 104, 105, 110, 103]) (aCons (eVar 0) aNil)) (aCons (eClo 12 []) (aCons (eLst (aCons (eVar 0) aNil)) aNil))))) aNil)))
  (sSeq (sExpr (eM chkL oAppend (eVar 1) (aCons (eTup (aCons (eCall (mkE 1014 [108, 105, 110, 107, 101, 100]) (aCons (eVar 0) aNil)) (aCons (eCall (mkE 1014 [108, 105, 110, 107, 101, 100]) (aCons (eVar 0) aNil)) (aCons (eClo 13 []) (aCons (eLst (aCons (eVar 0) aNil)) aNil))))) aNil)))
  (sSeq (sExpr (eM chkL oAppend (eVar 1) (aCons (eTup (aCons (eCall (mkE 1015 [115, 116, 97, 116, 101]) (aCons (eVar 0) aNil)) (aCons (eCall (mkE 1015 [115, 116, 97, 116, 101]) (aCons (eVar 0) aNil)) (aCons (eClo 14 []) (aCons (eLst (aCons (eVar 0) aNil)) aNil))))) aNil)))
  (sSeq (sExpr (eM chkL oAppend (eVar 1) (aCons (eTup (aCons (eCall (mkE 1016 [112, 108, 97, 110]) (aCons (eVar 0) aNil)) (aCons (eCall (mkE 1016 [112, 108, 97, 110]) (aCons (eVar 0) aNil)) (aCons (eClo 15 []) (aCons (eLst (aCons (eVar 0) aNil)) aNil))))) aNil)))
  (sSeq (sExpr (eM chkL oAppend (eVar 1) (aCons (eTup (aCons (eCall (mkE 1017 [115, 116, 114, 101, 116, 99, 104]) (aCons (eVar 0) aNil)) (aCons (eCall (mkE 1017 [115, 116, 114, 101, 116, 99, 104]) (aCons (eVar 0) aNil)) (aCons (eClo 16 []) (aCons (eLst (aCons (eVar 0) aNil)) aNil))))) aNil)))
  (sSeq (sExpr (eM chkL oAppend (eVar 1) (aCons (eTup (aCons (eCall (mkE 1018 [98, 101, 103, 105, 110]) (aCons (eVar 0) aNil)) (aCons (eCall (mkE 1018 [98, 101, 103, 105, 110]) (aCons (eVar 0) aNil)) (aCons (eClo 17 []) (aCons (eLst (aCons (eVar 0) aNil)) aNil))))) aNil)))
  (sSeq (sExpr (eM chkL oAppend (eVar 1) (aCons (eTup (aCons (eCall (mkE 1019 [117, 110, 105, 116, 115]) (aCons (eVar 0) aNil)) (aCons (eCall (mkE 1019 [117, 110, 105, 116, 115]) (aCons (eVar 0) aNil)) (aCons (eClo 18 []) (aCons (eLst (aCons (eVar 0) aNil)) aNil))))) aNil)))
  (sSeq (sExpr (eM chkL oAppend (eVar 1) (aCons (eTup (aCons (eCall (mkE 1020 [114, 111, 119]) (aCons (eVar 0) aNil)) (aCons (eCall (mkE 1020 [114, 111, 119]) (aCons (eVar 0) aNil)) (aCons (eClo 19 []) (aCons (eLst (aCons (eVar 0) aNil)) aNil))))) aNil)))
  (sSeq (sExpr (eM chkL oAppend (eVar 1) (aCons (eTup (aCons (eCall (mkE 1021 [107, 101, 101, 112, 115]) (aCons (eVar 0) aNil)) (aCons (eCall (mkE 1021 [107, 101, 101, 112, 115]) (aCons (eVar 0) aNil)) (aCons (eClo 20 []) (aCons (eLst (aCons (eVar 0) aNil)) aNil))))) aNil)))
  (sSeq (sExpr (eM chkL oAppend (eVar 1) (aCons (eTup (aCons (eCall (mkE 1022 [109, 101, 109, 111, 114, 121]) (aCons (eVar 0) aNil)) (aCons (eCall (mkE 1022 [109, 101, 109, 111, 114, 121]) (aCons (eVar 0) aNil)) (aCons (eClo 21 []) (aCons (eLst (aCons (eVar 0) aNil)) aNil))))) aNil)))
  (sSeq (sExpr (eM chkL oAppend (eVar 1) (aCons (eTup (aCons (eCall (mkE 1023 [115, 116, 97, 110, 100]) (aCons (eVar 0) aNil)) (aCons (eCall (mkE 1023 [115, 116, 97, 110, 100]) (aCons (eVar 0) aNil)) (aCons (eClo 22 []) (aCons (eLst (aCons (eVar 0) aNil)) aNil))))) aNil)))
  (sRet (eVar 1))))))))))))))))))))))))))
def m__law_made_a : List Va → M Va := runF 2 b__law_made_a
@[reducible] def b__law_made_b : Env → M Flow := (sSeq (sSet 1 (eLstM aNil))
  (sSeq (sExpr (eM chkL oAppend (eVar 1) (aCons (eTup (aCons (eCall (mkE 1024 [111, 114, 100, 101, 114]) (aCons (eVar 0) aNil)) (aCons (eCall (mkE 1024 [111, 114, 100, 101, 114]) (aCons (eVar 0) aNil)) (aCons (eClo 23 []) (aCons (eLst (aCons (eVar 0) aNil)) aNil))))) aNil)))
  (sSeq (sExpr (eM chkL oAppend (eVar 1) (aCons (eTup (aCons (eCall (mkE 1025 [99, 104, 97, 114, 103, 101]) (aCons (eVar 0) aNil)) (aCons (eCall (mkE 1025 [99, 104, 97, 114, 103, 101]) (aCons (eVar 0) aNil)) (aCons (eClo 24 []) (aCons (eLst (aCons (eVar 0) aNil)) aNil))))) aNil)))
  (sSeq (sExpr (eM chkL oAppend (eVar 1) (aCons (eTup (aCons (eCall (mkE 1026 [99, 104, 97, 114, 103, 101, 115]) (aCons (eVar 0) aNil)) (aCons (eCall (mkE 1026 [99, 104, 97, 114, 103, 101, 115]) (aCons (eVar 0) aNil)) (aCons (eClo 25 []) (aCons (eLst (aCons (eVar 0) aNil)) aNil))))) aNil)))
  (sSeq (sExpr (eM chkL oAppend (eVar 1) (aCons (eTup (aCons (eCall (mkE 1027 [109, 97, 110, 121]) (aCons (eVar 0) aNil)) (aCons (eCall (mkE 1027 [109, 97, 110, 121]) (aCons (eVar 0) aNil)) (aCons (eClo 26 []) (aCons (eLst (aCons (eVar 0) aNil)) aNil))))) aNil)))
  (sSeq (sExpr (eM chkL oAppend (eVar 1) (aCons (eTup (aCons (mkE0 1028) (aCons (mkE0 1028) (aCons (eClo 27 []) (aCons (eLst aNil) aNil))))) aNil)))
  (sSeq (sExpr (eM chkL oAppend (eVar 1) (aCons (eTup (aCons (eCall (mkE 1029 [99, 101, 108, 108, 115]) (aCons (eVar 0) aNil)) (aCons (eCall (mkE 1029 [99, 101, 108, 108, 115]) (aCons (eVar 0) aNil)) (aCons (eClo 28 []) (aCons (eLst (aCons (eVar 0) aNil)) aNil))))) aNil)))
  (sSeq (sExpr (eM chkL oAppend (eVar 1) (aCons (eTup (aCons (eCall (mkE 1030 [116, 111, 114, 110, 115]) (aCons (eVar 0) aNil)) (aCons (eCall (mkE 1030 [116, 111, 114, 110, 115]) (aCons (eVar 0) aNil)) (aCons (eClo 29 []) (aCons (eLst (aCons (eVar 0) aNil)) aNil))))) aNil)))
  (sSeq (sExpr (eM chkL oAppend (eVar 1) (aCons (eTup (aCons (mkE0 1031) (aCons (mkE0 1031) (aCons (eClo 30 []) (aCons (eLst aNil) aNil))))) aNil)))
  (sSeq (sExpr (eM chkL oAppend (eVar 1) (aCons (eTup (aCons (eCall (mkE 1032 [119, 97, 121]) (aCons (eVar 0) aNil)) (aCons (eCall (mkE 1032 [119, 97, 121]) (aCons (eVar 0) aNil)) (aCons (eClo 31 []) (aCons (eLst (aCons (eVar 0) aNil)) aNil))))) aNil)))
  (sSeq (sExpr (eM chkL oAppend (eVar 1) (aCons (eTup (aCons (mkE0 1033) (aCons (mkE0 1033) (aCons (eClo 32 []) (aCons (eLst aNil) aNil))))) aNil)))
  (sSeq (sExpr (eM chkL oAppend (eVar 1) (aCons (eTup (aCons (mkE0 1034) (aCons (mkE0 1034) (aCons (eClo 33 []) (aCons (eLst aNil) aNil))))) aNil)))
  (sSeq (sExpr (eM chkL oAppend (eVar 1) (aCons (eTup (aCons (eCall (mkE 1035 [99, 111, 117, 110, 116]) (aCons (eVar 0) aNil)) (aCons (eCall (mkE 1035 [99, 111, 117, 110, 116]) (aCons (eVar 0) aNil)) (aCons (eClo 34 []) (aCons (eLst (aCons (eVar 0) aNil)) aNil))))) aNil)))
  (sSeq (sExpr (eM chkL oAppend (eVar 1) (aCons (eTup (aCons (eCall (mkE 1036 [112, 108, 97, 99, 101]) (aCons (eVar 0) aNil)) (aCons (eCall (mkE 1036 [112, 108, 97, 99, 101]) (aCons (eVar 0) aNil)) (aCons (eClo 35 []) (aCons (eLst (aCons (eVar 0) aNil)) aNil))))) aNil)))
  (sSeq (sExpr (eM chkL oAppend (eVar 1) (aCons (eTup (aCons (eCall (mkE 1037 [116, 104, 105, 110, 103]) (aCons (eVar 0) aNil)) (aCons (eCall (mkE 1037 [116, 104, 105, 110, 103]) (aCons (eVar 0) aNil)) (aCons (eClo 36 []) (aCons (eLst (aCons (eVar 0) aNil)) aNil))))) aNil)))
  (sSeq (sExpr (eM chkL oAppend (eVar 1) (aCons (eTup (aCons (eCall (mkE 1038 [110, 97, 109, 101]) (aCons (eVar 0) aNil)) (aCons (eCall (mkE 1038 [110, 97, 109, 101]) (aCons (eVar 0) aNil)) (aCons (eClo 37 []) (aCons (eLst (aCons (eVar 0) aNil)) aNil))))) aNil)))
  (sSeq (sExpr (eM chkL oAppend (eVar 1) (aCons (eTup (aCons (eCall (mkE 1039 [110, 97, 109, 101]) (aCons (eVar 0) aNil)) (aCons (eCall (mkE 1039 [110, 97, 109, 101]) (aCons (eVar 0) aNil)) (aCons (eClo 38 []) (aCons (eLst (aCons (eVar 0) aNil)) aNil))))) aNil)))
  (sSeq (sExpr (eM chkL oAppend (eVar 1) (aCons (eTup (aCons (eCall (mkE 1040 [117, 115, 101, 114]) (aCons (eVar 0) aNil)) (aCons (eCall (mkE 1040 [117, 115, 101, 114]) (aCons (eVar 0) aNil)) (aCons (eClo 39 []) (aCons (eLst (aCons (eVar 0) aNil)) aNil))))) aNil)))
  (sSeq (sExpr (eM chkL oAppend (eVar 1) (aCons (eTup (aCons (eCall (mkE 1041 [110, 97, 109, 101]) (aCons (eVar 0) aNil)) (aCons (eCall (mkE 1041 [110, 97, 109, 101]) (aCons (eVar 0) aNil)) (aCons (eClo 40 []) (aCons (eLst (aCons (eVar 0) aNil)) aNil))))) aNil)))
  (sSeq (sExpr (eM chkL oAppend (eVar 1) (aCons (eTup (aCons (eCall (mkE 1042 [118, 111, 119]) (aCons (eVar 0) aNil)) (aCons (eCall (mkE 1042 [118, 111, 119]) (aCons (eVar 0) aNil)) (aCons (eClo 41 []) (aCons (eLst (aCons (eVar 0) aNil)) aNil))))) aNil)))
  (sSeq (sExpr (eM chkL oAppend (eVar 1) (aCons (eTup (aCons (eCall (mkE 1043 [118, 111, 119]) (aCons (eVar 0) aNil)) (aCons (eCall (mkE 1043 [118, 111, 119]) (aCons (eVar 0) aNil)) (aCons (eClo 42 []) (aCons (eLst (aCons (eVar 0) aNil)) aNil))))) aNil)))
  (sSeq (sExpr (eM chkL oAppend (eVar 1) (aCons (eTup (aCons (eCall (mkE 1044 [118, 111, 119]) (aCons (eVar 0) aNil)) (aCons (eCall (mkE 1044 [118, 111, 119]) (aCons (eVar 0) aNil)) (aCons (eClo 43 []) (aCons (eLst (aCons (eVar 0) aNil)) aNil))))) aNil)))
  (sSeq (sExpr (eM chkL oAppend (eVar 1) (aCons (eTup (aCons (eCall (mkE 1045 [118, 111, 119]) (aCons (eVar 0) aNil)) (aCons (eCall (mkE 1045 [118, 111, 119]) (aCons (eVar 0) aNil)) (aCons (eClo 44 []) (aCons (eLst (aCons (eVar 0) aNil)) aNil))))) aNil)))
  (sSeq (sExpr (eM chkL oAppend (eVar 1) (aCons (eTup (aCons (eCall (mkE 1046 [118, 111, 119]) (aCons (eVar 0) aNil)) (aCons (eCall (mkE 1046 [118, 111, 119]) (aCons (eVar 0) aNil)) (aCons (eClo 45 []) (aCons (eLst (aCons (eVar 0) aNil)) aNil))))) aNil)))
  (sRet (eVar 1))))))))))))))))))))))))))
def m__law_made_b : List Va → M Va := runF 2 b__law_made_b
@[reducible] def b__law_kinds_a : Env → M Flow := (sSeq (sSet 1 (eLstM aNil))
  (sSeq (sSet 1 (eOp oAdd (eVar 1) (eLst (aCons (eCall (bIsE isT) (aCons (eVar 0) (aCons (eC (.fn 1001)) aNil))) (aCons (eCall (bIsE isT) (aCons (eVar 0) (aCons (eC (.fn 1002)) aNil))) (aCons (eCall (bIsE isT) (aCons (eVar 0) (aCons (eC (.fn 1003)) aNil))) aNil))))))
  (sSeq (sSet 1 (eOp oAdd (eVar 1) (eLst (aCons (eCall (bIsE isT) (aCons (eVar 0) (aCons (eC (.fn 1004)) aNil))) (aCons (eCall (bIsE isT) (aCons (eVar 0) (aCons (eC (.fn 1005)) aNil))) (aCons (eCall (bIsE isT) (aCons (eVar 0) (aCons (eC (.fn 1006)) aNil))) aNil))))))
  (sSeq (sSet 1 (eOp oAdd (eVar 1) (eLst (aCons (eCall (bIsE isT) (aCons (eVar 0) (aCons (eC (.fn 1007)) aNil))) (aCons (eCall (bIsE isT) (aCons (eVar 0) (aCons (eC (.fn 1008)) aNil))) (aCons (eCall (bIsE isT) (aCons (eVar 0) (aCons (eC (.fn 1009)) aNil))) aNil))))))
  (sSeq (sSet 1 (eOp oAdd (eVar 1) (eLst (aCons (eCall (bIsE isT) (aCons (eVar 0) (aCons (eC (.fn 1010)) aNil))) (aCons (eCall (bIsE isT) (aCons (eVar 0) (aCons (eC (.fn 1011)) aNil))) (aCons (eCall (bIsE isT) (aCons (eVar 0) (aCons (eC (.fn 1012)) aNil))) aNil))))))
  (sSeq (sSet 1 (eOp oAdd (eVar 1) (eLst (aCons (eCall (bIsE isT) (aCons (eVar 0) (aCons (eC (.fn 1013)) aNil))) (aCons (eCall (bIsE isT) (aCons (eVar 0) (aCons (eC (.fn 1014)) aNil))) (aCons (eCall (bIsE isT) (aCons (eVar 0) (aCons (eC (.fn 1015)) aNil))) aNil))))))
  (sSeq (sSet 1 (eOp oAdd (eVar 1) (eLst (aCons (eCall (bIsE isT) (aCons (eVar 0) (aCons (eC (.fn 1016)) aNil))) (aCons (eCall (bIsE isT) (aCons (eVar 0) (aCons (eC (.fn 1017)) aNil))) (aCons (eCall (bIsE isT) (aCons (eVar 0) (aCons (eC (.fn 1018)) aNil))) aNil))))))
  (sSeq (sSet 1 (eOp oAdd (eVar 1) (eLst (aCons (eCall (bIsE isT) (aCons (eVar 0) (aCons (eC (.fn 1019)) aNil))) (aCons (eCall (bIsE isT) (aCons (eVar 0) (aCons (eC (.fn 1020)) aNil))) (aCons (eCall (bIsE isT) (aCons (eVar 0) (aCons (eC (.fn 1021)) aNil))) aNil))))))
  (sSeq (sSet 1 (eOp oAdd (eVar 1) (eLst (aCons (eCall (bIsE isT) (aCons (eVar 0) (aCons (eC (.fn 1022)) aNil))) (aCons (eCall (bIsE isT) (aCons (eVar 0) (aCons (eC (.fn 1023)) aNil))) aNil)))))
  (sRet (eVar 1)))))))))))
def m__law_kinds_a : List Va → M Va := runF 2 b__law_kinds_a
@[reducible] def b__law_kinds_b : Env → M Flow := (sSeq (sSet 1 (eLstM aNil))
  (sSeq (sSet 1 (eOp oAdd (eVar 1) (eLst (aCons (eCall (bIsE isT) (aCons (eVar 0) (aCons (eC (.fn 1024)) aNil))) (aCons (eCall (bIsE isT) (aCons (eVar 0) (aCons (eC (.fn 1025)) aNil))) (aCons (eCall (bIsE isT) (aCons (eVar 0) (aCons (eC (.fn 1026)) aNil))) aNil))))))
  (sSeq (sSet 1 (eOp oAdd (eVar 1) (eLst (aCons (eCall (bIsE isT) (aCons (eVar 0) (aCons (eC (.fn 1027)) aNil))) (aCons (eCall (bIsE isT) (aCons (eVar 0) (aCons (eC (.fn 1028)) aNil))) (aCons (eCall (bIsE isT) (aCons (eVar 0) (aCons (eC (.fn 1029)) aNil))) aNil))))))
  (sSeq (sSet 1 (eOp oAdd (eVar 1) (eLst (aCons (eCall (bIsE isT) (aCons (eVar 0) (aCons (eC (.fn 1030)) aNil))) (aCons (eCall (bIsE isT) (aCons (eVar 0) (aCons (eC (.fn 1031)) aNil))) (aCons (eCall (bIsE isT) (aCons (eVar 0) (aCons (eC (.fn 1032)) aNil))) aNil))))))
  (sSeq (sSet 1 (eOp oAdd (eVar 1) (eLst (aCons (eCall (bIsE isT) (aCons (eVar 0) (aCons (eC (.fn 1033)) aNil))) (aCons (eCall (bIsE isT) (aCons (eVar 0) (aCons (eC (.fn 1034)) aNil))) (aCons (eCall (bIsE isT) (aCons (eVar 0) (aCons (eC (.fn 1035)) aNil))) aNil))))))
  (sSeq (sSet 1 (eOp oAdd (eVar 1) (eLst (aCons (eCall (bIsE isT) (aCons (eVar 0) (aCons (eC (.fn 1036)) aNil))) (aCons (eCall (bIsE isT) (aCons (eVar 0) (aCons (eC (.fn 1037)) aNil))) (aCons (eCall (bIsE isT) (aCons (eVar 0) (aCons (eC (.fn 1038)) aNil))) aNil))))))
  (sSeq (sSet 1 (eOp oAdd (eVar 1) (eLst (aCons (eCall (bIsE isT) (aCons (eVar 0) (aCons (eC (.fn 1039)) aNil))) (aCons (eCall (bIsE isT) (aCons (eVar 0) (aCons (eC (.fn 1040)) aNil))) (aCons (eCall (bIsE isT) (aCons (eVar 0) (aCons (eC (.fn 1041)) aNil))) aNil))))))
  (sSeq (sSet 1 (eOp oAdd (eVar 1) (eLst (aCons (eCall (bIsE isT) (aCons (eVar 0) (aCons (eC (.fn 1042)) aNil))) (aCons (eCall (bIsE isT) (aCons (eVar 0) (aCons (eC (.fn 1043)) aNil))) (aCons (eCall (bIsE isT) (aCons (eVar 0) (aCons (eC (.fn 1044)) aNil))) aNil))))))
  (sSeq (sSet 1 (eOp oAdd (eVar 1) (eLst (aCons (eCall (bIsE isT) (aCons (eVar 0) (aCons (eC (.fn 1045)) aNil))) (aCons (eCall (bIsE isT) (aCons (eVar 0) (aCons (eC (.fn 1046)) aNil))) aNil)))))
  (sRet (eVar 1)))))))))))
def m__law_kinds_b : List Va → M Va := runF 2 b__law_kinds_b
@[reducible] def b__law_is_own : Env → M Flow := (sSeq (sIf (tOr (tNot (tTru (eCall (bIsE isT) (aCons (eVar 0) (aCons (eC (.fn 1000)) aNil))))) (tNot (tTru (eCall (bIsE isT) (aCons (eVar 0) (aCons (eC (.ty "ValueError")) aNil)))))) (sRet (eC (.bl false))) sNext)
  (sSeq (sIf (tTru (eCall (bIsE isT) (aCons (eVar 0) (aCons (eTup (aCons (eC (.ty "LookupError")) (aCons (eC (.ty "TypeError")) (aCons (eC (.ty "ArithmeticError")) (aCons (eC (.ty "AttributeError")) (aCons (eC (.ty "RuntimeError")) aNil)))))) aNil)))) (sRet (eC (.bl false))) sNext)
  (sRet (eOp oEq (eOp oAdd (eCall (lenM 1 m__law_kinds_a) (aCons (eVar 0) aNil)) (eCall (lenM 1 m__law_kinds_b) (aCons (eVar 0) aNil))) (eLcM (iRange1 (aCons (eC (.int 46)) aNil)) (gVar 2) tYesM (eOp oEq (eVar 2) (eVar 1)) [2])))))
def m__law_is_own : List Va → M Va := runF 3 b__law_is_own
@[reducible] def b_law : Env → M Flow := (sSeq (sSet 1 (eCall (lenM 1 Com.m__law_stream) (aCons (eVar 0) aNil)))
  (sSeq (sSet 2 (eLstM (aCons (eC .non) (aCons (eC (.int 5)) (aCons (eUn oNeg (eC (.int 1))) (aCons (eC (.bl true)) (aCons (eC (.str [97])) (aCons (eC (.str [])) (aCons (eLstM (aCons (eC (.int 1)) (aCons (eC (.str [98])) aNil))) (aCons (eTup (aCons (eC (.int 2)) (aCons (eC .non) aNil))) (aCons (eDict1 (.str [97]) (.int 1)) (aCons (eLstM (aCons (eLstM (aCons (eC (.str [120])) aNil)) aNil)) (aCons (eOp oPow (eC (.int 10)) (eC (.int 17))) (aCons (eTup (aCons (eC (.str [115])) (aCons (eC (.int 3)) aNil))) (aCons (eC (.bl false)) (aCons (eC (.int 0)) (aCons (eC (.int 1)) aNil)))))))))))))))))
  (sSeq (sFor (iRange1 (aCons (eC (.int 3)) aNil)) (gVar 3) (sSeq (sPar [4, 5] (aCons (eCall (lenM 2 Com.m__law_pick) (aCons (eVar 1) (aCons (eVar 2) aNil))) (aCons (eCall (lenM 2 Com.m__law_pick) (aCons (eVar 1) (aCons (eVar 2) aNil))) aNil)))
  (sSeq (sPar [6, 7] (aCons (eOp oAdd (eCall (lenM 1 m__law_made_a) (aCons (eVar 4) aNil)) (eCall (lenM 1 m__law_made_b) (aCons (eVar 4) aNil))) (aCons (eOp oAdd (eCall (lenM 1 m__law_made_a) (aCons (eVar 5) aNil)) (eCall (lenM 1 m__law_made_b) (aCons (eVar 5) aNil))) aNil)))
  (sSeq (sFor (iEnum (aCons (eVar 6) aNil)) (gTup 2 (gCons (gVar 8) (gCons (gTup 4 (gCons (gVar 9) (gCons (gVar 10) (gCons (gVar 11) (gCons (gVar 12) gNil))))) gNil))) (sSeq (sIf (tOr (tNot (tTru (eCall (lenM 2 m__law_is_own) (aCons (eVar 9) (aCons (eVar 8) aNil))))) (tNot (tTru (eCall (lenM 2 m__law_is_own) (aCons (eVar 10) (aCons (eVar 8) aNil)))))) (sRet (eC (.bl false))) sNext)
  (sIf (tOr (tNot (tTru (eCall (lenM 2 (peekM (Com.m__law_same 14))) (aCons (eCallV can0 app0 11 (aCons (eVar 9) aNil)) (aCons (eVar 12) aNil))))) (tNot (tTru (eCall (lenM 2 (peekM (Com.m__law_same 14))) (aCons (eCallV can0 app0 11 (aCons (eVar 10) aNil)) (aCons (eVar 12) aNil)))))) (sRet (eC (.bl false))) sNext)))
  (sIf (tNot (tTru (eCall bAll (aCons (eLcM (iSeq (eVar 7)) (gTup 4 (gCons (gVar 9) (gCons (gVar 10) (gCons (gVar 11) (gCons (gVar 12) gNil))))) tYesM (eAnd (eCall (lenM 2 (peekM (Com.m__law_same 14))) (aCons (eCallV can0 app0 11 (aCons (eVar 9) aNil)) (aCons (eVar 12) aNil))) (eCall (lenM 2 (peekM (Com.m__law_same 14))) (aCons (eCallV can0 app0 11 (aCons (eVar 10) aNil)) (aCons (eVar 12) aNil)))) [9, 10, 11, 12]) aNil)))) (sRet (eC (.bl false))) sNext)))))
  (sSeq (sFor (iSeq (eTup (aCons (eLstM (aCons (eC (.str [118])) aNil)) (aCons (eDict1 (.str [118]) (.int 1)) aNil)))) (gVar 13) (sSeq (sSet 6 (eOp oAdd (eCall (lenM 1 m__law_made_a) (aCons (eVar 13) aNil)) (eCall (lenM 1 m__law_made_b) (aCons (eVar 13) aNil))))
  (sSeq (sIf (tTru (eCall (bIsi kts) (aCons (eVar 13) (aCons (eC (.ty "dict")) aNil)))) (sAsg (gIx (eVar 13) (eC (.str [108, 97, 116, 101]))) (eC (.int 2))) (sExpr (eM chkL oAppend (eVar 13) (aCons (eC (.str [108, 97, 116, 101])) aNil))))
  (sFor (iSeq (eVar 6)) (gTup 4 (gCons (gVar 9) (gCons (gVar 10) (gCons (gVar 11) (gCons (gVar 12) gNil))))) (sIf (tOr (tNot (tTru (eCall (lenM 2 (peekM (Com.m__law_same 14))) (aCons (eCallV can0 app0 11 (aCons (eVar 9) aNil)) (aCons (eVar 12) aNil))))) (tNot (tTru (eCall (lenM 2 (peekM (Com.m__law_same 14))) (aCons (eCallV can0 app0 11 (aCons (eVar 10) aNil)) (aCons (eVar 12) aNil)))))) (sRet (eC (.bl false))) sNext)))))
  (sRet (eC (.bl true)))))))
def m_law : List Va → M Va := runF 14 b_law
end K00
end Vm
end
section
set_option Elab.async false
set_option linter.all false
set_option autoImplicit false
set_option maxRecDepth 100000
set_option maxHeartbeats 2000000
namespace Vm
namespace K00
open PySem PySem.Spec PyProof.Rows L2 LamX NdefX
/-! ### walks: printed -/
abbrev FnP (K : PySem.W.Frag) (x : Str) (st : Stmt) (f : Addr) (fd : FuncData) : Prop := FunD K x x (defArgs st) (defBody st) (defScope st) [] [] f fd
mutual
def lamsE : Expr → List Expr
  | .Lambda a b s p => [.Lambda a b s p]
  | .Call f es ks _ => lamsE f ++ lamsEs es ++ lamsK ks
  | .UnaryOp _ a _ => lamsE a
  | .BoolOp _ es _ => lamsEs es
  | .Tuple es _ _ => lamsEs es
  | .List es _ => lamsEs es
  | .Compare a _ es _ => lamsE a ++ lamsEs es
  | .BinOp a _ b _ => lamsE a ++ lamsE b
  | .IfExp a b c _ => lamsE a ++ lamsE b ++ lamsE c
  | _ => []
def lamsEs : List Expr → List Expr
  | [] => []
  | e :: r => lamsE e ++ lamsEs r
def lamsK : List Keyword → List Expr
  | [] => []
  | ⟨_, e, _⟩ :: r => lamsE e ++ lamsK r
end
mutual
def lamsS : Stmt → List Expr
  | .Assign _ e _ => lamsE e
  | .Expr e _ => lamsE e
  | .Return (some e) _ => lamsE e
  | .If c a b _ => lamsE c ++ lamsSs a ++ lamsSs b
  | .For _ i b o _ => lamsE i ++ lamsSs b ++ lamsSs o
  | .While c b o _ => lamsE c ++ lamsSs b ++ lamsSs o
  | _ => []
def lamsSs : List Stmt → List Expr
  | [] => []
  | s :: r => lamsS s ++ lamsSs r
end
def lam0 : LamD := ⟨"", ⟨[], [], none, [], [], none, []⟩, .Constant .none 0 ⟨0, 0, 0, 0⟩, ⟨.function, [], false, false, []⟩, [], [], []⟩
def lamD : Nat → LamD
  | 0 => match (lamsSs (defBody (top 54))).getD 0 (.Constant .none 0 ⟨0, 0, 0, 0⟩) with
    | .Lambda a b s _ => ⟨"_law_made_a.<locals>.<lambda>", a, b, s, ["e"], [], ["e"]⟩
    | _ => lam0
  | 1 => match (lamsSs (defBody (top 54))).getD 1 (.Constant .none 0 ⟨0, 0, 0, 0⟩) with
    | .Lambda a b s _ => ⟨"_law_made_a.<locals>.<lambda>", a, b, s, ["e"], [], ["e"]⟩
    | _ => lam0
  | 2 => match (lamsSs (defBody (top 54))).getD 2 (.Constant .none 0 ⟨0, 0, 0, 0⟩) with
    | .Lambda a b s _ => ⟨"_law_made_a.<locals>.<lambda>", a, b, s, ["e"], [], ["e"]⟩
    | _ => lam0
  | 3 => match (lamsSs (defBody (top 54))).getD 3 (.Constant .none 0 ⟨0, 0, 0, 0⟩) with
    | .Lambda a b s _ => ⟨"_law_made_a.<locals>.<lambda>", a, b, s, ["e"], [], ["e"]⟩
    | _ => lam0
  | 4 => match (lamsSs (defBody (top 54))).getD 4 (.Constant .none 0 ⟨0, 0, 0, 0⟩) with
    | .Lambda a b s _ => ⟨"_law_made_a.<locals>.<lambda>", a, b, s, ["e"], [], ["e"]⟩
    | _ => lam0
  | 5 => match (lamsSs (defBody (top 54))).getD 5 (.Constant .none 0 ⟨0, 0, 0, 0⟩) with
    | .Lambda a b s _ => ⟨"_law_made_a.<locals>.<lambda>", a, b, s, ["e"], [], ["e"]⟩
    | _ => lam0
  | 6 => match (lamsSs (defBody (top 54))).getD 6 (.Constant .none 0 ⟨0, 0, 0, 0⟩) with
    | .Lambda a b s _ => ⟨"_law_made_a.<locals>.<lambda>", a, b, s, ["e"], [], ["e"]⟩
    | _ => lam0
  | 7 => match (lamsSs (defBody (top 54))).getD 7 (.Constant .none 0 ⟨0, 0, 0, 0⟩) with
    | .Lambda a b s _ => ⟨"_law_made_a.<locals>.<lambda>", a, b, s, ["e"], [], ["e"]⟩
    | _ => lam0
  | 8 => match (lamsSs (defBody (top 54))).getD 8 (.Constant .none 0 ⟨0, 0, 0, 0⟩) with
    | .Lambda a b s _ => ⟨"_law_made_a.<locals>.<lambda>", a, b, s, ["e"], [], ["e"]⟩
    | _ => lam0
  | 9 => match (lamsSs (defBody (top 54))).getD 9 (.Constant .none 0 ⟨0, 0, 0, 0⟩) with
    | .Lambda a b s _ => ⟨"_law_made_a.<locals>.<lambda>", a, b, s, ["e"], [], ["e"]⟩
    | _ => lam0
  | 10 => match (lamsSs (defBody (top 54))).getD 10 (.Constant .none 0 ⟨0, 0, 0, 0⟩) with
    | .Lambda a b s _ => ⟨"_law_made_a.<locals>.<lambda>", a, b, s, ["e"], [], ["e"]⟩
    | _ => lam0
  | 11 => match (lamsSs (defBody (top 54))).getD 11 (.Constant .none 0 ⟨0, 0, 0, 0⟩) with
    | .Lambda a b s _ => ⟨"_law_made_a.<locals>.<lambda>", a, b, s, ["e"], [], ["e"]⟩
    | _ => lam0
  | 12 => match (lamsSs (defBody (top 54))).getD 12 (.Constant .none 0 ⟨0, 0, 0, 0⟩) with
    | .Lambda a b s _ => ⟨"_law_made_a.<locals>.<lambda>", a, b, s, ["e"], [], ["e"]⟩
    | _ => lam0
  | 13 => match (lamsSs (defBody (top 54))).getD 13 (.Constant .none 0 ⟨0, 0, 0, 0⟩) with
    | .Lambda a b s _ => ⟨"_law_made_a.<locals>.<lambda>", a, b, s, ["e"], [], ["e"]⟩
    | _ => lam0
  | 14 => match (lamsSs (defBody (top 54))).getD 14 (.Constant .none 0 ⟨0, 0, 0, 0⟩) with
    | .Lambda a b s _ => ⟨"_law_made_a.<locals>.<lambda>", a, b, s, ["e"], [], ["e"]⟩
    | _ => lam0
  | 15 => match (lamsSs (defBody (top 54))).getD 15 (.Constant .none 0 ⟨0, 0, 0, 0⟩) with
    | .Lambda a b s _ => ⟨"_law_made_a.<locals>.<lambda>", a, b, s, ["e"], [], ["e"]⟩
    | _ => lam0
  | 16 => match (lamsSs (defBody (top 54))).getD 16 (.Constant .none 0 ⟨0, 0, 0, 0⟩) with
    | .Lambda a b s _ => ⟨"_law_made_a.<locals>.<lambda>", a, b, s, ["e"], [], ["e"]⟩
    | _ => lam0
  | 17 => match (lamsSs (defBody (top 54))).getD 17 (.Constant .none 0 ⟨0, 0, 0, 0⟩) with
    | .Lambda a b s _ => ⟨"_law_made_a.<locals>.<lambda>", a, b, s, ["e"], [], ["e"]⟩
    | _ => lam0
  | 18 => match (lamsSs (defBody (top 54))).getD 18 (.Constant .none 0 ⟨0, 0, 0, 0⟩) with
    | .Lambda a b s _ => ⟨"_law_made_a.<locals>.<lambda>", a, b, s, ["e"], [], ["e"]⟩
    | _ => lam0
  | 19 => match (lamsSs (defBody (top 54))).getD 19 (.Constant .none 0 ⟨0, 0, 0, 0⟩) with
    | .Lambda a b s _ => ⟨"_law_made_a.<locals>.<lambda>", a, b, s, ["e"], [], ["e"]⟩
    | _ => lam0
  | 20 => match (lamsSs (defBody (top 54))).getD 20 (.Constant .none 0 ⟨0, 0, 0, 0⟩) with
    | .Lambda a b s _ => ⟨"_law_made_a.<locals>.<lambda>", a, b, s, ["e"], [], ["e"]⟩
    | _ => lam0
  | 21 => match (lamsSs (defBody (top 54))).getD 21 (.Constant .none 0 ⟨0, 0, 0, 0⟩) with
    | .Lambda a b s _ => ⟨"_law_made_a.<locals>.<lambda>", a, b, s, ["e"], [], ["e"]⟩
    | _ => lam0
  | 22 => match (lamsSs (defBody (top 54))).getD 22 (.Constant .none 0 ⟨0, 0, 0, 0⟩) with
    | .Lambda a b s _ => ⟨"_law_made_a.<locals>.<lambda>", a, b, s, ["e"], [], ["e"]⟩
    | _ => lam0
  | 23 => match (lamsSs (defBody (top 55))).getD 0 (.Constant .none 0 ⟨0, 0, 0, 0⟩) with
    | .Lambda a b s _ => ⟨"_law_made_b.<locals>.<lambda>", a, b, s, ["e"], [], ["e"]⟩
    | _ => lam0
  | 24 => match (lamsSs (defBody (top 55))).getD 1 (.Constant .none 0 ⟨0, 0, 0, 0⟩) with
    | .Lambda a b s _ => ⟨"_law_made_b.<locals>.<lambda>", a, b, s, ["e"], [], ["e"]⟩
    | _ => lam0
  | 25 => match (lamsSs (defBody (top 55))).getD 2 (.Constant .none 0 ⟨0, 0, 0, 0⟩) with
    | .Lambda a b s _ => ⟨"_law_made_b.<locals>.<lambda>", a, b, s, ["e"], [], ["e"]⟩
    | _ => lam0
  | 26 => match (lamsSs (defBody (top 55))).getD 3 (.Constant .none 0 ⟨0, 0, 0, 0⟩) with
    | .Lambda a b s _ => ⟨"_law_made_b.<locals>.<lambda>", a, b, s, ["e"], [], ["e"]⟩
    | _ => lam0
  | 27 => match (lamsSs (defBody (top 55))).getD 4 (.Constant .none 0 ⟨0, 0, 0, 0⟩) with
    | .Lambda a b s _ => ⟨"_law_made_b.<locals>.<lambda>", a, b, s, ["e"], [], ["e"]⟩
    | _ => lam0
  | 28 => match (lamsSs (defBody (top 55))).getD 5 (.Constant .none 0 ⟨0, 0, 0, 0⟩) with
    | .Lambda a b s _ => ⟨"_law_made_b.<locals>.<lambda>", a, b, s, ["e"], [], ["e"]⟩
    | _ => lam0
  | 29 => match (lamsSs (defBody (top 55))).getD 6 (.Constant .none 0 ⟨0, 0, 0, 0⟩) with
    | .Lambda a b s _ => ⟨"_law_made_b.<locals>.<lambda>", a, b, s, ["e"], [], ["e"]⟩
    | _ => lam0
  | 30 => match (lamsSs (defBody (top 55))).getD 7 (.Constant .none 0 ⟨0, 0, 0, 0⟩) with
    | .Lambda a b s _ => ⟨"_law_made_b.<locals>.<lambda>", a, b, s, ["e"], [], ["e"]⟩
    | _ => lam0
  | 31 => match (lamsSs (defBody (top 55))).getD 8 (.Constant .none 0 ⟨0, 0, 0, 0⟩) with
    | .Lambda a b s _ => ⟨"_law_made_b.<locals>.<lambda>", a, b, s, ["e"], [], ["e"]⟩
    | _ => lam0
  | 32 => match (lamsSs (defBody (top 55))).getD 9 (.Constant .none 0 ⟨0, 0, 0, 0⟩) with
    | .Lambda a b s _ => ⟨"_law_made_b.<locals>.<lambda>", a, b, s, ["e"], [], ["e"]⟩
    | _ => lam0
  | 33 => match (lamsSs (defBody (top 55))).getD 10 (.Constant .none 0 ⟨0, 0, 0, 0⟩) with
    | .Lambda a b s _ => ⟨"_law_made_b.<locals>.<lambda>", a, b, s, ["e"], [], ["e"]⟩
    | _ => lam0
  | 34 => match (lamsSs (defBody (top 55))).getD 11 (.Constant .none 0 ⟨0, 0, 0, 0⟩) with
    | .Lambda a b s _ => ⟨"_law_made_b.<locals>.<lambda>", a, b, s, ["e"], [], ["e"]⟩
    | _ => lam0
  | 35 => match (lamsSs (defBody (top 55))).getD 12 (.Constant .none 0 ⟨0, 0, 0, 0⟩) with
    | .Lambda a b s _ => ⟨"_law_made_b.<locals>.<lambda>", a, b, s, ["e"], [], ["e"]⟩
    | _ => lam0
  | 36 => match (lamsSs (defBody (top 55))).getD 13 (.Constant .none 0 ⟨0, 0, 0, 0⟩) with
    | .Lambda a b s _ => ⟨"_law_made_b.<locals>.<lambda>", a, b, s, ["e"], [], ["e"]⟩
    | _ => lam0
  | 37 => match (lamsSs (defBody (top 55))).getD 14 (.Constant .none 0 ⟨0, 0, 0, 0⟩) with
    | .Lambda a b s _ => ⟨"_law_made_b.<locals>.<lambda>", a, b, s, ["e"], [], ["e"]⟩
    | _ => lam0
  | 38 => match (lamsSs (defBody (top 55))).getD 15 (.Constant .none 0 ⟨0, 0, 0, 0⟩) with
    | .Lambda a b s _ => ⟨"_law_made_b.<locals>.<lambda>", a, b, s, ["e"], [], ["e"]⟩
    | _ => lam0
  | 39 => match (lamsSs (defBody (top 55))).getD 16 (.Constant .none 0 ⟨0, 0, 0, 0⟩) with
    | .Lambda a b s _ => ⟨"_law_made_b.<locals>.<lambda>", a, b, s, ["e"], [], ["e"]⟩
    | _ => lam0
  | 40 => match (lamsSs (defBody (top 55))).getD 17 (.Constant .none 0 ⟨0, 0, 0, 0⟩) with
    | .Lambda a b s _ => ⟨"_law_made_b.<locals>.<lambda>", a, b, s, ["e"], [], ["e"]⟩
    | _ => lam0
  | 41 => match (lamsSs (defBody (top 55))).getD 18 (.Constant .none 0 ⟨0, 0, 0, 0⟩) with
    | .Lambda a b s _ => ⟨"_law_made_b.<locals>.<lambda>", a, b, s, ["e"], [], ["e"]⟩
    | _ => lam0
  | 42 => match (lamsSs (defBody (top 55))).getD 19 (.Constant .none 0 ⟨0, 0, 0, 0⟩) with
    | .Lambda a b s _ => ⟨"_law_made_b.<locals>.<lambda>", a, b, s, ["e"], [], ["e"]⟩
    | _ => lam0
  | 43 => match (lamsSs (defBody (top 55))).getD 20 (.Constant .none 0 ⟨0, 0, 0, 0⟩) with
    | .Lambda a b s _ => ⟨"_law_made_b.<locals>.<lambda>", a, b, s, ["e"], [], ["e"]⟩
    | _ => lam0
  | 44 => match (lamsSs (defBody (top 55))).getD 21 (.Constant .none 0 ⟨0, 0, 0, 0⟩) with
    | .Lambda a b s _ => ⟨"_law_made_b.<locals>.<lambda>", a, b, s, ["e"], [], ["e"]⟩
    | _ => lam0
  | 45 => match (lamsSs (defBody (top 55))).getD 22 (.Constant .none 0 ⟨0, 0, 0, 0⟩) with
    | .Lambda a b s _ => ⟨"_law_made_b.<locals>.<lambda>", a, b, s, ["e"], [], ["e"]⟩
    | _ => lam0
  | _ => lam0
/-- what the head tells -/
structure ExF (K : PySem.W.Frag) (mg : Str → Option Value) (x : Str) (C fI : Addr) (fdI : FuncData) (st : Stmt) (q f a1 a2 : Str) : Prop where
  ox : OexC K C
  ini : PySem.W.findIn K (.ref C) "__init__" = some (some (.ref fI))
  tyi : PySem.W.typeIn K (.ref fI) = some (.type "function")
  no : PySem.W.findIn K (.ref C) f = some none
  fn : FunD K "__init__" q (defArgs st) (defBody st) (defScope st) [] [] fI fdI
  bd : Binds K fdI [a1, a2] []
  mg : mg x = some (.ref C)
  xf : XfC K C
  same : PySem.W.exmOne K (.ref C) (.ref C) = some true
structure Tp (P : Program) (w : World) (K : PySem.W.Frag) (mg : Str → Option Value) (base : Heap) (G : Gc) (fd : Nat → FuncData) (fi : Nat → Addr) (fdi : Nat → FuncData) (tc tp : Nat → Addr) : Prop where
  f__law_kinds_a : FnP K "_law_kinds_a" (top 56) (G.fa 6) (fd 6)
  g__law_kinds_a : mg "_law_kinds_a" = some (.ref (G.fa 6))
  f__law_kinds_b : FnP K "_law_kinds_b" (top 57) (G.fa 7) (fd 7)
  g__law_kinds_b : mg "_law_kinds_b" = some (.ref (G.fa 7))
  f__law_is_own : FnP K "_law_is_own" (top 58) (G.fa 8) (fd 8)
  g__law_is_own : mg "_law_is_own" = some (.ref (G.fa 8))
  f__law_made_a : FnP K "_law_made_a" (top 54) (G.fa 4) (fd 4)
  g__law_made_a : mg "_law_made_a" = some (.ref (G.fa 4))
  f__law_made_b : FnP K "_law_made_b" (top 55) (G.fa 5) (fd 5)
  g__law_made_b : mg "_law_made_b" = some (.ref (G.fa 5))
  f__law_draw : FnP K "_law_draw" (top 51) (G.fa 1) (fd 1)
  g__law_draw : mg "_law_draw" = some (.ref (G.fa 1))
  f__law_pick : FnP K "_law_pick" (top 52) (G.fa 2) (fd 2)
  g__law_pick : mg "_law_pick" = some (.ref (G.fa 2))
  f__law_same : FnP K "_law_same" (top 53) (G.fa 3) (fd 3)
  g__law_same : mg "_law_same" = some (.ref (G.fa 3))
  f__law_stream : FnP K "_law_stream" (top 50) (G.fa 0) (fd 0)
  g__law_stream : mg "_law_stream" = some (.ref (G.fa 0))
  f_law : FnP K "law" (top 59) (G.fa 9) (fd 9)
  g_law : mg "law" = some (.ref (G.fa 9))
  b_ArithmeticError : mg "ArithmeticError" = none
  b_AttributeError : mg "AttributeError" = none
  b_LookupError : mg "LookupError" = none
  b_RuntimeError : mg "RuntimeError" = none
  b_TypeError : mg "TypeError" = none
  b_ValueError : mg "ValueError" = none
  b_abs : mg "abs" = none
  b_all : mg "all" = none
  b_bool : mg "bool" = none
  b_dict : mg "dict" = none
  b_enumerate : mg "enumerate" = none
  b_int : mg "int" = none
  b_isinstance : mg "isinstance" = none
  b_len : mg "len" = none
  b_list : mg "list" = none
  b_range : mg "range" = none
  b_str : mg "str" = none
  b_tuple : mg "tuple" = none
  b_zip : mg "zip" = none
  x_BadText : ExF K mg "BadText" (G.ca 1001) (fi 1001) (fdi 1001) ini_BadText "BadText.__init__" "text" "self" "text"
  x_BadProgram : ExF K mg "BadProgram" (G.ca 1002) (fi 1002) (fdi 1002) ini_BadProgram "BadProgram.__init__" "program" "self" "program"
  x_BadTexts : ExF K mg "BadTexts" (G.ca 1003) (fi 1003) (fdi 1003) ini_BadTexts "BadTexts.__init__" "texts" "self" "texts"
  x_BadIndex : ExF K mg "BadIndex" (G.ca 1004) (fi 1004) (fdi 1004) ini_BadIndex "BadIndex.__init__" "index" "self" "index"
  x_BadName : ExF K mg "BadName" (G.ca 1006) (fi 1006) (fdi 1006) ini_BadName "BadName.__init__" "name" "self" "name"
  x_BadAnswers : ExF K mg "BadAnswers" (G.ca 1007) (fi 1007) (fdi 1007) ini_BadAnswers "BadAnswers.__init__" "answers" "self" "answers"
  x_BadMost : ExF K mg "BadMost" (G.ca 1008) (fi 1008) (fdi 1008) ini_BadMost "BadMost.__init__" "most" "self" "most"
  x_BadModule : ExF K mg "BadModule" (G.ca 1009) (fi 1009) (fdi 1009) ini_BadModule "BadModule.__init__" "m" "self" "m"
  x_BadObject : ExF K mg "BadObject" (G.ca 1010) (fi 1010) (fdi 1010) ini_BadObject "BadObject.__init__" "one" "self" "one"
  x_BadObjects : ExF K mg "BadObjects" (G.ca 1011) (fi 1011) (fdi 1011) ini_BadObjects "BadObjects.__init__" "objects" "self" "objects"
  x_BadForm : ExF K mg "BadForm" (G.ca 1013) (fi 1013) (fdi 1013) ini_BadForm "BadForm.__init__" "thing" "self" "thing"
  x_BadLinked : ExF K mg "BadLinked" (G.ca 1014) (fi 1014) (fdi 1014) ini_BadLinked "BadLinked.__init__" "linked" "self" "linked"
  x_BadState : ExF K mg "BadState" (G.ca 1015) (fi 1015) (fdi 1015) ini_BadState "BadState.__init__" "state" "self" "state"
  x_BadPlan : ExF K mg "BadPlan" (G.ca 1016) (fi 1016) (fdi 1016) ini_BadPlan "BadPlan.__init__" "plan" "self" "plan"
  x_BadStretch : ExF K mg "BadStretch" (G.ca 1017) (fi 1017) (fdi 1017) ini_BadStretch "BadStretch.__init__" "stretch" "self" "stretch"
  x_BadBegin : ExF K mg "BadBegin" (G.ca 1018) (fi 1018) (fdi 1018) ini_BadBegin "BadBegin.__init__" "begin" "self" "begin"
  x_BadUnits : ExF K mg "BadUnits" (G.ca 1019) (fi 1019) (fdi 1019) ini_BadUnits "BadUnits.__init__" "units" "self" "units"
  x_BadRow : ExF K mg "BadRow" (G.ca 1020) (fi 1020) (fdi 1020) ini_BadRow "BadRow.__init__" "row" "self" "row"
  x_BadKeeps : ExF K mg "BadKeeps" (G.ca 1021) (fi 1021) (fdi 1021) ini_BadKeeps "BadKeeps.__init__" "keeps" "self" "keeps"
  x_BadMemory : ExF K mg "BadMemory" (G.ca 1022) (fi 1022) (fdi 1022) ini_BadMemory "BadMemory.__init__" "memory" "self" "memory"
  x_BadStand : ExF K mg "BadStand" (G.ca 1023) (fi 1023) (fdi 1023) ini_BadStand "BadStand.__init__" "stand" "self" "stand"
  x_BadOrder : ExF K mg "BadOrder" (G.ca 1024) (fi 1024) (fdi 1024) ini_BadOrder "BadOrder.__init__" "order" "self" "order"
  x_BadCharge : ExF K mg "BadCharge" (G.ca 1025) (fi 1025) (fdi 1025) ini_BadCharge "BadCharge.__init__" "charge" "self" "charge"
  x_BadCharges : ExF K mg "BadCharges" (G.ca 1026) (fi 1026) (fdi 1026) ini_BadCharges "BadCharges.__init__" "charges" "self" "charges"
  x_BadMany : ExF K mg "BadMany" (G.ca 1027) (fi 1027) (fdi 1027) ini_BadMany "BadMany.__init__" "many" "self" "many"
  x_BadCells : ExF K mg "BadCells" (G.ca 1029) (fi 1029) (fdi 1029) ini_BadCells "BadCells.__init__" "cells" "self" "cells"
  x_BadTorns : ExF K mg "BadTorns" (G.ca 1030) (fi 1030) (fdi 1030) ini_BadTorns "BadTorns.__init__" "torns" "self" "torns"
  x_BadWay : ExF K mg "BadWay" (G.ca 1032) (fi 1032) (fdi 1032) ini_BadWay "BadWay.__init__" "way" "self" "way"
  x_BadCount : ExF K mg "BadCount" (G.ca 1035) (fi 1035) (fdi 1035) ini_BadCount "BadCount.__init__" "count" "self" "count"
  x_BadPlace : ExF K mg "BadPlace" (G.ca 1036) (fi 1036) (fdi 1036) ini_BadPlace "BadPlace.__init__" "place" "self" "place"
  x_BadThing : ExF K mg "BadThing" (G.ca 1037) (fi 1037) (fdi 1037) ini_BadThing "BadThing.__init__" "thing" "self" "thing"
  x_NoName : ExF K mg "NoName" (G.ca 1038) (fi 1038) (fdi 1038) ini_NoName "NoName.__init__" "name" "self" "name"
  x_InRing : ExF K mg "InRing" (G.ca 1039) (fi 1039) (fdi 1039) ini_InRing "InRing.__init__" "name" "self" "name"
  x_InUse : ExF K mg "InUse" (G.ca 1040) (fi 1040) (fdi 1040) ini_InUse "InUse.__init__" "user" "self" "user"
  x_NoThing : ExF K mg "NoThing" (G.ca 1041) (fi 1041) (fdi 1041) ini_NoThing "NoThing.__init__" "name" "self" "name"
  x_BadVow : ExF K mg "BadVow" (G.ca 1042) (fi 1042) (fdi 1042) ini_BadVow "BadVow.__init__" "vow" "self" "vow"
  x_Watched : ExF K mg "Watched" (G.ca 1043) (fi 1043) (fdi 1043) ini_Watched "Watched.__init__" "vow" "self" "vow"
  x_NotHeldNow : ExF K mg "NotHeldNow" (G.ca 1044) (fi 1044) (fdi 1044) ini_NotHeldNow "NotHeldNow.__init__" "vow" "self" "vow"
  x_NotWatched : ExF K mg "NotWatched" (G.ca 1045) (fi 1045) (fdi 1045) ini_NotWatched "NotWatched.__init__" "vow" "self" "vow"
  x_Broken : ExF K mg "Broken" (G.ca 1046) (fi 1046) (fdi 1046) ini_Broken "Broken.__init__" "vow" "self" "vow"
  k_UncutError : mg "UncutError" = some (.ref (G.fa 1000))
  k_BadText : mg "BadText" = some (.ref (G.fa 1001))
  k_BadProgram : mg "BadProgram" = some (.ref (G.fa 1002))
  k_BadTexts : mg "BadTexts" = some (.ref (G.fa 1003))
  k_BadIndex : mg "BadIndex" = some (.ref (G.fa 1004))
  k_NotRight : mg "NotRight" = some (.ref (G.fa 1005))
  k_BadName : mg "BadName" = some (.ref (G.fa 1006))
  k_BadAnswers : mg "BadAnswers" = some (.ref (G.fa 1007))
  k_BadMost : mg "BadMost" = some (.ref (G.fa 1008))
  k_BadModule : mg "BadModule" = some (.ref (G.fa 1009))
  k_BadObject : mg "BadObject" = some (.ref (G.fa 1010))
  k_BadObjects : mg "BadObjects" = some (.ref (G.fa 1011))
  k_NotLinked : mg "NotLinked" = some (.ref (G.fa 1012))
  k_BadForm : mg "BadForm" = some (.ref (G.fa 1013))
  k_BadLinked : mg "BadLinked" = some (.ref (G.fa 1014))
  k_BadState : mg "BadState" = some (.ref (G.fa 1015))
  k_BadPlan : mg "BadPlan" = some (.ref (G.fa 1016))
  k_BadStretch : mg "BadStretch" = some (.ref (G.fa 1017))
  k_BadBegin : mg "BadBegin" = some (.ref (G.fa 1018))
  k_BadUnits : mg "BadUnits" = some (.ref (G.fa 1019))
  k_BadRow : mg "BadRow" = some (.ref (G.fa 1020))
  k_BadKeeps : mg "BadKeeps" = some (.ref (G.fa 1021))
  k_BadMemory : mg "BadMemory" = some (.ref (G.fa 1022))
  k_BadStand : mg "BadStand" = some (.ref (G.fa 1023))
  k_BadOrder : mg "BadOrder" = some (.ref (G.fa 1024))
  k_BadCharge : mg "BadCharge" = some (.ref (G.fa 1025))
  k_BadCharges : mg "BadCharges" = some (.ref (G.fa 1026))
  k_BadMany : mg "BadMany" = some (.ref (G.fa 1027))
  k_NoEnd : mg "NoEnd" = some (.ref (G.fa 1028))
  k_BadCells : mg "BadCells" = some (.ref (G.fa 1029))
  k_BadTorns : mg "BadTorns" = some (.ref (G.fa 1030))
  k_NotFree : mg "NotFree" = some (.ref (G.fa 1031))
  k_BadWay : mg "BadWay" = some (.ref (G.fa 1032))
  k_NotClear : mg "NotClear" = some (.ref (G.fa 1033))
  k_NotStraight : mg "NotStraight" = some (.ref (G.fa 1034))
  k_BadCount : mg "BadCount" = some (.ref (G.fa 1035))
  k_BadPlace : mg "BadPlace" = some (.ref (G.fa 1036))
  k_BadThing : mg "BadThing" = some (.ref (G.fa 1037))
  k_NoName : mg "NoName" = some (.ref (G.fa 1038))
  k_InRing : mg "InRing" = some (.ref (G.fa 1039))
  k_InUse : mg "InUse" = some (.ref (G.fa 1040))
  k_NoThing : mg "NoThing" = some (.ref (G.fa 1041))
  k_BadVow : mg "BadVow" = some (.ref (G.fa 1042))
  k_Watched : mg "Watched" = some (.ref (G.fa 1043))
  k_NotHeldNow : mg "NotHeldNow" = some (.ref (G.fa 1044))
  k_NotWatched : mg "NotWatched" = some (.ref (G.fa 1045))
  k_Broken : mg "Broken" = some (.ref (G.fa 1046))
  y_NotRight : PySem.W.excIn K (G.ca 1005) [.type "ValueError", .type "Exception", .type "BaseException", .type "object"] "ValueError.__new__" = true ∧ PySem.W.keepIn K (.ref (G.ca 1005)) = true ∧ mg "NotRight" = some (.ref (G.ca 1005))
  y_NotLinked : PySem.W.excIn K (G.ca 1012) [.type "ValueError", .type "Exception", .type "BaseException", .type "object"] "ValueError.__new__" = true ∧ PySem.W.keepIn K (.ref (G.ca 1012)) = true ∧ mg "NotLinked" = some (.ref (G.ca 1012))
  y_NoEnd : PySem.W.excIn K (G.ca 1028) [.type "ValueError", .type "Exception", .type "BaseException", .type "object"] "ValueError.__new__" = true ∧ PySem.W.keepIn K (.ref (G.ca 1028)) = true ∧ mg "NoEnd" = some (.ref (G.ca 1028))
  y_NotFree : PySem.W.excIn K (G.ca 1031) [.type "ValueError", .type "Exception", .type "BaseException", .type "object"] "ValueError.__new__" = true ∧ PySem.W.keepIn K (.ref (G.ca 1031)) = true ∧ mg "NotFree" = some (.ref (G.ca 1031))
  y_NotClear : PySem.W.excIn K (G.ca 1033) [.type "ValueError", .type "Exception", .type "BaseException", .type "object"] "ValueError.__new__" = true ∧ PySem.W.keepIn K (.ref (G.ca 1033)) = true ∧ mg "NotClear" = some (.ref (G.ca 1033))
  y_NotStraight : PySem.W.excIn K (G.ca 1034) [.type "ValueError", .type "Exception", .type "BaseException", .type "object"] "ValueError.__new__" = true ∧ PySem.W.keepIn K (.ref (G.ca 1034)) = true ∧ mg "NotStraight" = some (.ref (G.ca 1034))
  tab : TabOk K G isT
  kits : KitsOk K kts
  lam : G.lam = lamD
  tbl : G.T = ([(tp 4, "_law_made_a.<locals>.<lambda>"), (tp 5, "_law_made_b.<locals>.<lambda>")] : List (Addr × Str))
  cd__law_made_a : (fd 4).code = .ref (tc 4)
  tb__law_made_a : TabB base mg (tc 4) (tp 4)
  tm__law_made_a : (tp 4, ("_law_made_a.<locals>.<lambda>" : Str)) ∈ G.T
  tu__law_made_a : ∀ p ∈ G.T, p.1 = tp 4 → p.2 = ("_law_made_a.<locals>.<lambda>" : Str)
  cd__law_made_b : (fd 5).code = .ref (tc 5)
  tb__law_made_b : TabB base mg (tc 5) (tp 5)
  tm__law_made_b : (tp 5, ("_law_made_b.<locals>.<lambda>" : Str)) ∈ G.T
  tu__law_made_b : ∀ p ∈ G.T, p.1 = tp 5 → p.2 = ("_law_made_b.<locals>.<lambda>" : Str)
section
variable {P : Program} {w : World} {K : PySem.W.Frag} {mg : Str → Option Value} {base : Heap} {G : Gc} {fd : Nat → FuncData} {fi : Nat → Addr} {fdi : Nat → FuncData} {tc tp : Nat → Addr}
theorem isc_BadText : FnScope ["self", "text"] ["self", "text"] (defScope ini_BadText) := ⟨rfl, rfl, rfl, by decide +kernel, rfl, by decide +kernel, by decide +kernel⟩
theorem init_BadText (t : Tp P w K mg base G fd fi fdi tc tp) : FnOk P w K mg base (L2.CX P w) 1 (fi 1001) (fdi 1001) ["self", "text"] (spI K "text") := init_ok (k := 0) t.x_BadText.fn isc_BadText rfl rfl (.inl rfl) (.inl rfl)
theorem isc_BadProgram : FnScope ["self", "program"] ["self", "program"] (defScope ini_BadProgram) := ⟨rfl, rfl, rfl, by decide +kernel, rfl, by decide +kernel, by decide +kernel⟩
theorem init_BadProgram (t : Tp P w K mg base G fd fi fdi tc tp) : FnOk P w K mg base (L2.CX P w) 1 (fi 1002) (fdi 1002) ["self", "program"] (spI K "program") := init_ok (k := 0) t.x_BadProgram.fn isc_BadProgram rfl rfl (.inl rfl) (.inl rfl)
theorem isc_BadTexts : FnScope ["self", "texts"] ["self", "texts"] (defScope ini_BadTexts) := ⟨rfl, rfl, rfl, by decide +kernel, rfl, by decide +kernel, by decide +kernel⟩
theorem init_BadTexts (t : Tp P w K mg base G fd fi fdi tc tp) : FnOk P w K mg base (L2.CX P w) 1 (fi 1003) (fdi 1003) ["self", "texts"] (spI K "texts") := init_ok (k := 0) t.x_BadTexts.fn isc_BadTexts rfl rfl (.inl rfl) (.inl rfl)
theorem isc_BadIndex : FnScope ["self", "index"] ["self", "index"] (defScope ini_BadIndex) := ⟨rfl, rfl, rfl, by decide +kernel, rfl, by decide +kernel, by decide +kernel⟩
theorem init_BadIndex (t : Tp P w K mg base G fd fi fdi tc tp) : FnOk P w K mg base (L2.CX P w) 1 (fi 1004) (fdi 1004) ["self", "index"] (spI K "index") := init_ok (k := 0) t.x_BadIndex.fn isc_BadIndex rfl rfl (.inl rfl) (.inl rfl)
theorem isc_BadName : FnScope ["self", "name"] ["self", "name"] (defScope ini_BadName) := ⟨rfl, rfl, rfl, by decide +kernel, rfl, by decide +kernel, by decide +kernel⟩
theorem init_BadName (t : Tp P w K mg base G fd fi fdi tc tp) : FnOk P w K mg base (L2.CX P w) 1 (fi 1006) (fdi 1006) ["self", "name"] (spI K "name") := init_ok (k := 0) t.x_BadName.fn isc_BadName rfl rfl (.inl rfl) (.inl rfl)
theorem isc_BadAnswers : FnScope ["self", "answers"] ["self", "answers"] (defScope ini_BadAnswers) := ⟨rfl, rfl, rfl, by decide +kernel, rfl, by decide +kernel, by decide +kernel⟩
theorem init_BadAnswers (t : Tp P w K mg base G fd fi fdi tc tp) : FnOk P w K mg base (L2.CX P w) 1 (fi 1007) (fdi 1007) ["self", "answers"] (spI K "answers") := init_ok (k := 0) t.x_BadAnswers.fn isc_BadAnswers rfl rfl (.inl rfl) (.inl rfl)
theorem isc_BadMost : FnScope ["self", "most"] ["self", "most"] (defScope ini_BadMost) := ⟨rfl, rfl, rfl, by decide +kernel, rfl, by decide +kernel, by decide +kernel⟩
theorem init_BadMost (t : Tp P w K mg base G fd fi fdi tc tp) : FnOk P w K mg base (L2.CX P w) 1 (fi 1008) (fdi 1008) ["self", "most"] (spI K "most") := init_ok (k := 0) t.x_BadMost.fn isc_BadMost rfl rfl (.inl rfl) (.inl rfl)
theorem isc_BadModule : FnScope ["self", "m"] ["self", "m"] (defScope ini_BadModule) := ⟨rfl, rfl, rfl, by decide +kernel, rfl, by decide +kernel, by decide +kernel⟩
theorem init_BadModule (t : Tp P w K mg base G fd fi fdi tc tp) : FnOk P w K mg base (L2.CX P w) 1 (fi 1009) (fdi 1009) ["self", "m"] (spI K "m") := init_ok (k := 0) t.x_BadModule.fn isc_BadModule rfl rfl (.inl rfl) (.inl rfl)
theorem isc_BadObject : FnScope ["self", "one"] ["self", "one"] (defScope ini_BadObject) := ⟨rfl, rfl, rfl, by decide +kernel, rfl, by decide +kernel, by decide +kernel⟩
theorem init_BadObject (t : Tp P w K mg base G fd fi fdi tc tp) : FnOk P w K mg base (L2.CX P w) 1 (fi 1010) (fdi 1010) ["self", "one"] (spI K "one") := init_ok (k := 0) t.x_BadObject.fn isc_BadObject rfl rfl (.inl rfl) (.inl rfl)
theorem isc_BadObjects : FnScope ["self", "objects"] ["self", "objects"] (defScope ini_BadObjects) := ⟨rfl, rfl, rfl, by decide +kernel, rfl, by decide +kernel, by decide +kernel⟩
theorem init_BadObjects (t : Tp P w K mg base G fd fi fdi tc tp) : FnOk P w K mg base (L2.CX P w) 1 (fi 1011) (fdi 1011) ["self", "objects"] (spI K "objects") := init_ok (k := 0) t.x_BadObjects.fn isc_BadObjects rfl rfl (.inl rfl) (.inl rfl)
theorem isc_BadForm : FnScope ["self", "thing"] ["self", "thing"] (defScope ini_BadForm) := ⟨rfl, rfl, rfl, by decide +kernel, rfl, by decide +kernel, by decide +kernel⟩
theorem init_BadForm (t : Tp P w K mg base G fd fi fdi tc tp) : FnOk P w K mg base (L2.CX P w) 1 (fi 1013) (fdi 1013) ["self", "thing"] (spI K "thing") := init_ok (k := 0) t.x_BadForm.fn isc_BadForm rfl rfl (.inl rfl) (.inl rfl)
theorem isc_BadLinked : FnScope ["self", "linked"] ["self", "linked"] (defScope ini_BadLinked) := ⟨rfl, rfl, rfl, by decide +kernel, rfl, by decide +kernel, by decide +kernel⟩
theorem init_BadLinked (t : Tp P w K mg base G fd fi fdi tc tp) : FnOk P w K mg base (L2.CX P w) 1 (fi 1014) (fdi 1014) ["self", "linked"] (spI K "linked") := init_ok (k := 0) t.x_BadLinked.fn isc_BadLinked rfl rfl (.inl rfl) (.inl rfl)
theorem isc_BadState : FnScope ["self", "state"] ["self", "state"] (defScope ini_BadState) := ⟨rfl, rfl, rfl, by decide +kernel, rfl, by decide +kernel, by decide +kernel⟩
theorem init_BadState (t : Tp P w K mg base G fd fi fdi tc tp) : FnOk P w K mg base (L2.CX P w) 1 (fi 1015) (fdi 1015) ["self", "state"] (spI K "state") := init_ok (k := 0) t.x_BadState.fn isc_BadState rfl rfl (.inl rfl) (.inl rfl)
theorem isc_BadPlan : FnScope ["self", "plan"] ["self", "plan"] (defScope ini_BadPlan) := ⟨rfl, rfl, rfl, by decide +kernel, rfl, by decide +kernel, by decide +kernel⟩
theorem init_BadPlan (t : Tp P w K mg base G fd fi fdi tc tp) : FnOk P w K mg base (L2.CX P w) 1 (fi 1016) (fdi 1016) ["self", "plan"] (spI K "plan") := init_ok (k := 0) t.x_BadPlan.fn isc_BadPlan rfl rfl (.inl rfl) (.inl rfl)
theorem isc_BadStretch : FnScope ["self", "stretch"] ["self", "stretch"] (defScope ini_BadStretch) := ⟨rfl, rfl, rfl, by decide +kernel, rfl, by decide +kernel, by decide +kernel⟩
theorem init_BadStretch (t : Tp P w K mg base G fd fi fdi tc tp) : FnOk P w K mg base (L2.CX P w) 1 (fi 1017) (fdi 1017) ["self", "stretch"] (spI K "stretch") := init_ok (k := 0) t.x_BadStretch.fn isc_BadStretch rfl rfl (.inl rfl) (.inl rfl)
theorem isc_BadBegin : FnScope ["self", "begin"] ["self", "begin"] (defScope ini_BadBegin) := ⟨rfl, rfl, rfl, by decide +kernel, rfl, by decide +kernel, by decide +kernel⟩
theorem init_BadBegin (t : Tp P w K mg base G fd fi fdi tc tp) : FnOk P w K mg base (L2.CX P w) 1 (fi 1018) (fdi 1018) ["self", "begin"] (spI K "begin") := init_ok (k := 0) t.x_BadBegin.fn isc_BadBegin rfl rfl (.inl rfl) (.inl rfl)
theorem isc_BadUnits : FnScope ["self", "units"] ["self", "units"] (defScope ini_BadUnits) := ⟨rfl, rfl, rfl, by decide +kernel, rfl, by decide +kernel, by decide +kernel⟩
theorem init_BadUnits (t : Tp P w K mg base G fd fi fdi tc tp) : FnOk P w K mg base (L2.CX P w) 1 (fi 1019) (fdi 1019) ["self", "units"] (spI K "units") := init_ok (k := 0) t.x_BadUnits.fn isc_BadUnits rfl rfl (.inl rfl) (.inl rfl)
theorem isc_BadRow : FnScope ["self", "row"] ["self", "row"] (defScope ini_BadRow) := ⟨rfl, rfl, rfl, by decide +kernel, rfl, by decide +kernel, by decide +kernel⟩
theorem init_BadRow (t : Tp P w K mg base G fd fi fdi tc tp) : FnOk P w K mg base (L2.CX P w) 1 (fi 1020) (fdi 1020) ["self", "row"] (spI K "row") := init_ok (k := 0) t.x_BadRow.fn isc_BadRow rfl rfl (.inl rfl) (.inl rfl)
theorem isc_BadKeeps : FnScope ["self", "keeps"] ["self", "keeps"] (defScope ini_BadKeeps) := ⟨rfl, rfl, rfl, by decide +kernel, rfl, by decide +kernel, by decide +kernel⟩
theorem init_BadKeeps (t : Tp P w K mg base G fd fi fdi tc tp) : FnOk P w K mg base (L2.CX P w) 1 (fi 1021) (fdi 1021) ["self", "keeps"] (spI K "keeps") := init_ok (k := 0) t.x_BadKeeps.fn isc_BadKeeps rfl rfl (.inl rfl) (.inl rfl)
theorem isc_BadMemory : FnScope ["self", "memory"] ["self", "memory"] (defScope ini_BadMemory) := ⟨rfl, rfl, rfl, by decide +kernel, rfl, by decide +kernel, by decide +kernel⟩
theorem init_BadMemory (t : Tp P w K mg base G fd fi fdi tc tp) : FnOk P w K mg base (L2.CX P w) 1 (fi 1022) (fdi 1022) ["self", "memory"] (spI K "memory") := init_ok (k := 0) t.x_BadMemory.fn isc_BadMemory rfl rfl (.inl rfl) (.inl rfl)
theorem isc_BadStand : FnScope ["self", "stand"] ["self", "stand"] (defScope ini_BadStand) := ⟨rfl, rfl, rfl, by decide +kernel, rfl, by decide +kernel, by decide +kernel⟩
theorem init_BadStand (t : Tp P w K mg base G fd fi fdi tc tp) : FnOk P w K mg base (L2.CX P w) 1 (fi 1023) (fdi 1023) ["self", "stand"] (spI K "stand") := init_ok (k := 0) t.x_BadStand.fn isc_BadStand rfl rfl (.inl rfl) (.inl rfl)
theorem isc_BadOrder : FnScope ["self", "order"] ["self", "order"] (defScope ini_BadOrder) := ⟨rfl, rfl, rfl, by decide +kernel, rfl, by decide +kernel, by decide +kernel⟩
theorem init_BadOrder (t : Tp P w K mg base G fd fi fdi tc tp) : FnOk P w K mg base (L2.CX P w) 1 (fi 1024) (fdi 1024) ["self", "order"] (spI K "order") := init_ok (k := 0) t.x_BadOrder.fn isc_BadOrder rfl rfl (.inl rfl) (.inl rfl)
theorem isc_BadCharge : FnScope ["self", "charge"] ["self", "charge"] (defScope ini_BadCharge) := ⟨rfl, rfl, rfl, by decide +kernel, rfl, by decide +kernel, by decide +kernel⟩
theorem init_BadCharge (t : Tp P w K mg base G fd fi fdi tc tp) : FnOk P w K mg base (L2.CX P w) 1 (fi 1025) (fdi 1025) ["self", "charge"] (spI K "charge") := init_ok (k := 0) t.x_BadCharge.fn isc_BadCharge rfl rfl (.inl rfl) (.inl rfl)
theorem isc_BadCharges : FnScope ["self", "charges"] ["self", "charges"] (defScope ini_BadCharges) := ⟨rfl, rfl, rfl, by decide +kernel, rfl, by decide +kernel, by decide +kernel⟩
theorem init_BadCharges (t : Tp P w K mg base G fd fi fdi tc tp) : FnOk P w K mg base (L2.CX P w) 1 (fi 1026) (fdi 1026) ["self", "charges"] (spI K "charges") := init_ok (k := 0) t.x_BadCharges.fn isc_BadCharges rfl rfl (.inl rfl) (.inl rfl)
theorem isc_BadMany : FnScope ["self", "many"] ["self", "many"] (defScope ini_BadMany) := ⟨rfl, rfl, rfl, by decide +kernel, rfl, by decide +kernel, by decide +kernel⟩
theorem init_BadMany (t : Tp P w K mg base G fd fi fdi tc tp) : FnOk P w K mg base (L2.CX P w) 1 (fi 1027) (fdi 1027) ["self", "many"] (spI K "many") := init_ok (k := 0) t.x_BadMany.fn isc_BadMany rfl rfl (.inl rfl) (.inl rfl)
theorem isc_BadCells : FnScope ["self", "cells"] ["self", "cells"] (defScope ini_BadCells) := ⟨rfl, rfl, rfl, by decide +kernel, rfl, by decide +kernel, by decide +kernel⟩
theorem init_BadCells (t : Tp P w K mg base G fd fi fdi tc tp) : FnOk P w K mg base (L2.CX P w) 1 (fi 1029) (fdi 1029) ["self", "cells"] (spI K "cells") := init_ok (k := 0) t.x_BadCells.fn isc_BadCells rfl rfl (.inl rfl) (.inl rfl)
theorem isc_BadTorns : FnScope ["self", "torns"] ["self", "torns"] (defScope ini_BadTorns) := ⟨rfl, rfl, rfl, by decide +kernel, rfl, by decide +kernel, by decide +kernel⟩
theorem init_BadTorns (t : Tp P w K mg base G fd fi fdi tc tp) : FnOk P w K mg base (L2.CX P w) 1 (fi 1030) (fdi 1030) ["self", "torns"] (spI K "torns") := init_ok (k := 0) t.x_BadTorns.fn isc_BadTorns rfl rfl (.inl rfl) (.inl rfl)
theorem isc_BadWay : FnScope ["self", "way"] ["self", "way"] (defScope ini_BadWay) := ⟨rfl, rfl, rfl, by decide +kernel, rfl, by decide +kernel, by decide +kernel⟩
theorem init_BadWay (t : Tp P w K mg base G fd fi fdi tc tp) : FnOk P w K mg base (L2.CX P w) 1 (fi 1032) (fdi 1032) ["self", "way"] (spI K "way") := init_ok (k := 0) t.x_BadWay.fn isc_BadWay rfl rfl (.inl rfl) (.inl rfl)
theorem isc_BadCount : FnScope ["self", "count"] ["self", "count"] (defScope ini_BadCount) := ⟨rfl, rfl, rfl, by decide +kernel, rfl, by decide +kernel, by decide +kernel⟩
theorem init_BadCount (t : Tp P w K mg base G fd fi fdi tc tp) : FnOk P w K mg base (L2.CX P w) 1 (fi 1035) (fdi 1035) ["self", "count"] (spI K "count") := init_ok (k := 0) t.x_BadCount.fn isc_BadCount rfl rfl (.inl rfl) (.inl rfl)
theorem isc_BadPlace : FnScope ["self", "place"] ["self", "place"] (defScope ini_BadPlace) := ⟨rfl, rfl, rfl, by decide +kernel, rfl, by decide +kernel, by decide +kernel⟩
theorem init_BadPlace (t : Tp P w K mg base G fd fi fdi tc tp) : FnOk P w K mg base (L2.CX P w) 1 (fi 1036) (fdi 1036) ["self", "place"] (spI K "place") := init_ok (k := 0) t.x_BadPlace.fn isc_BadPlace rfl rfl (.inl rfl) (.inl rfl)
theorem isc_BadThing : FnScope ["self", "thing"] ["self", "thing"] (defScope ini_BadThing) := ⟨rfl, rfl, rfl, by decide +kernel, rfl, by decide +kernel, by decide +kernel⟩
theorem init_BadThing (t : Tp P w K mg base G fd fi fdi tc tp) : FnOk P w K mg base (L2.CX P w) 1 (fi 1037) (fdi 1037) ["self", "thing"] (spI K "thing") := init_ok (k := 0) t.x_BadThing.fn isc_BadThing rfl rfl (.inl rfl) (.inl rfl)
theorem isc_NoName : FnScope ["self", "name"] ["self", "name"] (defScope ini_NoName) := ⟨rfl, rfl, rfl, by decide +kernel, rfl, by decide +kernel, by decide +kernel⟩
theorem init_NoName (t : Tp P w K mg base G fd fi fdi tc tp) : FnOk P w K mg base (L2.CX P w) 1 (fi 1038) (fdi 1038) ["self", "name"] (spI K "name") := init_ok (k := 0) t.x_NoName.fn isc_NoName rfl rfl (.inl rfl) (.inl rfl)
theorem isc_InRing : FnScope ["self", "name"] ["self", "name"] (defScope ini_InRing) := ⟨rfl, rfl, rfl, by decide +kernel, rfl, by decide +kernel, by decide +kernel⟩
theorem init_InRing (t : Tp P w K mg base G fd fi fdi tc tp) : FnOk P w K mg base (L2.CX P w) 1 (fi 1039) (fdi 1039) ["self", "name"] (spI K "name") := init_ok (k := 0) t.x_InRing.fn isc_InRing rfl rfl (.inl rfl) (.inl rfl)
theorem isc_InUse : FnScope ["self", "user"] ["self", "user"] (defScope ini_InUse) := ⟨rfl, rfl, rfl, by decide +kernel, rfl, by decide +kernel, by decide +kernel⟩
theorem init_InUse (t : Tp P w K mg base G fd fi fdi tc tp) : FnOk P w K mg base (L2.CX P w) 1 (fi 1040) (fdi 1040) ["self", "user"] (spI K "user") := init_ok (k := 0) t.x_InUse.fn isc_InUse rfl rfl (.inl rfl) (.inl rfl)
theorem isc_NoThing : FnScope ["self", "name"] ["self", "name"] (defScope ini_NoThing) := ⟨rfl, rfl, rfl, by decide +kernel, rfl, by decide +kernel, by decide +kernel⟩
theorem init_NoThing (t : Tp P w K mg base G fd fi fdi tc tp) : FnOk P w K mg base (L2.CX P w) 1 (fi 1041) (fdi 1041) ["self", "name"] (spI K "name") := init_ok (k := 0) t.x_NoThing.fn isc_NoThing rfl rfl (.inl rfl) (.inl rfl)
theorem isc_BadVow : FnScope ["self", "vow"] ["self", "vow"] (defScope ini_BadVow) := ⟨rfl, rfl, rfl, by decide +kernel, rfl, by decide +kernel, by decide +kernel⟩
theorem init_BadVow (t : Tp P w K mg base G fd fi fdi tc tp) : FnOk P w K mg base (L2.CX P w) 1 (fi 1042) (fdi 1042) ["self", "vow"] (spI K "vow") := init_ok (k := 0) t.x_BadVow.fn isc_BadVow rfl rfl (.inl rfl) (.inl rfl)
theorem isc_Watched : FnScope ["self", "vow"] ["self", "vow"] (defScope ini_Watched) := ⟨rfl, rfl, rfl, by decide +kernel, rfl, by decide +kernel, by decide +kernel⟩
theorem init_Watched (t : Tp P w K mg base G fd fi fdi tc tp) : FnOk P w K mg base (L2.CX P w) 1 (fi 1043) (fdi 1043) ["self", "vow"] (spI K "vow") := init_ok (k := 0) t.x_Watched.fn isc_Watched rfl rfl (.inl rfl) (.inl rfl)
theorem isc_NotHeldNow : FnScope ["self", "vow"] ["self", "vow"] (defScope ini_NotHeldNow) := ⟨rfl, rfl, rfl, by decide +kernel, rfl, by decide +kernel, by decide +kernel⟩
theorem init_NotHeldNow (t : Tp P w K mg base G fd fi fdi tc tp) : FnOk P w K mg base (L2.CX P w) 1 (fi 1044) (fdi 1044) ["self", "vow"] (spI K "vow") := init_ok (k := 0) t.x_NotHeldNow.fn isc_NotHeldNow rfl rfl (.inl rfl) (.inl rfl)
theorem isc_NotWatched : FnScope ["self", "vow"] ["self", "vow"] (defScope ini_NotWatched) := ⟨rfl, rfl, rfl, by decide +kernel, rfl, by decide +kernel, by decide +kernel⟩
theorem init_NotWatched (t : Tp P w K mg base G fd fi fdi tc tp) : FnOk P w K mg base (L2.CX P w) 1 (fi 1045) (fdi 1045) ["self", "vow"] (spI K "vow") := init_ok (k := 0) t.x_NotWatched.fn isc_NotWatched rfl rfl (.inl rfl) (.inl rfl)
theorem isc_Broken : FnScope ["self", "vow"] ["self", "vow"] (defScope ini_Broken) := ⟨rfl, rfl, rfl, by decide +kernel, rfl, by decide +kernel, by decide +kernel⟩
theorem init_Broken (t : Tp P w K mg base G fd fi fdi tc tp) : FnOk P w K mg base (L2.CX P w) 1 (fi 1046) (fdi 1046) ["self", "vow"] (spI K "vow") := init_ok (k := 0) t.x_Broken.fn isc_Broken rfl rfl (.inl rfl) (.inl rfl)
theorem kb_BadText (t : Tp P w K mg base G fd fi fdi tc tp) : ∀ (s : Shared) (u v : Value), K.In s.heap → BindsTo s (fdi 1001) ⟨[u], (["text"] : List Str).zip [v]⟩ ((["self", "text"] : List Str).zip [u, v]) := fun s u v hk => by
  obtain ⟨oc, od, dV, kV, doc, pm, an, cdv, ct, osl, e, lk, hcd, hD, hK⟩ := t.x_BadText.fn.ex
  rcases hD with ⟨_, rfl⟩ | ⟨z, _⟩
  · rw [e]
    exact .of_eq rfl
  · exact absurd rfl z
theorem kb_BadProgram (t : Tp P w K mg base G fd fi fdi tc tp) : ∀ (s : Shared) (u v : Value), K.In s.heap → BindsTo s (fdi 1002) ⟨[u], (["program"] : List Str).zip [v]⟩ ((["self", "program"] : List Str).zip [u, v]) := fun s u v hk => by
  obtain ⟨oc, od, dV, kV, doc, pm, an, cdv, ct, osl, e, lk, hcd, hD, hK⟩ := t.x_BadProgram.fn.ex
  rcases hD with ⟨_, rfl⟩ | ⟨z, _⟩
  · rw [e]
    exact .of_eq rfl
  · exact absurd rfl z
theorem kb_BadTexts (t : Tp P w K mg base G fd fi fdi tc tp) : ∀ (s : Shared) (u v : Value), K.In s.heap → BindsTo s (fdi 1003) ⟨[u], (["texts"] : List Str).zip [v]⟩ ((["self", "texts"] : List Str).zip [u, v]) := fun s u v hk => by
  obtain ⟨oc, od, dV, kV, doc, pm, an, cdv, ct, osl, e, lk, hcd, hD, hK⟩ := t.x_BadTexts.fn.ex
  rcases hD with ⟨_, rfl⟩ | ⟨z, _⟩
  · rw [e]
    exact .of_eq rfl
  · exact absurd rfl z
theorem kb_BadIndex (t : Tp P w K mg base G fd fi fdi tc tp) : ∀ (s : Shared) (u v : Value), K.In s.heap → BindsTo s (fdi 1004) ⟨[u], (["index"] : List Str).zip [v]⟩ ((["self", "index"] : List Str).zip [u, v]) := fun s u v hk => by
  obtain ⟨oc, od, dV, kV, doc, pm, an, cdv, ct, osl, e, lk, hcd, hD, hK⟩ := t.x_BadIndex.fn.ex
  rcases hD with ⟨_, rfl⟩ | ⟨z, _⟩
  · rw [e]
    exact .of_eq rfl
  · exact absurd rfl z
theorem kb_BadName (t : Tp P w K mg base G fd fi fdi tc tp) : ∀ (s : Shared) (u v : Value), K.In s.heap → BindsTo s (fdi 1006) ⟨[u], (["name"] : List Str).zip [v]⟩ ((["self", "name"] : List Str).zip [u, v]) := fun s u v hk => by
  obtain ⟨oc, od, dV, kV, doc, pm, an, cdv, ct, osl, e, lk, hcd, hD, hK⟩ := t.x_BadName.fn.ex
  rcases hD with ⟨_, rfl⟩ | ⟨z, _⟩
  · rw [e]
    exact .of_eq rfl
  · exact absurd rfl z
theorem kb_BadAnswers (t : Tp P w K mg base G fd fi fdi tc tp) : ∀ (s : Shared) (u v : Value), K.In s.heap → BindsTo s (fdi 1007) ⟨[u], (["answers"] : List Str).zip [v]⟩ ((["self", "answers"] : List Str).zip [u, v]) := fun s u v hk => by
  obtain ⟨oc, od, dV, kV, doc, pm, an, cdv, ct, osl, e, lk, hcd, hD, hK⟩ := t.x_BadAnswers.fn.ex
  rcases hD with ⟨_, rfl⟩ | ⟨z, _⟩
  · rw [e]
    exact .of_eq rfl
  · exact absurd rfl z
theorem kb_BadMost (t : Tp P w K mg base G fd fi fdi tc tp) : ∀ (s : Shared) (u v : Value), K.In s.heap → BindsTo s (fdi 1008) ⟨[u], (["most"] : List Str).zip [v]⟩ ((["self", "most"] : List Str).zip [u, v]) := fun s u v hk => by
  obtain ⟨oc, od, dV, kV, doc, pm, an, cdv, ct, osl, e, lk, hcd, hD, hK⟩ := t.x_BadMost.fn.ex
  rcases hD with ⟨_, rfl⟩ | ⟨z, _⟩
  · rw [e]
    exact .of_eq rfl
  · exact absurd rfl z
theorem kb_BadModule (t : Tp P w K mg base G fd fi fdi tc tp) : ∀ (s : Shared) (u v : Value), K.In s.heap → BindsTo s (fdi 1009) ⟨[u], (["m"] : List Str).zip [v]⟩ ((["self", "m"] : List Str).zip [u, v]) := fun s u v hk => by
  obtain ⟨oc, od, dV, kV, doc, pm, an, cdv, ct, osl, e, lk, hcd, hD, hK⟩ := t.x_BadModule.fn.ex
  rcases hD with ⟨_, rfl⟩ | ⟨z, _⟩
  · rw [e]
    exact .of_eq rfl
  · exact absurd rfl z
theorem kb_BadObject (t : Tp P w K mg base G fd fi fdi tc tp) : ∀ (s : Shared) (u v : Value), K.In s.heap → BindsTo s (fdi 1010) ⟨[u], (["one"] : List Str).zip [v]⟩ ((["self", "one"] : List Str).zip [u, v]) := fun s u v hk => by
  obtain ⟨oc, od, dV, kV, doc, pm, an, cdv, ct, osl, e, lk, hcd, hD, hK⟩ := t.x_BadObject.fn.ex
  rcases hD with ⟨_, rfl⟩ | ⟨z, _⟩
  · rw [e]
    exact .of_eq rfl
  · exact absurd rfl z
theorem kb_BadObjects (t : Tp P w K mg base G fd fi fdi tc tp) : ∀ (s : Shared) (u v : Value), K.In s.heap → BindsTo s (fdi 1011) ⟨[u], (["objects"] : List Str).zip [v]⟩ ((["self", "objects"] : List Str).zip [u, v]) := fun s u v hk => by
  obtain ⟨oc, od, dV, kV, doc, pm, an, cdv, ct, osl, e, lk, hcd, hD, hK⟩ := t.x_BadObjects.fn.ex
  rcases hD with ⟨_, rfl⟩ | ⟨z, _⟩
  · rw [e]
    exact .of_eq rfl
  · exact absurd rfl z
theorem kb_BadForm (t : Tp P w K mg base G fd fi fdi tc tp) : ∀ (s : Shared) (u v : Value), K.In s.heap → BindsTo s (fdi 1013) ⟨[u], (["thing"] : List Str).zip [v]⟩ ((["self", "thing"] : List Str).zip [u, v]) := fun s u v hk => by
  obtain ⟨oc, od, dV, kV, doc, pm, an, cdv, ct, osl, e, lk, hcd, hD, hK⟩ := t.x_BadForm.fn.ex
  rcases hD with ⟨_, rfl⟩ | ⟨z, _⟩
  · rw [e]
    exact .of_eq rfl
  · exact absurd rfl z
theorem kb_BadLinked (t : Tp P w K mg base G fd fi fdi tc tp) : ∀ (s : Shared) (u v : Value), K.In s.heap → BindsTo s (fdi 1014) ⟨[u], (["linked"] : List Str).zip [v]⟩ ((["self", "linked"] : List Str).zip [u, v]) := fun s u v hk => by
  obtain ⟨oc, od, dV, kV, doc, pm, an, cdv, ct, osl, e, lk, hcd, hD, hK⟩ := t.x_BadLinked.fn.ex
  rcases hD with ⟨_, rfl⟩ | ⟨z, _⟩
  · rw [e]
    exact .of_eq rfl
  · exact absurd rfl z
theorem kb_BadState (t : Tp P w K mg base G fd fi fdi tc tp) : ∀ (s : Shared) (u v : Value), K.In s.heap → BindsTo s (fdi 1015) ⟨[u], (["state"] : List Str).zip [v]⟩ ((["self", "state"] : List Str).zip [u, v]) := fun s u v hk => by
  obtain ⟨oc, od, dV, kV, doc, pm, an, cdv, ct, osl, e, lk, hcd, hD, hK⟩ := t.x_BadState.fn.ex
  rcases hD with ⟨_, rfl⟩ | ⟨z, _⟩
  · rw [e]
    exact .of_eq rfl
  · exact absurd rfl z
theorem kb_BadPlan (t : Tp P w K mg base G fd fi fdi tc tp) : ∀ (s : Shared) (u v : Value), K.In s.heap → BindsTo s (fdi 1016) ⟨[u], (["plan"] : List Str).zip [v]⟩ ((["self", "plan"] : List Str).zip [u, v]) := fun s u v hk => by
  obtain ⟨oc, od, dV, kV, doc, pm, an, cdv, ct, osl, e, lk, hcd, hD, hK⟩ := t.x_BadPlan.fn.ex
  rcases hD with ⟨_, rfl⟩ | ⟨z, _⟩
  · rw [e]
    exact .of_eq rfl
  · exact absurd rfl z
theorem kb_BadStretch (t : Tp P w K mg base G fd fi fdi tc tp) : ∀ (s : Shared) (u v : Value), K.In s.heap → BindsTo s (fdi 1017) ⟨[u], (["stretch"] : List Str).zip [v]⟩ ((["self", "stretch"] : List Str).zip [u, v]) := fun s u v hk => by
  obtain ⟨oc, od, dV, kV, doc, pm, an, cdv, ct, osl, e, lk, hcd, hD, hK⟩ := t.x_BadStretch.fn.ex
  rcases hD with ⟨_, rfl⟩ | ⟨z, _⟩
  · rw [e]
    exact .of_eq rfl
  · exact absurd rfl z
theorem kb_BadBegin (t : Tp P w K mg base G fd fi fdi tc tp) : ∀ (s : Shared) (u v : Value), K.In s.heap → BindsTo s (fdi 1018) ⟨[u], (["begin"] : List Str).zip [v]⟩ ((["self", "begin"] : List Str).zip [u, v]) := fun s u v hk => by
  obtain ⟨oc, od, dV, kV, doc, pm, an, cdv, ct, osl, e, lk, hcd, hD, hK⟩ := t.x_BadBegin.fn.ex
  rcases hD with ⟨_, rfl⟩ | ⟨z, _⟩
  · rw [e]
    exact .of_eq rfl
  · exact absurd rfl z
theorem kb_BadUnits (t : Tp P w K mg base G fd fi fdi tc tp) : ∀ (s : Shared) (u v : Value), K.In s.heap → BindsTo s (fdi 1019) ⟨[u], (["units"] : List Str).zip [v]⟩ ((["self", "units"] : List Str).zip [u, v]) := fun s u v hk => by
  obtain ⟨oc, od, dV, kV, doc, pm, an, cdv, ct, osl, e, lk, hcd, hD, hK⟩ := t.x_BadUnits.fn.ex
  rcases hD with ⟨_, rfl⟩ | ⟨z, _⟩
  · rw [e]
    exact .of_eq rfl
  · exact absurd rfl z
theorem kb_BadRow (t : Tp P w K mg base G fd fi fdi tc tp) : ∀ (s : Shared) (u v : Value), K.In s.heap → BindsTo s (fdi 1020) ⟨[u], (["row"] : List Str).zip [v]⟩ ((["self", "row"] : List Str).zip [u, v]) := fun s u v hk => by
  obtain ⟨oc, od, dV, kV, doc, pm, an, cdv, ct, osl, e, lk, hcd, hD, hK⟩ := t.x_BadRow.fn.ex
  rcases hD with ⟨_, rfl⟩ | ⟨z, _⟩
  · rw [e]
    exact .of_eq rfl
  · exact absurd rfl z
theorem kb_BadKeeps (t : Tp P w K mg base G fd fi fdi tc tp) : ∀ (s : Shared) (u v : Value), K.In s.heap → BindsTo s (fdi 1021) ⟨[u], (["keeps"] : List Str).zip [v]⟩ ((["self", "keeps"] : List Str).zip [u, v]) := fun s u v hk => by
  obtain ⟨oc, od, dV, kV, doc, pm, an, cdv, ct, osl, e, lk, hcd, hD, hK⟩ := t.x_BadKeeps.fn.ex
  rcases hD with ⟨_, rfl⟩ | ⟨z, _⟩
  · rw [e]
    exact .of_eq rfl
  · exact absurd rfl z
theorem kb_BadMemory (t : Tp P w K mg base G fd fi fdi tc tp) : ∀ (s : Shared) (u v : Value), K.In s.heap → BindsTo s (fdi 1022) ⟨[u], (["memory"] : List Str).zip [v]⟩ ((["self", "memory"] : List Str).zip [u, v]) := fun s u v hk => by
  obtain ⟨oc, od, dV, kV, doc, pm, an, cdv, ct, osl, e, lk, hcd, hD, hK⟩ := t.x_BadMemory.fn.ex
  rcases hD with ⟨_, rfl⟩ | ⟨z, _⟩
  · rw [e]
    exact .of_eq rfl
  · exact absurd rfl z
theorem kb_BadStand (t : Tp P w K mg base G fd fi fdi tc tp) : ∀ (s : Shared) (u v : Value), K.In s.heap → BindsTo s (fdi 1023) ⟨[u], (["stand"] : List Str).zip [v]⟩ ((["self", "stand"] : List Str).zip [u, v]) := fun s u v hk => by
  obtain ⟨oc, od, dV, kV, doc, pm, an, cdv, ct, osl, e, lk, hcd, hD, hK⟩ := t.x_BadStand.fn.ex
  rcases hD with ⟨_, rfl⟩ | ⟨z, _⟩
  · rw [e]
    exact .of_eq rfl
  · exact absurd rfl z
theorem kb_BadOrder (t : Tp P w K mg base G fd fi fdi tc tp) : ∀ (s : Shared) (u v : Value), K.In s.heap → BindsTo s (fdi 1024) ⟨[u], (["order"] : List Str).zip [v]⟩ ((["self", "order"] : List Str).zip [u, v]) := fun s u v hk => by
  obtain ⟨oc, od, dV, kV, doc, pm, an, cdv, ct, osl, e, lk, hcd, hD, hK⟩ := t.x_BadOrder.fn.ex
  rcases hD with ⟨_, rfl⟩ | ⟨z, _⟩
  · rw [e]
    exact .of_eq rfl
  · exact absurd rfl z
theorem kb_BadCharge (t : Tp P w K mg base G fd fi fdi tc tp) : ∀ (s : Shared) (u v : Value), K.In s.heap → BindsTo s (fdi 1025) ⟨[u], (["charge"] : List Str).zip [v]⟩ ((["self", "charge"] : List Str).zip [u, v]) := fun s u v hk => by
  obtain ⟨oc, od, dV, kV, doc, pm, an, cdv, ct, osl, e, lk, hcd, hD, hK⟩ := t.x_BadCharge.fn.ex
  rcases hD with ⟨_, rfl⟩ | ⟨z, _⟩
  · rw [e]
    exact .of_eq rfl
  · exact absurd rfl z
theorem kb_BadCharges (t : Tp P w K mg base G fd fi fdi tc tp) : ∀ (s : Shared) (u v : Value), K.In s.heap → BindsTo s (fdi 1026) ⟨[u], (["charges"] : List Str).zip [v]⟩ ((["self", "charges"] : List Str).zip [u, v]) := fun s u v hk => by
  obtain ⟨oc, od, dV, kV, doc, pm, an, cdv, ct, osl, e, lk, hcd, hD, hK⟩ := t.x_BadCharges.fn.ex
  rcases hD with ⟨_, rfl⟩ | ⟨z, _⟩
  · rw [e]
    exact .of_eq rfl
  · exact absurd rfl z
theorem kb_BadMany (t : Tp P w K mg base G fd fi fdi tc tp) : ∀ (s : Shared) (u v : Value), K.In s.heap → BindsTo s (fdi 1027) ⟨[u], (["many"] : List Str).zip [v]⟩ ((["self", "many"] : List Str).zip [u, v]) := fun s u v hk => by
  obtain ⟨oc, od, dV, kV, doc, pm, an, cdv, ct, osl, e, lk, hcd, hD, hK⟩ := t.x_BadMany.fn.ex
  rcases hD with ⟨_, rfl⟩ | ⟨z, _⟩
  · rw [e]
    exact .of_eq rfl
  · exact absurd rfl z
theorem kb_BadCells (t : Tp P w K mg base G fd fi fdi tc tp) : ∀ (s : Shared) (u v : Value), K.In s.heap → BindsTo s (fdi 1029) ⟨[u], (["cells"] : List Str).zip [v]⟩ ((["self", "cells"] : List Str).zip [u, v]) := fun s u v hk => by
  obtain ⟨oc, od, dV, kV, doc, pm, an, cdv, ct, osl, e, lk, hcd, hD, hK⟩ := t.x_BadCells.fn.ex
  rcases hD with ⟨_, rfl⟩ | ⟨z, _⟩
  · rw [e]
    exact .of_eq rfl
  · exact absurd rfl z
theorem kb_BadTorns (t : Tp P w K mg base G fd fi fdi tc tp) : ∀ (s : Shared) (u v : Value), K.In s.heap → BindsTo s (fdi 1030) ⟨[u], (["torns"] : List Str).zip [v]⟩ ((["self", "torns"] : List Str).zip [u, v]) := fun s u v hk => by
  obtain ⟨oc, od, dV, kV, doc, pm, an, cdv, ct, osl, e, lk, hcd, hD, hK⟩ := t.x_BadTorns.fn.ex
  rcases hD with ⟨_, rfl⟩ | ⟨z, _⟩
  · rw [e]
    exact .of_eq rfl
  · exact absurd rfl z
theorem kb_BadWay (t : Tp P w K mg base G fd fi fdi tc tp) : ∀ (s : Shared) (u v : Value), K.In s.heap → BindsTo s (fdi 1032) ⟨[u], (["way"] : List Str).zip [v]⟩ ((["self", "way"] : List Str).zip [u, v]) := fun s u v hk => by
  obtain ⟨oc, od, dV, kV, doc, pm, an, cdv, ct, osl, e, lk, hcd, hD, hK⟩ := t.x_BadWay.fn.ex
  rcases hD with ⟨_, rfl⟩ | ⟨z, _⟩
  · rw [e]
    exact .of_eq rfl
  · exact absurd rfl z
theorem kb_BadCount (t : Tp P w K mg base G fd fi fdi tc tp) : ∀ (s : Shared) (u v : Value), K.In s.heap → BindsTo s (fdi 1035) ⟨[u], (["count"] : List Str).zip [v]⟩ ((["self", "count"] : List Str).zip [u, v]) := fun s u v hk => by
  obtain ⟨oc, od, dV, kV, doc, pm, an, cdv, ct, osl, e, lk, hcd, hD, hK⟩ := t.x_BadCount.fn.ex
  rcases hD with ⟨_, rfl⟩ | ⟨z, _⟩
  · rw [e]
    exact .of_eq rfl
  · exact absurd rfl z
theorem kb_BadPlace (t : Tp P w K mg base G fd fi fdi tc tp) : ∀ (s : Shared) (u v : Value), K.In s.heap → BindsTo s (fdi 1036) ⟨[u], (["place"] : List Str).zip [v]⟩ ((["self", "place"] : List Str).zip [u, v]) := fun s u v hk => by
  obtain ⟨oc, od, dV, kV, doc, pm, an, cdv, ct, osl, e, lk, hcd, hD, hK⟩ := t.x_BadPlace.fn.ex
  rcases hD with ⟨_, rfl⟩ | ⟨z, _⟩
  · rw [e]
    exact .of_eq rfl
  · exact absurd rfl z
theorem kb_BadThing (t : Tp P w K mg base G fd fi fdi tc tp) : ∀ (s : Shared) (u v : Value), K.In s.heap → BindsTo s (fdi 1037) ⟨[u], (["thing"] : List Str).zip [v]⟩ ((["self", "thing"] : List Str).zip [u, v]) := fun s u v hk => by
  obtain ⟨oc, od, dV, kV, doc, pm, an, cdv, ct, osl, e, lk, hcd, hD, hK⟩ := t.x_BadThing.fn.ex
  rcases hD with ⟨_, rfl⟩ | ⟨z, _⟩
  · rw [e]
    exact .of_eq rfl
  · exact absurd rfl z
theorem kb_NoName (t : Tp P w K mg base G fd fi fdi tc tp) : ∀ (s : Shared) (u v : Value), K.In s.heap → BindsTo s (fdi 1038) ⟨[u], (["name"] : List Str).zip [v]⟩ ((["self", "name"] : List Str).zip [u, v]) := fun s u v hk => by
  obtain ⟨oc, od, dV, kV, doc, pm, an, cdv, ct, osl, e, lk, hcd, hD, hK⟩ := t.x_NoName.fn.ex
  rcases hD with ⟨_, rfl⟩ | ⟨z, _⟩
  · rw [e]
    exact .of_eq rfl
  · exact absurd rfl z
theorem kb_InRing (t : Tp P w K mg base G fd fi fdi tc tp) : ∀ (s : Shared) (u v : Value), K.In s.heap → BindsTo s (fdi 1039) ⟨[u], (["name"] : List Str).zip [v]⟩ ((["self", "name"] : List Str).zip [u, v]) := fun s u v hk => by
  obtain ⟨oc, od, dV, kV, doc, pm, an, cdv, ct, osl, e, lk, hcd, hD, hK⟩ := t.x_InRing.fn.ex
  rcases hD with ⟨_, rfl⟩ | ⟨z, _⟩
  · rw [e]
    exact .of_eq rfl
  · exact absurd rfl z
theorem kb_InUse (t : Tp P w K mg base G fd fi fdi tc tp) : ∀ (s : Shared) (u v : Value), K.In s.heap → BindsTo s (fdi 1040) ⟨[u], (["user"] : List Str).zip [v]⟩ ((["self", "user"] : List Str).zip [u, v]) := fun s u v hk => by
  obtain ⟨oc, od, dV, kV, doc, pm, an, cdv, ct, osl, e, lk, hcd, hD, hK⟩ := t.x_InUse.fn.ex
  rcases hD with ⟨_, rfl⟩ | ⟨z, _⟩
  · rw [e]
    exact .of_eq rfl
  · exact absurd rfl z
theorem kb_NoThing (t : Tp P w K mg base G fd fi fdi tc tp) : ∀ (s : Shared) (u v : Value), K.In s.heap → BindsTo s (fdi 1041) ⟨[u], (["name"] : List Str).zip [v]⟩ ((["self", "name"] : List Str).zip [u, v]) := fun s u v hk => by
  obtain ⟨oc, od, dV, kV, doc, pm, an, cdv, ct, osl, e, lk, hcd, hD, hK⟩ := t.x_NoThing.fn.ex
  rcases hD with ⟨_, rfl⟩ | ⟨z, _⟩
  · rw [e]
    exact .of_eq rfl
  · exact absurd rfl z
theorem kb_BadVow (t : Tp P w K mg base G fd fi fdi tc tp) : ∀ (s : Shared) (u v : Value), K.In s.heap → BindsTo s (fdi 1042) ⟨[u], (["vow"] : List Str).zip [v]⟩ ((["self", "vow"] : List Str).zip [u, v]) := fun s u v hk => by
  obtain ⟨oc, od, dV, kV, doc, pm, an, cdv, ct, osl, e, lk, hcd, hD, hK⟩ := t.x_BadVow.fn.ex
  rcases hD with ⟨_, rfl⟩ | ⟨z, _⟩
  · rw [e]
    exact .of_eq rfl
  · exact absurd rfl z
theorem kb_Watched (t : Tp P w K mg base G fd fi fdi tc tp) : ∀ (s : Shared) (u v : Value), K.In s.heap → BindsTo s (fdi 1043) ⟨[u], (["vow"] : List Str).zip [v]⟩ ((["self", "vow"] : List Str).zip [u, v]) := fun s u v hk => by
  obtain ⟨oc, od, dV, kV, doc, pm, an, cdv, ct, osl, e, lk, hcd, hD, hK⟩ := t.x_Watched.fn.ex
  rcases hD with ⟨_, rfl⟩ | ⟨z, _⟩
  · rw [e]
    exact .of_eq rfl
  · exact absurd rfl z
theorem kb_NotHeldNow (t : Tp P w K mg base G fd fi fdi tc tp) : ∀ (s : Shared) (u v : Value), K.In s.heap → BindsTo s (fdi 1044) ⟨[u], (["vow"] : List Str).zip [v]⟩ ((["self", "vow"] : List Str).zip [u, v]) := fun s u v hk => by
  obtain ⟨oc, od, dV, kV, doc, pm, an, cdv, ct, osl, e, lk, hcd, hD, hK⟩ := t.x_NotHeldNow.fn.ex
  rcases hD with ⟨_, rfl⟩ | ⟨z, _⟩
  · rw [e]
    exact .of_eq rfl
  · exact absurd rfl z
theorem kb_NotWatched (t : Tp P w K mg base G fd fi fdi tc tp) : ∀ (s : Shared) (u v : Value), K.In s.heap → BindsTo s (fdi 1045) ⟨[u], (["vow"] : List Str).zip [v]⟩ ((["self", "vow"] : List Str).zip [u, v]) := fun s u v hk => by
  obtain ⟨oc, od, dV, kV, doc, pm, an, cdv, ct, osl, e, lk, hcd, hD, hK⟩ := t.x_NotWatched.fn.ex
  rcases hD with ⟨_, rfl⟩ | ⟨z, _⟩
  · rw [e]
    exact .of_eq rfl
  · exact absurd rfl z
theorem kb_Broken (t : Tp P w K mg base G fd fi fdi tc tp) : ∀ (s : Shared) (u v : Value), K.In s.heap → BindsTo s (fdi 1046) ⟨[u], (["vow"] : List Str).zip [v]⟩ ((["self", "vow"] : List Str).zip [u, v]) := fun s u v hk => by
  obtain ⟨oc, od, dV, kV, doc, pm, an, cdv, ct, osl, e, lk, hcd, hD, hK⟩ := t.x_Broken.fn.ex
  rcases hD with ⟨_, rfl⟩ | ⟨z, _⟩
  · rw [e]
    exact .of_eq rfl
  · exact absurd rfl z
theorem sc__law_stream : FnScope ["script"] ["script"] (defScope (top 50)) := ⟨rfl, rfl, rfl, by decide +kernel, rfl, by decide +kernel, by decide +kernel⟩
theorem bd__law_stream (t : Tp P w K mg base G fd fi fdi tc tp) : Binds K (fd 0) ["script"] [] := t.f__law_stream.bindsN fun _ _ _ _ _ _ us hl => match us, hl with | [_], _ => rfl
theorem ok__law_stream (t : Tp P w K mg base G fd fi fdi tc tp) : FnOk P w K mg base (L2.CX P w) 2 (G.fa 0) (fd 0) ["script"] (spS K G 1 Com.m__law_stream) := by
  refine fnDc (k := 1) t.f__law_stream sc__law_stream (bf := Com.b__law_stream) fun cdv hcv A outer s H E hr => ?_
  have tk := takes_fn (P := P) (w := w) (K := K) (mg := mg) (base := base) (N := ["script"]) (qual := "_law_stream") (scope := defScope (top 50)) (f := G.fa 0) (cdv := cdv) (A := A) (outer := outer) (s := s) (H := H) (E := E)
  exact (sim_sone (sim_ret (sim_lstM (sim_cons (sim_callTy call_list_of bList_ok (sim_cons (sim_var (i := 0) rfl (.inl rfl)) sim_nil) PyProof.Rows.Boot.«list» t.b_list) (sim_cons sim_int (sim_cons sim_int (sim_cons sim_int sim_nil)))))))
theorem fn__law_stream (t : Tp P w K mg base G fd fi fdi tc tp) : Fn P w K mg base G 2 (G.fa 0) (fd 0) ["script"] Com.m__law_stream := ⟨ok__law_stream t, t.f__law_stream.kp, bd__law_stream t⟩
theorem sc__law_draw : FnScope ["stream", "many", "cell", "digit", "mixed"] ["stream", "many"] (defScope (top 51)) := ⟨rfl, rfl, rfl, by decide +kernel, rfl, by decide +kernel, by decide +kernel⟩
theorem bd__law_draw (t : Tp P w K mg base G fd fi fdi tc tp) : Binds K (fd 1) ["stream", "many"] [] := t.f__law_draw.bindsN fun _ _ _ _ _ _ us hl => match us, hl with | [_, _], _ => rfl
theorem ok__law_draw (t : Tp P w K mg base G fd fi fdi tc tp) : FnOk P w K mg base (L2.CX P w) 2 (G.fa 1) (fd 1) ["stream", "many"] (spS K G 2 Com.m__law_draw) := by
  refine fnDc (k := 1) t.f__law_draw sc__law_draw (bf := Com.b__law_draw) fun cdv hcv A outer s H E hr => ?_
  have tk := takes_fn (P := P) (w := w) (K := K) (mg := mg) (base := base) (N := ["stream", "many", "cell", "digit", "mixed"]) (qual := "_law_draw") (scope := defScope (top 51)) (f := G.fa 1) (cdv := cdv) (A := A) (outer := outer) (s := s) (H := H) (E := E)
  exact (sim_scons (sim_asg (sim_op op_addV oAdd_ok (sim_ix (units1 hr) (sim_var (i := 0) rfl (.inl rfl)) sim_int) sim_int) (sim_gix (units1 hr) (sim_var (i := 0) rfl (.inl rfl)) sim_int))
  (sim_scons (sim_while fuel passes_fn (sim_tbool (sim_tand (sim_tcmp (op_eqV (units64 hr)) oEq_ok (sim_ix (units1 hr) (sim_var (i := 0) rfl (.inl rfl)) sim_int) sim_int rfl) (sim_tand1 (sim_tcmp (op_neV (units64 hr)) oNe_ok (sim_ix (units1 hr) (sim_var (i := 0) rfl (.inl rfl)) sim_int) (sim_lst sim_nil) rfl)))) (sim_scons (sim_set (i := 2) sc__law_draw.nd rfl (.inl rfl) (sim_callB call_abs bAbs_ok (sim_cons (sim_bm PySem.F.plainAttrs_list PySem.F.slot_list_pop PySem.F.type_list_pop mt_popAt mPopAt_ok chkL_ok (sim_ix (units1 hr) (sim_var (i := 0) rfl (.inl rfl)) sim_int) (sim_cons sim_int sim_nil)) sim_nil) PyProof.Rows.Boot.«abs» t.b_abs))
  (sim_scons (sim_asg (sim_op op_mod oMod_ok (sim_callTy call_intV bInt_ok (sim_cons (sim_op op_addV oAdd_ok (sim_op op_addV oAdd_ok (sim_op op_mulV oMul_ok (sim_ix (units1 hr) (sim_var (i := 0) rfl (.inl rfl)) sim_int) sim_int) (sim_var (i := 2) rfl (.inl rfl))) sim_int) sim_nil) PyProof.Rows.Boot.«int» t.b_int) sim_int) (sim_gix (units1 hr) (sim_var (i := 0) rfl (.inl rfl)) sim_int))
  (sim_sone (sim_asg (sim_if (sim_tcmp op_ge oGe_ok (sim_var (i := 2) rfl (.inl rfl)) (sim_op op_pow oPow_ok sim_int sim_int) rfl) (sim_var (i := 2) rfl (.inl rfl)) sim_int) (sim_gix (units1 hr) (sim_var (i := 0) rfl (.inl rfl)) sim_int))))))
  (sim_scons (sim_sif (sim_tcmp op_gt oGt_ok (sim_ix (units1 hr) (sim_var (i := 0) rfl (.inl rfl)) sim_int) sim_int rfl) (sim_scons (sim_set (i := 3) sc__law_draw.nd rfl (.inl rfl) (sim_op op_mod oMod_ok (sim_callTy call_intV bInt_ok (sim_cons (sim_ix (units1 hr) (sim_var (i := 0) rfl (.inl rfl)) sim_int) sim_nil) PyProof.Rows.Boot.«int» t.b_int) (sim_var (i := 1) rfl (.inl rfl))))
  (sim_scons (sim_asg (sim_op op_fdiv oDiv_ok (sim_ix (units1 hr) (sim_var (i := 0) rfl (.inl rfl)) sim_int) (sim_var (i := 1) rfl (.inl rfl))) (sim_gix (units1 hr) (sim_var (i := 0) rfl (.inl rfl)) sim_int))
  (sim_sone (sim_ret (sim_var (i := 3) rfl (.inl rfl)))))) sim_snil)
  (sim_scons (sim_set (i := 4) sc__law_draw.nd rfl (.inl rfl) (sim_op op_mod oMod_ok (sim_callTy call_intV bInt_ok (sim_cons (sim_op op_pow oPow_ok (sim_op op_addV oAdd_ok (sim_op op_addV oAdd_ok (sim_ix (units1 hr) (sim_var (i := 0) rfl (.inl rfl)) sim_int) (sim_op op_mulV oMul_ok sim_int (sim_ix (units1 hr) (sim_var (i := 0) rfl (.inl rfl)) sim_int))) sim_int) sim_int) sim_nil) PyProof.Rows.Boot.«int» t.b_int) sim_int))
  (sim_sone (sim_ret (sim_op op_mod oMod_ok (sim_op op_mod oMod_ok (sim_callTy call_intV bInt_ok (sim_cons (sim_op op_pow oPow_ok (sim_op op_addV oAdd_ok (sim_op op_addV oAdd_ok (sim_op op_mulV oMul_ok (sim_var (i := 4) rfl (.inl rfl)) sim_int) (sim_op op_mulV oMul_ok sim_int (sim_ix (units1 hr) (sim_var (i := 0) rfl (.inl rfl)) sim_int))) sim_int) sim_int) sim_nil) PyProof.Rows.Boot.«int» t.b_int) sim_int) (sim_var (i := 1) rfl (.inl rfl)))))))))
theorem fn__law_draw (t : Tp P w K mg base G fd fi fdi tc tp) : Fn P w K mg base G 2 (G.fa 1) (fd 1) ["stream", "many"] Com.m__law_draw := ⟨ok__law_draw t, t.f__law_draw.kp, bd__law_draw t⟩
theorem sc__law_pick : FnScope ["stream", "things"] ["stream", "things"] (defScope (top 52)) := ⟨rfl, rfl, rfl, by decide +kernel, rfl, by decide +kernel, by decide +kernel⟩
theorem bd__law_pick (t : Tp P w K mg base G fd fi fdi tc tp) : Binds K (fd 2) ["stream", "things"] [] := t.f__law_pick.bindsN fun _ _ _ _ _ _ us hl => match us, hl with | [_, _], _ => rfl
theorem ok__law_pick (t : Tp P w K mg base G fd fi fdi tc tp) : FnOk P w K mg base (L2.CX P w) 3 (G.fa 2) (fd 2) ["stream", "things"] (spS K G 2 Com.m__law_pick) := by
  refine fnDc (k := 2) t.f__law_pick sc__law_pick (bf := Com.b__law_pick) fun cdv hcv A outer s H E hr => ?_
  have tk := takes_fn (P := P) (w := w) (K := K) (mg := mg) (base := base) (N := ["stream", "things"]) (qual := "_law_pick") (scope := defScope (top 52)) (f := G.fa 2) (cdv := cdv) (A := A) (outer := outer) (s := s) (H := H) (E := E)
  exact (sim_sone (sim_ret (sim_ix (units1 hr) (sim_var (i := 1) rfl (.inl rfl)) (sim_callS (fn__law_draw t) tk (hr.mono (by decide : 2 ≤ 2)) t.g__law_draw (sim_cons (sim_var (i := 0) rfl (.inl rfl)) (sim_cons (sim_callB call_len bLen_ok (sim_cons (sim_var (i := 1) rfl (.inl rfl)) sim_nil) PyProof.Rows.Boot.«len» t.b_len) sim_nil))))))
theorem fn__law_pick (t : Tp P w K mg base G fd fi fdi tc tp) : Fn P w K mg base G 3 (G.fa 2) (fd 2) ["stream", "things"] Com.m__law_pick := ⟨ok__law_pick t, t.f__law_pick.kp, bd__law_pick t⟩
theorem sc__law_same : FnScope ["found", "due", "mine", "theirs"] ["found", "due"] (defScope (top 53)) := ⟨rfl, rfl, rfl, by decide +kernel, rfl, by decide +kernel, by decide +kernel⟩
theorem bd__law_same (t : Tp P w K mg base G fd fi fdi tc tp) : Binds K (fd 3) ["found", "due"] [] := t.f__law_same.bindsN fun _ _ _ _ _ _ us hl => match us, hl with | [_, _], _ => rfl
-- recursive _law_same
theorem fnr__law_same (t : Tp P w K mg base G fd fi fdi tc tp) : ∀ n : Nat, Fn P w K mg base G (2 + n) (G.fa 3) (fd 3) ["found", "due"] (Com.m__law_same n)
  | 0 => ⟨⟨fun vs H Q E ⟨_, _, _, _, _, _, h, _⟩ => h, fun A outer s H args us vs Q E hr e0 hb r ⟨_, _, _, _, _, _, _, h⟩ => h.elim⟩, t.f__law_same.kp, bd__law_same t⟩
  | n + 1 => by
    have ih := fnr__law_same t n
    refine ⟨fnDc (k := 2 + n) t.f__law_same sc__law_same (bf := (sSeq (sIf (tTru (eCall (bIsi kts) (aCons (eVar 1) (aCons (eTup (aCons (eC (.ty "list")) (aCons (eC (.ty "tuple")) aNil))) aNil)))) (sSeq (sIf (tOr (tB (eOp oNe (eCall (bIsi kts) (aCons (eVar 0) (aCons (eC (.ty "list")) aNil))) (eCall (bIsi kts) (aCons (eVar 1) (aCons (eC (.ty "list")) aNil))))) (tB (eOp oNe (eCall (bIsi kts) (aCons (eVar 0) (aCons (eC (.ty "tuple")) aNil))) (eCall (bIsi kts) (aCons (eVar 1) (aCons (eC (.ty "tuple")) aNil)))))) (sRet (eC (.bl false))) sNext)
  (sRet (eAnd (eOp oEq (eCall bLen (aCons (eVar 0) aNil)) (eCall bLen (aCons (eVar 1) aNil))) (eCall bAll (aCons (eLcM (iZip (aCons (eVar 0) (aCons (eVar 1) aNil))) (gTup 2 (gCons (gVar 2) (gCons (gVar 3) gNil))) tYesM (eCall (lenM 2 (peekM (Com.m__law_same n))) (aCons (eVar 2) (aCons (eVar 3) aNil))) [2, 3]) aNil))))) sNext)
  (sSeq (sIf (tTru (eCall (bIsi kts) (aCons (eVar 1) (aCons (eC (.ty "dict")) aNil)))) (sRet (eAnd (eCall (bIsi kts) (aCons (eVar 0) (aCons (eC (.ty "dict")) aNil))) (eCall (lenM 2 (peekM (Com.m__law_same n))) (aCons (eItems (eVar 0)) (aCons (eItems (eVar 1)) aNil))))) sNext)
  (sSeq (sIf (tOr (tTru (eCall (bIsi kts) (aCons (eVar 1) (aCons (eC (.ty "bool")) aNil)))) (tTru (eCall (bIsi kts) (aCons (eVar 0) (aCons (eC (.ty "bool")) aNil))))) (sRet (eAnd (eCall (bIsi kts) (aCons (eVar 1) (aCons (eC (.ty "bool")) aNil))) (eAnd (eCall (bIsi kts) (aCons (eVar 0) (aCons (eC (.ty "bool")) aNil))) (eOp oEq (eVar 0) (eVar 1))))) sNext)
  (sSeq (sIf (tOr (tB (eOp oIs (eVar 1) (eC .non))) (tB (eOp oIs (eVar 0) (eC .non)))) (sRet (eAnd (eOp oIs (eVar 1) (eC .non)) (eOp oIs (eVar 0) (eC .non)))) sNext)
  (sSeq (sIf (tOr (tB (eOp oNe (eCall (bIsi kts) (aCons (eVar 1) (aCons (eC (.ty "int")) aNil))) (eCall (bIsi kts) (aCons (eVar 0) (aCons (eC (.ty "int")) aNil))))) (tB (eOp oNe (eCall (bIsi kts) (aCons (eVar 1) (aCons (eC (.ty "str")) aNil))) (eCall (bIsi kts) (aCons (eVar 0) (aCons (eC (.ty "str")) aNil)))))) (sRet (eC (.bl false))) sNext)
  (sRet (eAnd (eNot (eCall (bIsi kts) (aCons (eVar 0) (aCons (eTup (aCons (eC (.ty "list")) (aCons (eC (.ty "tuple")) (aCons (eC (.ty "dict")) aNil)))) aNil)))) (eOp oEq (eVar 0) (eVar 1)))))))))) fun cdv hcv A outer s H E hr => ?_, t.f__law_same.kp, bd__law_same t⟩
    have tk := takes_fn (P := P) (w := w) (K := K) (mg := mg) (base := base) (N := ["found", "due", "mine", "theirs"]) (qual := "_law_same") (scope := defScope (top 53)) (f := G.fa 3) (cdv := cdv) (A := A) (outer := outer) (s := s) (H := H) (E := E)
    exact (sim_scons (sim_sif (sim_truth (sim_callB call_isiV (bIsi_ok t.kits) (sim_cons (sim_var (i := 1) rfl (.inl rfl)) (sim_cons (sim_tup (sim_cons (sim_bltn (y := .ty "list") (v := .ty "list") rfl t.b_list PyProof.Rows.Boot.«list» rfl (fun _ _ _ => by simp only [Rv])) (sim_cons (sim_bltn (y := .ty "tuple") (v := .ty "tuple") rfl t.b_tuple PyProof.Rows.Boot.«tuple» rfl (fun _ _ _ => by simp only [Rv])) sim_nil))) sim_nil)) PyProof.Rows.Boot.«isinstance» t.b_isinstance)) (sim_scons (sim_sif (sim_tbool (sim_tor (sim_tcmp (op_neV (units64 hr)) oNe_ok (sim_callB call_isiV (bIsi_ok t.kits) (sim_cons (sim_var (i := 0) rfl (.inl rfl)) (sim_cons (sim_bltn (y := .ty "list") (v := .ty "list") rfl t.b_list PyProof.Rows.Boot.«list» rfl (fun _ _ _ => by simp only [Rv])) sim_nil)) PyProof.Rows.Boot.«isinstance» t.b_isinstance) (sim_callB call_isiV (bIsi_ok t.kits) (sim_cons (sim_var (i := 1) rfl (.inl rfl)) (sim_cons (sim_bltn (y := .ty "list") (v := .ty "list") rfl t.b_list PyProof.Rows.Boot.«list» rfl (fun _ _ _ => by simp only [Rv])) sim_nil)) PyProof.Rows.Boot.«isinstance» t.b_isinstance) rfl) (sim_tor1 (sim_tcmp (op_neV (units64 hr)) oNe_ok (sim_callB call_isiV (bIsi_ok t.kits) (sim_cons (sim_var (i := 0) rfl (.inl rfl)) (sim_cons (sim_bltn (y := .ty "tuple") (v := .ty "tuple") rfl t.b_tuple PyProof.Rows.Boot.«tuple» rfl (fun _ _ _ => by simp only [Rv])) sim_nil)) PyProof.Rows.Boot.«isinstance» t.b_isinstance) (sim_callB call_isiV (bIsi_ok t.kits) (sim_cons (sim_var (i := 1) rfl (.inl rfl)) (sim_cons (sim_bltn (y := .ty "tuple") (v := .ty "tuple") rfl t.b_tuple PyProof.Rows.Boot.«tuple» rfl (fun _ _ _ => by simp only [Rv])) sim_nil)) PyProof.Rows.Boot.«isinstance» t.b_isinstance) rfl)))) (sim_sone (sim_ret sim_bl)) sim_snil)
  (sim_sone (sim_ret (sim_and (sim_cmp (op_eqV (units64 hr)) oEq_ok (sim_callB call_len bLen_ok (sim_cons (sim_var (i := 0) rfl (.inl rfl)) sim_nil) PyProof.Rows.Boot.«len» t.b_len) (sim_callB call_len bLen_ok (sim_cons (sim_var (i := 1) rfl (.inl rfl)) sim_nil) PyProof.Rows.Boot.«len» t.b_len) rfl) (sim_one (sim_callB (cr_all rfl) bAll_ok (sim_cons (sim_lc (own := [("mine", 2), ("theirs", 3)]) rfl sc__law_same.nd (sim_izip rfl t.b_zip (sim_cons (sim_var (i := 0) rfl (.inl rfl)) (sim_cons (sim_var (i := 1) rfl (.inl rfl)) sim_nil))) (blkOk_by (N := ["found", "due", "mine", "theirs"]) (sc := (defScope (top 53))) (by decide +kernel)) rfl (fun _ _ _ _ _ => (sp_tup rfl (sp_cons (sp_var (i := 2) sc__law_same.nd rfl (.inl rfl) (by decide)) (sp_cons (sp_var (i := 3) sc__law_same.nd rfl (.inl rfl) (by decide)) sp_nil)))) (fun _ _ _ _ _ tkb => pts_yes) (fun _ _ _ _ _ tkb => (sim_callQ ih tkb (hr.mono (Nat.le_refl _)) t.g__law_same (sim_cons (sim_var (i := 2) rfl (.inl rfl)) (sim_cons (sim_var (i := 3) rfl (.inl rfl)) sim_nil))))) sim_nil) PyProof.Rows.Boot.«all» t.b_all)))))) sim_snil)
  (sim_scons (sim_sif (sim_truth (sim_callB call_isiV (bIsi_ok t.kits) (sim_cons (sim_var (i := 1) rfl (.inl rfl)) (sim_cons (sim_bltn (y := .ty "dict") (v := .ty "dict") rfl t.b_dict PyProof.Rows.Boot.«dict» rfl (fun _ _ _ => by simp only [Rv])) sim_nil)) PyProof.Rows.Boot.«isinstance» t.b_isinstance)) (sim_sone (sim_ret (sim_and (sim_callB call_isiV (bIsi_ok t.kits) (sim_cons (sim_var (i := 0) rfl (.inl rfl)) (sim_cons (sim_bltn (y := .ty "dict") (v := .ty "dict") rfl t.b_dict PyProof.Rows.Boot.«dict» rfl (fun _ _ _ => by simp only [Rv])) sim_nil)) PyProof.Rows.Boot.«isinstance» t.b_isinstance) (sim_one (sim_callQ ih tk (hr.mono (Nat.le_refl _)) t.g__law_same (sim_cons (sim_items rfl (sim_var (i := 0) rfl (.inl rfl)) t.b_list) (sim_cons (sim_items rfl (sim_var (i := 1) rfl (.inl rfl)) t.b_list) sim_nil))))))) sim_snil)
  (sim_scons (sim_sif (sim_tbool (sim_tor (sim_truth (sim_callB call_isiV (bIsi_ok t.kits) (sim_cons (sim_var (i := 1) rfl (.inl rfl)) (sim_cons (sim_bltn (y := .ty "bool") (v := .ty "bool") rfl t.b_bool PyProof.Rows.Boot.«bool» rfl (fun _ _ _ => by simp only [Rv])) sim_nil)) PyProof.Rows.Boot.«isinstance» t.b_isinstance)) (sim_tor1 (sim_truth (sim_callB call_isiV (bIsi_ok t.kits) (sim_cons (sim_var (i := 0) rfl (.inl rfl)) (sim_cons (sim_bltn (y := .ty "bool") (v := .ty "bool") rfl t.b_bool PyProof.Rows.Boot.«bool» rfl (fun _ _ _ => by simp only [Rv])) sim_nil)) PyProof.Rows.Boot.«isinstance» t.b_isinstance))))) (sim_sone (sim_ret (sim_and (sim_callB call_isiV (bIsi_ok t.kits) (sim_cons (sim_var (i := 1) rfl (.inl rfl)) (sim_cons (sim_bltn (y := .ty "bool") (v := .ty "bool") rfl t.b_bool PyProof.Rows.Boot.«bool» rfl (fun _ _ _ => by simp only [Rv])) sim_nil)) PyProof.Rows.Boot.«isinstance» t.b_isinstance) (sim_and (sim_callB call_isiV (bIsi_ok t.kits) (sim_cons (sim_var (i := 0) rfl (.inl rfl)) (sim_cons (sim_bltn (y := .ty "bool") (v := .ty "bool") rfl t.b_bool PyProof.Rows.Boot.«bool» rfl (fun _ _ _ => by simp only [Rv])) sim_nil)) PyProof.Rows.Boot.«isinstance» t.b_isinstance) (sim_one (sim_cmp (op_eqV (units64 hr)) oEq_ok (sim_var (i := 0) rfl (.inl rfl)) (sim_var (i := 1) rfl (.inl rfl)) rfl)))))) sim_snil)
  (sim_scons (sim_sif (sim_tbool (sim_tor (sim_tcmp op_isV oIs_ok (sim_var (i := 1) rfl (.inl rfl)) sim_non rfl) (sim_tor1 (sim_tcmp op_isV oIs_ok (sim_var (i := 0) rfl (.inl rfl)) sim_non rfl)))) (sim_sone (sim_ret (sim_and (sim_cmp op_isV oIs_ok (sim_var (i := 1) rfl (.inl rfl)) sim_non rfl) (sim_one (sim_cmp op_isV oIs_ok (sim_var (i := 0) rfl (.inl rfl)) sim_non rfl))))) sim_snil)
  (sim_scons (sim_sif (sim_tbool (sim_tor (sim_tcmp (op_neV (units64 hr)) oNe_ok (sim_callB call_isiV (bIsi_ok t.kits) (sim_cons (sim_var (i := 1) rfl (.inl rfl)) (sim_cons (sim_bltn (y := .ty "int") (v := .ty "int") rfl t.b_int PyProof.Rows.Boot.«int» rfl (fun _ _ _ => by simp only [Rv])) sim_nil)) PyProof.Rows.Boot.«isinstance» t.b_isinstance) (sim_callB call_isiV (bIsi_ok t.kits) (sim_cons (sim_var (i := 0) rfl (.inl rfl)) (sim_cons (sim_bltn (y := .ty "int") (v := .ty "int") rfl t.b_int PyProof.Rows.Boot.«int» rfl (fun _ _ _ => by simp only [Rv])) sim_nil)) PyProof.Rows.Boot.«isinstance» t.b_isinstance) rfl) (sim_tor1 (sim_tcmp (op_neV (units64 hr)) oNe_ok (sim_callB call_isiV (bIsi_ok t.kits) (sim_cons (sim_var (i := 1) rfl (.inl rfl)) (sim_cons (sim_bltn (y := .ty "str") (v := .ty "str") rfl t.b_str PyProof.Rows.Boot.«str» rfl (fun _ _ _ => by simp only [Rv])) sim_nil)) PyProof.Rows.Boot.«isinstance» t.b_isinstance) (sim_callB call_isiV (bIsi_ok t.kits) (sim_cons (sim_var (i := 0) rfl (.inl rfl)) (sim_cons (sim_bltn (y := .ty "str") (v := .ty "str") rfl t.b_str PyProof.Rows.Boot.«str» rfl (fun _ _ _ => by simp only [Rv])) sim_nil)) PyProof.Rows.Boot.«isinstance» t.b_isinstance) rfl)))) (sim_sone (sim_ret sim_bl)) sim_snil)
  (sim_sone (sim_ret (sim_and (sim_not (sim_callB call_isiV (bIsi_ok t.kits) (sim_cons (sim_var (i := 0) rfl (.inl rfl)) (sim_cons (sim_tup (sim_cons (sim_bltn (y := .ty "list") (v := .ty "list") rfl t.b_list PyProof.Rows.Boot.«list» rfl (fun _ _ _ => by simp only [Rv])) (sim_cons (sim_bltn (y := .ty "tuple") (v := .ty "tuple") rfl t.b_tuple PyProof.Rows.Boot.«tuple» rfl (fun _ _ _ => by simp only [Rv])) (sim_cons (sim_bltn (y := .ty "dict") (v := .ty "dict") rfl t.b_dict PyProof.Rows.Boot.«dict» rfl (fun _ _ _ => by simp only [Rv])) sim_nil)))) sim_nil)) PyProof.Rows.Boot.«isinstance» t.b_isinstance)) (sim_one (sim_cmp (op_eqV (units64 hr)) oEq_ok (sim_var (i := 0) rfl (.inl rfl)) (sim_var (i := 1) rfl (.inl rfl)) rfl))))))))))
theorem fn__law_same (t : Tp P w K mg base G fd fi fdi tc tp) : Fn P w K mg base G 16 (G.fa 3) (fd 3) ["found", "due"] (Com.m__law_same 14) := fnr__law_same t 14
theorem lo_0 (t : Tp P w K mg base G fd fi fdi tc tp) : LamOk P w K mg base G 2 (lamD 0) (runL 1 lb_0) :=
  lam_ok (k := 1) (D := lamD 0) (b := lb_0) (nscope_by (by decide +kernel)) (fun _ _ _ _ us hl => match us, hl with | [_], _ => rfl) fun f cl c A outer s H E hr => (sim_lst (sim_cons (sim_fldE (cs := [1001]) (by intro c hc; simp only [List.mem_cons, List.not_mem_nil, or_false] at hc; rcases hc with rfl; exact ⟨t.x_BadText.xf, t.x_BadText.no⟩) rfl (sim_var (i := 0) rfl (.inl rfl))) sim_nil))
theorem lo_1 (t : Tp P w K mg base G fd fi fdi tc tp) : LamOk P w K mg base G 2 (lamD 1) (runL 1 lb_1) :=
  lam_ok (k := 1) (D := lamD 1) (b := lb_1) (nscope_by (by decide +kernel)) (fun _ _ _ _ us hl => match us, hl with | [_], _ => rfl) fun f cl c A outer s H E hr => (sim_lst (sim_cons (sim_fldE (cs := [1002]) (by intro c hc; simp only [List.mem_cons, List.not_mem_nil, or_false] at hc; rcases hc with rfl; exact ⟨t.x_BadProgram.xf, t.x_BadProgram.no⟩) rfl (sim_var (i := 0) rfl (.inl rfl))) sim_nil))
theorem lo_2 (t : Tp P w K mg base G fd fi fdi tc tp) : LamOk P w K mg base G 2 (lamD 2) (runL 1 lb_2) :=
  lam_ok (k := 1) (D := lamD 2) (b := lb_2) (nscope_by (by decide +kernel)) (fun _ _ _ _ us hl => match us, hl with | [_], _ => rfl) fun f cl c A outer s H E hr => (sim_lst (sim_cons (sim_fldE (cs := [1003]) (by intro c hc; simp only [List.mem_cons, List.not_mem_nil, or_false] at hc; rcases hc with rfl; exact ⟨t.x_BadTexts.xf, t.x_BadTexts.no⟩) rfl (sim_var (i := 0) rfl (.inl rfl))) sim_nil))
theorem lo_3 (t : Tp P w K mg base G fd fi fdi tc tp) : LamOk P w K mg base G 2 (lamD 3) (runL 1 lb_3) :=
  lam_ok (k := 1) (D := lamD 3) (b := lb_3) (nscope_by (by decide +kernel)) (fun _ _ _ _ us hl => match us, hl with | [_], _ => rfl) fun f cl c A outer s H E hr => (sim_lst (sim_cons (sim_fldE (cs := [1004]) (by intro c hc; simp only [List.mem_cons, List.not_mem_nil, or_false] at hc; rcases hc with rfl; exact ⟨t.x_BadIndex.xf, t.x_BadIndex.no⟩) rfl (sim_var (i := 0) rfl (.inl rfl))) sim_nil))
theorem lo_4 (t : Tp P w K mg base G fd fi fdi tc tp) : LamOk P w K mg base G 2 (lamD 4) (runL 1 lb_4) :=
  lam_ok (k := 1) (D := lamD 4) (b := lb_4) (nscope_by (by decide +kernel)) (fun _ _ _ _ us hl => match us, hl with | [_], _ => rfl) fun f cl c A outer s H E hr => (sim_lst sim_nil)
theorem lo_5 (t : Tp P w K mg base G fd fi fdi tc tp) : LamOk P w K mg base G 2 (lamD 5) (runL 1 lb_5) :=
  lam_ok (k := 1) (D := lamD 5) (b := lb_5) (nscope_by (by decide +kernel)) (fun _ _ _ _ us hl => match us, hl with | [_], _ => rfl) fun f cl c A outer s H E hr => (sim_lst (sim_cons (sim_fldE (cs := [1006, 1038, 1039, 1041]) (by intro c hc; simp only [List.mem_cons, List.not_mem_nil, or_false] at hc; rcases hc with rfl | rfl | rfl | rfl <;> first | exact ⟨t.x_BadName.xf, t.x_BadName.no⟩ | exact ⟨t.x_NoName.xf, t.x_NoName.no⟩ | exact ⟨t.x_InRing.xf, t.x_InRing.no⟩ | exact ⟨t.x_NoThing.xf, t.x_NoThing.no⟩) rfl (sim_var (i := 0) rfl (.inl rfl))) sim_nil))
theorem lo_6 (t : Tp P w K mg base G fd fi fdi tc tp) : LamOk P w K mg base G 2 (lamD 6) (runL 1 lb_6) :=
  lam_ok (k := 1) (D := lamD 6) (b := lb_6) (nscope_by (by decide +kernel)) (fun _ _ _ _ us hl => match us, hl with | [_], _ => rfl) fun f cl c A outer s H E hr => (sim_lst (sim_cons (sim_fldE (cs := [1007]) (by intro c hc; simp only [List.mem_cons, List.not_mem_nil, or_false] at hc; rcases hc with rfl; exact ⟨t.x_BadAnswers.xf, t.x_BadAnswers.no⟩) rfl (sim_var (i := 0) rfl (.inl rfl))) sim_nil))
theorem lo_7 (t : Tp P w K mg base G fd fi fdi tc tp) : LamOk P w K mg base G 2 (lamD 7) (runL 1 lb_7) :=
  lam_ok (k := 1) (D := lamD 7) (b := lb_7) (nscope_by (by decide +kernel)) (fun _ _ _ _ us hl => match us, hl with | [_], _ => rfl) fun f cl c A outer s H E hr => (sim_lst (sim_cons (sim_fldE (cs := [1008]) (by intro c hc; simp only [List.mem_cons, List.not_mem_nil, or_false] at hc; rcases hc with rfl; exact ⟨t.x_BadMost.xf, t.x_BadMost.no⟩) rfl (sim_var (i := 0) rfl (.inl rfl))) sim_nil))
theorem lo_8 (t : Tp P w K mg base G fd fi fdi tc tp) : LamOk P w K mg base G 2 (lamD 8) (runL 1 lb_8) :=
  lam_ok (k := 1) (D := lamD 8) (b := lb_8) (nscope_by (by decide +kernel)) (fun _ _ _ _ us hl => match us, hl with | [_], _ => rfl) fun f cl c A outer s H E hr => (sim_lst (sim_cons (sim_fldE (cs := [1009]) (by intro c hc; simp only [List.mem_cons, List.not_mem_nil, or_false] at hc; rcases hc with rfl; exact ⟨t.x_BadModule.xf, t.x_BadModule.no⟩) rfl (sim_var (i := 0) rfl (.inl rfl))) sim_nil))
theorem lo_9 (t : Tp P w K mg base G fd fi fdi tc tp) : LamOk P w K mg base G 2 (lamD 9) (runL 1 lb_9) :=
  lam_ok (k := 1) (D := lamD 9) (b := lb_9) (nscope_by (by decide +kernel)) (fun _ _ _ _ us hl => match us, hl with | [_], _ => rfl) fun f cl c A outer s H E hr => (sim_lst (sim_cons (sim_fldE (cs := [1010]) (by intro c hc; simp only [List.mem_cons, List.not_mem_nil, or_false] at hc; rcases hc with rfl; exact ⟨t.x_BadObject.xf, t.x_BadObject.no⟩) rfl (sim_var (i := 0) rfl (.inl rfl))) sim_nil))
theorem lo_10 (t : Tp P w K mg base G fd fi fdi tc tp) : LamOk P w K mg base G 2 (lamD 10) (runL 1 lb_10) :=
  lam_ok (k := 1) (D := lamD 10) (b := lb_10) (nscope_by (by decide +kernel)) (fun _ _ _ _ us hl => match us, hl with | [_], _ => rfl) fun f cl c A outer s H E hr => (sim_lst (sim_cons (sim_fldE (cs := [1011]) (by intro c hc; simp only [List.mem_cons, List.not_mem_nil, or_false] at hc; rcases hc with rfl; exact ⟨t.x_BadObjects.xf, t.x_BadObjects.no⟩) rfl (sim_var (i := 0) rfl (.inl rfl))) sim_nil))
theorem lo_11 (t : Tp P w K mg base G fd fi fdi tc tp) : LamOk P w K mg base G 2 (lamD 11) (runL 1 lb_11) :=
  lam_ok (k := 1) (D := lamD 11) (b := lb_11) (nscope_by (by decide +kernel)) (fun _ _ _ _ us hl => match us, hl with | [_], _ => rfl) fun f cl c A outer s H E hr => (sim_lst sim_nil)
theorem lo_12 (t : Tp P w K mg base G fd fi fdi tc tp) : LamOk P w K mg base G 2 (lamD 12) (runL 1 lb_12) :=
  lam_ok (k := 1) (D := lamD 12) (b := lb_12) (nscope_by (by decide +kernel)) (fun _ _ _ _ us hl => match us, hl with | [_], _ => rfl) fun f cl c A outer s H E hr => (sim_lst (sim_cons (sim_fldE (cs := [1013, 1037]) (by intro c hc; simp only [List.mem_cons, List.not_mem_nil, or_false] at hc; rcases hc with rfl | rfl <;> first | exact ⟨t.x_BadForm.xf, t.x_BadForm.no⟩ | exact ⟨t.x_BadThing.xf, t.x_BadThing.no⟩) rfl (sim_var (i := 0) rfl (.inl rfl))) sim_nil))
theorem lo_13 (t : Tp P w K mg base G fd fi fdi tc tp) : LamOk P w K mg base G 2 (lamD 13) (runL 1 lb_13) :=
  lam_ok (k := 1) (D := lamD 13) (b := lb_13) (nscope_by (by decide +kernel)) (fun _ _ _ _ us hl => match us, hl with | [_], _ => rfl) fun f cl c A outer s H E hr => (sim_lst (sim_cons (sim_fldE (cs := [1014]) (by intro c hc; simp only [List.mem_cons, List.not_mem_nil, or_false] at hc; rcases hc with rfl; exact ⟨t.x_BadLinked.xf, t.x_BadLinked.no⟩) rfl (sim_var (i := 0) rfl (.inl rfl))) sim_nil))
theorem lo_14 (t : Tp P w K mg base G fd fi fdi tc tp) : LamOk P w K mg base G 2 (lamD 14) (runL 1 lb_14) :=
  lam_ok (k := 1) (D := lamD 14) (b := lb_14) (nscope_by (by decide +kernel)) (fun _ _ _ _ us hl => match us, hl with | [_], _ => rfl) fun f cl c A outer s H E hr => (sim_lst (sim_cons (sim_fldE (cs := [1015]) (by intro c hc; simp only [List.mem_cons, List.not_mem_nil, or_false] at hc; rcases hc with rfl; exact ⟨t.x_BadState.xf, t.x_BadState.no⟩) rfl (sim_var (i := 0) rfl (.inl rfl))) sim_nil))
theorem lo_15 (t : Tp P w K mg base G fd fi fdi tc tp) : LamOk P w K mg base G 2 (lamD 15) (runL 1 lb_15) :=
  lam_ok (k := 1) (D := lamD 15) (b := lb_15) (nscope_by (by decide +kernel)) (fun _ _ _ _ us hl => match us, hl with | [_], _ => rfl) fun f cl c A outer s H E hr => (sim_lst (sim_cons (sim_fldE (cs := [1016]) (by intro c hc; simp only [List.mem_cons, List.not_mem_nil, or_false] at hc; rcases hc with rfl; exact ⟨t.x_BadPlan.xf, t.x_BadPlan.no⟩) rfl (sim_var (i := 0) rfl (.inl rfl))) sim_nil))
theorem lo_16 (t : Tp P w K mg base G fd fi fdi tc tp) : LamOk P w K mg base G 2 (lamD 16) (runL 1 lb_16) :=
  lam_ok (k := 1) (D := lamD 16) (b := lb_16) (nscope_by (by decide +kernel)) (fun _ _ _ _ us hl => match us, hl with | [_], _ => rfl) fun f cl c A outer s H E hr => (sim_lst (sim_cons (sim_fldE (cs := [1017]) (by intro c hc; simp only [List.mem_cons, List.not_mem_nil, or_false] at hc; rcases hc with rfl; exact ⟨t.x_BadStretch.xf, t.x_BadStretch.no⟩) rfl (sim_var (i := 0) rfl (.inl rfl))) sim_nil))
theorem lo_17 (t : Tp P w K mg base G fd fi fdi tc tp) : LamOk P w K mg base G 2 (lamD 17) (runL 1 lb_17) :=
  lam_ok (k := 1) (D := lamD 17) (b := lb_17) (nscope_by (by decide +kernel)) (fun _ _ _ _ us hl => match us, hl with | [_], _ => rfl) fun f cl c A outer s H E hr => (sim_lst (sim_cons (sim_fldE (cs := [1018]) (by intro c hc; simp only [List.mem_cons, List.not_mem_nil, or_false] at hc; rcases hc with rfl; exact ⟨t.x_BadBegin.xf, t.x_BadBegin.no⟩) rfl (sim_var (i := 0) rfl (.inl rfl))) sim_nil))
theorem lo_18 (t : Tp P w K mg base G fd fi fdi tc tp) : LamOk P w K mg base G 2 (lamD 18) (runL 1 lb_18) :=
  lam_ok (k := 1) (D := lamD 18) (b := lb_18) (nscope_by (by decide +kernel)) (fun _ _ _ _ us hl => match us, hl with | [_], _ => rfl) fun f cl c A outer s H E hr => (sim_lst (sim_cons (sim_fldE (cs := [1019]) (by intro c hc; simp only [List.mem_cons, List.not_mem_nil, or_false] at hc; rcases hc with rfl; exact ⟨t.x_BadUnits.xf, t.x_BadUnits.no⟩) rfl (sim_var (i := 0) rfl (.inl rfl))) sim_nil))
theorem lo_19 (t : Tp P w K mg base G fd fi fdi tc tp) : LamOk P w K mg base G 2 (lamD 19) (runL 1 lb_19) :=
  lam_ok (k := 1) (D := lamD 19) (b := lb_19) (nscope_by (by decide +kernel)) (fun _ _ _ _ us hl => match us, hl with | [_], _ => rfl) fun f cl c A outer s H E hr => (sim_lst (sim_cons (sim_fldE (cs := [1020]) (by intro c hc; simp only [List.mem_cons, List.not_mem_nil, or_false] at hc; rcases hc with rfl; exact ⟨t.x_BadRow.xf, t.x_BadRow.no⟩) rfl (sim_var (i := 0) rfl (.inl rfl))) sim_nil))
theorem lo_20 (t : Tp P w K mg base G fd fi fdi tc tp) : LamOk P w K mg base G 2 (lamD 20) (runL 1 lb_20) :=
  lam_ok (k := 1) (D := lamD 20) (b := lb_20) (nscope_by (by decide +kernel)) (fun _ _ _ _ us hl => match us, hl with | [_], _ => rfl) fun f cl c A outer s H E hr => (sim_lst (sim_cons (sim_fldE (cs := [1021]) (by intro c hc; simp only [List.mem_cons, List.not_mem_nil, or_false] at hc; rcases hc with rfl; exact ⟨t.x_BadKeeps.xf, t.x_BadKeeps.no⟩) rfl (sim_var (i := 0) rfl (.inl rfl))) sim_nil))
theorem lo_21 (t : Tp P w K mg base G fd fi fdi tc tp) : LamOk P w K mg base G 2 (lamD 21) (runL 1 lb_21) :=
  lam_ok (k := 1) (D := lamD 21) (b := lb_21) (nscope_by (by decide +kernel)) (fun _ _ _ _ us hl => match us, hl with | [_], _ => rfl) fun f cl c A outer s H E hr => (sim_lst (sim_cons (sim_fldE (cs := [1022]) (by intro c hc; simp only [List.mem_cons, List.not_mem_nil, or_false] at hc; rcases hc with rfl; exact ⟨t.x_BadMemory.xf, t.x_BadMemory.no⟩) rfl (sim_var (i := 0) rfl (.inl rfl))) sim_nil))
theorem lo_22 (t : Tp P w K mg base G fd fi fdi tc tp) : LamOk P w K mg base G 2 (lamD 22) (runL 1 lb_22) :=
  lam_ok (k := 1) (D := lamD 22) (b := lb_22) (nscope_by (by decide +kernel)) (fun _ _ _ _ us hl => match us, hl with | [_], _ => rfl) fun f cl c A outer s H E hr => (sim_lst (sim_cons (sim_fldE (cs := [1023]) (by intro c hc; simp only [List.mem_cons, List.not_mem_nil, or_false] at hc; rcases hc with rfl; exact ⟨t.x_BadStand.xf, t.x_BadStand.no⟩) rfl (sim_var (i := 0) rfl (.inl rfl))) sim_nil))
theorem lo_23 (t : Tp P w K mg base G fd fi fdi tc tp) : LamOk P w K mg base G 2 (lamD 23) (runL 1 lb_23) :=
  lam_ok (k := 1) (D := lamD 23) (b := lb_23) (nscope_by (by decide +kernel)) (fun _ _ _ _ us hl => match us, hl with | [_], _ => rfl) fun f cl c A outer s H E hr => (sim_lst (sim_cons (sim_fldE (cs := [1024]) (by intro c hc; simp only [List.mem_cons, List.not_mem_nil, or_false] at hc; rcases hc with rfl; exact ⟨t.x_BadOrder.xf, t.x_BadOrder.no⟩) rfl (sim_var (i := 0) rfl (.inl rfl))) sim_nil))
theorem lo_24 (t : Tp P w K mg base G fd fi fdi tc tp) : LamOk P w K mg base G 2 (lamD 24) (runL 1 lb_24) :=
  lam_ok (k := 1) (D := lamD 24) (b := lb_24) (nscope_by (by decide +kernel)) (fun _ _ _ _ us hl => match us, hl with | [_], _ => rfl) fun f cl c A outer s H E hr => (sim_lst (sim_cons (sim_fldE (cs := [1025]) (by intro c hc; simp only [List.mem_cons, List.not_mem_nil, or_false] at hc; rcases hc with rfl; exact ⟨t.x_BadCharge.xf, t.x_BadCharge.no⟩) rfl (sim_var (i := 0) rfl (.inl rfl))) sim_nil))
theorem lo_25 (t : Tp P w K mg base G fd fi fdi tc tp) : LamOk P w K mg base G 2 (lamD 25) (runL 1 lb_25) :=
  lam_ok (k := 1) (D := lamD 25) (b := lb_25) (nscope_by (by decide +kernel)) (fun _ _ _ _ us hl => match us, hl with | [_], _ => rfl) fun f cl c A outer s H E hr => (sim_lst (sim_cons (sim_fldE (cs := [1026]) (by intro c hc; simp only [List.mem_cons, List.not_mem_nil, or_false] at hc; rcases hc with rfl; exact ⟨t.x_BadCharges.xf, t.x_BadCharges.no⟩) rfl (sim_var (i := 0) rfl (.inl rfl))) sim_nil))
theorem lo_26 (t : Tp P w K mg base G fd fi fdi tc tp) : LamOk P w K mg base G 2 (lamD 26) (runL 1 lb_26) :=
  lam_ok (k := 1) (D := lamD 26) (b := lb_26) (nscope_by (by decide +kernel)) (fun _ _ _ _ us hl => match us, hl with | [_], _ => rfl) fun f cl c A outer s H E hr => (sim_lst (sim_cons (sim_fldE (cs := [1027]) (by intro c hc; simp only [List.mem_cons, List.not_mem_nil, or_false] at hc; rcases hc with rfl; exact ⟨t.x_BadMany.xf, t.x_BadMany.no⟩) rfl (sim_var (i := 0) rfl (.inl rfl))) sim_nil))
theorem lo_27 (t : Tp P w K mg base G fd fi fdi tc tp) : LamOk P w K mg base G 2 (lamD 27) (runL 1 lb_27) :=
  lam_ok (k := 1) (D := lamD 27) (b := lb_27) (nscope_by (by decide +kernel)) (fun _ _ _ _ us hl => match us, hl with | [_], _ => rfl) fun f cl c A outer s H E hr => (sim_lst sim_nil)
theorem lo_28 (t : Tp P w K mg base G fd fi fdi tc tp) : LamOk P w K mg base G 2 (lamD 28) (runL 1 lb_28) :=
  lam_ok (k := 1) (D := lamD 28) (b := lb_28) (nscope_by (by decide +kernel)) (fun _ _ _ _ us hl => match us, hl with | [_], _ => rfl) fun f cl c A outer s H E hr => (sim_lst (sim_cons (sim_fldE (cs := [1029]) (by intro c hc; simp only [List.mem_cons, List.not_mem_nil, or_false] at hc; rcases hc with rfl; exact ⟨t.x_BadCells.xf, t.x_BadCells.no⟩) rfl (sim_var (i := 0) rfl (.inl rfl))) sim_nil))
theorem lo_29 (t : Tp P w K mg base G fd fi fdi tc tp) : LamOk P w K mg base G 2 (lamD 29) (runL 1 lb_29) :=
  lam_ok (k := 1) (D := lamD 29) (b := lb_29) (nscope_by (by decide +kernel)) (fun _ _ _ _ us hl => match us, hl with | [_], _ => rfl) fun f cl c A outer s H E hr => (sim_lst (sim_cons (sim_fldE (cs := [1030]) (by intro c hc; simp only [List.mem_cons, List.not_mem_nil, or_false] at hc; rcases hc with rfl; exact ⟨t.x_BadTorns.xf, t.x_BadTorns.no⟩) rfl (sim_var (i := 0) rfl (.inl rfl))) sim_nil))
theorem lo_30 (t : Tp P w K mg base G fd fi fdi tc tp) : LamOk P w K mg base G 2 (lamD 30) (runL 1 lb_30) :=
  lam_ok (k := 1) (D := lamD 30) (b := lb_30) (nscope_by (by decide +kernel)) (fun _ _ _ _ us hl => match us, hl with | [_], _ => rfl) fun f cl c A outer s H E hr => (sim_lst sim_nil)
theorem lo_31 (t : Tp P w K mg base G fd fi fdi tc tp) : LamOk P w K mg base G 2 (lamD 31) (runL 1 lb_31) :=
  lam_ok (k := 1) (D := lamD 31) (b := lb_31) (nscope_by (by decide +kernel)) (fun _ _ _ _ us hl => match us, hl with | [_], _ => rfl) fun f cl c A outer s H E hr => (sim_lst (sim_cons (sim_fldE (cs := [1032]) (by intro c hc; simp only [List.mem_cons, List.not_mem_nil, or_false] at hc; rcases hc with rfl; exact ⟨t.x_BadWay.xf, t.x_BadWay.no⟩) rfl (sim_var (i := 0) rfl (.inl rfl))) sim_nil))
theorem lo_32 (t : Tp P w K mg base G fd fi fdi tc tp) : LamOk P w K mg base G 2 (lamD 32) (runL 1 lb_32) :=
  lam_ok (k := 1) (D := lamD 32) (b := lb_32) (nscope_by (by decide +kernel)) (fun _ _ _ _ us hl => match us, hl with | [_], _ => rfl) fun f cl c A outer s H E hr => (sim_lst sim_nil)
theorem lo_33 (t : Tp P w K mg base G fd fi fdi tc tp) : LamOk P w K mg base G 2 (lamD 33) (runL 1 lb_33) :=
  lam_ok (k := 1) (D := lamD 33) (b := lb_33) (nscope_by (by decide +kernel)) (fun _ _ _ _ us hl => match us, hl with | [_], _ => rfl) fun f cl c A outer s H E hr => (sim_lst sim_nil)
theorem lo_34 (t : Tp P w K mg base G fd fi fdi tc tp) : LamOk P w K mg base G 2 (lamD 34) (runL 1 lb_34) :=
  lam_ok (k := 1) (D := lamD 34) (b := lb_34) (nscope_by (by decide +kernel)) (fun _ _ _ _ us hl => match us, hl with | [_], _ => rfl) fun f cl c A outer s H E hr => (sim_lst (sim_cons (sim_fldE (cs := [1035]) (by intro c hc; simp only [List.mem_cons, List.not_mem_nil, or_false] at hc; rcases hc with rfl; exact ⟨t.x_BadCount.xf, t.x_BadCount.no⟩) rfl (sim_var (i := 0) rfl (.inl rfl))) sim_nil))
theorem lo_35 (t : Tp P w K mg base G fd fi fdi tc tp) : LamOk P w K mg base G 2 (lamD 35) (runL 1 lb_35) :=
  lam_ok (k := 1) (D := lamD 35) (b := lb_35) (nscope_by (by decide +kernel)) (fun _ _ _ _ us hl => match us, hl with | [_], _ => rfl) fun f cl c A outer s H E hr => (sim_lst (sim_cons (sim_fldE (cs := [1036]) (by intro c hc; simp only [List.mem_cons, List.not_mem_nil, or_false] at hc; rcases hc with rfl; exact ⟨t.x_BadPlace.xf, t.x_BadPlace.no⟩) rfl (sim_var (i := 0) rfl (.inl rfl))) sim_nil))
theorem lo_36 (t : Tp P w K mg base G fd fi fdi tc tp) : LamOk P w K mg base G 2 (lamD 36) (runL 1 lb_36) :=
  lam_ok (k := 1) (D := lamD 36) (b := lb_36) (nscope_by (by decide +kernel)) (fun _ _ _ _ us hl => match us, hl with | [_], _ => rfl) fun f cl c A outer s H E hr => (sim_lst (sim_cons (sim_fldE (cs := [1013, 1037]) (by intro c hc; simp only [List.mem_cons, List.not_mem_nil, or_false] at hc; rcases hc with rfl | rfl <;> first | exact ⟨t.x_BadForm.xf, t.x_BadForm.no⟩ | exact ⟨t.x_BadThing.xf, t.x_BadThing.no⟩) rfl (sim_var (i := 0) rfl (.inl rfl))) sim_nil))
theorem lo_37 (t : Tp P w K mg base G fd fi fdi tc tp) : LamOk P w K mg base G 2 (lamD 37) (runL 1 lb_37) :=
  lam_ok (k := 1) (D := lamD 37) (b := lb_37) (nscope_by (by decide +kernel)) (fun _ _ _ _ us hl => match us, hl with | [_], _ => rfl) fun f cl c A outer s H E hr => (sim_lst (sim_cons (sim_fldE (cs := [1006, 1038, 1039, 1041]) (by intro c hc; simp only [List.mem_cons, List.not_mem_nil, or_false] at hc; rcases hc with rfl | rfl | rfl | rfl <;> first | exact ⟨t.x_BadName.xf, t.x_BadName.no⟩ | exact ⟨t.x_NoName.xf, t.x_NoName.no⟩ | exact ⟨t.x_InRing.xf, t.x_InRing.no⟩ | exact ⟨t.x_NoThing.xf, t.x_NoThing.no⟩) rfl (sim_var (i := 0) rfl (.inl rfl))) sim_nil))
theorem lo_38 (t : Tp P w K mg base G fd fi fdi tc tp) : LamOk P w K mg base G 2 (lamD 38) (runL 1 lb_38) :=
  lam_ok (k := 1) (D := lamD 38) (b := lb_38) (nscope_by (by decide +kernel)) (fun _ _ _ _ us hl => match us, hl with | [_], _ => rfl) fun f cl c A outer s H E hr => (sim_lst (sim_cons (sim_fldE (cs := [1006, 1038, 1039, 1041]) (by intro c hc; simp only [List.mem_cons, List.not_mem_nil, or_false] at hc; rcases hc with rfl | rfl | rfl | rfl <;> first | exact ⟨t.x_BadName.xf, t.x_BadName.no⟩ | exact ⟨t.x_NoName.xf, t.x_NoName.no⟩ | exact ⟨t.x_InRing.xf, t.x_InRing.no⟩ | exact ⟨t.x_NoThing.xf, t.x_NoThing.no⟩) rfl (sim_var (i := 0) rfl (.inl rfl))) sim_nil))
theorem lo_39 (t : Tp P w K mg base G fd fi fdi tc tp) : LamOk P w K mg base G 2 (lamD 39) (runL 1 lb_39) :=
  lam_ok (k := 1) (D := lamD 39) (b := lb_39) (nscope_by (by decide +kernel)) (fun _ _ _ _ us hl => match us, hl with | [_], _ => rfl) fun f cl c A outer s H E hr => (sim_lst (sim_cons (sim_fldE (cs := [1040]) (by intro c hc; simp only [List.mem_cons, List.not_mem_nil, or_false] at hc; rcases hc with rfl; exact ⟨t.x_InUse.xf, t.x_InUse.no⟩) rfl (sim_var (i := 0) rfl (.inl rfl))) sim_nil))
theorem lo_40 (t : Tp P w K mg base G fd fi fdi tc tp) : LamOk P w K mg base G 2 (lamD 40) (runL 1 lb_40) :=
  lam_ok (k := 1) (D := lamD 40) (b := lb_40) (nscope_by (by decide +kernel)) (fun _ _ _ _ us hl => match us, hl with | [_], _ => rfl) fun f cl c A outer s H E hr => (sim_lst (sim_cons (sim_fldE (cs := [1006, 1038, 1039, 1041]) (by intro c hc; simp only [List.mem_cons, List.not_mem_nil, or_false] at hc; rcases hc with rfl | rfl | rfl | rfl <;> first | exact ⟨t.x_BadName.xf, t.x_BadName.no⟩ | exact ⟨t.x_NoName.xf, t.x_NoName.no⟩ | exact ⟨t.x_InRing.xf, t.x_InRing.no⟩ | exact ⟨t.x_NoThing.xf, t.x_NoThing.no⟩) rfl (sim_var (i := 0) rfl (.inl rfl))) sim_nil))
theorem lo_41 (t : Tp P w K mg base G fd fi fdi tc tp) : LamOk P w K mg base G 2 (lamD 41) (runL 1 lb_41) :=
  lam_ok (k := 1) (D := lamD 41) (b := lb_41) (nscope_by (by decide +kernel)) (fun _ _ _ _ us hl => match us, hl with | [_], _ => rfl) fun f cl c A outer s H E hr => (sim_lst (sim_cons (sim_fldE (cs := [1042, 1043, 1044, 1045, 1046]) (by intro c hc; simp only [List.mem_cons, List.not_mem_nil, or_false] at hc; rcases hc with rfl | rfl | rfl | rfl | rfl <;> first | exact ⟨t.x_BadVow.xf, t.x_BadVow.no⟩ | exact ⟨t.x_Watched.xf, t.x_Watched.no⟩ | exact ⟨t.x_NotHeldNow.xf, t.x_NotHeldNow.no⟩ | exact ⟨t.x_NotWatched.xf, t.x_NotWatched.no⟩ | exact ⟨t.x_Broken.xf, t.x_Broken.no⟩) rfl (sim_var (i := 0) rfl (.inl rfl))) sim_nil))
theorem lo_42 (t : Tp P w K mg base G fd fi fdi tc tp) : LamOk P w K mg base G 2 (lamD 42) (runL 1 lb_42) :=
  lam_ok (k := 1) (D := lamD 42) (b := lb_42) (nscope_by (by decide +kernel)) (fun _ _ _ _ us hl => match us, hl with | [_], _ => rfl) fun f cl c A outer s H E hr => (sim_lst (sim_cons (sim_fldE (cs := [1042, 1043, 1044, 1045, 1046]) (by intro c hc; simp only [List.mem_cons, List.not_mem_nil, or_false] at hc; rcases hc with rfl | rfl | rfl | rfl | rfl <;> first | exact ⟨t.x_BadVow.xf, t.x_BadVow.no⟩ | exact ⟨t.x_Watched.xf, t.x_Watched.no⟩ | exact ⟨t.x_NotHeldNow.xf, t.x_NotHeldNow.no⟩ | exact ⟨t.x_NotWatched.xf, t.x_NotWatched.no⟩ | exact ⟨t.x_Broken.xf, t.x_Broken.no⟩) rfl (sim_var (i := 0) rfl (.inl rfl))) sim_nil))
theorem lo_43 (t : Tp P w K mg base G fd fi fdi tc tp) : LamOk P w K mg base G 2 (lamD 43) (runL 1 lb_43) :=
  lam_ok (k := 1) (D := lamD 43) (b := lb_43) (nscope_by (by decide +kernel)) (fun _ _ _ _ us hl => match us, hl with | [_], _ => rfl) fun f cl c A outer s H E hr => (sim_lst (sim_cons (sim_fldE (cs := [1042, 1043, 1044, 1045, 1046]) (by intro c hc; simp only [List.mem_cons, List.not_mem_nil, or_false] at hc; rcases hc with rfl | rfl | rfl | rfl | rfl <;> first | exact ⟨t.x_BadVow.xf, t.x_BadVow.no⟩ | exact ⟨t.x_Watched.xf, t.x_Watched.no⟩ | exact ⟨t.x_NotHeldNow.xf, t.x_NotHeldNow.no⟩ | exact ⟨t.x_NotWatched.xf, t.x_NotWatched.no⟩ | exact ⟨t.x_Broken.xf, t.x_Broken.no⟩) rfl (sim_var (i := 0) rfl (.inl rfl))) sim_nil))
theorem lo_44 (t : Tp P w K mg base G fd fi fdi tc tp) : LamOk P w K mg base G 2 (lamD 44) (runL 1 lb_44) :=
  lam_ok (k := 1) (D := lamD 44) (b := lb_44) (nscope_by (by decide +kernel)) (fun _ _ _ _ us hl => match us, hl with | [_], _ => rfl) fun f cl c A outer s H E hr => (sim_lst (sim_cons (sim_fldE (cs := [1042, 1043, 1044, 1045, 1046]) (by intro c hc; simp only [List.mem_cons, List.not_mem_nil, or_false] at hc; rcases hc with rfl | rfl | rfl | rfl | rfl <;> first | exact ⟨t.x_BadVow.xf, t.x_BadVow.no⟩ | exact ⟨t.x_Watched.xf, t.x_Watched.no⟩ | exact ⟨t.x_NotHeldNow.xf, t.x_NotHeldNow.no⟩ | exact ⟨t.x_NotWatched.xf, t.x_NotWatched.no⟩ | exact ⟨t.x_Broken.xf, t.x_Broken.no⟩) rfl (sim_var (i := 0) rfl (.inl rfl))) sim_nil))
theorem lo_45 (t : Tp P w K mg base G fd fi fdi tc tp) : LamOk P w K mg base G 2 (lamD 45) (runL 1 lb_45) :=
  lam_ok (k := 1) (D := lamD 45) (b := lb_45) (nscope_by (by decide +kernel)) (fun _ _ _ _ us hl => match us, hl with | [_], _ => rfl) fun f cl c A outer s H E hr => (sim_lst (sim_cons (sim_fldE (cs := [1042, 1043, 1044, 1045, 1046]) (by intro c hc; simp only [List.mem_cons, List.not_mem_nil, or_false] at hc; rcases hc with rfl | rfl | rfl | rfl | rfl <;> first | exact ⟨t.x_BadVow.xf, t.x_BadVow.no⟩ | exact ⟨t.x_Watched.xf, t.x_Watched.no⟩ | exact ⟨t.x_NotHeldNow.xf, t.x_NotHeldNow.no⟩ | exact ⟨t.x_NotWatched.xf, t.x_NotWatched.no⟩ | exact ⟨t.x_Broken.xf, t.x_Broken.no⟩) rfl (sim_var (i := 0) rfl (.inl rfl))) sim_nil))
theorem fr0 : ∀ l, l < 46 → (lamD l).fr = [] := by decide +kernel
theorem pl0 : ∀ l, l < 46 → (lamD l).ps.length = 1 := by decide +kernel
theorem los (t : Tp P w K mg base G fd fi fdi tc tp) : ∀ l, l < 46 → LamOk P w K mg base G 2 (lamD l) (runL 1 (lbs l))
  | 0, _ => (lo_0 t).mono (by decide)
  | 1, _ => (lo_1 t).mono (by decide)
  | 2, _ => (lo_2 t).mono (by decide)
  | 3, _ => (lo_3 t).mono (by decide)
  | 4, _ => (lo_4 t).mono (by decide)
  | 5, _ => (lo_5 t).mono (by decide)
  | 6, _ => (lo_6 t).mono (by decide)
  | 7, _ => (lo_7 t).mono (by decide)
  | 8, _ => (lo_8 t).mono (by decide)
  | 9, _ => (lo_9 t).mono (by decide)
  | 10, _ => (lo_10 t).mono (by decide)
  | 11, _ => (lo_11 t).mono (by decide)
  | 12, _ => (lo_12 t).mono (by decide)
  | 13, _ => (lo_13 t).mono (by decide)
  | 14, _ => (lo_14 t).mono (by decide)
  | 15, _ => (lo_15 t).mono (by decide)
  | 16, _ => (lo_16 t).mono (by decide)
  | 17, _ => (lo_17 t).mono (by decide)
  | 18, _ => (lo_18 t).mono (by decide)
  | 19, _ => (lo_19 t).mono (by decide)
  | 20, _ => (lo_20 t).mono (by decide)
  | 21, _ => (lo_21 t).mono (by decide)
  | 22, _ => (lo_22 t).mono (by decide)
  | 23, _ => (lo_23 t).mono (by decide)
  | 24, _ => (lo_24 t).mono (by decide)
  | 25, _ => (lo_25 t).mono (by decide)
  | 26, _ => (lo_26 t).mono (by decide)
  | 27, _ => (lo_27 t).mono (by decide)
  | 28, _ => (lo_28 t).mono (by decide)
  | 29, _ => (lo_29 t).mono (by decide)
  | 30, _ => (lo_30 t).mono (by decide)
  | 31, _ => (lo_31 t).mono (by decide)
  | 32, _ => (lo_32 t).mono (by decide)
  | 33, _ => (lo_33 t).mono (by decide)
  | 34, _ => (lo_34 t).mono (by decide)
  | 35, _ => (lo_35 t).mono (by decide)
  | 36, _ => (lo_36 t).mono (by decide)
  | 37, _ => (lo_37 t).mono (by decide)
  | 38, _ => (lo_38 t).mono (by decide)
  | 39, _ => (lo_39 t).mono (by decide)
  | 40, _ => (lo_40 t).mono (by decide)
  | 41, _ => (lo_41 t).mono (by decide)
  | 42, _ => (lo_42 t).mono (by decide)
  | 43, _ => (lo_43 t).mono (by decide)
  | 44, _ => (lo_44 t).mono (by decide)
  | 45, _ => (lo_45 t).mono (by decide)
  | n + 46, h => absurd h (by omega)
theorem disp0 (t : Tp P w K mg base G fd fi fdi tc tp) : Disp0 P w K mg base G 2 can0 app0 := fun x h => by
  unfold can0 at h
  split at h
  · rename_i l
    have hl := of_decide_eq_true h
    exact ⟨l, runL 1 (lbs l), rfl, by rw [t.lam]; exact fr0 l hl, by rw [t.lam]; exact los t l hl, fun ws => by rw [t.lam, pl0 l hl]; rfl⟩
  · cases h
theorem sc__law_made_a : FnScope ["x", "found"] ["x"] (defScope (top 54)) := ⟨rfl, rfl, rfl, by decide +kernel, rfl, by decide +kernel, by decide +kernel⟩
theorem bd__law_made_a (t : Tp P w K mg base G fd fi fdi tc tp) : Binds K (fd 4) ["x"] [] := t.f__law_made_a.bindsN fun _ _ _ _ _ _ us hl => match us, hl with | [_], _ => rfl
theorem ok__law_made_a (t : Tp P w K mg base G fd fi fdi tc tp) : FnOk P w K mg base (L2.CX P w) 4 (G.fa 4) (fd 4) ["x"] (spS K G 1 m__law_made_a) := by
  refine fnDc (k := 3) t.f__law_made_a sc__law_made_a (bf := b__law_made_a) fun cdv hcv A outer s H E hr => ?_
  have tk := takes_fn (P := P) (w := w) (K := K) (mg := mg) (base := base) (N := ["x", "found"]) (qual := "_law_made_a") (scope := defScope (top 54)) (f := G.fa 4) (cdv := cdv) (A := A) (outer := outer) (s := s) (H := H) (E := E)
  exact (sim_scons (sim_set (i := 1) sc__law_made_a.nd rfl (.inl rfl) (sim_lstM sim_nil))
  (sim_scons (sim_expr (sim_bm PySem.F.plainAttrs_list PySem.F.slot_list_append PySem.F.type_list_append mt_append mAppend_ok chkL_ok (sim_var (i := 1) rfl (.inl rfl)) (sim_cons (sim_tup (sim_cons (sim_mkE (by decide) t.x_BadText.ox t.x_BadText.ini t.x_BadText.tyi t.x_BadText.no (init_BadText t) t.x_BadText.bd rfl rfl tk (hr.mono (by decide : 2 ≤ 3)) t.x_BadText.mg (sim_var (i := 0) rfl (.inl rfl))) (sim_cons (sim_mkEK (ks := ["text"]) (by decide) t.x_BadText.ox t.x_BadText.ini t.x_BadText.tyi t.x_BadText.no (init_BadText t) (kb_BadText t) rfl rfl tk (hr.mono (by decide : 2 ≤ 3)) t.x_BadText.mg (sk_cons (sim_var (i := 0) rfl (.inl rfl)) sk_nil)) (sim_cons (sim_lam0 (l := 0) (D := lamD 0) (by rw [t.lam]) t.tb__law_made_a (hcv.symm.trans t.cd__law_made_a) rfl t.tm__law_made_a t.tu__law_made_a rfl rfl (by decide +kernel)) (sim_cons (sim_lst (sim_cons (sim_var (i := 0) rfl (.inl rfl)) sim_nil)) sim_nil))))) sim_nil)))
  (sim_scons (sim_expr (sim_bm PySem.F.plainAttrs_list PySem.F.slot_list_append PySem.F.type_list_append mt_append mAppend_ok chkL_ok (sim_var (i := 1) rfl (.inl rfl)) (sim_cons (sim_tup (sim_cons (sim_mkE (by decide) t.x_BadProgram.ox t.x_BadProgram.ini t.x_BadProgram.tyi t.x_BadProgram.no (init_BadProgram t) t.x_BadProgram.bd rfl rfl tk (hr.mono (by decide : 2 ≤ 3)) t.x_BadProgram.mg (sim_var (i := 0) rfl (.inl rfl))) (sim_cons (sim_mkEK (ks := ["program"]) (by decide) t.x_BadProgram.ox t.x_BadProgram.ini t.x_BadProgram.tyi t.x_BadProgram.no (init_BadProgram t) (kb_BadProgram t) rfl rfl tk (hr.mono (by decide : 2 ≤ 3)) t.x_BadProgram.mg (sk_cons (sim_var (i := 0) rfl (.inl rfl)) sk_nil)) (sim_cons (sim_lam0 (l := 1) (D := lamD 1) (by rw [t.lam]) t.tb__law_made_a (hcv.symm.trans t.cd__law_made_a) rfl t.tm__law_made_a t.tu__law_made_a rfl rfl (by decide +kernel)) (sim_cons (sim_lst (sim_cons (sim_var (i := 0) rfl (.inl rfl)) sim_nil)) sim_nil))))) sim_nil)))
  (sim_scons (sim_expr (sim_bm PySem.F.plainAttrs_list PySem.F.slot_list_append PySem.F.type_list_append mt_append mAppend_ok chkL_ok (sim_var (i := 1) rfl (.inl rfl)) (sim_cons (sim_tup (sim_cons (sim_mkE (by decide) t.x_BadTexts.ox t.x_BadTexts.ini t.x_BadTexts.tyi t.x_BadTexts.no (init_BadTexts t) t.x_BadTexts.bd rfl rfl tk (hr.mono (by decide : 2 ≤ 3)) t.x_BadTexts.mg (sim_var (i := 0) rfl (.inl rfl))) (sim_cons (sim_mkEK (ks := ["texts"]) (by decide) t.x_BadTexts.ox t.x_BadTexts.ini t.x_BadTexts.tyi t.x_BadTexts.no (init_BadTexts t) (kb_BadTexts t) rfl rfl tk (hr.mono (by decide : 2 ≤ 3)) t.x_BadTexts.mg (sk_cons (sim_var (i := 0) rfl (.inl rfl)) sk_nil)) (sim_cons (sim_lam0 (l := 2) (D := lamD 2) (by rw [t.lam]) t.tb__law_made_a (hcv.symm.trans t.cd__law_made_a) rfl t.tm__law_made_a t.tu__law_made_a rfl rfl (by decide +kernel)) (sim_cons (sim_lst (sim_cons (sim_var (i := 0) rfl (.inl rfl)) sim_nil)) sim_nil))))) sim_nil)))
  (sim_scons (sim_expr (sim_bm PySem.F.plainAttrs_list PySem.F.slot_list_append PySem.F.type_list_append mt_append mAppend_ok chkL_ok (sim_var (i := 1) rfl (.inl rfl)) (sim_cons (sim_tup (sim_cons (sim_mkE (by decide) t.x_BadIndex.ox t.x_BadIndex.ini t.x_BadIndex.tyi t.x_BadIndex.no (init_BadIndex t) t.x_BadIndex.bd rfl rfl tk (hr.mono (by decide : 2 ≤ 3)) t.x_BadIndex.mg (sim_var (i := 0) rfl (.inl rfl))) (sim_cons (sim_mkEK (ks := ["index"]) (by decide) t.x_BadIndex.ox t.x_BadIndex.ini t.x_BadIndex.tyi t.x_BadIndex.no (init_BadIndex t) (kb_BadIndex t) rfl rfl tk (hr.mono (by decide : 2 ≤ 3)) t.x_BadIndex.mg (sk_cons (sim_var (i := 0) rfl (.inl rfl)) sk_nil)) (sim_cons (sim_lam0 (l := 3) (D := lamD 3) (by rw [t.lam]) t.tb__law_made_a (hcv.symm.trans t.cd__law_made_a) rfl t.tm__law_made_a t.tu__law_made_a rfl rfl (by decide +kernel)) (sim_cons (sim_lst (sim_cons (sim_var (i := 0) rfl (.inl rfl)) sim_nil)) sim_nil))))) sim_nil)))
  (sim_scons (sim_expr (sim_bm PySem.F.plainAttrs_list PySem.F.slot_list_append PySem.F.type_list_append mt_append mAppend_ok chkL_ok (sim_var (i := 1) rfl (.inl rfl)) (sim_cons (sim_tup (sim_cons (sim_mkE0 (by decide) PySem.F.excBase_ValueError t.y_NotRight.1 t.y_NotRight.2.1 t.y_NotRight.2.2) (sim_cons (sim_mkE0 (by decide) PySem.F.excBase_ValueError t.y_NotRight.1 t.y_NotRight.2.1 t.y_NotRight.2.2) (sim_cons (sim_lam0 (l := 4) (D := lamD 4) (by rw [t.lam]) t.tb__law_made_a (hcv.symm.trans t.cd__law_made_a) rfl t.tm__law_made_a t.tu__law_made_a rfl rfl (by decide +kernel)) (sim_cons (sim_lst sim_nil) sim_nil))))) sim_nil)))
  (sim_scons (sim_expr (sim_bm PySem.F.plainAttrs_list PySem.F.slot_list_append PySem.F.type_list_append mt_append mAppend_ok chkL_ok (sim_var (i := 1) rfl (.inl rfl)) (sim_cons (sim_tup (sim_cons (sim_mkE (by decide) t.x_BadName.ox t.x_BadName.ini t.x_BadName.tyi t.x_BadName.no (init_BadName t) t.x_BadName.bd rfl rfl tk (hr.mono (by decide : 2 ≤ 3)) t.x_BadName.mg (sim_var (i := 0) rfl (.inl rfl))) (sim_cons (sim_mkEK (ks := ["name"]) (by decide) t.x_BadName.ox t.x_BadName.ini t.x_BadName.tyi t.x_BadName.no (init_BadName t) (kb_BadName t) rfl rfl tk (hr.mono (by decide : 2 ≤ 3)) t.x_BadName.mg (sk_cons (sim_var (i := 0) rfl (.inl rfl)) sk_nil)) (sim_cons (sim_lam0 (l := 5) (D := lamD 5) (by rw [t.lam]) t.tb__law_made_a (hcv.symm.trans t.cd__law_made_a) rfl t.tm__law_made_a t.tu__law_made_a rfl rfl (by decide +kernel)) (sim_cons (sim_lst (sim_cons (sim_var (i := 0) rfl (.inl rfl)) sim_nil)) sim_nil))))) sim_nil)))
  (sim_scons (sim_expr (sim_bm PySem.F.plainAttrs_list PySem.F.slot_list_append PySem.F.type_list_append mt_append mAppend_ok chkL_ok (sim_var (i := 1) rfl (.inl rfl)) (sim_cons (sim_tup (sim_cons (sim_mkE (by decide) t.x_BadAnswers.ox t.x_BadAnswers.ini t.x_BadAnswers.tyi t.x_BadAnswers.no (init_BadAnswers t) t.x_BadAnswers.bd rfl rfl tk (hr.mono (by decide : 2 ≤ 3)) t.x_BadAnswers.mg (sim_var (i := 0) rfl (.inl rfl))) (sim_cons (sim_mkEK (ks := ["answers"]) (by decide) t.x_BadAnswers.ox t.x_BadAnswers.ini t.x_BadAnswers.tyi t.x_BadAnswers.no (init_BadAnswers t) (kb_BadAnswers t) rfl rfl tk (hr.mono (by decide : 2 ≤ 3)) t.x_BadAnswers.mg (sk_cons (sim_var (i := 0) rfl (.inl rfl)) sk_nil)) (sim_cons (sim_lam0 (l := 6) (D := lamD 6) (by rw [t.lam]) t.tb__law_made_a (hcv.symm.trans t.cd__law_made_a) rfl t.tm__law_made_a t.tu__law_made_a rfl rfl (by decide +kernel)) (sim_cons (sim_lst (sim_cons (sim_var (i := 0) rfl (.inl rfl)) sim_nil)) sim_nil))))) sim_nil)))
  (sim_scons (sim_expr (sim_bm PySem.F.plainAttrs_list PySem.F.slot_list_append PySem.F.type_list_append mt_append mAppend_ok chkL_ok (sim_var (i := 1) rfl (.inl rfl)) (sim_cons (sim_tup (sim_cons (sim_mkE (by decide) t.x_BadMost.ox t.x_BadMost.ini t.x_BadMost.tyi t.x_BadMost.no (init_BadMost t) t.x_BadMost.bd rfl rfl tk (hr.mono (by decide : 2 ≤ 3)) t.x_BadMost.mg (sim_var (i := 0) rfl (.inl rfl))) (sim_cons (sim_mkEK (ks := ["most"]) (by decide) t.x_BadMost.ox t.x_BadMost.ini t.x_BadMost.tyi t.x_BadMost.no (init_BadMost t) (kb_BadMost t) rfl rfl tk (hr.mono (by decide : 2 ≤ 3)) t.x_BadMost.mg (sk_cons (sim_var (i := 0) rfl (.inl rfl)) sk_nil)) (sim_cons (sim_lam0 (l := 7) (D := lamD 7) (by rw [t.lam]) t.tb__law_made_a (hcv.symm.trans t.cd__law_made_a) rfl t.tm__law_made_a t.tu__law_made_a rfl rfl (by decide +kernel)) (sim_cons (sim_lst (sim_cons (sim_var (i := 0) rfl (.inl rfl)) sim_nil)) sim_nil))))) sim_nil)))
  (sim_scons (sim_expr (sim_bm PySem.F.plainAttrs_list PySem.F.slot_list_append PySem.F.type_list_append mt_append mAppend_ok chkL_ok (sim_var (i := 1) rfl (.inl rfl)) (sim_cons (sim_tup (sim_cons (sim_mkE (by decide) t.x_BadModule.ox t.x_BadModule.ini t.x_BadModule.tyi t.x_BadModule.no (init_BadModule t) t.x_BadModule.bd rfl rfl tk (hr.mono (by decide : 2 ≤ 3)) t.x_BadModule.mg (sim_var (i := 0) rfl (.inl rfl))) (sim_cons (sim_mkEK (ks := ["m"]) (by decide) t.x_BadModule.ox t.x_BadModule.ini t.x_BadModule.tyi t.x_BadModule.no (init_BadModule t) (kb_BadModule t) rfl rfl tk (hr.mono (by decide : 2 ≤ 3)) t.x_BadModule.mg (sk_cons (sim_var (i := 0) rfl (.inl rfl)) sk_nil)) (sim_cons (sim_lam0 (l := 8) (D := lamD 8) (by rw [t.lam]) t.tb__law_made_a (hcv.symm.trans t.cd__law_made_a) rfl t.tm__law_made_a t.tu__law_made_a rfl rfl (by decide +kernel)) (sim_cons (sim_lst (sim_cons (sim_var (i := 0) rfl (.inl rfl)) sim_nil)) sim_nil))))) sim_nil)))
  (sim_scons (sim_expr (sim_bm PySem.F.plainAttrs_list PySem.F.slot_list_append PySem.F.type_list_append mt_append mAppend_ok chkL_ok (sim_var (i := 1) rfl (.inl rfl)) (sim_cons (sim_tup (sim_cons (sim_mkE (by decide) t.x_BadObject.ox t.x_BadObject.ini t.x_BadObject.tyi t.x_BadObject.no (init_BadObject t) t.x_BadObject.bd rfl rfl tk (hr.mono (by decide : 2 ≤ 3)) t.x_BadObject.mg (sim_var (i := 0) rfl (.inl rfl))) (sim_cons (sim_mkEK (ks := ["one"]) (by decide) t.x_BadObject.ox t.x_BadObject.ini t.x_BadObject.tyi t.x_BadObject.no (init_BadObject t) (kb_BadObject t) rfl rfl tk (hr.mono (by decide : 2 ≤ 3)) t.x_BadObject.mg (sk_cons (sim_var (i := 0) rfl (.inl rfl)) sk_nil)) (sim_cons (sim_lam0 (l := 9) (D := lamD 9) (by rw [t.lam]) t.tb__law_made_a (hcv.symm.trans t.cd__law_made_a) rfl t.tm__law_made_a t.tu__law_made_a rfl rfl (by decide +kernel)) (sim_cons (sim_lst (sim_cons (sim_var (i := 0) rfl (.inl rfl)) sim_nil)) sim_nil))))) sim_nil)))
  (sim_scons (sim_expr (sim_bm PySem.F.plainAttrs_list PySem.F.slot_list_append PySem.F.type_list_append mt_append mAppend_ok chkL_ok (sim_var (i := 1) rfl (.inl rfl)) (sim_cons (sim_tup (sim_cons (sim_mkE (by decide) t.x_BadObjects.ox t.x_BadObjects.ini t.x_BadObjects.tyi t.x_BadObjects.no (init_BadObjects t) t.x_BadObjects.bd rfl rfl tk (hr.mono (by decide : 2 ≤ 3)) t.x_BadObjects.mg (sim_var (i := 0) rfl (.inl rfl))) (sim_cons (sim_mkEK (ks := ["objects"]) (by decide) t.x_BadObjects.ox t.x_BadObjects.ini t.x_BadObjects.tyi t.x_BadObjects.no (init_BadObjects t) (kb_BadObjects t) rfl rfl tk (hr.mono (by decide : 2 ≤ 3)) t.x_BadObjects.mg (sk_cons (sim_var (i := 0) rfl (.inl rfl)) sk_nil)) (sim_cons (sim_lam0 (l := 10) (D := lamD 10) (by rw [t.lam]) t.tb__law_made_a (hcv.symm.trans t.cd__law_made_a) rfl t.tm__law_made_a t.tu__law_made_a rfl rfl (by decide +kernel)) (sim_cons (sim_lst (sim_cons (sim_var (i := 0) rfl (.inl rfl)) sim_nil)) sim_nil))))) sim_nil)))
  (sim_scons (sim_expr (sim_bm PySem.F.plainAttrs_list PySem.F.slot_list_append PySem.F.type_list_append mt_append mAppend_ok chkL_ok (sim_var (i := 1) rfl (.inl rfl)) (sim_cons (sim_tup (sim_cons (sim_mkE0 (by decide) PySem.F.excBase_ValueError t.y_NotLinked.1 t.y_NotLinked.2.1 t.y_NotLinked.2.2) (sim_cons (sim_mkE0 (by decide) PySem.F.excBase_ValueError t.y_NotLinked.1 t.y_NotLinked.2.1 t.y_NotLinked.2.2) (sim_cons (sim_lam0 (l := 11) (D := lamD 11) (by rw [t.lam]) t.tb__law_made_a (hcv.symm.trans t.cd__law_made_a) rfl t.tm__law_made_a t.tu__law_made_a rfl rfl (by decide +kernel)) (sim_cons (sim_lst sim_nil) sim_nil))))) sim_nil)))
  (sim_scons (sim_expr (sim_bm PySem.F.plainAttrs_list PySem.F.slot_list_append PySem.F.type_list_append mt_append mAppend_ok chkL_ok (sim_var (i := 1) rfl (.inl rfl)) (sim_cons (sim_tup (sim_cons (sim_mkE (by decide) t.x_BadForm.ox t.x_BadForm.ini t.x_BadForm.tyi t.x_BadForm.no (init_BadForm t) t.x_BadForm.bd rfl rfl tk (hr.mono (by decide : 2 ≤ 3)) t.x_BadForm.mg (sim_var (i := 0) rfl (.inl rfl))) (sim_cons (sim_mkEK (ks := ["thing"]) (by decide) t.x_BadForm.ox t.x_BadForm.ini t.x_BadForm.tyi t.x_BadForm.no (init_BadForm t) (kb_BadForm t) rfl rfl tk (hr.mono (by decide : 2 ≤ 3)) t.x_BadForm.mg (sk_cons (sim_var (i := 0) rfl (.inl rfl)) sk_nil)) (sim_cons (sim_lam0 (l := 12) (D := lamD 12) (by rw [t.lam]) t.tb__law_made_a (hcv.symm.trans t.cd__law_made_a) rfl t.tm__law_made_a t.tu__law_made_a rfl rfl (by decide +kernel)) (sim_cons (sim_lst (sim_cons (sim_var (i := 0) rfl (.inl rfl)) sim_nil)) sim_nil))))) sim_nil)))
  (sim_scons (sim_expr (sim_bm PySem.F.plainAttrs_list PySem.F.slot_list_append PySem.F.type_list_append mt_append mAppend_ok chkL_ok (sim_var (i := 1) rfl (.inl rfl)) (sim_cons (sim_tup (sim_cons (sim_mkE (by decide) t.x_BadLinked.ox t.x_BadLinked.ini t.x_BadLinked.tyi t.x_BadLinked.no (init_BadLinked t) t.x_BadLinked.bd rfl rfl tk (hr.mono (by decide : 2 ≤ 3)) t.x_BadLinked.mg (sim_var (i := 0) rfl (.inl rfl))) (sim_cons (sim_mkEK (ks := ["linked"]) (by decide) t.x_BadLinked.ox t.x_BadLinked.ini t.x_BadLinked.tyi t.x_BadLinked.no (init_BadLinked t) (kb_BadLinked t) rfl rfl tk (hr.mono (by decide : 2 ≤ 3)) t.x_BadLinked.mg (sk_cons (sim_var (i := 0) rfl (.inl rfl)) sk_nil)) (sim_cons (sim_lam0 (l := 13) (D := lamD 13) (by rw [t.lam]) t.tb__law_made_a (hcv.symm.trans t.cd__law_made_a) rfl t.tm__law_made_a t.tu__law_made_a rfl rfl (by decide +kernel)) (sim_cons (sim_lst (sim_cons (sim_var (i := 0) rfl (.inl rfl)) sim_nil)) sim_nil))))) sim_nil)))
  (sim_scons (sim_expr (sim_bm PySem.F.plainAttrs_list PySem.F.slot_list_append PySem.F.type_list_append mt_append mAppend_ok chkL_ok (sim_var (i := 1) rfl (.inl rfl)) (sim_cons (sim_tup (sim_cons (sim_mkE (by decide) t.x_BadState.ox t.x_BadState.ini t.x_BadState.tyi t.x_BadState.no (init_BadState t) t.x_BadState.bd rfl rfl tk (hr.mono (by decide : 2 ≤ 3)) t.x_BadState.mg (sim_var (i := 0) rfl (.inl rfl))) (sim_cons (sim_mkEK (ks := ["state"]) (by decide) t.x_BadState.ox t.x_BadState.ini t.x_BadState.tyi t.x_BadState.no (init_BadState t) (kb_BadState t) rfl rfl tk (hr.mono (by decide : 2 ≤ 3)) t.x_BadState.mg (sk_cons (sim_var (i := 0) rfl (.inl rfl)) sk_nil)) (sim_cons (sim_lam0 (l := 14) (D := lamD 14) (by rw [t.lam]) t.tb__law_made_a (hcv.symm.trans t.cd__law_made_a) rfl t.tm__law_made_a t.tu__law_made_a rfl rfl (by decide +kernel)) (sim_cons (sim_lst (sim_cons (sim_var (i := 0) rfl (.inl rfl)) sim_nil)) sim_nil))))) sim_nil)))
  (sim_scons (sim_expr (sim_bm PySem.F.plainAttrs_list PySem.F.slot_list_append PySem.F.type_list_append mt_append mAppend_ok chkL_ok (sim_var (i := 1) rfl (.inl rfl)) (sim_cons (sim_tup (sim_cons (sim_mkE (by decide) t.x_BadPlan.ox t.x_BadPlan.ini t.x_BadPlan.tyi t.x_BadPlan.no (init_BadPlan t) t.x_BadPlan.bd rfl rfl tk (hr.mono (by decide : 2 ≤ 3)) t.x_BadPlan.mg (sim_var (i := 0) rfl (.inl rfl))) (sim_cons (sim_mkEK (ks := ["plan"]) (by decide) t.x_BadPlan.ox t.x_BadPlan.ini t.x_BadPlan.tyi t.x_BadPlan.no (init_BadPlan t) (kb_BadPlan t) rfl rfl tk (hr.mono (by decide : 2 ≤ 3)) t.x_BadPlan.mg (sk_cons (sim_var (i := 0) rfl (.inl rfl)) sk_nil)) (sim_cons (sim_lam0 (l := 15) (D := lamD 15) (by rw [t.lam]) t.tb__law_made_a (hcv.symm.trans t.cd__law_made_a) rfl t.tm__law_made_a t.tu__law_made_a rfl rfl (by decide +kernel)) (sim_cons (sim_lst (sim_cons (sim_var (i := 0) rfl (.inl rfl)) sim_nil)) sim_nil))))) sim_nil)))
  (sim_scons (sim_expr (sim_bm PySem.F.plainAttrs_list PySem.F.slot_list_append PySem.F.type_list_append mt_append mAppend_ok chkL_ok (sim_var (i := 1) rfl (.inl rfl)) (sim_cons (sim_tup (sim_cons (sim_mkE (by decide) t.x_BadStretch.ox t.x_BadStretch.ini t.x_BadStretch.tyi t.x_BadStretch.no (init_BadStretch t) t.x_BadStretch.bd rfl rfl tk (hr.mono (by decide : 2 ≤ 3)) t.x_BadStretch.mg (sim_var (i := 0) rfl (.inl rfl))) (sim_cons (sim_mkEK (ks := ["stretch"]) (by decide) t.x_BadStretch.ox t.x_BadStretch.ini t.x_BadStretch.tyi t.x_BadStretch.no (init_BadStretch t) (kb_BadStretch t) rfl rfl tk (hr.mono (by decide : 2 ≤ 3)) t.x_BadStretch.mg (sk_cons (sim_var (i := 0) rfl (.inl rfl)) sk_nil)) (sim_cons (sim_lam0 (l := 16) (D := lamD 16) (by rw [t.lam]) t.tb__law_made_a (hcv.symm.trans t.cd__law_made_a) rfl t.tm__law_made_a t.tu__law_made_a rfl rfl (by decide +kernel)) (sim_cons (sim_lst (sim_cons (sim_var (i := 0) rfl (.inl rfl)) sim_nil)) sim_nil))))) sim_nil)))
  (sim_scons (sim_expr (sim_bm PySem.F.plainAttrs_list PySem.F.slot_list_append PySem.F.type_list_append mt_append mAppend_ok chkL_ok (sim_var (i := 1) rfl (.inl rfl)) (sim_cons (sim_tup (sim_cons (sim_mkE (by decide) t.x_BadBegin.ox t.x_BadBegin.ini t.x_BadBegin.tyi t.x_BadBegin.no (init_BadBegin t) t.x_BadBegin.bd rfl rfl tk (hr.mono (by decide : 2 ≤ 3)) t.x_BadBegin.mg (sim_var (i := 0) rfl (.inl rfl))) (sim_cons (sim_mkEK (ks := ["begin"]) (by decide) t.x_BadBegin.ox t.x_BadBegin.ini t.x_BadBegin.tyi t.x_BadBegin.no (init_BadBegin t) (kb_BadBegin t) rfl rfl tk (hr.mono (by decide : 2 ≤ 3)) t.x_BadBegin.mg (sk_cons (sim_var (i := 0) rfl (.inl rfl)) sk_nil)) (sim_cons (sim_lam0 (l := 17) (D := lamD 17) (by rw [t.lam]) t.tb__law_made_a (hcv.symm.trans t.cd__law_made_a) rfl t.tm__law_made_a t.tu__law_made_a rfl rfl (by decide +kernel)) (sim_cons (sim_lst (sim_cons (sim_var (i := 0) rfl (.inl rfl)) sim_nil)) sim_nil))))) sim_nil)))
  (sim_scons (sim_expr (sim_bm PySem.F.plainAttrs_list PySem.F.slot_list_append PySem.F.type_list_append mt_append mAppend_ok chkL_ok (sim_var (i := 1) rfl (.inl rfl)) (sim_cons (sim_tup (sim_cons (sim_mkE (by decide) t.x_BadUnits.ox t.x_BadUnits.ini t.x_BadUnits.tyi t.x_BadUnits.no (init_BadUnits t) t.x_BadUnits.bd rfl rfl tk (hr.mono (by decide : 2 ≤ 3)) t.x_BadUnits.mg (sim_var (i := 0) rfl (.inl rfl))) (sim_cons (sim_mkEK (ks := ["units"]) (by decide) t.x_BadUnits.ox t.x_BadUnits.ini t.x_BadUnits.tyi t.x_BadUnits.no (init_BadUnits t) (kb_BadUnits t) rfl rfl tk (hr.mono (by decide : 2 ≤ 3)) t.x_BadUnits.mg (sk_cons (sim_var (i := 0) rfl (.inl rfl)) sk_nil)) (sim_cons (sim_lam0 (l := 18) (D := lamD 18) (by rw [t.lam]) t.tb__law_made_a (hcv.symm.trans t.cd__law_made_a) rfl t.tm__law_made_a t.tu__law_made_a rfl rfl (by decide +kernel)) (sim_cons (sim_lst (sim_cons (sim_var (i := 0) rfl (.inl rfl)) sim_nil)) sim_nil))))) sim_nil)))
  (sim_scons (sim_expr (sim_bm PySem.F.plainAttrs_list PySem.F.slot_list_append PySem.F.type_list_append mt_append mAppend_ok chkL_ok (sim_var (i := 1) rfl (.inl rfl)) (sim_cons (sim_tup (sim_cons (sim_mkE (by decide) t.x_BadRow.ox t.x_BadRow.ini t.x_BadRow.tyi t.x_BadRow.no (init_BadRow t) t.x_BadRow.bd rfl rfl tk (hr.mono (by decide : 2 ≤ 3)) t.x_BadRow.mg (sim_var (i := 0) rfl (.inl rfl))) (sim_cons (sim_mkEK (ks := ["row"]) (by decide) t.x_BadRow.ox t.x_BadRow.ini t.x_BadRow.tyi t.x_BadRow.no (init_BadRow t) (kb_BadRow t) rfl rfl tk (hr.mono (by decide : 2 ≤ 3)) t.x_BadRow.mg (sk_cons (sim_var (i := 0) rfl (.inl rfl)) sk_nil)) (sim_cons (sim_lam0 (l := 19) (D := lamD 19) (by rw [t.lam]) t.tb__law_made_a (hcv.symm.trans t.cd__law_made_a) rfl t.tm__law_made_a t.tu__law_made_a rfl rfl (by decide +kernel)) (sim_cons (sim_lst (sim_cons (sim_var (i := 0) rfl (.inl rfl)) sim_nil)) sim_nil))))) sim_nil)))
  (sim_scons (sim_expr (sim_bm PySem.F.plainAttrs_list PySem.F.slot_list_append PySem.F.type_list_append mt_append mAppend_ok chkL_ok (sim_var (i := 1) rfl (.inl rfl)) (sim_cons (sim_tup (sim_cons (sim_mkE (by decide) t.x_BadKeeps.ox t.x_BadKeeps.ini t.x_BadKeeps.tyi t.x_BadKeeps.no (init_BadKeeps t) t.x_BadKeeps.bd rfl rfl tk (hr.mono (by decide : 2 ≤ 3)) t.x_BadKeeps.mg (sim_var (i := 0) rfl (.inl rfl))) (sim_cons (sim_mkEK (ks := ["keeps"]) (by decide) t.x_BadKeeps.ox t.x_BadKeeps.ini t.x_BadKeeps.tyi t.x_BadKeeps.no (init_BadKeeps t) (kb_BadKeeps t) rfl rfl tk (hr.mono (by decide : 2 ≤ 3)) t.x_BadKeeps.mg (sk_cons (sim_var (i := 0) rfl (.inl rfl)) sk_nil)) (sim_cons (sim_lam0 (l := 20) (D := lamD 20) (by rw [t.lam]) t.tb__law_made_a (hcv.symm.trans t.cd__law_made_a) rfl t.tm__law_made_a t.tu__law_made_a rfl rfl (by decide +kernel)) (sim_cons (sim_lst (sim_cons (sim_var (i := 0) rfl (.inl rfl)) sim_nil)) sim_nil))))) sim_nil)))
  (sim_scons (sim_expr (sim_bm PySem.F.plainAttrs_list PySem.F.slot_list_append PySem.F.type_list_append mt_append mAppend_ok chkL_ok (sim_var (i := 1) rfl (.inl rfl)) (sim_cons (sim_tup (sim_cons (sim_mkE (by decide) t.x_BadMemory.ox t.x_BadMemory.ini t.x_BadMemory.tyi t.x_BadMemory.no (init_BadMemory t) t.x_BadMemory.bd rfl rfl tk (hr.mono (by decide : 2 ≤ 3)) t.x_BadMemory.mg (sim_var (i := 0) rfl (.inl rfl))) (sim_cons (sim_mkEK (ks := ["memory"]) (by decide) t.x_BadMemory.ox t.x_BadMemory.ini t.x_BadMemory.tyi t.x_BadMemory.no (init_BadMemory t) (kb_BadMemory t) rfl rfl tk (hr.mono (by decide : 2 ≤ 3)) t.x_BadMemory.mg (sk_cons (sim_var (i := 0) rfl (.inl rfl)) sk_nil)) (sim_cons (sim_lam0 (l := 21) (D := lamD 21) (by rw [t.lam]) t.tb__law_made_a (hcv.symm.trans t.cd__law_made_a) rfl t.tm__law_made_a t.tu__law_made_a rfl rfl (by decide +kernel)) (sim_cons (sim_lst (sim_cons (sim_var (i := 0) rfl (.inl rfl)) sim_nil)) sim_nil))))) sim_nil)))
  (sim_scons (sim_expr (sim_bm PySem.F.plainAttrs_list PySem.F.slot_list_append PySem.F.type_list_append mt_append mAppend_ok chkL_ok (sim_var (i := 1) rfl (.inl rfl)) (sim_cons (sim_tup (sim_cons (sim_mkE (by decide) t.x_BadStand.ox t.x_BadStand.ini t.x_BadStand.tyi t.x_BadStand.no (init_BadStand t) t.x_BadStand.bd rfl rfl tk (hr.mono (by decide : 2 ≤ 3)) t.x_BadStand.mg (sim_var (i := 0) rfl (.inl rfl))) (sim_cons (sim_mkEK (ks := ["stand"]) (by decide) t.x_BadStand.ox t.x_BadStand.ini t.x_BadStand.tyi t.x_BadStand.no (init_BadStand t) (kb_BadStand t) rfl rfl tk (hr.mono (by decide : 2 ≤ 3)) t.x_BadStand.mg (sk_cons (sim_var (i := 0) rfl (.inl rfl)) sk_nil)) (sim_cons (sim_lam0 (l := 22) (D := lamD 22) (by rw [t.lam]) t.tb__law_made_a (hcv.symm.trans t.cd__law_made_a) rfl t.tm__law_made_a t.tu__law_made_a rfl rfl (by decide +kernel)) (sim_cons (sim_lst (sim_cons (sim_var (i := 0) rfl (.inl rfl)) sim_nil)) sim_nil))))) sim_nil)))
  (sim_sone (sim_ret (sim_var (i := 1) rfl (.inl rfl))))))))))))))))))))))))))))
theorem fn__law_made_a (t : Tp P w K mg base G fd fi fdi tc tp) : Fn P w K mg base G 4 (G.fa 4) (fd 4) ["x"] m__law_made_a := ⟨ok__law_made_a t, t.f__law_made_a.kp, bd__law_made_a t⟩
theorem sc__law_made_b : FnScope ["x", "found"] ["x"] (defScope (top 55)) := ⟨rfl, rfl, rfl, by decide +kernel, rfl, by decide +kernel, by decide +kernel⟩
theorem bd__law_made_b (t : Tp P w K mg base G fd fi fdi tc tp) : Binds K (fd 5) ["x"] [] := t.f__law_made_b.bindsN fun _ _ _ _ _ _ us hl => match us, hl with | [_], _ => rfl
theorem ok__law_made_b (t : Tp P w K mg base G fd fi fdi tc tp) : FnOk P w K mg base (L2.CX P w) 4 (G.fa 5) (fd 5) ["x"] (spS K G 1 m__law_made_b) := by
  refine fnDc (k := 3) t.f__law_made_b sc__law_made_b (bf := b__law_made_b) fun cdv hcv A outer s H E hr => ?_
  have tk := takes_fn (P := P) (w := w) (K := K) (mg := mg) (base := base) (N := ["x", "found"]) (qual := "_law_made_b") (scope := defScope (top 55)) (f := G.fa 5) (cdv := cdv) (A := A) (outer := outer) (s := s) (H := H) (E := E)
  exact (sim_scons (sim_set (i := 1) sc__law_made_b.nd rfl (.inl rfl) (sim_lstM sim_nil))
  (sim_scons (sim_expr (sim_bm PySem.F.plainAttrs_list PySem.F.slot_list_append PySem.F.type_list_append mt_append mAppend_ok chkL_ok (sim_var (i := 1) rfl (.inl rfl)) (sim_cons (sim_tup (sim_cons (sim_mkE (by decide) t.x_BadOrder.ox t.x_BadOrder.ini t.x_BadOrder.tyi t.x_BadOrder.no (init_BadOrder t) t.x_BadOrder.bd rfl rfl tk (hr.mono (by decide : 2 ≤ 3)) t.x_BadOrder.mg (sim_var (i := 0) rfl (.inl rfl))) (sim_cons (sim_mkEK (ks := ["order"]) (by decide) t.x_BadOrder.ox t.x_BadOrder.ini t.x_BadOrder.tyi t.x_BadOrder.no (init_BadOrder t) (kb_BadOrder t) rfl rfl tk (hr.mono (by decide : 2 ≤ 3)) t.x_BadOrder.mg (sk_cons (sim_var (i := 0) rfl (.inl rfl)) sk_nil)) (sim_cons (sim_lam0 (l := 23) (D := lamD 23) (by rw [t.lam]) t.tb__law_made_b (hcv.symm.trans t.cd__law_made_b) rfl t.tm__law_made_b t.tu__law_made_b rfl rfl (by decide +kernel)) (sim_cons (sim_lst (sim_cons (sim_var (i := 0) rfl (.inl rfl)) sim_nil)) sim_nil))))) sim_nil)))
  (sim_scons (sim_expr (sim_bm PySem.F.plainAttrs_list PySem.F.slot_list_append PySem.F.type_list_append mt_append mAppend_ok chkL_ok (sim_var (i := 1) rfl (.inl rfl)) (sim_cons (sim_tup (sim_cons (sim_mkE (by decide) t.x_BadCharge.ox t.x_BadCharge.ini t.x_BadCharge.tyi t.x_BadCharge.no (init_BadCharge t) t.x_BadCharge.bd rfl rfl tk (hr.mono (by decide : 2 ≤ 3)) t.x_BadCharge.mg (sim_var (i := 0) rfl (.inl rfl))) (sim_cons (sim_mkEK (ks := ["charge"]) (by decide) t.x_BadCharge.ox t.x_BadCharge.ini t.x_BadCharge.tyi t.x_BadCharge.no (init_BadCharge t) (kb_BadCharge t) rfl rfl tk (hr.mono (by decide : 2 ≤ 3)) t.x_BadCharge.mg (sk_cons (sim_var (i := 0) rfl (.inl rfl)) sk_nil)) (sim_cons (sim_lam0 (l := 24) (D := lamD 24) (by rw [t.lam]) t.tb__law_made_b (hcv.symm.trans t.cd__law_made_b) rfl t.tm__law_made_b t.tu__law_made_b rfl rfl (by decide +kernel)) (sim_cons (sim_lst (sim_cons (sim_var (i := 0) rfl (.inl rfl)) sim_nil)) sim_nil))))) sim_nil)))
  (sim_scons (sim_expr (sim_bm PySem.F.plainAttrs_list PySem.F.slot_list_append PySem.F.type_list_append mt_append mAppend_ok chkL_ok (sim_var (i := 1) rfl (.inl rfl)) (sim_cons (sim_tup (sim_cons (sim_mkE (by decide) t.x_BadCharges.ox t.x_BadCharges.ini t.x_BadCharges.tyi t.x_BadCharges.no (init_BadCharges t) t.x_BadCharges.bd rfl rfl tk (hr.mono (by decide : 2 ≤ 3)) t.x_BadCharges.mg (sim_var (i := 0) rfl (.inl rfl))) (sim_cons (sim_mkEK (ks := ["charges"]) (by decide) t.x_BadCharges.ox t.x_BadCharges.ini t.x_BadCharges.tyi t.x_BadCharges.no (init_BadCharges t) (kb_BadCharges t) rfl rfl tk (hr.mono (by decide : 2 ≤ 3)) t.x_BadCharges.mg (sk_cons (sim_var (i := 0) rfl (.inl rfl)) sk_nil)) (sim_cons (sim_lam0 (l := 25) (D := lamD 25) (by rw [t.lam]) t.tb__law_made_b (hcv.symm.trans t.cd__law_made_b) rfl t.tm__law_made_b t.tu__law_made_b rfl rfl (by decide +kernel)) (sim_cons (sim_lst (sim_cons (sim_var (i := 0) rfl (.inl rfl)) sim_nil)) sim_nil))))) sim_nil)))
  (sim_scons (sim_expr (sim_bm PySem.F.plainAttrs_list PySem.F.slot_list_append PySem.F.type_list_append mt_append mAppend_ok chkL_ok (sim_var (i := 1) rfl (.inl rfl)) (sim_cons (sim_tup (sim_cons (sim_mkE (by decide) t.x_BadMany.ox t.x_BadMany.ini t.x_BadMany.tyi t.x_BadMany.no (init_BadMany t) t.x_BadMany.bd rfl rfl tk (hr.mono (by decide : 2 ≤ 3)) t.x_BadMany.mg (sim_var (i := 0) rfl (.inl rfl))) (sim_cons (sim_mkEK (ks := ["many"]) (by decide) t.x_BadMany.ox t.x_BadMany.ini t.x_BadMany.tyi t.x_BadMany.no (init_BadMany t) (kb_BadMany t) rfl rfl tk (hr.mono (by decide : 2 ≤ 3)) t.x_BadMany.mg (sk_cons (sim_var (i := 0) rfl (.inl rfl)) sk_nil)) (sim_cons (sim_lam0 (l := 26) (D := lamD 26) (by rw [t.lam]) t.tb__law_made_b (hcv.symm.trans t.cd__law_made_b) rfl t.tm__law_made_b t.tu__law_made_b rfl rfl (by decide +kernel)) (sim_cons (sim_lst (sim_cons (sim_var (i := 0) rfl (.inl rfl)) sim_nil)) sim_nil))))) sim_nil)))
  (sim_scons (sim_expr (sim_bm PySem.F.plainAttrs_list PySem.F.slot_list_append PySem.F.type_list_append mt_append mAppend_ok chkL_ok (sim_var (i := 1) rfl (.inl rfl)) (sim_cons (sim_tup (sim_cons (sim_mkE0 (by decide) PySem.F.excBase_ValueError t.y_NoEnd.1 t.y_NoEnd.2.1 t.y_NoEnd.2.2) (sim_cons (sim_mkE0 (by decide) PySem.F.excBase_ValueError t.y_NoEnd.1 t.y_NoEnd.2.1 t.y_NoEnd.2.2) (sim_cons (sim_lam0 (l := 27) (D := lamD 27) (by rw [t.lam]) t.tb__law_made_b (hcv.symm.trans t.cd__law_made_b) rfl t.tm__law_made_b t.tu__law_made_b rfl rfl (by decide +kernel)) (sim_cons (sim_lst sim_nil) sim_nil))))) sim_nil)))
  (sim_scons (sim_expr (sim_bm PySem.F.plainAttrs_list PySem.F.slot_list_append PySem.F.type_list_append mt_append mAppend_ok chkL_ok (sim_var (i := 1) rfl (.inl rfl)) (sim_cons (sim_tup (sim_cons (sim_mkE (by decide) t.x_BadCells.ox t.x_BadCells.ini t.x_BadCells.tyi t.x_BadCells.no (init_BadCells t) t.x_BadCells.bd rfl rfl tk (hr.mono (by decide : 2 ≤ 3)) t.x_BadCells.mg (sim_var (i := 0) rfl (.inl rfl))) (sim_cons (sim_mkEK (ks := ["cells"]) (by decide) t.x_BadCells.ox t.x_BadCells.ini t.x_BadCells.tyi t.x_BadCells.no (init_BadCells t) (kb_BadCells t) rfl rfl tk (hr.mono (by decide : 2 ≤ 3)) t.x_BadCells.mg (sk_cons (sim_var (i := 0) rfl (.inl rfl)) sk_nil)) (sim_cons (sim_lam0 (l := 28) (D := lamD 28) (by rw [t.lam]) t.tb__law_made_b (hcv.symm.trans t.cd__law_made_b) rfl t.tm__law_made_b t.tu__law_made_b rfl rfl (by decide +kernel)) (sim_cons (sim_lst (sim_cons (sim_var (i := 0) rfl (.inl rfl)) sim_nil)) sim_nil))))) sim_nil)))
  (sim_scons (sim_expr (sim_bm PySem.F.plainAttrs_list PySem.F.slot_list_append PySem.F.type_list_append mt_append mAppend_ok chkL_ok (sim_var (i := 1) rfl (.inl rfl)) (sim_cons (sim_tup (sim_cons (sim_mkE (by decide) t.x_BadTorns.ox t.x_BadTorns.ini t.x_BadTorns.tyi t.x_BadTorns.no (init_BadTorns t) t.x_BadTorns.bd rfl rfl tk (hr.mono (by decide : 2 ≤ 3)) t.x_BadTorns.mg (sim_var (i := 0) rfl (.inl rfl))) (sim_cons (sim_mkEK (ks := ["torns"]) (by decide) t.x_BadTorns.ox t.x_BadTorns.ini t.x_BadTorns.tyi t.x_BadTorns.no (init_BadTorns t) (kb_BadTorns t) rfl rfl tk (hr.mono (by decide : 2 ≤ 3)) t.x_BadTorns.mg (sk_cons (sim_var (i := 0) rfl (.inl rfl)) sk_nil)) (sim_cons (sim_lam0 (l := 29) (D := lamD 29) (by rw [t.lam]) t.tb__law_made_b (hcv.symm.trans t.cd__law_made_b) rfl t.tm__law_made_b t.tu__law_made_b rfl rfl (by decide +kernel)) (sim_cons (sim_lst (sim_cons (sim_var (i := 0) rfl (.inl rfl)) sim_nil)) sim_nil))))) sim_nil)))
  (sim_scons (sim_expr (sim_bm PySem.F.plainAttrs_list PySem.F.slot_list_append PySem.F.type_list_append mt_append mAppend_ok chkL_ok (sim_var (i := 1) rfl (.inl rfl)) (sim_cons (sim_tup (sim_cons (sim_mkE0 (by decide) PySem.F.excBase_ValueError t.y_NotFree.1 t.y_NotFree.2.1 t.y_NotFree.2.2) (sim_cons (sim_mkE0 (by decide) PySem.F.excBase_ValueError t.y_NotFree.1 t.y_NotFree.2.1 t.y_NotFree.2.2) (sim_cons (sim_lam0 (l := 30) (D := lamD 30) (by rw [t.lam]) t.tb__law_made_b (hcv.symm.trans t.cd__law_made_b) rfl t.tm__law_made_b t.tu__law_made_b rfl rfl (by decide +kernel)) (sim_cons (sim_lst sim_nil) sim_nil))))) sim_nil)))
  (sim_scons (sim_expr (sim_bm PySem.F.plainAttrs_list PySem.F.slot_list_append PySem.F.type_list_append mt_append mAppend_ok chkL_ok (sim_var (i := 1) rfl (.inl rfl)) (sim_cons (sim_tup (sim_cons (sim_mkE (by decide) t.x_BadWay.ox t.x_BadWay.ini t.x_BadWay.tyi t.x_BadWay.no (init_BadWay t) t.x_BadWay.bd rfl rfl tk (hr.mono (by decide : 2 ≤ 3)) t.x_BadWay.mg (sim_var (i := 0) rfl (.inl rfl))) (sim_cons (sim_mkEK (ks := ["way"]) (by decide) t.x_BadWay.ox t.x_BadWay.ini t.x_BadWay.tyi t.x_BadWay.no (init_BadWay t) (kb_BadWay t) rfl rfl tk (hr.mono (by decide : 2 ≤ 3)) t.x_BadWay.mg (sk_cons (sim_var (i := 0) rfl (.inl rfl)) sk_nil)) (sim_cons (sim_lam0 (l := 31) (D := lamD 31) (by rw [t.lam]) t.tb__law_made_b (hcv.symm.trans t.cd__law_made_b) rfl t.tm__law_made_b t.tu__law_made_b rfl rfl (by decide +kernel)) (sim_cons (sim_lst (sim_cons (sim_var (i := 0) rfl (.inl rfl)) sim_nil)) sim_nil))))) sim_nil)))
  (sim_scons (sim_expr (sim_bm PySem.F.plainAttrs_list PySem.F.slot_list_append PySem.F.type_list_append mt_append mAppend_ok chkL_ok (sim_var (i := 1) rfl (.inl rfl)) (sim_cons (sim_tup (sim_cons (sim_mkE0 (by decide) PySem.F.excBase_ValueError t.y_NotClear.1 t.y_NotClear.2.1 t.y_NotClear.2.2) (sim_cons (sim_mkE0 (by decide) PySem.F.excBase_ValueError t.y_NotClear.1 t.y_NotClear.2.1 t.y_NotClear.2.2) (sim_cons (sim_lam0 (l := 32) (D := lamD 32) (by rw [t.lam]) t.tb__law_made_b (hcv.symm.trans t.cd__law_made_b) rfl t.tm__law_made_b t.tu__law_made_b rfl rfl (by decide +kernel)) (sim_cons (sim_lst sim_nil) sim_nil))))) sim_nil)))
  (sim_scons (sim_expr (sim_bm PySem.F.plainAttrs_list PySem.F.slot_list_append PySem.F.type_list_append mt_append mAppend_ok chkL_ok (sim_var (i := 1) rfl (.inl rfl)) (sim_cons (sim_tup (sim_cons (sim_mkE0 (by decide) PySem.F.excBase_ValueError t.y_NotStraight.1 t.y_NotStraight.2.1 t.y_NotStraight.2.2) (sim_cons (sim_mkE0 (by decide) PySem.F.excBase_ValueError t.y_NotStraight.1 t.y_NotStraight.2.1 t.y_NotStraight.2.2) (sim_cons (sim_lam0 (l := 33) (D := lamD 33) (by rw [t.lam]) t.tb__law_made_b (hcv.symm.trans t.cd__law_made_b) rfl t.tm__law_made_b t.tu__law_made_b rfl rfl (by decide +kernel)) (sim_cons (sim_lst sim_nil) sim_nil))))) sim_nil)))
  (sim_scons (sim_expr (sim_bm PySem.F.plainAttrs_list PySem.F.slot_list_append PySem.F.type_list_append mt_append mAppend_ok chkL_ok (sim_var (i := 1) rfl (.inl rfl)) (sim_cons (sim_tup (sim_cons (sim_mkE (by decide) t.x_BadCount.ox t.x_BadCount.ini t.x_BadCount.tyi t.x_BadCount.no (init_BadCount t) t.x_BadCount.bd rfl rfl tk (hr.mono (by decide : 2 ≤ 3)) t.x_BadCount.mg (sim_var (i := 0) rfl (.inl rfl))) (sim_cons (sim_mkEK (ks := ["count"]) (by decide) t.x_BadCount.ox t.x_BadCount.ini t.x_BadCount.tyi t.x_BadCount.no (init_BadCount t) (kb_BadCount t) rfl rfl tk (hr.mono (by decide : 2 ≤ 3)) t.x_BadCount.mg (sk_cons (sim_var (i := 0) rfl (.inl rfl)) sk_nil)) (sim_cons (sim_lam0 (l := 34) (D := lamD 34) (by rw [t.lam]) t.tb__law_made_b (hcv.symm.trans t.cd__law_made_b) rfl t.tm__law_made_b t.tu__law_made_b rfl rfl (by decide +kernel)) (sim_cons (sim_lst (sim_cons (sim_var (i := 0) rfl (.inl rfl)) sim_nil)) sim_nil))))) sim_nil)))
  (sim_scons (sim_expr (sim_bm PySem.F.plainAttrs_list PySem.F.slot_list_append PySem.F.type_list_append mt_append mAppend_ok chkL_ok (sim_var (i := 1) rfl (.inl rfl)) (sim_cons (sim_tup (sim_cons (sim_mkE (by decide) t.x_BadPlace.ox t.x_BadPlace.ini t.x_BadPlace.tyi t.x_BadPlace.no (init_BadPlace t) t.x_BadPlace.bd rfl rfl tk (hr.mono (by decide : 2 ≤ 3)) t.x_BadPlace.mg (sim_var (i := 0) rfl (.inl rfl))) (sim_cons (sim_mkEK (ks := ["place"]) (by decide) t.x_BadPlace.ox t.x_BadPlace.ini t.x_BadPlace.tyi t.x_BadPlace.no (init_BadPlace t) (kb_BadPlace t) rfl rfl tk (hr.mono (by decide : 2 ≤ 3)) t.x_BadPlace.mg (sk_cons (sim_var (i := 0) rfl (.inl rfl)) sk_nil)) (sim_cons (sim_lam0 (l := 35) (D := lamD 35) (by rw [t.lam]) t.tb__law_made_b (hcv.symm.trans t.cd__law_made_b) rfl t.tm__law_made_b t.tu__law_made_b rfl rfl (by decide +kernel)) (sim_cons (sim_lst (sim_cons (sim_var (i := 0) rfl (.inl rfl)) sim_nil)) sim_nil))))) sim_nil)))
  (sim_scons (sim_expr (sim_bm PySem.F.plainAttrs_list PySem.F.slot_list_append PySem.F.type_list_append mt_append mAppend_ok chkL_ok (sim_var (i := 1) rfl (.inl rfl)) (sim_cons (sim_tup (sim_cons (sim_mkE (by decide) t.x_BadThing.ox t.x_BadThing.ini t.x_BadThing.tyi t.x_BadThing.no (init_BadThing t) t.x_BadThing.bd rfl rfl tk (hr.mono (by decide : 2 ≤ 3)) t.x_BadThing.mg (sim_var (i := 0) rfl (.inl rfl))) (sim_cons (sim_mkEK (ks := ["thing"]) (by decide) t.x_BadThing.ox t.x_BadThing.ini t.x_BadThing.tyi t.x_BadThing.no (init_BadThing t) (kb_BadThing t) rfl rfl tk (hr.mono (by decide : 2 ≤ 3)) t.x_BadThing.mg (sk_cons (sim_var (i := 0) rfl (.inl rfl)) sk_nil)) (sim_cons (sim_lam0 (l := 36) (D := lamD 36) (by rw [t.lam]) t.tb__law_made_b (hcv.symm.trans t.cd__law_made_b) rfl t.tm__law_made_b t.tu__law_made_b rfl rfl (by decide +kernel)) (sim_cons (sim_lst (sim_cons (sim_var (i := 0) rfl (.inl rfl)) sim_nil)) sim_nil))))) sim_nil)))
  (sim_scons (sim_expr (sim_bm PySem.F.plainAttrs_list PySem.F.slot_list_append PySem.F.type_list_append mt_append mAppend_ok chkL_ok (sim_var (i := 1) rfl (.inl rfl)) (sim_cons (sim_tup (sim_cons (sim_mkE (by decide) t.x_NoName.ox t.x_NoName.ini t.x_NoName.tyi t.x_NoName.no (init_NoName t) t.x_NoName.bd rfl rfl tk (hr.mono (by decide : 2 ≤ 3)) t.x_NoName.mg (sim_var (i := 0) rfl (.inl rfl))) (sim_cons (sim_mkEK (ks := ["name"]) (by decide) t.x_NoName.ox t.x_NoName.ini t.x_NoName.tyi t.x_NoName.no (init_NoName t) (kb_NoName t) rfl rfl tk (hr.mono (by decide : 2 ≤ 3)) t.x_NoName.mg (sk_cons (sim_var (i := 0) rfl (.inl rfl)) sk_nil)) (sim_cons (sim_lam0 (l := 37) (D := lamD 37) (by rw [t.lam]) t.tb__law_made_b (hcv.symm.trans t.cd__law_made_b) rfl t.tm__law_made_b t.tu__law_made_b rfl rfl (by decide +kernel)) (sim_cons (sim_lst (sim_cons (sim_var (i := 0) rfl (.inl rfl)) sim_nil)) sim_nil))))) sim_nil)))
  (sim_scons (sim_expr (sim_bm PySem.F.plainAttrs_list PySem.F.slot_list_append PySem.F.type_list_append mt_append mAppend_ok chkL_ok (sim_var (i := 1) rfl (.inl rfl)) (sim_cons (sim_tup (sim_cons (sim_mkE (by decide) t.x_InRing.ox t.x_InRing.ini t.x_InRing.tyi t.x_InRing.no (init_InRing t) t.x_InRing.bd rfl rfl tk (hr.mono (by decide : 2 ≤ 3)) t.x_InRing.mg (sim_var (i := 0) rfl (.inl rfl))) (sim_cons (sim_mkEK (ks := ["name"]) (by decide) t.x_InRing.ox t.x_InRing.ini t.x_InRing.tyi t.x_InRing.no (init_InRing t) (kb_InRing t) rfl rfl tk (hr.mono (by decide : 2 ≤ 3)) t.x_InRing.mg (sk_cons (sim_var (i := 0) rfl (.inl rfl)) sk_nil)) (sim_cons (sim_lam0 (l := 38) (D := lamD 38) (by rw [t.lam]) t.tb__law_made_b (hcv.symm.trans t.cd__law_made_b) rfl t.tm__law_made_b t.tu__law_made_b rfl rfl (by decide +kernel)) (sim_cons (sim_lst (sim_cons (sim_var (i := 0) rfl (.inl rfl)) sim_nil)) sim_nil))))) sim_nil)))
  (sim_scons (sim_expr (sim_bm PySem.F.plainAttrs_list PySem.F.slot_list_append PySem.F.type_list_append mt_append mAppend_ok chkL_ok (sim_var (i := 1) rfl (.inl rfl)) (sim_cons (sim_tup (sim_cons (sim_mkE (by decide) t.x_InUse.ox t.x_InUse.ini t.x_InUse.tyi t.x_InUse.no (init_InUse t) t.x_InUse.bd rfl rfl tk (hr.mono (by decide : 2 ≤ 3)) t.x_InUse.mg (sim_var (i := 0) rfl (.inl rfl))) (sim_cons (sim_mkEK (ks := ["user"]) (by decide) t.x_InUse.ox t.x_InUse.ini t.x_InUse.tyi t.x_InUse.no (init_InUse t) (kb_InUse t) rfl rfl tk (hr.mono (by decide : 2 ≤ 3)) t.x_InUse.mg (sk_cons (sim_var (i := 0) rfl (.inl rfl)) sk_nil)) (sim_cons (sim_lam0 (l := 39) (D := lamD 39) (by rw [t.lam]) t.tb__law_made_b (hcv.symm.trans t.cd__law_made_b) rfl t.tm__law_made_b t.tu__law_made_b rfl rfl (by decide +kernel)) (sim_cons (sim_lst (sim_cons (sim_var (i := 0) rfl (.inl rfl)) sim_nil)) sim_nil))))) sim_nil)))
  (sim_scons (sim_expr (sim_bm PySem.F.plainAttrs_list PySem.F.slot_list_append PySem.F.type_list_append mt_append mAppend_ok chkL_ok (sim_var (i := 1) rfl (.inl rfl)) (sim_cons (sim_tup (sim_cons (sim_mkE (by decide) t.x_NoThing.ox t.x_NoThing.ini t.x_NoThing.tyi t.x_NoThing.no (init_NoThing t) t.x_NoThing.bd rfl rfl tk (hr.mono (by decide : 2 ≤ 3)) t.x_NoThing.mg (sim_var (i := 0) rfl (.inl rfl))) (sim_cons (sim_mkEK (ks := ["name"]) (by decide) t.x_NoThing.ox t.x_NoThing.ini t.x_NoThing.tyi t.x_NoThing.no (init_NoThing t) (kb_NoThing t) rfl rfl tk (hr.mono (by decide : 2 ≤ 3)) t.x_NoThing.mg (sk_cons (sim_var (i := 0) rfl (.inl rfl)) sk_nil)) (sim_cons (sim_lam0 (l := 40) (D := lamD 40) (by rw [t.lam]) t.tb__law_made_b (hcv.symm.trans t.cd__law_made_b) rfl t.tm__law_made_b t.tu__law_made_b rfl rfl (by decide +kernel)) (sim_cons (sim_lst (sim_cons (sim_var (i := 0) rfl (.inl rfl)) sim_nil)) sim_nil))))) sim_nil)))
  (sim_scons (sim_expr (sim_bm PySem.F.plainAttrs_list PySem.F.slot_list_append PySem.F.type_list_append mt_append mAppend_ok chkL_ok (sim_var (i := 1) rfl (.inl rfl)) (sim_cons (sim_tup (sim_cons (sim_mkE (by decide) t.x_BadVow.ox t.x_BadVow.ini t.x_BadVow.tyi t.x_BadVow.no (init_BadVow t) t.x_BadVow.bd rfl rfl tk (hr.mono (by decide : 2 ≤ 3)) t.x_BadVow.mg (sim_var (i := 0) rfl (.inl rfl))) (sim_cons (sim_mkEK (ks := ["vow"]) (by decide) t.x_BadVow.ox t.x_BadVow.ini t.x_BadVow.tyi t.x_BadVow.no (init_BadVow t) (kb_BadVow t) rfl rfl tk (hr.mono (by decide : 2 ≤ 3)) t.x_BadVow.mg (sk_cons (sim_var (i := 0) rfl (.inl rfl)) sk_nil)) (sim_cons (sim_lam0 (l := 41) (D := lamD 41) (by rw [t.lam]) t.tb__law_made_b (hcv.symm.trans t.cd__law_made_b) rfl t.tm__law_made_b t.tu__law_made_b rfl rfl (by decide +kernel)) (sim_cons (sim_lst (sim_cons (sim_var (i := 0) rfl (.inl rfl)) sim_nil)) sim_nil))))) sim_nil)))
  (sim_scons (sim_expr (sim_bm PySem.F.plainAttrs_list PySem.F.slot_list_append PySem.F.type_list_append mt_append mAppend_ok chkL_ok (sim_var (i := 1) rfl (.inl rfl)) (sim_cons (sim_tup (sim_cons (sim_mkE (by decide) t.x_Watched.ox t.x_Watched.ini t.x_Watched.tyi t.x_Watched.no (init_Watched t) t.x_Watched.bd rfl rfl tk (hr.mono (by decide : 2 ≤ 3)) t.x_Watched.mg (sim_var (i := 0) rfl (.inl rfl))) (sim_cons (sim_mkEK (ks := ["vow"]) (by decide) t.x_Watched.ox t.x_Watched.ini t.x_Watched.tyi t.x_Watched.no (init_Watched t) (kb_Watched t) rfl rfl tk (hr.mono (by decide : 2 ≤ 3)) t.x_Watched.mg (sk_cons (sim_var (i := 0) rfl (.inl rfl)) sk_nil)) (sim_cons (sim_lam0 (l := 42) (D := lamD 42) (by rw [t.lam]) t.tb__law_made_b (hcv.symm.trans t.cd__law_made_b) rfl t.tm__law_made_b t.tu__law_made_b rfl rfl (by decide +kernel)) (sim_cons (sim_lst (sim_cons (sim_var (i := 0) rfl (.inl rfl)) sim_nil)) sim_nil))))) sim_nil)))
  (sim_scons (sim_expr (sim_bm PySem.F.plainAttrs_list PySem.F.slot_list_append PySem.F.type_list_append mt_append mAppend_ok chkL_ok (sim_var (i := 1) rfl (.inl rfl)) (sim_cons (sim_tup (sim_cons (sim_mkE (by decide) t.x_NotHeldNow.ox t.x_NotHeldNow.ini t.x_NotHeldNow.tyi t.x_NotHeldNow.no (init_NotHeldNow t) t.x_NotHeldNow.bd rfl rfl tk (hr.mono (by decide : 2 ≤ 3)) t.x_NotHeldNow.mg (sim_var (i := 0) rfl (.inl rfl))) (sim_cons (sim_mkEK (ks := ["vow"]) (by decide) t.x_NotHeldNow.ox t.x_NotHeldNow.ini t.x_NotHeldNow.tyi t.x_NotHeldNow.no (init_NotHeldNow t) (kb_NotHeldNow t) rfl rfl tk (hr.mono (by decide : 2 ≤ 3)) t.x_NotHeldNow.mg (sk_cons (sim_var (i := 0) rfl (.inl rfl)) sk_nil)) (sim_cons (sim_lam0 (l := 43) (D := lamD 43) (by rw [t.lam]) t.tb__law_made_b (hcv.symm.trans t.cd__law_made_b) rfl t.tm__law_made_b t.tu__law_made_b rfl rfl (by decide +kernel)) (sim_cons (sim_lst (sim_cons (sim_var (i := 0) rfl (.inl rfl)) sim_nil)) sim_nil))))) sim_nil)))
  (sim_scons (sim_expr (sim_bm PySem.F.plainAttrs_list PySem.F.slot_list_append PySem.F.type_list_append mt_append mAppend_ok chkL_ok (sim_var (i := 1) rfl (.inl rfl)) (sim_cons (sim_tup (sim_cons (sim_mkE (by decide) t.x_NotWatched.ox t.x_NotWatched.ini t.x_NotWatched.tyi t.x_NotWatched.no (init_NotWatched t) t.x_NotWatched.bd rfl rfl tk (hr.mono (by decide : 2 ≤ 3)) t.x_NotWatched.mg (sim_var (i := 0) rfl (.inl rfl))) (sim_cons (sim_mkEK (ks := ["vow"]) (by decide) t.x_NotWatched.ox t.x_NotWatched.ini t.x_NotWatched.tyi t.x_NotWatched.no (init_NotWatched t) (kb_NotWatched t) rfl rfl tk (hr.mono (by decide : 2 ≤ 3)) t.x_NotWatched.mg (sk_cons (sim_var (i := 0) rfl (.inl rfl)) sk_nil)) (sim_cons (sim_lam0 (l := 44) (D := lamD 44) (by rw [t.lam]) t.tb__law_made_b (hcv.symm.trans t.cd__law_made_b) rfl t.tm__law_made_b t.tu__law_made_b rfl rfl (by decide +kernel)) (sim_cons (sim_lst (sim_cons (sim_var (i := 0) rfl (.inl rfl)) sim_nil)) sim_nil))))) sim_nil)))
  (sim_scons (sim_expr (sim_bm PySem.F.plainAttrs_list PySem.F.slot_list_append PySem.F.type_list_append mt_append mAppend_ok chkL_ok (sim_var (i := 1) rfl (.inl rfl)) (sim_cons (sim_tup (sim_cons (sim_mkE (by decide) t.x_Broken.ox t.x_Broken.ini t.x_Broken.tyi t.x_Broken.no (init_Broken t) t.x_Broken.bd rfl rfl tk (hr.mono (by decide : 2 ≤ 3)) t.x_Broken.mg (sim_var (i := 0) rfl (.inl rfl))) (sim_cons (sim_mkEK (ks := ["vow"]) (by decide) t.x_Broken.ox t.x_Broken.ini t.x_Broken.tyi t.x_Broken.no (init_Broken t) (kb_Broken t) rfl rfl tk (hr.mono (by decide : 2 ≤ 3)) t.x_Broken.mg (sk_cons (sim_var (i := 0) rfl (.inl rfl)) sk_nil)) (sim_cons (sim_lam0 (l := 45) (D := lamD 45) (by rw [t.lam]) t.tb__law_made_b (hcv.symm.trans t.cd__law_made_b) rfl t.tm__law_made_b t.tu__law_made_b rfl rfl (by decide +kernel)) (sim_cons (sim_lst (sim_cons (sim_var (i := 0) rfl (.inl rfl)) sim_nil)) sim_nil))))) sim_nil)))
  (sim_sone (sim_ret (sim_var (i := 1) rfl (.inl rfl))))))))))))))))))))))))))))
theorem fn__law_made_b (t : Tp P w K mg base G fd fi fdi tc tp) : Fn P w K mg base G 4 (G.fa 5) (fd 5) ["x"] m__law_made_b := ⟨ok__law_made_b t, t.f__law_made_b.kp, bd__law_made_b t⟩
theorem sc__law_kinds_a : FnScope ["e", "found"] ["e"] (defScope (top 56)) := ⟨rfl, rfl, rfl, by decide +kernel, rfl, by decide +kernel, by decide +kernel⟩
theorem bd__law_kinds_a (t : Tp P w K mg base G fd fi fdi tc tp) : Binds K (fd 6) ["e"] [] := t.f__law_kinds_a.bindsN fun _ _ _ _ _ _ us hl => match us, hl with | [_], _ => rfl
theorem ok__law_kinds_a (t : Tp P w K mg base G fd fi fdi tc tp) : FnOk P w K mg base (L2.CX P w) 2 (G.fa 6) (fd 6) ["e"] (spS K G 1 m__law_kinds_a) := by
  refine fnDc (k := 1) t.f__law_kinds_a sc__law_kinds_a (bf := b__law_kinds_a) fun cdv hcv A outer s H E hr => ?_
  have tk := takes_fn (P := P) (w := w) (K := K) (mg := mg) (base := base) (N := ["e", "found"]) (qual := "_law_kinds_a") (scope := defScope (top 56)) (f := G.fa 6) (cdv := cdv) (A := A) (outer := outer) (s := s) (H := H) (E := E)
  exact (sim_scons (sim_set (i := 1) sc__law_kinds_a.nd rfl (.inl rfl) (sim_lstM sim_nil))
  (sim_scons (sim_set (i := 1) sc__law_kinds_a.nd rfl (.inl rfl) (sim_op op_addV oAdd_ok (sim_var (i := 1) rfl (.inl rfl)) (sim_lst (sim_cons (sim_isE t.tab (sim_cons (sim_var (i := 0) rfl (.inl rfl)) (sim_cons (sim_glob (y := .fn 1001) (v := .ref (G.fa 1001)) rfl t.k_BadText rfl (fun _ _ _ => by simp only [Rv])) sim_nil)) PyProof.Rows.Boot.«isinstance» t.b_isinstance) (sim_cons (sim_isE t.tab (sim_cons (sim_var (i := 0) rfl (.inl rfl)) (sim_cons (sim_glob (y := .fn 1002) (v := .ref (G.fa 1002)) rfl t.k_BadProgram rfl (fun _ _ _ => by simp only [Rv])) sim_nil)) PyProof.Rows.Boot.«isinstance» t.b_isinstance) (sim_cons (sim_isE t.tab (sim_cons (sim_var (i := 0) rfl (.inl rfl)) (sim_cons (sim_glob (y := .fn 1003) (v := .ref (G.fa 1003)) rfl t.k_BadTexts rfl (fun _ _ _ => by simp only [Rv])) sim_nil)) PyProof.Rows.Boot.«isinstance» t.b_isinstance) sim_nil))))))
  (sim_scons (sim_set (i := 1) sc__law_kinds_a.nd rfl (.inl rfl) (sim_op op_addV oAdd_ok (sim_var (i := 1) rfl (.inl rfl)) (sim_lst (sim_cons (sim_isE t.tab (sim_cons (sim_var (i := 0) rfl (.inl rfl)) (sim_cons (sim_glob (y := .fn 1004) (v := .ref (G.fa 1004)) rfl t.k_BadIndex rfl (fun _ _ _ => by simp only [Rv])) sim_nil)) PyProof.Rows.Boot.«isinstance» t.b_isinstance) (sim_cons (sim_isE t.tab (sim_cons (sim_var (i := 0) rfl (.inl rfl)) (sim_cons (sim_glob (y := .fn 1005) (v := .ref (G.fa 1005)) rfl t.k_NotRight rfl (fun _ _ _ => by simp only [Rv])) sim_nil)) PyProof.Rows.Boot.«isinstance» t.b_isinstance) (sim_cons (sim_isE t.tab (sim_cons (sim_var (i := 0) rfl (.inl rfl)) (sim_cons (sim_glob (y := .fn 1006) (v := .ref (G.fa 1006)) rfl t.k_BadName rfl (fun _ _ _ => by simp only [Rv])) sim_nil)) PyProof.Rows.Boot.«isinstance» t.b_isinstance) sim_nil))))))
  (sim_scons (sim_set (i := 1) sc__law_kinds_a.nd rfl (.inl rfl) (sim_op op_addV oAdd_ok (sim_var (i := 1) rfl (.inl rfl)) (sim_lst (sim_cons (sim_isE t.tab (sim_cons (sim_var (i := 0) rfl (.inl rfl)) (sim_cons (sim_glob (y := .fn 1007) (v := .ref (G.fa 1007)) rfl t.k_BadAnswers rfl (fun _ _ _ => by simp only [Rv])) sim_nil)) PyProof.Rows.Boot.«isinstance» t.b_isinstance) (sim_cons (sim_isE t.tab (sim_cons (sim_var (i := 0) rfl (.inl rfl)) (sim_cons (sim_glob (y := .fn 1008) (v := .ref (G.fa 1008)) rfl t.k_BadMost rfl (fun _ _ _ => by simp only [Rv])) sim_nil)) PyProof.Rows.Boot.«isinstance» t.b_isinstance) (sim_cons (sim_isE t.tab (sim_cons (sim_var (i := 0) rfl (.inl rfl)) (sim_cons (sim_glob (y := .fn 1009) (v := .ref (G.fa 1009)) rfl t.k_BadModule rfl (fun _ _ _ => by simp only [Rv])) sim_nil)) PyProof.Rows.Boot.«isinstance» t.b_isinstance) sim_nil))))))
  (sim_scons (sim_set (i := 1) sc__law_kinds_a.nd rfl (.inl rfl) (sim_op op_addV oAdd_ok (sim_var (i := 1) rfl (.inl rfl)) (sim_lst (sim_cons (sim_isE t.tab (sim_cons (sim_var (i := 0) rfl (.inl rfl)) (sim_cons (sim_glob (y := .fn 1010) (v := .ref (G.fa 1010)) rfl t.k_BadObject rfl (fun _ _ _ => by simp only [Rv])) sim_nil)) PyProof.Rows.Boot.«isinstance» t.b_isinstance) (sim_cons (sim_isE t.tab (sim_cons (sim_var (i := 0) rfl (.inl rfl)) (sim_cons (sim_glob (y := .fn 1011) (v := .ref (G.fa 1011)) rfl t.k_BadObjects rfl (fun _ _ _ => by simp only [Rv])) sim_nil)) PyProof.Rows.Boot.«isinstance» t.b_isinstance) (sim_cons (sim_isE t.tab (sim_cons (sim_var (i := 0) rfl (.inl rfl)) (sim_cons (sim_glob (y := .fn 1012) (v := .ref (G.fa 1012)) rfl t.k_NotLinked rfl (fun _ _ _ => by simp only [Rv])) sim_nil)) PyProof.Rows.Boot.«isinstance» t.b_isinstance) sim_nil))))))
  (sim_scons (sim_set (i := 1) sc__law_kinds_a.nd rfl (.inl rfl) (sim_op op_addV oAdd_ok (sim_var (i := 1) rfl (.inl rfl)) (sim_lst (sim_cons (sim_isE t.tab (sim_cons (sim_var (i := 0) rfl (.inl rfl)) (sim_cons (sim_glob (y := .fn 1013) (v := .ref (G.fa 1013)) rfl t.k_BadForm rfl (fun _ _ _ => by simp only [Rv])) sim_nil)) PyProof.Rows.Boot.«isinstance» t.b_isinstance) (sim_cons (sim_isE t.tab (sim_cons (sim_var (i := 0) rfl (.inl rfl)) (sim_cons (sim_glob (y := .fn 1014) (v := .ref (G.fa 1014)) rfl t.k_BadLinked rfl (fun _ _ _ => by simp only [Rv])) sim_nil)) PyProof.Rows.Boot.«isinstance» t.b_isinstance) (sim_cons (sim_isE t.tab (sim_cons (sim_var (i := 0) rfl (.inl rfl)) (sim_cons (sim_glob (y := .fn 1015) (v := .ref (G.fa 1015)) rfl t.k_BadState rfl (fun _ _ _ => by simp only [Rv])) sim_nil)) PyProof.Rows.Boot.«isinstance» t.b_isinstance) sim_nil))))))
  (sim_scons (sim_set (i := 1) sc__law_kinds_a.nd rfl (.inl rfl) (sim_op op_addV oAdd_ok (sim_var (i := 1) rfl (.inl rfl)) (sim_lst (sim_cons (sim_isE t.tab (sim_cons (sim_var (i := 0) rfl (.inl rfl)) (sim_cons (sim_glob (y := .fn 1016) (v := .ref (G.fa 1016)) rfl t.k_BadPlan rfl (fun _ _ _ => by simp only [Rv])) sim_nil)) PyProof.Rows.Boot.«isinstance» t.b_isinstance) (sim_cons (sim_isE t.tab (sim_cons (sim_var (i := 0) rfl (.inl rfl)) (sim_cons (sim_glob (y := .fn 1017) (v := .ref (G.fa 1017)) rfl t.k_BadStretch rfl (fun _ _ _ => by simp only [Rv])) sim_nil)) PyProof.Rows.Boot.«isinstance» t.b_isinstance) (sim_cons (sim_isE t.tab (sim_cons (sim_var (i := 0) rfl (.inl rfl)) (sim_cons (sim_glob (y := .fn 1018) (v := .ref (G.fa 1018)) rfl t.k_BadBegin rfl (fun _ _ _ => by simp only [Rv])) sim_nil)) PyProof.Rows.Boot.«isinstance» t.b_isinstance) sim_nil))))))
  (sim_scons (sim_set (i := 1) sc__law_kinds_a.nd rfl (.inl rfl) (sim_op op_addV oAdd_ok (sim_var (i := 1) rfl (.inl rfl)) (sim_lst (sim_cons (sim_isE t.tab (sim_cons (sim_var (i := 0) rfl (.inl rfl)) (sim_cons (sim_glob (y := .fn 1019) (v := .ref (G.fa 1019)) rfl t.k_BadUnits rfl (fun _ _ _ => by simp only [Rv])) sim_nil)) PyProof.Rows.Boot.«isinstance» t.b_isinstance) (sim_cons (sim_isE t.tab (sim_cons (sim_var (i := 0) rfl (.inl rfl)) (sim_cons (sim_glob (y := .fn 1020) (v := .ref (G.fa 1020)) rfl t.k_BadRow rfl (fun _ _ _ => by simp only [Rv])) sim_nil)) PyProof.Rows.Boot.«isinstance» t.b_isinstance) (sim_cons (sim_isE t.tab (sim_cons (sim_var (i := 0) rfl (.inl rfl)) (sim_cons (sim_glob (y := .fn 1021) (v := .ref (G.fa 1021)) rfl t.k_BadKeeps rfl (fun _ _ _ => by simp only [Rv])) sim_nil)) PyProof.Rows.Boot.«isinstance» t.b_isinstance) sim_nil))))))
  (sim_scons (sim_set (i := 1) sc__law_kinds_a.nd rfl (.inl rfl) (sim_op op_addV oAdd_ok (sim_var (i := 1) rfl (.inl rfl)) (sim_lst (sim_cons (sim_isE t.tab (sim_cons (sim_var (i := 0) rfl (.inl rfl)) (sim_cons (sim_glob (y := .fn 1022) (v := .ref (G.fa 1022)) rfl t.k_BadMemory rfl (fun _ _ _ => by simp only [Rv])) sim_nil)) PyProof.Rows.Boot.«isinstance» t.b_isinstance) (sim_cons (sim_isE t.tab (sim_cons (sim_var (i := 0) rfl (.inl rfl)) (sim_cons (sim_glob (y := .fn 1023) (v := .ref (G.fa 1023)) rfl t.k_BadStand rfl (fun _ _ _ => by simp only [Rv])) sim_nil)) PyProof.Rows.Boot.«isinstance» t.b_isinstance) sim_nil)))))
  (sim_sone (sim_ret (sim_var (i := 1) rfl (.inl rfl)))))))))))))
theorem fn__law_kinds_a (t : Tp P w K mg base G fd fi fdi tc tp) : Fn P w K mg base G 2 (G.fa 6) (fd 6) ["e"] m__law_kinds_a := ⟨ok__law_kinds_a t, t.f__law_kinds_a.kp, bd__law_kinds_a t⟩
theorem sc__law_kinds_b : FnScope ["e", "found"] ["e"] (defScope (top 57)) := ⟨rfl, rfl, rfl, by decide +kernel, rfl, by decide +kernel, by decide +kernel⟩
theorem bd__law_kinds_b (t : Tp P w K mg base G fd fi fdi tc tp) : Binds K (fd 7) ["e"] [] := t.f__law_kinds_b.bindsN fun _ _ _ _ _ _ us hl => match us, hl with | [_], _ => rfl
theorem ok__law_kinds_b (t : Tp P w K mg base G fd fi fdi tc tp) : FnOk P w K mg base (L2.CX P w) 2 (G.fa 7) (fd 7) ["e"] (spS K G 1 m__law_kinds_b) := by
  refine fnDc (k := 1) t.f__law_kinds_b sc__law_kinds_b (bf := b__law_kinds_b) fun cdv hcv A outer s H E hr => ?_
  have tk := takes_fn (P := P) (w := w) (K := K) (mg := mg) (base := base) (N := ["e", "found"]) (qual := "_law_kinds_b") (scope := defScope (top 57)) (f := G.fa 7) (cdv := cdv) (A := A) (outer := outer) (s := s) (H := H) (E := E)
  exact (sim_scons (sim_set (i := 1) sc__law_kinds_b.nd rfl (.inl rfl) (sim_lstM sim_nil))
  (sim_scons (sim_set (i := 1) sc__law_kinds_b.nd rfl (.inl rfl) (sim_op op_addV oAdd_ok (sim_var (i := 1) rfl (.inl rfl)) (sim_lst (sim_cons (sim_isE t.tab (sim_cons (sim_var (i := 0) rfl (.inl rfl)) (sim_cons (sim_glob (y := .fn 1024) (v := .ref (G.fa 1024)) rfl t.k_BadOrder rfl (fun _ _ _ => by simp only [Rv])) sim_nil)) PyProof.Rows.Boot.«isinstance» t.b_isinstance) (sim_cons (sim_isE t.tab (sim_cons (sim_var (i := 0) rfl (.inl rfl)) (sim_cons (sim_glob (y := .fn 1025) (v := .ref (G.fa 1025)) rfl t.k_BadCharge rfl (fun _ _ _ => by simp only [Rv])) sim_nil)) PyProof.Rows.Boot.«isinstance» t.b_isinstance) (sim_cons (sim_isE t.tab (sim_cons (sim_var (i := 0) rfl (.inl rfl)) (sim_cons (sim_glob (y := .fn 1026) (v := .ref (G.fa 1026)) rfl t.k_BadCharges rfl (fun _ _ _ => by simp only [Rv])) sim_nil)) PyProof.Rows.Boot.«isinstance» t.b_isinstance) sim_nil))))))
  (sim_scons (sim_set (i := 1) sc__law_kinds_b.nd rfl (.inl rfl) (sim_op op_addV oAdd_ok (sim_var (i := 1) rfl (.inl rfl)) (sim_lst (sim_cons (sim_isE t.tab (sim_cons (sim_var (i := 0) rfl (.inl rfl)) (sim_cons (sim_glob (y := .fn 1027) (v := .ref (G.fa 1027)) rfl t.k_BadMany rfl (fun _ _ _ => by simp only [Rv])) sim_nil)) PyProof.Rows.Boot.«isinstance» t.b_isinstance) (sim_cons (sim_isE t.tab (sim_cons (sim_var (i := 0) rfl (.inl rfl)) (sim_cons (sim_glob (y := .fn 1028) (v := .ref (G.fa 1028)) rfl t.k_NoEnd rfl (fun _ _ _ => by simp only [Rv])) sim_nil)) PyProof.Rows.Boot.«isinstance» t.b_isinstance) (sim_cons (sim_isE t.tab (sim_cons (sim_var (i := 0) rfl (.inl rfl)) (sim_cons (sim_glob (y := .fn 1029) (v := .ref (G.fa 1029)) rfl t.k_BadCells rfl (fun _ _ _ => by simp only [Rv])) sim_nil)) PyProof.Rows.Boot.«isinstance» t.b_isinstance) sim_nil))))))
  (sim_scons (sim_set (i := 1) sc__law_kinds_b.nd rfl (.inl rfl) (sim_op op_addV oAdd_ok (sim_var (i := 1) rfl (.inl rfl)) (sim_lst (sim_cons (sim_isE t.tab (sim_cons (sim_var (i := 0) rfl (.inl rfl)) (sim_cons (sim_glob (y := .fn 1030) (v := .ref (G.fa 1030)) rfl t.k_BadTorns rfl (fun _ _ _ => by simp only [Rv])) sim_nil)) PyProof.Rows.Boot.«isinstance» t.b_isinstance) (sim_cons (sim_isE t.tab (sim_cons (sim_var (i := 0) rfl (.inl rfl)) (sim_cons (sim_glob (y := .fn 1031) (v := .ref (G.fa 1031)) rfl t.k_NotFree rfl (fun _ _ _ => by simp only [Rv])) sim_nil)) PyProof.Rows.Boot.«isinstance» t.b_isinstance) (sim_cons (sim_isE t.tab (sim_cons (sim_var (i := 0) rfl (.inl rfl)) (sim_cons (sim_glob (y := .fn 1032) (v := .ref (G.fa 1032)) rfl t.k_BadWay rfl (fun _ _ _ => by simp only [Rv])) sim_nil)) PyProof.Rows.Boot.«isinstance» t.b_isinstance) sim_nil))))))
  (sim_scons (sim_set (i := 1) sc__law_kinds_b.nd rfl (.inl rfl) (sim_op op_addV oAdd_ok (sim_var (i := 1) rfl (.inl rfl)) (sim_lst (sim_cons (sim_isE t.tab (sim_cons (sim_var (i := 0) rfl (.inl rfl)) (sim_cons (sim_glob (y := .fn 1033) (v := .ref (G.fa 1033)) rfl t.k_NotClear rfl (fun _ _ _ => by simp only [Rv])) sim_nil)) PyProof.Rows.Boot.«isinstance» t.b_isinstance) (sim_cons (sim_isE t.tab (sim_cons (sim_var (i := 0) rfl (.inl rfl)) (sim_cons (sim_glob (y := .fn 1034) (v := .ref (G.fa 1034)) rfl t.k_NotStraight rfl (fun _ _ _ => by simp only [Rv])) sim_nil)) PyProof.Rows.Boot.«isinstance» t.b_isinstance) (sim_cons (sim_isE t.tab (sim_cons (sim_var (i := 0) rfl (.inl rfl)) (sim_cons (sim_glob (y := .fn 1035) (v := .ref (G.fa 1035)) rfl t.k_BadCount rfl (fun _ _ _ => by simp only [Rv])) sim_nil)) PyProof.Rows.Boot.«isinstance» t.b_isinstance) sim_nil))))))
  (sim_scons (sim_set (i := 1) sc__law_kinds_b.nd rfl (.inl rfl) (sim_op op_addV oAdd_ok (sim_var (i := 1) rfl (.inl rfl)) (sim_lst (sim_cons (sim_isE t.tab (sim_cons (sim_var (i := 0) rfl (.inl rfl)) (sim_cons (sim_glob (y := .fn 1036) (v := .ref (G.fa 1036)) rfl t.k_BadPlace rfl (fun _ _ _ => by simp only [Rv])) sim_nil)) PyProof.Rows.Boot.«isinstance» t.b_isinstance) (sim_cons (sim_isE t.tab (sim_cons (sim_var (i := 0) rfl (.inl rfl)) (sim_cons (sim_glob (y := .fn 1037) (v := .ref (G.fa 1037)) rfl t.k_BadThing rfl (fun _ _ _ => by simp only [Rv])) sim_nil)) PyProof.Rows.Boot.«isinstance» t.b_isinstance) (sim_cons (sim_isE t.tab (sim_cons (sim_var (i := 0) rfl (.inl rfl)) (sim_cons (sim_glob (y := .fn 1038) (v := .ref (G.fa 1038)) rfl t.k_NoName rfl (fun _ _ _ => by simp only [Rv])) sim_nil)) PyProof.Rows.Boot.«isinstance» t.b_isinstance) sim_nil))))))
  (sim_scons (sim_set (i := 1) sc__law_kinds_b.nd rfl (.inl rfl) (sim_op op_addV oAdd_ok (sim_var (i := 1) rfl (.inl rfl)) (sim_lst (sim_cons (sim_isE t.tab (sim_cons (sim_var (i := 0) rfl (.inl rfl)) (sim_cons (sim_glob (y := .fn 1039) (v := .ref (G.fa 1039)) rfl t.k_InRing rfl (fun _ _ _ => by simp only [Rv])) sim_nil)) PyProof.Rows.Boot.«isinstance» t.b_isinstance) (sim_cons (sim_isE t.tab (sim_cons (sim_var (i := 0) rfl (.inl rfl)) (sim_cons (sim_glob (y := .fn 1040) (v := .ref (G.fa 1040)) rfl t.k_InUse rfl (fun _ _ _ => by simp only [Rv])) sim_nil)) PyProof.Rows.Boot.«isinstance» t.b_isinstance) (sim_cons (sim_isE t.tab (sim_cons (sim_var (i := 0) rfl (.inl rfl)) (sim_cons (sim_glob (y := .fn 1041) (v := .ref (G.fa 1041)) rfl t.k_NoThing rfl (fun _ _ _ => by simp only [Rv])) sim_nil)) PyProof.Rows.Boot.«isinstance» t.b_isinstance) sim_nil))))))
  (sim_scons (sim_set (i := 1) sc__law_kinds_b.nd rfl (.inl rfl) (sim_op op_addV oAdd_ok (sim_var (i := 1) rfl (.inl rfl)) (sim_lst (sim_cons (sim_isE t.tab (sim_cons (sim_var (i := 0) rfl (.inl rfl)) (sim_cons (sim_glob (y := .fn 1042) (v := .ref (G.fa 1042)) rfl t.k_BadVow rfl (fun _ _ _ => by simp only [Rv])) sim_nil)) PyProof.Rows.Boot.«isinstance» t.b_isinstance) (sim_cons (sim_isE t.tab (sim_cons (sim_var (i := 0) rfl (.inl rfl)) (sim_cons (sim_glob (y := .fn 1043) (v := .ref (G.fa 1043)) rfl t.k_Watched rfl (fun _ _ _ => by simp only [Rv])) sim_nil)) PyProof.Rows.Boot.«isinstance» t.b_isinstance) (sim_cons (sim_isE t.tab (sim_cons (sim_var (i := 0) rfl (.inl rfl)) (sim_cons (sim_glob (y := .fn 1044) (v := .ref (G.fa 1044)) rfl t.k_NotHeldNow rfl (fun _ _ _ => by simp only [Rv])) sim_nil)) PyProof.Rows.Boot.«isinstance» t.b_isinstance) sim_nil))))))
  (sim_scons (sim_set (i := 1) sc__law_kinds_b.nd rfl (.inl rfl) (sim_op op_addV oAdd_ok (sim_var (i := 1) rfl (.inl rfl)) (sim_lst (sim_cons (sim_isE t.tab (sim_cons (sim_var (i := 0) rfl (.inl rfl)) (sim_cons (sim_glob (y := .fn 1045) (v := .ref (G.fa 1045)) rfl t.k_NotWatched rfl (fun _ _ _ => by simp only [Rv])) sim_nil)) PyProof.Rows.Boot.«isinstance» t.b_isinstance) (sim_cons (sim_isE t.tab (sim_cons (sim_var (i := 0) rfl (.inl rfl)) (sim_cons (sim_glob (y := .fn 1046) (v := .ref (G.fa 1046)) rfl t.k_Broken rfl (fun _ _ _ => by simp only [Rv])) sim_nil)) PyProof.Rows.Boot.«isinstance» t.b_isinstance) sim_nil)))))
  (sim_sone (sim_ret (sim_var (i := 1) rfl (.inl rfl)))))))))))))
theorem fn__law_kinds_b (t : Tp P w K mg base G fd fi fdi tc tp) : Fn P w K mg base G 2 (G.fa 7) (fd 7) ["e"] m__law_kinds_b := ⟨ok__law_kinds_b t, t.f__law_kinds_b.kp, bd__law_kinds_b t⟩
theorem sc__law_is_own : FnScope ["e", "at", "k"] ["e", "at"] (defScope (top 58)) := ⟨rfl, rfl, rfl, by decide +kernel, rfl, by decide +kernel, by decide +kernel⟩
theorem bd__law_is_own (t : Tp P w K mg base G fd fi fdi tc tp) : Binds K (fd 8) ["e", "at"] [] := t.f__law_is_own.bindsN fun _ _ _ _ _ _ us hl => match us, hl with | [_, _], _ => rfl
theorem ok__law_is_own (t : Tp P w K mg base G fd fi fdi tc tp) : FnOk P w K mg base (L2.CX P w) 4 (G.fa 8) (fd 8) ["e", "at"] (spS K G 2 m__law_is_own) := by
  refine fnDc (k := 3) t.f__law_is_own sc__law_is_own (bf := b__law_is_own) fun cdv hcv A outer s H E hr => ?_
  have tk := takes_fn (P := P) (w := w) (K := K) (mg := mg) (base := base) (N := ["e", "at", "k"]) (qual := "_law_is_own") (scope := defScope (top 58)) (f := G.fa 8) (cdv := cdv) (A := A) (outer := outer) (s := s) (H := H) (E := E)
  exact (sim_scons (sim_sif (sim_tbool (sim_tor (sim_tnot (sim_truth (sim_isE t.tab (sim_cons (sim_var (i := 0) rfl (.inl rfl)) (sim_cons (sim_glob (y := .fn 1000) (v := .ref (G.fa 1000)) rfl t.k_UncutError rfl (fun _ _ _ => by simp only [Rv])) sim_nil)) PyProof.Rows.Boot.«isinstance» t.b_isinstance))) (sim_tor1 (sim_tnot (sim_truth (sim_isE t.tab (sim_cons (sim_var (i := 0) rfl (.inl rfl)) (sim_cons (sim_bltn (y := .ty "ValueError") (v := .ty "ValueError") rfl t.b_ValueError PyProof.Rows.Boot.«ValueError» rfl (fun _ _ _ => by simp only [Rv])) sim_nil)) PyProof.Rows.Boot.«isinstance» t.b_isinstance)))))) (sim_sone (sim_ret sim_bl)) sim_snil)
  (sim_scons (sim_sif (sim_truth (sim_isE t.tab (sim_cons (sim_var (i := 0) rfl (.inl rfl)) (sim_cons (sim_tup (sim_cons (sim_bltn (y := .ty "LookupError") (v := .ty "LookupError") rfl t.b_LookupError PyProof.Rows.Boot.«LookupError» rfl (fun _ _ _ => by simp only [Rv])) (sim_cons (sim_bltn (y := .ty "TypeError") (v := .ty "TypeError") rfl t.b_TypeError PyProof.Rows.Boot.«TypeError» rfl (fun _ _ _ => by simp only [Rv])) (sim_cons (sim_bltn (y := .ty "ArithmeticError") (v := .ty "ArithmeticError") rfl t.b_ArithmeticError PyProof.Rows.Boot.«ArithmeticError» rfl (fun _ _ _ => by simp only [Rv])) (sim_cons (sim_bltn (y := .ty "AttributeError") (v := .ty "AttributeError") rfl t.b_AttributeError PyProof.Rows.Boot.«AttributeError» rfl (fun _ _ _ => by simp only [Rv])) (sim_cons (sim_bltn (y := .ty "RuntimeError") (v := .ty "RuntimeError") rfl t.b_RuntimeError PyProof.Rows.Boot.«RuntimeError» rfl (fun _ _ _ => by simp only [Rv])) sim_nil)))))) sim_nil)) PyProof.Rows.Boot.«isinstance» t.b_isinstance)) (sim_sone (sim_ret sim_bl)) sim_snil)
  (sim_sone (sim_ret (sim_cmp (op_eqV (units64 hr)) oEq_ok (sim_op op_addV oAdd_ok (sim_callS (fn__law_kinds_a t) tk (hr.mono (by decide : 2 ≤ 3)) t.g__law_kinds_a (sim_cons (sim_var (i := 0) rfl (.inl rfl)) sim_nil)) (sim_callS (fn__law_kinds_b t) tk (hr.mono (by decide : 2 ≤ 3)) t.g__law_kinds_b (sim_cons (sim_var (i := 0) rfl (.inl rfl)) sim_nil))) (sim_lc (own := [("k", 2)]) rfl sc__law_is_own.nd (sim_irange1 rfl t.b_range (sim_cons sim_int sim_nil)) (blkOk_by (N := ["e", "at", "k"]) (sc := (defScope (top 58))) (by decide +kernel)) rfl (fun _ _ _ _ _ => (sp_var (i := 2) sc__law_is_own.nd rfl (.inl rfl) (by decide))) (fun _ _ _ _ _ tkb => pts_yes) (fun _ _ _ _ _ tkb => (sim_cmp (op_eqV (units64 hr)) oEq_ok (sim_var (i := 2) rfl (.inl rfl)) (sim_var (i := 1) rfl (.inr (.inl rfl))) rfl))) rfl)))))
theorem fn__law_is_own (t : Tp P w K mg base G fd fi fdi tc tp) : Fn P w K mg base G 4 (G.fa 8) (fd 8) ["e", "at"] m__law_is_own := ⟨ok__law_is_own t, t.f__law_is_own.kp, bd__law_is_own t⟩
theorem sc_law : FnScope ["script", "stream", "some", "turn", "x", "y", "made", "more", "at", "mine", "twin", "field", "due", "held"] ["script"] (defScope (top 59)) := ⟨rfl, rfl, rfl, by decide +kernel, rfl, by decide +kernel, by decide +kernel⟩
theorem bd_law (t : Tp P w K mg base G fd fi fdi tc tp) : Binds K (fd 9) ["script"] [] := t.f_law.bindsN fun _ _ _ _ _ _ us hl => match us, hl with | [_], _ => rfl
theorem ok_law (t : Tp P w K mg base G fd fi fdi tc tp) : FnOk P w K mg base (L2.CX P w) 18 (G.fa 9) (fd 9) ["script"] (spS K G 1 m_law) := by
  refine fnDc (k := 17) t.f_law sc_law (bf := b_law) fun cdv hcv A outer s H E hr => ?_
  have tk := takes_fn (P := P) (w := w) (K := K) (mg := mg) (base := base) (N := ["script", "stream", "some", "turn", "x", "y", "made", "more", "at", "mine", "twin", "field", "due", "held"]) (qual := "law") (scope := defScope (top 59)) (f := G.fa 9) (cdv := cdv) (A := A) (outer := outer) (s := s) (H := H) (E := E)
  exact (sim_scons (sim_set (i := 1) sc_law.nd rfl (.inl rfl) (sim_callS (fn__law_stream t) tk (hr.mono (by decide : 2 ≤ 17)) t.g__law_stream (sim_cons (sim_var (i := 0) rfl (.inl rfl)) sim_nil)))
  (sim_scons (sim_set (i := 2) sc_law.nd rfl (.inl rfl) (sim_lstM (sim_cons sim_non (sim_cons sim_int (sim_cons (sim_un un_neg oNeg_ok sim_int) (sim_cons sim_bl (sim_cons (sim_str rfl) (sim_cons (sim_str rfl) (sim_cons (sim_lstM (sim_cons sim_int (sim_cons (sim_str rfl) sim_nil))) (sim_cons (sim_tup (sim_cons sim_int (sim_cons sim_non sim_nil))) (sim_cons (sim_dict1 rfl pe_int) (sim_cons (sim_lstM (sim_cons (sim_lstM (sim_cons (sim_str rfl) sim_nil)) sim_nil)) (sim_cons (sim_op op_pow oPow_ok sim_int sim_int) (sim_cons (sim_tup (sim_cons (sim_str rfl) (sim_cons sim_int sim_nil))) (sim_cons sim_bl (sim_cons sim_int (sim_cons sim_int sim_nil)))))))))))))))))
  (sim_scons (sim_for passes_fn rfl (sim_irange1 rfl t.b_range (sim_cons sim_int sim_nil)) (sim_gvar (i := 3) sc_law.nd rfl (.inl rfl)) (sim_scons (sim_par (i := 4) (j := 5) rfl sc_law.nd rfl rfl (by decide) rfl rfl (sim_cons (sim_callS (fn__law_pick t) tk (hr.mono (by decide : 3 ≤ 17)) t.g__law_pick (sim_cons (sim_var (i := 1) rfl (.inl rfl)) (sim_cons (sim_var (i := 2) rfl (.inl rfl)) sim_nil))) (sim_cons (sim_callS (fn__law_pick t) tk (hr.mono (by decide : 3 ≤ 17)) t.g__law_pick (sim_cons (sim_var (i := 1) rfl (.inl rfl)) (sim_cons (sim_var (i := 2) rfl (.inl rfl)) sim_nil))) sim_nil)) (by kernel_rfl))
  (sim_scons (sim_par (i := 6) (j := 7) rfl sc_law.nd rfl rfl (by decide) rfl rfl (sim_cons (sim_op op_addV oAdd_ok (sim_callS (fn__law_made_a t) tk (hr.mono (by decide : 4 ≤ 17)) t.g__law_made_a (sim_cons (sim_var (i := 4) rfl (.inl rfl)) sim_nil)) (sim_callS (fn__law_made_b t) tk (hr.mono (by decide : 4 ≤ 17)) t.g__law_made_b (sim_cons (sim_var (i := 4) rfl (.inl rfl)) sim_nil))) (sim_cons (sim_op op_addV oAdd_ok (sim_callS (fn__law_made_a t) tk (hr.mono (by decide : 4 ≤ 17)) t.g__law_made_a (sim_cons (sim_var (i := 5) rfl (.inl rfl)) sim_nil)) (sim_callS (fn__law_made_b t) tk (hr.mono (by decide : 4 ≤ 17)) t.g__law_made_b (sim_cons (sim_var (i := 5) rfl (.inl rfl)) sim_nil))) sim_nil)) (by kernel_rfl))
  (sim_scons (sim_for passes_fn rfl (sim_ienum rfl t.b_enumerate (sim_cons (sim_var (i := 6) rfl (.inl rfl)) sim_nil)) (sim_gtup rfl (sim_gcons (sim_gvar (i := 8) sc_law.nd rfl (.inl rfl)) (sim_gcons (sim_gtup rfl (sim_gcons (sim_gvar (i := 9) sc_law.nd rfl (.inl rfl)) (sim_gcons (sim_gvar (i := 10) sc_law.nd rfl (.inl rfl)) (sim_gcons (sim_gvar (i := 11) sc_law.nd rfl (.inl rfl)) (sim_gcons (sim_gvar (i := 12) sc_law.nd rfl (.inl rfl)) sim_gnil))))) sim_gnil))) (sim_scons (sim_sif (sim_tbool (sim_tor (sim_tnot (sim_truth (sim_callS (fn__law_is_own t) tk (hr.mono (by decide : 4 ≤ 17)) t.g__law_is_own (sim_cons (sim_var (i := 9) rfl (.inl rfl)) (sim_cons (sim_var (i := 8) rfl (.inl rfl)) sim_nil))))) (sim_tor1 (sim_tnot (sim_truth (sim_callS (fn__law_is_own t) tk (hr.mono (by decide : 4 ≤ 17)) t.g__law_is_own (sim_cons (sim_var (i := 10) rfl (.inl rfl)) (sim_cons (sim_var (i := 8) rfl (.inl rfl)) sim_nil)))))))) (sim_sone (sim_ret sim_bl)) sim_snil)
  (sim_sone (sim_sif (sim_tbool (sim_tor (sim_tnot (sim_truth (sim_callQ (fn__law_same t) tk (hr.mono (by decide : 16 ≤ 17)) t.g__law_same (sim_cons (sim_callV1 (i := 11) (disp0 t) tk (hr.mono (by decide : 2 ≤ 17)) rfl (.inl rfl) (sim_cons (sim_var (i := 9) rfl (.inl rfl)) sim_nil)) (sim_cons (sim_var (i := 12) rfl (.inl rfl)) sim_nil))))) (sim_tor1 (sim_tnot (sim_truth (sim_callQ (fn__law_same t) tk (hr.mono (by decide : 16 ≤ 17)) t.g__law_same (sim_cons (sim_callV1 (i := 11) (disp0 t) tk (hr.mono (by decide : 2 ≤ 17)) rfl (.inl rfl) (sim_cons (sim_var (i := 10) rfl (.inl rfl)) sim_nil)) (sim_cons (sim_var (i := 12) rfl (.inl rfl)) sim_nil)))))))) (sim_sone (sim_ret sim_bl)) sim_snil))))
  (sim_sone (sim_sif (sim_tnot (sim_truth (sim_callB (cr_all rfl) bAll_ok (sim_cons (sim_lc (own := [("mine", 9), ("twin", 10), ("field", 11), ("due", 12)]) rfl sc_law.nd (sim_iseq (sim_var (i := 7) rfl (.inl rfl))) (blkOk_by (N := ["script", "stream", "some", "turn", "x", "y", "made", "more", "at", "mine", "twin", "field", "due", "held"]) (sc := (defScope (top 59))) (by decide +kernel)) rfl (fun _ _ _ _ _ => (sp_tup rfl (sp_cons (sp_var (i := 9) sc_law.nd rfl (.inl rfl) (by decide)) (sp_cons (sp_var (i := 10) sc_law.nd rfl (.inl rfl) (by decide)) (sp_cons (sp_var (i := 11) sc_law.nd rfl (.inl rfl) (by decide)) (sp_cons (sp_var (i := 12) sc_law.nd rfl (.inl rfl) (by decide)) sp_nil)))))) (fun _ _ _ _ _ tkb => pts_yes) (fun _ _ _ _ _ tkb => (sim_and (sim_callQ (fn__law_same t) tkb (hr.mono (by decide : 16 ≤ 17)) t.g__law_same (sim_cons (sim_callV1 (i := 11) (disp0 t) tkb (hr.mono (by decide : 2 ≤ 17)) rfl (.inl rfl) (sim_cons (sim_var (i := 9) rfl (.inl rfl)) sim_nil)) (sim_cons (sim_var (i := 12) rfl (.inl rfl)) sim_nil))) (sim_one (sim_callQ (fn__law_same t) tkb (hr.mono (by decide : 16 ≤ 17)) t.g__law_same (sim_cons (sim_callV1 (i := 11) (disp0 t) tkb (hr.mono (by decide : 2 ≤ 17)) rfl (.inl rfl) (sim_cons (sim_var (i := 10) rfl (.inl rfl)) sim_nil)) (sim_cons (sim_var (i := 12) rfl (.inl rfl)) sim_nil))))))) sim_nil) PyProof.Rows.Boot.«all» t.b_all))) (sim_sone (sim_ret sim_bl)) sim_snil))))))
  (sim_scons (sim_for passes_fn rfl (sim_iseq (sim_tup (sim_cons (sim_lstM (sim_cons (sim_str rfl) sim_nil)) (sim_cons (sim_dict1 rfl pe_int) sim_nil)))) (sim_gvar (i := 13) sc_law.nd rfl (.inl rfl)) (sim_scons (sim_set (i := 6) sc_law.nd rfl (.inl rfl) (sim_op op_addV oAdd_ok (sim_callS (fn__law_made_a t) tk (hr.mono (by decide : 4 ≤ 17)) t.g__law_made_a (sim_cons (sim_var (i := 13) rfl (.inl rfl)) sim_nil)) (sim_callS (fn__law_made_b t) tk (hr.mono (by decide : 4 ≤ 17)) t.g__law_made_b (sim_cons (sim_var (i := 13) rfl (.inl rfl)) sim_nil))))
  (sim_scons (sim_sif (sim_truth (sim_callB call_isiV (bIsi_ok t.kits) (sim_cons (sim_var (i := 13) rfl (.inl rfl)) (sim_cons (sim_bltn (y := .ty "dict") (v := .ty "dict") rfl t.b_dict PyProof.Rows.Boot.«dict» rfl (fun _ _ _ => by simp only [Rv])) sim_nil)) PyProof.Rows.Boot.«isinstance» t.b_isinstance)) (sim_sone (sim_asg sim_int (sim_gix (units1 hr) (sim_var (i := 13) rfl (.inl rfl)) (sim_str rfl)))) (sim_sone (sim_expr (sim_bm PySem.F.plainAttrs_list PySem.F.slot_list_append PySem.F.type_list_append mt_append mAppend_ok chkL_ok (sim_var (i := 13) rfl (.inl rfl)) (sim_cons (sim_str rfl) sim_nil)))))
  (sim_sone (sim_for passes_fn rfl (sim_iseq (sim_var (i := 6) rfl (.inl rfl))) (sim_gtup rfl (sim_gcons (sim_gvar (i := 9) sc_law.nd rfl (.inl rfl)) (sim_gcons (sim_gvar (i := 10) sc_law.nd rfl (.inl rfl)) (sim_gcons (sim_gvar (i := 11) sc_law.nd rfl (.inl rfl)) (sim_gcons (sim_gvar (i := 12) sc_law.nd rfl (.inl rfl)) sim_gnil))))) (sim_sone (sim_sif (sim_tbool (sim_tor (sim_tnot (sim_truth (sim_callQ (fn__law_same t) tk (hr.mono (by decide : 16 ≤ 17)) t.g__law_same (sim_cons (sim_callV1 (i := 11) (disp0 t) tk (hr.mono (by decide : 2 ≤ 17)) rfl (.inl rfl) (sim_cons (sim_var (i := 9) rfl (.inl rfl)) sim_nil)) (sim_cons (sim_var (i := 12) rfl (.inl rfl)) sim_nil))))) (sim_tor1 (sim_tnot (sim_truth (sim_callQ (fn__law_same t) tk (hr.mono (by decide : 16 ≤ 17)) t.g__law_same (sim_cons (sim_callV1 (i := 11) (disp0 t) tk (hr.mono (by decide : 2 ≤ 17)) rfl (.inl rfl) (sim_cons (sim_var (i := 10) rfl (.inl rfl)) sim_nil)) (sim_cons (sim_var (i := 12) rfl (.inl rfl)) sim_nil)))))))) (sim_sone (sim_ret sim_bl)) sim_snil)))))))
  (sim_sone (sim_ret sim_bl))))))
theorem fn_law (t : Tp P w K mg base G fd fi fdi tc tp) : Fn P w K mg base G 18 (G.fa 9) (fd 9) ["script"] m_law := ⟨ok_law t, t.f_law.kp, bd_law t⟩
end
end K00
end Vm
end
section
set_option Elab.async false
set_option linter.all false
set_option autoImplicit false
set_option maxRecDepth 100000
set_option maxHeartbeats 2000000
namespace Vm
namespace K00
open PySem PySem.Spec PyProof.Rows L2
/-! ### the head -/
def gc (K : PySem.W.Frag) : Gc := ⟨fun i => He.ga K (nmC i), fun i => if i < 1000 then He.ga K (nmF i) else He.ga K (nmC i), lamD, tabs K⟩
def fiF (K : PySem.W.Frag) (i : Nat) : Addr := He.ma K (He.ga K (nmC i)) "__init__"
def fdF (K : PySem.W.Frag) (i : Nat) : FuncData := fdAt K (He.ga K (nmF i))
def fdiF (K : PySem.W.Frag) (i : Nat) : FuncData := fdAt K (fiF K i)
theorem facts {P : Program} {w : World} {h : Heap} {K : PySem.W.Frag} {mg : Str → Option Value} {base : Heap} (X : K.In h) (N : h.Ns mainGlobals mg) (ct : He.SaysT fa dfs [] w K) (cm : ex K = true) (tb : ∀ p ∈ tf.map (He.cT K), LamX.TabB base mg p.1 p.2) : Tp P w K mg base (gc K) (fdF K) (fiF K) (fdiF K) (tcF K) (tpF K) where
  f__law_kinds_a := fun_at (ct.d.def_ 0 rfl)
  g__law_kinds_a := He.glo_ok X N (ct.d.fact 0 (f := .glo "_law_kinds_a") rfl)
  f__law_kinds_b := fun_at (ct.d.def_ 1 rfl)
  g__law_kinds_b := He.glo_ok X N (ct.d.fact 1 (f := .glo "_law_kinds_b") rfl)
  f__law_is_own := fun_at (ct.d.def_ 2 rfl)
  g__law_is_own := He.glo_ok X N (ct.d.fact 2 (f := .glo "_law_is_own") rfl)
  f__law_made_a := fun_at (ct.d.def_ 3 rfl)
  g__law_made_a := He.glo_ok X N (ct.d.fact 3 (f := .glo "_law_made_a") rfl)
  f__law_made_b := fun_at (ct.d.def_ 4 rfl)
  g__law_made_b := He.glo_ok X N (ct.d.fact 4 (f := .glo "_law_made_b") rfl)
  f__law_draw := fun_at (ct.d.def_ 5 rfl)
  g__law_draw := He.glo_ok X N (ct.d.fact 5 (f := .glo "_law_draw") rfl)
  f__law_pick := fun_at (ct.d.def_ 6 rfl)
  g__law_pick := He.glo_ok X N (ct.d.fact 6 (f := .glo "_law_pick") rfl)
  f__law_same := fun_at (ct.d.def_ 7 rfl)
  g__law_same := He.glo_ok X N (ct.d.fact 7 (f := .glo "_law_same") rfl)
  f__law_stream := fun_at (ct.d.def_ 8 rfl)
  g__law_stream := He.glo_ok X N (ct.d.fact 8 (f := .glo "_law_stream") rfl)
  f_law := fun_at (ct.d.def_ 9 rfl)
  g_law := He.glo_ok X N (ct.d.fact 9 (f := .glo "law") rfl)
  b_ArithmeticError := He.free_ok X N (ct.d.fact 10 (f := .free "ArithmeticError") rfl)
  b_AttributeError := He.free_ok X N (ct.d.fact 11 (f := .free "AttributeError") rfl)
  b_LookupError := He.free_ok X N (ct.d.fact 12 (f := .free "LookupError") rfl)
  b_RuntimeError := He.free_ok X N (ct.d.fact 13 (f := .free "RuntimeError") rfl)
  b_TypeError := He.free_ok X N (ct.d.fact 14 (f := .free "TypeError") rfl)
  b_ValueError := He.free_ok X N (ct.d.fact 15 (f := .free "ValueError") rfl)
  b_abs := He.free_ok X N (ct.d.fact 16 (f := .free "abs") rfl)
  b_all := He.free_ok X N (ct.d.fact 17 (f := .free "all") rfl)
  b_bool := He.free_ok X N (ct.d.fact 18 (f := .free "bool") rfl)
  b_dict := He.free_ok X N (ct.d.fact 19 (f := .free "dict") rfl)
  b_enumerate := He.free_ok X N (ct.d.fact 20 (f := .free "enumerate") rfl)
  b_int := He.free_ok X N (ct.d.fact 21 (f := .free "int") rfl)
  b_isinstance := He.free_ok X N (ct.d.fact 22 (f := .free "isinstance") rfl)
  b_len := He.free_ok X N (ct.d.fact 23 (f := .free "len") rfl)
  b_list := He.free_ok X N (ct.d.fact 24 (f := .free "list") rfl)
  b_range := He.free_ok X N (ct.d.fact 25 (f := .free "range") rfl)
  b_str := He.free_ok X N (ct.d.fact 26 (f := .free "str") rfl)
  b_tuple := He.free_ok X N (ct.d.fact 27 (f := .free "tuple") rfl)
  b_zip := He.free_ok X N (ct.d.fact 28 (f := .free "zip") rfl)
  x_BadText := by
    have F := fun_at (ct.d.def_ 10 rfl)
    have M := He.meth_ok (ct.d.fact 31 (f := .meth "BadText" "__init__") rfl)
    exact ⟨oexB_ok (ex_ok cm (i := 1) rfl), M.at_, eq_of_beq M.fn, He.noat_ok (ct.d.fact 30 (f := .noat "BadText" "text") rfl), F, F.bindsN fun _ _ _ _ _ _ us hl => match us, hl with | [_, _], _ => rfl, He.glo_ok X N (ct.d.fact 29 (f := .glo "BadText") rfl), L2.xfB_ok (ex_ok cm (i := 2) rfl), He.exm_ok (ct.d.fact 32 (f := .exm "BadText" "BadText" true) rfl)⟩
  x_BadProgram := by
    have F := fun_at (ct.d.def_ 11 rfl)
    have M := He.meth_ok (ct.d.fact 35 (f := .meth "BadProgram" "__init__") rfl)
    exact ⟨oexB_ok (ex_ok cm (i := 3) rfl), M.at_, eq_of_beq M.fn, He.noat_ok (ct.d.fact 34 (f := .noat "BadProgram" "program") rfl), F, F.bindsN fun _ _ _ _ _ _ us hl => match us, hl with | [_, _], _ => rfl, He.glo_ok X N (ct.d.fact 33 (f := .glo "BadProgram") rfl), L2.xfB_ok (ex_ok cm (i := 4) rfl), He.exm_ok (ct.d.fact 36 (f := .exm "BadProgram" "BadProgram" true) rfl)⟩
  x_BadTexts := by
    have F := fun_at (ct.d.def_ 12 rfl)
    have M := He.meth_ok (ct.d.fact 39 (f := .meth "BadTexts" "__init__") rfl)
    exact ⟨oexB_ok (ex_ok cm (i := 5) rfl), M.at_, eq_of_beq M.fn, He.noat_ok (ct.d.fact 38 (f := .noat "BadTexts" "texts") rfl), F, F.bindsN fun _ _ _ _ _ _ us hl => match us, hl with | [_, _], _ => rfl, He.glo_ok X N (ct.d.fact 37 (f := .glo "BadTexts") rfl), L2.xfB_ok (ex_ok cm (i := 6) rfl), He.exm_ok (ct.d.fact 40 (f := .exm "BadTexts" "BadTexts" true) rfl)⟩
  x_BadIndex := by
    have F := fun_at (ct.d.def_ 13 rfl)
    have M := He.meth_ok (ct.d.fact 43 (f := .meth "BadIndex" "__init__") rfl)
    exact ⟨oexB_ok (ex_ok cm (i := 7) rfl), M.at_, eq_of_beq M.fn, He.noat_ok (ct.d.fact 42 (f := .noat "BadIndex" "index") rfl), F, F.bindsN fun _ _ _ _ _ _ us hl => match us, hl with | [_, _], _ => rfl, He.glo_ok X N (ct.d.fact 41 (f := .glo "BadIndex") rfl), L2.xfB_ok (ex_ok cm (i := 8) rfl), He.exm_ok (ct.d.fact 44 (f := .exm "BadIndex" "BadIndex" true) rfl)⟩
  x_BadName := by
    have F := fun_at (ct.d.def_ 14 rfl)
    have M := He.meth_ok (ct.d.fact 47 (f := .meth "BadName" "__init__") rfl)
    exact ⟨oexB_ok (ex_ok cm (i := 9) rfl), M.at_, eq_of_beq M.fn, He.noat_ok (ct.d.fact 46 (f := .noat "BadName" "name") rfl), F, F.bindsN fun _ _ _ _ _ _ us hl => match us, hl with | [_, _], _ => rfl, He.glo_ok X N (ct.d.fact 45 (f := .glo "BadName") rfl), L2.xfB_ok (ex_ok cm (i := 10) rfl), He.exm_ok (ct.d.fact 48 (f := .exm "BadName" "BadName" true) rfl)⟩
  x_BadAnswers := by
    have F := fun_at (ct.d.def_ 15 rfl)
    have M := He.meth_ok (ct.d.fact 51 (f := .meth "BadAnswers" "__init__") rfl)
    exact ⟨oexB_ok (ex_ok cm (i := 11) rfl), M.at_, eq_of_beq M.fn, He.noat_ok (ct.d.fact 50 (f := .noat "BadAnswers" "answers") rfl), F, F.bindsN fun _ _ _ _ _ _ us hl => match us, hl with | [_, _], _ => rfl, He.glo_ok X N (ct.d.fact 49 (f := .glo "BadAnswers") rfl), L2.xfB_ok (ex_ok cm (i := 12) rfl), He.exm_ok (ct.d.fact 52 (f := .exm "BadAnswers" "BadAnswers" true) rfl)⟩
  x_BadMost := by
    have F := fun_at (ct.d.def_ 16 rfl)
    have M := He.meth_ok (ct.d.fact 55 (f := .meth "BadMost" "__init__") rfl)
    exact ⟨oexB_ok (ex_ok cm (i := 13) rfl), M.at_, eq_of_beq M.fn, He.noat_ok (ct.d.fact 54 (f := .noat "BadMost" "most") rfl), F, F.bindsN fun _ _ _ _ _ _ us hl => match us, hl with | [_, _], _ => rfl, He.glo_ok X N (ct.d.fact 53 (f := .glo "BadMost") rfl), L2.xfB_ok (ex_ok cm (i := 14) rfl), He.exm_ok (ct.d.fact 56 (f := .exm "BadMost" "BadMost" true) rfl)⟩
  x_BadModule := by
    have F := fun_at (ct.d.def_ 17 rfl)
    have M := He.meth_ok (ct.d.fact 59 (f := .meth "BadModule" "__init__") rfl)
    exact ⟨oexB_ok (ex_ok cm (i := 15) rfl), M.at_, eq_of_beq M.fn, He.noat_ok (ct.d.fact 58 (f := .noat "BadModule" "m") rfl), F, F.bindsN fun _ _ _ _ _ _ us hl => match us, hl with | [_, _], _ => rfl, He.glo_ok X N (ct.d.fact 57 (f := .glo "BadModule") rfl), L2.xfB_ok (ex_ok cm (i := 16) rfl), He.exm_ok (ct.d.fact 60 (f := .exm "BadModule" "BadModule" true) rfl)⟩
  x_BadObject := by
    have F := fun_at (ct.d.def_ 18 rfl)
    have M := He.meth_ok (ct.d.fact 63 (f := .meth "BadObject" "__init__") rfl)
    exact ⟨oexB_ok (ex_ok cm (i := 17) rfl), M.at_, eq_of_beq M.fn, He.noat_ok (ct.d.fact 62 (f := .noat "BadObject" "one") rfl), F, F.bindsN fun _ _ _ _ _ _ us hl => match us, hl with | [_, _], _ => rfl, He.glo_ok X N (ct.d.fact 61 (f := .glo "BadObject") rfl), L2.xfB_ok (ex_ok cm (i := 18) rfl), He.exm_ok (ct.d.fact 64 (f := .exm "BadObject" "BadObject" true) rfl)⟩
  x_BadObjects := by
    have F := fun_at (ct.d.def_ 19 rfl)
    have M := He.meth_ok (ct.d.fact 67 (f := .meth "BadObjects" "__init__") rfl)
    exact ⟨oexB_ok (ex_ok cm (i := 19) rfl), M.at_, eq_of_beq M.fn, He.noat_ok (ct.d.fact 66 (f := .noat "BadObjects" "objects") rfl), F, F.bindsN fun _ _ _ _ _ _ us hl => match us, hl with | [_, _], _ => rfl, He.glo_ok X N (ct.d.fact 65 (f := .glo "BadObjects") rfl), L2.xfB_ok (ex_ok cm (i := 20) rfl), He.exm_ok (ct.d.fact 68 (f := .exm "BadObjects" "BadObjects" true) rfl)⟩
  x_BadForm := by
    have F := fun_at (ct.d.def_ 20 rfl)
    have M := He.meth_ok (ct.d.fact 71 (f := .meth "BadForm" "__init__") rfl)
    exact ⟨oexB_ok (ex_ok cm (i := 21) rfl), M.at_, eq_of_beq M.fn, He.noat_ok (ct.d.fact 70 (f := .noat "BadForm" "thing") rfl), F, F.bindsN fun _ _ _ _ _ _ us hl => match us, hl with | [_, _], _ => rfl, He.glo_ok X N (ct.d.fact 69 (f := .glo "BadForm") rfl), L2.xfB_ok (ex_ok cm (i := 22) rfl), He.exm_ok (ct.d.fact 72 (f := .exm "BadForm" "BadForm" true) rfl)⟩
  x_BadLinked := by
    have F := fun_at (ct.d.def_ 21 rfl)
    have M := He.meth_ok (ct.d.fact 75 (f := .meth "BadLinked" "__init__") rfl)
    exact ⟨oexB_ok (ex_ok cm (i := 23) rfl), M.at_, eq_of_beq M.fn, He.noat_ok (ct.d.fact 74 (f := .noat "BadLinked" "linked") rfl), F, F.bindsN fun _ _ _ _ _ _ us hl => match us, hl with | [_, _], _ => rfl, He.glo_ok X N (ct.d.fact 73 (f := .glo "BadLinked") rfl), L2.xfB_ok (ex_ok cm (i := 24) rfl), He.exm_ok (ct.d.fact 76 (f := .exm "BadLinked" "BadLinked" true) rfl)⟩
  x_BadState := by
    have F := fun_at (ct.d.def_ 22 rfl)
    have M := He.meth_ok (ct.d.fact 79 (f := .meth "BadState" "__init__") rfl)
    exact ⟨oexB_ok (ex_ok cm (i := 25) rfl), M.at_, eq_of_beq M.fn, He.noat_ok (ct.d.fact 78 (f := .noat "BadState" "state") rfl), F, F.bindsN fun _ _ _ _ _ _ us hl => match us, hl with | [_, _], _ => rfl, He.glo_ok X N (ct.d.fact 77 (f := .glo "BadState") rfl), L2.xfB_ok (ex_ok cm (i := 26) rfl), He.exm_ok (ct.d.fact 80 (f := .exm "BadState" "BadState" true) rfl)⟩
  x_BadPlan := by
    have F := fun_at (ct.d.def_ 23 rfl)
    have M := He.meth_ok (ct.d.fact 83 (f := .meth "BadPlan" "__init__") rfl)
    exact ⟨oexB_ok (ex_ok cm (i := 27) rfl), M.at_, eq_of_beq M.fn, He.noat_ok (ct.d.fact 82 (f := .noat "BadPlan" "plan") rfl), F, F.bindsN fun _ _ _ _ _ _ us hl => match us, hl with | [_, _], _ => rfl, He.glo_ok X N (ct.d.fact 81 (f := .glo "BadPlan") rfl), L2.xfB_ok (ex_ok cm (i := 28) rfl), He.exm_ok (ct.d.fact 84 (f := .exm "BadPlan" "BadPlan" true) rfl)⟩
  x_BadStretch := by
    have F := fun_at (ct.d.def_ 24 rfl)
    have M := He.meth_ok (ct.d.fact 87 (f := .meth "BadStretch" "__init__") rfl)
    exact ⟨oexB_ok (ex_ok cm (i := 29) rfl), M.at_, eq_of_beq M.fn, He.noat_ok (ct.d.fact 86 (f := .noat "BadStretch" "stretch") rfl), F, F.bindsN fun _ _ _ _ _ _ us hl => match us, hl with | [_, _], _ => rfl, He.glo_ok X N (ct.d.fact 85 (f := .glo "BadStretch") rfl), L2.xfB_ok (ex_ok cm (i := 30) rfl), He.exm_ok (ct.d.fact 88 (f := .exm "BadStretch" "BadStretch" true) rfl)⟩
  x_BadBegin := by
    have F := fun_at (ct.d.def_ 25 rfl)
    have M := He.meth_ok (ct.d.fact 91 (f := .meth "BadBegin" "__init__") rfl)
    exact ⟨oexB_ok (ex_ok cm (i := 31) rfl), M.at_, eq_of_beq M.fn, He.noat_ok (ct.d.fact 90 (f := .noat "BadBegin" "begin") rfl), F, F.bindsN fun _ _ _ _ _ _ us hl => match us, hl with | [_, _], _ => rfl, He.glo_ok X N (ct.d.fact 89 (f := .glo "BadBegin") rfl), L2.xfB_ok (ex_ok cm (i := 32) rfl), He.exm_ok (ct.d.fact 92 (f := .exm "BadBegin" "BadBegin" true) rfl)⟩
  x_BadUnits := by
    have F := fun_at (ct.d.def_ 26 rfl)
    have M := He.meth_ok (ct.d.fact 95 (f := .meth "BadUnits" "__init__") rfl)
    exact ⟨oexB_ok (ex_ok cm (i := 33) rfl), M.at_, eq_of_beq M.fn, He.noat_ok (ct.d.fact 94 (f := .noat "BadUnits" "units") rfl), F, F.bindsN fun _ _ _ _ _ _ us hl => match us, hl with | [_, _], _ => rfl, He.glo_ok X N (ct.d.fact 93 (f := .glo "BadUnits") rfl), L2.xfB_ok (ex_ok cm (i := 34) rfl), He.exm_ok (ct.d.fact 96 (f := .exm "BadUnits" "BadUnits" true) rfl)⟩
  x_BadRow := by
    have F := fun_at (ct.d.def_ 27 rfl)
    have M := He.meth_ok (ct.d.fact 99 (f := .meth "BadRow" "__init__") rfl)
    exact ⟨oexB_ok (ex_ok cm (i := 35) rfl), M.at_, eq_of_beq M.fn, He.noat_ok (ct.d.fact 98 (f := .noat "BadRow" "row") rfl), F, F.bindsN fun _ _ _ _ _ _ us hl => match us, hl with | [_, _], _ => rfl, He.glo_ok X N (ct.d.fact 97 (f := .glo "BadRow") rfl), L2.xfB_ok (ex_ok cm (i := 36) rfl), He.exm_ok (ct.d.fact 100 (f := .exm "BadRow" "BadRow" true) rfl)⟩
  x_BadKeeps := by
    have F := fun_at (ct.d.def_ 28 rfl)
    have M := He.meth_ok (ct.d.fact 103 (f := .meth "BadKeeps" "__init__") rfl)
    exact ⟨oexB_ok (ex_ok cm (i := 37) rfl), M.at_, eq_of_beq M.fn, He.noat_ok (ct.d.fact 102 (f := .noat "BadKeeps" "keeps") rfl), F, F.bindsN fun _ _ _ _ _ _ us hl => match us, hl with | [_, _], _ => rfl, He.glo_ok X N (ct.d.fact 101 (f := .glo "BadKeeps") rfl), L2.xfB_ok (ex_ok cm (i := 38) rfl), He.exm_ok (ct.d.fact 104 (f := .exm "BadKeeps" "BadKeeps" true) rfl)⟩
  x_BadMemory := by
    have F := fun_at (ct.d.def_ 29 rfl)
    have M := He.meth_ok (ct.d.fact 107 (f := .meth "BadMemory" "__init__") rfl)
    exact ⟨oexB_ok (ex_ok cm (i := 39) rfl), M.at_, eq_of_beq M.fn, He.noat_ok (ct.d.fact 106 (f := .noat "BadMemory" "memory") rfl), F, F.bindsN fun _ _ _ _ _ _ us hl => match us, hl with | [_, _], _ => rfl, He.glo_ok X N (ct.d.fact 105 (f := .glo "BadMemory") rfl), L2.xfB_ok (ex_ok cm (i := 40) rfl), He.exm_ok (ct.d.fact 108 (f := .exm "BadMemory" "BadMemory" true) rfl)⟩
  x_BadStand := by
    have F := fun_at (ct.d.def_ 30 rfl)
    have M := He.meth_ok (ct.d.fact 111 (f := .meth "BadStand" "__init__") rfl)
    exact ⟨oexB_ok (ex_ok cm (i := 41) rfl), M.at_, eq_of_beq M.fn, He.noat_ok (ct.d.fact 110 (f := .noat "BadStand" "stand") rfl), F, F.bindsN fun _ _ _ _ _ _ us hl => match us, hl with | [_, _], _ => rfl, He.glo_ok X N (ct.d.fact 109 (f := .glo "BadStand") rfl), L2.xfB_ok (ex_ok cm (i := 42) rfl), He.exm_ok (ct.d.fact 112 (f := .exm "BadStand" "BadStand" true) rfl)⟩
  x_BadOrder := by
    have F := fun_at (ct.d.def_ 31 rfl)
    have M := He.meth_ok (ct.d.fact 115 (f := .meth "BadOrder" "__init__") rfl)
    exact ⟨oexB_ok (ex_ok cm (i := 43) rfl), M.at_, eq_of_beq M.fn, He.noat_ok (ct.d.fact 114 (f := .noat "BadOrder" "order") rfl), F, F.bindsN fun _ _ _ _ _ _ us hl => match us, hl with | [_, _], _ => rfl, He.glo_ok X N (ct.d.fact 113 (f := .glo "BadOrder") rfl), L2.xfB_ok (ex_ok cm (i := 44) rfl), He.exm_ok (ct.d.fact 116 (f := .exm "BadOrder" "BadOrder" true) rfl)⟩
  x_BadCharge := by
    have F := fun_at (ct.d.def_ 32 rfl)
    have M := He.meth_ok (ct.d.fact 119 (f := .meth "BadCharge" "__init__") rfl)
    exact ⟨oexB_ok (ex_ok cm (i := 45) rfl), M.at_, eq_of_beq M.fn, He.noat_ok (ct.d.fact 118 (f := .noat "BadCharge" "charge") rfl), F, F.bindsN fun _ _ _ _ _ _ us hl => match us, hl with | [_, _], _ => rfl, He.glo_ok X N (ct.d.fact 117 (f := .glo "BadCharge") rfl), L2.xfB_ok (ex_ok cm (i := 46) rfl), He.exm_ok (ct.d.fact 120 (f := .exm "BadCharge" "BadCharge" true) rfl)⟩
  x_BadCharges := by
    have F := fun_at (ct.d.def_ 33 rfl)
    have M := He.meth_ok (ct.d.fact 123 (f := .meth "BadCharges" "__init__") rfl)
    exact ⟨oexB_ok (ex_ok cm (i := 47) rfl), M.at_, eq_of_beq M.fn, He.noat_ok (ct.d.fact 122 (f := .noat "BadCharges" "charges") rfl), F, F.bindsN fun _ _ _ _ _ _ us hl => match us, hl with | [_, _], _ => rfl, He.glo_ok X N (ct.d.fact 121 (f := .glo "BadCharges") rfl), L2.xfB_ok (ex_ok cm (i := 48) rfl), He.exm_ok (ct.d.fact 124 (f := .exm "BadCharges" "BadCharges" true) rfl)⟩
  x_BadMany := by
    have F := fun_at (ct.d.def_ 34 rfl)
    have M := He.meth_ok (ct.d.fact 127 (f := .meth "BadMany" "__init__") rfl)
    exact ⟨oexB_ok (ex_ok cm (i := 49) rfl), M.at_, eq_of_beq M.fn, He.noat_ok (ct.d.fact 126 (f := .noat "BadMany" "many") rfl), F, F.bindsN fun _ _ _ _ _ _ us hl => match us, hl with | [_, _], _ => rfl, He.glo_ok X N (ct.d.fact 125 (f := .glo "BadMany") rfl), L2.xfB_ok (ex_ok cm (i := 50) rfl), He.exm_ok (ct.d.fact 128 (f := .exm "BadMany" "BadMany" true) rfl)⟩
  x_BadCells := by
    have F := fun_at (ct.d.def_ 35 rfl)
    have M := He.meth_ok (ct.d.fact 131 (f := .meth "BadCells" "__init__") rfl)
    exact ⟨oexB_ok (ex_ok cm (i := 51) rfl), M.at_, eq_of_beq M.fn, He.noat_ok (ct.d.fact 130 (f := .noat "BadCells" "cells") rfl), F, F.bindsN fun _ _ _ _ _ _ us hl => match us, hl with | [_, _], _ => rfl, He.glo_ok X N (ct.d.fact 129 (f := .glo "BadCells") rfl), L2.xfB_ok (ex_ok cm (i := 52) rfl), He.exm_ok (ct.d.fact 132 (f := .exm "BadCells" "BadCells" true) rfl)⟩
  x_BadTorns := by
    have F := fun_at (ct.d.def_ 36 rfl)
    have M := He.meth_ok (ct.d.fact 135 (f := .meth "BadTorns" "__init__") rfl)
    exact ⟨oexB_ok (ex_ok cm (i := 53) rfl), M.at_, eq_of_beq M.fn, He.noat_ok (ct.d.fact 134 (f := .noat "BadTorns" "torns") rfl), F, F.bindsN fun _ _ _ _ _ _ us hl => match us, hl with | [_, _], _ => rfl, He.glo_ok X N (ct.d.fact 133 (f := .glo "BadTorns") rfl), L2.xfB_ok (ex_ok cm (i := 54) rfl), He.exm_ok (ct.d.fact 136 (f := .exm "BadTorns" "BadTorns" true) rfl)⟩
  x_BadWay := by
    have F := fun_at (ct.d.def_ 37 rfl)
    have M := He.meth_ok (ct.d.fact 139 (f := .meth "BadWay" "__init__") rfl)
    exact ⟨oexB_ok (ex_ok cm (i := 55) rfl), M.at_, eq_of_beq M.fn, He.noat_ok (ct.d.fact 138 (f := .noat "BadWay" "way") rfl), F, F.bindsN fun _ _ _ _ _ _ us hl => match us, hl with | [_, _], _ => rfl, He.glo_ok X N (ct.d.fact 137 (f := .glo "BadWay") rfl), L2.xfB_ok (ex_ok cm (i := 56) rfl), He.exm_ok (ct.d.fact 140 (f := .exm "BadWay" "BadWay" true) rfl)⟩
  x_BadCount := by
    have F := fun_at (ct.d.def_ 38 rfl)
    have M := He.meth_ok (ct.d.fact 143 (f := .meth "BadCount" "__init__") rfl)
    exact ⟨oexB_ok (ex_ok cm (i := 57) rfl), M.at_, eq_of_beq M.fn, He.noat_ok (ct.d.fact 142 (f := .noat "BadCount" "count") rfl), F, F.bindsN fun _ _ _ _ _ _ us hl => match us, hl with | [_, _], _ => rfl, He.glo_ok X N (ct.d.fact 141 (f := .glo "BadCount") rfl), L2.xfB_ok (ex_ok cm (i := 58) rfl), He.exm_ok (ct.d.fact 144 (f := .exm "BadCount" "BadCount" true) rfl)⟩
  x_BadPlace := by
    have F := fun_at (ct.d.def_ 39 rfl)
    have M := He.meth_ok (ct.d.fact 147 (f := .meth "BadPlace" "__init__") rfl)
    exact ⟨oexB_ok (ex_ok cm (i := 59) rfl), M.at_, eq_of_beq M.fn, He.noat_ok (ct.d.fact 146 (f := .noat "BadPlace" "place") rfl), F, F.bindsN fun _ _ _ _ _ _ us hl => match us, hl with | [_, _], _ => rfl, He.glo_ok X N (ct.d.fact 145 (f := .glo "BadPlace") rfl), L2.xfB_ok (ex_ok cm (i := 60) rfl), He.exm_ok (ct.d.fact 148 (f := .exm "BadPlace" "BadPlace" true) rfl)⟩
  x_BadThing := by
    have F := fun_at (ct.d.def_ 40 rfl)
    have M := He.meth_ok (ct.d.fact 151 (f := .meth "BadThing" "__init__") rfl)
    exact ⟨oexB_ok (ex_ok cm (i := 61) rfl), M.at_, eq_of_beq M.fn, He.noat_ok (ct.d.fact 150 (f := .noat "BadThing" "thing") rfl), F, F.bindsN fun _ _ _ _ _ _ us hl => match us, hl with | [_, _], _ => rfl, He.glo_ok X N (ct.d.fact 149 (f := .glo "BadThing") rfl), L2.xfB_ok (ex_ok cm (i := 62) rfl), He.exm_ok (ct.d.fact 152 (f := .exm "BadThing" "BadThing" true) rfl)⟩
  x_NoName := by
    have F := fun_at (ct.d.def_ 41 rfl)
    have M := He.meth_ok (ct.d.fact 155 (f := .meth "NoName" "__init__") rfl)
    exact ⟨oexB_ok (ex_ok cm (i := 63) rfl), M.at_, eq_of_beq M.fn, He.noat_ok (ct.d.fact 154 (f := .noat "NoName" "name") rfl), F, F.bindsN fun _ _ _ _ _ _ us hl => match us, hl with | [_, _], _ => rfl, He.glo_ok X N (ct.d.fact 153 (f := .glo "NoName") rfl), L2.xfB_ok (ex_ok cm (i := 64) rfl), He.exm_ok (ct.d.fact 156 (f := .exm "NoName" "NoName" true) rfl)⟩
  x_InRing := by
    have F := fun_at (ct.d.def_ 42 rfl)
    have M := He.meth_ok (ct.d.fact 159 (f := .meth "InRing" "__init__") rfl)
    exact ⟨oexB_ok (ex_ok cm (i := 65) rfl), M.at_, eq_of_beq M.fn, He.noat_ok (ct.d.fact 158 (f := .noat "InRing" "name") rfl), F, F.bindsN fun _ _ _ _ _ _ us hl => match us, hl with | [_, _], _ => rfl, He.glo_ok X N (ct.d.fact 157 (f := .glo "InRing") rfl), L2.xfB_ok (ex_ok cm (i := 66) rfl), He.exm_ok (ct.d.fact 160 (f := .exm "InRing" "InRing" true) rfl)⟩
  x_InUse := by
    have F := fun_at (ct.d.def_ 43 rfl)
    have M := He.meth_ok (ct.d.fact 163 (f := .meth "InUse" "__init__") rfl)
    exact ⟨oexB_ok (ex_ok cm (i := 67) rfl), M.at_, eq_of_beq M.fn, He.noat_ok (ct.d.fact 162 (f := .noat "InUse" "user") rfl), F, F.bindsN fun _ _ _ _ _ _ us hl => match us, hl with | [_, _], _ => rfl, He.glo_ok X N (ct.d.fact 161 (f := .glo "InUse") rfl), L2.xfB_ok (ex_ok cm (i := 68) rfl), He.exm_ok (ct.d.fact 164 (f := .exm "InUse" "InUse" true) rfl)⟩
  x_NoThing := by
    have F := fun_at (ct.d.def_ 44 rfl)
    have M := He.meth_ok (ct.d.fact 167 (f := .meth "NoThing" "__init__") rfl)
    exact ⟨oexB_ok (ex_ok cm (i := 69) rfl), M.at_, eq_of_beq M.fn, He.noat_ok (ct.d.fact 166 (f := .noat "NoThing" "name") rfl), F, F.bindsN fun _ _ _ _ _ _ us hl => match us, hl with | [_, _], _ => rfl, He.glo_ok X N (ct.d.fact 165 (f := .glo "NoThing") rfl), L2.xfB_ok (ex_ok cm (i := 70) rfl), He.exm_ok (ct.d.fact 168 (f := .exm "NoThing" "NoThing" true) rfl)⟩
  x_BadVow := by
    have F := fun_at (ct.d.def_ 45 rfl)
    have M := He.meth_ok (ct.d.fact 171 (f := .meth "BadVow" "__init__") rfl)
    exact ⟨oexB_ok (ex_ok cm (i := 71) rfl), M.at_, eq_of_beq M.fn, He.noat_ok (ct.d.fact 170 (f := .noat "BadVow" "vow") rfl), F, F.bindsN fun _ _ _ _ _ _ us hl => match us, hl with | [_, _], _ => rfl, He.glo_ok X N (ct.d.fact 169 (f := .glo "BadVow") rfl), L2.xfB_ok (ex_ok cm (i := 72) rfl), He.exm_ok (ct.d.fact 172 (f := .exm "BadVow" "BadVow" true) rfl)⟩
  x_Watched := by
    have F := fun_at (ct.d.def_ 46 rfl)
    have M := He.meth_ok (ct.d.fact 175 (f := .meth "Watched" "__init__") rfl)
    exact ⟨oexB_ok (ex_ok cm (i := 73) rfl), M.at_, eq_of_beq M.fn, He.noat_ok (ct.d.fact 174 (f := .noat "Watched" "vow") rfl), F, F.bindsN fun _ _ _ _ _ _ us hl => match us, hl with | [_, _], _ => rfl, He.glo_ok X N (ct.d.fact 173 (f := .glo "Watched") rfl), L2.xfB_ok (ex_ok cm (i := 74) rfl), He.exm_ok (ct.d.fact 176 (f := .exm "Watched" "Watched" true) rfl)⟩
  x_NotHeldNow := by
    have F := fun_at (ct.d.def_ 47 rfl)
    have M := He.meth_ok (ct.d.fact 179 (f := .meth "NotHeldNow" "__init__") rfl)
    exact ⟨oexB_ok (ex_ok cm (i := 75) rfl), M.at_, eq_of_beq M.fn, He.noat_ok (ct.d.fact 178 (f := .noat "NotHeldNow" "vow") rfl), F, F.bindsN fun _ _ _ _ _ _ us hl => match us, hl with | [_, _], _ => rfl, He.glo_ok X N (ct.d.fact 177 (f := .glo "NotHeldNow") rfl), L2.xfB_ok (ex_ok cm (i := 76) rfl), He.exm_ok (ct.d.fact 180 (f := .exm "NotHeldNow" "NotHeldNow" true) rfl)⟩
  x_NotWatched := by
    have F := fun_at (ct.d.def_ 48 rfl)
    have M := He.meth_ok (ct.d.fact 183 (f := .meth "NotWatched" "__init__") rfl)
    exact ⟨oexB_ok (ex_ok cm (i := 77) rfl), M.at_, eq_of_beq M.fn, He.noat_ok (ct.d.fact 182 (f := .noat "NotWatched" "vow") rfl), F, F.bindsN fun _ _ _ _ _ _ us hl => match us, hl with | [_, _], _ => rfl, He.glo_ok X N (ct.d.fact 181 (f := .glo "NotWatched") rfl), L2.xfB_ok (ex_ok cm (i := 78) rfl), He.exm_ok (ct.d.fact 184 (f := .exm "NotWatched" "NotWatched" true) rfl)⟩
  x_Broken := by
    have F := fun_at (ct.d.def_ 49 rfl)
    have M := He.meth_ok (ct.d.fact 187 (f := .meth "Broken" "__init__") rfl)
    exact ⟨oexB_ok (ex_ok cm (i := 79) rfl), M.at_, eq_of_beq M.fn, He.noat_ok (ct.d.fact 186 (f := .noat "Broken" "vow") rfl), F, F.bindsN fun _ _ _ _ _ _ us hl => match us, hl with | [_, _], _ => rfl, He.glo_ok X N (ct.d.fact 185 (f := .glo "Broken") rfl), L2.xfB_ok (ex_ok cm (i := 80) rfl), He.exm_ok (ct.d.fact 188 (f := .exm "Broken" "Broken" true) rfl)⟩
  k_UncutError := He.glo_ok X N (ct.d.fact 189 (f := .glo "UncutError") rfl)
  k_BadText := He.glo_ok X N (ct.d.fact 29 (f := .glo "BadText") rfl)
  k_BadProgram := He.glo_ok X N (ct.d.fact 33 (f := .glo "BadProgram") rfl)
  k_BadTexts := He.glo_ok X N (ct.d.fact 37 (f := .glo "BadTexts") rfl)
  k_BadIndex := He.glo_ok X N (ct.d.fact 41 (f := .glo "BadIndex") rfl)
  k_NotRight := He.glo_ok X N (ct.d.fact 190 (f := .glo "NotRight") rfl)
  k_BadName := He.glo_ok X N (ct.d.fact 45 (f := .glo "BadName") rfl)
  k_BadAnswers := He.glo_ok X N (ct.d.fact 49 (f := .glo "BadAnswers") rfl)
  k_BadMost := He.glo_ok X N (ct.d.fact 53 (f := .glo "BadMost") rfl)
  k_BadModule := He.glo_ok X N (ct.d.fact 57 (f := .glo "BadModule") rfl)
  k_BadObject := He.glo_ok X N (ct.d.fact 61 (f := .glo "BadObject") rfl)
  k_BadObjects := He.glo_ok X N (ct.d.fact 65 (f := .glo "BadObjects") rfl)
  k_NotLinked := He.glo_ok X N (ct.d.fact 191 (f := .glo "NotLinked") rfl)
  k_BadForm := He.glo_ok X N (ct.d.fact 69 (f := .glo "BadForm") rfl)
  k_BadLinked := He.glo_ok X N (ct.d.fact 73 (f := .glo "BadLinked") rfl)
  k_BadState := He.glo_ok X N (ct.d.fact 77 (f := .glo "BadState") rfl)
  k_BadPlan := He.glo_ok X N (ct.d.fact 81 (f := .glo "BadPlan") rfl)
  k_BadStretch := He.glo_ok X N (ct.d.fact 85 (f := .glo "BadStretch") rfl)
  k_BadBegin := He.glo_ok X N (ct.d.fact 89 (f := .glo "BadBegin") rfl)
  k_BadUnits := He.glo_ok X N (ct.d.fact 93 (f := .glo "BadUnits") rfl)
  k_BadRow := He.glo_ok X N (ct.d.fact 97 (f := .glo "BadRow") rfl)
  k_BadKeeps := He.glo_ok X N (ct.d.fact 101 (f := .glo "BadKeeps") rfl)
  k_BadMemory := He.glo_ok X N (ct.d.fact 105 (f := .glo "BadMemory") rfl)
  k_BadStand := He.glo_ok X N (ct.d.fact 109 (f := .glo "BadStand") rfl)
  k_BadOrder := He.glo_ok X N (ct.d.fact 113 (f := .glo "BadOrder") rfl)
  k_BadCharge := He.glo_ok X N (ct.d.fact 117 (f := .glo "BadCharge") rfl)
  k_BadCharges := He.glo_ok X N (ct.d.fact 121 (f := .glo "BadCharges") rfl)
  k_BadMany := He.glo_ok X N (ct.d.fact 125 (f := .glo "BadMany") rfl)
  k_NoEnd := He.glo_ok X N (ct.d.fact 192 (f := .glo "NoEnd") rfl)
  k_BadCells := He.glo_ok X N (ct.d.fact 129 (f := .glo "BadCells") rfl)
  k_BadTorns := He.glo_ok X N (ct.d.fact 133 (f := .glo "BadTorns") rfl)
  k_NotFree := He.glo_ok X N (ct.d.fact 193 (f := .glo "NotFree") rfl)
  k_BadWay := He.glo_ok X N (ct.d.fact 137 (f := .glo "BadWay") rfl)
  k_NotClear := He.glo_ok X N (ct.d.fact 194 (f := .glo "NotClear") rfl)
  k_NotStraight := He.glo_ok X N (ct.d.fact 195 (f := .glo "NotStraight") rfl)
  k_BadCount := He.glo_ok X N (ct.d.fact 141 (f := .glo "BadCount") rfl)
  k_BadPlace := He.glo_ok X N (ct.d.fact 145 (f := .glo "BadPlace") rfl)
  k_BadThing := He.glo_ok X N (ct.d.fact 149 (f := .glo "BadThing") rfl)
  k_NoName := He.glo_ok X N (ct.d.fact 153 (f := .glo "NoName") rfl)
  k_InRing := He.glo_ok X N (ct.d.fact 157 (f := .glo "InRing") rfl)
  k_InUse := He.glo_ok X N (ct.d.fact 161 (f := .glo "InUse") rfl)
  k_NoThing := He.glo_ok X N (ct.d.fact 165 (f := .glo "NoThing") rfl)
  k_BadVow := He.glo_ok X N (ct.d.fact 169 (f := .glo "BadVow") rfl)
  k_Watched := He.glo_ok X N (ct.d.fact 173 (f := .glo "Watched") rfl)
  k_NotHeldNow := He.glo_ok X N (ct.d.fact 177 (f := .glo "NotHeldNow") rfl)
  k_NotWatched := He.glo_ok X N (ct.d.fact 181 (f := .glo "NotWatched") rfl)
  k_Broken := He.glo_ok X N (ct.d.fact 185 (f := .glo "Broken") rfl)
  y_NotRight := by
    have z := Bool.and_eq_true_iff.mp (ex_ok cm (i := 81) rfl)
    exact ⟨z.1, z.2, He.glo_ok X N (ct.d.fact 190 (f := .glo "NotRight") rfl)⟩
  y_NotLinked := by
    have z := Bool.and_eq_true_iff.mp (ex_ok cm (i := 82) rfl)
    exact ⟨z.1, z.2, He.glo_ok X N (ct.d.fact 191 (f := .glo "NotLinked") rfl)⟩
  y_NoEnd := by
    have z := Bool.and_eq_true_iff.mp (ex_ok cm (i := 83) rfl)
    exact ⟨z.1, z.2, He.glo_ok X N (ct.d.fact 192 (f := .glo "NoEnd") rfl)⟩
  y_NotFree := by
    have z := Bool.and_eq_true_iff.mp (ex_ok cm (i := 84) rfl)
    exact ⟨z.1, z.2, He.glo_ok X N (ct.d.fact 193 (f := .glo "NotFree") rfl)⟩
  y_NotClear := by
    have z := Bool.and_eq_true_iff.mp (ex_ok cm (i := 85) rfl)
    exact ⟨z.1, z.2, He.glo_ok X N (ct.d.fact 194 (f := .glo "NotClear") rfl)⟩
  y_NotStraight := by
    have z := Bool.and_eq_true_iff.mp (ex_ok cm (i := 86) rfl)
    exact ⟨z.1, z.2, He.glo_ok X N (ct.d.fact 195 (f := .glo "NotStraight") rfl)⟩
  tab := isB_ok (G := gc K) (fun j h => by
    show (if j < 1000 then _ else _) = _
    rw [if_neg (by omega)]
    rfl) rfl rfl (isB_two rfl (Bool.and_eq_true_iff.mp (Bool.and_eq_true_iff.mp cm).2).1 (Bool.and_eq_true_iff.mp (Bool.and_eq_true_iff.mp cm).2).2)
  kits := kitsB_ok (ex_ok cm (i := 0) rfl)
  lam := rfl
  tbl := rfl
  cd__law_made_a := code_at (p := ("_law_made_a", none)) (fun_at (ct.d.def_ 3 rfl))
  tb__law_made_a := tb _ (List.mem_of_getElem? (i := 0) rfl)
  tm__law_made_a := List.mem_of_getElem? (l := tabs K) (i := 0) rfl
  tu__law_made_a := tuB_ok (ex_ok cm (i := 87) rfl)
  cd__law_made_b := code_at (p := ("_law_made_b", none)) (fun_at (ct.d.def_ 4 rfl))
  tb__law_made_b := tb _ (List.mem_of_getElem? (i := 1) rfl)
  tm__law_made_b := List.mem_of_getElem? (l := tabs K) (i := 1) rfl
  tu__law_made_b := tuB_ok (ex_ok cm (i := 88) rfl)
theorem lawAt {w : World} {K : PySem.W.Frag} {mg : Str → Option Value} {h : Heap} {f : Addr} {l : PySem.W.OpenLaw} {n : Nat} (hm : ∀ ns : List Int, ns.length ≤ n → ∃ m', m_law [.scr ns] [] = .ok (.bl true) m') (X : K.In h) (N : h.Ns mainGlobals mg) (hf : mg "law" = some (.ref f)) (c : He.SaysX fa dfs [] tf ex w h K) :
    LamX.LawAtS l w K (L2.CX l.prog w) 18 n "script" mg f h := by
  have F : FnP K "law" (top 59) (He.ga K "law") (fdAt K (He.ga K "law")) := fun_at (c.t.d.def_ 9 rfl)
  have e := hf.symm.trans (He.glo_ok X N (c.t.d.fact 9 (f := .glo "law") rfl))
  cases e
  refine ⟨_, tf.map (He.cT K), spS K (gc K) 1 m_law, fun p hp => ?_, fun p hp => ?_, fun p hp => ?_, fun s u => F.bindsA (ps := ["script"]) (fun _ _ _ _ _ _ us hl => match us, hl with | [_], _ => rfl) s [u] rfl, fun H a ns hl _ hT hS => law_sp (hm ns hl) (fun p hp => ?_) hS, fun base KB NB tb => (fn_law (facts (w := w) KB NB c.t c.more tb)).ok⟩
  · obtain ⟨q, hq, rfl⟩ := List.mem_map.mp hp
    exact c.empty q hq
  · obtain ⟨q, hq, rfl⟩ := List.mem_map.mp hp
    exact c.out q hq
  · obtain ⟨q, hq, rfl⟩ := List.mem_map.mp hp
    exact PySem.W.codeHd_of_K X (c.hd q hq)
  · have z : p.1 ∈ (tf.map (He.cT K)).map (·.2) := List.mem_map_of_mem (f := (·.1)) hp
    obtain ⟨q, hq, e⟩ := List.mem_map.mp z
    rw [← e]
    exact hT q hq
end K00
end Vm
end
section
set_option Elab.async false
set_option linter.all false
set_option maxRecDepth 100000
set_option maxHeartbeats 0
open PySem PySem.W PySem.Calls PyProof.Rows
theorem k00_of (hm : ∀ ns : List Int, ns.length ≤ 63 → ∃ m', Vm.K00.m_law [.scr ns] [] = .ok (.bl true) m') : PySem.Challenge.rw_asuncut_k00_errors_made.Holds := by
  w_on; o_law
  refine HandSHeadRun.head_any (r := OpenLaw.row PySem.Challenge.rw_asuncut_k00_errors_made) (q := view (OpenLaw.row PySem.Challenge.rw_asuncut_k00_errors_made).prog [59]) (H := Vm.K00.hk) (ob := Vm.K00.ob) (M := 20000) (loose := Vm.K00.loose) (d := HandSHeadRun.topDef (OpenLaw.row PySem.Challenge.rw_asuncut_k00_errors_made).prog 59) (kwd := []) Vm.K00.ob_eq
    (by kernel_rfl) (fun s => by kernel_rfl) Vm.K00.run (by kernel_rfl) (by kernel_rfl) (by kernel_rfl) (by rfl) (by first | assumption | decide +kernel) (by decide +kernel) ⟨rfl, rfl, rfl, rfl, rfl, by decide +kernel⟩ ?hw ?hc
  case hw => w_witness2
  case hc =>
    refine LamX.walk_ofTsE (l := PySem.Challenge.rw_asuncut_k00_errors_made) (n := 63) (k := 18) (x := "script") (CX := L2.CX (PySem.Challenge.rw_asuncut_k00_errors_made).prog) rfl (by decide) (by kernel_rfl) ⟨rfl, by decide, by decide⟩ ?F ?X
    case F =>
      intro w mg fa h Y G hmg0
      obtain ⟨K, KX, c⟩ := Y
      have hmg : mg ("law" : PySem.Str) = some (.ref fa) := by
        have e : (HandSHeadRun.topDef (OpenLaw.row PySem.Challenge.rw_asuncut_k00_errors_made).prog 59).name = ("law" : PySem.Str) := by kernel_rfl
        rw [← e]
        exact hmg0
      exact ⟨K, KX, Vm.K00.lawAt hm KX G hmg c⟩
    case X =>
      intro w H s e s' z
      obtain ⟨_, _, _, _, _, _, _, _, _, _, _, _, z⟩ := z
      exact z
end
section
set_option Elab.async false
set_option linter.all false
set_option autoImplicit false
set_option maxRecDepth 100000
namespace Vm
namespace K00
open Com
@[simp] theorem mkE_at {c : Nat} {q : Sg} {x : Va} {m : Mem} : mkE c q [x] m = .ok (.obj c [(q, x)]) m := rfl
@[simp] theorem mkE0_at {c : Nat} {env : Env} {m : Mem} : mkE0 c env m = .ok (.obj c []) m := rfl
@[simp] theorem eClo0_at {l : Nat} {env : Env} {m : Mem} : eClo l [] env m = .ok (.clo l []) m := rfl
theorem chkL_last {m : Mem} {xs : List Va} : chkL (.ref m.length) (m ++ [.lst xs]) = true := chkL_ref last_at
theorem oAppend_last {m : Mem} {xs : List Va} {x : Va} (h : xs.length < 1000) : oAppend (.ref m.length) [x] (m ++ [.lst xs]) = .ok .non (m ++ [.lst (xs ++ [x])]) := by
  rw [oAppend_ref last_at (Nat.lt_trans h (by decide)), set_last]
def madeA (x : Va) : List Va := [
  .tup [.obj 1001 [([116, 101, 120, 116], x)], .obj 1001 [([116, 101, 120, 116], x)], .clo 0 [], .lst [x]],
  .tup [.obj 1002 [([112, 114, 111, 103, 114, 97, 109], x)], .obj 1002 [([112, 114, 111, 103, 114, 97, 109], x)], .clo 1 [], .lst [x]],
  .tup [.obj 1003 [([116, 101, 120, 116, 115], x)], .obj 1003 [([116, 101, 120, 116, 115], x)], .clo 2 [], .lst [x]],
  .tup [.obj 1004 [([105, 110, 100, 101, 120], x)], .obj 1004 [([105, 110, 100, 101, 120], x)], .clo 3 [], .lst [x]],
  .tup [.obj 1005 [], .obj 1005 [], .clo 4 [], .lst []],
  .tup [.obj 1006 [([110, 97, 109, 101], x)], .obj 1006 [([110, 97, 109, 101], x)], .clo 5 [], .lst [x]],
  .tup [.obj 1007 [([97, 110, 115, 119, 101, 114, 115], x)], .obj 1007 [([97, 110, 115, 119, 101, 114, 115], x)], .clo 6 [], .lst [x]],
  .tup [.obj 1008 [([109, 111, 115, 116], x)], .obj 1008 [([109, 111, 115, 116], x)], .clo 7 [], .lst [x]],
  .tup [.obj 1009 [([109], x)], .obj 1009 [([109], x)], .clo 8 [], .lst [x]],
  .tup [.obj 1010 [([111, 110, 101], x)], .obj 1010 [([111, 110, 101], x)], .clo 9 [], .lst [x]],
  .tup [.obj 1011 [([111, 98, 106, 101, 99, 116, 115], x)], .obj 1011 [([111, 98, 106, 101, 99, 116, 115], x)], .clo 10 [], .lst [x]],
  .tup [.obj 1012 [], .obj 1012 [], .clo 11 [], .lst []],
  .tup [.obj 1013 [([116, 104, 105, 110, 103], x)], .obj 1013 [([116, 104, 105, 110, 103], x)], .clo 12 [], .lst [x]],
  .tup [.obj 1014 [([108, 105, 110, 107, 101, 100], x)], .obj 1014 [([108, 105, 110, 107, 101, 100], x)], .clo 13 [], .lst [x]],
  .tup [.obj 1015 [([115, 116, 97, 116, 101], x)], .obj 1015 [([115, 116, 97, 116, 101], x)], .clo 14 [], .lst [x]],
  .tup [.obj 1016 [([112, 108, 97, 110], x)], .obj 1016 [([112, 108, 97, 110], x)], .clo 15 [], .lst [x]],
  .tup [.obj 1017 [([115, 116, 114, 101, 116, 99, 104], x)], .obj 1017 [([115, 116, 114, 101, 116, 99, 104], x)], .clo 16 [], .lst [x]],
  .tup [.obj 1018 [([98, 101, 103, 105, 110], x)], .obj 1018 [([98, 101, 103, 105, 110], x)], .clo 17 [], .lst [x]],
  .tup [.obj 1019 [([117, 110, 105, 116, 115], x)], .obj 1019 [([117, 110, 105, 116, 115], x)], .clo 18 [], .lst [x]],
  .tup [.obj 1020 [([114, 111, 119], x)], .obj 1020 [([114, 111, 119], x)], .clo 19 [], .lst [x]],
  .tup [.obj 1021 [([107, 101, 101, 112, 115], x)], .obj 1021 [([107, 101, 101, 112, 115], x)], .clo 20 [], .lst [x]],
  .tup [.obj 1022 [([109, 101, 109, 111, 114, 121], x)], .obj 1022 [([109, 101, 109, 111, 114, 121], x)], .clo 21 [], .lst [x]],
  .tup [.obj 1023 [([115, 116, 97, 110, 100], x)], .obj 1023 [([115, 116, 97, 110, 100], x)], .clo 22 [], .lst [x]]]
def madeB (x : Va) : List Va := [
  .tup [.obj 1024 [([111, 114, 100, 101, 114], x)], .obj 1024 [([111, 114, 100, 101, 114], x)], .clo 23 [], .lst [x]],
  .tup [.obj 1025 [([99, 104, 97, 114, 103, 101], x)], .obj 1025 [([99, 104, 97, 114, 103, 101], x)], .clo 24 [], .lst [x]],
  .tup [.obj 1026 [([99, 104, 97, 114, 103, 101, 115], x)], .obj 1026 [([99, 104, 97, 114, 103, 101, 115], x)], .clo 25 [], .lst [x]],
  .tup [.obj 1027 [([109, 97, 110, 121], x)], .obj 1027 [([109, 97, 110, 121], x)], .clo 26 [], .lst [x]],
  .tup [.obj 1028 [], .obj 1028 [], .clo 27 [], .lst []],
  .tup [.obj 1029 [([99, 101, 108, 108, 115], x)], .obj 1029 [([99, 101, 108, 108, 115], x)], .clo 28 [], .lst [x]],
  .tup [.obj 1030 [([116, 111, 114, 110, 115], x)], .obj 1030 [([116, 111, 114, 110, 115], x)], .clo 29 [], .lst [x]],
  .tup [.obj 1031 [], .obj 1031 [], .clo 30 [], .lst []],
  .tup [.obj 1032 [([119, 97, 121], x)], .obj 1032 [([119, 97, 121], x)], .clo 31 [], .lst [x]],
  .tup [.obj 1033 [], .obj 1033 [], .clo 32 [], .lst []],
  .tup [.obj 1034 [], .obj 1034 [], .clo 33 [], .lst []],
  .tup [.obj 1035 [([99, 111, 117, 110, 116], x)], .obj 1035 [([99, 111, 117, 110, 116], x)], .clo 34 [], .lst [x]],
  .tup [.obj 1036 [([112, 108, 97, 99, 101], x)], .obj 1036 [([112, 108, 97, 99, 101], x)], .clo 35 [], .lst [x]],
  .tup [.obj 1037 [([116, 104, 105, 110, 103], x)], .obj 1037 [([116, 104, 105, 110, 103], x)], .clo 36 [], .lst [x]],
  .tup [.obj 1038 [([110, 97, 109, 101], x)], .obj 1038 [([110, 97, 109, 101], x)], .clo 37 [], .lst [x]],
  .tup [.obj 1039 [([110, 97, 109, 101], x)], .obj 1039 [([110, 97, 109, 101], x)], .clo 38 [], .lst [x]],
  .tup [.obj 1040 [([117, 115, 101, 114], x)], .obj 1040 [([117, 115, 101, 114], x)], .clo 39 [], .lst [x]],
  .tup [.obj 1041 [([110, 97, 109, 101], x)], .obj 1041 [([110, 97, 109, 101], x)], .clo 40 [], .lst [x]],
  .tup [.obj 1042 [([118, 111, 119], x)], .obj 1042 [([118, 111, 119], x)], .clo 41 [], .lst [x]],
  .tup [.obj 1043 [([118, 111, 119], x)], .obj 1043 [([118, 111, 119], x)], .clo 42 [], .lst [x]],
  .tup [.obj 1044 [([118, 111, 119], x)], .obj 1044 [([118, 111, 119], x)], .clo 43 [], .lst [x]],
  .tup [.obj 1045 [([118, 111, 119], x)], .obj 1045 [([118, 111, 119], x)], .clo 44 [], .lst [x]],
  .tup [.obj 1046 [([118, 111, 119], x)], .obj 1046 [([118, 111, 119], x)], .clo 45 [], .lst [x]]]
theorem madeA_ok {x : Va} {m : Mem} : m__law_made_a [x] m = .ok (.ref m.length) (m ++ [.lst (madeA x)]) := by
  simp [m__law_made_a, chkL_last, oAppend_last, line, madeA]
theorem madeB_ok {x : Va} {m : Mem} : m__law_made_b [x] m = .ok (.ref m.length) (m ++ [.lst (madeB x)]) := by
  simp [m__law_made_b, chkL_last, oAppend_last, line, madeB]
/-- an entry: the error twice, its field, what is due -/
def Ent (x : Va) (i : Nat) (v : Va) : Prop := ∃ (fs : List (Sg × Va)) (due : List Va), v = .tup [.obj (1001 + i) fs, .obj (1001 + i) fs, .clo i [], .lst due] ∧ (∀ m, app0 (.clo i []) [.obj (1001 + i) fs] m = .ok (.lst due) m) ∧ (due = [x] ∨ due = [])
theorem ent_at {x : Va} : ∀ (i : Nat) (v : Va), (madeA x ++ madeB x)[i]? = some v → Ent x i v
  | 0, v, h => ⟨[([116, 101, 120, 116], x)], [x], (Option.some.inj h).symm, fun m => rfl, .inl rfl⟩
  | 1, v, h => ⟨[([112, 114, 111, 103, 114, 97, 109], x)], [x], (Option.some.inj h).symm, fun m => rfl, .inl rfl⟩
  | 2, v, h => ⟨[([116, 101, 120, 116, 115], x)], [x], (Option.some.inj h).symm, fun m => rfl, .inl rfl⟩
  | 3, v, h => ⟨[([105, 110, 100, 101, 120], x)], [x], (Option.some.inj h).symm, fun m => rfl, .inl rfl⟩
  | 4, v, h => ⟨[], [], (Option.some.inj h).symm, fun m => rfl, .inr rfl⟩
  | 5, v, h => ⟨[([110, 97, 109, 101], x)], [x], (Option.some.inj h).symm, fun m => rfl, .inl rfl⟩
  | 6, v, h => ⟨[([97, 110, 115, 119, 101, 114, 115], x)], [x], (Option.some.inj h).symm, fun m => rfl, .inl rfl⟩
  | 7, v, h => ⟨[([109, 111, 115, 116], x)], [x], (Option.some.inj h).symm, fun m => rfl, .inl rfl⟩
  | 8, v, h => ⟨[([109], x)], [x], (Option.some.inj h).symm, fun m => rfl, .inl rfl⟩
  | 9, v, h => ⟨[([111, 110, 101], x)], [x], (Option.some.inj h).symm, fun m => rfl, .inl rfl⟩
  | 10, v, h => ⟨[([111, 98, 106, 101, 99, 116, 115], x)], [x], (Option.some.inj h).symm, fun m => rfl, .inl rfl⟩
  | 11, v, h => ⟨[], [], (Option.some.inj h).symm, fun m => rfl, .inr rfl⟩
  | 12, v, h => ⟨[([116, 104, 105, 110, 103], x)], [x], (Option.some.inj h).symm, fun m => rfl, .inl rfl⟩
  | 13, v, h => ⟨[([108, 105, 110, 107, 101, 100], x)], [x], (Option.some.inj h).symm, fun m => rfl, .inl rfl⟩
  | 14, v, h => ⟨[([115, 116, 97, 116, 101], x)], [x], (Option.some.inj h).symm, fun m => rfl, .inl rfl⟩
  | 15, v, h => ⟨[([112, 108, 97, 110], x)], [x], (Option.some.inj h).symm, fun m => rfl, .inl rfl⟩
  | 16, v, h => ⟨[([115, 116, 114, 101, 116, 99, 104], x)], [x], (Option.some.inj h).symm, fun m => rfl, .inl rfl⟩
  | 17, v, h => ⟨[([98, 101, 103, 105, 110], x)], [x], (Option.some.inj h).symm, fun m => rfl, .inl rfl⟩
  | 18, v, h => ⟨[([117, 110, 105, 116, 115], x)], [x], (Option.some.inj h).symm, fun m => rfl, .inl rfl⟩
  | 19, v, h => ⟨[([114, 111, 119], x)], [x], (Option.some.inj h).symm, fun m => rfl, .inl rfl⟩
  | 20, v, h => ⟨[([107, 101, 101, 112, 115], x)], [x], (Option.some.inj h).symm, fun m => rfl, .inl rfl⟩
  | 21, v, h => ⟨[([109, 101, 109, 111, 114, 121], x)], [x], (Option.some.inj h).symm, fun m => rfl, .inl rfl⟩
  | 22, v, h => ⟨[([115, 116, 97, 110, 100], x)], [x], (Option.some.inj h).symm, fun m => rfl, .inl rfl⟩
  | 23, v, h => ⟨[([111, 114, 100, 101, 114], x)], [x], (Option.some.inj h).symm, fun m => rfl, .inl rfl⟩
  | 24, v, h => ⟨[([99, 104, 97, 114, 103, 101], x)], [x], (Option.some.inj h).symm, fun m => rfl, .inl rfl⟩
  | 25, v, h => ⟨[([99, 104, 97, 114, 103, 101, 115], x)], [x], (Option.some.inj h).symm, fun m => rfl, .inl rfl⟩
  | 26, v, h => ⟨[([109, 97, 110, 121], x)], [x], (Option.some.inj h).symm, fun m => rfl, .inl rfl⟩
  | 27, v, h => ⟨[], [], (Option.some.inj h).symm, fun m => rfl, .inr rfl⟩
  | 28, v, h => ⟨[([99, 101, 108, 108, 115], x)], [x], (Option.some.inj h).symm, fun m => rfl, .inl rfl⟩
  | 29, v, h => ⟨[([116, 111, 114, 110, 115], x)], [x], (Option.some.inj h).symm, fun m => rfl, .inl rfl⟩
  | 30, v, h => ⟨[], [], (Option.some.inj h).symm, fun m => rfl, .inr rfl⟩
  | 31, v, h => ⟨[([119, 97, 121], x)], [x], (Option.some.inj h).symm, fun m => rfl, .inl rfl⟩
  | 32, v, h => ⟨[], [], (Option.some.inj h).symm, fun m => rfl, .inr rfl⟩
  | 33, v, h => ⟨[], [], (Option.some.inj h).symm, fun m => rfl, .inr rfl⟩
  | 34, v, h => ⟨[([99, 111, 117, 110, 116], x)], [x], (Option.some.inj h).symm, fun m => rfl, .inl rfl⟩
  | 35, v, h => ⟨[([112, 108, 97, 99, 101], x)], [x], (Option.some.inj h).symm, fun m => rfl, .inl rfl⟩
  | 36, v, h => ⟨[([116, 104, 105, 110, 103], x)], [x], (Option.some.inj h).symm, fun m => rfl, .inl rfl⟩
  | 37, v, h => ⟨[([110, 97, 109, 101], x)], [x], (Option.some.inj h).symm, fun m => rfl, .inl rfl⟩
  | 38, v, h => ⟨[([110, 97, 109, 101], x)], [x], (Option.some.inj h).symm, fun m => rfl, .inl rfl⟩
  | 39, v, h => ⟨[([117, 115, 101, 114], x)], [x], (Option.some.inj h).symm, fun m => rfl, .inl rfl⟩
  | 40, v, h => ⟨[([110, 97, 109, 101], x)], [x], (Option.some.inj h).symm, fun m => rfl, .inl rfl⟩
  | 41, v, h => ⟨[([118, 111, 119], x)], [x], (Option.some.inj h).symm, fun m => rfl, .inl rfl⟩
  | 42, v, h => ⟨[([118, 111, 119], x)], [x], (Option.some.inj h).symm, fun m => rfl, .inl rfl⟩
  | 43, v, h => ⟨[([118, 111, 119], x)], [x], (Option.some.inj h).symm, fun m => rfl, .inl rfl⟩
  | 44, v, h => ⟨[([118, 111, 119], x)], [x], (Option.some.inj h).symm, fun m => rfl, .inl rfl⟩
  | 45, v, h => ⟨[([118, 111, 119], x)], [x], (Option.some.inj h).symm, fun m => rfl, .inl rfl⟩
  | n + 46, v, h => by cases h
/-! ### of its own class alone -/
theorem isT_fn {c j : Nat} (hc : c < 46) (hj : j < 46) : isT (1001 + c) (.fn (1001 + j)) = some (decide (c = j)) := by
  have q : ∀ c < 46, ∀ j < 46, isT (1001 + c) (.fn (1001 + j)) = some (decide (c = j)) := by decide +kernel
  exact q c hc j hj
theorem isT_base {c : Nat} (hc : c < 46) : isT (1001 + c) (.fn 1000) = some true := by
  have q : ∀ c < 46, isT (1001 + c) (.fn 1000) = some true := by decide +kernel
  exact q c hc
theorem isT_ve {c : Nat} (hc : c < 46) : isT (1001 + c) (.ty "ValueError") = some true := by
  have q : ∀ c < 46, isT (1001 + c) (.ty "ValueError") = some true := by decide +kernel
  exact q c hc
theorem isT_no {c : Nat} (hc : c < 46) : isT (1001 + c) (.tup [.ty "LookupError", .ty "TypeError", .ty "ArithmeticError", .ty "AttributeError", .ty "RuntimeError"]) = some false := by
  have q : ∀ c < 46, isT (1001 + c) (.tup [.ty "LookupError", .ty "TypeError", .ty "ArithmeticError", .ty "AttributeError", .ty "RuntimeError"]) = some false := by decide +kernel
  exact q c hc
@[simp] theorem bIsE_obj {tab : Nat → Va → Option Bool} {c : Nat} {fs : List (Sg × Va)} {y : Va} {m : Mem} : bIsE tab [.obj c fs, y] m = lift ((tab c y).map .bl) m := rfl
theorem bIsE_own {c j : Nat} {fs : List (Sg × Va)} {m : Mem} (hc : c < 46) (hj : j < 46) : bIsE isT [.obj (1001 + c) fs, .fn (1001 + j)] m = .ok (.bl (decide (c = j))) m := by
  rw [bIsE_obj, isT_fn hc hj]; rfl
def kinds (c : Nat) (a n : Nat) : List Va := (List.range n).map fun j => .bl (decide (c = a + j))
theorem kindsA_ok {c : Nat} {fs : List (Sg × Va)} {m : Mem} (hc : c < 46) : m__law_kinds_a [.obj (1001 + c) fs] m = .ok (.lst (kinds c 0 23)) (m ++ [.lst []]) := by
  have b0 : ∀ m, bIsE isT [.obj (1001 + c) fs, .fn 1001] m = .ok (.bl (decide (c = 0))) m := fun m => bIsE_own (j := 0) hc (by decide)
  have b1 : ∀ m, bIsE isT [.obj (1001 + c) fs, .fn 1002] m = .ok (.bl (decide (c = 1))) m := fun m => bIsE_own (j := 1) hc (by decide)
  have b2 : ∀ m, bIsE isT [.obj (1001 + c) fs, .fn 1003] m = .ok (.bl (decide (c = 2))) m := fun m => bIsE_own (j := 2) hc (by decide)
  have b3 : ∀ m, bIsE isT [.obj (1001 + c) fs, .fn 1004] m = .ok (.bl (decide (c = 3))) m := fun m => bIsE_own (j := 3) hc (by decide)
  have b4 : ∀ m, bIsE isT [.obj (1001 + c) fs, .fn 1005] m = .ok (.bl (decide (c = 4))) m := fun m => bIsE_own (j := 4) hc (by decide)
  have b5 : ∀ m, bIsE isT [.obj (1001 + c) fs, .fn 1006] m = .ok (.bl (decide (c = 5))) m := fun m => bIsE_own (j := 5) hc (by decide)
  have b6 : ∀ m, bIsE isT [.obj (1001 + c) fs, .fn 1007] m = .ok (.bl (decide (c = 6))) m := fun m => bIsE_own (j := 6) hc (by decide)
  have b7 : ∀ m, bIsE isT [.obj (1001 + c) fs, .fn 1008] m = .ok (.bl (decide (c = 7))) m := fun m => bIsE_own (j := 7) hc (by decide)
  have b8 : ∀ m, bIsE isT [.obj (1001 + c) fs, .fn 1009] m = .ok (.bl (decide (c = 8))) m := fun m => bIsE_own (j := 8) hc (by decide)
  have b9 : ∀ m, bIsE isT [.obj (1001 + c) fs, .fn 1010] m = .ok (.bl (decide (c = 9))) m := fun m => bIsE_own (j := 9) hc (by decide)
  have b10 : ∀ m, bIsE isT [.obj (1001 + c) fs, .fn 1011] m = .ok (.bl (decide (c = 10))) m := fun m => bIsE_own (j := 10) hc (by decide)
  have b11 : ∀ m, bIsE isT [.obj (1001 + c) fs, .fn 1012] m = .ok (.bl (decide (c = 11))) m := fun m => bIsE_own (j := 11) hc (by decide)
  have b12 : ∀ m, bIsE isT [.obj (1001 + c) fs, .fn 1013] m = .ok (.bl (decide (c = 12))) m := fun m => bIsE_own (j := 12) hc (by decide)
  have b13 : ∀ m, bIsE isT [.obj (1001 + c) fs, .fn 1014] m = .ok (.bl (decide (c = 13))) m := fun m => bIsE_own (j := 13) hc (by decide)
  have b14 : ∀ m, bIsE isT [.obj (1001 + c) fs, .fn 1015] m = .ok (.bl (decide (c = 14))) m := fun m => bIsE_own (j := 14) hc (by decide)
  have b15 : ∀ m, bIsE isT [.obj (1001 + c) fs, .fn 1016] m = .ok (.bl (decide (c = 15))) m := fun m => bIsE_own (j := 15) hc (by decide)
  have b16 : ∀ m, bIsE isT [.obj (1001 + c) fs, .fn 1017] m = .ok (.bl (decide (c = 16))) m := fun m => bIsE_own (j := 16) hc (by decide)
  have b17 : ∀ m, bIsE isT [.obj (1001 + c) fs, .fn 1018] m = .ok (.bl (decide (c = 17))) m := fun m => bIsE_own (j := 17) hc (by decide)
  have b18 : ∀ m, bIsE isT [.obj (1001 + c) fs, .fn 1019] m = .ok (.bl (decide (c = 18))) m := fun m => bIsE_own (j := 18) hc (by decide)
  have b19 : ∀ m, bIsE isT [.obj (1001 + c) fs, .fn 1020] m = .ok (.bl (decide (c = 19))) m := fun m => bIsE_own (j := 19) hc (by decide)
  have b20 : ∀ m, bIsE isT [.obj (1001 + c) fs, .fn 1021] m = .ok (.bl (decide (c = 20))) m := fun m => bIsE_own (j := 20) hc (by decide)
  have b21 : ∀ m, bIsE isT [.obj (1001 + c) fs, .fn 1022] m = .ok (.bl (decide (c = 21))) m := fun m => bIsE_own (j := 21) hc (by decide)
  have b22 : ∀ m, bIsE isT [.obj (1001 + c) fs, .fn 1023] m = .ok (.bl (decide (c = 22))) m := fun m => bIsE_own (j := 22) hc (by decide)
  have ha : ∀ ys : List Va, oAdd (.ref m.length) (.lst ys) (m ++ [.lst []]) = if ys.length ≤ line then .ok (.lst ys) (m ++ [.lst []]) else .no := fun ys => by
    rw [oAdd_rl last_at]; simp
  have e : kinds c 0 23 = [.bl (decide (c = 0)), .bl (decide (c = 1)), .bl (decide (c = 2)), .bl (decide (c = 3)), .bl (decide (c = 4)), .bl (decide (c = 5)), .bl (decide (c = 6)), .bl (decide (c = 7)), .bl (decide (c = 8)), .bl (decide (c = 9)), .bl (decide (c = 10)), .bl (decide (c = 11)), .bl (decide (c = 12)), .bl (decide (c = 13)), .bl (decide (c = 14)), .bl (decide (c = 15)), .bl (decide (c = 16)), .bl (decide (c = 17)), .bl (decide (c = 18)), .bl (decide (c = 19)), .bl (decide (c = 20)), .bl (decide (c = 21)), .bl (decide (c = 22))] := rfl
  rw [e]
  simp [m__law_kinds_a, line, ha, -bIsE_obj, b0, b1, b2, b3, b4, b5, b6, b7, b8, b9, b10, b11, b12, b13, b14, b15, b16, b17, b18, b19, b20, b21, b22]
theorem kindsB_ok {c : Nat} {fs : List (Sg × Va)} {m : Mem} (hc : c < 46) : m__law_kinds_b [.obj (1001 + c) fs] m = .ok (.lst (kinds c 23 23)) (m ++ [.lst []]) := by
  have b23 : ∀ m, bIsE isT [.obj (1001 + c) fs, .fn 1024] m = .ok (.bl (decide (c = 23))) m := fun m => bIsE_own (j := 23) hc (by decide)
  have b24 : ∀ m, bIsE isT [.obj (1001 + c) fs, .fn 1025] m = .ok (.bl (decide (c = 24))) m := fun m => bIsE_own (j := 24) hc (by decide)
  have b25 : ∀ m, bIsE isT [.obj (1001 + c) fs, .fn 1026] m = .ok (.bl (decide (c = 25))) m := fun m => bIsE_own (j := 25) hc (by decide)
  have b26 : ∀ m, bIsE isT [.obj (1001 + c) fs, .fn 1027] m = .ok (.bl (decide (c = 26))) m := fun m => bIsE_own (j := 26) hc (by decide)
  have b27 : ∀ m, bIsE isT [.obj (1001 + c) fs, .fn 1028] m = .ok (.bl (decide (c = 27))) m := fun m => bIsE_own (j := 27) hc (by decide)
  have b28 : ∀ m, bIsE isT [.obj (1001 + c) fs, .fn 1029] m = .ok (.bl (decide (c = 28))) m := fun m => bIsE_own (j := 28) hc (by decide)
  have b29 : ∀ m, bIsE isT [.obj (1001 + c) fs, .fn 1030] m = .ok (.bl (decide (c = 29))) m := fun m => bIsE_own (j := 29) hc (by decide)
  have b30 : ∀ m, bIsE isT [.obj (1001 + c) fs, .fn 1031] m = .ok (.bl (decide (c = 30))) m := fun m => bIsE_own (j := 30) hc (by decide)
  have b31 : ∀ m, bIsE isT [.obj (1001 + c) fs, .fn 1032] m = .ok (.bl (decide (c = 31))) m := fun m => bIsE_own (j := 31) hc (by decide)
  have b32 : ∀ m, bIsE isT [.obj (1001 + c) fs, .fn 1033] m = .ok (.bl (decide (c = 32))) m := fun m => bIsE_own (j := 32) hc (by decide)
  have b33 : ∀ m, bIsE isT [.obj (1001 + c) fs, .fn 1034] m = .ok (.bl (decide (c = 33))) m := fun m => bIsE_own (j := 33) hc (by decide)
  have b34 : ∀ m, bIsE isT [.obj (1001 + c) fs, .fn 1035] m = .ok (.bl (decide (c = 34))) m := fun m => bIsE_own (j := 34) hc (by decide)
  have b35 : ∀ m, bIsE isT [.obj (1001 + c) fs, .fn 1036] m = .ok (.bl (decide (c = 35))) m := fun m => bIsE_own (j := 35) hc (by decide)
  have b36 : ∀ m, bIsE isT [.obj (1001 + c) fs, .fn 1037] m = .ok (.bl (decide (c = 36))) m := fun m => bIsE_own (j := 36) hc (by decide)
  have b37 : ∀ m, bIsE isT [.obj (1001 + c) fs, .fn 1038] m = .ok (.bl (decide (c = 37))) m := fun m => bIsE_own (j := 37) hc (by decide)
  have b38 : ∀ m, bIsE isT [.obj (1001 + c) fs, .fn 1039] m = .ok (.bl (decide (c = 38))) m := fun m => bIsE_own (j := 38) hc (by decide)
  have b39 : ∀ m, bIsE isT [.obj (1001 + c) fs, .fn 1040] m = .ok (.bl (decide (c = 39))) m := fun m => bIsE_own (j := 39) hc (by decide)
  have b40 : ∀ m, bIsE isT [.obj (1001 + c) fs, .fn 1041] m = .ok (.bl (decide (c = 40))) m := fun m => bIsE_own (j := 40) hc (by decide)
  have b41 : ∀ m, bIsE isT [.obj (1001 + c) fs, .fn 1042] m = .ok (.bl (decide (c = 41))) m := fun m => bIsE_own (j := 41) hc (by decide)
  have b42 : ∀ m, bIsE isT [.obj (1001 + c) fs, .fn 1043] m = .ok (.bl (decide (c = 42))) m := fun m => bIsE_own (j := 42) hc (by decide)
  have b43 : ∀ m, bIsE isT [.obj (1001 + c) fs, .fn 1044] m = .ok (.bl (decide (c = 43))) m := fun m => bIsE_own (j := 43) hc (by decide)
  have b44 : ∀ m, bIsE isT [.obj (1001 + c) fs, .fn 1045] m = .ok (.bl (decide (c = 44))) m := fun m => bIsE_own (j := 44) hc (by decide)
  have b45 : ∀ m, bIsE isT [.obj (1001 + c) fs, .fn 1046] m = .ok (.bl (decide (c = 45))) m := fun m => bIsE_own (j := 45) hc (by decide)
  have ha : ∀ ys : List Va, oAdd (.ref m.length) (.lst ys) (m ++ [.lst []]) = if ys.length ≤ line then .ok (.lst ys) (m ++ [.lst []]) else .no := fun ys => by
    rw [oAdd_rl last_at]; simp
  have e : kinds c 23 23 = [.bl (decide (c = 23)), .bl (decide (c = 24)), .bl (decide (c = 25)), .bl (decide (c = 26)), .bl (decide (c = 27)), .bl (decide (c = 28)), .bl (decide (c = 29)), .bl (decide (c = 30)), .bl (decide (c = 31)), .bl (decide (c = 32)), .bl (decide (c = 33)), .bl (decide (c = 34)), .bl (decide (c = 35)), .bl (decide (c = 36)), .bl (decide (c = 37)), .bl (decide (c = 38)), .bl (decide (c = 39)), .bl (decide (c = 40)), .bl (decide (c = 41)), .bl (decide (c = 42)), .bl (decide (c = 43)), .bl (decide (c = 44)), .bl (decide (c = 45))] := rfl
  rw [e]
  simp [m__law_kinds_b, line, ha, -bIsE_obj, b23, b24, b25, b26, b27, b28, b29, b30, b31, b32, b33, b34, b35, b36, b37, b38, b39, b40, b41, b42, b43, b44, b45]
theorem eqvs_bls : ∀ bs : List Bool, eqvs (bs.map Va.bl) (bs.map Va.bl) = true
  | [] => rfl
  | b :: r => by simp [eqvs, eqv, eqvs_bls r]
theorem dats_bls : ∀ bs : List Bool, isDats (bs.map Va.bl) = true ∧ deps (bs.map Va.bl) = 0
  | [] => ⟨rfl, rfl⟩
  | b :: r => by
    obtain ⟨h1, h2⟩ := dats_bls r
    exact ⟨by simp [isDats, isDat, h1], by simp [deps, dep, h2]⟩
theorem own_loop {o : Va} {a : Int} {m0 : Mem} : ∀ (xs : List Int) (acc : List Bool), acc.length + xs.length < line →
    lcL m0.length (gVar 2) tYesM (eOp oEq (eVar 2) (eVar 1)) (xs.map Va.int) [some o, some (.int a), none] (m0 ++ [.lst (acc.map Va.bl)]) = .ok () (m0 ++ [.lst ((acc ++ xs.map fun x => decide (x = a)).map Va.bl)])
  | [], acc, _ => by simp
  | x :: r, acc, h => by
    simp only [List.length_cons] at h
    rw [List.map_cons, lcL_cons (y := .bl (decide (x = a))) (e := [some o, some (.int a), some (.int x)]) (m1 := m0 ++ [.lst (acc.map Va.bl)]) (m2 := m0 ++ [.lst (acc.map Va.bl)]) (m3 := m0 ++ [.lst (acc.map Va.bl)]) (acc := acc.map Va.bl) (gVar_at ..) rfl (by simp [eqM_flat, flat, eqv]) last_at (by rw [List.length_map]; omega), set_last]
    have e : acc.map Va.bl ++ [.bl (decide (x = a))] = (acc ++ [decide (x = a)]).map Va.bl := by simp
    rw [e, own_loop r (acc ++ [decide (x = a)]) (by rw [List.length_append]; simp only [List.length_singleton]; omega)]
    simp
def intsTo (n : Nat) : List Int := (List.range n).map fun (k : Nat) => (0 : Int) + k
theorem upFrom_to (n : Nat) : upFrom 0 n = (intsTo n).map Va.int := by
  unfold intsTo upFrom
  rw [List.map_map]; rfl
def ownBs (c : Nat) : List Bool := (intsTo 46).map fun x => decide (x = (c : Int))
theorem kinds_own (c : Nat) : kinds c 0 23 ++ kinds c 23 23 = (ownBs c).map Va.bl := by
  have e : kinds c 0 23 ++ kinds c 23 23 = (List.range 46).map fun j => .bl (decide (c = j)) := by
    simp [kinds, List.range, List.range.loop]
  rw [e]
  unfold ownBs intsTo
  rw [List.map_map, List.map_map]
  refine List.map_congr_left fun k _ => ?_
  show Va.bl (decide (c = k)) = .bl (decide ((0 : Int) + (k : Int) = (c : Int)))
  have : (c = k) ↔ ((0 : Int) + (k : Int) = (c : Int)) := by omega
  rw [decide_eq_decide.mpr this]
theorem own_ok {c : Nat} {fs : List (Sg × Va)} {m : Mem} (hc : c < 46) : ∃ g, m__law_is_own [.obj (1001 + c) fs, .int c] m = .ok (.bl true) (m ++ g) := by
  have h1 : ∀ m, bIsE isT [.obj (1001 + c) fs, .fn 1000] m = .ok (.bl true) m := fun m => by rw [bIsE_obj, isT_base hc]; rfl
  have h2 : ∀ m, bIsE isT [.obj (1001 + c) fs, .ty "ValueError"] m = .ok (.bl true) m := fun m => by rw [bIsE_obj, isT_ve hc]; rfl
  have h3 : ∀ m, bIsE isT [.obj (1001 + c) fs, .tup [.ty "LookupError", .ty "TypeError", .ty "ArithmeticError", .ty "AttributeError", .ty "RuntimeError"]] m = .ok (.bl false) m := fun m => by rw [bIsE_obj, isT_no hc]; rfl
  have ka := kindsA_ok (fs := fs) (m := m) hc
  have kb := kindsB_ok (fs := fs) (m := m ++ [.lst []]) hc
  have hl := own_loop (o := .obj (1001 + c) fs) (a := (c : Int)) (m0 := m ++ [.lst []] ++ [.lst []]) (intsTo 46) [] (by show 46 < line; decide)
  rw [← upFrom_to] at hl
  have hr : range1 [.int 46] (m ++ [.lst []] ++ [.lst []]) = .ok (.val (upFrom 0 46)) (m ++ [.lst []] ++ [.lst []]) := range1_at ⟨by decide, by decide⟩
  obtain ⟨d1, d2⟩ := dats_bls (ownBs c)
  have hq : eqM (.lst (kinds c 0 23 ++ kinds c 23 23)) (.ref ((m ++ [Cell.lst []] ++ [Cell.lst []] : Mem).length)) (m ++ [.lst []] ++ [.lst []] ++ [.lst ((ownBs c).map Va.bl)]) = .ok true (m ++ [.lst []] ++ [.lst []] ++ [.lst ((ownBs c).map Va.bl)]) := by
    rw [kinds_own]
    generalize m ++ [.lst []] ++ [.lst []] = M
    have g1 : (M ++ [.lst ((ownBs c).map Va.bl)])[M.length]? = some (.lst ((ownBs c).map Va.bl)) := last_at
    have r1 : resolve deep (M ++ [.lst ((ownBs c).map Va.bl)]) (.lst ((ownBs c).map Va.bl)) = some (.lst ((ownBs c).map Va.bl)) := resolve_plain (by simpa [plain] using dats_plain _ d1)
    have r2 : resolve deep (M ++ [.lst ((ownBs c).map Va.bl)]) (.ref M.length) = some (.lst ((ownBs c).map Va.bl)) := resolve_cell (n := 59) g1 d1
    have := eqM_data (by simp [flat]) r1 r2 (by simp [isDat, d1, dep, d2])
    rw [this]
    simp [eqv, eqvs_bls]
  have l1 : (kinds c 0 23).length + (kinds c 23 23).length ≤ 16777216 := by simp [kinds]
  refine ⟨[.lst [], .lst [], .lst ((ownBs c).map Va.bl)], ?_⟩
  have e0 : ([] ++ (intsTo 46).map fun x => decide (x = (c : Int))) = ownBs c := rfl
  rw [e0] at hl
  simp only [List.append_assoc, List.cons_append, List.nil_append, List.length_append, List.length_cons, List.length_nil, List.map_nil] at ka kb hl hr hq
  simp [m__law_is_own, h1, h2, h3, line, ka, kb, hr, wipeE, hl, hq, l1, -bIsE_obj]
@[reducible] def elA : Env → M Va := (eAnd (eCall (lenM 2 (peekM (Com.m__law_same 14))) (aCons (eCallV can0 app0 11 (aCons (eVar 9) aNil)) (aCons (eVar 12) aNil))) (eCall (lenM 2 (peekM (Com.m__law_same 14))) (aCons (eCallV can0 app0 11 (aCons (eVar 10) aNil)) (aCons (eVar 12) aNil))))
@[reducible] def bIn1 : Env → M Flow := (sSeq (sIf (tOr (tNot (tTru (eCall (lenM 2 m__law_is_own) (aCons (eVar 9) (aCons (eVar 8) aNil))))) (tNot (tTru (eCall (lenM 2 m__law_is_own) (aCons (eVar 10) (aCons (eVar 8) aNil)))))) (sRet (eC (.bl false))) sNext)
  (sIf (tOr (tNot (tTru (eCall (lenM 2 (peekM (Com.m__law_same 14))) (aCons (eCallV can0 app0 11 (aCons (eVar 9) aNil)) (aCons (eVar 12) aNil))))) (tNot (tTru (eCall (lenM 2 (peekM (Com.m__law_same 14))) (aCons (eCallV can0 app0 11 (aCons (eVar 10) aNil)) (aCons (eVar 12) aNil)))))) (sRet (eC (.bl false))) sNext))
@[reducible] def bTurn : Env → M Flow := (sSeq (sPar [4, 5] (aCons (eCall (lenM 2 Com.m__law_pick) (aCons (eVar 1) (aCons (eVar 2) aNil))) (aCons (eCall (lenM 2 Com.m__law_pick) (aCons (eVar 1) (aCons (eVar 2) aNil))) aNil)))
  (sSeq (sPar [6, 7] (aCons (eOp oAdd (eCall (lenM 1 m__law_made_a) (aCons (eVar 4) aNil)) (eCall (lenM 1 m__law_made_b) (aCons (eVar 4) aNil))) (aCons (eOp oAdd (eCall (lenM 1 m__law_made_a) (aCons (eVar 5) aNil)) (eCall (lenM 1 m__law_made_b) (aCons (eVar 5) aNil))) aNil)))
  (sSeq (sFor (iEnum (aCons (eVar 6) aNil)) (gTup 2 (gCons (gVar 8) (gCons (gTup 4 (gCons (gVar 9) (gCons (gVar 10) (gCons (gVar 11) (gCons (gVar 12) gNil))))) gNil))) bIn1)
  (sIf (tNot (tTru (eCall bAll (aCons (eLcM (iSeq (eVar 7)) (gTup 4 (gCons (gVar 9) (gCons (gVar 10) (gCons (gVar 11) (gCons (gVar 12) gNil))))) tYesM elA [9, 10, 11, 12]) aNil)))) (sRet (eC (.bl false))) sNext))))
@[reducible] def bIn2 : Env → M Flow := (sIf (tOr (tNot (tTru (eCall (lenM 2 (peekM (Com.m__law_same 14))) (aCons (eCallV can0 app0 11 (aCons (eVar 9) aNil)) (aCons (eVar 12) aNil))))) (tNot (tTru (eCall (lenM 2 (peekM (Com.m__law_same 14))) (aCons (eCallV can0 app0 11 (aCons (eVar 10) aNil)) (aCons (eVar 12) aNil)))))) (sRet (eC (.bl false))) sNext)
@[reducible] def bHeld : Env → M Flow := (sSeq (sSet 6 (eOp oAdd (eCall (lenM 1 m__law_made_a) (aCons (eVar 13) aNil)) (eCall (lenM 1 m__law_made_b) (aCons (eVar 13) aNil))))
  (sSeq (sIf (tTru (eCall (bIsi kts) (aCons (eVar 13) (aCons (eC (.ty "dict")) aNil)))) (sAsg (gIx (eVar 13) (eC (.str [108, 97, 116, 101]))) (eC (.int 2))) (sExpr (eM chkL oAppend (eVar 13) (aCons (eC (.str [108, 97, 116, 101])) aNil))))
  (sFor (iSeq (eVar 6)) (gTup 4 (gCons (gVar 9) (gCons (gVar 10) (gCons (gVar 11) (gCons (gVar 12) gNil))))) bIn2)))
/-! ### what is kept is what is due -/
def Pk (m : Mem) (due : List Va) : Prop := peekM (Com.m__law_same 14) [.lst due, .lst due] m = .ok (.bl true) m
theorem peek_self {m : Mem} {a d : Va} (h : resolve deep m a = some d) (hs : ∃ m', Com.m__law_same 14 [d, d] [] = .ok (.bl true) m') : peekM (Com.m__law_same 14) [a, a] m = .ok (.bl true) m := by
  obtain ⟨m', hs⟩ := hs
  unfold peekM
  simp only [mapO, h, hs, flat, if_true]
theorem same_self {v : Va} (hv : isDat v = true) (hs : small v = true) (hd : dep v < 14) : ∃ m', Com.m__law_same 14 [v, v] [] = .ok (.bl true) m' := by
  obtain ⟨m', h⟩ := same_ok 14 v v hv hv hs hd []
  rw [same_refl v hv] at h
  exact ⟨m', h⟩
theorem pk_plain {due : List Va} {m : Mem} (hv : isDats due = true) (hs : small (.lst due) = true) (hd : deps due < 13) : Pk m due :=
  peek_self (resolve_plain (dat_plain (.lst due) (by simpa [isDat] using hv))) (same_self (by simpa [isDat] using hv) hs (by simp only [dep]; omega))
theorem pk_nil {m : Mem} : Pk m [] := pk_plain rfl rfl (by decide)
/-- an entry is right in the memory m -/
theorem ent_pk {x : Va} {i : Nat} {v : Va} {m : Mem} (h : Ent x i v) (hp : Pk m [x]) : ∃ (fs : List (Sg × Va)) (due : List Va), v = .tup [.obj (1001 + i) fs, .obj (1001 + i) fs, .clo i [], .lst due] ∧ (∀ m, app0 (.clo i []) [.obj (1001 + i) fs] m = .ok (.lst due) m) ∧ Pk m due := by
  obtain ⟨fs, due, e, ha, hd⟩ := h
  refine ⟨fs, due, e, ha, ?_⟩
  rcases hd with rfl | rfl
  · exact hp
  · exact pk_nil
theorem can_ok {i : Nat} (h : i < 46) : can0 (.clo i []) = true := decide_eq_true h
theorem in1_ok {x w : Va} {i : Nat} {m : Mem} (hi : i < 46) (h : Ent x i w) (hp : ∀ g, Pk (m ++ g) [x]) (v0 v1 v2 v3 v4 v5 v6 v7 v8 v9 v10 v11 v12 v13 : Option Va) :
    ∃ (g : Mem) (e1 : Env) (w8 w9 w10 w11 w12 : Option Va), gTup 2 (gCons (gVar 8) (gCons (gTup 4 (gCons (gVar 9) (gCons (gVar 10) (gCons (gVar 11) (gCons (gVar 12) gNil))))) gNil)) (.tup [.int i, w]) [v0, v1, v2, v3, v4, v5, v6, v7, v8, v9, v10, v11, v12, v13] m = .ok e1 m ∧
      bIn1 e1 m = .ok (.nx [v0, v1, v2, v3, v4, v5, v6, v7, w8, w9, w10, w11, w12, v13]) (m ++ g) := by
  obtain ⟨fs, due, rfl, ha, _⟩ := ent_pk h (by simpa using hp [])
  obtain ⟨g1, e1⟩ := own_ok (fs := fs) (m := m) hi
  obtain ⟨g2, e2⟩ := own_ok (fs := fs) (m := m ++ g1) hi
  have hpd : Pk (m ++ (g1 ++ g2)) due := by
    obtain ⟨fs', due', e, _, q⟩ := ent_pk h (hp (g1 ++ g2))
    injection e with e
    simp at e
    rw [e.2]; exact q
  unfold Pk at hpd
  simp only [List.append_assoc] at e2
  have hc := can_ok hi
  refine ⟨g1 ++ g2, [v0, v1, v2, v3, v4, v5, v6, v7, some (.int i), some (.obj (1001 + i) fs), some (.obj (1001 + i) fs), some (.clo i []), some (.lst due), v13], some (.int i), some (.obj (1001 + i) fs), some (.obj (1001 + i) fs), some (.clo i []), some (.lst due), by simp, ?_⟩
  simp [e1, e2, hc, ha, hpd]
/-- the 46 entries -/
def all46 (x : Va) : List Va := madeA x ++ madeB x
theorem all46_len (x : Va) : (all46 x).length = 46 := rfl
theorem all46_ent {x v : Va} (h : v ∈ all46 x) : ∃ i, i < 46 ∧ Ent x i v := by
  obtain ⟨i, hi, e⟩ := List.mem_iff_getElem.mp h
  exact ⟨i, by rw [all46_len] at hi; exact hi, ent_at i v (by rw [← e]; exact List.getElem?_eq_getElem hi)⟩
theorem enum_ent {x v : Va} (h : v ∈ enumV (all46 x)) : ∃ (i : Nat) (w : Va), v = .tup [.int i, w] ∧ i < 46 ∧ Ent x i w := by
  unfold enumV at h
  obtain ⟨i, hi, rfl⟩ := List.mem_map.mp h
  rw [List.mem_range, all46_len] at hi
  have hg : (all46 x)[i]? = some ((all46 x).getD i .non) := by
    have hl : i < (all46 x).length := by rw [all46_len]; exact hi
    rw [List.getD_eq_getElem?_getD, List.getElem?_eq_getElem hl]; rfl
  exact ⟨i, _, rfl, hi, ent_at i _ hg⟩
theorem loop1 {x : Va} {M : Mem} (hp : ∀ g, Pk (M ++ g) [x]) (v0 v1 v2 v3 v4 v5 v6 v7 v8 v9 v10 v11 v12 v13 : Option Va) :
    ∃ (g : Mem) (w8 w9 w10 w11 w12 : Option Va), forL (gTup 2 (gCons (gVar 8) (gCons (gTup 4 (gCons (gVar 9) (gCons (gVar 10) (gCons (gVar 11) (gCons (gVar 12) gNil))))) gNil))) bIn1 (enumV (all46 x)) [v0, v1, v2, v3, v4, v5, v6, v7, v8, v9, v10, v11, v12, v13] M =
      .ok (.nx [v0, v1, v2, v3, v4, v5, v6, v7, w8, w9, w10, w11, w12, v13]) (M ++ g) := by
  obtain ⟨e', m', e, _, g, w8, w9, w10, w11, w12, rfl, rfl⟩ := forL_rule (g := gTup 2 (gCons (gVar 8) (gCons (gTup 4 (gCons (gVar 9) (gCons (gVar 10) (gCons (gVar 11) (gCons (gVar 12) gNil))))) gNil))) (b := bIn1)
    (fun r e m => (∀ v ∈ r, ∃ (i : Nat) (w : Va), v = .tup [.int i, w] ∧ i < 46 ∧ Ent x i w) ∧ ∃ (g : Mem) (w8 w9 w10 w11 w12 : Option Va), e = [v0, v1, v2, v3, v4, v5, v6, v7, w8, w9, w10, w11, w12, v13] ∧ m = M ++ g)
    (fun v r e m ⟨h1, g, w8, w9, w10, w11, w12, h2, h3⟩ => by
      obtain ⟨i, w, rfl, hi, hw⟩ := h1 v (List.mem_cons_self ..)
      obtain ⟨g2, e1, u8, u9, u10, u11, u12, a1, a2⟩ := in1_ok (m := M ++ g) hi hw (fun g' => by rw [List.append_assoc]; exact hp _) v0 v1 v2 v3 v4 v5 v6 v7 w8 w9 w10 w11 w12 v13
      subst h2 h3
      exact ⟨e1, _, _, _, a1, .inl a2, fun z hz => h1 z (List.mem_cons_of_mem _ hz), g ++ g2, u8, u9, u10, u11, u12, rfl, by rw [List.append_assoc]⟩)
    (enumV (all46 x)) [v0, v1, v2, v3, v4, v5, v6, v7, v8, v9, v10, v11, v12, v13] M ⟨fun v hv => enum_ent hv, [], v8, v9, v10, v11, v12, rfl, by rw [List.append_nil]⟩
  exact ⟨g, w8, w9, w10, w11, w12, e⟩
theorem elA_ok {x v : Va} {i : Nat} {m : Mem} (hi : i < 46) (h : Ent x i v) (hp : Pk m [x]) (v0 v1 v2 v3 v4 v5 v6 v7 v8 v9 v10 v11 v12 v13 : Option Va) :
    ∃ e1 : Env, gTup 4 (gCons (gVar 9) (gCons (gVar 10) (gCons (gVar 11) (gCons (gVar 12) gNil)))) v [v0, v1, v2, v3, v4, v5, v6, v7, v8, v9, v10, v11, v12, v13] m = .ok e1 m ∧ elA e1 m = .ok (.bl true) m := by
  obtain ⟨fs, due, rfl, ha, hpd⟩ := ent_pk h hp
  unfold Pk at hpd
  have hc := can_ok hi
  exact ⟨[v0, v1, v2, v3, v4, v5, v6, v7, v8, some (.obj (1001 + i) fs), some (.obj (1001 + i) fs), some (.clo i []), some (.lst due), v13], by simp, by simp [hc, ha, hpd]⟩
theorem loopA {x : Va} {M : Mem} (hp : ∀ g, Pk (M ++ g) [x]) (v0 v1 v2 v3 v4 v5 v6 v7 v8 v9 v10 v11 v12 v13 : Option Va) :
    ∃ bs : List Bool, bs.all id = true ∧ lcL M.length (gTup 4 (gCons (gVar 9) (gCons (gVar 10) (gCons (gVar 11) (gCons (gVar 12) gNil))))) tYesM elA (all46 x) [v0, v1, v2, v3, v4, v5, v6, v7, v8, v9, v10, v11, v12, v13] (M ++ [.lst []]) = .ok () (M ++ [.lst (bs.map Va.bl)]) := by
  obtain ⟨acc', m', e, _, _, bs, hb, rfl, rfl⟩ := lcL_rule (n := M.length) (g := gTup 4 (gCons (gVar 9) (gCons (gVar 10) (gCons (gVar 11) (gCons (gVar 12) gNil))))) (el := elA) (env := [v0, v1, v2, v3, v4, v5, v6, v7, v8, v9, v10, v11, v12, v13])
    (fun r acc m => (∀ v ∈ r, ∃ i, i < 46 ∧ Ent x i v) ∧ acc.length + r.length ≤ 46 ∧ ∃ bs : List Bool, bs.all id = true ∧ acc = bs.map Va.bl ∧ m = M ++ [.lst (bs.map Va.bl)])
    (fun v r acc m ⟨h1, h2, bs, hb, h3, h4⟩ => by
      obtain ⟨i, hi, hv⟩ := h1 v (List.mem_cons_self ..)
      obtain ⟨e1, a1, a2⟩ := elA_ok (m := M ++ [.lst (bs.map Va.bl)]) hi hv (hp _) v0 v1 v2 v3 v4 v5 v6 v7 v8 v9 v10 v11 v12 v13
      simp only [List.length_cons] at h2
      subst h3 h4
      refine ⟨e1, _, .bl true, _, a1, a2, last_at, by have : line = 16777216 := rfl; omega, fun z hz => h1 z (List.mem_cons_of_mem _ hz), by rw [List.length_append]; simp only [List.length_singleton]; omega, bs ++ [true], by simpa using hb, by simp, by rw [set_last]; simp⟩)
    (all46 x) [] (M ++ [.lst []]) ⟨fun v hv => all46_ent hv, by rw [all46_len]; decide, [], rfl, rfl, rfl⟩
  exact ⟨bs, hb, e⟩
/-! ### the objects -/
def someL : List Va := [.non, .int 5, .int (-1), .bl true, .str [97], .str [], .ref 2, .tup [.int 2, .non], .ref 3, .ref 5, .int 100000000000000000, .tup [.str [115], .int 3], .bl false, .int 0, .int 1]
def base : Mem := [.lst [.int 1, .str [98]], .dct false [(.str [97], .int 1)], .lst [.str [120]], .lst [.ref 4], .lst someL]
theorem pk_dct {m : Mem} {k : Nat} {kvs : List (Va × Va)} (h : m[k]? = some (.dct false kvs)) (hk : ∀ n, mapO (fun (p : Va × Va) => if plain p.1 then (resolve n m p.2).map fun b => (p.1, b) else none) kvs = some kvs) (hs : ∃ m', Com.m__law_same 14 [.lst [.dct false kvs], .lst [.dct false kvs]] [] = .ok (.bl true) m') : Pk m [.ref k] := by
  have r0 : resolve 59 m (.ref k) = some (.dct false kvs) := by
    rw [show 59 = 58 + 1 from rfl, resolve]
    simp only [plain, h, Bool.false_eq_true, if_false, hk]; rfl
  exact peek_self (resolve_lst (n := 59) rfl (by simp only [mapO, r0])) hs
theorem pk_lst {m : Mem} {k : Nat} {xs : List Va} (h : m[k]? = some (.lst xs)) (hx : isDats xs = true) (hs : small (.lst [.lst xs]) = true) (hd : deps xs < 12) : Pk m [.ref k] := by
  refine peek_self (resolve_lst (n := 59) rfl (by simp only [mapO, resolve_cell (n := 58) h hx])) (same_self ?_ hs ?_)
  · simp [isDat, isDats, hx]
  · simp only [dep, deps]; omega
theorem base_pk {x : Va} (h : x ∈ someL) (s : St) (g : Mem) : Pk (s.mem (base ++ g)) [x] := by
  have g2 : (s.mem (base ++ g))[2]? = some (.lst [.int 1, .str [98]]) := rfl
  have g3 : (s.mem (base ++ g))[3]? = some (.dct false [(.str [97], .int 1)]) := rfl
  have g4 : (s.mem (base ++ g))[4]? = some (.lst [.str [120]]) := rfl
  have g5 : (s.mem (base ++ g))[5]? = some (.lst [.ref 4]) := rfl
  generalize s.mem (base ++ g) = m at g2 g3 g4 g5
  simp only [someL, List.mem_cons, List.not_mem_nil, or_false] at h
  rcases h with rfl | rfl | rfl | rfl | rfl | rfl | rfl | rfl | rfl | rfl | rfl | rfl | rfl | rfl | rfl
  · exact pk_plain rfl rfl (by decide)
  · exact pk_plain rfl rfl (by decide)
  · exact pk_plain rfl rfl (by decide)
  · exact pk_plain rfl rfl (by decide)
  · exact pk_plain rfl rfl (by decide)
  · exact pk_plain rfl rfl (by decide)
  · exact pk_lst g2 rfl rfl (by decide)
  · exact pk_plain rfl rfl (by decide)
  · refine pk_dct g3 (fun n => ?_) ⟨_, rfl⟩
    have : resolve n m (.int 1) = some (.int 1) := resolve_plain rfl
    simp only [mapO, plain, this]; rfl
  · have r5 : resolve 59 m (.ref 5) = some (.lst [.lst [.str [120]]]) := by
      rw [resolve_ref (n := 58) g5]
      simp only [mapO, resolve_cell (n := 57) g4 rfl]; rfl
    exact peek_self (d := .lst [.lst [.lst [.str [120]]]]) (resolve_lst (n := 59) rfl (by simp only [mapO, r5])) (same_self rfl rfl (by decide))
  · exact pk_plain rfl rfl (by decide)
  · exact pk_plain rfl rfl (by decide)
  · exact pk_plain rfl rfl (by decide)
  · exact pk_plain rfl rfl (by decide)
  · exact pk_plain rfl rfl (by decide)
@[simp] theorem enumOf_lst {xs : List Va} {m : Mem} : enumOf [.lst xs] m = .ok (.val (enumV xs)) m := rfl
@[simp] theorem iEnum_at {a : Env → M (List Va)} {env : Env} {m : Mem} : iEnum a env m = (a env m).bind fun xs m => enumOf xs m := rfl
theorem turn_ok {n : Nat} {s : St} {g : Mem} (hs : s.Ok (n + 2)) (v0 v3 v4 v5 v6 v7 v8 v9 v10 v11 v12 v13 : Option Va) :
    ∃ (s' : St) (g' : Mem) (w4 w5 w6 w7 w8 w9 w10 w11 w12 : Option Va), s'.Ok n ∧
      bTurn [v0, some (.ref 1), some (.ref 6), v3, v4, v5, v6, v7, v8, v9, v10, v11, v12, v13] (s.mem (base ++ g)) =
        .ok (.nx [v0, some (.ref 1), some (.ref 6), v3, w4, w5, w6, w7, w8, w9, w10, w11, w12, v13]) (s'.mem (base ++ g')) := by
  obtain ⟨x, s1, hx, h1, e1⟩ := pick_ref (r := base ++ g) (k := 4) (xs := someL) s (n := n + 1) hs rfl (by decide) (by decide)
  obtain ⟨y, s2, hy, h2, e2⟩ := pick_ref (r := base ++ g) (k := 4) (xs := someL) s1 (n := n) h1 rfl (by decide) (by decide)
  have e1' : m__law_pick [.ref 1, .ref 6] (s.mem (base ++ g)) = _ := e1
  have e2' : m__law_pick [.ref 1, .ref 6] (s1.mem (base ++ g)) = _ := e2
  have pX : ∀ g', Pk (s2.mem (base ++ g) ++ g') [x] := fun g' => by rw [St.app, List.append_assoc]; exact base_pk hx s2 _
  have pY : ∀ g', Pk (s2.mem (base ++ g) ++ g') [y] := fun g' => by rw [St.app, List.append_assoc]; exact base_pk hy s2 _
  have back : ∀ g', s2.mem (base ++ g) ++ g' = s2.mem (base ++ (g ++ g')) := fun g' => by rw [St.app, List.append_assoc]
  generalize s2.mem (base ++ g) = M at e2' pX pY back
  have a1 := madeA_ok (x := x) (m := M)
  have a2 := madeB_ok (x := x) (m := M ++ [.lst (madeA x)])
  have a3 := madeA_ok (x := y) (m := M ++ [.lst (madeA x)] ++ [.lst (madeB x)])
  have a4 := madeB_ok (x := y) (m := M ++ [.lst (madeA x)] ++ [.lst (madeB x)] ++ [.lst (madeA y)])
  have d1 : oAdd (.ref M.length) (.ref (M.length + 1)) (M ++ [.lst (madeA x), .lst (madeB x)]) = .ok (.lst (all46 x)) (M ++ [.lst (madeA x), .lst (madeB x)]) := by
    rw [oAdd_rr (xs := madeA x) (ys := madeB x) at_app (get_far (j := 1) rfl)]; rfl
  have d2 : oAdd (.ref (M.length + 2)) (.ref (M.length + 3)) (M ++ [.lst (madeA x), .lst (madeB x), .lst (madeA y), .lst (madeB y)]) = .ok (.lst (all46 y)) (M ++ [.lst (madeA x), .lst (madeB x), .lst (madeA y), .lst (madeB y)]) := by
    rw [oAdd_rr (xs := madeA y) (ys := madeB y) (get_far (j := 2) rfl) (get_far (j := 3) rfl)]; rfl
  obtain ⟨g1, w8, w9, w10, w11, w12, l1⟩ := loop1 (x := x) (M := M ++ [.lst (madeA x), .lst (madeB x), .lst (madeA y), .lst (madeB y)]) (fun g' => by rw [List.append_assoc]; exact pX _) v0 (some (.ref 1)) (some (.ref 6)) v3 (some x) (some y) (some (.lst (all46 x))) (some (.lst (all46 y))) v8 v9 v10 v11 v12 v13
  obtain ⟨bs, hb, l2⟩ := loopA (x := y) (M := M ++ [.lst (madeA x), .lst (madeB x), .lst (madeA y), .lst (madeB y)] ++ g1) (fun g' => by rw [List.append_assoc, List.append_assoc]; exact pY _) v0 (some (.ref 1)) (some (.ref 6)) v3 (some x) (some y) (some (.lst (all46 x))) (some (.lst (all46 y))) w8 none none none none v13
  have hall := bAll_ref (m := M ++ [.lst (madeA x), .lst (madeB x), .lst (madeA y), .lst (madeB y)] ++ g1 ++ [.lst (bs.map Va.bl)]) last_at
  rw [hb] at hall
  refine ⟨s2, g ++ ([.lst (madeA x), .lst (madeB x), .lst (madeA y), .lst (madeB y)] ++ g1 ++ [.lst (bs.map Va.bl)]), some x, some y, some (.lst (all46 x)), some (.lst (all46 y)), w8, w9, w10, w11, w12, h2, ?_⟩
  rw [← back]
  simp only [List.append_assoc, List.cons_append, List.nil_append, List.length_append, List.length_cons, List.length_nil] at a1 a2 a3 a4 d1 d2 l1 l2 hall
  simp [e1', e2', a1, a2, a3, a4, d1, d2, l1, l2, hall, setAll, wipeE]
theorem turns_ok {n : Nat} (v0 v13 : Option Va) : ∀ (xs : List Va) (s : St) (g : Mem) (v3 v4 v5 v6 v7 v8 v9 v10 v11 v12 : Option Va), s.Ok (n + 2 * xs.length) →
    ∃ (s' : St) (g' : Mem) (w3 w4 w5 w6 w7 w8 w9 w10 w11 w12 : Option Va), s'.Ok n ∧
      forL (gVar 3) bTurn xs [v0, some (.ref 1), some (.ref 6), v3, v4, v5, v6, v7, v8, v9, v10, v11, v12, v13] (s.mem (base ++ g)) =
        .ok (.nx [v0, some (.ref 1), some (.ref 6), w3, w4, w5, w6, w7, w8, w9, w10, w11, w12, v13]) (s'.mem (base ++ g'))
  | [], s, g, v3, v4, v5, v6, v7, v8, v9, v10, v11, v12, hs => ⟨s, g, v3, v4, v5, v6, v7, v8, v9, v10, v11, v12, hs, rfl⟩
  | x :: xs, s, g, v3, v4, v5, v6, v7, v8, v9, v10, v11, v12, hs => by
    simp only [List.length_cons] at hs
    obtain ⟨s1, g1, w4, w5, w6, w7, w8, w9, w10, w11, w12, h1, e1⟩ := turn_ok (n := n + 2 * xs.length) (s := s) (g := g) (hs.le (by omega)) v0 (some x) v4 v5 v6 v7 v8 v9 v10 v11 v12 v13
    obtain ⟨s2, g2, u3, u4, u5, u6, u7, u8, u9, u10, u11, u12, a1, a2⟩ := turns_ok (n := n) v0 v13 xs s1 g1 (some x) w4 w5 w6 w7 w8 w9 w10 w11 w12 h1
    exact ⟨s2, g2, u3, u4, u5, u6, u7, u8, u9, u10, u11, u12, a1, by rw [forL_nx (gVar_at ..) e1]; exact a2⟩
/-! ### what is changed later -/
theorem loop2 {x : Va} {M : Mem} (hp : Pk M [x]) (v0 v1 v2 v3 v4 v5 v6 v7 v8 v9 v10 v11 v12 v13 : Option Va) :
    ∃ (w9 w10 w11 w12 : Option Va), forL (gTup 4 (gCons (gVar 9) (gCons (gVar 10) (gCons (gVar 11) (gCons (gVar 12) gNil))))) bIn2 (all46 x) [v0, v1, v2, v3, v4, v5, v6, v7, v8, v9, v10, v11, v12, v13] M =
      .ok (.nx [v0, v1, v2, v3, v4, v5, v6, v7, v8, w9, w10, w11, w12, v13]) M := by
  obtain ⟨e', m', e, _, w9, w10, w11, w12, rfl, rfl⟩ := forL_rule (g := gTup 4 (gCons (gVar 9) (gCons (gVar 10) (gCons (gVar 11) (gCons (gVar 12) gNil))))) (b := bIn2)
    (fun r e m => (∀ v ∈ r, ∃ i, i < 46 ∧ Ent x i v) ∧ ∃ (w9 w10 w11 w12 : Option Va), e = [v0, v1, v2, v3, v4, v5, v6, v7, v8, w9, w10, w11, w12, v13] ∧ m = M)
    (fun v r e m ⟨h1, w9, w10, w11, w12, h2, h3⟩ => by
      obtain ⟨i, hi, hv⟩ := h1 v (List.mem_cons_self ..)
      subst h2 h3
      obtain ⟨fs, due, rfl, ha, hpd⟩ := ent_pk hv hp
      unfold Pk at hpd
      have hc := can_ok hi
      refine ⟨[v0, v1, v2, v3, v4, v5, v6, v7, v8, some (.obj (1001 + i) fs), some (.obj (1001 + i) fs), some (.clo i []), some (.lst due), v13], m, [v0, v1, v2, v3, v4, v5, v6, v7, v8, some (.obj (1001 + i) fs), some (.obj (1001 + i) fs), some (.clo i []), some (.lst due), v13], m, by simp, .inl ?_, fun z hz => h1 z (List.mem_cons_of_mem _ hz), _, _, _, _, rfl, rfl⟩
      simp [hc, ha, hpd])
    (all46 x) [v0, v1, v2, v3, v4, v5, v6, v7, v8, v9, v10, v11, v12, v13] M ⟨fun v hv => all46_ent hv, v9, v10, v11, v12, rfl, rfl⟩
  exact ⟨w9, w10, w11, w12, e⟩
theorem held_ok {m : Mem} (v0 v1 v2 v3 v4 v5 v6 v7 v8 v9 v10 v11 v12 v13 : Option Va) :
    ∃ (m' : Mem) (w6 w9 w10 w11 w12 w13 : Option Va), forL (gVar 13) bHeld [.ref m.length, .ref (m.length + 1)] [v0, v1, v2, v3, v4, v5, v6, v7, v8, v9, v10, v11, v12, v13] (m ++ [.lst [.str [118]], .dct false [(.str [118], .int 1)]]) =
      .ok (.nx [v0, v1, v2, v3, v4, v5, w6, v7, v8, w9, w10, w11, w12, w13]) m' := by
  -- the list
  have a1 := madeA_ok (x := .ref m.length) (m := m ++ [.lst [.str [118]], .dct false [(.str [118], .int 1)]])
  have a2 := madeB_ok (x := .ref m.length) (m := m ++ [.lst [.str [118]], .dct false [(.str [118], .int 1)]] ++ [.lst (madeA (.ref m.length))])
  have c1 : ∀ (c : Cell) (g : Mem), (m ++ c :: g)[m.length]? = some c := fun c g => at_app
  have c2 : ∀ (c d : Cell) (g : Mem), (m ++ c :: d :: g)[m.length + 1]? = some d := fun c d g => get_far rfl
  have c3 : ∀ (a b c : Cell) (g : Mem), (m ++ a :: b :: c :: g)[m.length + 2]? = some c := fun a b c g => get_far rfl
  have c4 : ∀ (a b c d : Cell) (g : Mem), (m ++ a :: b :: c :: d :: g)[m.length + 3]? = some d := fun a b c d g => get_far rfl
  have d1 : ∀ (a b : Cell) (g : Mem), oAdd (.ref (m.length + 2)) (.ref (m.length + 3)) (m ++ a :: b :: .lst (madeA (.ref m.length)) :: .lst (madeB (.ref m.length)) :: g) = .ok (.lst (all46 (.ref m.length))) (m ++ a :: b :: .lst (madeA (.ref m.length)) :: .lst (madeB (.ref m.length)) :: g) := fun a b g => by
    rw [oAdd_rr (c3 ..) (c4 ..)]; rfl
  have hap : ∀ g : Mem, oAppend (.ref m.length) [.str [108, 97, 116, 101]] (m ++ .lst [.str [118]] :: g) = .ok .non (m ++ .lst [.str [118], .str [108, 97, 116, 101]] :: g) := fun g => by
    rw [oAppend_ref (c1 _ g) (by decide), set_app]; rfl
  have hck : ∀ g : Mem, chkL (.ref m.length) (m ++ .lst [.str [118]] :: g) = true := fun g => chkL_ref (c1 _ g)
  obtain ⟨w9, w10, w11, w12, l1⟩ := loop2 (x := .ref m.length) (M := m ++ [.lst [.str [118], .str [108, 97, 116, 101]], .dct false [(.str [118], .int 1)], .lst (madeA (.ref m.length)), .lst (madeB (.ref m.length))]) (pk_lst (c1 _ _) rfl rfl (by decide)) v0 v1 v2 v3 v4 v5 (some (.lst (all46 (.ref m.length)))) v7 v8 v9 v10 v11 v12 (some (.ref m.length))
  have t1 : bHeld [v0, v1, v2, v3, v4, v5, v6, v7, v8, v9, v10, v11, v12, some (.ref m.length)] (m ++ [.lst [.str [118]], .dct false [(.str [118], .int 1)]]) =
      .ok (.nx [v0, v1, v2, v3, v4, v5, some (.lst (all46 (.ref m.length))), v7, v8, w9, w10, w11, w12, some (.ref m.length)]) (m ++ [.lst [.str [118], .str [108, 97, 116, 101]], .dct false [(.str [118], .int 1)], .lst (madeA (.ref m.length)), .lst (madeB (.ref m.length))]) := by
    simp only [List.append_assoc, List.cons_append, List.nil_append, List.length_append, List.length_cons, List.length_nil] at a1 a2
    simp [a1, a2, d1, bIsi, tyS, isub, kts, c1, hck, hap, l1]
  -- the dict
  have a3 := madeA_ok (x := .ref (m.length + 1)) (m := m ++ [.lst [.str [118], .str [108, 97, 116, 101]], .dct false [(.str [118], .int 1)], .lst (madeA (.ref m.length)), .lst (madeB (.ref m.length))])
  have a4 := madeB_ok (x := .ref (m.length + 1)) (m := m ++ [.lst [.str [118], .str [108, 97, 116, 101]], .dct false [(.str [118], .int 1)], .lst (madeA (.ref m.length)), .lst (madeB (.ref m.length))] ++ [.lst (madeA (.ref (m.length + 1)))])
  have d2 : ∀ (a b c d : Cell) (g : Mem), oAdd (.ref (m.length + 4)) (.ref (m.length + 5)) (m ++ a :: b :: c :: d :: .lst (madeA (.ref (m.length + 1))) :: .lst (madeB (.ref (m.length + 1))) :: g) = .ok (.lst (all46 (.ref (m.length + 1)))) (m ++ a :: b :: c :: d :: .lst (madeA (.ref (m.length + 1))) :: .lst (madeB (.ref (m.length + 1))) :: g) := fun a b c d g => by
    rw [oAdd_rr (get_far (j := 4) rfl) (get_far (j := 5) rfl)]; rfl
  have hset : ∀ (a : Cell) (g : Mem), stC (m ++ a :: .dct false [(.str [118], .int 1)] :: g) (m.length + 1) (.str [108, 97, 116, 101]) (.int 2) (some (.dct false [(.str [118], .int 1)])) = .ok () (m ++ a :: .dct false [(.str [118], .int 1), (.str [108, 97, 116, 101], .int 2)] :: g) := fun a g => by
    show (if isKey false (.str [108, 97, 116, 101]) = true ∧ ([(Va.str [118], Va.int 1)] : List (Va × Va)).length < line then Res.ok () ((m ++ a :: .dct false [(.str [118], .int 1)] :: g).set (m.length + 1) (.dct false (putK false (.str [108, 97, 116, 101]) (.int 2) [(.str [118], .int 1)]))) else .no) = _
    rw [if_pos ⟨rfl, by decide⟩, List.set_append_right _ _ (by omega), Nat.add_sub_cancel_left]
    rfl
  obtain ⟨u9, u10, u11, u12, l2⟩ := loop2 (x := .ref (m.length + 1)) (M := m ++ [.lst [.str [118], .str [108, 97, 116, 101]], .dct false [(.str [118], .int 1), (.str [108, 97, 116, 101], .int 2)], .lst (madeA (.ref m.length)), .lst (madeB (.ref m.length)), .lst (madeA (.ref (m.length + 1))), .lst (madeB (.ref (m.length + 1)))])
    (pk_dct (c2 _ _ _) (fun n => by
      have r1 : ∀ M : Mem, resolve n M (.int 1) = some (.int 1) := fun _ => resolve_plain rfl
      have r2 : ∀ M : Mem, resolve n M (.int 2) = some (.int 2) := fun _ => resolve_plain rfl
      simp only [mapO, plain, r1, r2]; rfl) ⟨_, rfl⟩) v0 v1 v2 v3 v4 v5 (some (.lst (all46 (.ref (m.length + 1))))) v7 v8 w9 w10 w11 w12 (some (.ref (m.length + 1)))
  have t2 : bHeld [v0, v1, v2, v3, v4, v5, some (.lst (all46 (.ref m.length))), v7, v8, w9, w10, w11, w12, some (.ref (m.length + 1))] (m ++ [.lst [.str [118], .str [108, 97, 116, 101]], .dct false [(.str [118], .int 1)], .lst (madeA (.ref m.length)), .lst (madeB (.ref m.length))]) =
      .ok (.nx [v0, v1, v2, v3, v4, v5, some (.lst (all46 (.ref (m.length + 1)))), v7, v8, u9, u10, u11, u12, some (.ref (m.length + 1))]) (m ++ [.lst [.str [118], .str [108, 97, 116, 101]], .dct false [(.str [118], .int 1), (.str [108, 97, 116, 101], .int 2)], .lst (madeA (.ref m.length)), .lst (madeB (.ref m.length)), .lst (madeA (.ref (m.length + 1))), .lst (madeB (.ref (m.length + 1)))]) := by
    simp only [List.append_assoc, List.cons_append, List.nil_append, List.length_append, List.length_cons, List.length_nil] at a3 a4
    simp [a3, a4, d2, bIsi, tyS, isub, kts, c2, hset, l2]
  exact ⟨_, _, _, _, _, _, _, by rw [forL_nx (gVar_at ..) t1, forL_nx (gVar_at ..) t2]; rfl⟩
theorem law_ok {ns : List Int} (hn : ns.length ≤ 63) : ∃ m', m_law [.scr ns] [] = .ok (.bl true) m' := by
  have h0 := stream_ok ns
  obtain ⟨s, g, w3, w4, w5, w6, w7, w8, w9, w10, w11, w12, hs, e1⟩ := turns_ok (n := 0) (some (.scr ns)) none (upFrom 0 3) ⟨ns, 0, 0, 17⟩ [] none none none none none none none none none none (St.start (by omega) (by decide))
  have hr : range1 [.int 3] (St.mem ⟨ns, 0, 0, 17⟩ (base ++ [])) = .ok (.val (upFrom 0 3)) (St.mem ⟨ns, 0, 0, 17⟩ (base ++ [])) := range1_at ⟨by decide, by decide⟩
  generalize s.mem (base ++ g) = M at e1
  obtain ⟨m', u6, u9, u10, u11, u12, u13, e2⟩ := held_ok (m := M) (some (.scr ns)) (some (.ref 1)) (some (.ref 6)) w3 w4 w5 w6 w7 w8 w9 w10 w11 w12 none
  refine ⟨m', ?_⟩
  have hp : ∀ m, oPow (.int 10) (.int 17) m = .ok (.int 100000000000000000) m := fun m => rfl
  have hneg : ∀ m, oNeg (.int 1) m = .ok (.int (-1)) m := fun m => rfl
  simp only [base, someL, List.append_nil] at hr e1
  simp [m_law, h0, hp, hneg, line, eDict1, hr, e1, e2]
end K00
end Vm
end
section
theorem Vm.K00.holds : PySem.Challenge.rw_asuncut_k00_errors_made.Holds := k00_of fun _ h => Vm.K00.law_ok h
end
theorem PySem.Challenge.cw_asuncut_k00_errors_made_holds : PySem.Challenge.rw_asuncut_k00_errors_made.Holds :=
  Vm.K00.holds
