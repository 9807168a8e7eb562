import PyProof.Rows.All
import Wide.All
import OpenK.AllK
import Wide.FinOn
import KE.KStateDown
import HandS.ForMost
import HandS.ForSpec
import HandS.More
import HandS.Defaults
import HandS.HeadHook2
import HandS.FStr
import HandS.TupAny
import HandS.Flow
import HandS.Small
import HandS.Text
import HandS.TryOnly
import HandS.ExcField
import HandS.ExcIs
import HandS.ExcInit
import HandS.Nested
import HandS.ClsMeth
import KE.KExcSuper
import KE.KExcIs
import PyProof.StrBlock2
import KE.GoesEnum
import HandS.HeadEnd
import HandS.Head2
import PySem.Challenge.RW_loancheck_k01_faults_of_texts
set_option Elab.async false
set_option linter.all false
set_option maxRecDepth 100000
set_option maxHeartbeats 0
/-! SemCore: values, stores and the combinators of a small deterministic semantics (plain Lean, no kit). -/
namespace Sm
abbrev Tx := List Nat
inductive S where
  | non | bl (b : Bool) | int (i : Int) | str (x : Tx) | tup (l : List S) | ref (n : Nat) | fn (i : Nat) | cst (a : Nat)
  deriving Inhabited
structure Ex where
  c : Nat
  fs : List (Nat × S)
inductive Cell where
  | lst (l : List S) | dct (l : List (S × S)) | ins (c : Nat) (fs : List (Nat × S)) | rol (l : List S) | exn (e : Ex)
def Cell.solid : Cell → Bool
  | .exn _ => false
  | _ => true
abbrev Sto := List Cell
inductive Res (α : Type) where
  | ok (a : α) (st : Sto) | exc (e : Ex) (st : Sto) | bad
def Res.bind {α β : Type} : Res α → (α → Sto → Res β) → Res β
  | .ok a st, k => k a st
  | .exc e st, _ => .exc e st
  | .bad, _ => .bad
abbrev Env := List (Option S)
inductive SR where
  | nx (ρ : Env) (st : Sto) | rt (v : S) (st : Sto) | bk (ρ : Env) (st : Sto) | ct (ρ : Env) (st : Sto) | exc (e : Ex) (ρ : Env) (st : Sto) | bad
abbrev EM := Env → Sto → Res S
abbrev AM := Env → Sto → Res (List S)
abbrev TM := Env → Sto → Res Bool
abbrev SM := Env → Sto → SR
abbrev Fn := List S → Sto → Res S
def SZ : Nat := 16777216
/-! ### plain values -/
mutual
def S.eqb : S → S → Bool
  | .non, y => match y with | .non => true | _ => false
  | .bl a, y => match y with | .bl b => a == b | .int j => (if a then 1 else 0) == j | _ => false
  | .int i, y => match y with | .bl b => i == (if b then 1 else 0) | .int j => i == j | _ => false
  | .str x, y => match y with | .str z => x == z | _ => false
  | .tup l, y => match y with | .tup r => S.eqL l r | _ => false
  | .ref _, _ => false
  | .fn _, _ => false
  | .cst _, _ => false
def S.eqL : List S → List S → Bool
  | [], r => match r with | [] => true | _ => false
  | x :: l, r => match r with | [] => false | y :: r => S.eqb x y && S.eqL l r
end
def okTx (x : Tx) : Bool := x.all fun c => decide (c < 1114112)
mutual
def S.plain : S → Bool
  | .tup l => S.plainL l
  | .str x => okTx x
  | .ref _ => false
  | .fn _ => false
  | .cst _ => false
  | _ => true
def S.plainL : List S → Bool
  | [] => true
  | x :: l => S.plain x && S.plainL l
end
mutual
def S.dep : S → Nat
  | .tup l => S.depL l + 1
  | _ => 0
def S.depL : List S → Nat
  | [] => 0
  | x :: l => max (S.dep x) (S.depL l)
end
mutual
/-- no reference within -/
def S.clean : S → Bool
  | .tup l => S.cleanL l
  | .ref _ => false
  | _ => true
def S.cleanL : List S → Bool
  | [] => true
  | x :: l => S.clean x && S.cleanL l
end
def S.flat : S → Bool
  | .non => true
  | .bl _ => true
  | .int _ => true
  | .str _ => true
  | _ => false
/-! ### lists and texts by places -/
def ixN (n : Nat) (i : Int) : Option Nat := if 0 ≤ i then (if i < n then some i.toNat else none) else if -(n : Int) ≤ i then some (i + n).toNat else none
def atI {α : Type} (l : List α) (i : Int) : Option α := (ixN l.length i).bind fun j => l[j]?
def sIx (n d : Nat) : Option Int → Nat
  | none => d
  | some v => if v < 0 then (v + (n : Int)).toNat else min v.toNat n
def cut {α : Type} (l : List α) (lo hi : Option Int) : List α := (l.drop (sIx l.length 0 lo)).take (sIx l.length l.length hi - sIx l.length 0 lo)
def putK (k : Nat) (v : S) : List (Nat × S) → List (Nat × S)
  | [] => [(k, v)]
  | (g, x) :: r => if g = k then (g, v) :: r else (g, x) :: putK k v r
def truth : S → Sto → Option Bool
  | .non, _ => some false
  | .bl b, _ => some b
  | .int i, _ => some (i != 0)
  | .str x, _ => if x.length ≤ SZ then some (!x.isEmpty) else none
  | .tup l, _ => some (!l.isEmpty)
  | .ref n, st => match st[n]? with
    | some (.lst l) => some (!l.isEmpty)
    | some (.dct l) => some (!l.isEmpty)
    | _ => none
  | _, _ => none
/-! ### operators on values -/
abbrev F1 := S → Sto → Res S
abbrev F2 := S → S → Sto → Res S
def addS : F2 := fun x y st => match x, y with
  | .int i, .int j => .ok (.int (i + j)) st
  | .str a, .str b => if a.length + b.length ≤ SZ then .ok (.str (a ++ b)) st else .bad
  | .tup a, .tup b => if a.length + b.length ≤ SZ then .ok (.tup (a ++ b)) st else .bad
  | .ref n, .ref m => match st[n]?, st[m]? with
    | some (.lst a), some (.lst b) => if a.length + b.length ≤ SZ then .ok (.ref st.length) (st ++ [.lst (a ++ b)]) else .bad
    | _, _ => .bad
  | _, _ => .bad
def subI : F2 := fun x y st => match x, y with
  | .int i, .int j => .ok (.int (i - j)) st
  | _, _ => .bad
def mulS : F2 := fun x y st => match x, y with
  | .int i, .int j => if (-18446744073709551616 < i ∧ i < 18446744073709551616) ∨ (-18446744073709551616 < j ∧ j < 18446744073709551616) then .ok (.int (i * j)) st else .bad
  | .str a, .int j => if a.length * j.toNat ≤ SZ ∧ j < 1000000 ∧ -1000000 < j then .ok (.str (List.replicate j.toNat a).flatten) st else .bad
  | _, _ => .bad
def modI : F2 := fun x y st => match x, y with
  | .int i, .int j => if 0 < j then .ok (.int (i % j)) st else .bad
  | _, _ => .bad
def fdivI : F2 := fun x y st => match x, y with
  | .int i, .int j => if 0 < j ∧ j < 1073741824 then .ok (.int (i / j)) st else .bad
  | _, _ => .bad
def powI : F2 := fun x y st => match x, y with
  | .int i, .int j => if 0 ≤ j ∧ j ≤ 1000000 ∧ i.natAbs < 18446744073709551616 then .ok (.int (i ^ j.toNat)) st else .bad
  | _, _ => .bad
def negI : F1 := fun x st => match x with
  | .int i => .ok (.int (-i)) st
  | _ => .bad
def cmpI (p : Int → Int → Bool) : F2 := fun x y st => match x, y with
  | .int i, .int j => .ok (.bl (p i j)) st
  | _, _ => .bad
def ltI : F2 := cmpI fun i j => decide (i < j)
def leI : F2 := cmpI fun i j => decide (i ≤ j)
def gtI : F2 := cmpI fun i j => decide (j < i)
def geI : F2 := cmpI fun i j => decide (j ≤ i)
/-- equality, of plain values and of lists of them -/
def eqV (x y : S) (st : Sto) : Option Bool := match x, y with
  | .ref n, .ref m => match st[n]?, st[m]? with
    | some (.lst a), some (.lst b) => if S.plainL a && S.plainL b && decide (S.depL a ≤ 60) then some (S.eqL a b) else none
    | _, _ => none
  | x, y => if x.flat && y.flat then some (x.eqb y) else if x.plain && y.plain && decide (x.dep ≤ 60) then some (x.eqb y) else none
def eqS : F2 := fun x y st => match eqV x y st with
  | some b => .ok (.bl b) st
  | none => .bad
def neS : F2 := fun x y st => match eqV x y st with
  | some b => .ok (.bl (!b)) st
  | none => .bad
def S.isNon : S → Bool
  | .non => true
  | _ => false
def isN : F2 := fun x y st => match y with
  | .non => .ok (.bl x.isNon) st
  | _ => .bad
def isNotN : F2 := fun x y st => match y with
  | .non => .ok (.bl (!x.isNon)) st
  | _ => .bad
def memV (x y : S) (st : Sto) : Option Bool := match y with
  | .str t => match x with
    | .str [c] => some (decide (c ∈ t))
    | _ => none
  | .tup l => if x.plain && S.plainL l && decide (x.dep ≤ 60) then some (l.any fun z => z.eqb x) else none
  | .ref n => match st[n]? with
    | some (.lst l) => if x.plain && S.plainL l && decide (x.dep ≤ 60) then some (l.any fun z => z.eqb x) else none
    | _ => none
  | _ => none
def inS : F2 := fun x y st => match memV x y st with
  | some b => .ok (.bl b) st
  | none => .bad
def notInS : F2 := fun x y st => match memV x y st with
  | some b => .ok (.bl (!b)) st
  | none => .bad
/-- a[i] -/
def itemS : F2 := fun x y st => match x with
  | .tup l => match y with
    | .int i => match atI l i with
      | some v => .ok v st
      | none => .bad
    | _ => .bad
  | .str t => match y with
    | .int i => if t.length ≤ SZ then (match atI t i with
      | some c => .ok (.str [c]) st
      | none => .bad) else .bad
    | _ => .bad
  | .ref n => match st[n]? with
    | some (.lst l) => match y with
      | .int i => match atI l i with
        | some v => .ok v st
        | none => .bad
      | _ => .bad
    | some (.rol l) => match y with
      | .int i => match atI l i with
        | some v => .ok v st
        | none => .bad
      | _ => .bad
    | _ => .bad
  | _ => .bad
/-- a[lo:hi] -/
def sliceS (lo hi : Option Int) : F1 := fun x st => match x with
  | .str t => if t.length ≤ SZ then .ok (.str (cut t lo hi)) st else .bad
  | .tup l => .ok (.tup (cut l lo hi)) st
  | .ref n => match st[n]? with
    | some (.lst l) => .ok (.ref st.length) (st ++ [.lst (cut l lo hi)])
    | _ => .bad
  | _ => .bad
/-! ### built-in functions -/
def lenF : Fn := fun l st => match l with
  | [.tup x] => .ok (.int x.length) st
  | [.str x] => if x.length ≤ SZ then .ok (.int x.length) st else .bad
  | [.ref n] => match st[n]? with
    | some (.lst x) => .ok (.int x.length) st
    | some (.rol x) => .ok (.int x.length) st
    | _ => .bad
  | _ => .bad
def intF : Fn := fun l st => match l with
  | [.int i] => .ok (.int i) st
  | [.bl b] => .ok (.int (if b then 1 else 0)) st
  | _ => .bad
def max2F : Fn := fun l st => match l with
  | [.int i, .int j] => .ok (.int (if j > i then j else i)) st
  | _ => .bad
def tupleF : Fn := fun l st => match l with
  | [.tup x] => .ok (.tup x) st
  | [.ref n] => match st[n]? with
    | some (.lst x) => .ok (.tup x) st
    | _ => .bad
  | _ => .bad
def listF : Fn := fun l st => match l with
  | [.tup x] => .ok (.ref st.length) (st ++ [.lst x])
  | [.ref n] => match st[n]? with
    | some (.lst x) => .ok (.ref st.length) (st ++ [.lst x])
    | _ => .bad
  | _ => .bad
/-! methods of lists: the receiver first -/
def appendF : Fn := fun l st => match l with
  | [.ref n, y] => match st[n]? with
    | some (.lst x) => if x.length < SZ then .ok .non (st.set n (.lst (x ++ [y]))) else .bad
    | _ => .bad
  | _ => .bad
def popF : Fn := fun l st => match l with
  | [.ref n] => match st[n]? with
    | some (.lst x) => match x[x.length - 1]? with
      | some y => .ok y (st.set n (.lst x.dropLast))
      | none => .bad
    | _ => .bad
  | _ => .bad
/-! ### expressions -/
def eVar (i : Nat) : EM := fun ρ st => match ρ[i]? with
  | some (some v) => .ok v st
  | _ => .bad
def eC (v : S) : EM := fun _ st => .ok v st
def eBin (f : F2) (a b : EM) : EM := fun ρ st => (a ρ st).bind fun x st => (b ρ st).bind fun y st => f x y st
def eUn (f : F1) (a : EM) : EM := fun ρ st => (a ρ st).bind fun x st => f x st
def aNil : AM := fun _ st => .ok [] st
def aCons (a : EM) (r : AM) : AM := fun ρ st => (a ρ st).bind fun x st => (r ρ st).bind fun l st => .ok (x :: l) st
def eTup (r : AM) : EM := fun ρ st => (r ρ st).bind fun l st => if l.length ≤ SZ then .ok (.tup l) st else .bad
def eLst (r : AM) : EM := fun ρ st => (r ρ st).bind fun l st => if l.length ≤ SZ then .ok (.ref st.length) (st ++ [.lst l]) else .bad
def eIf (c : TM) (a b : EM) : EM := fun ρ st => (c ρ st).bind fun t st => if t = true then a ρ st else b ρ st
def eCall (f : Fn) (r : AM) : EM := fun ρ st => (r ρ st).bind fun l st => f l st
/-- o.f (ms: what the class has under a name that is no field) -/
def eAttr (ms : Nat → List Nat) (k : Nat) (o : EM) : EM := fun ρ st => (o ρ st).bind fun x st => match x with
  | .ref n => match st[n]? with
    | some (.ins c fs) => if k ∈ ms c then .bad else match fs.lookup k with
      | some v => .ok v st
      | none => .bad
    | _ => .bad
  | _ => .bad
/-- o.m(..), a method of the class c, whose name has the number k -/
def eMeth (c k : Nat) (f : Fn) (o : EM) (r : AM) : EM := fun ρ st => (o ρ st).bind fun x st => match x with
  | .ref n => match st[n]? with
    | some (.ins c' fs) => if c' = c ∧ fs.lookup k = none then (r ρ st).bind fun l st => f (x :: l) st else .bad
    | _ => .bad
  | _ => .bad
/-- o.m(..) of a built-in type -/
def isLst (x : S) (st : Sto) : Bool := match x with
  | .ref n => match st[n]? with
    | some (.lst _) => true
    | _ => false
  | _ => false
def isStr (x : S) (_ : Sto) : Bool := match x with
  | .str _ => true
  | _ => false
def eBm (ok : S → Sto → Bool) (f : Fn) (o : EM) (r : AM) : EM := fun ρ st => (o ρ st).bind fun x st => if ok x st = true then (r ρ st).bind fun l st => f (x :: l) st else .bad
/-- C(..): a new instance, then its __init__ -/
def eMake (c : Nat) (f : Fn) (r : AM) : EM := fun ρ st => (r ρ st).bind fun l st => (f (.ref st.length :: l) (st ++ [.ins c []])).bind fun v st' => match v with
  | .non => .ok (.ref st.length) st'
  | _ => .bad
def eNot (c : TM) : EM := fun ρ st => (c ρ st).bind fun b st => .ok (.bl (!b)) st
def eAnd (a b : EM) : EM := fun ρ st => (a ρ st).bind fun x st => match truth x st with
  | some true => b ρ st
  | some false => .ok x st
  | none => .bad
def eOr (a b : EM) : EM := fun ρ st => (a ρ st).bind fun x st => match truth x st with
  | some true => .ok x st
  | some false => b ρ st
  | none => .bad
/-- a part of a slice -/
abbrev OM := Env → Sto → Res (Option Int)
def oNone : OM := fun _ st => .ok none st
def oSome (a : EM) : OM := fun ρ st => (a ρ st).bind fun x st => match x with
  | .int i => .ok (some i) st
  | _ => .bad
def eSlice (a : EM) (lo hi : OM) : EM := fun ρ st => (a ρ st).bind fun x st => (lo ρ st).bind fun l st => (hi ρ st).bind fun h st => sliceS l h x st
/-! ### tests -/
def tVal (a : EM) : TM := fun ρ st => (a ρ st).bind fun x st => match truth x st with
  | some b => .ok b st
  | none => .bad
/-- a comparison as a test -/
def boolOf : S → Sto → Res Bool := fun v st => match v with
  | .bl b => .ok b st
  | _ => .bad
def tCmp (f : F2) (a b : EM) : TM := fun ρ st => (a ρ st).bind fun x st => (b ρ st).bind fun y st => (f x y st).bind boolOf
def tAnd (a b : TM) : TM := fun ρ st => (a ρ st).bind fun t st => if t = true then b ρ st else .ok false st
def tOr (a b : TM) : TM := fun ρ st => (a ρ st).bind fun t st => if t = true then .ok true st else b ρ st
def tNot (a : TM) : TM := fun ρ st => (a ρ st).bind fun t st => .ok (!t) st
/-! ### statements -/
def Res.toSR {α : Type} (r : Res α) (ρ : Env) (k : α → Sto → SR) : SR := match r with
  | .ok a st => k a st
  | .exc e st => .exc e ρ st
  | .bad => .bad
def sNext : SM := fun ρ st => .nx ρ st
def sSeq (a b : SM) : SM := fun ρ st => match a ρ st with
  | .nx ρ st => b ρ st
  | r => r
def sExpr (a : EM) : SM := fun ρ st => (a ρ st).toSR ρ fun _ st => .nx ρ st
def sRet (a : EM) : SM := fun ρ st => (a ρ st).toSR ρ fun v st => .rt v st
def sRetN : SM := fun _ st => .rt .non st
def sIf (c : TM) (a b : SM) : SM := fun ρ st => (c ρ st).toSR ρ fun t st => if t = true then a ρ st else b ρ st
/-- a target: what it makes of a value -/
abbrev GM := S → Env → Sto → SR
def gName (i : Nat) : GM := fun v ρ st => .nx (ρ.set i (some v)) st
def gTupL : List GM → List S → Env → Sto → SR
  | [], l, ρ, st => match l with
    | [] => .nx ρ st
    | _ => .bad
  | g :: gs, l, ρ, st => match l with
    | [] => .bad
    | v :: l => match g v ρ st with
      | .nx ρ st => gTupL gs l ρ st
      | r => r
def gTup (gs : List GM) : GM := fun v ρ st => match v with
  | .tup l => if l.length = gs.length then gTupL gs l ρ st else .bad
  | _ => .bad
/-- unpacking of a tuple or of a list -/
def gUnp (gs : List GM) : GM := fun v ρ st => match v with
  | .tup l => if l.length = gs.length then gTupL gs l ρ st else .bad
  | .ref n => match st[n]? with
    | some (.lst l) => if l.length = gs.length then gTupL gs l ρ st else .bad
    | _ => .bad
  | _ => .bad
def sAsg (a : EM) (g : GM) : SM := fun ρ st => (a ρ st).toSR ρ fun v st => g v ρ st
/-- o.f = a -/
def sFld (ms : Nat → List Nat) (k : Nat) (o a : EM) : SM := fun ρ st => (a ρ st).toSR ρ fun v st => (o ρ st).toSR ρ fun x st => match x with
  | .ref n => match st[n]? with
    | some (.ins c fs) => if k ∉ ms c ∧ fs.length < 1000 then .nx ρ (st.set n (.ins c (putK k v fs))) else .bad
    | _ => .bad
  | _ => .bad
/-- o.f op= a -/
def sFldAug (ms : Nat → List Nat) (k : Nat) (f : F2) (o a : EM) : SM := fun ρ st => (o ρ st).toSR ρ fun x st => match x with
  | .ref n => match st[n]? with
    | some (.ins c fs) => if k ∈ ms c then .bad else match fs.lookup k with
      | some v => (a ρ st).toSR ρ fun w st => (f v w st).toSR ρ fun z st => match st[n]? with
        | some (.ins c' fs) => if c' = c ∧ fs.length < 1000 then .nx ρ (st.set n (.ins c (putK k z fs))) else .bad
        | _ => .bad
      | none => .bad
    | _ => .bad
  | _ => .bad
/-- x op= a -/
def sAug (i : Nat) (f : F2) (a : EM) : SM := fun ρ st => match ρ[i]? with
  | some (some v) => (a ρ st).toSR ρ fun w st => (f v w st).toSR ρ fun z st => .nx (ρ.set i (some z)) st
  | _ => .bad
/-- o[i] = a -/
def setS (o i v : S) (ρ : Env) (st : Sto) : SR := match o with
  | .ref n => match st[n]? with
    | some (.lst l) => match i with
      | .int i => match ixN l.length i with
        | some j => .nx ρ (st.set n (.lst (l.set j v)))
        | none => .bad
      | _ => .bad
    | _ => .bad
  | _ => .bad
def sSub (o i a : EM) : SM := fun ρ st => (a ρ st).toSR ρ fun v st => (o ρ st).toSR ρ fun x st => (i ρ st).toSR ρ fun y st => setS x y v ρ st
def sBreak : SM := fun ρ st => .bk ρ st
def sCont : SM := fun ρ st => .ct ρ st
/-! loops -/
def whileN (c : TM) (b : SM) : Nat → SM
  | 0, _, _ => .bad
  | n + 1, ρ, st => (c ρ st).toSR ρ fun t st => if t = true then (match b ρ st with
    | .nx ρ st => whileN c b n ρ st
    | .ct ρ st => whileN c b n ρ st
    | .bk ρ st => .nx ρ st
    | r => r) else .nx ρ st
/-- for over the items i, i + 1, .. of what stands still at each turn (w tells the item, or the end) -/
inductive Nxt where
  | item (v : S) | stop | bad
def forN (w : Nat → Sto → Nxt) (g : GM) (b : SM) : Nat → Nat → SM
  | 0, _, _, _ => .bad
  | n + 1, i, ρ, st => match w i st with
    | .bad => .bad
    | .stop => .nx ρ st
    | .item v => match g v ρ st with
      | .nx ρ st => (match b ρ st with
        | .nx ρ st => forN w g b n (i + 1) ρ st
        | .ct ρ st => forN w g b n (i + 1) ρ st
        | .bk ρ st => .nx ρ st
        | r => r)
      | _ => .bad
/-- while: at most n turns -/
def sWhile (n : Nat) (c : TM) (b : SM) : SM := whileN c b n
/-- what a for walks: how many turns at most, each turn's item -/
structure Walk where
  turns : Nat
  at_ : Nat → Sto → Nxt
abbrev WM := Env → Sto → Res Walk
def sFor (w : WM) (g : GM) (b : SM) : SM := fun ρ st => (w ρ st).toSR ρ fun w st => forN w.at_ g b (w.turns + 1) 0 ρ st
def walkL (n : Nat) (l : List S) : Walk := ⟨l.length, fun i st => match st[n]? with
  | some (.lst l') => (match l'[i]? with
    | some v => .item v
    | none => .stop)
  | _ => .bad⟩
def walkT (l : List S) : Walk := ⟨l.length, fun i _ => match l[i]? with
  | some v => .item v
  | none => .stop⟩
def walkR (lo : Int) (n : Nat) : Walk := ⟨n, fun i _ => if i < n then .item (.int (lo + i)) else .stop⟩
def walkS (x : Tx) : Walk := ⟨x.length, fun i _ => match x[i]? with
  | some c => .item (.str [c])
  | none => .stop⟩
/-- over a value: a list, a tuple, a text -/
def wVal (a : EM) : WM := fun ρ st => (a ρ st).bind fun x st => match x with
  | .tup l => .ok (walkT l) st
  | .str x => .ok (walkS x) st
  | .ref n => match st[n]? with
    | some (.lst l) => .ok (walkL n l) st
    | _ => .bad
  | _ => .bad
/-- enumerate(a), a a list or a tuple -/
def walkE (w : Walk) : Walk := ⟨w.turns, fun i st => match w.at_ i st with
  | .item v => .item (.tup [.int i, v])
  | r => r⟩
def wEnum (a : EM) : WM := fun ρ st => (a ρ st).bind fun x st => match x with
  | .tup l => .ok (walkE (walkT l)) st
  | .ref n => match st[n]? with
    | some (.lst l) => .ok (walkE (walkL n l)) st
    | _ => .bad
  | _ => .bad
def wRange1 (r : AM) : WM := fun ρ st => (r ρ st).bind fun l st => match l with
  | [.int n] => if n < 1000000000 ∧ -1000000000 < n then .ok (walkR 0 n.toNat) st else .bad
  | _ => .bad
def wRange2 (r : AM) : WM := fun ρ st => (r ρ st).bind fun l st => match l with
  | [.int a, .int b] => if b < 1000000000 ∧ -1000000000 < b ∧ a < 1000000000 ∧ -1000000000 < a then .ok (walkR a (b - a).toNat) st else .bad
  | _ => .bad
/-! exceptions -/
def sRaise (m : Env → Sto → Res Ex) : SM := fun ρ st => (m ρ st).toSR ρ fun e st => .exc e ρ st
/-- f'..', its text not told: whether it can be made -/
def msgN : List EM → Nat → EM
  | [], _, _, st => .ok .non st
  | p :: ps, c, ρ, st => (p ρ st).bind fun x st => match x with
    | .str y => if c + y.length ≤ SZ then msgN ps (c + y.length) ρ st else .bad
    | .int i => if i.natAbs.log2 < 1920 ∧ c + 1921 ≤ SZ then msgN ps (c + 1921) ρ st else .bad
    | _ => .bad
/-- C(..), C an own exception: its fields (the first parameter's first), the text that its __init__ makes of the arguments -/
def zipX : List Nat → List S → List (Nat × S) → List (Nat × S)
  | k :: r, v :: vs, acc => zipX r vs ((k, v) :: acc)
  | _, _, acc => acc
def eMkX (c : Nat) (fs : List Nat) (me : EM) (r : AM) : Env → Sto → Res Ex := fun ρ st => (r ρ st).bind fun l st => if S.cleanL l = true ∧ l.length = fs.length then (match me (none :: (l.map some ++ [none])) [] with
  | .ok _ _ => .ok ⟨c, zipX fs l []⟩ st
  | _ => .bad) else .bad
/-- try: a; except C as n: h (sub: which classes it takes; i: the slot of n, or none) -/
def sTry (sub : Nat → Option Bool) (i : Nat) (a : SM) (h : Nat → SM) : SM := fun ρ st => match a ρ st with
  | .exc e ρ st => (match sub e.c with
    | some true => (match h st.length (ρ.set i (some (.ref st.length))) (st ++ [.exn e]) with
      | .nx ρ st => .nx (ρ.set i none) st
      | .bk ρ st => .bk (ρ.set i none) st
      | .ct ρ st => .ct (ρ.set i none) st
      | .rt v st => .rt v st
      | _ => .bad)
    | some false => .exc e ρ st
    | none => .bad)
  | r => r
def sTryO (sub : Nat → Option Bool) (a : SM) (h : Nat → SM) : SM := fun ρ st => match a ρ st with
  | .exc e ρ st => (match sub e.c with
    | some true => (match h st.length ρ (st ++ [.exn e]) with
      | .exc _ _ _ => .bad
      | r => r)
    | some false => .exc e ρ st
    | none => .bad)
  | r => r
/-- e.f, e the exception that the suite holds, its cell at n, its class c -/
def eXf (n c k : Nat) (o : EM) : EM := fun ρ st => (o ρ st).bind fun x st => match x with
  | .ref m => if m = n then (match st[n]? with
    | some (.exn e) => if e.c = c then (match e.fs.lookup k with
      | some v => .ok v st
      | none => .bad) else .bad
    | _ => .bad) else .bad
  | _ => .bad
/-- isinstance(e, C), e an exception of the class c that has fields (b: the answer) -/
def tXis (n c : Nat) (b : Bool) (o : EM) : EM := fun ρ st => (o ρ st).bind fun x st => match x with
  | .ref m => if m = n then (match st[n]? with
    | some (.exn e) => if e.c = c ∧ e.fs ≠ [] then .ok (.bl b) st else .bad
    | _ => .bad) else .bad
  | _ => .bad
/-- a function called in a store of its own -/
def isoF (f : Fn) : Fn := fun l st => if S.cleanL l = true then (match f l [] with
  | .ok v _ => if v.clean = true then .ok v st else .bad
  | .exc e _ => if (e.fs.all fun q => q.2.clean) = true then .exc e st else .bad
  | .bad => .bad) else .bad
mutual
def S.shift (d : Nat) : S → S
  | .tup l => .tup (S.shiftL d l)
  | .ref n => .ref (d + n)
  | x => x
def S.shiftL (d : Nat) : List S → List S
  | [] => []
  | x :: l => S.shift d x :: S.shiftL d l
end
def shiftF (d : Nat) : List (Nat × S) → List (Nat × S)
  | [] => []
  | (k, x) :: l => (k, S.shift d x) :: shiftF d l
def shiftD (d : Nat) : List (S × S) → List (S × S)
  | [] => []
  | (k, x) :: l => (k, S.shift d x) :: shiftD d l
def Cell.shift (d : Nat) : Cell → Cell
  | .lst l => .lst (S.shiftL d l)
  | .dct l => .dct (shiftD d l)
  | .ins c fs => .ins c (shiftF d fs)
  | .rol l => .rol (S.shiftL d l)
  | .exn e => .exn ⟨e.c, shiftF d e.fs⟩
/-- a function called in a store of its own, what it makes behind ours -/
def impF (f : Fn) : Fn := fun l st => if S.cleanL l = true then (match f l [] with
  | .ok v s1 => .ok (v.shift st.length) (st ++ s1.map (Cell.shift st.length))
  | .exc e _ => if (e.fs.all fun q => q.2.clean) = true then .exc e st else .bad
  | .bad => .bad) else .bad
/-- a local name that holds a function -/
def eCallV (ft : Nat → Option Fn) (o : EM) (r : AM) : EM := fun ρ st => (o ρ st).bind fun x st => match x with
  | .fn i => (match ft i with
    | some f => (r ρ st).bind fun l st => f l st
    | none => .bad)
  | _ => .bad
/-! ### a def: np parameters, n names -/
def fnS (np n : Nat) (b : SM) : Fn := fun l st => if l.length = np then (match b (l.map some ++ List.replicate (n - l.length) none) st with
  | .nx _ st => .ok .non st
  | .rt v st => .ok v st
  | .exc e _ st => .exc e st
  | _ => .bad) else .bad
end Sm

/-! SemRel: what stands for what: values, stores, slots; the readings of the small semantics over the hand layer. -/
namespace Sm
open PySem PySem.Spec PyProof.Rows L2
/-- names by numbers: fields, classes (with the numbers of the names that the class itself has), exceptions' classes (numbered behind these), functions -/
structure Tab where
  flds : List Str
  cls : List (Str × List Nat)
  exs : List Str
  fns : List (Str × Option Str)
def Tab.fld (T : Tab) (k : Nat) : Str := T.flds.getD k (PySem.Str.ofString "")
def Tab.ms (T : Tab) (c : Nat) : List Nat := (T.cls.getD c (PySem.Str.ofString "", [])).2
def Tab.clsA (T : Tab) (K : PySem.W.Frag) (c : Nat) : Addr := He.ga K ((T.cls.map (·.1) ++ T.exs).getD c (PySem.Str.ofString ""))
def Tab.fnA (T : Tab) (K : PySem.W.Frag) (i : Nat) : Addr := He.fAd K (T.fns.getD i (PySem.Str.ofString "", none))
def tx (x : Tx) : Str := ⟨x.toArray⟩
section
variable (T : Tab) (K : PySem.W.Frag) (μ : List Addr) (H : Hp)
mutual
def Rep : S → V → Prop
  | .non, v => v = .non
  | .bl b, v => v = .bl b
  | .int i, v => v = .int i
  | .str x, v => v = .str (tx x)
  | .tup l, v => ∃ a vs, v = .ref a ∧ SqT K H a vs ∧ RepL l vs
  | .ref n, v => ∃ a, μ[n]? = some a ∧ v = .ref a
  | .fn i, v => v = .ref (T.fnA K i)
  | .cst a, v => v = .ref a
def RepL : List S → List V → Prop
  | [], vs => vs = []
  | s :: l, vs => ∃ v r, vs = v :: r ∧ Rep s v ∧ RepL l r
end
def RepF : List (Nat × S) → List (Str × V) → Prop
  | [], fs => fs = []
  | (k, s) :: l, fs => ∃ v r, fs = (T.fld k, v) :: r ∧ k < T.flds.length ∧ Rep T K μ H s v ∧ RepF l r
def KeyOf : S → Key → Prop
  | .int i, q => q = .inl i
  | .str x, q => q = .inr (tx x)
  | _, _ => False
def RepD : List (S × S) → List (Key × V) → Prop
  | [], fs => fs = []
  | (k, s) :: l, fs => ∃ q v r, fs = (q, v) :: r ∧ KeyOf k q ∧ Rep T K μ H s v ∧ RepD l r
def RCell (a : Addr) : Cell → Prop
  | .lst l => ∃ vs, H a = some (.lst vs) ∧ RepL T K μ H l vs
  | .dct l => ∃ kvs, H a = some (.dK kvs) ∧ RepD T K μ H l kvs
  | .ins c fs => c < T.cls.length ∧ ∃ dx gs, H a = some (.ins (T.clsA K c) dx gs) ∧ RepF T K μ H fs gs
  | .rol l => ∃ o vs, H a = some (.frz o (.lst vs)) ∧ RepL T K μ H l vs
  | .exn _ => True
def REnv (ρ : Env) (σ : L2.St) : Prop := ρ.length = σ.length ∧ ∀ (i : Nat) (s : S), ρ[i]? = some (some s) → ∃ v, σ[i]? = some (some v) ∧ Rep T K μ H s v
def RExc (e : Ex) (cls : Value) (d : Option Addr) : Prop :=
  cls = .ref (T.clsA K e.c) ∧ (e.fs = [] ∨ ∃ dd fs, d = some dd ∧ H dd = some (.xd fs) ∧ ∀ k s, e.fs.lookup k = some s → ∃ v, fs.lookup (T.fld k) = some v ∧ Rep T K μ H s v)
end
/-- the exception that a suite holds: its cell, its address, its class, its dict -/
abbrev Xi := Option (Nat × Addr × Value × Option Addr)
structure RSt (T : Tab) (K : PySem.W.Frag) (xi : Xi) (μ : List Addr) (H : Hp) (st : Sto) : Prop where
  len : μ.length = st.length
  inj : ∀ (n m : Nat) (a : Addr) (c d : Cell), μ[n]? = some a → μ[m]? = some a → st[n]? = some c → st[m]? = some d → c.solid = true → d.solid = true → n = m
  cell : ∀ (n : Nat) (a : Addr) (c : Cell), μ[n]? = some a → st[n]? = some c → RCell T K μ H a c
  exn : ∀ n a cls d, xi = some (n, a, cls, d) → μ[n]? = some a ∧ ∃ e, st[n]? = some (.exn e) ∧ RExc T K μ H e cls d
/-- what may come: more objects, all tuples kept -/
structure Ext (K : PySem.W.Frag) (μ : List Addr) (H : Hp) (μ' : List Addr) (H' : Hp) : Prop where
  pre : μ <+: μ'
  tup : ∀ a vs, SqT K H a vs → SqT K H' a vs
  frm : ∀ a o, H a = some o → a ∉ μ → H' a = some o
  new : ∀ a, a ∈ μ' → a ∈ μ ∨ H a = none
section
variable {T : Tab} {K : PySem.W.Frag} {xi : Xi} {μ μ' μ'' : List Addr} {H H' H'' : Hp} {st : Sto}
theorem Ext.refl : Ext K μ H μ H := ⟨List.prefix_rfl, fun _ _ h => h, fun _ _ h _ => h, fun _ h => .inl h⟩
theorem Ext.free (a : Ext K μ H μ' H') {x : Addr} (h : H' x = none) (hx : x ∉ μ) : H x = none := by
  cases hh : H x with
  | none => rfl
  | some o => rw [a.frm x o hh hx] at h; cases h
theorem Ext.trans (a : Ext K μ H μ' H') (b : Ext K μ' H' μ'' H'') : Ext K μ H μ'' H'' := ⟨a.pre.trans b.pre, fun x vs h => b.tup x vs (a.tup x vs h),
  fun x o h hx => b.frm x o (a.frm x o h hx) fun hm => (a.new x hm).elim hx fun q => by (rw [h] at q; cases q),
  fun x hx => (b.new x hx).elim (a.new x) fun h => (Classical.em (x ∈ μ)).imp id fun hn => a.free h hn⟩
theorem mem_get {l : List Addr} {n : Nat} {a : Addr} (h : l[n]? = some a) : a ∈ l := List.mem_of_getElem? h
theorem pre_get {l l' : List Addr} (p : l <+: l') {n : Nat} {a : Addr} (h : l[n]? = some a) : l'[n]? = some a := by
  obtain ⟨r, rfl⟩ := p
  have hn : n < l.length := (List.getElem?_eq_some_iff.mp h).1
  rw [List.getElem?_append_left hn]
  exact h
mutual
theorem Rep.ext (e : Ext K μ H μ' H') : ∀ {s : S} {v : V}, Rep T K μ H s v → Rep T K μ' H' s v
  | .non, v, h => by unfold Rep at h ⊢; exact h
  | .bl b, v, h => by unfold Rep at h ⊢; exact h
  | .int i, v, h => by unfold Rep at h ⊢; exact h
  | .str x, v, h => by unfold Rep at h ⊢; exact h
  | .tup l, v, h => by
    unfold Rep at h ⊢
    obtain ⟨a, vs, h1, h2, h3⟩ := h
    exact ⟨a, vs, h1, e.tup _ _ h2, RepL.ext e h3⟩
  | .ref n, v, h => by
    unfold Rep at h ⊢
    obtain ⟨a, h1, h2⟩ := h
    exact ⟨a, pre_get e.pre h1, h2⟩
  | .fn i, v, h => by unfold Rep at h ⊢; exact h
  | .cst a, v, h => by unfold Rep at h ⊢; exact h
theorem RepL.ext (e : Ext K μ H μ' H') : ∀ {l : List S} {vs : List V}, RepL T K μ H l vs → RepL T K μ' H' l vs
  | [], vs, h => by unfold RepL at h ⊢; exact h
  | s :: l, vs, h => by
    unfold RepL at h ⊢
    obtain ⟨v, r, h1, h2, h3⟩ := h
    exact ⟨v, r, h1, Rep.ext e h2, RepL.ext e h3⟩
end
theorem RepF.ext (e : Ext K μ H μ' H') : ∀ {l : List (Nat × S)} {fs : List (Str × V)}, RepF T K μ H l fs → RepF T K μ' H' l fs
  | [], fs, h => h
  | (k, s) :: l, fs, h => by
    obtain ⟨v, r, h1, h2, h3, h4⟩ := h
    exact ⟨v, r, h1, h2, h3.ext e, RepF.ext e h4⟩
theorem RepD.ext (e : Ext K μ H μ' H') : ∀ {l : List (S × S)} {fs : List (Key × V)}, RepD T K μ H l fs → RepD T K μ' H' l fs
  | [], fs, h => h
  | (k, s) :: l, fs, h => by
    obtain ⟨q, v, r, h1, h2, h3, h4⟩ := h
    exact ⟨q, v, r, h1, h2, h3.ext e, RepD.ext e h4⟩
theorem REnv.ext (e : Ext K μ H μ' H') {ρ : Env} {σ : L2.St} (h : REnv T K μ H ρ σ) : REnv T K μ' H' ρ σ :=
  ⟨h.1, fun i s q => let ⟨v, h1, h2⟩ := h.2 i s q; ⟨v, h1, h2.ext e⟩⟩
/-- a cell elsewhere stays -/
theorem RCell.ext (e : Ext K μ H μ' H') {a : Addr} {c : Cell} (ha : H' a = H a) (h : RCell T K μ H a c) : RCell T K μ' H' a c := by
  cases c with
  | lst l =>
    obtain ⟨vs, h1, h2⟩ := h
    exact ⟨vs, ha.trans h1, h2.ext e⟩
  | dct l =>
    obtain ⟨vs, h1, h2⟩ := h
    exact ⟨vs, ha.trans h1, h2.ext e⟩
  | ins c fs =>
    obtain ⟨h0, dx, gs, h1, h2⟩ := h
    exact ⟨h0, dx, gs, ha.trans h1, h2.ext e⟩
  | rol l =>
    obtain ⟨o, vs, h1, h2⟩ := h
    exact ⟨o, vs, ha.trans h1, h2.ext e⟩
  | exn x => trivial
/-- nothing that a cell describes is a tuple -/
theorem RCell.notTup {a : Addr} {c : Cell} (h : RCell T K μ H a c) (hs : c.solid = true) : (∀ xs, H a ≠ some (.tup xs)) ∧ (∀ o xs, H a ≠ some (.frz o (.tup xs))) ∧ H a ≠ none ∧ ∀ fs, H a ≠ some (.xd fs) := by
  cases c with
  | lst l =>
    obtain ⟨vs, h1, h2⟩ := h
    refine ⟨fun xs q => ?_, fun o xs q => ?_, fun q => ?_, fun fs q => ?_⟩ <;> (rw [h1] at q; cases q)
  | dct l =>
    obtain ⟨vs, h1, h2⟩ := h
    refine ⟨fun xs q => ?_, fun o xs q => ?_, fun q => ?_, fun fs q => ?_⟩ <;> (rw [h1] at q; cases q)
  | ins c fs =>
    obtain ⟨_, dx, gs, h1, h2⟩ := h
    refine ⟨fun xs q => ?_, fun o xs q => ?_, fun q => ?_, fun fs q => ?_⟩ <;> (rw [h1] at q; cases q)
  | rol l =>
    obtain ⟨o, vs, h1, h2⟩ := h
    refine ⟨fun xs q => ?_, fun o xs q => ?_, fun q => ?_, fun fs q => ?_⟩ <;> (rw [h1] at q; cases q)
  | exn x => cases hs
theorem SqT.upd {a b : Addr} {o : HO} {vs : List V} (h : SqT K H a vs) (hb : (∀ xs, H b ≠ some (.tup xs)) ∧ (∀ o xs, H b ≠ some (.frz o (.tup xs)))) : SqT K (upd H b o) a vs := by
  rcases h with (h | ⟨ob, h⟩) | h
  · have ne : a ≠ b := fun q => by subst q; exact hb.1 _ h
    exact .inl (.inl ((upd_ne ne).trans h))
  · have ne : a ≠ b := fun q => by subst q; exact hb.2 _ _ h
    exact .inl (.inr ⟨ob, (upd_ne ne).trans h⟩)
  · exact .inr h
theorem Ext.of_upd {b : Addr} {o : HO} (hb : (∀ xs, H b ≠ some (.tup xs)) ∧ (∀ o xs, H b ≠ some (.frz o (.tup xs)))) (hm : b ∈ μ ∨ H b = none) : Ext K μ H μ (upd H b o) := ⟨List.prefix_rfl, fun _ _ h => SqT.upd h hb,
  fun x z h hx => (by
    have ne : x ≠ b := fun q => by
      subst q
      rcases hm with q | q
      · exact hx q
      · rw [h] at q; cases q
    rw [upd_ne ne]; exact h), fun _ h => .inl h⟩
theorem free_notTup {b : Addr} (hb : H b = none) : (∀ xs, H b ≠ some (.tup xs)) ∧ (∀ o xs, H b ≠ some (.frz o (.tup xs))) := ⟨fun xs q => (by rw [hb] at q; cases q), fun o xs q => (by rw [hb] at q; cases q)⟩
theorem Ext.of_new {b : Addr} {o : HO} (hb : H b = none) : Ext K μ H μ (upd H b o) := Ext.of_upd (free_notTup hb) (.inr hb)
theorem Ext.push {b : Addr} (e : Ext K μ H μ H') (hb : H b = none) : Ext K μ H (μ ++ [b]) H' := ⟨e.pre.trans (List.prefix_append _ _), e.tup, e.frm, fun x hx => (List.mem_append.mp hx).imp id fun q => by
  rw [List.mem_singleton.mp q]; exact hb⟩
theorem RSt.addr (r : RSt T K xi μ H st) {n : Nat} {c : Cell} (h : st[n]? = some c) : ∃ a, μ[n]? = some a ∧ RCell T K μ H a c := by
  have hn : n < st.length := (List.getElem?_eq_some_iff.mp h).1
  have e : μ[n]? = some (μ[n]'(by rw [r.len]; exact hn)) := List.getElem?_eq_getElem _
  exact ⟨_, e, r.cell n _ c e h⟩
theorem RSt.at (r : RSt T K xi μ H st) {n : Nat} {c : Cell} {a : Addr} (h : st[n]? = some c) (ha : μ[n]? = some a) : RCell T K μ H a c := r.cell n a c ha h
theorem RExc.ext (e : Ext K μ H μ' H') (hx : ∀ d fs, H d = some (.xd fs) → H' d = some (.xd fs)) {x : Ex} {cls : Value} {d : Option Addr} (h : RExc T K μ H x cls d) : RExc T K μ' H' x cls d := by
  obtain ⟨h1, h2⟩ := h
  refine ⟨h1, h2.imp id fun ⟨dd, fs, k1, k2, k3⟩ => ⟨dd, fs, k1, hx _ _ k2, fun k s q => ?_⟩⟩
  obtain ⟨v, q1, q2⟩ := k3 k s q
  exact ⟨v, q1, q2.ext e⟩
theorem xd_upd {a : Addr} {o : HO} (h : ∀ fs, H a ≠ some (.xd fs)) : ∀ d fs, H d = some (.xd fs) → upd H a o d = some (.xd fs) := fun d fs q => by
  have ne : d ≠ a := fun z => h fs (z ▸ q)
  rw [upd_ne ne]
  exact q
/-- a cell is changed -/
theorem RSt.put (r : RSt T K xi μ H st) {n : Nat} {a : Addr} {c c' : Cell} {o : HO} (ha : μ[n]? = some a) (hc : st[n]? = some c) (hn : RCell T K μ (upd H a o) a c') (hs : c.solid = true := by rfl) (hs' : c'.solid = true := by rfl) :
    RSt T K xi μ (upd H a o) (st.set n c') ∧ Ext K μ H μ (upd H a o) := by
  have nt := (r.at hc ha).notTup hs
  have e : Ext K μ H μ (upd H a o) := Ext.of_upd ⟨nt.1, nt.2.1⟩ (.inl (mem_get ha))
  have hlt : n < st.length := (List.getElem?_eq_some_iff.mp hc).1
  have old : ∀ (m : Nat) (d : Cell), (st.set n c')[m]? = some d → (m = n ∧ d = c') ∨ (m ≠ n ∧ st[m]? = some d) := fun m d hd => by
    by_cases hm : m = n
    · subst hm
      rw [List.getElem?_set_self hlt] at hd
      exact .inl ⟨rfl, (Option.some.inj hd).symm⟩
    · rw [List.getElem?_set_ne (Ne.symm hm)] at hd
      exact .inr ⟨hm, hd⟩
  refine ⟨⟨by rw [List.length_set]; exact r.len, fun i j b d1 d2 h1 h2 h3 h4 s1 s2 => ?_, fun m b d hb hd => ?_, fun m b cls d hx => ?_⟩, e⟩
  · rcases old i d1 h3 with ⟨e1, e2⟩ | ⟨n1, k1⟩
    · rcases old j d2 h4 with ⟨e3, e4⟩ | ⟨n2, k2⟩
      · rw [e1, e3]
      · rw [e1] at h1 ⊢
        exact r.inj n j b c d2 h1 h2 hc k2 hs s2
    · rcases old j d2 h4 with ⟨e3, e4⟩ | ⟨n2, k2⟩
      · rw [e3] at h2 ⊢
        exact r.inj i n b d1 c h1 h2 k1 hc s1 hs
      · exact r.inj i j b d1 d2 h1 h2 k1 k2 s1 s2
  · rcases old m d hd with ⟨e1, e2⟩ | ⟨n1, k1⟩
    · subst e1 e2
      have eab : a = b := Option.some.inj (ha.symm.trans hb)
      rw [← eab]
      exact hn
    · by_cases hsd : d.solid = true
      · have ne : b ≠ a := fun q => n1 (r.inj m n b d c hb (q ▸ ha) k1 hc hsd hs)
        exact (r.at k1 hb).ext e (upd_ne ne)
      · cases d with
        | exn x => trivial
        | _ => exact absurd rfl hsd
  · obtain ⟨h1, x, h2, h3⟩ := r.exn m b cls d hx
    have nm : m ≠ n := fun q => by
      rw [q, hc] at h2
      rw [Option.some.inj h2] at hs
      cases hs
    exact ⟨h1, x, by rw [List.getElem?_set_ne (Ne.symm nm)]; exact h2, h3.ext e (xd_upd nt.2.2.2)⟩
/-- what a laid object leaves of the old cells -/
theorem RSt.old (r : RSt T K xi μ H st) {p : Addr} {o : HO} (hp : H p = none) (e : Ext K μ H μ' (upd H p o)) {m : Nat} {b : Addr} {d : Cell} (hb : μ[m]? = some b) (hd : st[m]? = some d) : RCell T K μ' (upd H p o) b d := by
  by_cases hsd : d.solid = true
  · have q := r.at hd hb
    exact q.ext e (upd_ne fun z => (q.notTup hsd).2.2.1 (z ▸ hp))
  · cases d with
    | exn x => trivial
    | _ => exact absurd rfl hsd
theorem xd_new {p : Addr} {o : HO} (hp : H p = none) : ∀ d fs, H d = some (.xd fs) → upd H p o d = some (.xd fs) := xd_upd fun fs q => by rw [hp] at q; cases q
/-- a cell is laid -/
theorem RSt.push (r : RSt T K xi μ H st) {p : Addr} {c : Cell} {o : HO} (hp : H p = none) (hn : RCell T K (μ ++ [p]) (upd H p o) p c) : RSt T K xi (μ ++ [p]) (upd H p o) (st ++ [c]) ∧ Ext K μ H (μ ++ [p]) (upd H p o) := by
  have e : Ext K μ H (μ ++ [p]) (upd H p o) := (Ext.of_new hp).push hp
  have old : ∀ (m : Nat) b d, (μ ++ [p])[m]? = some b → (st ++ [c])[m]? = some d → (m < st.length ∧ μ[m]? = some b ∧ st[m]? = some d) ∨ (m = st.length ∧ b = p ∧ d = c) := fun m b d hb hd => by
    by_cases hm : m < st.length
    · rw [List.getElem?_append_left (by rw [r.len]; exact hm)] at hb
      rw [List.getElem?_append_left hm] at hd
      exact .inl ⟨hm, hb, hd⟩
    · rw [List.getElem?_append_right (by rw [r.len]; omega)] at hb
      rw [List.getElem?_append_right (by omega)] at hd
      rw [r.len] at hb
      cases hk : m - st.length with
      | zero =>
        rw [hk] at hb hd
        refine .inr ⟨by omega, ?_, ?_⟩
        · have z : p = b := by simpa using hb
          exact z.symm
        · have z : c = d := by simpa using hd
          exact z.symm
      | succ k =>
        rw [hk] at hb
        simp at hb
  refine ⟨⟨by rw [List.length_append, List.length_append, r.len]; rfl, fun i j b d1 d2 h1 h2 h3 h4 s1 s2 => ?_, fun m b d hb hd => ?_, fun m b cls d hx => ?_⟩, e⟩
  · rcases old i b d1 h1 h3 with ⟨l1, k1, k2⟩ | ⟨l1, k1, k2⟩
    · rcases old j b d2 h2 h4 with ⟨l3, k3, k4⟩ | ⟨l3, k3, k4⟩
      · exact r.inj i j b d1 d2 k1 k3 k2 k4 s1 s2
      · exact absurd (k3 ▸ hp) ((r.at k2 k1).notTup s1).2.2.1
    · rcases old j b d2 h2 h4 with ⟨l3, k3, k4⟩ | ⟨l3, k3, k4⟩
      · exact absurd (k1 ▸ hp) ((r.at k4 k3).notTup s2).2.2.1
      · rw [l1, l3]
  · rcases old m b d hb hd with ⟨l1, k1, k2⟩ | ⟨l1, k1, k2⟩
    · exact r.old hp e k1 k2
    · rw [k1, k2]; exact hn
  · obtain ⟨h1, x, h2, h3⟩ := r.exn m b cls d hx
    have hm : m < st.length := (List.getElem?_eq_some_iff.mp h2).1
    exact ⟨by rw [List.getElem?_append_left (by rw [r.len]; exact hm)]; exact h1, x, by rw [List.getElem?_append_left hm]; exact h2, h3.ext e (xd_new hp)⟩
/-- a new object that is no cell: a tuple -/
theorem RSt.other (r : RSt T K xi μ H st) {p : Addr} {o : HO} (hp : H p = none) : RSt T K xi μ (upd H p o) st ∧ Ext K μ H μ (upd H p o) := by
  have e : Ext K μ H μ (upd H p o) := Ext.of_new hp
  refine ⟨⟨r.len, r.inj, fun m b d hb hd => r.old hp e hb hd, fun m b cls d hx => ?_⟩, e⟩
  obtain ⟨h1, x, h2, h3⟩ := r.exn m b cls d hx
  exact ⟨h1, x, h2, h3.ext e (xd_new hp)⟩
theorem push_ref (r : RSt T K xi μ H st) {p : Addr} {H' : Hp} : Rep T K (μ ++ [p]) H' (.ref st.length) (.ref p) := by
  unfold Rep
  refine ⟨p, ?_, rfl⟩
  rw [List.getElem?_append_right (by rw [r.len]; exact Nat.le_refl _), r.len]
  simp
theorem RepL.len : ∀ {l : List S} {vs : List V}, RepL T K μ H l vs → l.length = vs.length
  | [], vs, h => by unfold RepL at h; rw [h]; rfl
  | s :: l, vs, h => by
    unfold RepL at h
    obtain ⟨v, r, h1, h2, h3⟩ := h
    rw [h1, List.length_cons, List.length_cons, RepL.len h3]
theorem RepL.get : ∀ {l : List S} {vs : List V} {i : Nat} {s : S}, RepL T K μ H l vs → l[i]? = some s → ∃ v, vs[i]? = some v ∧ Rep T K μ H s v
  | [], vs, i, s, h, e => by simp at e
  | x :: l, vs, 0, s, h, e => by
    unfold RepL at h
    obtain ⟨v, r, h1, h2, h3⟩ := h
    have e1 : x = s := by simpa using e
    subst e1
    exact ⟨v, by rw [h1]; rfl, h2⟩
  | x :: l, vs, i + 1, s, h, e => by
    unfold RepL at h
    obtain ⟨v, r, h1, h2, h3⟩ := h
    obtain ⟨u, q1, q2⟩ := RepL.get (i := i) h3 (by simpa using e)
    exact ⟨u, by rw [h1]; simpa using q1, q2⟩
theorem RepL.append : ∀ {l m : List S} {vs ws : List V}, RepL T K μ H l vs → RepL T K μ H m ws → RepL T K μ H (l ++ m) (vs ++ ws)
  | [], m, vs, ws, h, h' => by unfold RepL at h; rw [h]; exact h'
  | x :: l, m, vs, ws, h, h' => by
    unfold RepL at h
    obtain ⟨v, r, h1, h2, h3⟩ := h
    rw [h1]
    show RepL T K μ H (x :: (l ++ m)) (v :: (r ++ ws))
    unfold RepL
    exact ⟨v, r ++ ws, rfl, h2, RepL.append h3 h'⟩
theorem RepL.nil : RepL T K μ H [] [] := by unfold RepL; rfl
theorem RepL.cons {s : S} {l : List S} {v : V} {vs : List V} (h : Rep T K μ H s v) (h' : RepL T K μ H l vs) : RepL T K μ H (s :: l) (v :: vs) := by
  unfold RepL
  exact ⟨v, vs, rfl, h, h'⟩
theorem RepL.one {s : S} {v : V} (h : Rep T K μ H s v) : RepL T K μ H [s] [v] := .cons h .nil
theorem RepL.take : ∀ {l : List S} {vs : List V} (n : Nat), RepL T K μ H l vs → RepL T K μ H (l.take n) (vs.take n)
  | l, vs, 0, h => by rw [List.take_zero, List.take_zero]; exact .nil
  | [], vs, n + 1, h => by unfold RepL at h; rw [h]; exact .nil
  | x :: l, vs, n + 1, h => by
    unfold RepL at h
    obtain ⟨v, r, h1, h2, h3⟩ := h
    rw [h1]
    exact .cons h2 (RepL.take n h3)
theorem RepL.drop : ∀ {l : List S} {vs : List V} (n : Nat), RepL T K μ H l vs → RepL T K μ H (l.drop n) (vs.drop n)
  | l, vs, 0, h => h
  | [], vs, n + 1, h => by unfold RepL at h; rw [h]; exact .nil
  | x :: l, vs, n + 1, h => by
    unfold RepL at h
    obtain ⟨v, r, h1, h2, h3⟩ := h
    rw [h1]
    exact RepL.drop n h3
theorem RepL.set {s : S} {v : V} (h : Rep T K μ H s v) : ∀ {l : List S} {vs : List V} (n : Nat), RepL T K μ H l vs → RepL T K μ H (l.set n s) (vs.set n v)
  | [], vs, n, h' => by unfold RepL at h'; rw [h']; exact .nil
  | x :: l, vs, 0, h' => by
    unfold RepL at h'
    obtain ⟨u, r, h1, h2, h3⟩ := h'
    rw [h1]
    exact .cons h h3
  | x :: l, vs, n + 1, h' => by
    unfold RepL at h'
    obtain ⟨u, r, h1, h2, h3⟩ := h'
    rw [h1]
    exact .cons h2 (RepL.set h n h3)
theorem RepL.dropLast {l : List S} {vs : List V} (h : RepL T K μ H l vs) : RepL T K μ H l.dropLast vs.dropLast := by
  rw [List.dropLast_eq_take, List.dropLast_eq_take, h.len]
  exact h.take _
theorem Rep.tup_of {l : List S} {a : Addr} {vs : List V} (h : SqT K H a vs) (r : RepL T K μ H l vs) : Rep T K μ H (.tup l) (.ref a) := by
  unfold Rep
  exact ⟨a, vs, rfl, h, r⟩
theorem rep_non : Rep T K μ H .non .non := by unfold Rep; rfl
theorem rep_bl {b : Bool} : Rep T K μ H (.bl b) (.bl b) := by unfold Rep; rfl
theorem rep_int {i : Int} : Rep T K μ H (.int i) (.int i) := by unfold Rep; rfl
theorem rep_str {x : Tx} : Rep T K μ H (.str x) (.str (tx x)) := by unfold Rep; rfl
theorem Rep.non {v : V} (h : Rep T K μ H .non v) : v = .non := by unfold Rep at h; exact h
theorem Rep.bl {b : Bool} {v : V} (h : Rep T K μ H (.bl b) v) : v = .bl b := by unfold Rep at h; exact h
theorem Rep.int {i : Int} {v : V} (h : Rep T K μ H (.int i) v) : v = .int i := by unfold Rep at h; exact h
theorem Rep.str {x : Tx} {v : V} (h : Rep T K μ H (.str x) v) : v = .str (tx x) := by unfold Rep at h; exact h
theorem Rep.tup {l : List S} {v : V} (h : Rep T K μ H (.tup l) v) : ∃ a vs, v = .ref a ∧ SqT K H a vs ∧ RepL T K μ H l vs := by unfold Rep at h; exact h
theorem Rep.ref {n : Nat} {v : V} (h : Rep T K μ H (.ref n) v) : ∃ a, μ[n]? = some a ∧ v = .ref a := by unfold Rep at h; exact h
/-- only None stands for None -/
theorem Rep.isNon {s : S} {v : V} (h : Rep T K μ H s v) : decide (v = .non) = s.isNon := by
  cases s with
  | non => rw [h.non]; rfl
  | bl b => rw [h.bl]; rfl
  | int i => rw [h.int]; rfl
  | str x => rw [h.str]; rfl
  | tup l => obtain ⟨a, vs, e, _⟩ := h.tup; rw [e]; rfl
  | ref n => obtain ⟨a, _, e⟩ := h.ref; rw [e]; rfl
  | fn i => unfold Rep at h; rw [h]; rfl
  | cst a => unfold Rep at h; rw [h]; rfl
/-! ### what is wanted of an outcome -/
section
variable (T) (K) (xi)
def Post {α β : Type} (R : List Addr → Hp → α → β → Prop) (W : Value → Option Addr → Hp → Prop) (Q : β → Hp → Prop) (μ : List Addr) (H : Hp) : Res α → Prop
  | .ok x st => ∀ μ' H' u, Ext K μ H μ' H' → RSt T K xi μ' H' st → R μ' H' x u → Q u H'
  | .exc e st => ∀ μ' H' cls d, Ext K μ H μ' H' → RSt T K xi μ' H' st → RExc T K μ' H' e cls d → W cls d H'
  | .bad => False
abbrev PostE := Post T K xi (Rep T K)
abbrev PostA := Post T K xi (RepL T K)
abbrev PostT := Post (β := Bool) T K xi fun _ _ (x : Bool) y => x = y
/-- of a statement's -/
def PostS (W : WX) (D : Ends) (μ : List Addr) (H : Hp) : SR → Prop
  | .nx ρ st => ∀ μ' H' σ, Ext K μ H μ' H' → RSt T K xi μ' H' st → REnv T K μ' H' ρ σ → D.nx σ H'
  | .rt v st => ∀ μ' H' u, Ext K μ H μ' H' → RSt T K xi μ' H' st → Rep T K μ' H' v u → D.rt u H'
  | .bk ρ st => ∀ μ' H' σ, Ext K μ H μ' H' → RSt T K xi μ' H' st → REnv T K μ' H' ρ σ → D.bk σ H'
  | .ct ρ st => ∀ μ' H' σ, Ext K μ H μ' H' → RSt T K xi μ' H' st → REnv T K μ' H' ρ σ → D.ct σ H'
  | .exc e ρ st => ∀ μ' H' σ cls d, Ext K μ H μ' H' → RSt T K xi μ' H' st → REnv T K μ' H' ρ σ → RExc T K μ' H' e cls d → W cls d σ H'
  | .bad => False
end
variable {α β : Type} {R : List Addr → Hp → α → β → Prop}
theorem Post.ext {W : Value → Option Addr → Hp → Prop} {Q : β → Hp → Prop} {r : Res α} (e : Ext K μ H μ' H') (h : Post T K xi R W Q μ H r) : Post T K xi R W Q μ' H' r := by
  cases r with
  | ok x st => exact fun μ1 H1 u e1 => h μ1 H1 u (e.trans e1)
  | exc x st => exact fun μ1 H1 cls d e1 => h μ1 H1 cls d (e.trans e1)
  | bad => exact h
theorem PostS.ext {W : WX} {D : Ends} {r : SR} (e : Ext K μ H μ' H') (h : PostS T K xi W D μ H r) : PostS T K xi W D μ' H' r := by
  cases r with
  | nx ρ st => exact fun μ1 H1 u e1 => h μ1 H1 u (e.trans e1)
  | rt v st => exact fun μ1 H1 u e1 => h μ1 H1 u (e.trans e1)
  | bk ρ st => exact fun μ1 H1 u e1 => h μ1 H1 u (e.trans e1)
  | ct ρ st => exact fun μ1 H1 u e1 => h μ1 H1 u (e.trans e1)
  | exc x ρ st => exact fun μ1 H1 σ cls d e1 => h μ1 H1 σ cls d (e.trans e1)
  | bad => exact h
/-- a first part, then the rest -/
theorem Post.bind {γ δ : Type} {R' : List Addr → Hp → γ → δ → Prop} {W : Value → Option Addr → Hp → Prop} {Q : δ → Hp → Prop} {Q' : β → Hp → Prop} {r : Res α} {k : α → Sto → Res γ} (h : Post T K xi R' W Q μ H (r.bind k))
    (hk : ∀ x st μ' H' u, Ext K μ H μ' H' → RSt T K xi μ' H' st → R μ' H' x u → Post T K xi R' W Q μ' H' (k x st) → Q' u H') : Post T K xi R W Q' μ H r := by
  cases r with
  | ok x st => exact fun μ1 H1 u e1 r1 q1 => hk x st μ1 H1 u e1 r1 q1 (h.ext e1)
  | exc x st => exact h
  | bad => exact h
theorem Post.bindS {W : WX} {D : Ends} {σ : L2.St} {ρ : Env} {Q' : β → Hp → Prop} {r : Res α} {k : α → Sto → SR} (hE : REnv T K μ H ρ σ) (h : PostS T K xi W D μ H (r.toSR ρ k))
    (hk : ∀ x st μ' H' u, Ext K μ H μ' H' → RSt T K xi μ' H' st → R μ' H' x u → PostS T K xi W D μ' H' (k x st) → Q' u H') : Post T K xi R (fun cls d H' => W cls d σ H') Q' μ H r := by
  cases r with
  | ok x st => exact fun μ1 H1 u e1 r1 q1 => hk x st μ1 H1 u e1 r1 q1 (h.ext e1)
  | exc x st => exact fun μ1 H1 cls d e1 r1 q1 => h μ1 H1 σ cls d e1 r1 (hE.ext e1) q1
  | bad => exact h
end
/-! ### readings -/
section
variable (T : Tab) (K : PySem.W.Frag) (xi : Xi) (W : WX)
def rdE (m : EM) : TE := fun σ H Q => ∃ μ ρ st, RSt T K xi μ H st ∧ REnv T K μ H ρ σ ∧ PostE T K xi (fun c d H' => W c d σ H') Q μ H (m ρ st)
def rdA (m : AM) : TA := fun σ H Q => ∃ μ ρ st, RSt T K xi μ H st ∧ REnv T K μ H ρ σ ∧ PostA T K xi (fun c d H' => W c d σ H') Q μ H (m ρ st)
def rdT (m : TM) : TT := fun σ H Q => ∃ μ ρ st, RSt T K xi μ H st ∧ REnv T K μ H ρ σ ∧ PostT T K xi (fun c d H' => W c d σ H') Q μ H (m ρ st)
def rdS (m : SM) : TS := fun D σ H => ∃ μ ρ st, RSt T K xi μ H st ∧ REnv T K μ H ρ σ ∧ PostS T K xi W D μ H (m ρ st)
end
end Sm

/-! SemExpr: the rules of expressions: a piece of syntax reads as its combinator says. -/
namespace Sm
open PySem PySem.Spec PyProof.Rows L2
theorem SZ_line : SZ = sizeLine := by rw [sizeLine_eq]; rfl
/-! ### data -/
mutual
def S.dat : S → PyData
  | .non => .none
  | .bl b => .bool b
  | .int i => .int i
  | .str x => .str (tx x)
  | .tup l => .tuple (S.datL l)
  | .ref _ => .none
  | .fn _ => .none
  | .cst _ => .none
def S.datL : List S → List PyData
  | [] => []
  | x :: l => S.dat x :: S.datL l
end
theorem tx_inj {x y : Tx} (h : tx x = tx y) : x = y := by
  have e : (tx x).cps.toList = (tx y).cps.toList := by rw [h]
  simpa [tx] using e
theorem tx_beq (x y : Tx) : (tx x == tx y) = (x == y) := by
  by_cases h : x = y
  · subst h; simp
  · have h2 : ¬ tx x = tx y := fun q => h (tx_inj q)
    rw [beq_eq_false_iff_ne.mpr h, beq_eq_false_iff_ne.mpr h2]
theorem tx_len (x : Tx) : (tx x).length = x.length := by simp [tx, PySem.Str.length]
theorem tx_append (x y : Tx) : tx (x ++ y) = tx x ++ tx y := PySem.Str.ext' (by show (x ++ y).toArray = x.toArray ++ y.toArray; simp)
mutual
theorem eqv_dat : ∀ (x y : S), x.plain = true → y.plain = true → PyData.eqv x.dat y.dat = x.eqb y
  | .non, y, _, hy => by cases y <;> first | rfl | (unfold S.plain at hy; cases hy; done)
  | .bl a, y, _, hy => by cases y <;> first | rfl | (unfold S.plain at hy; cases hy; done)
  | .int a, y, _, hy => by cases y <;> first | rfl | (unfold S.plain at hy; cases hy; done)
  | .str a, y, _, hy => by
    cases y with
    | str z => exact tx_beq a z
    | ref n => unfold S.plain at hy; cases hy
    | fn n => unfold S.plain at hy; cases hy
    | cst n => unfold S.plain at hy; cases hy
    | _ => rfl
  | .tup l, y, hx, hy => by
    cases y with
    | tup r => unfold S.plain at hx hy; exact eqv_datL l r hx hy
    | ref n => unfold S.plain at hy; cases hy
    | fn n => unfold S.plain at hy; cases hy
    | cst n => unfold S.plain at hy; cases hy
    | _ => rfl
  | .ref _, _, hx, _ => by unfold S.plain at hx; cases hx
  | .fn _, _, hx, _ => by unfold S.plain at hx; cases hx
  | .cst _, _, hx, _ => by unfold S.plain at hx; cases hx
theorem eqv_datL : ∀ (x y : List S), S.plainL x = true → S.plainL y = true → PyData.eqvAll (S.datL x) (S.datL y) = S.eqL x y
  | [], y, _, _ => by cases y <;> rfl
  | x :: l, [], _, _ => rfl
  | x :: l, y :: r, hx, hy => by
    unfold S.plainL at hx hy
    obtain ⟨h1, h2⟩ := Bool.and_eq_true_iff.mp hx
    obtain ⟨h3, h4⟩ := Bool.and_eq_true_iff.mp hy
    show (PyData.eqv x.dat y.dat && PyData.eqvAll (S.datL l) (S.datL r)) = (S.eqb x y && S.eqL l r)
    rw [eqv_dat x y h1 h3, eqv_datL l r h2 h4]
end
mutual
theorem dep_dat : ∀ x : S, x.dat.depth = x.dep
  | .non => rfl
  | .bl _ => rfl
  | .int _ => rfl
  | .str _ => rfl
  | .tup l => by unfold S.dat S.dep PyData.depth; rw [dep_datL l]
  | .ref _ => rfl
  | .fn _ => rfl
  | .cst _ => rfl
theorem dep_datL : ∀ l : List S, PyData.depthAll (S.datL l) = S.depL l
  | [] => rfl
  | x :: l => by unfold S.datL S.depL PyData.depthAll; rw [dep_dat x, dep_datL l]
end
theorem okTx_ok {x : Tx} (h : okTx x = true) : PyData.canLay0 (.str (tx x)) = true := by
  unfold okTx at h
  show (tx x).cps.all _ = true
  rw [show (tx x).cps = x.toArray from rfl]
  simpa using h
mutual
theorem can_dat : ∀ x : S, x.plain = true → x.dat.canLay0 = true
  | .non, _ => by unfold S.dat PyData.canLay0; rfl
  | .bl _, _ => by unfold S.dat PyData.canLay0; rfl
  | .int _, _ => by unfold S.dat PyData.canLay0; rfl
  | .str x, h => by unfold S.plain at h; exact okTx_ok h
  | .tup l, h => by unfold S.plain at h; unfold S.dat PyData.canLay0; exact can_datL l h
  | .ref _, h => by unfold S.plain at h; cases h
  | .fn _, h => by unfold S.plain at h; cases h
  | .cst _, h => by unfold S.plain at h; cases h
theorem can_datL : ∀ l : List S, S.plainL l = true → PyData.canLayAll0 (S.datL l) = true
  | [], _ => by unfold S.datL PyData.canLayAll0; rfl
  | x :: l, h => by
    unfold S.plainL at h
    obtain ⟨h1, h2⟩ := Bool.and_eq_true_iff.mp h
    unfold S.datL PyData.canLayAll0
    rw [can_dat x h1, can_datL l h2]
    rfl
end
section
variable {T : Tab} {K : PySem.W.Frag} {xi : Xi} {μ : List Addr} {H : Hp}
mutual
theorem Rep.dp : ∀ {x : S} {v : V}, Rep T K μ H x v → x.plain = true → Dp K H v x.dat
  | .non, v, h, _ => by rw [h.non]; unfold S.dat; exact .non
  | .bl b, v, h, _ => by rw [h.bl]; unfold S.dat; exact .bl b
  | .int i, v, h, _ => by rw [h.int]; unfold S.dat; exact .int i
  | .str x, v, h, _ => by rw [h.str]; unfold S.dat; exact .str _
  | .tup l, v, h, p => by
    unfold S.plain at p
    obtain ⟨a, vs, e, h1, h2⟩ := h.tup
    rw [e]; unfold S.dat
    exact .tup h1 (RepL.dp h2 p)
  | .ref _, _, _, p => by unfold S.plain at p; cases p
  | .fn _, _, _, p => by unfold S.plain at p; cases p
  | .cst _, _, _, p => by unfold S.plain at p; cases p
theorem RepL.dp : ∀ {l : List S} {vs : List V}, RepL T K μ H l vs → S.plainL l = true → DpAll K H vs (S.datL l)
  | [], vs, h, _ => by unfold RepL at h; rw [h]; unfold S.datL; exact .nil
  | x :: l, vs, h, p => by
    unfold S.plainL at p
    obtain ⟨h1, h2⟩ := Bool.and_eq_true_iff.mp p
    unfold RepL at h
    obtain ⟨v, r, e, q1, q2⟩ := h
    rw [e]; unfold S.datL
    exact .cons (Rep.dp q1 h1) (RepL.dp q2 h2)
end
end
/-! ### weakening -/
section
variable {X : Cx}
theorem PE.mono {e : Expr} {t t' : TE} (h : PE X e t) (i : ∀ σ H Q, t' σ H Q → t σ H Q) : PE X e t' := ⟨fun pins s σ H Q I q => h.run pins s σ H Q I (i σ H Q q)⟩
theorem PT.mono {e : Expr} {t t' : TT} (h : PT X e t) (i : ∀ σ H Q, t' σ H Q → t σ H Q) : PT X e t' := ⟨fun pins s σ H Q I q => h.run pins s σ H Q I (i σ H Q q)⟩
theorem PW.mono {e : Expr} {t t' : TT} (h : PW X e t) (i : ∀ σ H Q, t' σ H Q → t σ H Q) : PW X e t' := ⟨fun w pins s σ H Q I q => h.run w pins s σ H Q I (i σ H Q q)⟩
theorem PA.mono {es : List Expr} {t t' : TA} (h : PA X es t) (i : ∀ σ H Q, t' σ H Q → t σ H Q) : PA X es t' := ⟨fun pos pins s σ H Q I q => h.run pos pins s σ H Q I (i σ H Q q)⟩
theorem PS.mono {e : Stmt} {t t' : TS} (h : PS X e t) (i : ∀ D σ H, t' D σ H → t D σ H) : PS X e t' := ⟨fun pins s σ H D I q => h.run pins s σ H D I (i D σ H q)⟩
theorem PSs.mono {es : List Stmt} {t t' : TS} (h : PSs X es t) (i : ∀ D σ H, t' D σ H → t D σ H) : PSs X es t' := ⟨fun pins s σ H D I q => h.run pins s σ H D I (i D σ H q)⟩
end
section
variable {T : Tab} {X : Cx} {xi : Xi} {W : WX}
/-! ### names, constants -/
theorem se_var (i : Nat) {x : Str} {pos : Pos} (hN : X.N[i]? = some x := by rfl) (hv : Vis X.env.scope x := by first | exact Or.inl rfl | exact Or.inr (Or.inl rfl) | exact Or.inr (Or.inr rfl))
    (hd : (x == ("__debug__" : Str)) = false := by decide) (hcd : (x == ("__classdict__" : Str)) = false := by decide) : PE X (.Name x pos) (rdE T X.K xi W (eVar i)) :=
  PE.mono (pe_var hN hv hd hcd) fun σ H Q ⟨μ, ρ, st, r, e, p⟩ => by
    unfold eVar at p
    split at p
    · rename_i v hv
      obtain ⟨u, h1, h2⟩ := e.2 i v hv
      exact ⟨u, h1, p μ H u .refl r h2⟩
    · exact p.elim
theorem se_con {e : Expr} {v : V} {c : S} (h : PE X e (tC v)) (hr : ∀ μ H, Rep T X.K μ H c v) : PE X e (rdE T X.K xi W (eC c)) :=
  PE.mono h fun σ H Q ⟨μ, ρ, st, r, e, p⟩ => p μ H v .refl r (hr μ H)
theorem se_int {i : Int} {j : Nat} {pos : Pos} : PE X (.Constant (.int i) j pos) (rdE T X.K xi W (eC (.int i))) := se_con pe_int fun _ _ => rep_int
theorem se_bl {b : Bool} {j : Nat} {pos : Pos} : PE X (.Constant (.bool b) j pos) (rdE T X.K xi W (eC (.bl b))) := se_con pe_bl fun _ _ => rep_bl
theorem se_non {j : Nat} {pos : Pos} : PE X (.Constant .none j pos) (rdE T X.K xi W (eC .non)) := se_con pe_non fun _ _ => rep_non
theorem se_str {x : Str} {j : Nat} {pos : Pos} (t : Tx) (h : x = tx t := by rfl) : PE X (.Constant (.str x) j pos) (rdE T X.K xi W (eC (.str t))) := by
  subst h
  exact se_con pe_str fun _ _ => rep_str
/-! ### operators -/
abbrev Does (T : Tab) (K : PySem.W.Frag) (xi : Xi) (f : F2) (r : R2) : Prop := ∀ (Wd : Value → Option Addr → Hp → Prop) μ H st x y u w Q, RSt T K xi μ H st → Rep T K μ H x u → Rep T K μ H y w → PostE T K xi Wd Q μ H (f x y st) → r u w H Q
theorem se_bin2 {a b : Expr} {ma mb : EM} {f : F2} {r : R2} (hd : Does T X.K xi f r) (σ : L2.St) (H : Hp) (Q : VK) (h : rdE T X.K xi W (eBin f ma mb) σ H Q) : tOp r (rdE T X.K xi W ma) (rdE T X.K xi W mb) σ H Q := by
  obtain ⟨μ, ρ, st, r0, e, p⟩ := h
  refine ⟨μ, ρ, st, r0, e, Post.bind p fun x st1 μ1 H1 u e1 r1 q1 p1 => ⟨μ1, ρ, st1, r1, e.ext e1, Post.bind p1 fun y st2 μ2 H2 w e2 r2 q2 p2 => ?_⟩⟩
  exact hd _ μ2 H2 st2 x y u w Q r2 (q1.ext e2) q2 p2
theorem se_op {a b : Expr} {op : Operator} {pos : Pos} {ma mb : EM} {f : F2} {r : R2} (ho : OpR X (binaryOp op) r) (hd : Does T X.K xi f r) (ha : PE X a (rdE T X.K xi W ma)) (hb : PE X b (rdE T X.K xi W mb)) :
    PE X (.BinOp a op b pos) (rdE T X.K xi W (eBin f ma mb)) := PE.mono (pe_op ho ha hb) (se_bin2 (a := a) (b := b) hd)
theorem se_cmp {a b : Expr} {op : CmpOp} {pos : Pos} {ma mb : EM} {f : F2} {r : R2} (ho : OpR X (compareOp op) r) (hd : Does T X.K xi f r) (ha : PE X a (rdE T X.K xi W ma)) (hb : PE X b (rdE T X.K xi W mb)) (hm : behindInMarks op b = false) :
    PE X (.Compare a [op] [b] pos) (rdE T X.K xi W (eBin f ma mb)) := PE.mono (pe_cmpR ho ha hb hm) (se_bin2 (a := a) (b := b) hd)
/-- a comparison as a test -/
theorem st_cmp {a b : Expr} {op : CmpOp} {pos : Pos} {ma mb : EM} {f : F2} {r : R2} (ho : OpR X (compareOp op) r) (hd : Does T X.K xi f r) (ha : PE X a (rdE T X.K xi W ma)) (hb : PE X b (rdE T X.K xi W mb)) (hm : behindInMarks op b = false) :
    PT X (.Compare a [op] [b] pos) (rdT T X.K xi W (tCmp f ma mb)) := by
  refine PT.mono (pt_cmpR ho ha hb hm) fun σ H Q ⟨μ, ρ, st, r0, e, p⟩ => ?_
  refine ⟨μ, ρ, st, r0, e, Post.bind p fun x st1 μ1 H1 u e1 r1 q1 p1 => ⟨μ1, ρ, st1, r1, e.ext e1, Post.bind p1 fun y st2 μ2 H2 w e2 r2 q2 p2 => ?_⟩⟩
  refine hd _ μ2 H2 st2 x y u w _ r2 (q1.ext e2) q2 (Post.bind p2 fun z st3 μ3 H3 k e3 r3 q3 p3 => ?_)
  cases z with
  | bl b => exact ⟨b, q3.bl, p3 μ3 H3 b .refl r3 rfl⟩
  | _ => exact p3.elim
/-! ### truth -/
theorem truth_is {μ : List Addr} {H : Hp} {st : Sto} {x : S} {u : V} {b : Bool} (r : RSt T X.K xi μ H st) (h : Rep T X.K μ H x u) (e : truth x st = some b) : TruV X.K u H b := by
  cases x with
  | non => rw [h.non]; exact (Option.some.inj e).symm
  | bl k => rw [h.bl]; exact (Option.some.inj e).symm
  | int i => rw [h.int]; exact (Option.some.inj e).symm
  | str t =>
    rw [h.str]
    have e : (if t.length ≤ SZ then some (!t.isEmpty) else none) = some b := e
    by_cases hz : t.length ≤ SZ
    · rw [if_pos hz] at e
      refine ⟨by rw [tx_len, ← SZ_line]; exact hz, ?_⟩
      rw [← Option.some.inj e, tx_len]
      cases t with
      | nil => rfl
      | cons c t => show true = _; rw [List.length_cons]; symm; rw [bne_iff_ne]; omega
    · rw [if_neg hz] at e; cases e
  | tup l =>
    obtain ⟨a, vs, e1, h1, h2⟩ := h.tup
    rw [e1]
    refine Or.inr (Or.inl ⟨vs, h1, ?_⟩)
    have hl := h2.len
    rw [← Option.some.inj e]
    cases l <;> cases vs <;> first | rfl | (simp at hl)
  | ref n =>
    obtain ⟨a, ha, e1⟩ := h.ref
    rw [e1]
    cases hc : st[n]? with
    | none => unfold truth at e; simp only [hc] at e; cases e
    | some c =>
      have q := r.at hc ha
      cases c with
      | lst l =>
        obtain ⟨vs, h1, h2⟩ := q
        unfold truth at e; simp only [hc] at e
        refine Or.inl ⟨vs, SqL.of h1, ?_⟩
        have hl := h2.len
        rw [← Option.some.inj e]
        cases l <;> cases vs <;> first | rfl | (simp at hl)
      | dct l =>
        obtain ⟨vs, h1, h2⟩ := q
        unfold truth at e; simp only [hc] at e
        refine Or.inr (Or.inr ⟨vs, h1, ?_⟩)
        rw [← Option.some.inj e]
        cases l with
        | nil => have q : vs = [] := h2; rw [q]; rfl
        | cons p l => obtain ⟨_, _, _, q, _⟩ := h2; rw [q]; rfl
      | ins c fs => unfold truth at e; simp only [hc] at e; cases e
      | rol l => unfold truth at e; simp only [hc] at e; cases e
      | exn x => unfold truth at e; simp only [hc] at e; cases e
  | fn i => cases e
  | cst a => cases e
/-- an expression's truth as a test -/
theorem st_val {e : Expr} {m : EM} (h : PE X e (rdE T X.K xi W m)) (he : ∀ whole, isTrue e X.env whole = (do let v ← whole; standAt e.pos; holding [v] (truthy v)) := by intro _; rfl) : PT X e (rdT T X.K xi W (tVal m)) := by
  refine PT.mono (pt_truth h he) fun σ H Q ⟨μ, ρ, st, r0, e0, p⟩ => ⟨μ, ρ, st, r0, e0, Post.bind p fun x st1 μ1 H1 u e1 r1 q1 p1 => ?_⟩
  cases ht : truth x st1 with
  | none => rw [ht] at p1; exact p1.elim
  | some b =>
    rw [ht] at p1
    exact ⟨b, truth_is r1 q1 ht, p1 μ1 H1 b .refl r1 rfl⟩
section
variable {a b : Expr} {rest : List Expr} {pos : Pos} {ma mb : TM}
theorem sw_and1 (ha : PT X a (rdT T X.K xi W ma)) : PW X (.BoolOp .And [a] pos) (rdT T X.K xi W ma) := pw_and1 ha
theorem sw_or1 (ha : PT X a (rdT T X.K xi W ma)) : PW X (.BoolOp .Or [a] pos) (rdT T X.K xi W ma) := pw_or1 ha
theorem sw_and (ha : PT X a (rdT T X.K xi W ma)) (hb : PW X (.BoolOp .And (b :: rest) pos) (rdT T X.K xi W mb)) : PW X (.BoolOp .And (a :: b :: rest) pos) (rdT T X.K xi W (tAnd ma mb)) := by
  refine PW.mono (pw_and ha hb) fun σ H Q ⟨μ, ρ, st, r0, e, p⟩ => ⟨μ, ρ, st, r0, e, Post.bind p fun x st1 μ1 H1 u e1 r1 q1 p1 => ?_⟩
  subst q1
  cases x with
  | true => exact ⟨μ1, ρ, st1, r1, e.ext e1, p1⟩
  | false => exact p1 μ1 H1 false .refl r1 rfl
theorem sw_or (ha : PT X a (rdT T X.K xi W ma)) (hb : PW X (.BoolOp .Or (b :: rest) pos) (rdT T X.K xi W mb)) : PW X (.BoolOp .Or (a :: b :: rest) pos) (rdT T X.K xi W (tOr ma mb)) := by
  refine PW.mono (pw_or ha hb) fun σ H Q ⟨μ, ρ, st, r0, e, p⟩ => ⟨μ, ρ, st, r0, e, Post.bind p fun x st1 μ1 H1 u e1 r1 q1 p1 => ?_⟩
  subst q1
  cases x with
  | true => exact p1 μ1 H1 true .refl r1 rfl
  | false => exact ⟨μ1, ρ, st1, r1, e.ext e1, p1⟩
theorem st_not (ha : PT X a (rdT T X.K xi W ma)) : PT X (.UnaryOp .Not a pos) (rdT T X.K xi W (tNot ma)) := by
  refine PT.mono (pt_not ha) fun σ H Q ⟨μ, ρ, st, r0, e, p⟩ => ⟨μ, ρ, st, r0, e, Post.bind p fun x st1 μ1 H1 u e1 r1 q1 p1 => ?_⟩
  subst q1
  exact p1 μ1 H1 (!x) .refl r1 rfl
end
/-! ### a if t else b; displays -/
section
variable {a b c : Expr} {pos : Pos} {ma mb : EM} {mc : TM}
theorem se_if (hc : PT X c (rdT T X.K xi W mc)) (ha : PE X a (rdE T X.K xi W ma)) (hb : PE X b (rdE T X.K xi W mb)) : PE X (.IfExp c a b pos) (rdE T X.K xi W (eIf mc ma mb)) := by
  refine PE.mono (pe_ifExp hc ha hb) fun σ H Q ⟨μ, ρ, st, r0, e, p⟩ => ⟨μ, ρ, st, r0, e, Post.bind p fun x st1 μ1 H1 u e1 r1 q1 p1 => ?_⟩
  subst q1
  cases x with
  | true => exact ⟨μ1, ρ, st1, r1, e.ext e1, p1⟩
  | false => exact ⟨μ1, ρ, st1, r1, e.ext e1, p1⟩
theorem sa_nil : PA X [] (rdA T X.K xi W aNil) := PA.mono pa_nil fun σ H Q ⟨μ, ρ, st, r0, e, p⟩ => p μ H [] .refl r0 .nil
theorem sa_cons {es : List Expr} {m : AM} (ha : PE X a (rdE T X.K xi W ma)) (hr : PA X es (rdA T X.K xi W m)) (hs : starEach (a :: es) X.env = (false, eval a X.env) :: starEach es X.env := by rfl) : PA X (a :: es) (rdA T X.K xi W (aCons ma m)) := by
  refine PA.mono (pa_cons ha hr hs) fun σ H Q ⟨μ, ρ, st, r0, e, p⟩ => ⟨μ, ρ, st, r0, e, Post.bind p fun x st1 μ1 H1 u e1 r1 q1 p1 => ?_⟩
  refine ⟨μ1, ρ, st1, r1, e.ext e1, Post.bind p1 fun l st2 μ2 H2 us e2 r2 q2 p2 => ?_⟩
  exact p2 μ2 H2 (u :: us) .refl r2 (.cons (q1.ext e2) q2)
theorem se_tup {es : List Expr} {m : AM} {k : Nat} (h : PA X es (rdA T X.K xi W m)) : PE X (.Tuple es k pos) (rdE T X.K xi W (eTup m)) := by
  refine PE.mono (pe_tup h) fun σ H Q ⟨μ, ρ, st, r0, e, p⟩ => ⟨μ, ρ, st, r0, e, Post.bind p fun l st1 μ1 H1 us e1 r1 q1 p1 => ?_⟩
  split at p1
  · rename_i hz
    refine ⟨by rw [← q1.len, ← SZ_line]; exact hz, fun q hq => ?_⟩
    obtain ⟨r2, e2⟩ := r1.other (o := .tup us) hq
    exact p1 _ _ _ e2 r2 (.tup_of (SqT.of upd_same) (q1.ext e2))
  · exact p1.elim
theorem se_lst {es : List Expr} {m : AM} (h : PA X es (rdA T X.K xi W m)) : PE X (.List es pos) (rdE T X.K xi W (eLst m)) := by
  refine PE.mono (pe_lst h) fun σ H Q ⟨μ, ρ, st, r0, e, p⟩ => ⟨μ, ρ, st, r0, e, Post.bind p fun l st1 μ1 H1 us e1 r1 q1 p1 => ?_⟩
  split at p1
  · rename_i hz
    refine ⟨by rw [← q1.len, ← SZ_line]; exact hz, fun q hq => ?_⟩
    have en : Ext X.K μ1 H1 (μ1 ++ [q]) (upd H1 q (.lst us)) := (Ext.of_new hq).push hq
    obtain ⟨r2, e2⟩ := r1.push (c := .lst l) (o := .lst us) hq ⟨us, upd_same, q1.ext en⟩
    exact p1 _ _ _ e2 r2 (push_ref r1)
  · exact p1.elim
end
/-! ### what the operators do -/
theorem does_or {f : F2} {r r' : R2} (h : Does T X.K xi f r) : Does T X.K xi f (fun x y H Q => r x y H Q ∨ r' x y H Q) := fun Wd μ H st x y u w Q r0 q1 q2 p => Or.inl (h Wd μ H st x y u w Q r0 q1 q2 p)
def rAddA (K : PySem.W.Frag) : R2 := fun x y H Q => ((rI0 fun i j => V.int (i + j)) x y H Q ∨ (∃ i j, x = .str i ∧ y = .str j ∧ i.length + j.length ≤ sizeLine ∧ Q (.str (i ++ j)) H)) ∨ (rCatA K x y H Q ∨ rCat x y H Q)
theorem op_addA : OpR X (binaryOp .Add) (rAddA X.K) := (op_add.or op_add_str).or (op_catA.or op_cat)
theorem addS_does : Does T X.K xi addS (rAddA X.K) := by
  intro Wd μ H st x y u w Q r0 q1 q2 p
  cases x with
  | int i =>
    cases y with
    | int j => exact .inl (.inl ⟨i, j, q1.int, q2.int, p μ H _ .refl r0 rep_int⟩)
    | _ => exact p.elim
  | str s =>
    cases y with
    | str t =>
      have p : PostE T X.K xi Wd Q μ H (if s.length + t.length ≤ SZ then .ok (.str (s ++ t)) st else .bad) := p
      split at p
      · rename_i hz
        exact .inl (.inr ⟨_, _, q1.str, q2.str, by rw [tx_len, tx_len, ← SZ_line]; exact hz, by rw [← tx_append]; exact p μ H _ .refl r0 rep_str⟩)
      · exact p.elim
    | _ => exact p.elim
  | tup l =>
    cases y with
    | tup m =>
      have p : PostE T X.K xi Wd Q μ H (if l.length + m.length ≤ SZ then .ok (.tup (l ++ m)) st else .bad) := p
      split at p
      · rename_i hz
        obtain ⟨a, vs, ea, ha, hl⟩ := q1.tup
        obtain ⟨b, ws, eb, hb, hm⟩ := q2.tup
        refine .inr (.inl ⟨a, b, vs, ws, ea, eb, ha, hb, by rw [← hl.len, ← hm.len, ← SZ_line]; exact hz, fun z => ?_, fun _ z => ?_, fun _ _ q hq => ?_⟩)
        · subst z
          have zl : l = [] := List.eq_nil_of_length_eq_zero (by rw [hl.len]; rfl)
          subst zl
          exact p μ H _ .refl r0 (.tup_of hb hm)
        · subst z
          have zl : m = [] := List.eq_nil_of_length_eq_zero (by rw [hm.len]; rfl)
          subst zl
          rw [List.append_nil] at p
          exact p μ H _ .refl r0 (.tup_of ha hl)
        · obtain ⟨r2, e2⟩ := r0.other (o := .tup (vs ++ ws)) hq
          exact p _ _ _ e2 r2 (.tup_of (SqT.of upd_same) ((hl.append hm).ext e2))
      · exact p.elim
    | _ => exact p.elim
  | ref n =>
    cases y with
    | ref m =>
      have p : PostE T X.K xi Wd Q μ H (match st[n]?, st[m]? with
        | some (.lst a), some (.lst b) => if a.length + b.length ≤ SZ then .ok (.ref st.length) (st ++ [.lst (a ++ b)]) else .bad
        | _, _ => .bad) := p
      split at p
      · rename_i la lb h1 h2
        split at p
        · rename_i hz
          obtain ⟨a, ha, ea⟩ := q1.ref
          obtain ⟨b, hb, eb⟩ := q2.ref
          obtain ⟨vs, k1, k2⟩ := r0.at h1 ha
          obtain ⟨ws, k3, k4⟩ := r0.at h2 hb
          refine .inr (.inr ⟨a, b, vs, ws, ea, eb, k1, k3, by rw [← k2.len, ← k4.len, ← SZ_line]; exact hz, fun q hq => ?_⟩)
          have en : Ext X.K μ H (μ ++ [q]) (upd H q (.lst (vs ++ ws))) := (Ext.of_new hq).push hq
          obtain ⟨r2, e2⟩ := r0.push (c := .lst (la ++ lb)) (o := .lst (vs ++ ws)) hq ⟨_, upd_same, (k2.append k4).ext en⟩
          exact p _ _ _ e2 r2 (push_ref r0)
        · exact p.elim
      · exact p.elim
    | _ => exact p.elim
  | _ => exact p.elim
theorem subI_does : Does T X.K xi subI (rI0 fun i j => .int (i - j)) := by
  intro Wd μ H st x y u w Q r0 q1 q2 p
  cases x with
  | int i =>
    cases y with
    | int j => exact ⟨i, j, q1.int, q2.int, p μ H _ .refl r0 rep_int⟩
    | _ => exact p.elim
  | _ => exact p.elim
theorem modI_does : Does T X.K xi modI (rI (fun _ j => 0 < j) fun i j => .int (i % j)) := by
  intro Wd μ H st x y u w Q r0 q1 q2 p
  cases x with
  | int i =>
    cases y with
    | int j =>
      have p : PostE T X.K xi Wd Q μ H (if 0 < j then .ok (.int (i % j)) st else .bad) := p
      split at p
      · rename_i hz; exact ⟨i, j, q1.int, q2.int, hz, p μ H _ .refl r0 rep_int⟩
      · exact p.elim
    | _ => exact p.elim
  | _ => exact p.elim
theorem fdivI_does : Does T X.K xi fdivI (rI CDiv fun i j => .int (i / j)) := by
  intro Wd μ H st x y u w Q r0 q1 q2 p
  cases x with
  | int i =>
    cases y with
    | int j =>
      have p : PostE T X.K xi Wd Q μ H (if 0 < j ∧ j < 1073741824 then .ok (.int (i / j)) st else .bad) := p
      split at p
      · rename_i hz; exact ⟨i, j, q1.int, q2.int, hz, p μ H _ .refl r0 rep_int⟩
      · exact p.elim
    | _ => exact p.elim
  | _ => exact p.elim
theorem cmpI_does {p : Int → Int → Bool} : Does T X.K xi (cmpI p) (rI0 fun i j => .bl (p i j)) := by
  intro Wd μ H st x y u w Q r0 q1 q2 p
  cases x with
  | int i =>
    cases y with
    | int j => exact ⟨i, j, q1.int, q2.int, p μ H _ .refl r0 rep_bl⟩
    | _ => exact p.elim
  | _ => exact p.elim
theorem isN_does : Does T X.K xi isN (fun x y H Q => y = .non ∧ Q (.bl (decide (x = .non))) H) := by
  intro Wd μ H st x y u w Q r0 q1 q2 p
  cases y with
  | non => exact ⟨q2.non, by rw [q1.isNon]; exact p μ H _ .refl r0 rep_bl⟩
  | _ => exact p.elim
theorem isNotN_does : Does T X.K xi isNotN (fun x y H Q => y = .non ∧ Q (.bl (!decide (x = .non))) H) := by
  intro Wd μ H st x y u w Q r0 q1 q2 p
  cases y with
  | non => exact ⟨q2.non, by rw [q1.isNon]; exact p μ H _ .refl r0 rep_bl⟩
  | _ => exact p.elim
/-! equality -/
theorem eqV_dat {μ : List Addr} {H : Hp} {st : Sto} {x y : S} {u w : V} {b : Bool} (r0 : RSt T X.K xi μ H st) (q1 : Rep T X.K μ H x u) (q2 : Rep T X.K μ H y w) (e : eqV x y st = some b) :
    (scal u w = true ∧ decide (u = w) = b) ∨ ∃ d d', Dp X.K H u d ∧ Dp X.K H w d' ∧ d.canLay0 = true ∧ d'.canLay0 = true ∧ d.depth ≤ 64 ∧ PyData.eqv d d' = b := by
  have flatC : ∀ x y : S, (if x.flat && y.flat then some (x.eqb y) else if x.plain && y.plain && decide (x.dep ≤ 60) then some (x.eqb y) else none) = some b → Rep T X.K μ H x u → Rep T X.K μ H y w →
      (scal u w = true ∧ decide (u = w) = b) ∨ ∃ d d', Dp X.K H u d ∧ Dp X.K H w d' ∧ d.canLay0 = true ∧ d'.canLay0 = true ∧ d.depth ≤ 64 ∧ PyData.eqv d d' = b := by
    intro x y e q1 q2
    have plainC : x.plain = true → y.plain = true → x.dep ≤ 60 → x.eqb y = b → ∃ d d', Dp X.K H u d ∧ Dp X.K H w d' ∧ d.canLay0 = true ∧ d'.canLay0 = true ∧ d.depth ≤ 64 ∧ PyData.eqv d d' = b := fun p1 p2 p3 p4 =>
      ⟨x.dat, y.dat, q1.dp p1, q2.dp p2, can_dat x p1, can_dat y p2, by rw [dep_dat]; omega, by rw [eqv_dat x y p1 p2]; exact p4⟩
    by_cases hf : (x.flat && y.flat) = true
    · rw [if_pos hf] at e
      have e := Option.some.inj e
      obtain ⟨f1, f2⟩ := Bool.and_eq_true_iff.mp hf
      cases x with
      | non =>
        cases y with
        | non => rw [q1.non, q2.non]; exact .inl ⟨rfl, by rw [← e]; rfl⟩
        | bl k => rw [q1.non, q2.bl]; exact .inl ⟨rfl, by rw [← e]; rfl⟩
        | int k => rw [q1.non, q2.int]; exact .inl ⟨rfl, by rw [← e]; rfl⟩
        | str k => rw [q1.non, q2.str]; exact .inl ⟨rfl, by rw [← e]; rfl⟩
        | _ => cases f2
      | bl i =>
        cases y with
        | non => rw [q1.bl, q2.non]; exact .inl ⟨rfl, by rw [← e]; rfl⟩
        | bl k => rw [q1.bl, q2.bl]; exact .inl ⟨rfl, by rw [← e, dec_bl]; rfl⟩
        | int k => exact .inr (plainC rfl rfl (Nat.zero_le _) e)
        | str k => rw [q1.bl, q2.str]; exact .inl ⟨rfl, by rw [← e]; rfl⟩
        | _ => cases f2
      | int i =>
        cases y with
        | non => rw [q1.int, q2.non]; exact .inl ⟨rfl, by rw [← e]; rfl⟩
        | bl k => exact .inr (plainC rfl rfl (Nat.zero_le _) e)
        | int k => rw [q1.int, q2.int]; exact .inl ⟨rfl, by rw [← e, dec_int]; rfl⟩
        | str k => rw [q1.int, q2.str]; exact .inl ⟨rfl, by rw [← e]; rfl⟩
        | _ => cases f2
      | str i =>
        cases y with
        | non => rw [q1.str, q2.non]; exact .inl ⟨rfl, by rw [← e]; rfl⟩
        | bl k => rw [q1.str, q2.bl]; exact .inl ⟨rfl, by rw [← e]; rfl⟩
        | int k => rw [q1.str, q2.int]; exact .inl ⟨rfl, by rw [← e]; rfl⟩
        | str k => rw [q1.str, q2.str]; exact .inl ⟨rfl, by rw [← e, dec_str, tx_beq]; rfl⟩
        | _ => cases f2
      | _ => cases f1
    · rw [if_neg hf] at e
      by_cases hp : (x.plain && y.plain && decide (x.dep ≤ 60)) = true
      · rw [if_pos hp] at e
        obtain ⟨h12, h3⟩ := Bool.and_eq_true_iff.mp hp
        obtain ⟨h1, h2⟩ := Bool.and_eq_true_iff.mp h12
        exact .inr (plainC h1 h2 (of_decide_eq_true h3) (Option.some.inj e))
      · rw [if_neg hp] at e; cases e
  cases x with
  | ref n =>
    cases y with
    | ref m =>
      have e : (match st[n]?, st[m]? with
        | some (.lst a), some (.lst b) => if S.plainL a && S.plainL b && decide (S.depL a ≤ 60) then some (S.eqL a b) else none
        | _, _ => none) = some b := e
      split at e
      · rename_i la lb h1 h2
        split at e
        · rename_i hp
          obtain ⟨h12, h3⟩ := Bool.and_eq_true_iff.mp hp
          obtain ⟨p1, p2⟩ := Bool.and_eq_true_iff.mp h12
          obtain ⟨a, ha, ea⟩ := q1.ref
          obtain ⟨c, hc, ec⟩ := q2.ref
          obtain ⟨vs, k1, k2⟩ := r0.at h1 ha
          obtain ⟨ws, k3, k4⟩ := r0.at h2 hc
          refine .inr ⟨.list (S.datL la), .list (S.datL lb), by rw [ea]; exact .lst (SqL.of k1) (k2.dp p1), by rw [ec]; exact .lst (SqL.of k3) (k4.dp p2), ?_, ?_, ?_, ?_⟩
          · unfold PyData.canLay0; exact can_datL la p1
          · unfold PyData.canLay0; exact can_datL lb p2
          · unfold PyData.depth; rw [dep_datL]; have := of_decide_eq_true h3; omega
          · show PyData.eqvAll _ _ = b
            rw [eqv_datL la lb p1 p2]
            exact Option.some.inj e
        · cases e
      · cases e
    | _ => exact flatC _ _ (by exact e) q1 q2
  | _ => exact flatC _ _ (by exact e) q1 q2
def rEqA (K : PySem.W.Frag) (neg : Bool) : R2 := fun x y H Q => ∃ b : Bool, ((scal x y = true ∧ decide (x = y) = b) ∨ ∃ d d', Dp K H x d ∧ Dp K H y d' ∧ d.canLay0 = true ∧ d'.canLay0 = true ∧ d.depth ≤ 64 ∧ PyData.eqv d d' = b) ∧ Q (.bl (if neg then !b else b)) H
theorem op_eqA (hu : X.A.units + 64 < cLine) : OpR X (compareOp .Eq) (rEqA X.K false) := by
  intro pins s σ H x y v u Q I rx ry h
  obtain ⟨b, h, q⟩ := h
  rcases h with ⟨h1, h2⟩ | ⟨d, d', h1, h2, h3, h4, h5, h6⟩
  · exact op_eq pins s σ H x y v u Q I rx ry ⟨h1, by rw [h2]; exact q⟩
  · obtain ⟨as, r1⟩ := Dp.reads I d x v h1 rx
    obtain ⟨bs, r2⟩ := Dp.reads I d' y u h2 ry
    refine SeqAt.compareEq_reads r1 r2 h3 h4 ?_ ⟨.bl b, H, I, by rw [h6]; rfl, q⟩
    have z : min d.depth d'.depth ≤ d.depth := Nat.min_le_left _ _
    omega
theorem op_neA (hu : X.A.units + 64 < cLine) : OpR X (compareOp .NotEq) (rEqA X.K true) := by
  intro pins s σ H x y v u Q I rx ry h
  obtain ⟨b, h, q⟩ := h
  rcases h with ⟨h1, h2⟩ | ⟨d, d', h1, h2, h3, h4, h5, h6⟩
  · exact op_ne pins s σ H x y v u Q I rx ry ⟨h1, by rw [h2]; exact q⟩
  · obtain ⟨as, r1⟩ := Dp.reads I d x v h1 rx
    obtain ⟨bs, r2⟩ := Dp.reads I d' y u h2 ry
    refine SeqAt.compareNe_reads r1 r2 h3 h4 ?_ ⟨.bl (!b), H, I, by rw [h6]; rfl, q⟩
    have z : min d.depth d'.depth ≤ d.depth := Nat.min_le_left _ _
    omega
theorem eqS_does : Does T X.K xi eqS (rEqA X.K false) := by
  intro Wd μ H st x y u w Q r0 q1 q2 p
  unfold eqS at p
  split at p
  · rename_i b e; exact ⟨b, eqV_dat r0 q1 q2 e, p μ H _ .refl r0 rep_bl⟩
  · exact p.elim
theorem neS_does : Does T X.K xi neS (rEqA X.K true) := by
  intro Wd μ H st x y u w Q r0 q1 q2 p
  unfold neS at p
  split at p
  · rename_i b e; exact ⟨b, eqV_dat r0 q1 q2 e, p μ H _ .refl r0 rep_bl⟩
  · exact p.elim
end
end Sm

/-! SemCall: defs as functions of the small semantics; calls, methods, new instances, fields. -/
namespace Sm
open PySem PySem.Spec PyProof.Rows L2
/-! ### room -/
/-- whether the text asks for reprs of nested things (then nothing may guard) -/
def needG : Bool := false
structure RoomS (k : Nat) (A : Around) : Prop where
  hd : A.handled = none
  gd : needG = true → A.guards = some []
  dp : A.depth + k + 12 < recursionLimit
  un : A.units + 5 * k + 200 < cLine
theorem RoomS.mono {j k : Nat} {A : Around} (r : RoomS k A) (h : j ≤ k) : RoomS j A :=
  ⟨r.hd, r.gd, by have z := r.dp; omega, by have z := r.un; omega⟩
theorem RoomS.deeper {k : Nat} {A : Around} (r : RoomS (k + 1) A) (env : PySem.Env) : RoomS k (A.deeper env) :=
  ⟨r.hd, r.gd, by have z := r.dp; show A.depth + 1 + k + 12 < _; omega, by have z := r.un; show A.units + 3 + 5 * k + 200 < _; omega⟩
theorem make_guards {A : Around} {C : Addr} {us : List Value} {kw : List (Str × Value)} : (A.under (.builtin "type.__call__" ⟨.ref C :: us, kw⟩)).guards = A.guards := by
  first
    | rfl
    | simp [Around.under, Code.guards, Code.isGuard, pushGuards, guardIds]
theorem RoomS.make {k : Nat} {A : Around} (r : RoomS (k + 1) A) (C : Addr) (us : List Value) (kw : List (Str × Value)) : RoomS k (A.under (.builtin "type.__call__" ⟨.ref C :: us, kw⟩)) :=
  ⟨r.hd, fun h => make_guards.trans (r.gd h), by have z := r.dp; rw [make_depth]; omega, by have z := r.un; rw [make_units]; omega⟩
/-! ### what a def does -/
def spF (T : Tab) (K : PySem.W.Frag) (F : Fn) : Sp := fun vs H Q E => ∃ μ l st, RSt T K none μ H st ∧ RepL T K μ H l vs ∧ PostE T K none (fun c d H' => E c d H') Q μ H (F l st)
structure FnS (T : Tab) (P : Program) (w : World) (K : PySem.W.Frag) (mg : Str → Option Value) (base : Heap) (k : Nat) (f : Addr) (fd : FuncData) (ps : List Str) (F : Fn) : Prop where
  len : ∀ l st, F l st ≠ .bad → l.length = ps.length
  run : ∀ (A : Around) (outer : List PySem.Env) (s : Shared) (H : Hp) (args : Args) (us : List Value) (vs : List V) (Q : VK) (E : XK), RoomS k A → Env0 P w K mg base A outer s H → BindsTo s fd args (ps.zip us) → Vals vs us →
    spF T K F vs H Q E → codeAny (model P w) A (.call (.ref f) args) (CR (L2.CX P w) outer P w H s Q E) s
section
variable {T : Tab} {P : Program} {w : World} {K : PySem.W.Frag} {mg : Str → Option Value} {base : Heap}
theorem FnS.mono {j k : Nat} {f : Addr} {fd : FuncData} {ps : List Str} {F : Fn} (G : FnS T P w K mg base j f fd ps F) (h : j ≤ k) : FnS T P w K mg base k f fd ps F :=
  ⟨G.len, fun A outer s H args us vs Q E hr => G.run A outer s H args us vs Q E (hr.mono h)⟩
theorem spF_len {f : Addr} {fd : FuncData} {k : Nat} {ps : List Str} {F : Fn} (G : FnS T P w K mg base k f fd ps F) {vs : List V} {H : Hp} {Q : VK} {E : XK} (h : spF T K F vs H Q E) : vs.length = ps.length := by
  obtain ⟨μ, l, st, r, q, p⟩ := h
  rw [← q.len]
  refine G.len l st fun z => ?_
  rw [z] at p
  exact p
/-- the slots at the entry -/
theorem start_env {μ : List Addr} {H : Hp} {N : List Str} {l : List S} {vs : List V} (q : RepL T K μ H l vs) (hn : l.length ≤ N.length) : REnv T K μ H (l.map some ++ List.replicate (N.length - l.length) none) (L2.start N vs) := by
  have hl := q.len
  unfold L2.start
  refine ⟨by rw [List.length_append, List.length_append, List.length_map, List.length_map, List.length_replicate, List.length_replicate, hl], fun i s h => ?_⟩
  by_cases hi : i < l.length
  · rw [List.getElem?_append_left (by simpa using hi), List.getElem?_map] at h
    have e : l[i]? = some s := by
      cases e : l[i]? with
      | none => rw [e] at h; cases h
      | some z => rw [e] at h; exact congrArg some (Option.some.inj (Option.some.inj h))
    obtain ⟨v, h1, h2⟩ := q.get e
    refine ⟨v, ?_, h2⟩
    rw [List.getElem?_append_left (by rw [List.length_map, ← hl]; exact hi), List.getElem?_map, h1]
    rfl
  · rw [List.getElem?_append_right (by rw [List.length_map]; omega), List.getElem?_replicate] at h
    split at h <;> cases h
/-- THE RULE of a def -/
theorem fnS_of {k : Nat} {f : Addr} {fd : FuncData} {x qual : Str} {params : Arguments} {body : List Stmt} {scope : Scope} {N ps : List Str} {mb : SM}
    (F : FunD K x qual params body scope [] [] f fd) (S0 : FnScope N ps scope) (hp : ps.length ≤ N.length)
    (hb : ∀ (cdv : Value) (A : Around) (outer : List PySem.Env) (s : Shared) (H : Hp) (E : XK), RoomS k (A.deeper (envOfC qual scope s.heap.objs.size f cdv)) →
      PSs (cxOf (L2.CX P w) P w K mg base N qual scope f cdv A outer s H E) body (rdS T K none (fun cls d _ H' => E cls d H') mb)) :
    FnS T P w K mg base (k + 1) f fd ps (fnS ps.length N.length mb) := by
  have flen : ∀ l st, fnS ps.length N.length mb l st ≠ .bad → l.length = ps.length := fun l st h => by
    unfold fnS at h
    by_cases e : l.length = ps.length
    · exact e
    · rw [if_neg e] at h; exact absurd rfl h
  refine ⟨flen, fun A outer s H args us vs Q E hr e0 hbd rv hsp => ?_⟩
  obtain ⟨oc, od, dV, kV, doc, pm, an, cdv, ct, osl, rfl, lk, hcd, _, _⟩ := F.ex
  obtain ⟨μ, l, st, r0, rl, p⟩ := hsp
  have hll : l.length = ps.length := flen l st fun z => by rw [z] at p; exact p
  have hl : vs.length = ps.length := rl.len.symm.trans hll
  have KX : K.In s.heap := e0.mod.kin.keeps fun b o e => (e0.bs b o e).1
  have lim : s.heap.NoLimit := e0.mod.nolimit.keeps fun b o e => (e0.bs b o e).1
  have hkd : ∀ y ∈ ps.zip us, scope.names.lookup y.1 = some .local ∨ (scope.names.lookup y.1 = some .cell ∧ ((cellsFrom (s.heap.objs.size + 1) scope.names []).lookup y.1).isSome = true) := fun y hy => by
    obtain ⟨n, v⟩ := y
    rcases S0.par n (List.of_mem_zip hy).1 with q | q
    · exact Or.inl q
    · exact Or.inr ⟨q, PySem.W.cellsFrom_some _ _ _ (Or.inl q)⟩
  have hdepth : A.depth < recursionLimit := by have z := hr.dp; omega
  refine codeAny_call_function hdepth (KX _ _ lk) rfl S0.co S0.gen rfl (PySem.W.codeRec_of KX hcd) (hbd _ _ _ _ ?_)
  refine wpAny_newFunctionEnv_cells S0.kind hkd fun env he s1 xx => ?_
  subst he
  refine ⟨lim.keeps xx.toInCall.keep, codeAny_func ?_⟩
  have I := inv_start (CX := L2.CX P w) (E := E) S0 hr.hd e0 hl rv xx
  have ht := hb cdv A outer s H E (hr.deeper _)
  have hn : l.length ≤ N.length := by rw [hll]; exact hp
  have hq : rdS T K none (fun cls d _ H' => E cls d H') mb { nx := fun _ H' => Q .non H', rt := Q } (L2.start N vs) H := by
    refine ⟨μ, _, st, r0, start_env rl hn, ?_⟩
    unfold fnS at p
    rw [if_pos hll] at p
    cases e : mb (l.map some ++ List.replicate (N.length - l.length) none) st with
    | nx ρ st' =>
      simp only [e] at p
      exact fun μ' H' σ e1 r1 q1 => p μ' H' .non e1 r1 rep_non
    | rt v st' =>
      simp only [e] at p
      exact p
    | bk ρ st' => simp only [e] at p; exact p.elim
    | ct ρ st' => simp only [e] at p; exact p.elim
    | exc x ρ st' =>
      simp only [e] at p
      exact fun μ' H' σ cls d e1 r1 _ q1 => p μ' H' cls d e1 r1 q1
    | bad => simp only [e] at p; exact p.elim
  refine wpAny_mono (ht.run [] s1 (L2.start N vs) H _ I hq) (fun fl s' hs => ?_) fun e s' hs => hs
  cases fl with
  | ret u =>
    obtain ⟨v, σ', H', J, rr, q⟩ := hs
    exact ⟨v, H', J.os, J.bare, J.base, J.hok, rr, q⟩
  | next =>
    obtain ⟨σ', H', J, q⟩ := hs
    exact ⟨.non, H', J.os, J.bare, J.base, J.hok, rfl, q⟩
  | brk => obtain ⟨_, _, _, q⟩ := hs; exact False.elim q
  | cont => obtain ⟨_, _, _, q⟩ := hs; exact False.elim q
end
/-! ### what a body's rules lean on -/
structure TabOk (T : Tab) (K : PySem.W.Frag) : Prop where
  cls : ∀ c, c < T.cls.length → Cls K (T.clsA K c)
  noat : ∀ c k, c < T.cls.length → k < T.flds.length → k ∉ T.ms c → NoAttr K (T.clsA K c) (T.fld k)
  nd : T.flds.Nodup
structure Bd (T : Tab) (X : Cx) (W : WX) (k : Nat) : Prop where
  tk : Takes X W
  rm : RoomS k X.A
  ok : TabOk T X.K
  nd : X.N.Nodup
  calm : X.calm = true
  pass : PassesOwn (model X.prog X.w) X.A X.env X.xe
/-- a function of the module -/
structure GFn (T : Tab) (P : Program) (w : World) (K : PySem.W.Frag) (mg : Str → Option Value) (base : Heap) (k : Nat) (x : Str) (ps : List Str) (F : Fn) : Prop where
  ex : ∃ f fd, FnS T P w K mg base k f fd ps F ∧ mg x = some (.ref f) ∧ PySem.W.keepIn K (.ref f) = true ∧ Binds K fd ps []
/-- a method of the class c -/
structure GMt (T : Tab) (P : Program) (w : World) (K : PySem.W.Frag) (mg : Str → Option Value) (base : Heap) (k : Nat) (c : Nat) (m : Str) (ps : List Str) (F : Fn) : Prop where
  ex : ∃ f fd, FnS T P w K mg base k f fd ps F ∧ Meth K (T.clsA K c) m f ∧ Binds K fd ps []
/-- the class c, its __init__ -/
structure GCl (T : Tab) (P : Program) (w : World) (K : PySem.W.Frag) (mg : Str → Option Value) (base : Heap) (k : Nat) (c : Nat) (x : Str) (ps : List Str) (F : Fn) : Prop where
  ex : ∃ f fd, FnS T P w K mg base k f fd ps F ∧ mg x = some (.ref (T.clsA K c)) ∧ Mk K (T.clsA K c) f ∧ Binds K fd ps []
  lt : c < T.cls.length
section
variable {T : Tab} {X : Cx} {xi : Xi} {W : WX} {k : Nat}
theorem run_S {f : Addr} {fd : FuncData} {ps : List Str} {F : Fn} {pins : List (Addr × Obj)} {σ : L2.St} {H : Hp} {s : Shared} {Q : VK} {us : List Value} {vs : List V} (b : Bd T X W k) (G : FnS T X.prog X.w X.K X.mg X.base k f fd ps F) (hb : Binds X.K fd ps [])
    (I : Inv X pins σ H s) (r : Vals vs us) (h : spF T X.K F vs H Q (WE W σ)) : wpAny (model X.prog X.w) X.A (call (.ref f) us) (EP X pins σ Q) X.xe s := by
  have hl : us.length = ps.length := by
    rw [← r.length]
    exact spF_len G h
  have bd := hb s us I.kIn (by rw [List.append_nil]; exact hl)
  rw [List.append_nil] at bd
  refine wpAny_call (codeAny_mono (G.run X.A X.stack s H ⟨us, []⟩ us vs Q (WE W σ) b.rm I.env0 bd r h) fun z s' hq => ?_)
  cases z with
  | error e => exact passAt b.tk σ pins H s e s' I hq
  | ok fl =>
    cases fl with
    | ret u => exact I.after hq
    | next => exact False.elim hq
    | brk => exact False.elim hq
    | cont => exact False.elim hq
section
variable {e : Expr} {es : List Expr} {m : AM} {x : Str} {ps : List Str} {F : Fn} {p pos : Pos}
theorem se_call (b : Bd T X W k) (G : GFn T X.prog X.w X.K X.mg X.base k x ps F) (ha : PA X (e :: es) (rdA T X.K none W m)) (hg : Gl X x := by rfl) (hdb : (x == ("__debug__" : Str)) = false := by decide)
    (he : starEach (e :: es) X.env = (false, eval e X.env) :: starEach es X.env := by rfl) (hpl : (backTo pos (starEach es X.env)).any (·.1) = false := by rfl) : PE X (.Call (.Name x p) (e :: es) [] pos) (rdE T X.K none W (eCall F m)) := by
  obtain ⟨f, fd, G, hm, hk, hb⟩ := G.ex
  refine ⟨fun pins s σ H Q I ⟨μ, ρ, st, r0, e0, q⟩ => ?_⟩
  refine wpAny_Call_Name_kw (ld_glob I hg hm ?_ hdb)
  refine PySem.W.callWith_K (h₀ := X.base) I.ok.mod.kin hk (thn (ha.run pos pins s σ H (fun vs H1 => spF T X.K F vs H1 Q (WE W σ)) I ⟨μ, ρ, st, r0, e0, Post.bind q fun l st1 μ1 H1 vs e1 r1 q1 p1 => ⟨μ1, l, st1, r1, q1, p1⟩⟩) fun us s1 hh => ?_) he hpl
  obtain ⟨vs, H1, I1, r1, h1⟩ := hh
  exact ⟨I1.kIn, run_S b G hb I1 r1 h1⟩
theorem se_call0 (b : Bd T X W k) (G : GFn T X.prog X.w X.K X.mg X.base k x ps F) (hg : Gl X x := by rfl) (hdb : (x == ("__debug__" : Str)) = false := by decide) : PE X (.Call (.Name x p) [] [] pos) (rdE T X.K none W (eCall F aNil)) := by
  obtain ⟨f, fd, G, hm, hk, hb⟩ := G.ex
  refine ⟨fun pins s σ H Q I ⟨μ, ρ, st, r0, e0, q⟩ => ?_⟩
  refine wpAny_Call_Name_kw (ld_glob I hg hm ?_ hdb)
  exact PySem.W.callWith_K0 I.kIn hk (run_S (us := []) b G hb I .nil ⟨μ, [], st, r0, .nil, q⟩)
end
/-! fields -/
theorem nd_ixS {l : List Str} (nd : l.Nodup) {i j : Nat} {a : Str} (h1 : l[i]? = some a) (h2 : l[j]? = some a) : i = j := by
  obtain ⟨p1, e1⟩ := List.getElem?_eq_some_iff.mp h1
  obtain ⟨p2, e2⟩ := List.getElem?_eq_some_iff.mp h2
  exact (List.getElem_inj nd).mp (e1.trans e2.symm)
theorem RepF.look {μ : List Addr} {H : Hp} (nd : T.flds.Nodup) {k : Nat} (hk : k < T.flds.length) : ∀ {fs : List (Nat × S)} {gs : List (Str × V)}, RepF T X.K μ H fs gs →
    (∀ s, fs.lookup k = some s → ∃ v, gs.lookup (T.fld k) = some v ∧ Rep T X.K μ H s v) ∧ (fs.lookup k = none → gs.lookup (T.fld k) = none)
  | [], gs, h => by
    have e : gs = [] := h
    rw [e]
    exact ⟨fun s z => (by cases z), fun _ => rfl⟩
  | (j, s) :: fs, gs, h => by
    obtain ⟨v, r, h1, h2, h3, h4⟩ := h
    have ih := RepF.look nd hk h4
    rw [h1]
    have inj : T.fld k = T.fld j → k = j := fun q => by
      have e1 : T.flds[k]? = some (T.fld k) := by unfold Tab.fld; rw [List.getD_eq_getElem?_getD, List.getElem?_eq_getElem hk]; rfl
      have e2 : T.flds[j]? = some (T.fld j) := by unfold Tab.fld; rw [List.getD_eq_getElem?_getD, List.getElem?_eq_getElem h2]; rfl
      exact nd_ixS nd e1 (q ▸ e2)
    by_cases hkj : k = j
    · subst hkj
      refine ⟨fun s' z => ?_, fun z => ?_⟩
      · have e : s = s' := by simpa [List.lookup] using z
        exact ⟨v, by simp [List.lookup], e ▸ h3⟩
      · simp [List.lookup] at z
    · have n1 : (k == j) = false := by simpa using hkj
      have n2 : (T.fld k == T.fld j) = false := by simpa using fun q => hkj (inj q)
      refine ⟨fun s' z => ?_, fun z => ?_⟩
      · rw [List.lookup_cons, n1] at z
        rw [List.lookup_cons, n2]
        exact ih.1 s' z
      · rw [List.lookup_cons, n1] at z
        rw [List.lookup_cons, n2]
        exact ih.2 z
theorem RepF.put {μ : List Addr} {H : Hp} (nd : T.flds.Nodup) {k : Nat} (hk : k < T.flds.length) {s : S} {v : V} (hs : Rep T X.K μ H s v) : ∀ {fs : List (Nat × S)} {gs : List (Str × V)}, RepF T X.K μ H fs gs → RepF T X.K μ H (putK k s fs) (putF (T.fld k) v gs)
  | [], gs, h => by
    have e : gs = [] := h
    rw [e]
    exact ⟨v, [], rfl, hk, hs, rfl⟩
  | (j, t) :: fs, gs, h => by
    obtain ⟨u, r, h1, h2, h3, h4⟩ := h
    rw [h1]
    unfold putK putF
    by_cases hkj : j = k
    · subst hkj
      rw [if_pos rfl, if_pos rfl]
      exact ⟨v, r, rfl, h2, hs, h4⟩
    · have ne : T.fld j ≠ T.fld k := fun q => by
        have e1 : T.flds[j]? = some (T.fld j) := by unfold Tab.fld; rw [List.getD_eq_getElem?_getD, List.getElem?_eq_getElem h2]; rfl
        have e2 : T.flds[k]? = some (T.fld k) := by unfold Tab.fld; rw [List.getD_eq_getElem?_getD, List.getElem?_eq_getElem hk]; rfl
        exact hkj (nd_ixS nd e1 (q ▸ e2))
      rw [if_neg hkj, if_neg ne]
      exact ⟨u, _, rfl, h2, h3, RepF.put nd hk hs h4⟩
theorem RepF.len {μ : List Addr} {H : Hp} : ∀ {fs : List (Nat × S)} {gs : List (Str × V)}, RepF T X.K μ H fs gs → fs.length = gs.length
  | [], gs, h => by have e : gs = [] := h; rw [e]; rfl
  | (j, t) :: fs, gs, h => by
    obtain ⟨u, r, h1, h2, h3, h4⟩ := h
    rw [h1, List.length_cons, List.length_cons, RepF.len h4]
theorem se_attr {o : Expr} {mo : EM} {f : Str} {pos : Pos} (b : Bd T X W k) (j : Nat) (ho : PE X o (rdE T X.K xi W mo)) (hf : f = T.fld j := by rfl) (hj : j < T.flds.length := by decide) (hb : attributeBase o f X.env (eval o X.env) = eval o X.env := by rfl) :
    PE X (.Attribute o f pos) (rdE T X.K xi W (eAttr T.ms j mo)) := by
  subst hf
  refine PE.mono (pe_fld ho hb) fun σ H Q ⟨μ, ρ, st, r0, e, p⟩ => ⟨μ, ρ, st, r0, e, Post.bind p fun x st1 μ1 H1 u e1 r1 q1 p1 => ?_⟩
  cases x with
  | ref n =>
    obtain ⟨a, ha, ea⟩ := q1.ref
    cases hc : st1[n]? with
    | none => simp only [hc] at p1; exact p1.elim
    | some c =>
      simp only [hc] at p1
      cases c with
      | ins c fs =>
        obtain ⟨hcl, dx, gs, h1, h2⟩ := r1.at hc ha
        simp only at p1
        by_cases hm : j ∈ T.ms c
        · rw [if_pos hm] at p1; exact p1.elim
        · rw [if_neg hm] at p1
          cases hl : fs.lookup j with
          | none => rw [hl] at p1; exact p1.elim
          | some v =>
            rw [hl] at p1
            obtain ⟨w, k1, k2⟩ := (RepF.look b.ok.nd hj h2).1 v hl
            exact ⟨a, _, dx, gs, w, ea, h1, b.ok.cls c hcl, b.ok.noat c j hcl hj hm, k1, p1 μ1 H1 w .refl r1 k2⟩
      | _ => exact p1.elim
  | _ => exact p1.elim
/-! methods of one's own -/
section
variable {o e : Expr} {es : List Expr} {mo : EM} {m : AM} {x : Str} {c j : Nat} {ps : List Str} {F : Fn} {p pos apos : Pos} {pl : Sem Bool}
theorem se_meth (b : Bd T X W k) (G : GMt T X.prog X.w X.K X.mg X.base k c x ps F) (ho : PE X o (rdE T X.K none W mo)) (ha : PA X (e :: es) (rdA T X.K none W m)) (hc : c < T.cls.length := by decide) (hx : x = T.fld j := by rfl) (hj : j < T.flds.length := by decide)
    (hst : starEach (e :: es) X.env = (false, eval e X.env) :: starEach es X.env := by rfl) (hpl : (backTo pos (starEach es X.env)).any (·.1) = false := by rfl)
    (ht : eval (.Call (.Attribute o x apos) (e :: es) [] pos) X.env = (do
      let ov ← eval o X.env
      standAt apos.atName
      let (f, first) ← holding [ov] (getMethod ov x pl)
      callWith pos f first (backTo pos (starEach (e :: es) X.env)) (backToKw pos (keywordEach [] X.env))) := by rfl) : PE X (.Call (.Attribute o x apos) (e :: es) [] pos) (rdE T X.K none W (eMeth c j F mo m)) := by
  obtain ⟨f, fd, G, hm, hb⟩ := G.ex
  refine ⟨fun pins s σ H Q I ⟨μ, ρ, st, r0, e0, q⟩ => ?_⟩
  refine PySem.W.methodCall_KW (pl := pl) (thn (ho.run pins s σ H (fun u H1 => ∃ (a dx : Addr) (gs : List (Str × V)), u = .ref a ∧ H1 a = some (.ins (T.clsA X.K c) dx gs) ∧ gs.lookup x = none ∧ rdA T X.K none W m σ H1 fun vs H2 => spF T X.K F (u :: vs) H2 Q (WE W σ)) I
    ⟨μ, ρ, st, r0, e0, Post.bind q fun y st1 μ1 H1 u e1 r1 q1 p1 => ?_⟩) fun u s1 hh => ?_) ht
  · cases y with
    | ref n =>
      obtain ⟨a, ha', ea⟩ := q1.ref
      cases hcell : st1[n]? with
      | none => simp only [hcell] at p1; exact p1.elim
      | some cl =>
        simp only [hcell] at p1
        cases cl with
        | ins c' fs =>
          obtain ⟨hcl, dx, gs, h1, h2⟩ := r1.at hcell ha'
          simp only at p1
          by_cases hcc : c' = c ∧ fs.lookup j = none
          · rw [if_pos hcc] at p1
            obtain ⟨rfl, hno⟩ := hcc
            refine ⟨a, dx, gs, ea, h1, by rw [hx]; exact (RepF.look b.ok.nd hj h2).2 hno, μ1, ρ, st1, r1, e0.ext e1, Post.bind p1 fun l st2 μ2 H2 vs e2 r2 q2 p2 => ?_⟩
            exact ⟨μ2, .ref n :: l, st2, r2, .cons (q1.ext e2) q2, p2⟩
          · rw [if_neg hcc] at p1; exact p1.elim
        | _ => exact p1.elim
    | _ => exact p1.elim
  · obtain ⟨z, H1, I1, rz, a, dx, gs, ez, h1, hno, h2⟩ := hh
    subst ez
    obtain rfl : u = Value.ref a := rz
    refine getmeth_ok I1 h1 (b.ok.cls c hc) hm hno ?_
    refine PySem.W.callWith_K (first := [.ref a]) (h₀ := X.base) I.ok.mod.kin hm.kp (thn (ha.run pos pins s1 σ H1 _ I1 h2) fun us s2 hh2 => ?_) hst hpl
    obtain ⟨vs, H2, I2, r2, q2⟩ := hh2
    exact ⟨I2.kIn, run_S (us := .ref a :: us) (vs := .ref a :: vs) b G hb I2 (.cons rfl r2) q2⟩
theorem se_meth0 (b : Bd T X W k) (G : GMt T X.prog X.w X.K X.mg X.base k c x ps F) (ho : PE X o (rdE T X.K none W mo)) (hc : c < T.cls.length := by decide) (hx : x = T.fld j := by rfl) (hj : j < T.flds.length := by decide)
    (ht : eval (.Call (.Attribute o x apos) [] [] pos) X.env = (do
      let ov ← eval o X.env
      standAt apos.atName
      let (f, first) ← holding [ov] (getMethod ov x pl)
      callWith pos f first (backTo pos (starEach [] X.env)) (backToKw pos (keywordEach [] X.env))) := by rfl) : PE X (.Call (.Attribute o x apos) [] [] pos) (rdE T X.K none W (eMeth c j F mo aNil)) := by
  obtain ⟨f, fd, G, hm, hb⟩ := G.ex
  refine ⟨fun pins s σ H Q I ⟨μ, ρ, st, r0, e0, q⟩ => ?_⟩
  refine PySem.W.methodCall_KW (pl := pl) (thn (ho.run pins s σ H (fun u H1 => ∃ (a dx : Addr) (gs : List (Str × V)), u = .ref a ∧ H1 a = some (.ins (T.clsA X.K c) dx gs) ∧ gs.lookup x = none ∧ spF T X.K F [u] H1 Q (WE W σ)) I
    ⟨μ, ρ, st, r0, e0, Post.bind q fun y st1 μ1 H1 u e1 r1 q1 p1 => ?_⟩) fun u s1 hh => ?_) ht
  · cases y with
    | ref n =>
      obtain ⟨a, ha', ea⟩ := q1.ref
      cases hcell : st1[n]? with
      | none => simp only [hcell] at p1; exact p1.elim
      | some cl =>
        simp only [hcell] at p1
        cases cl with
        | ins c' fs =>
          obtain ⟨hcl, dx, gs, h1, h2⟩ := r1.at hcell ha'
          simp only at p1
          by_cases hcc : c' = c ∧ fs.lookup j = none
          · rw [if_pos hcc] at p1
            obtain ⟨rfl, hno⟩ := hcc
            exact ⟨a, dx, gs, ea, h1, by rw [hx]; exact (RepF.look b.ok.nd hj h2).2 hno, μ1, [.ref n], st1, r1, .one q1, p1⟩
          · rw [if_neg hcc] at p1; exact p1.elim
        | _ => exact p1.elim
    | _ => exact p1.elim
  · obtain ⟨z, H1, I1, rz, a, dx, gs, ez, h1, hno, h2⟩ := hh
    subst ez
    obtain rfl : u = Value.ref a := rz
    refine getmeth_ok I1 h1 (b.ok.cls c hc) hm hno ?_
    exact PySem.W.callWith_K0 (first := [.ref a]) I1.kIn hm.kp (run_S (us := [.ref a]) (vs := [.ref a]) b G hb I1 (.cons rfl .nil) h2)
end
/-! new instances -/
theorem run_make_S {f : Addr} {fd : FuncData} {ps : List Str} {F : Fn} {c : Nat} {pins : List (Addr × Obj)} {σ : L2.St} {H : Hp} {s : Shared} {Q : VK} {us : List Value} {vs : List V} {μ : List Addr} {l : List S} {st : Sto} (b : Bd T X W (k + 1)) (M : Mk X.K (T.clsA X.K c) f) (hc : c < T.cls.length)
    (G : FnS T X.prog X.w X.K X.mg X.base k f fd ps F) (hb : Binds X.K fd ps []) (I : Inv X pins σ H s) (r : Vals vs us) (r0 : RSt T X.K none μ H st) (rl : RepL T X.K μ H l vs)
    (h : PostE T X.K none (fun cl d H' => W cl d σ H') Q μ H ((F (.ref st.length :: l) (st ++ [.ins c []])).bind fun v st' => match v with | .non => .ok (.ref st.length) st' | _ => .bad)) :
    wpAny (model X.prog X.w) X.A (call (.ref (T.clsA X.K c)) us) (EP X pins σ Q) X.xe s := by
  have I2 := Inv.made (C := T.clsA X.K c) I
  have hx : H (s.heap.objs.size + 1) = none := I.hok.fresh (Nat.le_succ _)
  have hdx : H s.heap.objs.size = none := I.hok.fresh (Nat.le_refl _)
  have ra : RSt T X.K none μ (upd H s.heap.objs.size (.own (s.heap.objs.size + 1))) st ∧ Ext X.K μ H μ (upd H s.heap.objs.size (.own (s.heap.objs.size + 1))) := r0.other hdx
  have hx2 : upd H s.heap.objs.size (.own (s.heap.objs.size + 1)) (s.heap.objs.size + 1) = none := by rw [upd_ne (Nat.succ_ne_self _)]; exact hx
  have rb := ra.1.push (c := .ins c []) (o := .ins (T.clsA X.K c) s.heap.objs.size []) hx2 ⟨hc, s.heap.objs.size, [], upd_same, rfl⟩
  have eb := ra.2.trans rb.2
  have hsp : spF T X.K F (.ref (s.heap.objs.size + 1) :: vs) (upd (upd H s.heap.objs.size (.own (s.heap.objs.size + 1))) (s.heap.objs.size + 1) (.ins (T.clsA X.K c) s.heap.objs.size [])) (fun v H2 => v = .non ∧ Q (.ref (s.heap.objs.size + 1)) H2) (WE W σ) := by
    refine ⟨_, .ref st.length :: l, _, rb.1, .cons (push_ref ra.1) (rl.ext eb), ?_⟩
    refine Post.bind (h.ext eb) fun v st' μ' H' u e' r' q' p' => ?_
    cases v with
    | non =>
      refine ⟨q'.non, p' μ' H' _ .refl r' ?_⟩
      obtain ⟨q0, q1, q2⟩ := (push_ref ra.1 (H' := H')).ref
      unfold Rep
      exact ⟨q0, pre_get e'.pre q1, q2⟩
    | _ => exact p'.elim
  have r2 : Vals (V.ref (s.heap.objs.size + 1) :: vs) (Value.ref (s.heap.objs.size + 1) :: us) := .cons rfl r
  have hl : (Value.ref (s.heap.objs.size + 1) :: us).length = ps.length := by
    rw [← r2.length]
    exact spF_len G hsp
  have bd := hb { s with heap := _ } (Value.ref (s.heap.objs.size + 1) :: us) I2.kIn (by rw [List.append_nil]; exact hl)
  rw [List.append_nil] at bd
  refine wpAny_call (make_map (f := f) I.kIn M.makes M.init (beq_iff_eq.mp M.fn) (codeAny_mono (G.run _ X.stack _ _ ⟨Value.ref (s.heap.objs.size + 1) :: us, []⟩ (Value.ref (s.heap.objs.size + 1) :: us) _ _ (WE W σ) (b.rm.make (T.clsA X.K c) us [])
    (I2.env0.make (T.clsA X.K c) us []) bd r2 hsp) fun z s' hq => ?_))
  cases z with
  | error e => exact passAt b.tk σ pins _ _ e s' I2 hq
  | ok fl =>
    cases fl with
    | ret u =>
      obtain ⟨v, H', I3, rv, ev, q3⟩ := I2.after hq
      subst ev
      exact ⟨rv, ⟨V.ref (s.heap.objs.size + 1), H', I3, rfl, q3⟩⟩
    | next => exact False.elim hq
    | brk => exact False.elim hq
    | cont => exact False.elim hq
section
variable {e : Expr} {es : List Expr} {m : AM} {x : Str} {c : Nat} {ps : List Str} {F : Fn} {p pos : Pos}
theorem se_make (b : Bd T X W (k + 1)) (G : GCl T X.prog X.w X.K X.mg X.base k c x ps F) (ha : PA X (e :: es) (rdA T X.K none W m)) (hg : Gl X x := by rfl) (hdb : (x == ("__debug__" : Str)) = false := by decide)
    (he : starEach (e :: es) X.env = (false, eval e X.env) :: starEach es X.env := by rfl) (hpl : (backTo pos (starEach es X.env)).any (·.1) = false := by rfl) : PE X (.Call (.Name x p) (e :: es) [] pos) (rdE T X.K none W (eMake c F m)) := by
  have hlt := G.lt
  obtain ⟨f, fd, G, hm, M, hb⟩ := G.ex
  refine ⟨fun pins s σ H Q I ⟨μ, ρ, st, r0, e0, q⟩ => ?_⟩
  refine wpAny_Call_Name_kw (ld_glob I hg hm ?_ hdb)
  refine PySem.W.callWith_K (h₀ := X.base) I.ok.mod.kin M.kp (thn (ha.run pos pins s σ H (fun vs H1 => ∃ μ l st, RSt T X.K none μ H1 st ∧ RepL T X.K μ H1 l vs ∧
    PostE T X.K none (fun cl d H' => W cl d σ H') Q μ H1 ((F (.ref st.length :: l) (st ++ [.ins c []])).bind fun v st' => match v with | .non => .ok (.ref st.length) st' | _ => .bad)) I
    ⟨μ, ρ, st, r0, e0, Post.bind q fun l st1 μ1 H1 vs e1 r1 q1 p1 => ⟨μ1, l, st1, r1, q1, p1⟩⟩) fun us s1 hh => ?_) he hpl
  obtain ⟨vs, H1, I1, r1, μ1, l, st1, k1, k2, k3⟩ := hh
  exact ⟨I1.kIn, run_make_S b M hlt G hb I1 r1 k1 k2 k3⟩
theorem se_make0 (b : Bd T X W (k + 1)) (G : GCl T X.prog X.w X.K X.mg X.base k c x ps F) (hg : Gl X x := by rfl) (hdb : (x == ("__debug__" : Str)) = false := by decide) : PE X (.Call (.Name x p) [] [] pos) (rdE T X.K none W (eMake c F aNil)) := by
  have hlt := G.lt
  obtain ⟨f, fd, G, hm, M, hb⟩ := G.ex
  refine ⟨fun pins s σ H Q I ⟨μ, ρ, st, r0, e0, q⟩ => ?_⟩
  refine wpAny_Call_Name_kw (ld_glob I hg hm ?_ hdb)
  exact PySem.W.callWith_K0 I.kIn M.kp (run_make_S (us := []) b M hlt G hb I .nil r0 .nil q)
end
end
end Sm

/-! SemBlt: membership, items, slices, built-in functions and methods, f-strings. -/
namespace Sm
open PySem PySem.Spec PyProof.Rows L2
theorem ixN_eq (n : Nat) (i : Int) : Sm.ixN n i = L2.ixN n i := rfl
theorem sIx_eq (n d : Nat) (o : Option Int) : Sm.sIx n d o = HT.sIx n d o := by cases o <;> rfl
section
variable {T : Tab} {X : Cx} {xi : Xi} {W : WX} {k : Nat} {μ : List Addr} {H : Hp} {st : Sto}
theorem RepL.atI {l : List S} {vs : List V} {i : Int} {s : S} (h : RepL T X.K μ H l vs) (e : Sm.atI l i = some s) : ∃ v, L2.atI vs i = some v ∧ Rep T X.K μ H s v := by
  unfold Sm.atI at e
  unfold L2.atI
  rw [← h.len, ← ixN_eq]
  cases q : Sm.ixN l.length i with
  | none => rw [q] at e; cases e
  | some j =>
    rw [q] at e
    exact h.get e
/-! ### in -/
def rMem (K : PySem.W.Frag) (neg : Bool) : R2 := fun x y H Q => ∃ b : Bool, ((∃ (c : Nat) (z : Str), x = .str ⟨#[c]⟩ ∧ y = .str z ∧ decide (c ∈ z.cps.toList) = b) ∨
    (∃ (a : Addr) (xs : List V) (ds : List PyData) (d : PyData), y = .ref a ∧ (SqL K H a xs ∨ SqT K H a xs) ∧ DpAll K H xs ds ∧ Dp K H x d ∧ PyData.canLayAll0 ds = true ∧ d.canLay0 = true ∧ d.depth ≤ 64 ∧ (ds.any fun y => PyData.eqv y d) = b)) ∧ Q (.bl (if neg then !b else b)) H
theorem op_inA (hu : X.A.units + 66 < cLine) : OpR X (compareOp .In) (rMem X.K false) := by
  intro pins s σ H x y v u Q I rx ry h
  obtain ⟨b, h, q⟩ := h
  rcases h with ⟨c, z, ex, ey, eb⟩ | ⟨a, xs, ds, d, ey, hs, hds, hd, h1, h2, h3, h4⟩
  · exact op_in_sign pins s σ H x y v u Q I rx ry ⟨c, z, ex, ey, by rw [eb]; exact q⟩
  · subst ey
    obtain rfl : u = Value.ref a := ry
    obtain ⟨bs, r2⟩ := Dp.reads I d x v hd rx
    have hroom : X.A.units + 1 + min (PyData.depthAll ds) d.depth < cLine := by
      have z : min (PyData.depthAll ds) d.depth ≤ d.depth := Nat.min_le_right _ _
      omega
    rcases hs with hs | hs
    · obtain ⟨as, r1⟩ := Dp.reads I (.list ds) (.ref a) (.ref a) (.lst hs hds) rfl
      exact SeqAt.in_list_reads r1 r2 h1 h2 hroom ⟨.bl b, H, I, by rw [h4]; rfl, q⟩
    · obtain ⟨as, r1⟩ := Dp.reads I (.tuple ds) (.ref a) (.ref a) (.tup hs hds) rfl
      exact SeqAt.in_tuple_reads r1 r2 h1 h2 hroom ⟨.bl b, H, I, by rw [h4]; rfl, q⟩
theorem op_notInA (hu : X.A.units + 66 < cLine) : OpR X (compareOp .NotIn) (rMem X.K true) := by
  intro pins s σ H x y v u Q I rx ry h
  obtain ⟨b, h, q⟩ := h
  rcases h with ⟨c, z, ex, ey, eb⟩ | ⟨a, xs, ds, d, ey, hs, hds, hd, h1, h2, h3, h4⟩
  · exact op_notIn_sign pins s σ H x y v u Q I rx ry ⟨c, z, ex, ey, by rw [eb]; exact q⟩
  · subst ey
    obtain rfl : u = Value.ref a := ry
    obtain ⟨bs, r2⟩ := Dp.reads I d x v hd rx
    have hroom : X.A.units + 1 + min (PyData.depthAll ds) d.depth < cLine := by
      have z : min (PyData.depthAll ds) d.depth ≤ d.depth := Nat.min_le_right _ _
      omega
    rcases hs with hs | hs
    · obtain ⟨as, r1⟩ := Dp.reads I (.list ds) (.ref a) (.ref a) (.lst hs hds) rfl
      exact SeqAt.notIn_list_reads r1 r2 h1 h2 hroom ⟨.bl (!b), H, I, by rw [h4]; rfl, q⟩
    · obtain ⟨as, r1⟩ := Dp.reads I (.tuple ds) (.ref a) (.ref a) (.tup hs hds) rfl
      exact SeqAt.notIn_tuple_reads r1 r2 h1 h2 hroom ⟨.bl (!b), H, I, by rw [h4]; rfl, q⟩
theorem any_dat {x : S} (hx : x.plain = true) : ∀ {l : List S}, S.plainL l = true → ((S.datL l).any fun y => PyData.eqv y x.dat) = l.any fun z => z.eqb x
  | [], _ => rfl
  | y :: l, h => by
    unfold S.plainL at h
    obtain ⟨h1, h2⟩ := Bool.and_eq_true_iff.mp h
    show (PyData.eqv y.dat x.dat || ((S.datL l).any fun y => PyData.eqv y x.dat)) = (y.eqb x || l.any fun z => z.eqb x)
    rw [eqv_dat y x h1 hx, any_dat hx h2]
theorem memV_is {x y : S} {u w : V} {b : Bool} (r0 : RSt T X.K xi μ H st) (q1 : Rep T X.K μ H x u) (q2 : Rep T X.K μ H y w) (e : memV x y st = some b) :
    (∃ (c : Nat) (z : Str), u = .str ⟨#[c]⟩ ∧ w = .str z ∧ decide (c ∈ z.cps.toList) = b) ∨
    (∃ (a : Addr) (xs : List V) (ds : List PyData) (d : PyData), w = .ref a ∧ (SqL X.K H a xs ∨ SqT X.K H a xs) ∧ DpAll X.K H xs ds ∧ Dp X.K H u d ∧ PyData.canLayAll0 ds = true ∧ d.canLay0 = true ∧ d.depth ≤ 64 ∧ (ds.any fun y => PyData.eqv y d) = b) := by
  have seq : ∀ {l : List S} {a : Addr} {vs : List V}, (if x.plain && S.plainL l && decide (x.dep ≤ 60) then some (l.any fun z => z.eqb x) else none) = some b → w = .ref a → (SqL X.K H a vs ∨ SqT X.K H a vs) → RepL T X.K μ H l vs →
      (∃ (a : Addr) (xs : List V) (ds : List PyData) (d : PyData), w = .ref a ∧ (SqL X.K H a xs ∨ SqT X.K H a xs) ∧ DpAll X.K H xs ds ∧ Dp X.K H u d ∧ PyData.canLayAll0 ds = true ∧ d.canLay0 = true ∧ d.depth ≤ 64 ∧ (ds.any fun y => PyData.eqv y d) = b) := by
    intro l a vs e ew hs hl
    split at e
    · rename_i hp
      obtain ⟨h12, h3⟩ := Bool.and_eq_true_iff.mp hp
      obtain ⟨p1, p2⟩ := Bool.and_eq_true_iff.mp h12
      refine ⟨a, vs, S.datL l, x.dat, ew, hs, hl.dp p2, q1.dp p1, can_datL l p2, can_dat x p1, by rw [dep_dat]; have := of_decide_eq_true h3; omega, ?_⟩
      rw [any_dat p1 p2]
      exact Option.some.inj e
    · cases e
  cases y with
  | str t =>
    cases x with
    | str z =>
      have e : (match S.str z with | .str [c] => some (decide (c ∈ t)) | _ => none) = some b := e
      match z, e, q1 with
      | [c], e, q1 => exact .inl ⟨c, tx t, q1.str, q2.str, by rw [← Option.some.inj e]; exact decide_eq_decide.mpr (by simp [tx])⟩
      | [], e, _ => cases e
      | _ :: _ :: _, e, _ => cases e
    | _ => cases e
  | tup l =>
    obtain ⟨a, vs, ea, h1, h2⟩ := q2.tup
    exact .inr (seq e ea (.inr h1) h2)
  | ref n =>
    obtain ⟨a, ha, ea⟩ := q2.ref
    unfold memV at e
    cases hc : st[n]? with
    | none => simp only [hc] at e; cases e
    | some c =>
      simp only [hc] at e
      cases c with
      | lst l =>
        obtain ⟨vs, h1, h2⟩ := r0.at hc ha
        exact .inr (seq e ea (.inl (SqL.of h1)) h2)
      | _ => cases e
  | _ => cases e
theorem inS_does : Does T X.K xi inS (rMem X.K false) := by
  intro Wd μ H st x y u w Q r0 q1 q2 p
  unfold inS at p
  split at p
  · rename_i b e; exact ⟨b, memV_is r0 q1 q2 e, p μ H _ .refl r0 rep_bl⟩
  · exact p.elim
theorem notInS_does : Does T X.K xi notInS (rMem X.K true) := by
  intro Wd μ H st x y u w Q r0 q1 q2 p
  unfold notInS at p
  split at p
  · rename_i b e; exact ⟨b, memV_is r0 q1 q2 e, p μ H _ .refl r0 rep_bl⟩
  · exact p.elim
/-! ### a[i], a[lo:hi] -/
theorem itemS_does : Does T X.K xi itemS (rIx X.K) := by
  intro Wd μ H st x y u w Q r0 q1 q2 p
  cases x with
  | tup l =>
    cases y with
    | int i =>
      have p : PostE T X.K xi Wd Q μ H (match Sm.atI l i with | some v => .ok v st | none => .bad) := p
      split at p
      · rename_i v e
        obtain ⟨a, vs, ea, h1, h2⟩ := q1.tup
        obtain ⟨z, k1, k2⟩ := h2.atI e
        exact .inr (.inl ⟨a, vs, i, z, ea, q2.int, h1, k1, p μ H _ .refl r0 k2⟩)
      · exact p.elim
    | _ => exact p.elim
  | str t =>
    cases y with
    | int i =>
      have p : PostE T X.K xi Wd Q μ H (if t.length ≤ SZ then (match Sm.atI t i with | some c => .ok (.str [c]) st | none => .bad) else .bad) := p
      split at p
      · rename_i hz
        split at p
        · rename_i c e
          refine .inr (.inr ⟨tx t, i, c, q1.str, q2.int, by rw [tx_len, ← SZ_line]; exact hz, ?_, p μ H _ .refl r0 rep_str⟩)
          have e1 : (tx t).cps.toList = t := by simp [tx]
          rw [e1]
          exact e
        · exact p.elim
      · exact p.elim
    | _ => exact p.elim
  | ref n =>
    obtain ⟨a, ha, ea⟩ := q1.ref
    cases hc : st[n]? with
    | none => unfold itemS at p; simp only [hc] at p; exact p.elim
    | some c =>
      unfold itemS at p; simp only [hc] at p
      cases c with
      | lst l =>
        obtain ⟨vs, h1, h2⟩ := r0.at hc ha
        cases y with
        | int i =>
          simp only at p
          split at p
          · rename_i v e
            obtain ⟨z, k1, k2⟩ := h2.atI e
            exact .inl ⟨a, vs, i, z, ea, q2.int, SqL.of h1, k1, p μ H _ .refl r0 k2⟩
          · exact p.elim
        | _ => exact p.elim
      | rol l =>
        obtain ⟨o, vs, h1, h2⟩ := r0.at hc ha
        cases y with
        | int i =>
          simp only at p
          split at p
          · rename_i v e
            obtain ⟨z, k1, k2⟩ := h2.atI e
            exact .inl ⟨a, vs, i, z, ea, q2.int, .inl (.inr ⟨o, h1⟩), k1, p μ H _ .refl r0 k2⟩
          · exact p.elim
        | _ => exact p.elim
      | _ => exact p.elim
  | _ => exact p.elim
theorem se_item {a i : Expr} {ma mi : EM} {pos : Pos} (ha : PE X a (rdE T X.K xi W ma)) (hi : PE X i (rdE T X.K xi W mi)) (hs : PlainIx i := by intro _ _; rfl) : PE X (.Subscript a i pos) (rdE T X.K xi W (eBin itemS ma mi)) :=
  PE.mono (pe_ix ix_seq ha hi hs) (se_bin2 (a := a) (b := i) itemS_does)
def rdO (T : Tab) (K : PySem.W.Frag) (xi : Xi) (W : WX) (m : OM) : TO := fun σ H Q => ∃ μ ρ st, RSt T K xi μ H st ∧ REnv T K μ H ρ σ ∧ Post (β := Option Int) T K xi (fun _ _ (x : Option Int) y => x = y) (fun c d H' => W c d σ H') Q μ H (m ρ st)
theorem PO.mono {X : Cx} {e : Option Expr} {t t' : TO} (h : PO X e t) (i : ∀ σ H Q, t' σ H Q → t σ H Q) : PO X e t' := ⟨fun pins s σ H Q I q => h.run pins s σ H Q I (i σ H Q q)⟩
theorem so_none : PO X none (rdO T X.K xi W oNone) := PO.mono po_none fun σ H Q ⟨μ, ρ, st, r0, e, p⟩ => p μ H none .refl r0 rfl
theorem so_some {e : Expr} {m : EM} (h : PE X e (rdE T X.K xi W m)) : PO X (some e) (rdO T X.K xi W (oSome m)) := by
  refine PO.mono (po_some h) fun σ H Q ⟨μ, ρ, st, r0, e, p⟩ => ⟨μ, ρ, st, r0, e, Post.bind p fun x st1 μ1 H1 u e1 r1 q1 p1 => ?_⟩
  cases x with
  | int i => exact ⟨i, q1.int, p1 μ1 H1 (some i) .refl r1 rfl⟩
  | _ => exact p1.elim
theorem cut_len {α : Type} (l : List α) (lo hi : Option Int) : Sm.cut l lo hi = (l.drop (HT.sIx l.length 0 lo)).take (HT.sIx l.length l.length hi - HT.sIx l.length 0 lo) := by
  unfold Sm.cut
  rw [sIx_eq, sIx_eq]
theorem RepL.cut {l : List S} {vs : List V} (h : RepL T X.K μ H l vs) (lo hi : Option Int) : RepL T X.K μ H (Sm.cut l lo hi) (cutV vs lo hi) := by
  rw [cut_len, h.len]
  exact (h.drop _).take _
theorem tx_cut (t : Tx) (lo hi : Option Int) : cutS (tx t) lo hi = tx (Sm.cut t lo hi) := by
  rw [cut_len]
  unfold cutS
  apply PySem.Str.ext'
  simp [tx, PySem.Str.length]
def rSlAll (K : PySem.W.Frag) : V → Option Int → Option Int → Hp → VK → Prop := fun x lo hi H Q => (rSlS x lo hi H Q ∨ rSlA K x lo hi H Q) ∨ rSlL K x lo hi H Q
theorem sl_all : SlR X (rSlAll X.K) := (sl_str.or sl_tupA).or sl_list
theorem se_slice {a : Expr} {lo hi : Option Expr} {ma : EM} {ml mh : OM} {pos p2 : Pos} (ha : PE X a (rdE T X.K xi W ma)) (hl : PO X lo (rdO T X.K xi W ml)) (hh : PO X hi (rdO T X.K xi W mh)) : PE X (.Subscript a (.Slice lo hi none p2) pos) (rdE T X.K xi W (eSlice ma ml mh)) := by
  refine PE.mono (pe_slice sl_all ha hl hh) fun σ H Q ⟨μ, ρ, st, r0, e, p⟩ => ⟨μ, ρ, st, r0, e, Post.bind p fun x st1 μ1 H1 u e1 r1 q1 p1 => ⟨μ1, ρ, st1, r1, e.ext e1, Post.bind p1 fun l st2 μ2 H2 l' e2 r2 q2 p2 => ⟨μ2, ρ, st2, r2, (e.ext e1).ext e2, Post.bind p2 fun h st3 μ3 H3 h' e3 r3 q3 p3 => ?_⟩⟩⟩
  subst q2 q3
  have q := (q1.ext e2).ext e3
  cases x with
  | str t =>
    have p3 : PostE T X.K xi (fun c d H' => W c d σ H') Q μ3 H3 (if t.length ≤ SZ then .ok (.str (Sm.cut t l h)) st3 else .bad) := p3
    split at p3
    · rename_i hz
      exact .inl (.inl ⟨tx t, q.str, by rw [tx_len, ← SZ_line]; exact hz, by rw [tx_cut]; exact p3 μ3 H3 _ .refl r3 rep_str⟩)
    · exact p3.elim
  | tup t =>
    obtain ⟨a, vs, ea, h1, h2⟩ := q.tup
    have p3 : PostE T X.K xi (fun c d H' => W c d σ H') Q μ3 H3 (.ok (.tup (Sm.cut t l h)) st3) := p3
    refine .inl (.inr ⟨a, vs, ea, h1, fun hw => ?_, fun _ q0 hq => ?_⟩)
    · have hc : Sm.cut t l h = t := by
        rw [cut_len, h2.len, hw.1, hw.2, List.drop_zero, ← h2.len, Nat.sub_zero, List.take_length]
      rw [hc] at p3
      exact p3 μ3 H3 _ .refl r3 (.tup_of h1 h2)
    · obtain ⟨r4, e4⟩ := r3.other (o := .tup (cutV vs l h)) hq
      exact p3 _ _ _ e4 r4 (.tup_of (SqT.of upd_same) ((h2.cut l h).ext e4))
  | ref n =>
    obtain ⟨a, ha, ea⟩ := q.ref
    unfold sliceS at p3
    cases hc : st3[n]? with
    | none => simp only [hc] at p3; exact p3.elim
    | some c =>
      simp only [hc] at p3
      cases c with
      | lst t =>
        obtain ⟨vs, h1, h2⟩ := r3.at hc ha
        refine .inr ⟨a, vs, ea, SqL.of h1, fun q0 hq => ?_⟩
        have en : Ext X.K μ3 H3 (μ3 ++ [q0]) (upd H3 q0 (.lst (cutV vs l h))) := (Ext.of_new hq).push hq
        obtain ⟨r4, e4⟩ := r3.push (c := .lst (Sm.cut t l h)) (o := .lst (cutV vs l h)) hq ⟨_, upd_same, (h2.cut l h).ext en⟩
        exact p3 _ _ _ e4 r4 (push_ref r3)
      | _ => exact p3.elim
  | _ => exact p3.elim
/-! ### built-in functions -/
abbrev DoesF (T : Tab) (K : PySem.W.Frag) (xi : Xi) (f : Fn) (r : List V → Hp → VK → Prop) : Prop := ∀ (Wd : Value → Option Addr → Hp → Prop) μ H st l vs Q, RSt T K xi μ H st → RepL T K μ H l vs → PostE T K xi Wd Q μ H (f l st) → r vs H Q
section
variable {e : Expr} {es : List Expr} {m : AM} {x : Str} {f : Fn} {p pos : Pos} {id : String} {r : List V → Hp → VK → Prop}
theorem se_blt (hc : CallR X (.builtin id) r) (hd : DoesF T X.K xi f r) (hm : X.mg x = none) (hv : bootBuiltins x = some (.builtin id)) (ha : PA X (e :: es) (rdA T X.K xi W m)) (hg : Gl X x := by rfl) (hn : x ≠ "__name__" := by decide) (hdb : (x == ("__debug__" : Str)) = false := by decide)
    (he : starEach (e :: es) X.env = (false, eval e X.env) :: starEach es X.env := by rfl) (hpl : (backTo pos (starEach es X.env)).any (·.1) = false := by rfl) : PE X (.Call (.Name x p) (e :: es) [] pos) (rdE T X.K xi W (eCall f m)) :=
  PE.mono (pe_callB hc hg hm hv ha hn hdb he hpl) fun σ H Q ⟨μ, ρ, st, r0, e, p⟩ => ⟨μ, ρ, st, r0, e, Post.bind p fun l st1 μ1 H1 vs e1 r1 q1 p1 => hd _ μ1 H1 st1 l vs Q r1 q1 p1⟩
theorem se_bltT (hc : CallR X (.type id) r) (hd : DoesF T X.K xi f r) (hm : X.mg x = none) (hv : bootBuiltins x = some (.type id)) (ha : PA X (e :: es) (rdA T X.K xi W m)) (hg : Gl X x := by rfl) (hn : x ≠ "__name__" := by decide) (hdb : (x == ("__debug__" : Str)) = false := by decide)
    (he : starEach (e :: es) X.env = (false, eval e X.env) :: starEach es X.env := by rfl) (hpl : (backTo pos (starEach es X.env)).any (·.1) = false := by rfl) : PE X (.Call (.Name x p) (e :: es) [] pos) (rdE T X.K xi W (eCall f m)) :=
  PE.mono (pe_callTy hc hg hm hv ha hn hdb he hpl) fun σ H Q ⟨μ, ρ, st, r0, e, p⟩ => ⟨μ, ρ, st, r0, e, Post.bind p fun l st1 μ1 H1 vs e1 r1 q1 p1 => hd _ μ1 H1 st1 l vs Q r1 q1 p1⟩
end
theorem RepL.one_of {s : S} {vs : List V} (h : RepL T X.K μ H [s] vs) : ∃ v, vs = [v] ∧ Rep T X.K μ H s v := by
  unfold RepL at h
  obtain ⟨v, r, e, h1, h2⟩ := h
  unfold RepL at h2
  exact ⟨v, by rw [e, h2], h1⟩
theorem RepL.two_of {s t : S} {vs : List V} (h : RepL T X.K μ H [s, t] vs) : ∃ v w, vs = [v, w] ∧ Rep T X.K μ H s v ∧ Rep T X.K μ H t w := by
  unfold RepL at h
  obtain ⟨v, r, e, h1, h2⟩ := h
  obtain ⟨w, e2, h3⟩ := RepL.one_of h2
  exact ⟨v, w, by rw [e, e2], h1, h3⟩
theorem lenF_does : DoesF T X.K xi lenF (fun xs H Q => ∃ x n, xs = [x] ∧ LenV X.K x H n ∧ Q (.int n) H) := by
  intro Wd μ H st l vs Q r0 q p
  match l, q, p with
  | [x], q, p =>
    obtain ⟨v, rfl, h⟩ := q.one_of
    cases x with
    | tup t =>
      obtain ⟨a, ws, rfl, h1, h2⟩ := h.tup
      exact ⟨_, t.length, rfl, .inr ⟨ws, h1, h2.len⟩, p μ H _ .refl r0 rep_int⟩
    | str t =>
      have p : PostE T X.K xi Wd Q μ H (if t.length ≤ SZ then .ok (.int t.length) st else .bad) := p
      split at p
      · rename_i hz
        rw [h.str]
        exact ⟨_, t.length, rfl, ⟨by rw [tx_len, ← SZ_line]; exact hz, by rw [tx_len]⟩, p μ H _ .refl r0 rep_int⟩
      · exact p.elim
    | ref n =>
      obtain ⟨a, ha, rfl⟩ := h.ref
      unfold lenF at p
      cases hc : st[n]? with
      | none => simp only [hc] at p; exact p.elim
      | some c =>
        simp only [hc] at p
        cases c with
        | lst t =>
          obtain ⟨ws, h1, h2⟩ := r0.at hc ha
          exact ⟨_, t.length, rfl, .inl ⟨ws, SqL.of h1, h2.len⟩, p μ H _ .refl r0 rep_int⟩
        | rol t =>
          obtain ⟨o, ws, h1, h2⟩ := r0.at hc ha
          exact ⟨_, t.length, rfl, .inl ⟨ws, .inl (.inr ⟨o, h1⟩), h2.len⟩, p μ H _ .refl r0 rep_int⟩
        | _ => exact p.elim
    | _ => exact p.elim
  | [], _, p => exact p.elim
  | x :: y :: r, _, p => cases x <;> exact p.elim
theorem intF_does : DoesF T X.K xi intF (fun xs H Q => (∃ i, xs = [.int i] ∧ Q (.int i) H) ∨ ∃ k, xs = [.bl k] ∧ Q (.int (if k then 1 else 0)) H) := by
  intro Wd μ H st l vs Q r0 q p
  match l, q, p with
  | [.int i], q, p =>
    obtain ⟨v, rfl, h⟩ := q.one_of
    exact .inl ⟨i, by rw [h.int], p μ H _ .refl r0 rep_int⟩
  | [.bl b], q, p =>
    obtain ⟨v, rfl, h⟩ := q.one_of
    exact .inr ⟨b, by rw [h.bl], p μ H _ .refl r0 rep_int⟩
  | [.non], _, p => exact p.elim
  | [.str _], _, p => exact p.elim
  | [.tup _], _, p => exact p.elim
  | [.ref _], _, p => exact p.elim
  | [.fn _], _, p => exact p.elim
  | [.cst _], _, p => exact p.elim
  | [], _, p => exact p.elim
  | x :: y :: r, _, p => cases x <;> exact p.elim
theorem max2F_does : DoesF T X.K xi max2F (fun xs H Q => ∃ i j, xs = [.int i, .int j] ∧ Q (.int (if j > i then j else i)) H) := by
  intro Wd μ H st l vs Q r0 q p
  unfold max2F at p
  split at p
  · rename_i i j
    obtain ⟨v, w, rfl, h1, h2⟩ := q.two_of
    exact ⟨i, j, by rw [h1.int, h2.int], p μ H _ .refl r0 rep_int⟩
  · exact p.elim
theorem tupleF_does : DoesF T X.K xi tupleF (fun xs H Q => ∃ p ys, xs = [.ref p] ∧ ((SqL X.K H p ys ∧ ∀ l, H l = none → Q (.ref l) (upd H l (.tup ys))) ∨ (SqT X.K H p ys ∧ Q (.ref p) H))) := by
  intro Wd μ H st l vs Q r0 q p
  unfold tupleF at p
  split at p
  · rename_i t
    obtain ⟨v, rfl, h⟩ := q.one_of
    obtain ⟨a, ws, rfl, h1, h2⟩ := h.tup
    exact ⟨a, ws, rfl, .inr ⟨h1, p μ H _ .refl r0 (.tup_of h1 h2)⟩⟩
  · rename_i n
    obtain ⟨v, rfl, h⟩ := q.one_of
    obtain ⟨a, ha, rfl⟩ := h.ref
    split at p
    · rename_i t hc
      obtain ⟨ws, h1, h2⟩ := r0.at hc ha
      refine ⟨a, ws, rfl, .inl ⟨SqL.of h1, fun q0 hq => ?_⟩⟩
      obtain ⟨r4, e4⟩ := r0.other (o := .tup ws) hq
      exact p _ _ _ e4 r4 (.tup_of (SqT.of upd_same) (h2.ext e4))
    · exact p.elim
  · exact p.elim
theorem listF_does : DoesF T X.K xi listF (fun xs H Q => ∃ p ys, xs = [.ref p] ∧ (SqL X.K H p ys ∨ SqT X.K H p ys) ∧ ∀ l, H l = none → Q (.ref l) (upd H l (.lst ys))) := by
  intro Wd μ H st l vs Q r0 q p
  unfold listF at p
  split at p
  · rename_i t
    obtain ⟨v, rfl, h⟩ := q.one_of
    obtain ⟨a, ws, rfl, h1, h2⟩ := h.tup
    refine ⟨a, ws, rfl, .inr h1, fun q0 hq => ?_⟩
    have en : Ext X.K μ H (μ ++ [q0]) (upd H q0 (.lst ws)) := (Ext.of_new hq).push hq
    obtain ⟨r4, e4⟩ := r0.push (c := .lst t) (o := .lst ws) hq ⟨_, upd_same, h2.ext en⟩
    exact p _ _ _ e4 r4 (push_ref r0)
  · rename_i n
    obtain ⟨v, rfl, h⟩ := q.one_of
    obtain ⟨a, ha, rfl⟩ := h.ref
    split at p
    · rename_i t hc
      obtain ⟨ws, h1, h2⟩ := r0.at hc ha
      refine ⟨a, ws, rfl, .inl (SqL.of h1), fun q0 hq => ?_⟩
      have en : Ext X.K μ H (μ ++ [q0]) (upd H q0 (.lst ws)) := (Ext.of_new hq).push hq
      obtain ⟨r4, e4⟩ := r0.push (c := .lst t) (o := .lst ws) hq ⟨_, upd_same, h2.ext en⟩
      exact p _ _ _ e4 r4 (push_ref r0)
    · exact p.elim
  · exact p.elim
/-! ### methods of lists -/
section
variable {o e : Expr} {es : List Expr} {mo : EM} {m : AM} {f : Fn} {name : Str} {apos cpos : Pos} {Ty id : String} {r : V → List V → Hp → VK → Prop}
abbrev KindOf (T : Tab) (K : PySem.W.Frag) (xi : Xi) (ok : S → Sto → Bool) (Ty : String) : Prop := ∀ μ H st x u, RSt T K xi μ H st → Rep T K μ H x u → ok x st = true → tyV K Ty u H
theorem kind_lst : KindOf T X.K xi isLst "list" := by
  intro μ H st x u r0 q h
  cases x with
  | ref n =>
    obtain ⟨a, ha, rfl⟩ := q.ref
    unfold isLst at h
    cases hc : st[n]? with
    | none => simp only [hc] at h; cases h
    | some c =>
      simp only [hc] at h
      cases c with
      | lst t =>
        obtain ⟨ws, h1, h2⟩ := r0.at hc ha
        exact Or.inl ⟨rfl, _, SqL.of h1⟩
      | _ => cases h
  | _ => cases h
theorem kind_str : KindOf T X.K xi isStr "str" := by
  intro μ H st x u r0 q h
  cases x with
  | str t => rw [q.str]; exact rfl
  | _ => cases h
abbrev DoesM (T : Tab) (K : PySem.W.Frag) (xi : Xi) (f : Fn) (r : V → List V → Hp → VK → Prop) : Prop := ∀ (Wd : Value → Option Addr → Hp → Prop) μ H st x l u us Q, RSt T K xi μ H st → Rep T K μ H x u → RepL T K μ H l us → PostE T K xi Wd Q μ H (f (x :: l) st) → r u us H Q
theorem se_bm0 {ok : S → Sto → Bool} (pa : PlainAttrs Ty) (slot : Slot Ty name id) (hty : typeOf (.builtin id) = pure (.type "method_descriptor")) (hm : MtR X id r) (hd : DoesM T X.K xi f r) (hk : KindOf T X.K xi ok Ty) (ho : PE X o (rdE T X.K xi W mo))
    (hbase : attributeBase o name X.env (eval o X.env) = eval o X.env := by rfl) (hline : (apos.endLine == cpos.line) = true := by rfl) : PE X (.Call (.Attribute o name apos) [] [] cpos) (rdE T X.K xi W (eBm ok f mo aNil)) := by
  refine PE.mono (pe_bm0 pa slot hty hm ho hbase hline) fun σ H Q ⟨μ, ρ, st, r0, e, p⟩ => ⟨μ, ρ, st, r0, e, Post.bind p fun x st1 μ1 H1 u e1 r1 q1 p1 => ?_⟩
  by_cases ht : ok x st1 = true
  · rw [if_pos ht] at p1
    exact ⟨hk μ1 H1 st1 x u r1 q1 ht, hd _ μ1 H1 st1 x [] u [] Q r1 q1 .nil p1⟩
  · rw [if_neg ht] at p1; exact p1.elim
theorem se_bm {ok : S → Sto → Bool} (pa : PlainAttrs Ty) (slot : Slot Ty name id) (hty : typeOf (.builtin id) = pure (.type "method_descriptor")) (hm : MtR X id r) (hd : DoesM T X.K xi f r) (hk : KindOf T X.K xi ok Ty) (ho : PE X o (rdE T X.K xi W mo)) (ha : PA X (e :: es) (rdA T X.K xi W m))
    (hbase : attributeBase o name X.env (eval o X.env) = eval o X.env := by rfl)
    (hfew : ((backTo cpos (starEach (e :: es) X.env)).all (fun x => !x.1) && (backToKw cpos (keywordEach [] X.env)).all (fun x => x.1.isSome)
      && decide ((e :: es).length + ([] : List Keyword).length + (if ([] : List Keyword).isEmpty then 0 else 1) < 30)) = true := by rfl)
    (hline : (apos.endLine == cpos.line) = true := by rfl) (hs : starEach (e :: es) X.env = (false, eval e X.env) :: starEach es X.env := by rfl) (hplain : (backTo cpos (starEach es X.env)).any (·.1) = false := by rfl) :
    PE X (.Call (.Attribute o name apos) (e :: es) [] cpos) (rdE T X.K xi W (eBm ok f mo m)) := by
  refine PE.mono (pe_bm pa slot hty hm ho ha hbase hfew hline hs hplain) fun σ H Q ⟨μ, ρ, st, r0, e, p⟩ => ⟨μ, ρ, st, r0, e, Post.bind p fun x st1 μ1 H1 u e1 r1 q1 p1 => ?_⟩
  by_cases ht : ok x st1 = true
  · rw [if_pos ht] at p1
    exact ⟨hk μ1 H1 st1 x u r1 q1 ht, μ1, ρ, st1, r1, e.ext e1, Post.bind p1 fun l st2 μ2 H2 us e2 r2 q2 p2 => hd _ μ2 H2 st2 x l u us Q r2 (q1.ext e2) q2 p2⟩
  · rw [if_neg ht] at p1; exact p1.elim
end
theorem appendF_does : DoesM T X.K xi appendF rAppend := by
  intro Wd μ H st x l u us Q r0 q ql p
  unfold appendF at p
  split at p
  · rename_i n y heq
    injection heq with h1 h2
    subst h1 h2
    obtain ⟨v, rfl, h⟩ := ql.one_of
    obtain ⟨a, ha, rfl⟩ := q.ref
    split at p
    · rename_i t hc
      split at p
      · rename_i hz
        obtain ⟨ws, k1, k2⟩ := r0.at hc ha
        refine ⟨a, ws, v, rfl, rfl, k1, by rw [← k2.len, ← SZ_line]; exact hz, ?_⟩
        have nt := (r0.at hc ha).notTup rfl
        have en : Ext X.K μ H μ (upd H a (.lst (ws ++ [v]))) := Ext.of_upd ⟨nt.1, nt.2.1⟩ (.inl (mem_get (by assumption)))
        obtain ⟨r4, e4⟩ := r0.put (c' := .lst (t ++ [y])) (o := .lst (ws ++ [v])) ha hc ⟨_, upd_same, (k2.append (.one h)).ext en⟩
        exact p _ _ _ e4 r4 rep_non
      · exact p.elim
    · exact p.elim
  · exact p.elim
theorem popF_does : DoesM T X.K xi popF rPop := by
  intro Wd μ H st x l u us Q r0 q ql p
  unfold popF at p
  split at p
  · rename_i n heq
    injection heq with h1 h2
    subst h1 h2
    have eus : us = [] := by unfold RepL at ql; exact ql
    obtain ⟨a, ha, rfl⟩ := q.ref
    split at p
    · rename_i t hc
      split at p
      · rename_i y hy
        obtain ⟨ws, k1, k2⟩ := r0.at hc ha
        obtain ⟨v, hv, rv⟩ := k2.get hy
        refine ⟨a, ws, v, rfl, eus, k1, by rw [← k2.len]; exact hv, ?_⟩
        have nt := (r0.at hc ha).notTup rfl
        have en : Ext X.K μ H μ (upd H a (.lst ws.dropLast)) := Ext.of_upd ⟨nt.1, nt.2.1⟩ (.inl (mem_get (by assumption)))
        obtain ⟨r4, e4⟩ := r0.put (c' := .lst t.dropLast) (o := .lst ws.dropLast) ha hc ⟨_, upd_same, k2.dropLast.ext en⟩
        exact p _ _ _ e4 r4 (rv.ext e4)
      · exact p.elim
    · exact p.elim
  · exact p.elim
end
end Sm

/-! SemStmt: the rules of statements. -/
namespace Sm
open PySem PySem.Spec PyProof.Rows L2
theorem REnv.put {T : Tab} {K : PySem.W.Frag} {μ : List Addr} {H : Hp} {ρ : Env} {σ : L2.St} (h : REnv T K μ H ρ σ) (i : Nat) {s : S} {v : V} (r : Rep T K μ H s v) : REnv T K μ H (ρ.set i (some s)) (σ.set i (some v)) := by
  refine ⟨by rw [List.length_set, List.length_set]; exact h.1, fun j t q => ?_⟩
  by_cases hj : j = i
  · subst hj
    have hl : j < ρ.length := by
      have z := (List.getElem?_eq_some_iff.mp q).1
      rw [List.length_set] at z
      exact z
    rw [List.getElem?_set_self hl] at q
    have e : s = t := Option.some.inj (Option.some.inj q)
    subst e
    exact ⟨v, by rw [List.getElem?_set_self (by rw [← h.1]; exact hl)], r⟩
  · rw [List.getElem?_set_ne (Ne.symm hj)] at q
    obtain ⟨w, h1, h2⟩ := h.2 j t q
    exact ⟨w, by rw [List.getElem?_set_ne (Ne.symm hj)]; exact h1, h2⟩
theorem REnv.gone {T : Tab} {K : PySem.W.Frag} {μ : List Addr} {H : Hp} {ρ : Env} {σ : L2.St} (h : REnv T K μ H ρ σ) (i : Nat) : REnv T K μ H (ρ.set i none) (σ.set i none) := by
  refine ⟨by rw [List.length_set, List.length_set]; exact h.1, fun j t q => ?_⟩
  by_cases hj : j = i
  · subst hj
    by_cases hl : j < ρ.length
    · rw [List.getElem?_set_self hl] at q
      cases q
    · rw [List.getElem?_eq_none (by rw [List.length_set]; omega)] at q
      cases q
  · rw [List.getElem?_set_ne (Ne.symm hj)] at q
    obtain ⟨w, h1, h2⟩ := h.2 j t q
    exact ⟨w, by rw [List.getElem?_set_ne (Ne.symm hj)]; exact h1, h2⟩
section
variable {T : Tab} {X : Cx} {xi : Xi} {W : WX} {k : Nat}
section
variable {st : Stmt} {rest : List Stmt} {m n : SM} {e : Expr} {me : EM} {pos : Pos}
theorem ss_nil : PSs X [] (rdS T X.K xi W sNext) := PSs.mono pss_nil fun D σ H ⟨μ, ρ, s0, r0, e, p⟩ => p μ H σ .refl r0 e
theorem ss_cons (h1 : PS X st (rdS T X.K xi W m)) (h2 : PSs X rest (rdS T X.K xi W n)) : PSs X (st :: rest) (rdS T X.K xi W (sSeq m n)) := by
  refine PSs.mono (pss_cons h1 h2) fun D σ H ⟨μ, ρ, s0, r0, e, p⟩ => ⟨μ, ρ, s0, r0, e, ?_⟩
  unfold sSeq at p
  cases hm : m ρ s0 with
  | nx ρ' s' => rw [hm] at p; exact fun μ' H' σ' e1 r1 q1 => ⟨μ', ρ', s', r1, q1, p.ext e1⟩
  | rt v s' => rw [hm] at p; exact p
  | bk ρ' s' => rw [hm] at p; exact p
  | ct ρ' s' => rw [hm] at p; exact p
  | exc x ρ' s' => rw [hm] at p; exact p
  | bad => rw [hm] at p; exact p
theorem ss_one (h1 : PS X st (rdS T X.K xi W m)) : PSs X [st] (rdS T X.K xi W m) := pss_one h1
theorem ss_pass : PS X (.Pass pos) (rdS T X.K xi W sNext) := PS.mono ps_pass fun D σ H ⟨μ, ρ, s0, r0, e, p⟩ => p μ H σ .refl r0 e
theorem ss_break : PS X (.Break pos) (rdS T X.K xi W sBreak) := PS.mono ps_break fun D σ H ⟨μ, ρ, s0, r0, e, p⟩ => p μ H σ .refl r0 e
theorem ss_continue : PS X (.Continue pos) (rdS T X.K xi W sCont) := PS.mono ps_continue fun D σ H ⟨μ, ρ, s0, r0, e, p⟩ => p μ H σ .refl r0 e
theorem ss_expr (h : PE X e (rdE T X.K xi W me)) (hs : swapsWith e none pos.line X.env = pure false := by rfl) : PS X (.Expr e pos) (rdS T X.K xi W (sExpr me)) :=
  PS.mono (ps_expr h hs) fun D σ H ⟨μ, ρ, s0, r0, e, p⟩ => ⟨μ, ρ, s0, r0, e, Post.bindS e p fun x s1 μ1 H1 u e1 r1 q1 p1 => p1 μ1 H1 σ .refl r1 (e.ext e1)⟩
theorem ss_ret (h : PE X e (rdE T X.K xi W me)) : PS X (.Return (some e) pos) (rdS T X.K xi W (sRet me)) :=
  PS.mono (ps_ret h) fun D σ H ⟨μ, ρ, s0, r0, e, p⟩ => ⟨μ, ρ, s0, r0, e, Post.bindS e p fun x s1 μ1 H1 u e1 r1 q1 p1 => p1 μ1 H1 u .refl r1 q1⟩
theorem ss_retN : PS X (.Return none pos) (rdS T X.K xi W sRetN) := PS.mono ps_retN fun D σ H ⟨μ, ρ, s0, r0, e, p⟩ => p μ H .non .refl r0 rep_non
theorem ss_if {c : Expr} {a b : List Stmt} {mc : TM} (hc : PT X c (rdT T X.K xi W mc)) (ha : PSs X a (rdS T X.K xi W m)) (hb : PSs X b (rdS T X.K xi W n)) : PS X (.If c a b pos) (rdS T X.K xi W (sIf mc m n)) := by
  refine PS.mono (ps_if hc ha hb) fun D σ H ⟨μ, ρ, s0, r0, e, p⟩ => ⟨μ, ρ, s0, r0, e, Post.bindS e p fun x s1 μ1 H1 u e1 r1 q1 p1 => ?_⟩
  subst q1
  cases x with
  | true => exact ⟨μ1, ρ, s1, r1, e.ext e1, p1⟩
  | false => exact ⟨μ1, ρ, s1, r1, e.ext e1, p1⟩
theorem ss_set {x : Str} {pos' : Pos} (i : Nat) (h : PE X e (rdE T X.K xi W me)) (hN : X.N.Nodup) (hi : X.N[i]? = some x := by rfl) (hx : Loc X.env.scope x := by first | exact Or.inl rfl | exact Or.inr rfl) (hs : swapsWith e (some (.Name x pos')) pos.line X.env = pure false := by rfl)
    (hf : X.fn x = true ∨ X.env.scope.names.lookup x = some .local := by first | exact .inl rfl | exact .inr rfl) : PS X (.Assign [.Name x pos'] e pos) (rdS T X.K xi W (sAsg me (Sm.gName i))) :=
  PS.mono (ps_set hN hi hx h hs hf) fun D σ H ⟨μ, ρ, s0, r0, e, p⟩ => ⟨μ, ρ, s0, r0, e, Post.bindS e p fun x s1 μ1 H1 u e1 r1 q1 p1 => p1 μ1 H1 _ .refl r1 ((e.ext e1).put i q1)⟩
end
/-! ### targets -/
def rdG (T : Tab) (K : PySem.W.Frag) (xi : Xi) (g : GM) : TG := fun v σ H Q => ∃ μ ρ st s, RSt T K xi μ H st ∧ REnv T K μ H ρ σ ∧ Rep T K μ H s v ∧ (match g s ρ st with
  | .nx ρ' st' => ∀ μ' H' σ', Ext K μ H μ' H' → RSt T K xi μ' H' st' → REnv T K μ' H' ρ' σ' → Q σ' H'
  | _ => False)
def rdGs (T : Tab) (K : PySem.W.Frag) (xi : Xi) (gs : List GM) : TGs := fun vs σ H Q => ∃ μ ρ st l, RSt T K xi μ H st ∧ REnv T K μ H ρ σ ∧ RepL T K μ H l vs ∧ (match gTupL gs l ρ st with
  | .nx ρ' st' => ∀ μ' H' σ', Ext K μ H μ' H' → RSt T K xi μ' H' st' → REnv T K μ' H' ρ' σ' → Q σ' H'
  | _ => False)
theorem PG.mono {X : Cx} {e : Expr} {t t' : TG} (h : PG X e t) (i : ∀ v σ H Q, t' v σ H Q → t v σ H Q) : PG X e t' := ⟨fun pins s σ H v u Q I r q => h.run pins s σ H v u Q I r (i v σ H Q q)⟩
theorem PGs.mono {X : Cx} {es : List Expr} {t t' : TGs} (h : PGs X es t) (i : ∀ v σ H Q, t' v σ H Q → t v σ H Q) : PGs X es t' := ⟨fun pins s σ H v u Q I r q => h.run pins s σ H v u Q I r (i v σ H Q q)⟩
section
variable {x : Str} {pos : Pos}
theorem sg_name (i : Nat) (hN : X.N.Nodup) (hi : X.N[i]? = some x := by rfl) (hx : Loc X.env.scope x := by first | exact Or.inl rfl | exact Or.inr rfl) (hf : X.fn x = true ∨ X.env.scope.names.lookup x = some .local := by first | exact .inl rfl | exact .inr rfl) : PG X (.Name x pos) (rdG T X.K xi (Sm.gName i)) :=
  PG.mono (pg_name hN hi hx hf) fun v σ H Q ⟨μ, ρ, st, s, r0, e, q, p⟩ => p μ H _ .refl r0 (e.put i q)
theorem sgs_nil : PGs X [] (rdGs T X.K xi []) := PGs.mono pgs_nil fun vs σ H Q ⟨μ, ρ, st, l, r0, e, q, p⟩ => by
  cases l with
  | nil =>
    have ev : vs = [] := by unfold RepL at q; exact q
    exact ⟨ev, p μ H σ .refl r0 e⟩
  | cons s l => exact False.elim p
theorem sgs_cons {e : Expr} {es : List Expr} {g : GM} {gs : List GM} (h1 : PG X e (rdG T X.K xi g)) (h2 : PGs X es (rdGs T X.K xi gs)) (hs : (assignEach (e :: es) X.env).map (·.2) = assign e X.env :: (assignEach es X.env).map (·.2) := by rfl) : PGs X (e :: es) (rdGs T X.K xi (g :: gs)) := by
  refine PGs.mono (pgs_cons h1 h2 hs) fun vs σ H Q ⟨μ, ρ, st, l, r0, e0, q, p⟩ => ?_
  cases l with
  | nil => exact False.elim p
  | cons s l =>
    unfold RepL at q
    obtain ⟨v, r, ev, q1, q2⟩ := q
    refine ⟨v, r, ev, μ, ρ, st, s, r0, e0, q1, ?_⟩
    have p : (match (match g s ρ st with | .nx ρ st => gTupL gs l ρ st | r => r) with
      | .nx ρ' st' => ∀ μ' H' σ', Ext X.K μ H μ' H' → RSt T X.K xi μ' H' st' → REnv T X.K μ' H' ρ' σ' → Q σ' H'
      | _ => False) := p
    cases hg : g s ρ st with
    | nx ρ1 st1 =>
      rw [hg] at p
      simp only at p ⊢
      intro μ1 H1 σ1 e1 r1 w1
      refine ⟨μ1, ρ1, st1, l, r1, w1, q2.ext e1, ?_⟩
      cases hg2 : gTupL gs l ρ1 st1 with
      | nx ρ2 st2 => rw [hg2] at p; exact fun μ2 H2 σ2 e2 => p μ2 H2 σ2 (e1.trans e2)
      | _ => rw [hg2] at p; exact p.elim
    | _ => rw [hg] at p; exact p.elim
theorem sg_tup {es : List Expr} {gs : List GM} {n : Nat} (hc : X.calm = true) (h : PGs X es (rdGs T X.K xi gs)) (hl : es.length = gs.length := by rfl) (hn : (assignEach es X.env).length = es.length := by rfl) (hst : (assignEach es X.env).findIdx? (·.1) = none := by rfl) : PG X (.Tuple es n pos) (rdG T X.K xi (Sm.gTup gs)) := by
  refine PG.mono (pg_tup (n := es.length) hc h hn hst) fun v σ H Q ⟨μ, ρ, st, s, r0, e, q, p⟩ => ?_
  cases s with
  | tup l =>
    obtain ⟨a, vs, ea, h1, h2⟩ := q.tup
    have p : (match (if l.length = gs.length then gTupL gs l ρ st else .bad) with
      | .nx ρ' st' => ∀ μ' H' σ', Ext X.K μ H μ' H' → RSt T X.K xi μ' H' st' → REnv T X.K μ' H' ρ' σ' → Q σ' H'
      | _ => False) := p
    by_cases hz : l.length = gs.length
    · rw [if_pos hz] at p
      exact ⟨a, vs, ea, h1, by rw [← h2.len, hz, hl], μ, ρ, st, l, r0, e, h2, p⟩
    · rw [if_neg hz] at p; exact p.elim
  | _ => exact False.elim p
end
section
variable {e o i tg : Expr} {me mo mi : EM} {g : GM} {pos pos' tpos : Pos}
/-- target = value -/
theorem ss_asg (he : PE X e (rdE T X.K xi W me)) (hg : PG X tg (rdG T X.K xi g)) (hnx : ∀ s ρ st, match g s ρ st with | .nx _ _ => True | .bad => True | _ => False) (hs : swapsWithSole [tg] e pos.line X.env = pure false := by rfl) (hw : swappedStores [tg] e X.env = pure none := by rfl)
    (h1 : (assignEach [tg] X.env).map (·.2) = [assign tg X.env] := by rfl) : PS X (.Assign [tg] e pos) (rdS T X.K xi W (sAsg me g)) := by
  refine PS.mono (ps_asg he hg hs hw h1) fun D σ H ⟨μ, ρ, s0, r0, e, p⟩ => ⟨μ, ρ, s0, r0, e, Post.bindS e p fun x s1 μ1 H1 u e1 r1 q1 p1 => ⟨μ1, ρ, s1, x, r1, e.ext e1, q1, ?_⟩⟩
  have z := hnx x ρ s1
  cases hg : g x ρ s1 with
  | nx ρ' st' => rw [hg] at p1; exact p1
  | bad => rw [hg] at p1; exact p1.elim
  | rt v st => rw [hg] at z; exact z.elim
  | bk v st => rw [hg] at z; exact z.elim
  | ct v st => rw [hg] at z; exact z.elim
  | exc a v st => rw [hg] at z; exact z.elim
theorem gName_nx (i : Nat) : ∀ s ρ st, match Sm.gName i s ρ st with | .nx _ _ => True | .bad => True | _ => False := fun _ _ _ => trivial
theorem gTupL_nx : ∀ {gs : List GM}, (∀ g ∈ gs, ∀ s ρ st, match g s ρ st with | .nx _ _ => True | .bad => True | _ => False) → ∀ l ρ st, match gTupL gs l ρ st with | .nx _ _ => True | .bad => True | _ => False
  | [], _, l, ρ, st => by cases l <;> trivial
  | g :: gs, h, l, ρ, st => by
    cases l with
    | nil => trivial
    | cons v l =>
      have z := h g List.mem_cons_self v ρ st
      show match (match g v ρ st with | .nx ρ st => gTupL gs l ρ st | r => r) with | .nx _ _ => True | .bad => True | _ => False
      cases hg : g v ρ st with
      | nx ρ1 st1 => exact gTupL_nx (fun g' hg' => h g' (List.mem_cons_of_mem _ hg')) l ρ1 st1
      | bad => trivial
      | rt v st => rw [hg] at z; exact z.elim
      | bk v st => rw [hg] at z; exact z.elim
      | ct v st => rw [hg] at z; exact z.elim
      | exc a v st => rw [hg] at z; exact z.elim
theorem gTup_nx {gs : List GM} (h : ∀ g ∈ gs, ∀ s ρ st, match g s ρ st with | .nx _ _ => True | .bad => True | _ => False) : ∀ s ρ st, match Sm.gTup gs s ρ st with | .nx _ _ => True | .bad => True | _ => False := fun s ρ st => by
  cases s with
  | tup l =>
    by_cases hz : l.length = gs.length
    · have e : Sm.gTup gs (.tup l) ρ st = gTupL gs l ρ st := if_pos hz
      rw [e]
      exact gTupL_nx h l ρ st
    · have e : Sm.gTup gs (.tup l) ρ st = .bad := if_neg hz
      rw [e]
      trivial
  | _ => trivial
/-- o.f = value -/
theorem ss_fld {f : Str} (b : Bd T X W k) (j : Nat) (ho : PE X o (rdE T X.K xi W mo)) (he : PE X e (rdE T X.K xi W me)) (hf : f = T.fld j := by rfl) (hj : j < T.flds.length := by decide) (hs : swapsWith e (some (.Attribute o f pos')) pos.line X.env = pure false := by rfl) :
    PS X (.Assign [.Attribute o f pos'] e pos) (rdS T X.K xi W (Sm.sFld T.ms j mo me)) := by
  subst hf
  refine PS.mono (ps_fld ho he hs) fun D σ H ⟨μ, ρ, s0, r0, e, p⟩ => ⟨μ, ρ, s0, r0, e, Post.bindS e p fun y s1 μ1 H1 v e1 r1 q1 p1 => ⟨μ1, ρ, s1, r1, e.ext e1, Post.bindS (e.ext e1) p1 fun x s2 μ2 H2 u e2 r2 q2 p2 => ?_⟩⟩
  cases x with
  | ref n =>
    obtain ⟨a, ha, ea⟩ := q2.ref
    cases hc : s2[n]? with
    | none => simp only [hc] at p2; exact p2.elim
    | some c =>
      simp only [hc] at p2
      cases c with
      | ins c fs =>
        obtain ⟨hcl, dx, gs, h1, h2⟩ := r2.at hc ha
        simp only at p2
        by_cases hm : j ∉ T.ms c ∧ fs.length < 1000
        · rw [if_pos hm] at p2
          refine ⟨a, _, dx, gs, ea, h1, b.ok.cls c hcl, b.ok.noat c j hcl hj hm.1, by rw [← h2.len]; exact hm.2, ?_⟩
          have nt := (r2.at hc ha).notTup rfl
          have en : Ext X.K μ2 H2 μ2 (upd H2 a (.ins (T.clsA X.K c) dx (putF (T.fld j) v gs))) := Ext.of_upd ⟨nt.1, nt.2.1⟩ (.inl (mem_get (by assumption)))
          obtain ⟨r4, e4⟩ := r2.put (c' := .ins c (Sm.putK j y fs)) (o := .ins (T.clsA X.K c) dx (putF (T.fld j) v gs)) ha hc ⟨hcl, dx, _, upd_same, (RepF.put (X := X) b.ok.nd hj (q1.ext e2) h2).ext en⟩
          exact p2 _ _ σ e4 r4 (((e.ext e1).ext e2).ext e4)
        · rw [if_neg hm] at p2; exact p2.elim
      | _ => exact p2.elim
  | _ => exact p2.elim
abbrev DoesI (T : Tab) (K : PySem.W.Frag) (xi : Xi) (f : F2) (r : V → V → Hp → VK → Prop) : Prop := Does T K xi f r
/-- o.f op= value -/
theorem ss_fldAug {f : Str} {op : Operator} {fo : F2} {rd : V → V → Hp → VK → Prop} (b : Bd T X W k) (j : Nat) (hop : InOp X op rd) (hd : Does T X.K xi fo rd) (ho : PE X o (rdE T X.K xi W mo)) (he : PE X e (rdE T X.K xi W me)) (hf : f = T.fld j := by rfl) (hj : j < T.flds.length := by decide) :
    PS X (.AugAssign (.Attribute o f tpos) op e pos) (rdS T X.K xi W (Sm.sFldAug T.ms j fo mo me)) := by
  subst hf
  refine PS.mono (ps_fldaug ho he hop) fun D σ H ⟨μ, ρ, s0, r0, e, p⟩ => ⟨μ, ρ, s0, r0, e, Post.bindS e p fun x s1 μ1 H1 u e1 r1 q1 p1 => ?_⟩
  cases x with
  | ref n =>
    obtain ⟨a, ha, ea⟩ := q1.ref
    cases hc : s1[n]? with
    | none => simp only [hc] at p1; exact p1.elim
    | some c =>
      simp only [hc] at p1
      cases c with
      | ins c fs =>
        obtain ⟨hcl, dx, gs, h1, h2⟩ := r1.at hc ha
        simp only at p1
        by_cases hm : j ∈ T.ms c
        · rw [if_pos hm] at p1; exact p1.elim
        · rw [if_neg hm] at p1
          cases hl : fs.lookup j with
          | none => rw [hl] at p1; exact p1.elim
          | some v =>
            rw [hl] at p1
            obtain ⟨w, k1, k2⟩ := (RepF.look (X := X) b.ok.nd hj h2).1 v hl
            refine ⟨a, _, dx, gs, w, ea, h1, b.ok.cls c hcl, b.ok.noat c j hcl hj hm, k1, μ1, ρ, s1, r1, e.ext e1, Post.bindS (e.ext e1) p1 fun y s2 μ2 H2 z e2 r2 q2 p2 => ?_⟩
            refine hd (fun c d H' => W c d σ H') μ2 H2 s2 v y w z _ r2 (k2.ext e2) q2 (Post.bindS ((e.ext e1).ext e2) p2 fun t s3 μ3 H3 w3 e3 r3 q3 p3 => ?_)
            have ha3 : μ3[n]? = some a := pre_get (e2.trans e3).pre ha
            cases hc3 : s3[n]? with
            | none => simp only [hc3] at p3; exact p3.elim
            | some c3 =>
              simp only [hc3] at p3
              cases c3 with
              | ins c3 fs3 =>
                obtain ⟨hcl3, dx3, gs3, h3, h4⟩ := r3.at hc3 ha3
                simp only at p3
                by_cases hm3 : c3 = c ∧ fs3.length < 1000
                · rw [if_pos hm3] at p3
                  obtain ⟨rfl, hm4⟩ := hm3
                  refine ⟨dx3, gs3, h3, by rw [← h4.len]; exact hm4, ?_⟩
                  have nt := (r3.at hc3 ha3).notTup rfl
                  have en : Ext X.K μ3 H3 μ3 (upd H3 a (.ins (T.clsA X.K c3) dx3 (putF (T.fld j) w3 gs3))) := Ext.of_upd ⟨nt.1, nt.2.1⟩ (.inl (mem_get (by assumption)))
                  obtain ⟨r4, e4⟩ := r3.put (c' := .ins c3 (Sm.putK j t fs3)) (o := .ins (T.clsA X.K c3) dx3 (putF (T.fld j) w3 gs3)) ha3 hc3 ⟨hcl3, dx3, _, upd_same, (RepF.put (X := X) b.ok.nd hj q3 h4).ext en⟩
                  exact p3 _ _ σ e4 r4 ((((e.ext e1).ext e2).ext e3).ext e4)
                · rw [if_neg hm3] at p3; exact p3.elim
              | _ => exact p3.elim
      | _ => exact p1.elim
  | _ => exact p1.elim
/-- x op= value -/
theorem ss_aug {x : Str} {op : Operator} {fo : F2} {r : TIp} (i : Nat) (hop : PIp X op r) (hd : Does T X.K xi fo r) (he : PE X e (rdE T X.K xi W me)) (hN : X.N.Nodup) (hi : X.N[i]? = some x := by rfl) (hx : Loc X.env.scope x := by first | exact Or.inl rfl | exact Or.inr rfl)
    (hf : X.fn x = true ∨ X.env.scope.names.lookup x = some .local := by first | exact .inl rfl | exact .inr rfl) : PS X (.AugAssign (.Name x pos') op e pos) (rdS T X.K xi W (Sm.sAug i fo me)) := by
  refine PS.mono (ps_aug hN hi hx he hop hf) fun D σ H ⟨μ, ρ, s0, r0, e, p⟩ => ?_
  unfold Sm.sAug at p
  split at p
  · rename_i v hv
    obtain ⟨u, h1, h2⟩ := e.2 i v hv
    refine ⟨u, h1, μ, ρ, s0, r0, e, Post.bindS e p fun y s1 μ1 H1 w e1 r1 q1 p1 => ?_⟩
    refine hd (fun c d H' => W c d σ H') μ1 H1 s1 v y u w _ r1 (h2.ext e1) q1 (Post.bindS (e.ext e1) p1 fun t s2 μ2 H2 z e2 r2 q2 p2 => ?_)
    exact p2 μ2 H2 _ .refl r2 (((e.ext e1).ext e2).put i q2)
  · exact p.elim
theorem addI_inop : InOp X .Add rAdd := in_add
theorem subI_inop : InOp X .Sub rSub := in_sub
def addI : F2 := fun x y st => match x, y with
  | .int i, .int j => .ok (.int (i + j)) st
  | _, _ => .bad
theorem addI_does : Does T X.K xi addI rAdd := by
  intro Wd μ H st x y u w Q r0 q1 q2 p
  cases x with
  | int i =>
    cases y with
    | int j => exact ⟨i, j, q1.int, q2.int, p μ H _ .refl r0 rep_int⟩
    | _ => exact p.elim
  | _ => exact p.elim
theorem subI_doesR : Does T X.K xi subI rSub := subI_does
theorem addI_doesI : Does T X.K xi addI (ipI fun i j => i + j) := addI_does
theorem subI_doesI : Does T X.K xi subI (ipI fun i j => i - j) := subI_does
/-- o[i] = value, of a list -/
theorem ss_sub (ho : PE X o (rdE T X.K xi W mo)) (hi : PE X i (rdE T X.K xi W mi)) (he : PE X e (rdE T X.K xi W me)) (hs : swapsWithSole [.Subscript o i tpos] e pos.line X.env = pure false := by rfl) (hw : swappedStores [.Subscript o i tpos] e X.env = pure none := by rfl)
    (h1 : (assignEach [.Subscript o i tpos] X.env).map (·.2) = [assign (.Subscript o i tpos) X.env] := by rfl)
    (ha : ∀ v, assign (.Subscript o i tpos) X.env v = (do
      let ov ← holding [v] (eval o X.env)
      let iv ← holding [v, ov] (eval i X.env)
      standAt tpos
      holding [v, ov, iv] (setItem ov iv v)
      release [v, ov, iv] []) := by intro _; rfl) : PS X (.Assign [.Subscript o i tpos] e pos) (rdS T X.K xi W (Sm.sSub mo mi me)) := by
  refine PS.mono (ps_asg he (pg_sub ho hi set_list ha) hs hw h1) fun D σ H ⟨μ, ρ, s0, r0, e, p⟩ => ⟨μ, ρ, s0, r0, e, Post.bindS e p fun y s1 μ1 H1 v e1 r1 q1 p1 => ⟨μ1, ρ, s1, r1, e.ext e1, Post.bindS (e.ext e1) p1 fun x s2 μ2 H2 u e2 r2 q2 p2 => ⟨μ2, ρ, s2, r2, (e.ext e1).ext e2, Post.bindS ((e.ext e1).ext e2) p2 fun t s3 μ3 H3 w e3 r3 q3 p3 => ?_⟩⟩⟩
  unfold setS at p3
  cases x with
  | ref n =>
    obtain ⟨a, ha, ea⟩ := (q2.ext e3).ref
    cases hc : s3[n]? with
    | none => simp only [hc] at p3; exact p3.elim
    | some c =>
      simp only [hc] at p3
      cases c with
      | lst l =>
        obtain ⟨vs, h1, h2⟩ := r3.at hc ha
        cases t with
        | int z =>
          simp only at p3
          split at p3
          · rename_i j hj
            refine ⟨a, vs, z, j, ea, q3.int, h1, by rw [← h2.len, ← ixN_eq]; exact hj, ?_⟩
            have nt := (r3.at hc ha).notTup rfl
            have en : Ext X.K μ3 H3 μ3 (upd H3 a (.lst (vs.set j v))) := Ext.of_upd ⟨nt.1, nt.2.1⟩ (.inl (mem_get (by assumption)))
            obtain ⟨r4, e4⟩ := r3.put (c' := .lst (l.set j y)) (o := .lst (vs.set j v)) ha hc ⟨_, upd_same, ((h2.set (((q1.ext e2).ext e3)) j)).ext en⟩
            exact p3 _ _ σ e4 r4 ((((e.ext e1).ext e2).ext e3).ext e4)
          · exact p3.elim
        | _ => exact p3.elim
      | _ => exact p3.elim
  | _ => exact p3.elim
end
/-! ### loops -/
section
variable {c : Expr} {body : List Stmt} {mc : TM} {mb : SM} {pos : Pos}
theorem body_post {D : Ends} {N : L2.St → Hp → Prop} {μ : List Addr} {H : Hp} {r : SR} {nxt : Env → Sto → SR}
    (h : PostS T X.K xi W D μ H (match r with
      | .nx ρ st => nxt ρ st
      | .ct ρ st => nxt ρ st
      | .bk ρ st => .nx ρ st
      | r => r)) (hN : ∀ ρ st, PostS T X.K xi W D μ H (nxt ρ st) → ∀ μ' H' σ, Ext X.K μ H μ' H' → RSt T X.K xi μ' H' st → REnv T X.K μ' H' ρ σ → N σ H') : PostS T X.K xi W { D with nx := N, ct := N, bk := D.nx } μ H r := by
  cases r with
  | nx ρ st => exact hN ρ st h
  | ct ρ st => exact hN ρ st h
  | bk ρ st => exact h
  | rt v st => exact h
  | exc e ρ st => exact h
  | bad => exact h
theorem ss_while (n : Nat) (hp : PassesOwn (model X.prog X.w) X.A X.env X.xe) (hc : PT X c (rdT T X.K xi W mc)) (hb : PSs X body (rdS T X.K xi W mb)) : PS X (.While c body [] pos) (rdS T X.K xi W (sWhile n mc mb)) := by
  refine PS.mono (ps_while hp hc hb) fun D σ H ⟨μ, ρ, s0, r0, e, p⟩ => ?_
  refine ⟨fun n σ H => ∃ μ ρ st, RSt T X.K xi μ H st ∧ REnv T X.K μ H ρ σ ∧ PostS T X.K xi W D μ H (whileN mc mb n ρ st), ⟨n, μ, ρ, s0, r0, e, p⟩, fun n σ H hW => ?_⟩
  obtain ⟨μ, ρ, st, r0, e, p⟩ := hW
  cases n with
  | zero => exact False.elim p
  | succ n =>
    unfold whileN at p
    refine ⟨μ, ρ, st, r0, e, Post.bindS e p fun x s1 μ1 H1 b e1 r1 q1 p1 => ?_⟩
    subst q1
    cases x with
    | true =>
      rw [if_pos rfl]
      refine ⟨_, fun σ' H' hN => ⟨n, Nat.lt_succ_self n, hN⟩, μ1, ρ, s1, r1, e.ext e1, body_post (nxt := fun ρ st => whileN mc mb n ρ st) p1 fun ρ2 st2 p2 μ2 H2 σ2 e2 r2 w2 => ⟨μ2, ρ2, st2, r2, w2, p2.ext e2⟩⟩
    | false =>
      rw [if_neg Bool.false_ne_true]
      exact p1 μ1 H1 σ .refl r1 (e.ext e1)
/-- what an iterator's turns are -/
def WalkOk (T : Tab) (K : PySem.W.Frag) (xi : Xi) (μ0 : List Addr) (H0 : Hp) (J : It) (w : Nat → Sto → Nxt) : Prop := ∀ μ H st i, Ext K μ0 H0 μ H → RSt T K xi μ H st →
  (w i st = .stop → J.stop i H) ∧ ∀ v, w i st = .item v → J.go i H ∧ ∀ x H', J.yld i H x H' → Ext K μ H μ H' ∧ RSt T K xi μ H' st ∧ Rep T K μ H' v x
def rdI (T : Tab) (K : PySem.W.Frag) (xi : Xi) (W : WX) (m : WM) : TI := fun σ H R => ∃ μ ρ st, RSt T K xi μ H st ∧ REnv T K μ H ρ σ ∧ Post (β := It) T K xi (fun μ' H' w J => WalkOk T K xi μ' H' J w.at_) (fun c d H' => W c d σ H') R μ H (m ρ st)
theorem PI.mono {tg it : Expr} {t t' : TI} (h : PI X tg it t) (i : ∀ σ H R, t' σ H R → t σ H R) : PI X tg it t' := ⟨fun pins s σ H R I q => h.run pins s σ H R I (i σ H R q)⟩
theorem ss_for {it tg : Expr} {mw : WM} {g : GM} (hp : PassesOwn (model X.prog X.w) X.A X.env X.xe) (hc : X.calm = true) (hi : PI X tg it (rdI T X.K xi W mw)) (hg : PG X tg (rdG T X.K xi g)) (hb : PSs X body (rdS T X.K xi W mb)) (hs : ∀ x, foldedSetIterable it X.env x = pure x := by intro _; rfl) :
    PS X (.For tg it body [] pos) (rdS T X.K xi W (sFor mw g mb)) := by
  refine PS.mono (ps_for hp hc hi hg hb hs) fun D σ H ⟨μ, ρ, s0, r0, e, p⟩ => ⟨μ, ρ, s0, r0, e, Post.bindS e p fun w s1 μ1 H1 J e1 r1 q1 p1 => ?_⟩
  refine ⟨fun i n σ H => ∃ μ ρ st, Ext X.K μ1 H1 μ H ∧ RSt T X.K xi μ H st ∧ REnv T X.K μ H ρ σ ∧ PostS T X.K xi W D μ H (forN w.at_ g mb n i ρ st), ⟨w.turns + 1, μ1, ρ, s1, .refl, r1, e.ext e1, p1⟩, fun i n σ H hW => ?_⟩
  obtain ⟨μ, ρ, st, ex, r0, e, p⟩ := hW
  cases n with
  | zero => exact False.elim p
  | succ n =>
    unfold forN at p
    obtain ⟨k1, k2⟩ := q1 μ H st i ex r0
    cases hw : w.at_ i st with
    | bad => simp only [hw] at p; exact False.elim p
    | stop =>
      simp only [hw] at p
      exact .inl ⟨k1 hw, p μ H σ .refl r0 e⟩
    | item v =>
      simp only [hw] at p
      obtain ⟨go, hy⟩ := k2 v hw
      refine .inr ⟨go, fun σ H => ∃ μ ρ st, Ext X.K μ1 H1 μ H ∧ RSt T X.K xi μ H st ∧ REnv T X.K μ H ρ σ ∧ PostS T X.K xi W D μ H (forN w.at_ g mb n (i + 1) ρ st), fun σ' H' hN => ⟨n, Nat.lt_succ_self n, hN⟩, fun x H' y => ?_⟩
      obtain ⟨ey, ry, qy⟩ := hy x H' y
      refine ⟨μ, ρ, st, v, ry, e.ext ey, qy, ?_⟩
      have p := p.ext ey
      cases hgv : g v ρ st with
      | nx ρ' st' =>
        simp only [hgv] at p
        intro μ2 H2 σ2 e2 r2 w2
        exact ⟨μ2, ρ', st', r2, w2, body_post (nxt := fun ρ st => forN w.at_ g mb n (i + 1) ρ st) (p.ext e2) fun ρ3 st3 p3 μ3 H3 σ3 e3 r3 w3 => ⟨μ3, ρ3, st3, (ex.trans ey).trans (e2.trans e3), r3, w3, p3.ext e3⟩⟩
      | _ => simp only [hgv] at p; exact False.elim p
/-! what is walked -/
theorem walkT_ok {μ : List Addr} {H : Hp} {a : Addr} {l : List S} {vs : List V} (h1 : SqT X.K H a vs) (h2 : RepL T X.K μ H l vs) : WalkOk T X.K xi μ H (Itt X.K a) (walkT l).at_ := by
  intro μ' H' st i ex r
  have k1 := ex.tup _ _ h1
  have k2 := h2.ext ex
  refine ⟨fun hs => ⟨vs, k1, ?_⟩, fun v hv => ?_⟩
  · unfold walkT at hs
    simp only at hs
    split at hs
    · cases hs
    · rename_i hn
      rw [← k2.len]
      exact List.getElem?_eq_none_iff.mp hn
  · unfold walkT at hv
    simp only at hv
    split at hv
    · rename_i z hz
      injection hv with hv
      subst hv
      obtain ⟨u, q1, q2⟩ := k2.get hz
      refine ⟨⟨vs, u, k1, q1⟩, fun x H'' y => ?_⟩
      obtain ⟨e, y⟩ := y
      subst e
      have z := y vs k1
      rw [q1] at z
      have e2 : u = x := Option.some.inj z
      subst e2
      exact ⟨.refl, r, q2⟩
    · cases hv
theorem walkL_ok {μ : List Addr} {H : Hp} {n : Nat} {a : Addr} {l : List S} (ha : μ[n]? = some a) : WalkOk T X.K xi μ H (Itl X.K a) (walkL n l).at_ := by
  intro μ' H' st i ex r
  have ha' := pre_get ex.pre ha
  unfold walkL
  simp only
  cases hc : st[n]? with
  | none => exact ⟨fun h => by simp at h, fun v h => by simp at h⟩
  | some c =>
    cases c with
    | lst l' =>
      obtain ⟨vs, h1, h2⟩ := r.at hc ha'
      simp only
      cases hi : l'[i]? with
      | none =>
        refine ⟨fun _ => ⟨vs, SqL.of h1, ?_⟩, fun v h => by simp at h⟩
        rw [← h2.len]
        exact List.getElem?_eq_none_iff.mp hi
      | some s =>
        refine ⟨fun h => by simp at h, fun v h => ?_⟩
        have e : s = v := by simpa using h
        subst e
        obtain ⟨u, q1, q2⟩ := h2.get hi
        refine ⟨⟨vs, u, SqL.of h1, q1⟩, fun x H'' y => ?_⟩
        obtain ⟨e, y⟩ := y
        subst e
        have z := y vs (SqL.of h1)
        rw [q1] at z
        have e2 : u = x := Option.some.inj z
        subst e2
        exact ⟨.refl, r, q2⟩
    | _ => exact ⟨fun h => by simp at h, fun v h => by simp at h⟩
theorem walkR_ok {μ : List Addr} {H : Hp} {lo : Int} {n : Nat} : WalkOk T X.K xi μ H (Itr lo n) (walkR lo n).at_ := by
  intro μ' H' st i ex r
  unfold walkR
  simp only
  by_cases hi : i < n
  · rw [if_pos hi]
    refine ⟨fun h => by simp at h, fun v h => ?_⟩
    have e : S.int (lo + i) = v := by simpa using h
    subst e
    refine ⟨hi, fun x H'' y => ?_⟩
    obtain ⟨e, y⟩ := y
    subst e y
    exact ⟨.refl, r, rep_int⟩
  · rw [if_neg hi]
    exact ⟨fun _ => Nat.le_of_not_lt hi, fun v h => by simp at h⟩
theorem walkS_ok {μ : List Addr} {H : Hp} {x : Tx} : WalkOk T X.K xi μ H (Its (tx x)) (walkS x).at_ := by
  intro μ' H' st i ex r
  unfold walkS
  simp only
  have hsz : (tx x).cps.size = x.length := by simp [tx]
  cases hi : x[i]? with
  | none =>
    refine ⟨fun _ => ?_, fun v h => by simp at h⟩
    show (tx x).cps.size ≤ i
    rw [hsz]
    exact List.getElem?_eq_none_iff.mp hi
  | some c =>
    refine ⟨fun h => by simp at h, fun v h => ?_⟩
    have e : S.str [c] = v := by simpa using h
    subst e
    refine ⟨?_, fun z H'' y => ?_⟩
    · show i < (tx x).cps.size
      rw [hsz]
      exact (List.getElem?_eq_some_iff.mp hi).1
    · obtain ⟨e, c', hc', y⟩ := y
      subst e y
      have e3 : (tx x).cps[i]? = x[i]? := by simp [tx]
      rw [e3, hi] at hc'
      have e4 : c = c' := Option.some.inj hc'
      subst e4
      exact ⟨.refl, r, rep_str⟩
/-- a list, a tuple, a text, walked -/
def iAny (K : PySem.W.Frag) (te : TE) : TI := fun σ H R => te σ H fun x H1 => (∃ a, x = .ref a ∧ (∃ xs, SqL K H1 a xs) ∧ R (Itl K a) H1) ∨ (∃ a, x = .ref a ∧ (∃ xs, SqT K H1 a xs) ∧ R (Itt K a) H1) ∨ ∃ z, x = .str z ∧ R (Its z) H1
theorem pi_any {tg e : Expr} {te : TE} (he : PE X e te) : PI X tg e (iAny X.K te) := by
  refine ⟨fun pins s σ H R I h => ?_⟩
  refine thn (he.run pins s σ H _ I h) fun v s1 hv => ?_
  obtain ⟨x, H1, I1, r1, q⟩ := hv
  have old : ∀ {o : Obj} (b : Addr) (ob : Obj), s1.heap.get? b = some ob → (s1.heap.push o).get? b = some ob := fun b ob z => Heap.get?_push_of_some _ z
  rcases q with ⟨a, ex, ⟨xs, hq⟩, q⟩ | ⟨a, ex, ⟨xs, hq⟩, q⟩ | ⟨z, ex, q⟩
  · subst ex
    obtain rfl : v = Value.ref a := r1
    obtain ⟨its, rv, p, hz⟩ := I1.list hq
    exact wpAny_pyIter_list p.isList (pi_one (tk := s1.toks) I1 _ (turn_list a _) ⟨_, Heap.get?_push_size _ rfl, rfl, rfl⟩ q)
  · subst ex
    obtain rfl : v = Value.ref a := r1
    obtain ⟨its, rv, p, hz⟩ := I1.tuple hq
    exact wpAny_pyIter_tuple (show s1.heap.IsTuple a its.toArray from p) (pi_one (tk := s1.toks) I1 _ (turn_tuple a _) ⟨_, Heap.get?_push_size _ rfl, rfl, rfl⟩ q)
  · subst ex
    obtain ⟨t, rfl⟩ := r1
    cases hall : z.cps.all (· < 128) with
    | false => exact wpAny_pyIter_wide hall (pi_one (tk := s1.toks) I1 _ (turn_str _ z t "str_iterator" (Or.inr rfl)) ⟨_, Heap.get?_push_size _ rfl, rfl, rfl⟩ q)
    | true => exact wpAny_pyIter_ascii hall (pi_one (tk := s1.toks) I1 _ (turn_str _ z t "str_ascii_iterator" (Or.inl rfl)) ⟨_, Heap.get?_push_size _ rfl, rfl, rfl⟩ q)
theorem si_val {tg e : Expr} {m : EM} (he : PE X e (rdE T X.K xi W m)) : PI X tg e (rdI T X.K xi W (wVal m)) := by
  refine PI.mono (pi_any he) fun σ H R ⟨μ, ρ, s0, r0, e, p⟩ => ⟨μ, ρ, s0, r0, e, Post.bind p fun x s1 μ1 H1 u e1 r1 q1 p1 => ?_⟩
  cases x with
  | tup l =>
    obtain ⟨a, vs, ea, h1, h2⟩ := q1.tup
    exact .inr (.inl ⟨a, ea, ⟨vs, h1⟩, p1 μ1 H1 _ .refl r1 (walkT_ok h1 h2)⟩)
  | str t => exact .inr (.inr ⟨tx t, q1.str, p1 μ1 H1 _ .refl r1 walkS_ok⟩)
  | ref n =>
    obtain ⟨a, ha, ea⟩ := q1.ref
    cases hc : s1[n]? with
    | none => simp only [hc] at p1; exact p1.elim
    | some c =>
      simp only [hc] at p1
      cases c with
      | lst l =>
        obtain ⟨vs, h1, h2⟩ := r1.at hc ha
        exact .inl ⟨a, ea, ⟨vs, SqL.of h1⟩, p1 μ1 H1 _ .refl r1 (walkL_ok ha)⟩
      | _ => exact p1.elim
  | _ => exact p1.elim
section
variable {tg a b : Expr} {m : AM} {p pos : Pos}
theorem si_range1 (hm : X.mg "range" = none) (ha : PA X [a] (rdA T X.K xi W m)) (hg : Gl X "range" := by rfl) (hs : starEach [a] X.env = [(false, eval a X.env)] := by rfl) : PI X tg (.Call (.Name "range" p) [a] [] pos) (rdI T X.K xi W (wRange1 m)) := by
  refine PI.mono (pi_range1 hg hm ha hs) fun σ H R ⟨μ, ρ, s0, r0, e, p⟩ => ⟨μ, ρ, s0, r0, e, Post.bind p fun l s1 μ1 H1 vs e1 r1 q1 p1 => ?_⟩
  split at p1
  · rename_i n
    obtain ⟨v, rfl, h⟩ := q1.one_of
    split at p1
    · rename_i hz
      exact ⟨n, by rw [h.int], by omega, by omega, p1 μ1 H1 _ .refl r1 walkR_ok⟩
    · exact p1.elim
  · exact p1.elim
theorem si_range2 (hm : X.mg "range" = none) (ha : PA X [a, b] (rdA T X.K xi W m)) (hg : Gl X "range" := by rfl) (hs : starEach [a, b] X.env = [(false, eval a X.env), (false, eval b X.env)] := by rfl) (hs2 : starEach [b] X.env = [(false, eval b X.env)] := by rfl) : PI X tg (.Call (.Name "range" p) [a, b] [] pos) (rdI T X.K xi W (wRange2 m)) := by
  refine PI.mono (pi_range2 hg hm ha hs hs2) fun σ H R ⟨μ, ρ, s0, r0, e, p⟩ => ⟨μ, ρ, s0, r0, e, Post.bind p fun l s1 μ1 H1 vs e1 r1 q1 p1 => ?_⟩
  split at p1
  · rename_i i j
    obtain ⟨v, w, rfl, h1, h2⟩ := q1.two_of
    split at p1
    · rename_i hz
      exact ⟨i, j, by rw [h1.int, h2.int], by omega, p1 μ1 H1 _ .refl r1 walkR_ok⟩
    · exact p1.elim
  · exact p1.elim
end
end
end
end Sm

/-! SemExc: own exceptions whose __init__ says super().__init__(text) and keeps its arguments. -/
namespace Sm
open PySem PySem.Spec PyProof.Rows L2
/-! ### values without references -/
section
variable {T : Tab} {K : PySem.W.Frag} {xi : Xi} {μ μ' : List Addr} {H H' : Hp} {st : Sto}
mutual
theorem Rep.clean (e : ∀ a vs, SqT K H a vs → SqT K H' a vs) : ∀ {s : S} {v : V}, s.clean = true → Rep T K μ H s v → Rep T K μ' H' s v
  | .non, v, c, h => by unfold Rep at h ⊢; exact h
  | .bl b, v, c, h => by unfold Rep at h ⊢; exact h
  | .int i, v, c, h => by unfold Rep at h ⊢; exact h
  | .str x, v, c, h => by unfold Rep at h ⊢; exact h
  | .tup l, v, c, h => by
    unfold Rep at h ⊢
    unfold S.clean at c
    obtain ⟨a, vs, h1, h2, h3⟩ := h
    exact ⟨a, vs, h1, e _ _ h2, RepL.clean e c h3⟩
  | .ref n, v, c, h => by unfold S.clean at c; cases c
  | .fn i, v, c, h => by unfold Rep at h ⊢; exact h
  | .cst a, v, c, h => by unfold Rep at h ⊢; exact h
theorem RepL.clean (e : ∀ a vs, SqT K H a vs → SqT K H' a vs) : ∀ {l : List S} {vs : List V}, S.cleanL l = true → RepL T K μ H l vs → RepL T K μ' H' l vs
  | [], vs, c, h => by unfold RepL at h ⊢; exact h
  | s :: l, vs, c, h => by
    unfold RepL at h ⊢
    unfold S.cleanL at c
    obtain ⟨v, r, h1, h2, h3⟩ := h
    have c := Bool.and_eq_true_iff.mp c
    exact ⟨v, r, h1, Rep.clean e c.1 h2, RepL.clean e c.2 h3⟩
end
theorem SqT.keep (k : ∀ b o, H b = some o → H' b = some o) {a : Addr} {vs : List V} (h : SqT K H a vs) : SqT K H' a vs := by
  rcases h with (h | ⟨ob, h⟩) | h
  · exact .inl (.inl (k _ _ h))
  · exact .inl (.inr ⟨ob, k _ _ h⟩)
  · exact .inr h
theorem Ext.of_keep (k : ∀ b o, H b = some o → H' b = some o) : Ext K μ H μ H' := ⟨List.prefix_rfl, fun _ _ h => SqT.keep k h, fun a o h _ => k a o h, fun _ h => .inl h⟩
theorem RSt.of_keep (r : RSt T K xi μ H st) (k : ∀ b o, H b = some o → H' b = some o) : RSt T K xi μ H' st := by
  have e : Ext K μ H μ H' := .of_keep k
  refine ⟨r.len, r.inj, fun m b d hb hd => ?_, fun m b cls d hx => ?_⟩
  · have q := r.at hd hb
    cases d with
    | lst l => obtain ⟨vs, h1, h2⟩ := q; exact ⟨vs, k _ _ h1, h2.ext e⟩
    | dct l => obtain ⟨vs, h1, h2⟩ := q; exact ⟨vs, k _ _ h1, h2.ext e⟩
    | ins c fs => obtain ⟨h0, dx, gs, h1, h2⟩ := q; exact ⟨h0, dx, gs, k _ _ h1, h2.ext e⟩
    | rol l => obtain ⟨o, vs, h1, h2⟩ := q; exact ⟨o, vs, k _ _ h1, h2.ext e⟩
    | exn x => trivial
  · obtain ⟨h1, x, h2, h3⟩ := r.exn m b cls d hx
    exact ⟨h1, x, h2, h3.ext e fun d fs q => k _ _ q⟩
theorem RSt.empty : RSt T K none [] H [] := ⟨rfl, fun n m a c d h => by simp at h, fun n a c h => by simp at h, fun n a cls d h => nomatch h⟩
theorem Ext.keeps {μ' : List Addr} (e : Ext K [] H μ' H') : ∀ b o, H b = some o → H' b = some o := fun b o h => e.frm b o h (by simp)
end
theorem memN_look {k : Nat} {s : S} : ∀ {l : List (Nat × S)}, l.lookup k = some s → (k, s) ∈ l
  | [], h => by cases h
  | (j, t) :: l, h => by
    rw [List.lookup_cons] at h
    by_cases hj : (k == j) = true
    · rw [hj] at h
      have e : t = s := Option.some.inj h
      have e2 : k = j := by simpa using hj
      rw [e, e2]
      exact List.mem_cons_self
    · have hj : (k == j) = false := by simpa using hj
      rw [hj] at h
      exact List.mem_cons_of_mem _ (memN_look h)
/-! ### a call in a store of its own -/
section
variable {T : Tab} {P : Program} {w : World} {K : PySem.W.Frag} {mg : Str → Option Value} {base : Heap} {k : Nat} {f : Addr} {fd : FuncData} {ps : List Str} {F : Fn}
theorem spF_iso {vs : List V} {H : Hp} {Q : VK} {E : XK} (h : spF T K (isoF F) vs H Q E) : spF T K F vs H Q E := by
  obtain ⟨μ, l, st, r, q, p⟩ := h
  unfold isoF at p
  by_cases hc : S.cleanL l = true
  · rw [if_pos hc] at p
    refine ⟨[], l, [], .empty, q.clean (fun _ _ z => z) hc, ?_⟩
    cases hf : F l [] with
    | ok v s1 =>
      rw [hf] at p
      simp only at p
      by_cases hv : v.clean = true
      · rw [if_pos hv] at p
        intro μ' H' u e1 r1 q1
        have kp := Ext.keeps e1
        exact p μ H' u (.of_keep kp) (r.of_keep kp) (q1.clean (fun _ _ z => z) hv)
      · rw [if_neg hv] at p; exact p.elim
    | exc e s1 =>
      rw [hf] at p
      simp only at p
      by_cases hv : (e.fs.all fun q => q.2.clean) = true
      · rw [if_pos hv] at p
        intro μ' H' cls d e1 r1 q1
        have kp := Ext.keeps e1
        refine p μ H' cls d (.of_keep kp) (r.of_keep kp) ⟨q1.1, q1.2.imp id fun ⟨dd, fs, k1, k2, k3⟩ => ⟨dd, fs, k1, k2, fun k s hs => ?_⟩⟩
        obtain ⟨v, z1, z2⟩ := k3 k s hs
        have hcl : s.clean = true := by
          have hm : (k, s) ∈ e.fs := memN_look hs
          exact List.all_eq_true.mp hv _ hm
        exact ⟨v, z1, z2.clean (fun _ _ z => z) hcl⟩
      · rw [if_neg hv] at p; exact p.elim
    | bad => rw [hf] at p; exact p.elim
  · rw [if_neg hc] at p; exact p.elim
theorem FnS.iso (G : FnS T P w K mg base k f fd ps F) : FnS T P w K mg base k f fd ps (isoF F) := by
  refine ⟨fun l st h => ?_, fun A outer s H args us vs Q E hr e0 hb rv hsp => G.run A outer s H args us vs Q E hr e0 hb rv (spF_iso hsp)⟩
  refine G.len l [] fun z => h ?_
  unfold isoF
  rw [z]
  split <;> rfl
end
/-! ### super().__init__(e) -/
section
variable {X : Cx} {pins : List (Addr × Obj)} {σ : L2.St} {H : Hp} {s : Shared} {a C D cc : Addr} {F : NdefX.NF}
/-- what the written part says of the class at C and of its __init__ (F, at f), whose cell __class__ at cc holds D -/
structure XiF (prog : Program) (K : PySem.W.Frag) (F : NdefX.NF) (f C D cc : Addr) : Prop where
  fn : ∃ (oc : Value) (od : Option Addr) (dV kV doc pm : Value) (an : Option Addr) (ct : Value) (osl : Array (Option Value)), dV = .none ∧ K.lookup f = some ⟨oc, od, .func (PySem.W.fnX F.name F.qual F.params F.body F.scope F.cl dV kV doc pm an (.ref F.c) ct), osl⟩
  hcd : PySem.W.codeIn K (.ref F.c) F.qual = true
  cl : F.cl = [(("__class__" : Str), cc)]
  cell : ∃ (ccl : Value) (cld : Option Addr) (csl : Array (Option Value)), K.lookup cc = some ⟨ccl, cld, .cell (some (.ref D)), csl⟩
  code : ∃ (ccl : Value) (cdd : Option Addr) (vs : Array Value) (ccs : Array (Option Value)) (file : Str) (tf : Tok), K.lookup F.c = some ⟨ccl, cdd, .fields vs, ccs⟩ ∧ vs[2]? = some (.str file tf) ∧ ((prog.main.file : Str) == file) = true
  clsD : (PySem.W.clsIn K D).isSome = true
  sub : PySem.W.mroIn K C (.ref D) = some true
  sup : PySem.W.ks_superIn K C D "__init__" = some (some (.builtin "ValueError.__init__"))
  isV : PySem.W.subIn K (.ref C) (.type "ValueError") = some true
  hk : F.scope.kind = .function
  hks : F.scope.names.lookup ("super" : Str) = some .globalImplicit
  hkc : F.scope.names.lookup ("__class__" : Str) = some .free
  top : (prog.main.scope.names.lookup ("super" : Str)).isSome = false
  any : PySem.W.nsIn K cStatics "thirdparty.any" = some none
/-- super(), in the body of __init__ -/
theorem super_new {f : Addr} {ar : Arg} {body : List Stmt} {p0 p1 : Pos} {attr : Str} {whole : Sem Value} {Q : Value → Shared → Prop} (Z : XiF X.prog X.K F f C D cc) {d : Option Addr} (henv : X.env = NdefX.envF F f X.env.locals) (I : Inv X pins σ H s) (e : H a = some (exo a C d))
    (hp : (F.params.posonlyargs ++ F.params.args).head? = some ar) (hi : X.N[0]? = some ar.arg) (hs : σ[0]? = some (some (.ref a))) (hka : F.scope.names.lookup ar.arg = some .local) (hm : X.mg "super" = none) (hb : bootBuiltins "super" = some (.type "super")) (hat : (attr == ("__class__" : Str)) = false)
    (h : ∀ so h', s.heap.objs.size ≤ so → h'.get? so = some (PySem.W.ks_superObj D a C) → (∀ b o, s.heap.get? b = some o → h'.get? b = some o) → Q (.ref so) { s with heap := h' }) :
    _root_.PySem.wpAt (model X.prog X.w) X.A (.func body X.env) (attributeBase (.Call (.Name "super" p0) [] [] p1) attr X.env whole) Q X.xe s := by
  have kx := I.kIn
  obtain ⟨oc, od, dV, kV, doc, pm, an, ct, osl, _, hf⟩ := Z.fn
  obtain ⟨ccl, cdd, vs, ccs, file, tf, hcode, hvs, hfile⟩ := Z.code
  obtain ⟨cl2, cld, csl, hcell⟩ := Z.cell
  obtain ⟨cdD, hD⟩ := Option.isSome_iff_exists.mp Z.clsD
  obtain ⟨oD, hD1, hD2⟩ : ∃ oD, s.heap.get? D = some oD ∧ oD.data = .cls cdD := by
    unfold PySem.W.clsIn at hD
    split at hD
    · rename_i c d cd' sl ho
      cases hD
      exact ⟨_, kx _ _ ho, rfl⟩
    · cases hD
  obtain ⟨t1, hx⟩ := exo_at I.hok e
  obtain ⟨mb, hb1, hb2⟩ := I.mod.blt
  obtain ⟨ml, hn, hlk⟩ := id I.loc
  obtain ⟨u, ru, hlook⟩ := hlk 0 _ _ hi hs (by rw [henv]; exact Or.inl hka)
  obtain rfl : u = Value.ref a := ru
  have hcellL : X.env.cells.lookup ("__class__" : Str) = some cc := by
    rw [henv]
    show F.cl.lookup _ = _
    rw [Z.cl]
    rfl
  have hkf : X.env.scope.kind = .function := by rw [henv]; exact Z.hk
  have hks : X.env.kindOf "super" = some .globalImplicit := by rw [henv]; exact Z.hks
  have hkc : X.env.kindOf "__class__" = some .free := by rw [henv]; exact Z.hkc
  have hka' : X.env.kindOf ar.arg = some .local := by rw [henv]; exact hka
  have hml : ml ar.arg = some (.ref a) := by
    rcases hlook with ⟨_, z⟩ | ⟨z, _⟩
    · exact z
    · rcases z with z | z <;> (rw [hka'] at z; cases z)
  refine ks_wpAt_super_base (env := X.env) (f := f) (cc := F.c) hks hkc hat (by rw [henv]) (kx _ _ hf) rfl hp (by rw [henv]) (kx _ _ hcode) rfl hvs hfile Z.top ?_
  refine PySem.W.ks_loadName_global hkf hks (Calls.loadGlobal_builtin (by rw [I.ok.glob]; exact I.mod.glob.keeps I.bk) hm (by rw [I.ok.blt]; exact hb1.keeps I.bk) ((hb2 _ (by decide +kernel)).trans hb) ⟨rfl, ?_⟩)
  refine wpAny_loadName_free hkf hkc hcellL ⟨_, kx _ _ hcell, rfl⟩ ?_
  refine wpAny_loadName_local hkf hka' hn hml ?_
  obtain ⟨hh, g, dd, t, os⟩ := s
  refine ks_wpAny_isType_cls hD1 hD2 ⟨rfl, ?_⟩
  refine ks_wpAny_call_super hD1 hD2 hx rfl (fun c e => nomatch e) (PySem.W.looks_mroIn kx Z.sub) (fun h' e k => ?_)
  exact h _ _ (Nat.le_refl _) e k
/-- the wrapper called -/
theorem mw_call {u : Addr} {us : List Value} {Q : Value → Shared → Prop} {E : Value → Shared → Prop} {A : Around} (T : OexC X.K C) (I : Inv X pins σ H s) (e : H a = some (exo a C none)) (hu : s.heap.get? u = some (PySem.W.kxs_mw "ValueError.__init__" a)) (hl : us.length ≤ sizeLine) (h : ∀ s', Inv X pins σ H s' → Q .none s') :
    wpAny (model X.prog X.w) A (call (.ref u) us) Q E s := by
  obtain ⟨nm, q, N, bs, bm, sn, sub, ab, col, dd, k0, k1, k2, k3, k5, hC, hbm⟩ := T.cls
  obtain ⟨t1, ho⟩ := exo_at I.hok e
  obtain ⟨hp, g, d, t, os⟩ := s
  have hC' := I.kIn _ _ hC
  refine wpAny_call (codeAny_of_tree ?_)
  show wpAny _ A.in1 (callAny (.ref u) ⟨us, []⟩) _ _ _
  simp only [callAny]
  refine wpAny_bind (wpAny_load hu ?_)
  simp only [PySem.W.kxs_mw, show (Value.type "method-wrapper" == Value.type "method" || Value.type "method-wrapper" == Value.type "builtin_function_or_method" || Value.type "method-wrapper" == Value.type "method-wrapper") = true by decide, if_true]
  refine PySem.W.KFB.if_so (by decide) ?_
  refine wpAny_bind (PySem.W.check_bound_init PySem.F.excBase_ValueError.toExcCallFacts hC' ho rfl ?_)
  refine wpAny_bind (wpAny_pure (wpAny_pure ?_))
  refine ⟨PySem.plainId_quiet PySem.F.excBase_ValueError.init.plain _, codeAny_builtin PySem.F.excBase_ValueError.initEntry ?_⟩
  refine PySem.W.exc_init_tree (cls := .ref C) (t0 := t1) (dv := none) (c2 := .none) (c3 := .none) (b4 := .bool false) ho hl fun h' k hx _ => ?_
  have J := I.write (t' := t) (x := a) (e := a) (o := exo a C none) (by rw [e]; exact True.intro) (.inl rfl) k ⟨_, hx⟩ (exo_ok hx)
  have eu : upd H a (exo a C none) = H := by
    funext b
    by_cases hb : b = a
    · rw [hb, upd_same, e]
    · rw [upd_ne hb]
  rw [eu] at J
  exact h _ J
/-- the statement super().__init__(e) -/
theorem super_init {f : Addr} {ar : Arg} {body : List Stmt} {p0 p1 p2 p3 p4 : Pos} {ev : Expr} {te : TE} {Q : Hp → Prop} (T : OexC X.K C) (Z : XiF X.prog X.K F f C D cc) (henv : X.env = NdefX.envF F f X.env.locals) (I : Inv X pins σ H s) (e : H a = some (exo a C none))
    (hp : (F.params.posonlyargs ++ F.params.args).head? = some ar) (hi : X.N[0]? = some ar.arg) (hs : σ[0]? = some (some (.ref a))) (hka : F.scope.names.lookup ar.arg = some .local) (hm : X.mg "super" = none) (hb : bootBuiltins "super" = some (.type "super"))
    (he : PE X ev te) (h : te σ H fun v H1 => H1 a = some (exo a C none) ∧ Q H1) (hint : interactive X.env = false)
    (hsw : swapsWith (.Call (.Attribute (.Call (.Name "super" p0) [] [] p1) "__init__" p2) [ev] [] p3) none p4.line X.env = pure false := by rfl)
    (hst : starEach [ev] X.env = (false, eval ev X.env) :: starEach [] X.env := by rfl) (hpl : (backTo p3 (starEach [] X.env)).any (·.1) = false := by rfl) (pl : Sem Bool)
    (hc : eval (.Call (.Attribute (.Call (.Name "super" p0) [] [] p1) "__init__" p2) [ev] [] p3) X.env = (do
      let ov ← attributeBase (.Call (.Name "super" p0) [] [] p1) "__init__" X.env (eval (.Call (.Name "super" p0) [] [] p1) X.env)
      standAt p2.atName
      let (f, first) ← holding [ov] (getMethod ov "__init__" pl)
      callWith p3 f first (backTo p3 (starEach [ev] X.env)) []) := by rfl) :
    _root_.PySem.wpAt (model X.prog X.w) X.A (.func body X.env) (exec (.Expr (.Call (.Attribute (.Call (.Name "super" p0) [] [] p1) "__init__" p2) [ev] [] p3) p4) X.env)
      (fun fl s' => fl = .next ∧ ∃ H1, Inv X pins σ H1 s' ∧ H1 a = some (exo a C none) ∧ Q H1) X.xe s := by
  refine ks_wpAt_Expr_any ?_ hint hsw
  refine ks_wpAt_MethodCall ?_ hc
  refine super_new Z henv I e hp hi hs hka hm hb (by decide) fun so h' hsz hso k => ?_
  have I1 : Inv X pins σ H { s with heap := h' } := I.kept (t' := s.toks) k
  have kx := I1.kIn
  obtain ⟨t1, hx⟩ := exo_at I1.hok e
  cases hcl : PySem.W.clsIn X.K C with
  | none => have z := Z.sup; unfold PySem.W.ks_superIn at z; rw [hcl] at z; cases z
  | some cd =>
    have hsup := Z.sup
    unfold PySem.W.ks_superIn at hsup
    rw [hcl] at hsup
    have J : PySem.W.InstAt h' a { cls := .ref C, dict := none, data := .fields #[.ref t1, .none, .none, .none, .bool false, .none] } C none := ⟨hx, rfl, rfl, trivial⟩
    have hI : PySem.W.Looks (model X.prog X.w) h' (isInstance (.ref a) (.type "ValueError")) true := J.type.andThen (PySem.W.looks_subIn kx Z.isV)
    refine PySem.W.kxs_getMethod PySem.W.kxs_ValueError hso (PySem.W.looks_opaque kx Z.any) (l₀ := cd.mro) ?_ rfl kx hsup hI (PySem.W.ks_ne kx J hcl) (by decide) ?_
    · exact fun A Q E s k q => wpAny_bind ((PySem.W.looks_clsIn kx hcl) A _ E s k (wpAny_pure q))
    · have I2 : Inv X ((h'.objs.size, PySem.W.kxs_mw "ValueError.__init__" a) :: pins) σ H { s with heap := h'.push (PySem.W.kxs_mw "ValueError.__init__" a), toks := s.toks + 1 } :=
        ClX.pin_new (s := { s with heap := h' }) (t' := s.toks + 1) I1 (fun b o q => Heap.get?_push_of_some _ q) (Nat.le_refl _) (Heap.get?_push_at rfl rfl) fun v z => nomatch z
      show wpAny _ _ (callWith p3 (.ref h'.objs.size) [] (backTo p3 (starEach [ev] X.env)) []) _ _ _
      have ha : PA X [ev] (tCons te tNil) := pa_cons he pa_nil hst
      have hrun := ha.run p3 ((h'.objs.size, PySem.W.kxs_mw "ValueError.__init__" a) :: pins) _ σ H (fun vs H1 => match vs with | [v] => H1 a = some (exo a C none) ∧ Q H1 | _ => False) I2 h
      rw [hst] at hrun ⊢
      refine PySem.W.kxs_callWith (i := "ValueError.__init__") (x := a) (by show (false || (backTo p3 (starEach [] X.env)).any (·.1)) = false; rw [hpl]; rfl) (PySem.Calls.evalArgs_plain (thn hrun fun us s3 ⟨vs, H1, I3, rv, hz⟩ => ⟨(ClX.pin_at I3 : _), ?_⟩))
      match vs, rv, hz with
      | [v], rv, ⟨ea, q⟩ =>
        exact mw_call T (ClX.unpin I3) ea (ClX.pin_at I3) (by show us.length ≤ sizeLine; rw [← Paired.length rv, sizeLine_eq]; show 1 ≤ 16777216; decide) fun s' J => ⟨rfl, H1, J, ea, q⟩
end
/-! ### the stores behind it -/
def tOsts (K : PySem.W.Frag) : List (Str × Nat) → TS
  | [] => tNext
  | (f, i) :: r => tSeq (tOst K f (tVar 0) (tVar i)) (tOsts K r)
theorem upd_upd {H : Hp} {a : Addr} {o u : HO} : upd (upd H a o) a u = upd H a u := by
  funext b
  by_cases hb : b = a
  · rw [hb, upd_same, upd_same]
  · rw [upd_ne hb, upd_ne hb, upd_ne hb]
/-- fields and values, the last one first -/
def revZ : List (Str × Nat) → List V → List (Str × V) → List (Str × V)
  | (f, _) :: r, v :: vs, acc => revZ r vs ((f, v) :: acc)
  | _, _, acc => acc
theorem upd_id {H : Hp} {a : Addr} {o : HO} (h : H a = some o) : upd H a o = H := by
  funext b
  by_cases hb : b = a
  · rw [hb, upd_same, h]
  · rw [upd_ne hb]
theorem osts_old {K : PySem.W.Frag} {a C d : Addr} {σ : L2.St} {D : Ends} (T : OexC K C) (hs : σ[0]? = some (some (.ref a))) (hda : a ≠ d) : ∀ (fs : List (Str × Nat)) (vs : List V) (acc : List (Str × V)) (H : Hp), fs.length = vs.length → acc.length + fs.length ≤ 900 →
    (∀ (j : Nat) (f : Str) (i : Nat), fs[j]? = some (f, i) → PySem.W.findIn K (.ref C) f = some none ∧ ∀ v, vs[j]? = some v → σ[i]? = some (some v)) → H a = some (exo a C (some d)) → H d = some (exd d acc) → D.nx σ (upd H d (exd d (revZ fs vs acc))) → tOsts K fs D σ H
  | [], vs, acc, H, hl, hz, hf, ha, hd, h => by
    cases vs with
    | nil =>
      have e : upd H d (exd d (revZ [] [] acc)) = H := upd_id hd
      rw [e] at h
      exact h
    | cons v vs => simp at hl
  | (f, i) :: fs, vs, acc, H, hl, hz, hf, ha, hd, h => by
    cases vs with
    | nil => simp at hl
    | cons v vs =>
      obtain ⟨h1, h2⟩ := hf 0 f i rfl
      have h3 := h2 v rfl
      refine ⟨v, h3, .ref a, hs, a, C, rfl, T, h1, .inr ⟨d, acc, ha, hd, by simp at hz; omega, ?_⟩⟩
      refine osts_old T hs hda fs vs ((f, v) :: acc) _ (by simpa using hl) (by simp at hz ⊢; omega) (fun j g i' q => hf (j + 1) g i' (by simpa using q)) (by rw [upd_ne hda]; exact ha) upd_same ?_
      rw [upd_upd]
      exact h
theorem osts_new {K : PySem.W.Frag} {a C : Addr} {σ : L2.St} {D : Ends} (T : OexC K C) (hs : σ[0]? = some (some (.ref a))) (f : Str) (i : Nat) (fs : List (Str × Nat)) (v : V) (vs : List V) (H : Hp) (hl : fs.length = vs.length) (hz : fs.length ≤ 800)
    (hf : ∀ (j : Nat) (g : Str) (i' : Nat), ((f, i) :: fs)[j]? = some (g, i') → PySem.W.findIn K (.ref C) g = some none ∧ ∀ u, (v :: vs)[j]? = some u → σ[i']? = some (some u)) (ha : H a = some (exo a C none))
    (h : ∀ (d : Addr), H d = none → d ≠ a → D.nx σ (upd (upd H a (exo a C (some d))) d (exd d (revZ ((f, i) :: fs) (v :: vs) [])))) : tOsts K ((f, i) :: fs) D σ H := by
  obtain ⟨h1, h2⟩ := hf 0 f i rfl
  have h3 := h2 v rfl
  refine ⟨v, h3, .ref a, hs, a, C, rfl, T, h1, .inl ⟨ha, fun d hd hda => ?_⟩⟩
  refine osts_old T hs (Ne.symm hda) fs vs [(f, v)] _ hl (by simp; omega) (fun j g i' q => hf (j + 1) g i' (by simpa using q)) upd_same (by rw [upd_ne hda, upd_same]) ?_
  have e : upd (upd (upd H d (exd d [(f, v)])) a (exo a C (some d))) d (exd d (revZ fs vs [(f, v)])) = upd (upd H a (exo a C (some d))) d (exd d (revZ fs vs [(f, v)])) := by
    funext b
    by_cases hb : b = d
    · rw [hb, upd_same, upd_same]
    · rw [upd_ne hb, upd_ne hb]
      by_cases hb2 : b = a
      · rw [hb2, upd_same, upd_same]
      · rw [upd_ne hb2, upd_ne hb2, upd_ne hb]
  rw [e]
  exact h d hd hda
/-! ### a text that is not told -/
def rdM (T : Tab) (K : PySem.W.Frag) (xi : Xi) (W : WX) (m : EM) : TE := fun σ H Q => ∃ μ ρ st, RSt T K xi μ H st ∧ REnv T K μ H ρ σ ∧ Post (β := V) T K xi (fun _ _ _ _ => True) (fun c d H' => W c d σ H') Q μ H (m ρ st)
inductive PM (T : Tab) (X : Cx) (xi : Xi) (W : WX) : List Expr → List EM → Prop where
  | nil : PM T X xi W [] []
  | con {x : Str} {j : Nat} {pos : Pos} {es : List Expr} {ps : List EM} (t : Tx) (r : PM T X xi W es ps) (h : x = tx t := by rfl) : PM T X xi W (.Constant (.str x) j pos :: es) (eC (.str t) :: ps)
  | fmt {e : Expr} {pos : Pos} {p : EM} {es : List Expr} {ps : List EM} (h : PE X e (rdE T X.K xi W p)) (r : PM T X xi W es ps) : PM T X xi W (.FormattedValue e (-1) none pos :: es) (p :: ps)
theorem str_append_len (x y : Str) : (x ++ y).length = x.length + y.length := PySem.strLen_append x y
theorem pm_run {T : Tab} {X : Cx} {xi : Xi} {W : WX} {es : List Expr} {ps : List EM} (h : PM T X xi W es ps) : ∃ ts, PJ X es ts ∧ ∀ (acc : Str) (c : Nat) (μ : List Addr) (ρ : Env) (st : Sto) (σ : L2.St) (H : Hp) (Q : V → Hp → Prop), acc.length ≤ c → c ≤ SZ → RSt T X.K xi μ H st → REnv T X.K μ H ρ σ →
    Post (β := V) T X.K xi (fun _ _ _ _ => True) (fun c d H' => W c d σ H') Q μ H (msgN ps c ρ st) → tJs ts acc σ H fun out H1 => Q (.str out) H1 := by
  induction h with
  | nil => exact ⟨[], .nil, fun acc c μ ρ st σ H Q hc hz r0 e0 p => p μ H (.str acc) .refl r0 trivial⟩
  | @con x j pos es ps t r h ih =>
    subst h
    obtain ⟨ts, pj, ht⟩ := ih
    refine ⟨_, .cons pe_str pj, fun acc c μ ρ st σ H Q hc hz r0 e0 p => ⟨tx t, rfl, ?_, ?_⟩⟩
    all_goals
      unfold msgN at p
      have p : Post (β := V) T X.K xi (fun _ _ _ _ => True) (fun c d H' => W c d σ H') Q μ H (if c + t.length ≤ SZ then msgN ps (c + t.length) ρ st else .bad) := p
      by_cases hb : c + t.length ≤ SZ
    · rw [str_append_len, tx_len, ← SZ_line]; omega
    · rw [if_neg hb] at p; exact p.elim
    · rw [if_pos hb] at p
      exact ht _ _ μ ρ st σ H Q (by rw [str_append_len, tx_len]; omega) hb r0 e0 p
    · rw [if_neg hb] at p; exact p.elim
  | @fmt e pos q es ps he r ih =>
    obtain ⟨ts, pj, ht⟩ := ih
    refine ⟨_, .cons (pe_fmt he) pj, fun acc c μ ρ st σ H Q hc hz r0 e0 p => ?_⟩
    unfold msgN at p
    refine ⟨μ, ρ, st, r0, e0, Post.bind p fun x st1 μ1 H1 u e1 r1 q1 p1 => ?_⟩
    cases x with
    | str y =>
      simp only at p1
      by_cases hb : c + y.length ≤ SZ
      · rw [if_pos hb] at p1
        refine .inl ⟨tx y, q1.str, by rw [tx_len, ← SZ_line]; omega, tx y, rfl, by rw [str_append_len, tx_len, ← SZ_line]; omega, ?_⟩
        exact ht _ _ μ1 ρ st1 σ H1 Q (by rw [str_append_len, tx_len]; omega) hb r1 (e0.ext e1) p1
      · rw [if_neg hb] at p1; exact p1.elim
    | int i =>
      simp only at p1
      by_cases hb : i.natAbs.log2 < 1920 ∧ c + 1921 ≤ SZ
      · rw [if_pos hb] at p1
        have hl : (PySem.Str.ofString (toString i)).length ≤ 1921 := PyProof.Rows.int_text_len_1921 hb.1
        refine .inr ⟨i, q1.int, hb.1, _, rfl, by rw [str_append_len, ← SZ_line]; omega, ?_⟩
        exact ht _ _ μ1 ρ st1 σ H1 Q (by rw [str_append_len]; omega) hb.2 r1 (e0.ext e1) p1
      · rw [if_neg hb] at p1; exact p1.elim
    | _ => exact p1.elim
theorem sm_joined {T : Tab} {X : Cx} {xi : Xi} {W : WX} {v1 v2 : Expr} {rest : List Expr} {ps : List EM} {pos : Pos} (h : PM T X xi W (v1 :: v2 :: rest) ps) : PE X (.JoinedStr (v1 :: v2 :: rest) pos) (rdM T X.K xi W (msgN ps 0)) := by
  obtain ⟨ts, pj, ht⟩ := pm_run h
  exact PE.mono (pe_joined pj) fun σ H Q ⟨μ, ρ, st, r0, e0, p⟩ => ht _ 0 μ ρ st σ H Q (Nat.le_refl _) (Nat.zero_le _) r0 e0 p
/-! ### the def __init__ -/
def spI (T : Tab) (K : PySem.W.Frag) (C : Addr) (fs : List (Str × Nat)) (me : EM) : Sp := fun vs H Q _ => ∃ (a : Addr) (ws : List V) (l : List S), vs = .ref a :: ws ∧ H a = some (exo a C none) ∧ RepL T K [] H l ws ∧ fs.length = ws.length ∧
  (∃ x st', me (none :: (l.map some ++ [none])) [] = .ok x st') ∧ ∀ (H' : Hp) (d : Addr), (∀ b o, b ≠ a → H b = some o → H' b = some o) → H d = none → d ≠ a → H' a = some (exo a C (some d)) → H' d = some (exd d (revZ fs ws [])) → Q .non H'
structure RunI (T : Tab) (P : Program) (w : World) (K : PySem.W.Frag) (mg : Str → Option Value) (base : Heap) (k : Nat) (f C : Addr) (fd : FuncData) (ps : List Str) (fs : List (Str × Nat)) (me : EM) : Prop where
  run : ∀ (A : Around) (outer : List PySem.Env) (s : Shared) (H : Hp) (us : List Value) (vs : List V) (Q : VK) (E : XK), RoomS k A → Env0 P w K mg base A outer s H → BindsTo s fd ⟨us, []⟩ (ps.zip us) → Vals vs us → vs.length = ps.length →
    spI T K C fs me vs H Q E → codeAny (model P w) A (.call (.ref f) ⟨us, []⟩) (CR (L2.CX P w) outer P w H s Q E) s
theorem runI_of {T : Tab} {P : Program} {w : World} {K : PySem.W.Frag} {mg : Str → Option Value} {base : Heap} {k : Nat} {f C D cc : Addr} {F : NdefX.NF} {N ps : List Str} {fs : List (Str × Nat)} {me : EM} {ar : Arg} {p0 p1 p2 p3 p4 : Pos} {ev : Expr} {rest : List Stmt}
    (T0 : OexC K C) (Z : XiF P K F f C D cc) (S0 : NdefX.NScope N ps ["__class__"] F.scope) (hN : N = ps ++ [("__class__" : Str)]) (hbody : F.body = .Expr (.Call (.Attribute (.Call (.Name "super" p0) [] [] p1) "__init__" p2) [ev] [] p3) p4 :: rest)
    (hp : (F.params.posonlyargs ++ F.params.args).head? = some ar) (hps : ps[0]? = some ar.arg) (hm : mg "super" = none) (hb : bootBuiltins "super" = some (.type "super")) (hfs : fs ≠ []) (hz : fs.length ≤ 800)
    (hfi : ∀ (j : Nat) (g : Str) (i : Nat), fs[j]? = some (g, i) → i = j + 1 ∧ PySem.W.findIn K (.ref C) g = some none) (pl : Addr → Sem Bool)
    (he : ∀ (A : Around) (outer : List PySem.Env) (s : Shared) (H : Hp) (E : XK), RoomS k (A.deeper (NdefX.envF F f s.heap.objs.size)) → PE (NdefX.ncx (L2.CX P w) P w K mg base N F f A outer s H E) ev (rdM T K none (fun _ _ _ _ => False) me))
    (hr : ∀ (A : Around) (outer : List PySem.Env) (s : Shared) (H : Hp) (E : XK), RoomS k (A.deeper (NdefX.envF F f s.heap.objs.size)) → PSs (NdefX.ncx (L2.CX P w) P w K mg base N F f A outer s H E) rest (tOsts K fs))
    (hint : ∀ L, interactive (NdefX.envF F f L) = false := by intro _; rfl)
    (hsw : ∀ L, swapsWith (.Call (.Attribute (.Call (.Name "super" p0) [] [] p1) "__init__" p2) [ev] [] p3) none p4.line (NdefX.envF F f L) = pure false := by intro _; rfl)
    (hst : ∀ L, starEach [ev] (NdefX.envF F f L) = (false, eval ev (NdefX.envF F f L)) :: starEach [] (NdefX.envF F f L) := by intro _; rfl)
    (hc : ∀ L, eval (.Call (.Attribute (.Call (.Name "super" p0) [] [] p1) "__init__" p2) [ev] [] p3) (NdefX.envF F f L) = (do
      let ov ← attributeBase (.Call (.Name "super" p0) [] [] p1) "__init__" (NdefX.envF F f L) (eval (.Call (.Name "super" p0) [] [] p1) (NdefX.envF F f L))
      standAt p2.atName
      let (g, first) ← holding [ov] (getMethod ov "__init__" (pl L))
      callWith p3 g first (backTo p3 (starEach [ev] (NdefX.envF F f L))) []) := by intro _; rfl) :
    ∃ (kV doc pm : Value) (an : Option Addr) (ct : Value), RunI T P w K mg base (k + 1) f C (PySem.W.fnX F.name F.qual F.params F.body F.scope F.cl .none kV doc pm an (.ref F.c) ct) ps fs me := by
  obtain ⟨oc, od, dV, kV, doc, pm, an, ct, osl, hdV, lk⟩ := id Z.fn
  subst hdV
  refine ⟨kV, doc, pm, an, ct, ⟨fun A outer s H us vs Q E hr0 e0 hbd rv hl hsp => ?_⟩⟩
  obtain ⟨a, ws, l, ev0, ea, rl, hlf, ⟨x, st', hx⟩, hq⟩ := hsp
  have KX : K.In s.heap := e0.mod.kin.keeps fun b o e => (e0.bs b o e).1
  have lim : s.heap.NoLimit := e0.mod.nolimit.keeps fun b o e => (e0.bs b o e).1
  have hdepth : A.depth < recursionLimit := by have z := hr0.dp; omega
  have hloc : ∀ y ∈ ps.zip us, F.scope.names.lookup y.1 = some .local := fun y hy => by
    obtain ⟨n, v⟩ := y
    exact S0.par n (List.of_mem_zip hy).1
  refine ks_codeAny_call_defAt (fd := PySem.W.fnX F.name F.qual F.params F.body F.scope F.cl .none kV doc pm an (.ref F.c) ct) (body := F.body) (binds := ps.zip us) hdepth (KX _ _ lk) rfl lim (PySem.W.codeRec_of KX Z.hcd) rfl hbd S0.nocell hloc (fun h₁ hns kp => ?_) S0.co S0.gen S0.kind
  have hlz : (ps.zip us).length = (ps.zip us).length := rfl
  obtain ⟨ccl, cld, csl, hcell⟩ := Z.cell
  have cells : NdefX.CellsAt F.cl ["__class__"] [some (.ref D)] s.heap H := by
    refine ⟨rfl, fun y c e => ?_, fun y z c e1 e2 => ?_, fun i y e => ?_⟩
    · rw [Z.cl] at e
      have e' := PySem.mem_of_lookup e
      have e2 : (y, c) = ((("__class__" : Str), cc) : Str × Addr) := by simpa using e'
      injection e2 with e3 e4
      subst e4
      cases hK : base.get? c with
      | none => exact absurd (e0.mod.kin _ _ hcell) (by rw [hK]; exact fun z => nomatch z)
      | some o => exact ⟨(e0.bs c o hK).2, ⟨_, ⟨_, KX _ _ hcell, rfl⟩⟩⟩
    · rw [Z.cl] at e1 e2
      have e1' := PySem.mem_of_lookup e1
      have e2' := PySem.mem_of_lookup e2
      have f1 : (y, c) = ((("__class__" : Str), cc) : Str × Addr) := by simpa using e1'
      have f2 : (z, c) = ((("__class__" : Str), cc) : Str × Addr) := by simpa using e2'
      injection f1 with f3 _
      injection f2 with f4 _
      rw [f3, f4]
    · cases i with
      | zero =>
        have ey : ("__class__" : Str) = y := by simpa using e
        subst ey
        refine ⟨cc, by rw [Z.cl]; rfl, fun v hv => ?_⟩
        have ev : (V.ref D) = v := by simpa using hv
        subst ev
        exact ⟨.ref D, rfl, ⟨_, KX _ _ hcell, rfl⟩⟩
      | succ i => simp at e
  have I : Inv (NdefX.ncx (L2.CX P w) P w K mg base N F f A outer s H E) [] (NdefX.startF N vs [some (.ref D)]) H { s with heap := h₁, toks := s.toks + (ps.zip us).length } := NdefX.inv_startN S0 hr0.hd e0 hl rv cells hns kp
  have hlw : ps.length = ws.length + 1 := by rw [← hl, ev0]; rfl
  have hst0 : NdefX.startF N vs [some (.ref D)] = some (.ref a) :: (ws.map some ++ [some (.ref D)]) := by
    unfold NdefX.startF
    rw [hN, ev0]
    have e0 : (ps ++ [("__class__" : Str)]).length - (V.ref a :: ws).length - [some (V.ref D)].length = 0 := by
      rw [List.length_append, List.length_cons]
      simp
      omega
    rw [e0]
    simp
  rw [hst0] at I
  have hrm := hr0.deeper (NdefX.envF F f s.heap.objs.size)
  have pe := he A outer s H E hrm
  have prs := hr A outer s H E hrm
  rw [hbody]
  have hsz : 0 < ps.length := by omega
  have hi0 : (NdefX.ncx (L2.CX P w) P w K mg base N F f A outer s H E).N[0]? = some ar.arg := by
    show N[0]? = _
    rw [hN, List.getElem?_append_left hsz]
    exact hps
  have hka : F.scope.names.lookup ar.arg = some .local := S0.par _ (List.mem_of_getElem? hps)
  refine ks_wpAt_execs_cons (ks_wpAt_mono (super_init (X := NdefX.ncx (L2.CX P w) P w K mg base N F f A outer s H E) (T := T0) (pl := pl s.heap.objs.size) (Q := fun H1 => ∀ b o, H b = some o → H1 b = some o) Z rfl I ea hp hi0 rfl hka hm hb pe ?_ (hint _) (hsw _) (hst _) rfl (hc _)) (fun fl s' hs => ?_) fun _ _ y => y)
  · have hlen := rl.len
    refine ⟨[], none :: (l.map some ++ [none]), [], .empty, ⟨by simp [hlen], fun i t ht => ?_⟩, ?_⟩
    · cases i with
      | zero => simp at ht
      | succ i =>
        rw [List.getElem?_cons_succ] at ht ⊢
        by_cases hi : i < l.length
        · rw [List.getElem?_append_left (by simpa using hi), List.getElem?_map] at ht
          have e : l[i]? = some t := by
            cases e : l[i]? with
            | none => rw [e] at ht; cases ht
            | some z => rw [e] at ht; exact congrArg some (Option.some.inj (Option.some.inj ht))
          obtain ⟨v, h1, h2⟩ := rl.get e
          exact ⟨v, by rw [List.getElem?_append_left (by rw [List.length_map, ← hlen]; exact hi), List.getElem?_map, h1]; rfl, h2⟩
        · rw [List.getElem?_append_right (by rw [List.length_map]; omega)] at ht
          cases hj : i - (l.map some).length with
          | zero => rw [hj] at ht; simp at ht
          | succ j => rw [hj] at ht; simp at ht
    · rw [hx]
      exact fun μ' H' u e1 r1 q1 => ⟨Ext.keeps e1 _ _ ea, Ext.keeps e1⟩
  · obtain ⟨rfl, H1, I1, ea1, kH⟩ := hs
    refine wpAt_of_wpAny ?_
    cases fs with
    | nil => exact absurd rfl hfs
    | cons q fs =>
      obtain ⟨g, i⟩ := q
      cases ws with
      | nil => simp at hlf
      | cons v ws =>
        have hqs : tOsts K ((g, i) :: fs) { nx := fun _ H' => Q .non H', rt := Q } (some (.ref a) :: ((v :: ws).map some ++ [some (.ref D)])) H1 := by
          refine osts_new T0 rfl g i fs v ws H1 (by simpa using hlf) (by simp at hz; omega) (fun j g' i' q => ?_) ea1 fun d hd hda => ?_
          · obtain ⟨e1, e2⟩ := hfi j g' i' q
            refine ⟨e2, fun u hu => ?_⟩
            have hj : j < (v :: ws).length := (List.getElem?_eq_some_iff.mp hu).1
            rw [e1, List.getElem?_cons_succ, List.getElem?_append_left (by rw [List.length_map]; exact hj), List.getElem?_map, hu]
            rfl
          · have hd0 : H d = none := by
              cases z : H d with
              | none => rfl
              | some o => rw [kH _ _ z] at hd; cases hd
            exact hq _ d (fun b o hb z => by rw [upd_ne (fun e => by rw [e, hd0] at z; cases z), upd_ne hb]; exact kH _ _ z) hd0 hda (by rw [upd_ne (Ne.symm hda), upd_same]) upd_same
        refine wpAny_mono (prs.run [] _ _ H1 _ I1 hqs) (fun fl s' hs => ?_) fun e s' hs => hs
        cases fl with
        | ret u =>
          obtain ⟨v, σ', H', J, rr, q⟩ := hs
          exact ⟨v, H', J.os, J.bare, J.base, J.hok, rr, q⟩
        | next =>
          obtain ⟨σ', H', J, q⟩ := hs
          exact ⟨.non, H', J.os, J.bare, J.base, J.hok, rfl, q⟩
        | brk => obtain ⟨_, _, _, q⟩ := hs; exact False.elim q
        | cont => obtain ⟨_, _, _, q⟩ := hs; exact False.elim q
/-! ### C(..), and raise -/
structure GXi (T : Tab) (P : Program) (w : World) (K : PySem.W.Frag) (mg : Str → Option Value) (base : Heap) (k : Nat) (c : Nat) (x : Str) (fsN : List Nat) (me : EM) : Prop where
  ex : ∃ (f : Addr) (fd : FuncData) (ps : List Str) (fsS : List (Str × Nat)), RunI T P w K mg base k f (T.clsA K c) fd ps fsS me ∧ Binds K fd ps [] ∧ OexC K (T.clsA K c) ∧ PySem.W.findIn K (.ref (T.clsA K c)) "__init__" = some (some (.ref f)) ∧
    PySem.W.typeIn K (.ref f) = some (.type "function") ∧ mg x = some (.ref (T.clsA K c)) ∧ fsS.map (·.1) = fsN.map T.fld ∧ ps.length = fsS.length + 1
  lt : ∀ j ∈ fsN, j < T.flds.length
  few : fsN.length ≤ 100
theorem zipX_rep {T : Tab} {K : PySem.W.Frag} {μ : List Addr} {H : Hp} : ∀ {fsN : List Nat} {fsS : List (Str × Nat)} {l : List S} {ws : List V} {acc : List (Nat × S)} {acv : List (Str × V)}, fsS.map (·.1) = fsN.map T.fld → (∀ j ∈ fsN, j < T.flds.length) → RepL T K μ H l ws → RepF T K μ H acc acv → RepF T K μ H (zipX fsN l acc) (revZ fsS ws acv)
  | [], fsS, l, ws, acc, acv, hm, hl, hr, ha => by
    cases fsS with
    | nil => cases l <;> cases ws <;> exact ha
    | cons q fsS => simp at hm
  | k :: fsN, fsS, l, ws, acc, acv, hm, hl, hr, ha => by
    cases fsS with
    | nil => simp at hm
    | cons q fsS =>
      obtain ⟨g, i⟩ := q
      rw [List.map_cons, List.map_cons] at hm
      injection hm with h1 h2
      cases l with
      | nil =>
        have e : ws = [] := by unfold RepL at hr; exact hr
        subst e
        exact ha
      | cons v l =>
        unfold RepL at hr
        obtain ⟨u, r, e, q1, q2⟩ := hr
        subst e
        have e1 : g = T.fld k := h1
        subst e1
        show RepF T K μ H (zipX fsN l ((k, v) :: acc)) (revZ fsS r ((T.fld k, u) :: acv))
        exact zipX_rep h2 (fun j hj => hl j (List.mem_cons_of_mem _ hj)) q2 ⟨u, acv, rfl, hl k List.mem_cons_self, q1, ha⟩
section
variable {T : Tab} {X : Cx} {W : WX} {k : Nat}
def rdX (T : Tab) (K : PySem.W.Frag) (W : WX) (m : PySem.W.Frag → Env → Sto → Res Ex) : L2.St → Hp → XK → Prop := fun σ H Q => ∃ μ ρ st, RSt T K none μ H st ∧ REnv T K μ H ρ σ ∧
  Post (β := Value × Option Addr) T K none (fun μ H e y => RExc T K μ H e y.1 y.2) (fun c d H' => W c d σ H') (fun y H' => Q y.1 y.2 H') μ H (m K ρ st)
theorem pmk_S {e : Expr} {es : List Expr} {m : AM} {x : Str} {c : Nat} {fsN : List Nat} {me : EM} {p pos : Pos} (b : Bd T X W (k + 1)) (G : GXi T X.prog X.w X.K X.mg X.base k c x fsN me) (ha : PA X (e :: es) (rdA T X.K none W m)) (hg : Gl X x := by rfl) (hdb : (x == ("__debug__" : Str)) = false := by decide)
    (he : starEach (e :: es) X.env = (false, eval e X.env) :: starEach es X.env := by rfl) (hpl : (backTo pos (starEach es X.env)).any (·.1) = false := by rfl) : PMk X (.Call (.Name x p) (e :: es) [] pos) (rdX T X.K W fun _ => eMkX c fsN me m) := by
  obtain ⟨f, fd, ps, fsS, R, hb, T0, iC, tI, gC, hfs, hpl2⟩ := G.ex
  intro pins s σ H Q I ⟨μ, ρ, st, r0, e0, q⟩
  obtain ⟨nm, qn, N, bs, bm, sn, sub, ab, col, dd, k0, k1, k2, k3, k5, hC, hbm⟩ := T0.cls
  refine wpAny_Call_Name_kw (ld_glob I hg gC ?_ hdb)
  refine PySem.W.callWith_K (h₀ := X.base) I.ok.mod.kin T0.kC (thn (ha.run pos pins s σ H (fun vs H1 => ∃ μ l st, RSt T X.K none μ H1 st ∧ RepL T X.K μ H1 l vs ∧ S.cleanL l = true ∧ l.length = fsN.length ∧ (∃ x st', me (none :: (l.map some ++ [none])) [] = .ok x st') ∧
    ∀ μ' H' d, Ext X.K μ H1 μ' H' → RSt T X.K none μ' H' st → RExc T X.K μ' H' ⟨c, zipX fsN l []⟩ (.ref (T.clsA X.K c)) d → Q (.ref (T.clsA X.K c)) d H') I ⟨μ, ρ, st, r0, e0, Post.bind q fun l st1 μ1 H1 vs e1 r1 q1 p1 => ?_⟩) fun us s1 hh => ?_) he hpl
  · by_cases hcl : S.cleanL l = true ∧ l.length = fsN.length
    · rw [if_pos hcl] at p1
      cases hme : me (none :: (l.map some ++ [none])) [] with
      | ok y s' =>
        rw [hme] at p1
        exact ⟨μ1, l, st1, r1, q1, hcl.1, hcl.2, ⟨_, _, hme⟩, fun μ' H' d e2 r2 x2 => p1 μ' H' (_, d) e2 r2 x2⟩
      | exc y s' => rw [hme] at p1; exact p1.elim
      | bad => rw [hme] at p1; exact p1.elim
    · rw [if_neg hcl] at p1; exact p1.elim
  · obtain ⟨vs, H1, I1, r1, μ1, l, st1, rs, rl, hcl, hll, hme, hq⟩ := hh
    refine ⟨I1.kIn, ?_⟩
    show wpAny _ _ (call (.ref (T.clsA X.K c)) us) _ _ _
    obtain ⟨hp, g, dr, tk, os⟩ := s1
    have hsz : hp.objs.size ≤ hp.objs.size + 1 := Nat.le_succ _
    have hn : H1 (hp.objs.size + 1) = none := I1.hok.fresh hsz
    have kk : ∀ b o, hp.get? b = some o → ((hp.push (PySem.W.kdv_tup us)).push (PySem.HandSPX.excO (T.clsA X.K c) hp.objs.size)).get? b = some o := fun b o e => Heap.get?_push_of_some _ (Heap.get?_push_of_some _ e)
    have hget : ((hp.push (PySem.W.kdv_tup us)).push (PySem.HandSPX.excO (T.clsA X.K c) hp.objs.size)).get? (hp.objs.size + 1) = some (PySem.HandSPX.excO (T.clsA X.K c) hp.objs.size) := by heap_get
    have I2 : Inv X pins σ (upd H1 (hp.objs.size + 1) (exo (hp.objs.size + 1) (T.clsA X.K c) none)) ⟨(hp.push (PySem.W.kdv_tup us)).push (PySem.HandSPX.excO (T.clsA X.K c) hp.objs.size), g, dr, tk, os⟩ :=
      I1.laid (t' := tk) (a := hp.objs.size + 1) (o := exo (hp.objs.size + 1) (T.clsA X.K c) none) (h' := (hp.push (PySem.W.kdv_tup us)).push (PySem.HandSPX.excO (T.clsA X.K c) hp.objs.size)) kk hsz (exo_ok hget)
    have r2 : Vals (V.ref (hp.objs.size + 1) :: vs) (Value.ref (hp.objs.size + 1) :: us) := .cons rfl r1
    have hlv := rl.len
    have hlS : fsS.length = fsN.length := by have z := congrArg List.length hfs; simpa using z
    have hl2 : (V.ref (hp.objs.size + 1) :: vs).length = ps.length := by rw [List.length_cons]; omega
    have hl3 : (Value.ref (hp.objs.size + 1) :: us).length = ps.length := by rw [← r2.length]; exact hl2
    have hus : us.length ≤ sizeLine := by
      rw [← Paired.length r1, sizeLine_eq, ← hlv, hll]
      exact Nat.le_trans G.few (by decide)
    have bd := hb ⟨(hp.push (PySem.W.kdv_tup us)).push (PySem.HandSPX.excO (T.clsA X.K c) hp.objs.size), g, dr, tk, os⟩ (Value.ref (hp.objs.size + 1) :: us) I2.kIn (by rw [List.append_nil]; exact hl3)
    rw [List.append_nil] at bd
    have hsp : spI T X.K (T.clsA X.K c) fsS me (V.ref (hp.objs.size + 1) :: vs) (upd H1 (hp.objs.size + 1) (exo (hp.objs.size + 1) (T.clsA X.K c) none))
        (fun v H2 => v = .non ∧ ∃ (d : Addr) (gs : List (Str × V)), H2 (hp.objs.size + 1) = some (exo (hp.objs.size + 1) (T.clsA X.K c) (some d)) ∧ H2 d = some (exd d gs) ∧ H1 d = none ∧ Q (.ref (T.clsA X.K c)) (some d) (upd (del H2 (hp.objs.size + 1)) d (.xd gs))) (fun _ _ _ => False) := by
      refine ⟨_, vs, l, rfl, upd_same, rl.clean (fun a ws z => SqT.keep (fun b o h => by rw [upd_ne (fun e => by rw [e, hn] at h; cases h)]; exact h) z) hcl, by omega, hme, fun H' d k1 k2 k3 k4 k5 => ⟨rfl, d, _, k4, k5, ?_, ?_⟩⟩
      · rw [upd_ne k3] at k2; exact k2
      · have hd1 : H1 d = none := by rw [upd_ne k3] at k2; exact k2
        have kp : ∀ b o, H1 b = some o → upd (del H' (hp.objs.size + 1)) d (.xd (revZ fsS vs [])) b = some o := fun b o h => by
          have n1 : b ≠ hp.objs.size + 1 := fun e => by rw [e, hn] at h; cases h
          have n2 : b ≠ d := fun e => by rw [e, hd1] at h; cases h
          rw [upd_ne n2, del_ne n1]
          exact k1 b o n1 (by rw [upd_ne n1]; exact h)
        have ex : Ext X.K μ1 H1 μ1 (upd (del H' (hp.objs.size + 1)) d (.xd (revZ fsS vs []))) := .of_keep kp
        have rf : RepF T X.K μ1 (upd (del H' (hp.objs.size + 1)) d (.xd (revZ fsS vs []))) (zipX fsN l []) (revZ fsS vs []) := zipX_rep (acc := []) (acv := []) hfs G.lt (rl.ext ex) rfl
        refine hq μ1 _ (some d) ex (rs.of_keep kp) ⟨rfl, .inr ⟨d, _, rfl, upd_same, fun j t hj => ?_⟩⟩
        have hjl : j < T.flds.length := by
          have zm : ∀ (fs : List Nat) (l : List S) (acc : List (Nat × S)), (∀ j ∈ fs, j < T.flds.length) → (∀ q ∈ acc, q.1 < T.flds.length) → ∀ q ∈ zipX fs l acc, q.1 < T.flds.length := by
            intro fs
            induction fs with
            | nil => intro l acc _ h2 q hq; cases l <;> exact h2 q hq
            | cons k fs ih =>
              intro l acc h1 h2 q hq
              cases l with
              | nil => exact h2 q hq
              | cons v l => exact ih l _ (fun j hj => h1 j (List.mem_cons_of_mem _ hj)) (fun q hq => (List.mem_cons.mp hq).elim (fun e => by rw [e]; exact h1 k List.mem_cons_self) (h2 q)) q hq
          exact zm fsN l [] G.lt (fun q hq => by simp at hq) _ (memN_look hj)
        exact (RepF.look (X := X) b.ok.nd hjl rf).1 t hj
    refine wpAny_call (PySem.HandSPX.call_own PySem.F.excBase_ValueError (fun Y => PySem.HandSPX.refsVE_contains Y bm hbm) (I1.kIn _ _ hC) (PySem.W.looks_findIn I1.kIn iC) (fun self => PySem.W.bind_fn I1.kIn self tI) hus
      (codeAny_mono (R.run _ X.stack _ _ (Value.ref (hp.objs.size + 1) :: us) _ _ (fun _ _ _ => False) (b.rm.make (T.clsA X.K c) us []) (I2.env0.make (T.clsA X.K c) us []) bd r2 hl2 hsp) fun z s' hq' => ?_))
    cases z with
    | error er =>
      obtain ⟨_, _, _, _, _, _, _, _, _, _, _, _, z⟩ := hq'
      exact z.elim
    | ok fl =>
      cases fl with
      | ret u =>
        obtain ⟨v, H2, os2, bare2, un2, hok2, rv, ev, d, fs, ea, ed, hd1, q2⟩ := hq'
        subst ev
        obtain ⟨h2, g2, d2, t2, os'⟩ := s'
        exact ⟨rv, mk_end (raises_own T0.exC T0.tyC) I1 hsz kk un2 hok2 os2 bare2 ea ed hd1 q2⟩
      | next => exact False.elim hq'
      | brk => exact False.elim hq'
      | cont => exact False.elim hq'
/-- raise C(..) -/
theorem ss_raise {e : Expr} {m : Env → Sto → Res Ex} {pos : Pos} (b : Bd T X W k) (he : PMk X e (rdX T X.K W fun _ => m)) : PS X (.Raise (some e) none pos) (rdS T X.K none W (sRaise m)) :=
  PS.mono (ps_raise b.calm b.tk he) fun D σ H ⟨μ, ρ, st, r0, e0, p⟩ => ⟨μ, ρ, st, r0, e0, Post.bindS e0 p fun x st1 μ1 H1 y e1 r1 q1 p1 => p1 μ1 H1 σ y.1 y.2 .refl r1 (e0.ext e1) q1⟩
end
/-! ### try -/
section
variable {T : Tab} {K : PySem.W.Frag} {xi : Xi} {μ : List Addr} {H : Hp} {st : Sto}
theorem RSt.unx (r : RSt T K xi μ H st) : RSt T K none μ H st := ⟨r.len, r.inj, r.cell, fun _ _ _ _ h => nomatch h⟩
/-- an exception is held -/
theorem RSt.hold (r : RSt T K none μ H st) {a : Addr} {e : Ex} {cls : Value} {d : Option Addr} (ha : H a = Option.none) (hx : RExc T K μ H e cls d) : RSt T K (some (st.length, a, cls, d)) (μ ++ [a]) H (st ++ [.exn e]) ∧ Ext K μ H (μ ++ [a]) H := by
  have ex : Ext K μ H (μ ++ [a]) H := Ext.push .refl ha
  have old : ∀ (m : Nat) b d, (μ ++ [a])[m]? = some b → (st ++ [Cell.exn e])[m]? = some d → (m < st.length ∧ μ[m]? = some b ∧ st[m]? = some d) ∨ d = .exn e := fun m b d hb hd => by
    by_cases hm : m < st.length
    · rw [List.getElem?_append_left (by rw [r.len]; exact hm)] at hb
      rw [List.getElem?_append_left hm] at hd
      exact .inl ⟨hm, hb, hd⟩
    · rw [List.getElem?_append_right (by omega)] at hd
      cases hk : m - st.length with
      | zero => rw [hk] at hd; exact .inr (by simpa using hd.symm)
      | succ k => rw [hk] at hd; simp at hd
  refine ⟨⟨by rw [List.length_append, List.length_append, r.len]; rfl, fun i j b d1 d2 h1 h2 h3 h4 s1 s2 => ?_, fun m b c hb hc => ?_, fun n b cl dd h => ?_⟩, ex⟩
  · rcases old i b d1 h1 h3 with ⟨_, k1, k2⟩ | k
    · rcases old j b d2 h2 h4 with ⟨_, k3, k4⟩ | k
      · exact r.inj i j b d1 d2 k1 k3 k2 k4 s1 s2
      · rw [k] at s2; cases s2
    · rw [k] at s1; cases s1
  · rcases old m b c hb hc with ⟨_, k1, k2⟩ | k
    · exact (r.cell m b c k1 k2).ext ex rfl
    · rw [k]; trivial
  · cases h
    refine ⟨?_, e, ?_, hx.ext ex fun d fs q => q⟩
    · rw [List.getElem?_append_right (by rw [r.len]; exact Nat.le_refl _), r.len]; simp
    · rw [List.getElem?_append_right (Nat.le_refl _)]; simp
theorem held_ref (r : RSt T K xi μ H st) {a : Addr} : Rep T K (μ ++ [a]) H (.ref st.length) (.ref a) := push_ref r
end
theorem PSs.ex {X : Cx} {ss : List Stmt} {α : Type} {t : α → TS} (h : ∀ n, PSs X ss (t n)) : PSs X ss (fun D σ H => ∃ n, t n D σ H) := ⟨fun pins s σ H D I ⟨n, q⟩ => (h n).run pins s σ H D I q⟩
section
variable {T : Tab} {X : Cx} {W : WX} {k : Nat} {x n : Str} {c : Value} {i : Nat} {body suite : List Stmt} {b₀ : Stmt} {np pos pos' : Pos} {ma : SM} {mh : Nat → SM}
theorem suite_post {D : Ends} {μ : List Addr} {H : Hp} {xi : Xi} {r : SR} (h : PostS T X.K none W D μ H (match r with
      | .nx ρ st => .nx (ρ.set i none) st
      | .bk ρ st => .bk (ρ.set i none) st
      | .ct ρ st => .ct (ρ.set i none) st
      | .rt v st => .rt v st
      | _ => .bad)) : PostS T X.K xi (fun _ _ _ _ => False) { nx := fun σ' H' => D.nx (σ'.set i none) H', rt := D.rt, bk := fun σ' H' => D.bk (σ'.set i none) H', ct := fun σ' H' => D.ct (σ'.set i none) H' } μ H r := by
  cases r with
  | nx ρ st => exact fun μ' H' σ e r q => h μ' H' _ e r.unx (q.gone i)
  | bk ρ st => exact fun μ' H' σ e r q => h μ' H' _ e r.unx (q.gone i)
  | ct ρ st => exact fun μ' H' σ e r q => h μ' H' _ e r.unx (q.gone i)
  | rt v st => exact fun μ' H' u e r q => h μ' H' u e r.unx q
  | exc e ρ st => exact h.elim
  | bad => exact h.elim
/-- try: .. except x as n: .. -/
theorem ss_try {sub : Nat → Option Bool} (b : Bd T X W k) (i : Nat) (hs : X.stack = X.env :: X.outer) (hf : X.env.frame = some X.env.locals) (hi : X.N[i]? = some n) (hln : X.env.kindOf n = some .local) (hc : Names X x c)
    (hsub : ∀ j v, sub j = some v → PySem.W.exmOne X.K (.ref (T.clsA X.K j)) c = some v)
    (hb : ∀ (W' : WX) (pn : List (Addr × Obj)) (xe : Value → Shared → Prop), Bd T (X.tr pn xe) W' k → PSs (X.tr pn xe) body (rdS T X.K none W' ma))
    (hsu : ∀ (m : Nat) (a : Addr) (oe : Obj) (cls : Value) (d : Option Addr) (pn : List (Addr × Obj)), Zc cls d oe → (∃ vs, oe.data = .fields vs) → PSs (X.suite a ((a, oe) :: pn)) (b₀ :: suite) (rdS T X.K (some (m, a, cls, d)) (fun _ _ _ _ => False) (mh m))) :
    PS X (.Try body [.ExceptHandler (some (.Name x np)) (some n) (b₀ :: suite) pos'] [] [] pos) (rdS T X.K none W (sTry sub i ma mh)) := by
  refine PS.mono (ps_try_as (i := i) (Wout := W) (tb := fun W' => rdS T X.K none W' ma) (ts := fun a cls d D σ H => ∃ m, rdS T X.K (some (m, a, cls, d)) (fun _ _ _ _ => False) (mh m) D σ H) hs hf b.nd hi hln hc b.tk
    (fun W' pn xe tk ps => hb W' pn xe ⟨tk, b.rm, b.ok, b.nd, b.calm, ps⟩) fun a oe cls d pn hz hd => PSs.ex fun m => hsu m a oe cls d pn hz hd) fun D σ H ⟨μ, ρ, st, r0, e0, p⟩ => ⟨μ, ρ, st, r0, e0, ?_⟩
  unfold sTry at p
  cases hm : ma ρ st with
  | exc e ρ1 st1 =>
    rw [hm] at p
    simp only at p
    intro μ1 H1 σ1 cls d e1 r1 q1 x1
    cases hsb : sub e.c with
    | none => rw [hsb] at p; exact p.elim
    | some v =>
      rw [hsb] at p
      refine ⟨v, by rw [x1.1]; exact hsub _ _ hsb, fun hv a ha => ?_, fun hv => ?_⟩
      · subst hv
        simp only at p
        obtain ⟨r2, e2⟩ := r1.hold ha x1
        exact ⟨st1.length, μ1 ++ [a], _, _, r2, (q1.ext e2).put i (held_ref r1), suite_post ((p.ext (e1.trans e2)))⟩
      · subst hv
        exact p μ1 H1 σ1 cls d e1 r1 q1 x1
  | nx ρ1 st1 => rw [hm] at p; exact p
  | rt v st1 => rw [hm] at p; exact p
  | bk ρ1 st1 => rw [hm] at p; exact p
  | ct ρ1 st1 => rw [hm] at p; exact p
  | bad => rw [hm] at p; exact p
theorem suite_postO {D : Ends} {μ : List Addr} {H : Hp} {xi : Xi} {r : SR} (h : PostS T X.K none W D μ H (match r with
      | .exc _ _ _ => .bad
      | r => r)) : PostS T X.K xi (fun _ _ _ _ => False) D μ H r := by
  cases r with
  | nx ρ st => exact fun μ' H' σ e r q => h μ' H' _ e r.unx q
  | bk ρ st => exact fun μ' H' σ e r q => h μ' H' _ e r.unx q
  | ct ρ st => exact fun μ' H' σ e r q => h μ' H' _ e r.unx q
  | rt v st => exact fun μ' H' u e r q => h μ' H' u e r.unx q
  | exc e ρ st => exact h.elim
  | bad => exact h.elim
/-- try: .. except x: .. -/
theorem ss_tryO {sub : Nat → Option Bool} (b : Bd T X W k) (hs : X.stack = X.env :: X.outer) (hf : X.env.frame = some X.env.locals) (hc : Names X x c)
    (hsub : ∀ j v, sub j = some v → PySem.W.exmOne X.K (.ref (T.clsA X.K j)) c = some v)
    (hb : ∀ (W' : WX) (pn : List (Addr × Obj)) (xe : Value → Shared → Prop), Bd T (X.tr pn xe) W' k → PSs (X.tr pn xe) body (rdS T X.K none W' ma))
    (hsu : ∀ (m : Nat) (a : Addr) (oe : Obj) (cls : Value) (d : Option Addr) (pn : List (Addr × Obj)), Zc cls d oe → (∃ vs, oe.data = .fields vs) → PSs (X.suite a ((a, oe) :: pn)) (b₀ :: suite) (rdS T X.K (some (m, a, cls, d)) (fun _ _ _ _ => False) (mh m))) :
    PS X (.Try body [.ExceptHandler (some (.Name x np)) none (b₀ :: suite) pos'] [] [] pos) (rdS T X.K none W (sTryO sub ma mh)) := by
  refine PS.mono (ps_try_only (Wout := W) (tb := fun W' => rdS T X.K none W' ma) (ts := fun a cls d D σ H => ∃ m, rdS T X.K (some (m, a, cls, d)) (fun _ _ _ _ => False) (mh m) D σ H) hs hf hc b.tk
    (fun W' pn xe tk ps => hb W' pn xe ⟨tk, b.rm, b.ok, b.nd, b.calm, ps⟩) fun a oe cls d pn hz hd => PSs.ex fun m => hsu m a oe cls d pn hz hd) fun D σ H ⟨μ, ρ, st, r0, e0, p⟩ => ⟨μ, ρ, st, r0, e0, ?_⟩
  unfold sTryO at p
  cases hm : ma ρ st with
  | exc e ρ1 st1 =>
    rw [hm] at p
    simp only at p
    intro μ1 H1 σ1 cls d e1 r1 q1 x1
    cases hsb : sub e.c with
    | none => rw [hsb] at p; exact p.elim
    | some v =>
      rw [hsb] at p
      refine ⟨v, by rw [x1.1]; exact hsub _ _ hsb, fun hv a ha => ?_, fun hv => ?_⟩
      · subst hv
        simp only at p
        obtain ⟨r2, e2⟩ := r1.hold ha x1
        exact ⟨st1.length, μ1 ++ [a], _, _, r2, q1.ext e2, suite_postO ((p.ext (e1.trans e2)))⟩
      · subst hv
        exact p μ1 H1 σ1 cls d e1 r1 q1 x1
  | nx ρ1 st1 => rw [hm] at p; exact p
  | rt v st1 => rw [hm] at p; exact p
  | bk ρ1 st1 => rw [hm] at p; exact p
  | ct ρ1 st1 => rw [hm] at p; exact p
  | bad => rw [hm] at p; exact p
end
/-! ### in the suite -/
section
variable {T : Tab} {X : Cx} {m : Nat} {a : Addr} {oe : Obj} {cls : Value} {d : Option Addr} {pn : List (Addr × Obj)} {mo : EM} {o : Expr}
/-- e.f -/
theorem se_xf {f : Str} {pos : Pos} (c j : Nat) (Z : XfC X.K (T.clsA X.K c)) (hz : Zc cls d oe) (hd : ∃ vs, oe.data = .fields vs) (ho : PE (X.suite a ((a, oe) :: pn)) o (rdE T X.K (some (m, a, cls, d)) (fun _ _ _ _ => False) mo))
    (hno : PySem.W.findIn X.K (.ref (T.clsA X.K c)) f = some none) (hf : f = T.fld j := by rfl) (hb : attributeBase o f X.env (eval o X.env) = eval o X.env := by rfl) :
    PE (X.suite a ((a, oe) :: pn)) (.Attribute o f pos) (rdE T X.K (some (m, a, cls, d)) (fun _ _ _ _ => False) (eXf m c j mo)) := by
  subst hf
  refine PE.mono (pe_xf Z hno hz hd ho hb) fun σ H Q ⟨μ, ρ, st, r0, e0, p⟩ => ⟨μ, ρ, st, r0, e0, Post.bind p fun x st1 μ1 H1 u e1 r1 q1 p1 => ?_⟩
  cases x with
  | ref i =>
    simp only at p1
    by_cases hi : i = m
    · rw [if_pos hi] at p1
      subst hi
      obtain ⟨h1, x, h2, h3⟩ := r1.exn i a cls d rfl
      rw [h2] at p1
      simp only at p1
      by_cases hc : x.c = c
      · rw [if_pos hc] at p1
        cases hl : x.fs.lookup j with
        | none => rw [hl] at p1; exact p1.elim
        | some v =>
          rw [hl] at p1
          obtain ⟨b, hb1, hb2⟩ := q1.ref
          have eb : b = a := Option.some.inj (hb1.symm.trans h1)
          subst eb
          obtain ⟨hcls, hfs⟩ := h3
          rw [hc] at hcls
          refine ⟨hb2, hcls, ?_⟩
          rcases hfs with hfs | ⟨dd, fs, k1, k2, k3⟩
          · rw [hfs] at hl; cases hl
          · obtain ⟨w, k4, k5⟩ := k3 j v hl
            exact ⟨dd, fs, w, k1, k2, k4, p1 μ1 H1 w .refl r1 k5⟩
      · rw [if_neg hc] at p1; exact p1.elim
    · rw [if_neg hi] at p1; exact p1.elim
  | _ => exact p1.elim
/-- isinstance(e, c), e with a dict of its own -/
def rIsD (K : PySem.W.Frag) (D a : Addr) (cls : Value) (d : Option Addr) : List V → Hp → VK → Prop := fun xs H Q => ∃ (c : V) (cv : Value) (b : Bool) (dd : Addr) (fs : List (Str × V)), xs = [.ref a, c] ∧ (∀ u, RelV c u → u = cv) ∧ cls = .ref D ∧ d = some dd ∧ H dd = some (.xd fs) ∧ PySem.W.kitOne K (.ref D) cv = some b ∧ Q (.bl b) H
theorem call_isD {D : Addr} (C : ExcC X.K D) (hz : Zc cls d oe) (hf : ∃ vs, oe.data = .fields vs) : CallR (X.suite a ((a, oe) :: pn)) (.builtin "isinstance") (rIsD X.K D a cls d) := by
  intro pins s σ H xs us Q I r h
  obtain ⟨c, cv, b, dd, fs, rfl, hcv, ec, ed, hdd, e, q⟩ := h
  cases r with
  | cons rx rr =>
    cases rr with
    | cons rt rr =>
      cases rr
      cases rx
      have ecv := hcv _ rt
      subst ecv
      obtain ⟨hget, _⟩ := I.pin (a, oe) (List.mem_append.mpr (.inl List.mem_cons_self))
      obtain ⟨vs, hv⟩ := hf
      have hx : ObjOk X.prog X.w H s.heap dd (.xd fs) := I.hok dd _ hdd
      obtain ⟨mA, hns, hr⟩ := hx
      obtain ⟨od, ho, hl⟩ := lookIn_ns hns
      have J : PySem.W.InstAt s.heap a oe D (some od) := ⟨hget, by rw [hz.1, ec], by unfold PySem.W.notCls; rw [hv] <;> rfl, by rw [hz.2, ed]; exact ho⟩
      have hcl : (PySem.W.clsIn X.K D).isSome = true := by
        obtain ⟨cd, hc, _⟩ := PySem.W.any_some C.hd
        rw [hc]; rfl
      exact PySem.W.kia_one (PySem.W.kitx_exc hcl C.hg C.hk C.hs C.ha C.hn C.ht C.hm) I.kIn J e (fun z => nomatch z) fun tk => ⟨.bl b, H, I.kept (t' := tk) fun _ _ z => z, rfl, q⟩
theorem se_xis {ce : Expr} {p pos : Pos} {cv : Value} {cw : V} (c : Nat) (b : Bool) (C : ExcC X.K (T.clsA X.K c)) (hz : Zc cls d oe) (hd : ∃ vs, oe.data = .fields vs) (hm : X.mg "isinstance" = none) (ho : PE (X.suite a ((a, oe) :: pn)) o (rdE T X.K (some (m, a, cls, d)) (fun _ _ _ _ => False) mo))
    (hce : PE (X.suite a ((a, oe) :: pn)) ce (tC cw)) (hw : ∀ u, RelV cw u → u = cv) (hk : PySem.W.kitOne X.K (.ref (T.clsA X.K c)) cv = some b) (hg : Gl X "isinstance" := by rfl)
    (hs1 : starEach [o, ce] X.env = (false, eval o X.env) :: starEach [ce] X.env := by rfl) (hs2 : starEach [ce] X.env = (false, eval ce X.env) :: starEach [] X.env := by rfl) (hp1 : (backTo pos (starEach [ce] X.env)).any (·.1) = false := by rfl) : PE (X.suite a ((a, oe) :: pn)) (.Call (.Name "isinstance" p) [o, ce] [] pos) (rdE T X.K (some (m, a, cls, d)) (fun _ _ _ _ => False) (tXis m c b mo)) := by
  refine PE.mono (pe_callB (X := X.suite a ((a, oe) :: pn)) (call_isD C hz hd) hg hm PyProof.Rows.boot_isinstance (pa_cons ho (pa_cons hce pa_nil hs2) hs1) (by decide) (by decide) hs1 hp1) fun σ H Q ⟨μ, ρ, st, r0, e0, p⟩ => ⟨μ, ρ, st, r0, e0, Post.bind p fun x st1 μ1 H1 u e1 r1 q1 p1 => ?_⟩
  cases x with
  | ref i =>
    simp only at p1
    by_cases hi : i = m
    · rw [if_pos hi] at p1
      subst hi
      obtain ⟨h1, x, h2, h3⟩ := r1.exn i a cls d rfl
      rw [h2] at p1
      simp only at p1
      by_cases hc : x.c = c ∧ x.fs ≠ []
      · rw [if_pos hc] at p1
        obtain ⟨b', hb1, hb2⟩ := q1.ref
        have eb : b' = a := Option.some.inj (hb1.symm.trans h1)
        subst eb
        obtain ⟨hcls, hfs⟩ := h3
        rw [hc.1] at hcls
        rcases hfs with hfs | ⟨dd, fs, k1, k2, k3⟩
        · exact absurd hfs hc.2
        · exact ⟨cw, cv, b, dd, fs, by rw [hb2], hw, hcls, k1, k2, hk, p1 μ1 H1 _ .refl r1 rep_bl⟩
      · rw [if_neg hc] at p1; exact p1.elim
    · rw [if_neg hi] at p1; exact p1.elim
  | _ => exact p1.elim
end
/-! ### what a statement or an expression that is not reached does -/
theorem ss_bad {T : Tab} {X : Cx} {xi : Xi} {W : WX} {st : Stmt} : PS X st (rdS T X.K xi W fun _ _ => .bad) := ⟨fun pins s σ H D I ⟨_, _, _, _, _, p⟩ => p.elim⟩
theorem sss_bad {T : Tab} {X : Cx} {xi : Xi} {W : WX} {st : List Stmt} : PSs X st (rdS T X.K xi W fun _ _ => .bad) := ⟨fun pins s σ H D I ⟨_, _, _, _, _, p⟩ => p.elim⟩
theorem se_bad {T : Tab} {X : Cx} {xi : Xi} {W : WX} {e : Expr} : PE X e (rdE T X.K xi W fun _ _ => .bad) := ⟨fun pins s σ H Q I ⟨_, _, _, _, _, p⟩ => p.elim⟩
end Sm

/-! SemMore: more operators, constants of the module, functions held by names, unpacking of lists, calls in a store of their own. -/
namespace Sm
open PySem PySem.Spec PyProof.Rows L2
section
variable {T : Tab} {X : Cx} {xi : Xi} {W : WX}
/-! ### * and ** -/
theorem mul_flat (a : Tx) : ∀ (n : Nat) (acc : Array Nat), (List.replicate n a.toArray).foldl (· ++ ·) acc = acc ++ ((List.replicate n a).flatten).toArray
  | 0, acc => by simp
  | n + 1, acc => by
    rw [List.replicate_succ, List.foldl_cons, mul_flat a n, List.replicate_succ, List.flatten_cons]
    apply Array.ext'
    simp [List.append_assoc]
theorem mul_tx (a : Tx) (n : Int) : Txt.mul (tx a) n = tx (List.replicate n.toNat a).flatten := by
  unfold Txt.mul
  by_cases h1 : n < 1
  · rw [if_pos h1]
    have e : n.toNat = 0 := by omega
    rw [e]; rfl
  · rw [if_neg h1]
    by_cases h2 : (n == 1 || (tx a).length == 0) = true
    · rw [if_pos h2]
      rcases Bool.or_eq_true_iff.mp h2 with h | h
      · have e : n = 1 := by simpa using h
        subst e
        show tx a = tx (List.replicate 1 a).flatten
        simp
      · have e : a = [] := by
          have z : (tx a).length = 0 := by simpa using h
          rw [tx_len] at z
          exact List.eq_nil_of_length_eq_zero z
        subst e
        have z : (List.replicate n.toNat ([] : Tx)).flatten = [] := by simp
        rw [z]
    · rw [if_neg h2]
      refine PySem.Str.ext' ?_
      show (List.replicate n.toNat a.toArray).foldl (· ++ ·) #[] = ((List.replicate n.toNat a).flatten).toArray
      rw [mul_flat]
      simp
def rMulA : R2 := fun x y H Q => (rI CMul fun i j => V.int (i * j)) x y H Q ∨ ∃ (a : Str) (n : Int), x = .str a ∧ y = .int n ∧ a.length * n.toNat ≤ sizeLine ∧ n < 1000000 ∧ -1000000 < n ∧ Q (.str (Txt.mul a n)) H
theorem op_mulA : OpR X (binaryOp .Mult) rMulA := by
  intro pins s σ H x y v u Q I r1 r2 q
  rcases q with q | ⟨a, n, rfl, rfl, hz, h1, h2, q⟩
  · exact op_mul pins s σ H x y v u Q I r1 r2 q
  · obtain ⟨t, rfl⟩ := r1
    obtain ⟨t', rfl⟩ := r2
    refine PySem.SB.mul ⟨?_, fun h3 _ h4 => ?_, fun h3 _ => ?_⟩ fun t2 k => ⟨.str (Txt.mul a n), H, I.tok k, ⟨_, rfl⟩, q⟩
    · have e1 : decide (n < -(2 ^ 63 : Int)) = false := decide_eq_false (by omega)
      have e2 : decide (n ≥ (2 ^ 63 : Int)) = false := decide_eq_false (by omega)
      rw [e1, e2]; rfl
    · have hn : 0 < n := by omega
      have hz2 : (a.length : Int) * n ≤ 2 ^ 63 - 1 := by
        have z : ((a.length * n.toNat : Nat) : Int) = (a.length : Int) * n := by rw [Int.natCast_mul, Int.toNat_of_nonneg (by omega)]
        rw [← z]
        have := hz
        rw [sizeLine_eq] at this
        omega
      have := (Int.le_ediv_iff_mul_le hn).mpr hz2
      omega
    · unfold Builtin.Str.tooLong
      exact decide_eq_false (by omega)
theorem mulS_does : Does T X.K xi mulS rMulA := by
  intro Wd μ H st x y u w Q r0 q1 q2 p
  cases x with
  | int i =>
    cases y with
    | int j =>
      have p : PostE T X.K xi Wd Q μ H (if (-18446744073709551616 < i ∧ i < 18446744073709551616) ∨ (-18446744073709551616 < j ∧ j < 18446744073709551616) then .ok (.int (i * j)) st else .bad) := p
      split at p
      · rename_i hz; exact .inl ⟨i, j, q1.int, q2.int, hz, p μ H _ .refl r0 rep_int⟩
      · exact p.elim
    | _ => exact p.elim
  | str a =>
    cases y with
    | int j =>
      have p : PostE T X.K xi Wd Q μ H (if a.length * j.toNat ≤ SZ ∧ j < 1000000 ∧ -1000000 < j then .ok (.str (List.replicate j.toNat a).flatten) st else .bad) := p
      split at p
      · rename_i hz
        refine .inr ⟨tx a, j, q1.str, q2.int, by rw [tx_len, ← SZ_line]; exact hz.1, hz.2.1, hz.2.2, ?_⟩
        rw [mul_tx]
        exact p μ H _ .refl r0 rep_str
      · exact p.elim
    | _ => exact p.elim
  | _ => exact p.elim
theorem powI_does : Does T X.K xi powI (rI CPow fun i j => .int (i ^ j.toNat)) := by
  intro Wd μ H st x y u w Q r0 q1 q2 p
  cases x with
  | int i =>
    cases y with
    | int j =>
      have p : PostE T X.K xi Wd Q μ H (if 0 ≤ j ∧ j ≤ 1000000 ∧ i.natAbs < 18446744073709551616 then .ok (.int (i ^ j.toNat)) st else .bad) := p
      split at p
      · rename_i hz; exact ⟨i, j, q1.int, q2.int, hz, p μ H _ .refl r0 rep_int⟩
      · exact p.elim
    | _ => exact p.elim
  | _ => exact p.elim
/-! ### constants of the module -/
mutual
def kB (K : PySem.W.Frag) : S → Value → Bool
  | .non, u => match u with | .none => true | _ => false
  | .bl b, u => match u with | .bool c => b == c | _ => false
  | .int i, u => match u with | .int j _ => i == j | _ => false
  | .str x, u => match u with | .str y _ => y == tx x | _ => false
  | .tup l, u => match u with
    | .ref a => (match K.lookup a with
      | some ⟨.type "tuple", _, .seq its _, _⟩ => decide (its.size ≤ sizeLine) && kBL K l its.toList
      | _ => false)
    | _ => false
  | _, _ => false
def kBL (K : PySem.W.Frag) : List S → List Value → Bool
  | [], us => match us with | [] => true | _ => false
  | s :: l, us => match us with | u :: us => kB K s u && kBL K l us | _ => false
end
mutual
theorem kB_ok {K : PySem.W.Frag} : ∀ {s : S} {u : Value}, kB K s u = true → ∃ v, RelV v u ∧ ∀ μ H, Rep T K μ H s v
  | .non, u, h => by
    cases u <;> first | exact ⟨.non, rfl, fun _ _ => rep_non⟩ | (unfold kB at h; cases h)
  | .bl b, u, h => by
    cases u with
    | bool c =>
      unfold kB at h
      have e : b = c := by simpa using h
      subst e
      exact ⟨.bl b, rfl, fun _ _ => rep_bl⟩
    | _ => unfold kB at h; cases h
  | .int i, u, h => by
    cases u with
    | int j t =>
      unfold kB at h
      have e : i = j := by simpa using h
      subst e
      exact ⟨.int i, ⟨t, rfl⟩, fun _ _ => rep_int⟩
    | _ => unfold kB at h; cases h
  | .str x, u, h => by
    cases u with
    | str y t =>
      unfold kB at h
      have e : y = tx x := by simpa using h
      subst e
      exact ⟨.str (tx x), ⟨t, rfl⟩, fun _ _ => rep_str⟩
    | _ => unfold kB at h; cases h
  | .tup l, u, h => by
    cases u with
    | ref a =>
      unfold kB at h
      simp only at h
      split at h
      · rename_i dd its n sl hl
        obtain ⟨h1, h2⟩ := Bool.and_eq_true_iff.mp h
        obtain ⟨vs, r, q⟩ := kBL_ok h2
        exact ⟨.ref a, rfl, fun μ H => .tup_of (.inr ⟨_, its, n, hl, rfl, rfl, of_decide_eq_true h1, r⟩) (q μ H)⟩
      · cases h
    | _ => unfold kB at h; cases h
  | .ref n, u, h => by unfold kB at h; cases h
  | .fn i, u, h => by unfold kB at h; cases h
  | .cst a, u, h => by unfold kB at h; cases h
theorem kBL_ok {K : PySem.W.Frag} : ∀ {l : List S} {us : List Value}, kBL K l us = true → ∃ vs, Vals vs us ∧ ∀ μ H, RepL T K μ H l vs
  | [], us, h => by
    cases us with
    | nil => exact ⟨[], .nil, fun _ _ => .nil⟩
    | cons u us => unfold kBL at h; cases h
  | s :: l, us, h => by
    cases us with
    | nil => unfold kBL at h; cases h
    | cons u us =>
      unfold kBL at h
      obtain ⟨h1, h2⟩ := Bool.and_eq_true_iff.mp h
      obtain ⟨v, r1, q1⟩ := kB_ok h1
      obtain ⟨vs, r2, q2⟩ := kBL_ok h2
      exact ⟨v :: vs, .cons r1 r2, fun μ H => .cons (q1 μ H) (q2 μ H)⟩
end
/-- the module's name x holds c -/
def GlC (K : PySem.W.Frag) (mg : Str → Option Value) (x : Str) (c : S) : Prop := ∃ u, mg x = some u ∧ kB K c u = true
theorem se_glob {x : Str} {c : S} {pos : Pos} (h : GlC X.K X.mg x c) (hg : Gl X x := by rfl) (hd : (x == ("__debug__" : Str)) = false := by decide) : PE X (.Name x pos) (rdE T X.K xi W (eC c)) := by
  obtain ⟨u, h1, h2⟩ := h
  obtain ⟨v, r, q⟩ := kB_ok (T := T) h2
  exact se_con (pe_glob hg h1 r hd) q
/-- a function of the module as a value -/
theorem se_fnv {x : Str} {pos : Pos} (i : Nat) (h : X.mg x = some (.ref (T.fnA X.K i))) (hg : Gl X x := by rfl) (hd : (x == ("__debug__" : Str)) = false := by decide) : PE X (.Name x pos) (rdE T X.K xi W (eC (.fn i))) :=
  se_con (pe_glob (v := .ref (T.fnA X.K i)) hg h rfl hd) fun μ H => by unfold Rep; rfl
/-! ### unpacking -/
theorem PG.or {e : Expr} {t t' : TG} (h : PG X e t) (h' : PG X e t') : PG X e (fun v σ H Q => t v σ H Q ∨ t' v σ H Q) := ⟨fun pins s σ H v u Q I r q => q.elim (h.run pins s σ H v u Q I r) (h'.run pins s σ H v u Q I r)⟩
theorem sg_unp {es : List Expr} {gs : List GM} {n : Nat} {pos : Pos} (hc : X.calm = true) (h : PGs X es (rdGs T X.K xi gs)) (hl : es.length = gs.length := by rfl) (hn : (assignEach es X.env).length = es.length := by rfl) (hst : (assignEach es X.env).findIdx? (·.1) = none := by rfl) : PG X (.Tuple es n pos) (rdG T X.K xi (Sm.gUnp gs)) := by
  refine PG.mono (PG.or (pg_tup (n := es.length) hc h hn hst) (pg_lst (n := es.length) hc h hn hst)) fun v σ H Q ⟨μ, ρ, st, s, r0, e, q, p⟩ => ?_
  cases s with
  | tup l =>
    obtain ⟨a, vs, ea, h1, h2⟩ := q.tup
    have p : (match (if l.length = gs.length then gTupL gs l ρ st else .bad) with
      | .nx ρ' st' => ∀ μ' H' σ', Ext X.K μ H μ' H' → RSt T X.K xi μ' H' st' → REnv T X.K μ' H' ρ' σ' → Q σ' H'
      | _ => False) := p
    by_cases hz : l.length = gs.length
    · rw [if_pos hz] at p
      exact .inl ⟨a, vs, ea, h1, by rw [← h2.len, hz, hl], μ, ρ, st, l, r0, e, h2, p⟩
    · rw [if_neg hz] at p; exact p.elim
  | ref n =>
    obtain ⟨a, ha, ea⟩ := q.ref
    unfold Sm.gUnp at p
    cases hcell : st[n]? with
    | none => simp only [hcell] at p
    | some c =>
      cases c with
      | lst l =>
        simp only [hcell] at p
        obtain ⟨vs, h1, h2⟩ := r0.at hcell ha
        by_cases hz : l.length = gs.length
        · rw [if_pos hz] at p
          exact .inr ⟨a, vs, ea, SqL.of h1, by rw [← h2.len, hz, hl], μ, ρ, st, l, r0, e, h2, p⟩
        · rw [if_neg hz] at p; exact p.elim
      | _ => simp only [hcell] at p
  | _ => exact False.elim p
theorem gUnp_nx {gs : List GM} (h : ∀ g ∈ gs, ∀ s ρ st, match g s ρ st with | .nx _ _ => True | .bad => True | _ => False) : ∀ s ρ st, match Sm.gUnp gs s ρ st with | .nx _ _ => True | .bad => True | _ => False := fun s ρ st => by
  have key : ∀ l : List S, match (if l.length = gs.length then gTupL gs l ρ st else .bad) with | .nx _ _ => True | .bad => True | _ => False := fun l => by
    by_cases hz : l.length = gs.length
    · rw [if_pos hz]; exact gTupL_nx h l ρ st
    · rw [if_neg hz]; trivial
  cases s with
  | tup l => exact key l
  | ref n =>
    unfold Sm.gUnp
    cases hcell : st[n]? with
    | none => simp only [hcell]
    | some c =>
      cases c with
      | lst l => simp only [hcell]; exact key l
      | _ => simp only [hcell]
  | _ => trivial
/-! ### functions held by local names -/
theorem se_callv {k i : Nat} {x : Str} {e : Expr} {es : List Expr} {m : AM} {ft : Nat → Option Fn} {p pos : Pos} (b : Bd T X W k) (A : ∀ i F, ft i = some F → ∃ fd ps, FnS T X.prog X.w X.K X.mg X.base k (T.fnA X.K i) fd ps F ∧ PySem.W.keepIn X.K (.ref (T.fnA X.K i)) = true ∧ Binds X.K fd ps [])
    (ha : PA X (e :: es) (rdA T X.K none W m)) (hN : X.N[i]? = some x := by rfl) (hv : Vis X.env.scope x := by first | exact Or.inl rfl | exact Or.inr (Or.inl rfl) | exact Or.inr (Or.inr rfl))
    (hdb : (x == ("__debug__" : Str)) = false := by decide) (hcd : (x == ("__classdict__" : Str)) = false := by decide)
    (he : starEach (e :: es) X.env = (false, eval e X.env) :: starEach es X.env := by rfl) (hpl : (backTo pos (starEach es X.env)).any (·.1) = false := by rfl) : PE X (.Call (.Name x p) (e :: es) [] pos) (rdE T X.K none W (eCallV ft (eVar i) m)) := by
  refine ⟨fun pins s σ H Q I ⟨μ, ρ, st, r0, e0, q⟩ => ?_⟩
  refine wpAny_Call_Name_kw (thn ((se_var (T := T) (xi := none) (W := W) i (pos := p) hN hv hdb hcd).run pins s σ H (fun v H1 => ∃ j F, v = .ref (T.fnA X.K j) ∧ ft j = some F ∧ rdA T X.K none W m σ H1 fun vs H2 => spF T X.K F vs H2 Q (WE W σ)) I ⟨μ, ρ, st, r0, e0, Post.bind q fun x st1 μ1 H1 u e1 r1 q1 p1 => ?_⟩) fun u s1 ⟨v, H1, I1, r1, j, F, ev, hj, q1⟩ => ?_)
  · cases x with
    | fn j =>
      simp only at p1
      cases hj : ft j with
      | none => rw [hj] at p1; exact p1.elim
      | some F =>
        rw [hj] at p1
        exact ⟨j, F, by unfold Rep at q1; exact q1, hj, μ1, ρ, st1, r1, e0.ext e1, Post.bind p1 fun l st2 μ2 H2 vs e2 r2 q2 p2 => ⟨μ2, l, st2, r2, q2, p2⟩⟩
    | _ => exact p1.elim
  · subst ev
    cases r1
    obtain ⟨fd, ps, G, hk, hb⟩ := A j F hj
    refine PySem.W.callWith_K (h₀ := X.base) I.ok.mod.kin hk (thn (ha.run pos pins s1 σ _ _ I1 q1) fun us s2 ⟨vs, H2, I2, r, q⟩ => ⟨I2.kIn, ?_⟩) he hpl
    exact run_S b G hb I2 r q
end
/-! ### a call in a store of its own, what it makes kept -/
section
variable {T : Tab} {K : PySem.W.Frag} {xi : Xi} {μ μ' : List Addr} {H H' : Hp} {st s1 : Sto}
mutual
theorem Rep.shift {d : Nat} (hd : μ.length = d) : ∀ {s : S} {v : V}, Rep T K μ' H' s v → Rep T K (μ ++ μ') H' (s.shift d) v
  | .non, v, h => by unfold S.shift; unfold Rep at h ⊢; exact h
  | .bl b, v, h => by unfold S.shift; unfold Rep at h ⊢; exact h
  | .int i, v, h => by unfold S.shift; unfold Rep at h ⊢; exact h
  | .str x, v, h => by unfold S.shift; unfold Rep at h ⊢; exact h
  | .tup l, v, h => by
    unfold S.shift
    unfold Rep at h ⊢
    obtain ⟨a, vs, h1, h2, h3⟩ := h
    exact ⟨a, vs, h1, h2, RepL.shift hd h3⟩
  | .ref n, v, h => by
    unfold S.shift
    unfold Rep at h ⊢
    obtain ⟨a, h1, h2⟩ := h
    refine ⟨a, ?_, h2⟩
    rw [List.getElem?_append_right (by omega)]
    have e : d + n - μ.length = n := by omega
    rw [e]
    exact h1
  | .fn i, v, h => by unfold S.shift; unfold Rep at h ⊢; exact h
  | .cst a, v, h => by unfold S.shift; unfold Rep at h ⊢; exact h
theorem RepL.shift {d : Nat} (hd : μ.length = d) : ∀ {l : List S} {vs : List V}, RepL T K μ' H' l vs → RepL T K (μ ++ μ') H' (S.shiftL d l) vs
  | [], vs, h => by unfold S.shiftL; unfold RepL at h ⊢; exact h
  | s :: l, vs, h => by
    unfold S.shiftL
    unfold RepL at h ⊢
    obtain ⟨v, r, h1, h2, h3⟩ := h
    exact ⟨v, r, h1, Rep.shift hd h2, RepL.shift hd h3⟩
end
theorem RepF.shift {d : Nat} (hd : μ.length = d) : ∀ {l : List (Nat × S)} {fs : List (Str × V)}, RepF T K μ' H' l fs → RepF T K (μ ++ μ') H' (shiftF d l) fs
  | [], fs, h => h
  | (k, s) :: l, fs, h => by
    obtain ⟨v, r, h1, h2, h3, h4⟩ := h
    exact ⟨v, r, h1, h2, h3.shift hd, RepF.shift hd h4⟩
theorem RepD.shift {d : Nat} (hd : μ.length = d) : ∀ {l : List (S × S)} {fs : List (Key × V)}, RepD T K μ' H' l fs → RepD T K (μ ++ μ') H' (shiftD d l) fs
  | [], fs, h => h
  | (k, s) :: l, fs, h => by
    obtain ⟨q, v, r, h1, h2, h3, h4⟩ := h
    exact ⟨q, v, r, h1, h2, h3.shift hd, RepD.shift hd h4⟩
theorem Cell.shift_solid {c : Cell} {d : Nat} : (Cell.shift d c).solid = c.solid := by cases c <;> rfl
theorem RCell.shift {d : Nat} (hd : μ.length = d) {a : Addr} {c : Cell} (h : RCell T K μ' H' a c) : RCell T K (μ ++ μ') H' a (Cell.shift d c) := by
  cases c with
  | lst l => obtain ⟨vs, h1, h2⟩ := h; exact ⟨vs, h1, h2.shift hd⟩
  | dct l => obtain ⟨vs, h1, h2⟩ := h; exact ⟨vs, h1, h2.shift hd⟩
  | ins c fs => obtain ⟨h0, dx, gs, h1, h2⟩ := h; exact ⟨h0, dx, gs, h1, h2.shift hd⟩
  | rol l => obtain ⟨o, vs, h1, h2⟩ := h; exact ⟨o, vs, h1, h2.shift hd⟩
  | exn e => trivial
theorem RSt.join (r : RSt T K none μ H st) (e : Ext K [] H μ' H') (r' : RSt T K none μ' H' s1) : RSt T K none (μ ++ μ') H' (st ++ s1.map (Cell.shift st.length)) ∧ Ext K μ H (μ ++ μ') H' := by
  have kp := Ext.keeps e
  have r2 := r.of_keep kp
  have nw : ∀ b, b ∈ μ' → H b = none := fun b hb => (e.new b hb).elim (fun z => absurd z (by simp)) id
  have ex : Ext K μ H (μ ++ μ') H' := ⟨List.prefix_append _ _, fun _ _ h => SqT.keep kp h, fun a o h _ => kp a o h, fun b hb => (List.mem_append.mp hb).imp id (nw b)⟩
  have ex2 : Ext K μ H' (μ ++ []) H' := by rw [List.append_nil]; exact .refl
  have old : ∀ (m : Nat) b d, (μ ++ μ')[m]? = some b → (st ++ s1.map (Cell.shift st.length))[m]? = some d → (m < st.length ∧ μ[m]? = some b ∧ st[m]? = some d) ∨ (st.length ≤ m ∧ ∃ c, μ'[m - st.length]? = some b ∧ s1[m - st.length]? = some c ∧ d = Cell.shift st.length c) := fun m b d hb hd => by
    by_cases hm : m < st.length
    · rw [List.getElem?_append_left (by rw [r.len]; exact hm)] at hb
      rw [List.getElem?_append_left hm] at hd
      exact .inl ⟨hm, hb, hd⟩
    · rw [List.getElem?_append_right (by rw [r.len]; omega), r.len] at hb
      rw [List.getElem?_append_right (by omega), List.getElem?_map] at hd
      cases hc : s1[m - st.length]? with
      | none => rw [hc] at hd; cases hd
      | some c =>
        rw [hc] at hd
        exact .inr ⟨by omega, c, hb, rfl, (Option.some.inj hd).symm⟩
  refine ⟨⟨by rw [List.length_append, List.length_append, List.length_map, r.len, r'.len], fun i j b d1 d2 h1 h2 h3 h4 s1' s2' => ?_, fun m b d hb hd => ?_, fun n a cls d h => nomatch h⟩, ex⟩
  · rcases old i b d1 h1 h3 with ⟨_, k1, k2⟩ | ⟨l1, c1, k1, k2, k3⟩
    · rcases old j b d2 h2 h4 with ⟨_, k4, k5⟩ | ⟨l2, c2, k4, k5, k6⟩
      · exact r.inj i j b d1 d2 k1 k4 k2 k5 s1' s2'
      · exact absurd (nw b (mem_get k4)) ((r.at k2 k1).notTup s1').2.2.1
    · rcases old j b d2 h2 h4 with ⟨_, k4, k5⟩ | ⟨l2, c2, k4, k5, k6⟩
      · exact absurd (nw b (mem_get k1)) ((r.at k5 k4).notTup s2').2.2.1
      · rw [k3, Cell.shift_solid] at s1'
        rw [k6, Cell.shift_solid] at s2'
        have := r'.inj _ _ b c1 c2 k1 k4 k2 k5 s1' s2'
        omega
  · rcases old m b d hb hd with ⟨_, k1, k2⟩ | ⟨l1, c1, k1, k2, k3⟩
    · have q := r.at k2 k1
      by_cases hsd : d.solid = true
      · have ne := (q.notTup hsd).2.2.1
        cases hH : H b with
        | none => exact absurd hH ne
        | some o => exact q.ext ex (by rw [hH]; exact kp b o hH)
      · cases d with
        | exn x => trivial
        | _ => exact absurd rfl hsd
    · rw [k3]
      exact (r'.at k2 k1).shift r.len
end
section
variable {T : Tab} {P : Program} {w : World} {K : PySem.W.Frag} {mg : Str → Option Value} {base : Heap} {k : Nat} {f : Addr} {fd : FuncData} {ps : List Str} {F : Fn}
theorem spF_imp {vs : List V} {H : Hp} {Q : VK} {E : XK} (h : spF T K (impF F) vs H Q E) : spF T K F vs H Q E := by
  obtain ⟨μ, l, st, r, q, p⟩ := h
  unfold impF at p
  by_cases hc : S.cleanL l = true
  · rw [if_pos hc] at p
    refine ⟨[], l, [], .empty, q.clean (fun _ _ z => z) hc, ?_⟩
    cases hf : F l [] with
    | ok v s1 =>
      rw [hf] at p
      simp only at p
      intro μ' H' u e1 r1 q1
      obtain ⟨r2, e2⟩ := r.join e1 r1
      exact p _ H' u e2 r2 (q1.shift r.len)
    | exc e s1 =>
      rw [hf] at p
      simp only at p
      by_cases hv : (e.fs.all fun q => q.2.clean) = true
      · rw [if_pos hv] at p
        intro μ' H' cls d e1 r1 q1
        have kp := Ext.keeps e1
        refine p μ H' cls d (.of_keep kp) (r.of_keep kp) ⟨q1.1, q1.2.imp id fun ⟨dd, fs, k1, k2, k3⟩ => ⟨dd, fs, k1, k2, fun k s hs => ?_⟩⟩
        obtain ⟨v, z1, z2⟩ := k3 k s hs
        have hcl : s.clean = true := List.all_eq_true.mp hv _ (memN_look hs)
        exact ⟨v, z1, z2.clean (fun _ _ z => z) hcl⟩
      · rw [if_neg hv] at p; exact p.elim
    | bad => rw [hf] at p; exact p.elim
  · rw [if_neg hc] at p; exact p.elim
theorem FnS.imp (G : FnS T P w K mg base k f fd ps F) : FnS T P w K mg base k f fd ps (impF F) := by
  refine ⟨fun l st h => ?_, fun A outer s H args us vs Q E hr e0 hb rv hsp => G.run A outer s H args us vs Q E hr e0 hb rv (spF_imp hsp)⟩
  refine G.len l [] fun z => h ?_
  unfold impF
  rw [z]
  split <;> rfl
theorem GFn.iso {x : Str} (G : GFn T P w K mg base k x ps F) : GFn T P w K mg base k x ps (isoF F) := by
  obtain ⟨f, fd, h1, h2⟩ := G.ex
  exact ⟨f, fd, h1.iso, h2⟩
theorem GFn.imp {x : Str} (G : GFn T P w K mg base k x ps F) : GFn T P w K mg base k x ps (impF F) := by
  obtain ⟨f, fd, h1, h2⟩ := G.ex
  exact ⟨f, fd, h1.imp, h2⟩
theorem FnS.of_eq {F' : Fn} (G : FnS T P w K mg base k f fd ps F) (h : F = F') : FnS T P w K mg base k f fd ps F' := h ▸ G
end
end Sm

/-! SemEnum: enumerate over a tuple, over a list. -/
namespace PySem
open PySem PySem.Spec PyProof.Rows
set_option maxHeartbeats 2000000 in
theorem smE_new {v : Value} {ob : Obj} {Hh : Heap → Prop} (B : Begins v ob Hh) :
    Meets (Builtin.«enumerate.__new__» ⟨[.type "enumerate", v], []⟩) (fun _ R z => Hh z.heap ∧ R (.ok (.ret (.ref (z.heap.push ob).objs.size)))
      { z with heap := (z.heap.push ob).push { cls := .type "enumerate", data := .fields #[.none, .bool false, .ref z.heap.objs.size, rawInt 0, .none, .none] } }) := by
  refine .of_wp fun prg w A R z hz => ?_
  have hsub := sub_enumerate
  obtain ⟨hp, gs, dr, tks, oss⟩ := z
  obtain ⟨k1, k2⟩ := hz
  have itr : ∀ {A1 : Around} {E1 : Value → Shared → Prop} {Q1 : Value → Shared → Prop}, Q1 (.ref hp.objs.size) ⟨hp.push ob, gs, dr, tks, oss⟩ → wpAny (model prg w) A1 (pyIter v) Q1 E1 ⟨hp, gs, dr, tks, oss⟩ := fun {A1 E1 Q1} y => B.iter prg w A1 E1 ⟨hp, gs, dr, tks, oss⟩ Q1 k1 y
  wp_walk using itr
  first
    | exact ⟨_, rfl, k2⟩
    | (refine wpAny_stack_any fun st => wpAny_pure ?_
       split
       · rename_i c _ _ _ _ _
         cases (c == Value.type "enumerate") <;> (wp_walk using itr; exact ⟨_, rfl, k2⟩)
       · wp_walk using itr
         exact ⟨_, rfl, k2⟩)
end PySem
namespace Sm
open PySem PySem.Spec PyProof.Rows L2
section
variable {prog : Program} {w : World} {A : Around} {E : Value → Shared → Prop} {s : Shared}
theorem enum_of {v : Value} {ob : Obj} {Hh : Heap → Prop} {Q : Value → Shared → Prop} (B : Begins v ob Hh) (h1 : Hh s.heap)
    (h : ∀ h2, IsEnum h2 (s.heap.objs.size + 1) s.heap.objs.size 0 .none → h2.get? s.heap.objs.size = some ob → (∀ b u, s.heap.get? b = some u → h2.get? b = some u) → Q (.ref (s.heap.objs.size + 1)) { s with heap := h2 }) :
    wpAny (model prog w) A (call (.type "enumerate") [v]) Q E s := by
  refine callType_new F.called_enumerate (by decide) (F.typeCall_enumerate_1 _) (F.newCall_enumerate_1 _) (fun o2 => F.args_object_init_2 o2 _) F.entry_enumerate_new (smE_new B) ⟨h1, ?_⟩
  have sz : (s.heap.push ob).objs.size = s.heap.objs.size + 1 := Heap.size_push ..
  have he : IsEnum ((s.heap.push ob).push { cls := .type "enumerate", data := .fields #[.none, .bool false, .ref s.heap.objs.size, rawInt 0, .none, .none] }) (s.heap.objs.size + 1) s.heap.objs.size 0 .none := by
    have y := Heap.get?_push_size (s.heap.push ob) (o := { cls := .type "enumerate", data := .fields #[.none, .bool false, .ref s.heap.objs.size, rawInt 0, .none, .none] }) rfl
    rw [sz] at y
    exact y
  show _ ∧ _
  rw [sz]
  exact ⟨⟨_, he, rfl⟩, h _ he (Heap.get?_push_of_some _ (Heap.get?_push_size _ B.free)) fun b u x => Heap.get?_push_of_some _ (Heap.get?_push_of_some _ x)⟩
end
/-- the tuple at a, each item in a new pair -/
def IteT (K : PySem.W.Frag) (a : Addr) : It :=
  ⟨fun i H => ∃ (xs : List V) (x : V), SqT K H a xs ∧ xs[i]? = some x, fun i H v H' => ∃ P x, v = .ref P ∧ H P = none ∧ H' = upd H P (.tup [.int (i : Nat), x]) ∧ ∀ xs, SqT K H a xs → xs[i]? = some x, fun i H => ∃ xs : List V, SqT K H a xs ∧ xs.length ≤ i⟩
theorem turnT {P : Program} {w : World} {K : PySem.W.Frag} {elts : List Expr} {kk : Nat} {tpos : Pos} {a e it : Addr} (hei : e ≠ it) (hai : a ≠ it) (hea : e ≠ a) :
    Turn P w K (.Tuple elts kk tpos) (IteT K a) [e, it] e (fun i h => (∃ old, IsEnum h e it ((i : Nat) : Int) old) ∧ h.IsTupleIter it a i) where
  mem := List.mem_cons_self
  obj := fun i h ⟨⟨old, he⟩, ⟨o, ho, hc, hd⟩⟩ b hb => by
    rcases List.mem_cons.mp hb with z | z
    · rw [z]; exact ⟨_, he, fun v q => nomatch q⟩
    · rw [List.mem_singleton.mp z]; exact ⟨o, ho, fun v q => by rw [hd] at q; cases q⟩
  keep := fun i h h' ⟨⟨old, he⟩, hi⟩ k => ⟨⟨old, k e List.mem_cons_self _ he⟩, hi.at fun o q => k it (List.mem_cons_of_mem _ List.mem_cons_self) o q⟩
  item := by
    intro X hP hw hK hc i pins s σ H E I hf st hg
    subst hP hw hK
    obtain ⟨⟨old, he⟩, hit⟩ := st
    obtain ⟨xs, x, hq, hx⟩ := hg
    obtain ⟨its, rv, pl, hz⟩ := I.tuple hq
    obtain ⟨u, hu, ru⟩ := rv.get hx
    have hel : e < s.heap.objs.size := Heap.lt_size he
    have hil : it < s.heap.objs.size := by obtain ⟨_, q, _⟩ := hit; exact Heap.lt_size q
    have pl' : s.heap.IsTuple a its.toArray := pl
    have hlt : i < its.toArray.size := by
      have z := (List.getElem?_eq_some_iff.mp hu).1
      simpa using z
    have hh : X.A.in1.handled = none := I.ok.hd hc
    refine wpAny_pyNext_enum_itemD (Draws.tuple hh it a hai its.toArray) he ⟨hit, pl'⟩ hlt hei (by simp [hei, hea]) fun y h' tk hy ho hst' hT hsz hk => ?_
    have ey : y = u := by
      have z : its[i]? = some y := by simpa using hy
      rw [hu] at z
      exact (Option.some.inj z).symm
    subst ey
    refine ⟨_, rfl, wpAny_letOwnedTupleGo_enum (s := { s with heap := h', toks := tk + 1 }) ho fun h'' he' sb => ?_⟩
    have hT2 : h''.get? s.heap.objs.size = some { cls := .type "tuple", data := .seq #[.int i tk, y] } := (sb.2 _ (Nat.ne_of_gt hel)).trans hT
    have new : ObjOk X.prog X.w (upd H s.heap.objs.size (.tup [.int (i : Nat), x])) h'' s.heap.objs.size (.tup [.int (i : Nat), x]) := ⟨by show 2 ≤ sizeLine; decide, [.int i tk, y], .cons ⟨_, rfl⟩ (.cons ru .nil), ⟨_, hT2, rfl, _, rfl⟩⟩
    have I1 : Inv X pins σ (upd H s.heap.objs.size (.tup [.int (i : Nat), x])) { s with heap := h'', toks := tk + 1 } :=
      I.turnedNew (ch := [e, it]) (fun b ob hb q => (sb.2 b (fun z => hb (by rw [z]; exact List.mem_cons_self))).trans (hk b ob (fun z => hb (by rw [z]; exact List.mem_cons_self)) (fun z => hb (by rw [z]; exact List.mem_cons_of_mem _ List.mem_cons_self)) q)) hf (Nat.le_refl _) new
    refine ⟨.ref s.heap.objs.size, _, I1, rfl, ⟨_, x, rfl, I.hok.fresh (Nat.le_refl _), rfl, fun ys hy => by rw [I.tuple_inj hy hq]; exact hx⟩, ⟨⟨y, ?_⟩, hst'.1.at fun o q => (sb.2 it (Ne.symm hei)).trans q⟩, fun b hb => ?_⟩
    · have e1 : ((i + 1 : Nat) : Int) = (i : Int) + 1 := by omega
      rw [e1]; exact he'
    · have hb' : b < s.heap.objs.size := by
        rcases List.mem_cons.mp hb with z | z
        · rw [z]; exact hel
        · rw [List.mem_singleton.mp z]; exact hil
      rw [upd_ne (Nat.ne_of_lt hb')]
      exact (hf b hb).1
  done := by
    intro X hP hw hK hc i pins s σ H E I hf st hg
    subst hP hw hK
    obtain ⟨⟨old, he⟩, hit⟩ := st
    obtain ⟨xs, hq, hx⟩ := hg
    obtain ⟨its, rv, pl, hz⟩ := I.tuple hq
    obtain ⟨f0, f1, f2, f3, f4, f5⟩ := hf it (List.mem_cons_of_mem _ List.mem_cons_self)
    have hl := rv.length
    have pl' : s.heap.IsTuple a its.toArray := pl
    have hh : X.A.in1.handled = none := I.ok.hd hc
    have hT : s.TypeIs (.ref e) "enumerate" := ⟨_, he, rfl⟩
    unfold pyNext
    refine wpAny_bind (wpAny_attempt (wpAny_callSpecial?_slot (name := Str.ofString "__next__") hT F.slot_enumerate_next (wpAny_call_entry F.slot_enumerate_next hT F.entry_enumerate_next ?_ (F.args_enumerate_next_1 _))))
    show wpAny _ _ (field (.ref e) 2 >>= _) _ _ _
    refine wpAny_bind (wpAny_field he rfl (x := .ref it) rfl ?_)
    refine wpAny_bind (wpAny_nextOf_tuple_end hh hit pl' (by rw [List.getElem?_toArray]; exact List.getElem?_eq_none (by omega)) fun h' y eb hy => ?_)
    obtain ⟨o, ho, hoc⟩ := hy
    refine wpAny_bind (wpAny_isInstance (T := "StopIteration") (b := true) ⟨o, ho, hoc⟩ isSubtype_stop ?_)
    exact wpAny_pure ⟨rfl, I.turned (t' := s.toks) (fun b ob hb q => eb b ob hb q) f0 f1 f3 f4 f5⟩
  self := fun A i s Q E ⟨⟨_, he⟩, _⟩ h => wpAny_pyIter_enum he h
def iEnumB (K : PySem.W.Frag) (te : TE) : TI := fun σ H R => te σ H fun x H1 => (∃ a xs, x = .ref a ∧ SqL K H1 a xs ∧ R (Ite K a) H1) ∨ (∃ a xs, x = .ref a ∧ SqT K H1 a xs ∧ R (IteT K a) H1)
theorem pi_enumB {X : Cx} {e : Expr} {te : TE} {p pos tpos : Pos} {elts : List Expr} {kk : Nat} (hg : Gl X "enumerate") (hm : X.mg "enumerate" = none) (hE : PE X e te) (hs : starEach [e] X.env = [(false, eval e X.env)]) :
    PI X (.Tuple elts kk tpos) (.Call (.Name "enumerate" p) [e] [] pos) (iEnumB X.K te) := by
  have hs1 : starEach [e] X.env = (false, eval e X.env) :: starEach [] X.env := hs
  have ha : PA X [e] (tCons te tNil) := pa_cons hE pa_nil hs1
  refine ⟨fun pins s σ H R I h => ?_⟩
  refine Call_ (ld_blt I hg hm boot_enumerate (PyProof.Rows.callWith_type1 (thn (ha.run pos pins s σ H (fun vs H1 => match vs with
    | [x] => (∃ a xs, x = .ref a ∧ SqL X.K H1 a xs ∧ R (Ite X.K a) H1) ∨ (∃ a xs, x = .ref a ∧ SqT X.K H1 a xs ∧ R (IteT X.K a) H1)
    | _ => False) I h) fun us s1 ⟨vs, H1, I1, r1, h1⟩ => ?_) hs rfl))
  have fresh : ∀ b ∈ [s1.heap.objs.size + 1, s1.heap.objs.size], s1.heap.objs.size ≤ b := fun b hb => by
    rcases List.mem_cons.mp hb with z | z
    · rw [z]; exact Nat.le_succ _
    · rw [List.mem_singleton.mp z]; exact Nat.le_refl _
  match vs, r1, h1 with
  | [x], r1, h1 =>
    obtain ⟨u, eu, ru⟩ := r1.one
    subst eu
    rcases h1 with ⟨a, xs, ex, hq, q⟩ | ⟨a, xs, ex, hq, q⟩
    · subst ex
      obtain rfl : u = Value.ref a := ru
      obtain ⟨its, rv, pl, hz⟩ := I1.list hq
      refine call_enumerate_list pl.isList fun h2 he hit _ hk => wpAny_pyIter_enum he ?_
      exact ⟨_, _, _, _, H1, rfl, I1.kept (t' := s1.toks) hk, turn_enum a (s1.heap.objs.size + 1) s1.heap.objs.size, ⟨⟨.none, he⟩, hit, Nat.succ_ne_self _⟩, fun b hb => I1.fpOk (fresh b hb) (I1.hok.fresh (fresh b hb)), q⟩
    · subst ex
      obtain rfl : u = Value.ref a := ru
      obtain ⟨its, rv, pl, hz⟩ := I1.tuple hq
      have pl' : s1.heap.IsTuple a its.toArray := pl
      have hal : a < s1.heap.objs.size := by obtain ⟨_, z, _⟩ := pl'; exact Heap.lt_size z
      refine enum_of (begins_tuple a its.toArray) pl' fun h2 he hit hk => wpAny_pyIter_enum he ?_
      exact ⟨_, _, _, _, H1, rfl, I1.kept (t' := s1.toks) hk, turnT (a := a) (e := s1.heap.objs.size + 1) (it := s1.heap.objs.size) (Nat.succ_ne_self _) (Nat.ne_of_lt hal) (Nat.ne_of_gt (Nat.lt_succ_of_lt hal)), ⟨⟨.none, he⟩, ⟨_, hit, rfl, rfl⟩⟩, fun b hb => I1.fpOk (fresh b hb) (I1.hok.fresh (fresh b hb)), q⟩
section
variable {T : Tab} {X : Cx} {xi : Xi} {W : WX}
theorem pairOk {K : PySem.W.Frag} {μ : List Addr} {H H' : Hp} {st : Sto} {P : Addr} {i : Nat} {v : S} {x : V} (r : RSt T K xi μ H st) (hP : H P = none) (e : H' = upd H P (.tup [.int (i : Nat), x])) (q : Rep T K μ H v x) :
    Ext K μ H μ H' ∧ RSt T K xi μ H' st ∧ Rep T K μ H' (.tup [.int i, v]) (.ref P) := by
  subst e
  obtain ⟨r2, e2⟩ := r.other (o := .tup [.int (i : Nat), x]) hP
  exact ⟨e2, r2, .tup_of (SqT.of upd_same) (.cons rep_int (.one (q.ext e2)))⟩
theorem si_enum {e : Expr} {m : EM} {p pos tpos : Pos} {elts : List Expr} {kk : Nat} (hm : X.mg "enumerate" = none) (he : PE X e (rdE T X.K xi W m)) (hg : Gl X "enumerate" := by rfl) (hs : starEach [e] X.env = [(false, eval e X.env)] := by rfl) :
    PI X (.Tuple elts kk tpos) (.Call (.Name "enumerate" p) [e] [] pos) (rdI T X.K xi W (wEnum m)) := by
  refine PI.mono (pi_enumB hg hm he hs) fun σ H R ⟨μ, ρ, st, r0, e0, p⟩ => ?_
  refine ⟨μ, ρ, st, r0, e0, Post.bind p fun x s1 μ1 H1 u e1 r1 q1 p1 => ?_⟩
  cases x with
  | tup l =>
    obtain ⟨a, vs, ea, h1, h2⟩ := q1.tup
    refine .inr ⟨a, vs, ea, h1, p1 μ1 H1 _ .refl r1 fun μ' H' st' i ex r' => ?_⟩
    have k1 := ex.tup _ _ h1
    have k2 := h2.ext ex
    refine ⟨fun hst => ⟨vs, k1, ?_⟩, fun v hv => ?_⟩
    · have z : (match (walkT l).at_ i st' with | .item v => Nxt.item (.tup [.int i, v]) | r => r) = .stop := hst
      unfold walkT at z
      simp only at z
      cases hl : l[i]? with
      | none => rw [← k2.len]; exact List.getElem?_eq_none_iff.mp hl
      | some y => rw [hl] at z; cases z
    · have z : (match (walkT l).at_ i st' with | .item v => Nxt.item (.tup [.int i, v]) | r => r) = .item v := hv
      unfold walkT at z
      simp only at z
      cases hl : l[i]? with
      | none => rw [hl] at z; cases z
      | some y =>
        rw [hl] at z
        injection z with z
        subst z
        obtain ⟨u2, q3, q4⟩ := k2.get hl
        refine ⟨⟨vs, u2, k1, q3⟩, fun xx H'' yy => ?_⟩
        obtain ⟨P, x2, e1, e2, e3, e4⟩ := yy
        have z2 := e4 vs k1
        rw [q3] at z2
        have e5 : u2 = x2 := Option.some.inj z2
        subst e5 e1
        exact pairOk r' e2 e3 q4
  | ref n =>
    obtain ⟨a, ha', ea⟩ := q1.ref
    cases hc : s1[n]? with
    | none => simp only [hc] at p1; exact p1.elim
    | some c =>
      cases c with
      | lst l =>
        simp only [hc] at p1
        obtain ⟨vs, h1, h2⟩ := r1.at hc ha'
        refine .inl ⟨a, vs, ea, SqL.of h1, p1 μ1 H1 _ .refl r1 fun μ' H' st' i ex r' => ?_⟩
        have ha2 := pre_get ex.pre ha'
        cases hc' : st'[n]? with
        | none => exact ⟨fun h => by simp [walkE, walkL, hc'] at h, fun v h => by simp [walkE, walkL, hc'] at h⟩
        | some c' =>
          cases c' with
          | lst l' =>
            obtain ⟨ws, k1, k2⟩ := r'.at hc' ha2
            cases hl : l'[i]? with
            | none =>
              refine ⟨fun _ => ⟨ws, SqL.of k1, by rw [← k2.len]; exact List.getElem?_eq_none_iff.mp hl⟩, fun v h => by simp [walkE, walkL, hc', hl] at h⟩
            | some y =>
              refine ⟨fun h => by simp [walkE, walkL, hc', hl] at h, fun v h => ?_⟩
              have z : S.tup [.int i, y] = v := by simpa [walkE, walkL, hc', hl] using h
              subst z
              obtain ⟨u2, q3, q4⟩ := k2.get hl
              refine ⟨⟨ws, u2, SqL.of k1, q3⟩, fun xx H'' yy => ?_⟩
              obtain ⟨P, x2, e1, e2, e3, e4⟩ := yy
              have z2 := e4 ws (SqL.of k1)
              rw [q3] at z2
              have e5 : u2 = x2 := Option.some.inj z2
              subst e5 e1
              exact pairOk r' e2 e3 q4
          | _ => exact ⟨fun h => by simp [walkE, walkL, hc'] at h, fun v h => by simp [walkE, walkL, hc'] at h⟩
      | _ => simp only [hc] at p1; exact p1.elim
  | _ => exact p1.elim
end
end Sm

/-! SemFin: from the bodies' rules to the law's end. -/
namespace Sm
open PySem PySem.Spec PyProof.Rows L2
/-! ### what a body leans on, at its entry -/
section
variable {T : Tab} {P : Program} {w : World} {K : PySem.W.Frag} {mg : Str → Option Value} {base : Heap} {k : Nat}
theorem bd_of {N : List Str} {qual : Str} {scope : Scope} {f : Addr} {cdv : Value} {A : Around} {outer : List PySem.Env} {s : Shared} {H : Hp} {E : XK} (tab : TabOk T K) (nd : N.Nodup) (hr : RoomS k (A.deeper (envOfC qual scope s.heap.objs.size f cdv))) :
    Bd T (cxOf (L2.CX P w) P w K mg base N qual scope f cdv A outer s H E) (fun cls d _ H' => E cls d H') k := ⟨takes_of rfl rfl rfl rfl, hr, tab, nd, rfl, passes_of rfl⟩
def botF : Fn := fun _ _ => .bad
theorem FnS.zero {f : Addr} {fd : FuncData} {ps : List Str} : FnS T P w K mg base k f fd ps botF :=
  ⟨fun l st h => absurd rfl h, fun A outer s H args us vs Q E _ _ _ _ ⟨_, _, _, _, _, p⟩ => p.elim⟩
theorem FnS.ok {f : Addr} {fd : FuncData} {ps : List Str} {F : Fn} {j : Nat} (G : FnS T P w K mg base k f fd ps F) (h1 : k + 7 ≤ 3 * j) (h2 : 5 * k ≤ 16 * j) (hG : needG = false) : FnOk P w K mg base (L2.CX P w) j f fd ps (spF T K F) :=
  ⟨fun vs H Q E h => spF_len G h, fun A outer s H args us vs Q E hr e0 hb rv hsp =>
    G.run A outer s H args us vs Q E ⟨hr.hd, (fun z => by rw [hG] at z; cases z), (by have := hr.dp; omega), (by have := hr.un; omega)⟩ e0 hb rv hsp⟩
end
/-! ### functions, methods, classes out of the facts -/
section
variable {T : Tab} {P : Program} {w : World} {K : PySem.W.Frag} {mg : Str → Option Value} {base : Heap} {k : Nat}
/-- a def of the written part -/
structure Fd (K : PySem.W.Frag) (d : He.DefD) : Prop where
  ex : ∃ fd, FunD K d.name d.qual d.params d.body d.scope [] [] (He.fAd K d.at_) fd
/-- a function by its module's name -/
theorem gfn_of {d : He.DefD} {x : Str} {ps : List Str} {F : Fn} (Z : Fd K d) (hm : mg x = some (.ref (He.fAd K d.at_))) (hb : ∀ (kV doc pm : Value) (an : Option Addr) (cdv ct : Value) (us : List Value), us.length = ps.length → bindArgs (PySem.W.fnOf d.name d.qual d.params d.body d.scope .none kV doc pm an cdv ct) ⟨us, []⟩ = pure (ps.zip us))
    (G : ∀ fd, FunD K d.name d.qual d.params d.body d.scope [] [] (He.fAd K d.at_) fd → FnS T P w K mg base k (He.fAd K d.at_) fd ps F) : GFn T P w K mg base k x ps F := by
  obtain ⟨fd, F1⟩ := Z.ex
  refine ⟨_, fd, G fd F1, hm, F1.kp, ?_⟩
  obtain ⟨oc, od, dV, kV, doc, pm, an, cdv, ct, osl, rfl, _, _, hdv, _⟩ := F1.ex
  rcases hdv with hdv | hdv
  · obtain rfl : dV = .none := by first | exact hdv.1 | exact hdv.2
    exact Binds.all fun us hu => hb kV doc pm an cdv ct us hu
  · exact absurd rfl hdv.1
theorem gmt_of {d : He.DefD} {c : Nat} {m : Str} {ps : List Str} {F : Fn} (Z : Fd K d) (hm : Meth K (T.clsA K c) m (He.fAd K d.at_)) (hb : ∀ (kV doc pm : Value) (an : Option Addr) (cdv ct : Value) (us : List Value), us.length = ps.length → bindArgs (PySem.W.fnOf d.name d.qual d.params d.body d.scope .none kV doc pm an cdv ct) ⟨us, []⟩ = pure (ps.zip us))
    (G : ∀ fd, FunD K d.name d.qual d.params d.body d.scope [] [] (He.fAd K d.at_) fd → FnS T P w K mg base k (He.fAd K d.at_) fd ps F) : GMt T P w K mg base k c m ps F := by
  obtain ⟨fd, F1⟩ := Z.ex
  refine ⟨_, fd, G fd F1, hm, ?_⟩
  obtain ⟨oc, od, dV, kV, doc, pm, an, cdv, ct, osl, rfl, _, _, hdv, _⟩ := F1.ex
  rcases hdv with hdv | hdv
  · obtain rfl : dV = .none := by first | exact hdv.1 | exact hdv.2
    exact Binds.all fun us hu => hb kV doc pm an cdv ct us hu
  · exact absurd rfl hdv.1
theorem gcl_of {d : He.DefD} {c : Nat} {x : Str} {ps : List Str} {F : Fn} (Z : Fd K d) (hg : mg x = some (.ref (T.clsA K c))) (hm : Mk K (T.clsA K c) (He.fAd K d.at_)) (hc : c < T.cls.length) (hb : ∀ (kV doc pm : Value) (an : Option Addr) (cdv ct : Value) (us : List Value), us.length = ps.length → bindArgs (PySem.W.fnOf d.name d.qual d.params d.body d.scope .none kV doc pm an cdv ct) ⟨us, []⟩ = pure (ps.zip us))
    (G : ∀ fd, FunD K d.name d.qual d.params d.body d.scope [] [] (He.fAd K d.at_) fd → FnS T P w K mg base k (He.fAd K d.at_) fd ps F) : GCl T P w K mg base k c x ps F := by
  obtain ⟨fd, F1⟩ := Z.ex
  refine ⟨⟨_, fd, G fd F1, hg, hm, ?_⟩, hc⟩
  obtain ⟨oc, od, dV, kV, doc, pm, an, cdv, ct, osl, rfl, _, _, hdv, _⟩ := F1.ex
  rcases hdv with hdv | hdv
  · obtain rfl : dV = .none := by first | exact hdv.1 | exact hdv.2
    exact Binds.all fun us hu => hb kV doc pm an cdv ct us hu
  · exact absurd rfl hdv.1
end
theorem Bd.u64 {T : Tab} {X : Cx} {W : WX} {k : Nat} (b : Bd T X W k) : X.A.units + 64 < cLine := by have := b.rm.un; omega
theorem Bd.u66 {T : Tab} {X : Cx} {W : WX} {k : Nat} (b : Bd T X W k) : X.A.units + 66 < cLine := by have := b.rm.un; omega
theorem GFn.val {T : Tab} {P : Program} {w : World} {K : PySem.W.Frag} {mg : Str → Option Value} {base : Heap} {k : Nat} {x : Str} {ps : List Str} {F : Fn} {a : Addr} (G : GFn T P w K mg base k x ps F) (h : mg x = some (.ref a)) : ∃ fd ps, FnS T P w K mg base k a fd ps F ∧ PySem.W.keepIn K (.ref a) = true ∧ Binds K fd ps [] := by
  obtain ⟨f, fd, h1, h2, h3, h4⟩ := G.ex
  rw [h] at h2
  have e : a = f := Value.ref.inj (Option.some.inj h2)
  subst e
  exact ⟨fd, ps, h1, h3, h4⟩
/-! ### an __init__ that says super() -/
structure XDef where
  at_ : Str × Option Str
  name : Str
  qual : Str
  params : Arguments
  body : List Stmt
  scope : Scope
abbrev FnV : Type := Option (Str × Str × Arguments × FuncBody × Scope × Addr × Addr)
def fnV (K : PySem.W.Frag) (p : Str × Option Str) : FnV := match K.lookup (He.fAd K p) with
  | some ⟨_, _, .func fd, _⟩ => some (fd.name, fd.qualname, fd.params, fd.body, fd.scope, fd.globals, fd.builtins)
  | _ => none
def XDef.val (d : XDef) : FnV := some (d.name, d.qual, d.params, .stmts d.body, d.scope, mainGlobals, builtinsNs)
/-- where its cell __class__ and its code stand -/
def ccA (K : PySem.W.Frag) (p : Str × Option Str) : Addr := match K.lookup (He.fAd K p) with
  | some ⟨_, _, .func fd, _⟩ => (match fd.closure with
    | [(_, c)] => c
    | _ => 0)
  | _ => 0
def cdA (K : PySem.W.Frag) (p : Str × Option Str) : Addr := match K.lookup (He.fAd K p) with
  | some ⟨_, _, .func fd, _⟩ => (match fd.code with
    | .ref c => c
    | _ => 0)
  | _ => 0
def XDef.nf (d : XDef) (K : PySem.W.Frag) : NdefX.NF := ⟨d.name, d.qual, d.params, d.body, d.scope, [(("__class__" : Str), ccA K d.at_)], cdA K d.at_⟩
/-- the class object's slots, its mro -/
def oexB (K : PySem.W.Frag) (C : Addr) : Bool := match K.lookup C with
  | some ⟨.type t, _, .cls cd, sl⟩ => decide (t = "type") && (match cd.mro, sl.toList with
    | .ref C' :: bm, [_, _, _, _, some (.builtin n), _] => decide (C' = C) && (decide (n = "ValueError.__new__") && (!cd.hasDel && (cd.hasDict && PySem.HandSPX.refsVE bm)))
    | _, _ => false)
  | _ => false
theorem oexB_ok {K : PySem.W.Frag} {C : Addr} (h : oexB K C = true) : ∃ nm q N bs bm sn sub ab col dd k0 k1 k2 k3 k5, K.lookup C = some (excClassObj nm q C N bs bm true sn sub ab col dd k0 k1 k2 k3 k5 "ValueError.__new__") ∧ PySem.HandSPX.refsVE bm = true := by
  unfold oexB at h
  split at h
  · rename_i t dd cd sl ho
    obtain ⟨h1, h2⟩ := Bool.and_eq_true_iff.mp h
    split at h2
    · rename_i C' bm k0 k1 k2 k3 n k5 hm hs
      obtain ⟨q1, h3⟩ := Bool.and_eq_true_iff.mp h2
      obtain ⟨q2, h4⟩ := Bool.and_eq_true_iff.mp h3
      obtain ⟨q3, h5⟩ := Bool.and_eq_true_iff.mp h4
      obtain ⟨q4, q5⟩ := Bool.and_eq_true_iff.mp h5
      have e1 : t = "type" := of_decide_eq_true h1
      have e2 : C' = C := of_decide_eq_true q1
      have e3 : n = "ValueError.__new__" := of_decide_eq_true q2
      subst e1 e2 e3
      obtain ⟨nm, bs, mro, ns, qn, hd, sn, sub, ab, col, del⟩ := cd
      dsimp only at hm q3 q4
      have e4 : del = false := by simpa using q3
      subst hm e4 q4
      have hsl : sl = #[k0, k1, k2, k3, some (.builtin "ValueError.__new__"), k5] := by
        obtain ⟨l⟩ := sl
        simp only at hs
        rw [hs]
      subst hsl
      exact ⟨_, _, _, _, _, _, _, _, _, _, _, _, _, _, _, ho, q5⟩
    · cases h2
  · cases h
def oexcB (K : PySem.W.Frag) (C : Addr) : Bool := oexB K C && (He.eqO (PySem.W.findIn K (.ref C) "__setattr__") (some (some (.builtin "object.__setattr__"))) && (decide (PySem.W.subIn K (.ref C) (.type "BaseException") = some true) && (decide (PySem.W.typeIn K (.ref C) = some (.type "type")) && PySem.W.keepIn K (.ref C))))
theorem oexcB_ok {K : PySem.W.Frag} {C : Addr} (h : oexcB K C = true) : OexC K C := by
  obtain ⟨h1, h⟩ := Bool.and_eq_true_iff.mp h
  obtain ⟨h2, h⟩ := Bool.and_eq_true_iff.mp h
  obtain ⟨h3, h⟩ := Bool.and_eq_true_iff.mp h
  obtain ⟨h4, h5⟩ := Bool.and_eq_true_iff.mp h
  exact ⟨oexB_ok h1, He.eqO_ok h2, of_decide_eq_true h3, of_decide_eq_true h4, h5⟩
/-- what is checked of such a def (p: the program; the class by d's own name) -/
def XDef.ok (p : Program) (K : PySem.W.Frag) (d : XDef) : Bool :=
  (match K.lookup (He.fAd K d.at_) with
    | some ⟨_, _, .func fd, _⟩ => decide (fd.closure = [(("__class__" : Str), ccA K d.at_)] ∧ fd.defaults = .none) && (decide (fd.code = .ref (cdA K d.at_)) && PySem.W.codeIn K fd.code d.qual)
    | _ => false) &&
  ((match K.lookup (ccA K d.at_) with
    | some ⟨_, _, .cell (some (.ref D)), _⟩ => decide (D = He.ga K d.at_.1)
    | _ => false) &&
  ((match K.lookup (cdA K d.at_) with
    | some ⟨_, _, .fields vs, _⟩ => (match vs.toList with
      | _ :: _ :: .str file _ :: _ => (p.main.file : Str) == file
      | _ => false)
    | _ => false) &&
  ((PySem.W.clsIn K (He.ga K d.at_.1)).isSome && (decide (PySem.W.mroIn K (He.ga K d.at_.1) (.ref (He.ga K d.at_.1)) = some true) &&
  (decide (PySem.W.ks_superIn K (He.ga K d.at_.1) (He.ga K d.at_.1) "__init__" = some (some (.builtin "ValueError.__init__"))) && (decide (PySem.W.subIn K (.ref (He.ga K d.at_.1)) (.type "ValueError") = some true) &&
  (oexcB K (He.ga K d.at_.1) && (He.eqO (PySem.W.findIn K (.ref (He.ga K d.at_.1)) "__init__") (some (some (.ref (He.fAd K d.at_)))) && decide (PySem.W.typeIn K (.ref (He.fAd K d.at_)) = some (.type "function")))))))))) && He.eqO (PySem.W.nsIn K cStatics "thirdparty.any") (some none)
theorem beq_str {a b : Str} (h : (a == b) = true) : a = b := by simpa using h
structure XOk (p : Program) (K : PySem.W.Frag) (d : XDef) : Prop where
  z : XiF p K (d.nf K) (He.fAd K d.at_) (He.ga K d.at_.1) (He.ga K d.at_.1) (ccA K d.at_)
  o : OexC K (He.ga K d.at_.1)
  i : PySem.W.findIn K (.ref (He.ga K d.at_.1)) "__init__" = some (some (.ref (He.fAd K d.at_)))
  t : PySem.W.typeIn K (.ref (He.fAd K d.at_)) = some (.type "function")
theorem xdef_ok {p : Program} {K : PySem.W.Frag} {d : XDef} (e : fnV K d.at_ = d.val) (h : d.ok p K = true) (hk : d.scope.kind = .function) (hks : d.scope.names.lookup ("super" : Str) = some .globalImplicit) (hkc : d.scope.names.lookup ("__class__" : Str) = some .free)
    (top : (p.main.scope.names.lookup ("super" : Str)).isSome = false) : XOk p K d := by
  unfold XDef.ok at h
  obtain ⟨h, h10⟩ := Bool.and_eq_true_iff.mp h
  obtain ⟨h1, h⟩ := Bool.and_eq_true_iff.mp h
  obtain ⟨h2, h⟩ := Bool.and_eq_true_iff.mp h
  obtain ⟨h3, h⟩ := Bool.and_eq_true_iff.mp h
  obtain ⟨h4, h⟩ := Bool.and_eq_true_iff.mp h
  obtain ⟨h5, h⟩ := Bool.and_eq_true_iff.mp h
  obtain ⟨h6, h⟩ := Bool.and_eq_true_iff.mp h
  obtain ⟨h7, h⟩ := Bool.and_eq_true_iff.mp h
  obtain ⟨h8, h⟩ := Bool.and_eq_true_iff.mp h
  obtain ⟨h9, h11⟩ := Bool.and_eq_true_iff.mp h
  have fact1 : (∃ (oc : Value) (od : Option Addr) (dV kV doc pm : Value) (an : Option Addr) (ct : Value) (osl : Array (Option Value)), dV = .none ∧ K.lookup (He.fAd K d.at_) = some ⟨oc, od, .func (PySem.W.fnX d.name d.qual d.params d.body d.scope [(("__class__" : Str), ccA K d.at_)] dV kV doc pm an (.ref (cdA K d.at_)) ct), osl⟩) ∧
      PySem.W.codeIn K (.ref (cdA K d.at_)) d.qual = true := by
    unfold fnV at e
    cases q : K.lookup (He.fAd K d.at_) with
    | none => rw [q] at h1; cases h1
    | some o =>
      obtain ⟨oc, od, dt, osl⟩ := o
      rw [q] at h1 e
      cases dt with
      | func fd =>
        obtain ⟨n1, n2, n3, n4, n5, n6, n7, n8, n9, n10, n11, n12, n13, n14, n15⟩ := fd
        have e2 : (some (n1, n2, n3, n4, n5, n6, n15) : FnV) = some (d.name, d.qual, d.params, .stmts d.body, d.scope, mainGlobals, builtinsNs) := e
        simp only [Option.some.injEq, Prod.mk.injEq] at e2
        obtain ⟨g1, g2, g3, g4, g5, g6, g8⟩ := e2
        obtain ⟨k1, k2⟩ := Bool.and_eq_true_iff.mp h1
        obtain ⟨k3, k4⟩ := Bool.and_eq_true_iff.mp k2
        have g70 := of_decide_eq_true k1
        obtain ⟨g7, g77⟩ := g70
        have g9 := of_decide_eq_true k3
        dsimp only at g7 g77 g9 k4
        rw [g9] at k4
        rw [g1, g2, g3, g4, g5, g6, g8, g7, g9]
        exact ⟨⟨oc, od, n8, n9, n10, n11, n12, n14, osl, g77, rfl⟩, k4⟩
      | _ => cases h1
  refine ⟨⟨fact1.1, fact1.2, rfl, ?_, ?_, h4, of_decide_eq_true h5, of_decide_eq_true h6, of_decide_eq_true h7, hk, hks, hkc, top, He.eqO_ok h10⟩, oexcB_ok h8, He.eqO_ok h9, of_decide_eq_true h11⟩
  · split at h2
    · rename_i cl cld D csl hl
      have eD := of_decide_eq_true h2
      subst eD
      exact ⟨_, _, _, hl⟩
    · cases h2
  · split at h3
    · rename_i ccl cdd vs ccs hl
      split at h3
      · rename_i v0 v1 file tf rest hv
        refine ⟨_, _, vs, _, file, tf, hl, ?_, h3⟩
        have e3 : vs[2]? = vs.toList[2]? := by simp
        rw [e3, hv]
        rfl
      · cases h3
    · cases h3
end Sm

/-! SemHead: the facts that the head looks at, and the law's end. -/
namespace Sm
open PySem PySem.Spec PyProof.Rows L2
/-! ### which objects -/
def rfV : Value → List Addr
  | .ref a => [a]
  | _ => []
def rfF (fd : FuncData) : List Addr := rfV fd.code ++ fd.closure.map (·.2)
/-- what a class's name holds: a function, its code, its cells -/
def pickM (g : Addr → Option Obj) (v : Value) : List Addr := match v with
  | .ref a => a :: (match g a with
    | some ⟨_, _, .func fd, _⟩ => rfF fd
    | _ => [])
  | _ => []
/-- what a module's name holds -/
def pickV (g : Addr → Option Obj) (v : Value) : List Addr := match v with
  | .ref a => a :: (match g a with
    | some ⟨_, _, .func fd, _⟩ => rfF fd
    | some ⟨_, _, .cls cd, _⟩ => cd.ns :: (match g cd.ns with
      | some ⟨_, _, .dict es _, _⟩ => es.toList.flatMap fun e => pickM g e.val
      | _ => [])
    | some ⟨_, _, .seq its _, _⟩ => its.toList.flatMap fun u => match u with
      | .ref b => b :: (match g b with
        | some ⟨_, _, .seq js _, _⟩ => js.toList.flatMap rfV
        | _ => [])
      | _ => []
    | _ => [])
  | _ => []
def asM (g : Addr → Option Obj) : List Addr := mainGlobals :: cStatics :: (match g mainGlobals with
  | some ⟨_, _, .dict es _, _⟩ => es.toList.flatMap fun e => pickV g e.val
  | _ => [])
/-! ### facts -/
def tabB (T : Tab) (K : PySem.W.Frag) : Bool :=
  (List.range T.cls.length).all fun c => (PySem.W.plainGet K (T.clsA K c) Str.empty && (PySem.W.hasDictIn K (T.clsA K c) && (PySem.W.plainOver K (T.clsA K c) && He.eqO (PySem.W.findIn K (.ref (T.clsA K c)) "__setattr__") (some (some (.builtin "object.__setattr__")))))) &&
    (List.range T.flds.length).all fun k => decide (k ∈ T.ms c) || He.eqO (PySem.W.findIn K (.ref (T.clsA K c)) (T.fld k)) (some none)
theorem tabB_ok {T : Tab} {K : PySem.W.Frag} (nd : T.flds.Nodup) (h : tabB T K = true) : TabOk T K := by
  unfold tabB at h
  have h := List.all_eq_true.mp h
  refine ⟨fun c hc => ?_, fun c k hc hk hm => ?_, nd⟩
  · obtain ⟨h1, _⟩ := Bool.and_eq_true_iff.mp (h c (List.mem_range.mpr hc))
    obtain ⟨q1, h1⟩ := Bool.and_eq_true_iff.mp h1
    obtain ⟨q2, h1⟩ := Bool.and_eq_true_iff.mp h1
    obtain ⟨q3, q4⟩ := Bool.and_eq_true_iff.mp h1
    exact ⟨q1, q2, q3, He.eqO_ok q4⟩
  · obtain ⟨_, h2⟩ := Bool.and_eq_true_iff.mp (h c (List.mem_range.mpr hc))
    have h3 := List.all_eq_true.mp h2 k (List.mem_range.mpr hk)
    rcases Bool.or_eq_true_iff.mp h3 with z | z
    · exact absurd (of_decide_eq_true z) hm
    · exact He.eqO_ok z
def conB (K : PySem.W.Frag) (q : Str × S) : Bool := match PySem.W.nsIn K mainGlobals q.1 with
  | some (some u) => kB K q.2 u
  | _ => false
def excCB (K : PySem.W.Frag) (D : Addr) : Bool := He.eqO (PySem.W.findIn K (.ref D) "__getattribute__") (some (some (.builtin "BaseException.__getattribute__"))) && (He.eqO (PySem.W.findIn K (.ref D) "__getattr__") (some none) &&
  (decide (PySem.W.subIn K (.ref D) (.type "BaseException") = some true) && (PySem.W.hasDictIn K D && (He.eqO (PySem.W.findIn K (.ref D) "__class__") (some (some (.builtin "object.__class__"))) &&
  (He.eqO (PySem.W.specialIn K (.builtin "object.__class__") "__get__") (some (some (.builtin "getset_descriptor.__get__"))) && (decide (PySem.W.takesIn K (.builtin "object.__class__") = some true) && decide (PySem.W.mroIn K D (.type "object") = some true)))))))
theorem excCB_ok {K : PySem.W.Frag} {D : Addr} (h : excCB K D = true) : ExcC K D := by
  obtain ⟨h1, h⟩ := Bool.and_eq_true_iff.mp h
  obtain ⟨h2, h⟩ := Bool.and_eq_true_iff.mp h
  obtain ⟨h3, h⟩ := Bool.and_eq_true_iff.mp h
  obtain ⟨h4, h⟩ := Bool.and_eq_true_iff.mp h
  obtain ⟨h5, h⟩ := Bool.and_eq_true_iff.mp h
  obtain ⟨h6, h⟩ := Bool.and_eq_true_iff.mp h
  obtain ⟨h7, h8⟩ := Bool.and_eq_true_iff.mp h
  exact ⟨He.eqO_ok h1, He.eqO_ok h2, of_decide_eq_true h3, h4, He.eqO_ok h5, He.eqO_ok h6, of_decide_eq_true h7, of_decide_eq_true h8⟩
/-- no list among the written part's objects -/
def noLst (K : PySem.W.Frag) : Bool := K.all fun q => match q.2.cls with
  | .type n => n != "list"
  | _ => true
theorem noLst_ok {K : PySem.W.Frag} (h : noLst K = true) {a : Addr} {o : Obj} (e : K.lookup a = some o) : o.cls ≠ .type "list" := by
  have mem : ∀ {l : List (Addr × Obj)}, l.lookup a = some o → (a, o) ∈ l := by
    intro l
    induction l with
    | nil => intro z; cases z
    | cons p l ih =>
      intro z
      obtain ⟨b, u⟩ := p
      rw [List.lookup_cons] at z
      by_cases hb : (a == b) = true
      · rw [hb] at z
        have e1 : u = o := Option.some.inj z
        have e2 : a = b := by simpa using hb
        rw [e1, e2]
        exact List.mem_cons_self
      · have hb : (a == b) = false := by simpa using hb
        rw [hb] at z
        exact List.mem_cons_of_mem _ (ih z)
  have z := List.all_eq_true.mp h (a, o) (mem e)
  intro q
  rw [q] at z
  simp at z
/-- what is looked at -/
structure Look0 where
  P : Program
  T : Tab
  fa : List He.Fa
  cs : List (Str × S)
  fn : List He.DefD
  xd : List XDef
  xf : List Str
  xc : List Str
  ck : List (Str × (PySem.W.Frag → Value))
abbrev AlM : Type := Bool × List He.FnW × List FnV
def Look0.bool (L : Look0) (K : PySem.W.Frag) : Bool := noLst K && (tabB L.T K && ((L.fa.all fun f => f.ok K) && ((L.cs.all fun q => conB K q) && ((L.fn.all fun d => d.ok K) && ((L.xd.all fun d => d.ok L.P K) &&
  ((L.xf.all fun x => xfB K (He.ga K x)) && ((L.xc.all fun x => excCB K (He.ga K x)) && (L.ck.all fun q => decide (PySem.W.kitOne K (.ref (He.ga K q.1)) (q.2 K) = some true)))))))))
def Look0.obs (L : Look0) (K : PySem.W.Frag) : AlM := (L.bool K, L.fn.map fun d => He.fnW K d.at_, L.xd.map fun d => fnV K d.at_)
def Look0.val (L : Look0) : AlM := (true, L.fn.map He.DefD.val, L.xd.map XDef.val)
def Look0.Says (L : Look0) (K : PySem.W.Frag) : Prop := L.obs K = L.val
def Look0.ob (L : Look0) (g : Addr → Option Obj) : AlM := L.obs (He.frG g (asM g))
def Look0.hook (L : Look0) : PySem.W.Hook where
  α := AlM
  obs := fun s => L.ob s.heap.get?
  val := fun _ => L.val
  says := fun _ h => ∃ K : PySem.W.Frag, K.In h ∧ L.Says K
  of := fun _ _ e => ⟨_, He.frG_in, e⟩
  keeps := fun _ _ _ ⟨K, hK, c⟩ k => ⟨K, PySem.W.Frag.In.keeps hK k, c⟩
theorem Look0.ob_eq (L : Look0) {g : Addr → Option Obj} {s : Shared} (h : ∀ a, g a = s.heap.get? a) : L.ob g = L.hook.obs s := by
  have e : g = s.heap.get? := funext h
  rw [e]
  rfl
section
variable {L : Look0} {K : PySem.W.Frag}
theorem Look0.Says.b (c : L.Says K) : L.bool K = true := congrArg (fun z : AlM => z.1) c
theorem Look0.Says.parts (c : L.Says K) : noLst K = true ∧ tabB L.T K = true ∧ (∀ f ∈ L.fa, f.ok K = true) ∧ (∀ q ∈ L.cs, conB K q = true) ∧ (∀ d ∈ L.fn, d.ok K = true) ∧ (∀ d ∈ L.xd, d.ok L.P K = true) ∧ (∀ x ∈ L.xf, xfB K (He.ga K x) = true) ∧ (∀ x ∈ L.xc, excCB K (He.ga K x) = true) ∧
    ∀ q ∈ L.ck, PySem.W.kitOne K (.ref (He.ga K q.1)) (q.2 K) = some true := by
  have h := c.b
  unfold Look0.bool at h
  obtain ⟨h0, h⟩ := Bool.and_eq_true_iff.mp h
  obtain ⟨h1, h⟩ := Bool.and_eq_true_iff.mp h
  obtain ⟨h2, h⟩ := Bool.and_eq_true_iff.mp h
  obtain ⟨h3, h⟩ := Bool.and_eq_true_iff.mp h
  obtain ⟨h4, h⟩ := Bool.and_eq_true_iff.mp h
  obtain ⟨h5, h⟩ := Bool.and_eq_true_iff.mp h
  obtain ⟨h6, h⟩ := Bool.and_eq_true_iff.mp h
  obtain ⟨h7, h8⟩ := Bool.and_eq_true_iff.mp h
  exact ⟨h0, h1, List.all_eq_true.mp h2, List.all_eq_true.mp h3, List.all_eq_true.mp h4, List.all_eq_true.mp h5, List.all_eq_true.mp h6, List.all_eq_true.mp h7, fun q hq => of_decide_eq_true (List.all_eq_true.mp h8 q hq)⟩
theorem Look0.Says.fact (c : L.Says K) (i : Nat) {f : He.Fa} (h : L.fa[i]? = some f := by rfl) : f.ok K = true := c.parts.2.2.1 f (List.mem_of_getElem? h)
theorem Look0.Says.con (c : L.Says K) {h : Heap} {mg : Str → Option Value} (X : K.In h) (G : h.Ns mainGlobals mg) (i : Nat) {x : Str} {s : S} (e : L.cs[i]? = some (x, s) := by rfl) : GlC K mg x s := by
  have z := c.parts.2.2.2.1 _ (List.mem_of_getElem? e)
  unfold conB at z
  dsimp only at z
  split at z
  · rename_i u hu
    exact ⟨u, PySem.W.mg_of X G hu, z⟩
  · cases z
theorem Look0.Says.def_ (c : L.Says K) (i : Nat) {d : He.DefD} (h : L.fn[i]? = some d := by rfl) (h1 : d.dfl = [] := by rfl) (h2 : d.kwd = [] := by rfl) : Fd K d := by
  have e : L.fn.map (fun d => He.fnW K d.at_) = L.fn.map He.DefD.val := congrArg (fun z : AlM => z.2.1) c
  have e2 : (L.fn.map fun d => He.fnW K d.at_)[i]? = (L.fn.map He.DefD.val)[i]? := by rw [e]
  rw [List.getElem?_map, List.getElem?_map, h] at e2
  obtain ⟨fd, F⟩ := He.DefD.funD (Option.some.inj e2) (c.parts.2.2.2.2.1 d (List.mem_of_getElem? h))
  unfold He.DefD.dvs He.DefD.kws at F
  rw [h1, h2] at F
  exact ⟨fd, F⟩
theorem Look0.Says.xdef (c : L.Says K) (i : Nat) {d : XDef} (hk : d.scope.kind = .function) (hks : d.scope.names.lookup ("super" : Str) = some .globalImplicit) (hkc : d.scope.names.lookup ("__class__" : Str) = some .free) (top : (L.P.main.scope.names.lookup ("super" : Str)).isSome = false)
    (h : L.xd[i]? = some d := by rfl) : XOk L.P K d := by
  have e : L.xd.map (fun d => fnV K d.at_) = L.xd.map XDef.val := congrArg (fun z : AlM => z.2.2) c
  have e2 : (L.xd.map fun d => fnV K d.at_)[i]? = (L.xd.map XDef.val)[i]? := by rw [e]
  rw [List.getElem?_map, List.getElem?_map, h] at e2
  exact xdef_ok (Option.some.inj e2) (c.parts.2.2.2.2.2.1 d (List.mem_of_getElem? h)) hk hks hkc top
theorem Look0.Says.xfc (c : L.Says K) (i : Nat) {x : Str} (h : L.xf[i]? = some x := by rfl) : XfC K (He.ga K x) := xfB_ok (c.parts.2.2.2.2.2.2.1 x (List.mem_of_getElem? h))
theorem Look0.Says.xcc (c : L.Says K) (i : Nat) {x : Str} (h : L.xc[i]? = some x := by rfl) : ExcC K (He.ga K x) := excCB_ok (c.parts.2.2.2.2.2.2.2.1 x (List.mem_of_getElem? h))
theorem Look0.Says.kit (c : L.Says K) (i : Nat) {x : Str} {v : PySem.W.Frag → Value} (h : L.ck[i]? = some (x, v) := by rfl) : PySem.W.kitOne K (.ref (He.ga K x)) (v K) = some true := c.parts.2.2.2.2.2.2.2.2 _ (List.mem_of_getElem? h)
theorem meth_of {x m : Str} (h : (He.Fa.meth x m).ok K = true) : Meth K (He.ga K x) m (He.fAd K (x, some m)) := by
  obtain ⟨h1, h2⟩ := Bool.and_eq_true_iff.mp h
  obtain ⟨h3, h4⟩ := Bool.and_eq_true_iff.mp h2
  exact ⟨He.eqO_ok h1, h3, h4⟩
theorem mk_of {x : Str} (h : (He.Fa.mkr x).ok K = true) : Mk K (He.ga K x) (He.fAd K (x, some "__init__")) := by
  obtain ⟨h1, h2⟩ := Bool.and_eq_true_iff.mp h
  obtain ⟨h3, h4⟩ := Bool.and_eq_true_iff.mp h2
  obtain ⟨h5, h6⟩ := Bool.and_eq_true_iff.mp h4
  exact ⟨h1, He.eqO_ok h3, h5, h6⟩
end
/-! ### the script -/
theorem script_post {T : Tab} {K : PySem.W.Frag} {F : Fn} {H : Hp} {a : Addr} {ns : List Int} (nl : noLst K = true) (ho : Only H) (hs : SqL K H a (ns.map V.int)) (h : ∃ st', F [.ref 0] [.rol (ns.map S.int)] = .ok (.bl true) st') :
    spF T K F [.ref a] H (fun v _ => v = .bl true) fun _ _ _ => False := by
  have rp : ∀ (μ : List Addr) (H : Hp) (ns : List Int), RepL T K μ H (ns.map S.int) (ns.map V.int) := fun μ H ns => by
    induction ns with
    | nil => exact .nil
    | cons n ns ih => exact .cons rep_int ih
  have hf : ∃ o, H a = some (.frz o (.lst (ns.map V.int))) := by
    rcases hs with (hs | ⟨o, hs⟩) | ⟨o, its, n, hk, hc, _⟩
    · rcases ho a with z | ⟨o, xs, z⟩
      · rw [z] at hs; cases hs
      · rw [z] at hs; cases hs
    · exact ⟨o, hs⟩
    · exact absurd hc (noLst_ok nl hk)
  obtain ⟨o, ha⟩ := hf
  obtain ⟨st', h⟩ := h
  refine ⟨[a], [.ref 0], [.rol (ns.map S.int)], ⟨rfl, fun n m b c d h1 h2 _ _ _ _ => ?_, fun n b c h1 h2 => ?_, fun n b cl d z => nomatch z⟩, .one (by unfold Rep; exact ⟨a, rfl, rfl⟩), ?_⟩
  · cases n with
    | zero => cases m with
      | zero => rfl
      | succ m => simp at h2
    | succ n => simp at h1
  · cases n with
    | zero =>
      have e1 : a = b := by simpa using h1
      have e2 : Cell.rol (ns.map S.int) = c := by simpa using h2
      subst e1 e2
      exact ⟨o, _, ha, rp _ _ _⟩
    | succ n => simp at h1
  · rw [h]
    exact fun μ' H' u e r q => q.bl
end Sm

/-! SemEv: sameness of values, what a call gave, told by Bool (plain Lean). -/
namespace Sm
mutual
def S.same : S → S → Bool
  | .non, y => match y with | .non => true | _ => false
  | .bl a, y => match y with | .bl b => a == b | _ => false
  | .int i, y => match y with | .int j => decide (i = j) | _ => false
  | .str x, y => match y with | .str z => decide (x = z) | _ => false
  | .tup l, y => match y with | .tup r => S.sameL l r | _ => false
  | .ref n, y => match y with | .ref m => Nat.beq n m | _ => false
  | .fn n, y => match y with | .fn m => Nat.beq n m | _ => false
  | .cst n, y => match y with | .cst m => Nat.beq n m | _ => false
def S.sameL : List S → List S → Bool
  | [], r => match r with | [] => true | _ => false
  | x :: l, r => match r with | [] => false | y :: r => S.same x y && S.sameL l r
end
mutual
theorem S.same_eq : ∀ {x y : S}, S.same x y = true → x = y
  | .non, y, h => by cases y <;> first | rfl | (unfold S.same at h; cases h)
  | .bl a, y, h => by
    cases y with
    | bl b => unfold S.same at h; rw [show a = b by simpa using h]
    | _ => unfold S.same at h; cases h
  | .int a, y, h => by
    cases y with
    | int b => unfold S.same at h; rw [of_decide_eq_true h]
    | _ => unfold S.same at h; cases h
  | .str a, y, h => by
    cases y with
    | str b => unfold S.same at h; rw [of_decide_eq_true h]
    | _ => unfold S.same at h; cases h
  | .tup a, y, h => by
    cases y with
    | tup b => unfold S.same at h; rw [S.sameL_eq h]
    | _ => unfold S.same at h; cases h
  | .ref a, y, h => by
    cases y with
    | ref b => unfold S.same at h; rw [Nat.eq_of_beq_eq_true h]
    | _ => unfold S.same at h; cases h
  | .fn a, y, h => by
    cases y with
    | fn b => unfold S.same at h; rw [Nat.eq_of_beq_eq_true h]
    | _ => unfold S.same at h; cases h
  | .cst a, y, h => by
    cases y with
    | cst b => unfold S.same at h; rw [Nat.eq_of_beq_eq_true h]
    | _ => unfold S.same at h; cases h
theorem S.sameL_eq : ∀ {x y : List S}, S.sameL x y = true → x = y
  | [], y, h => by cases y <;> first | rfl | (unfold S.sameL at h; cases h)
  | a :: l, y, h => by
    cases y with
    | nil => unfold S.sameL at h; cases h
    | cons b r =>
      unfold S.sameL at h
      obtain ⟨h1, h2⟩ := Bool.and_eq_true_iff.mp h
      rw [S.same_eq h1, S.sameL_eq h2]
end
/-- r is ok, its value v -/
def gave (r : Res S) (v : S) : Bool := match r with
  | .ok x _ => x.same v
  | _ => false
theorem gave_eq {r : Res S} {v : S} (h : gave r v = true) : ∃ st, r = .ok v st := by
  cases r with
  | ok x st => exact ⟨st, by rw [S.same_eq h]⟩
  | exc e st => cases h
  | bad => cases h
theorem isoF_ok {f : Fn} {l : List S} {v : S} {st : Sto} (h : gave (f l []) v = true) (hl : S.cleanL l = true) (hv : v.clean = true) : isoF f l st = .ok v st := by
  obtain ⟨s1, e⟩ := gave_eq h
  unfold isoF
  rw [if_pos hl, e]
  simp only [hv, if_true]
end Sm

namespace Wk
open PySem PySem.Spec PyProof.Rows L2 Sm
def top (i : Nat) : Stmt := PySem.Challenge.pw_loancheck_k01_faults_of_texts.main.body.getD i (.Pass ⟨0, 0, 0, 0⟩)

def T : Tab := ⟨["token", "reason", "function", "statement", "program", "kinds", "operations", "followers", "loose", "scopes", "loops", "place", "number", "next", "names", "row", "at", "depth", "deepest", "__init__", "follow", "node", "end_scopes", "callee", "fault", "check", "declare", "kind_of", "passed", "mark", "name", "kind"], [("Builder", [19, 20, 21, 22, 23]), ("Checking", [19, 24, 25, 2, 26, 27, 23]), ("Parser", [19, 24, 0, 28, 29, 30, 31])], ["LoanError", "BadText", "BadRule", "Fault"], [("read_parameter", none), ("read_argument", none)]⟩
abbrev st__law_cell : Stmt := top 72
def d__law_cell : He.DefD := ⟨("_law_cell", none), "_law_cell", "_law_cell", defArgs st__law_cell, defBody st__law_cell, defScope st__law_cell, [], []⟩
abbrev st__law_digits : Stmt := top 75
def d__law_digits : He.DefD := ⟨("_law_digits", none), "_law_digits", "_law_digits", defArgs st__law_digits, defBody st__law_digits, defScope st__law_digits, [], []⟩
abbrev st__law_rows : Stmt := top 77
def d__law_rows : He.DefD := ⟨("_law_rows", none), "_law_rows", "_law_rows", defArgs st__law_rows, defBody st__law_rows, defScope st__law_rows, [], []⟩
abbrev st__law_draw : Stmt := top 76
def d__law_draw : He.DefD := ⟨("_law_draw", none), "_law_draw", "_law_draw", defArgs st__law_draw, defBody st__law_draw, defScope st__law_draw, [], []⟩
abbrev st_Parser___init__ : Stmt := inClass (top 57) 0
def d_Parser___init__ : He.DefD := ⟨("Parser", some "__init__"), "__init__", "Parser.__init__", defArgs st_Parser___init__, defBody st_Parser___init__, defScope st_Parser___init__, [], []⟩
abbrev st_run_behind : Stmt := top 51
def d_run_behind : He.DefD := ⟨("run_behind", none), "run_behind", "run_behind", defArgs st_run_behind, defBody st_run_behind, defScope st_run_behind, [], []⟩
abbrev st_run_token : Stmt := top 50
def d_run_token : He.DefD := ⟨("run_token", none), "run_token", "run_token", defArgs st_run_token, defBody st_run_token, defScope st_run_token, [], []⟩
abbrev st_tokens : Stmt := top 52
def d_tokens : He.DefD := ⟨("tokens", none), "tokens", "tokens", defArgs st_tokens, defBody st_tokens, defScope st_tokens, [], []⟩
abbrev st_Parser_fault : Stmt := inClass (top 57) 1
def d_Parser_fault : He.DefD := ⟨("Parser", some "fault"), "fault", "Parser.fault", defArgs st_Parser_fault, defBody st_Parser_fault, defScope st_Parser_fault, [], []⟩
abbrev st_Parser_token : Stmt := inClass (top 57) 2
def d_Parser_token : He.DefD := ⟨("Parser", some "token"), "token", "Parser.token", defArgs st_Parser_token, defBody st_Parser_token, defScope st_Parser_token, [], []⟩
abbrev st_Parser_name : Stmt := inClass (top 57) 5
def d_Parser_name : He.DefD := ⟨("Parser", some "name"), "name", "Parser.name", defArgs st_Parser_name, defBody st_Parser_name, defScope st_Parser_name, [], []⟩
abbrev st_Parser_passed : Stmt := inClass (top 57) 3
def d_Parser_passed : He.DefD := ⟨("Parser", some "passed"), "passed", "Parser.passed", defArgs st_Parser_passed, defBody st_Parser_passed, defScope st_Parser_passed, [], []⟩
abbrev st_Parser_mark : Stmt := inClass (top 57) 4
def d_Parser_mark : He.DefD := ⟨("Parser", some "mark"), "mark", "Parser.mark", defArgs st_Parser_mark, defBody st_Parser_mark, defScope st_Parser_mark, [], []⟩
abbrev st_Parser_kind : Stmt := inClass (top 57) 6
def d_Parser_kind : He.DefD := ⟨("Parser", some "kind"), "kind", "Parser.kind", defArgs st_Parser_kind, defBody st_Parser_kind, defScope st_Parser_kind, [], []⟩
abbrev st_read_parameter : Stmt := top 58
def d_read_parameter : He.DefD := ⟨("read_parameter", none), "read_parameter", "read_parameter", defArgs st_read_parameter, defBody st_read_parameter, defScope st_read_parameter, [], []⟩
abbrev st_read_argument : Stmt := top 59
def d_read_argument : He.DefD := ⟨("read_argument", none), "read_argument", "read_argument", defArgs st_read_argument, defBody st_read_argument, defScope st_read_argument, [], []⟩
abbrev st_read_row : Stmt := top 60
def d_read_row : He.DefD := ⟨("read_row", none), "read_row", "read_row", defArgs st_read_row, defBody st_read_row, defScope st_read_row, [], []⟩
abbrev st_read_call_behind : Stmt := top 61
def d_read_call_behind : He.DefD := ⟨("read_call_behind", none), "read_call_behind", "read_call_behind", defArgs st_read_call_behind, defBody st_read_call_behind, defScope st_read_call_behind, [], []⟩
abbrev st_read_expression : Stmt := top 62
def d_read_expression : He.DefD := ⟨("read_expression", none), "read_expression", "read_expression", defArgs st_read_expression, defBody st_read_expression, defScope st_read_expression, [], []⟩
abbrev st_read_named : Stmt := top 63
def d_read_named : He.DefD := ⟨("read_named", none), "read_named", "read_named", defArgs st_read_named, defBody st_read_named, defScope st_read_named, [], []⟩
abbrev st_read_let : Stmt := top 64
def d_read_let : He.DefD := ⟨("read_let", none), "read_let", "read_let", defArgs st_read_let, defBody st_read_let, defScope st_read_let, [], []⟩
abbrev st_read_plain : Stmt := top 65
def d_read_plain : He.DefD := ⟨("read_plain", none), "read_plain", "read_plain", defArgs st_read_plain, defBody st_read_plain, defScope st_read_plain, [], []⟩
abbrev st_read_block : Stmt := top 66
def d_read_block : He.DefD := ⟨("read_block", none), "read_block", "read_block", defArgs st_read_block, defBody st_read_block, defScope st_read_block, [], []⟩
abbrev st_read_function : Stmt := top 67
def d_read_function : He.DefD := ⟨("read_function", none), "read_function", "read_function", defArgs st_read_function, defBody st_read_function, defScope st_read_function, [], []⟩
abbrev st_parse_text : Stmt := top 68
def d_parse_text : He.DefD := ⟨("parse_text", none), "parse_text", "parse_text", defArgs st_parse_text, defBody st_parse_text, defScope st_parse_text, [], []⟩
abbrev st__law_told : Stmt := top 78
def d__law_told : He.DefD := ⟨("_law_told", none), "_law_told", "_law_told", defArgs st__law_told, defBody st__law_told, defScope st__law_told, [], []⟩
abbrev st_check_heads : Stmt := top 42
def d_check_heads : He.DefD := ⟨("check_heads", none), "check_heads", "check_heads", defArgs st_check_heads, defBody st_check_heads, defScope st_check_heads, [], []⟩
abbrev st_rule_fault : Stmt := top 44
def d_rule_fault : He.DefD := ⟨("rule_fault", none), "rule_fault", "rule_fault", defArgs st_rule_fault, defBody st_rule_fault, defScope st_rule_fault, [], []⟩
abbrev st_parse_program : Stmt := top 69
def d_parse_program : He.DefD := ⟨("parse_program", none), "parse_program", "parse_program", defArgs st_parse_program, defBody st_parse_program, defScope st_parse_program, [], []⟩
abbrev st_law : Stmt := top 79
def d_law : He.DefD := ⟨("law", none), "law", "law", defArgs st_law, defBody st_law, defScope st_law, [], []⟩
abbrev st_BadText___init__ : Stmt := inClass (top 2) 0
def xd_BadText : XDef := ⟨("BadText", some "__init__"), "__init__", "BadText.__init__", defArgs st_BadText___init__, defBody st_BadText___init__, defScope st_BadText___init__⟩
def sub_Fault : Nat → Option Bool
  | 4 => some false
  | _ => none
def sub_LoanError : Nat → Option Bool
  | 4 => some true
  | _ => none
structure Zf (P : Program) (K : PySem.W.Frag) (mg : Str → Option Value) : Prop where
  tab : TabOk T K
  f__law_cell : Fd K d__law_cell
  f__law_digits : Fd K d__law_digits
  f__law_rows : Fd K d__law_rows
  f__law_draw : Fd K d__law_draw
  f_Parser___init__ : Fd K d_Parser___init__
  f_run_behind : Fd K d_run_behind
  f_run_token : Fd K d_run_token
  f_tokens : Fd K d_tokens
  f_Parser_fault : Fd K d_Parser_fault
  f_Parser_token : Fd K d_Parser_token
  f_Parser_name : Fd K d_Parser_name
  f_Parser_passed : Fd K d_Parser_passed
  f_Parser_mark : Fd K d_Parser_mark
  f_Parser_kind : Fd K d_Parser_kind
  f_read_parameter : Fd K d_read_parameter
  f_read_argument : Fd K d_read_argument
  f_read_row : Fd K d_read_row
  f_read_call_behind : Fd K d_read_call_behind
  f_read_expression : Fd K d_read_expression
  f_read_named : Fd K d_read_named
  f_read_let : Fd K d_read_let
  f_read_plain : Fd K d_read_plain
  f_read_block : Fd K d_read_block
  f_read_function : Fd K d_read_function
  f_parse_text : Fd K d_parse_text
  f__law_told : Fd K d__law_told
  f_check_heads : Fd K d_check_heads
  f_rule_fault : Fd K d_rule_fault
  f_parse_program : Fd K d_parse_program
  f_law : Fd K d_law
  m__law_cell : mg "_law_cell" = some (.ref (He.fAd K ("_law_cell", none)))
  m__law_digits : mg "_law_digits" = some (.ref (He.fAd K ("_law_digits", none)))
  m__law_rows : mg "_law_rows" = some (.ref (He.fAd K ("_law_rows", none)))
  m__law_draw : mg "_law_draw" = some (.ref (He.fAd K ("_law_draw", none)))
  m_run_behind : mg "run_behind" = some (.ref (He.fAd K ("run_behind", none)))
  m_run_token : mg "run_token" = some (.ref (He.fAd K ("run_token", none)))
  m_tokens : mg "tokens" = some (.ref (He.fAd K ("tokens", none)))
  m_read_parameter : mg "read_parameter" = some (.ref (He.fAd K ("read_parameter", none)))
  m_read_argument : mg "read_argument" = some (.ref (He.fAd K ("read_argument", none)))
  m_read_row : mg "read_row" = some (.ref (He.fAd K ("read_row", none)))
  m_read_call_behind : mg "read_call_behind" = some (.ref (He.fAd K ("read_call_behind", none)))
  m_read_expression : mg "read_expression" = some (.ref (He.fAd K ("read_expression", none)))
  m_read_named : mg "read_named" = some (.ref (He.fAd K ("read_named", none)))
  m_read_let : mg "read_let" = some (.ref (He.fAd K ("read_let", none)))
  m_read_plain : mg "read_plain" = some (.ref (He.fAd K ("read_plain", none)))
  m_read_block : mg "read_block" = some (.ref (He.fAd K ("read_block", none)))
  m_read_function : mg "read_function" = some (.ref (He.fAd K ("read_function", none)))
  m_parse_text : mg "parse_text" = some (.ref (He.fAd K ("parse_text", none)))
  m__law_told : mg "_law_told" = some (.ref (He.fAd K ("_law_told", none)))
  m_check_heads : mg "check_heads" = some (.ref (He.fAd K ("check_heads", none)))
  m_rule_fault : mg "rule_fault" = some (.ref (He.fAd K ("rule_fault", none)))
  m_parse_program : mg "parse_program" = some (.ref (He.fAd K ("parse_program", none)))
  m_law : mg "law" = some (.ref (He.fAd K ("law", none)))
  c_DEPTH_MOST : GlC K mg "DEPTH_MOST" (.int (60))
  c_FUNCTIONS_MOST : GlC K mg "FUNCTIONS_MOST" (.int (5))
  c_KINDS : GlC K mg "KINDS" (.tup [.str [111, 119, 110], .str [114, 101, 102], .str [109, 117, 116]])
  c_LETTERS : GlC K mg "LETTERS" (.str [97, 98, 99, 100, 101, 102, 103, 104, 105, 106, 107, 108, 109, 110, 111, 112, 113, 114, 115, 116, 117, 118, 119, 120, 121, 122])
  c_MARKS : GlC K mg "MARKS" (.str [123, 125, 40, 41, 44, 59, 58, 61])
  c_NAME_MOST : GlC K mg "NAME_MOST" (.int (8))
  c_TEXT_MOST : GlC K mg "TEXT_MOST" (.int (1500))
  c_WORDS : GlC K mg "WORDS" (.tup [.str [102, 110], .str [111, 119, 110], .str [114, 101, 102], .str [109, 117, 116], .str [108, 101, 116], .str [110, 101, 119], .str [114, 101, 97, 100], .str [119, 114, 105, 116, 101], .str [100, 114, 111, 112], .str [105, 102], .str [101, 108, 115, 101], .str [108, 111, 111, 112], .str [98, 114, 101, 97, 107], .str [99, 111, 110, 116, 105, 110, 117, 101], .str [114, 101, 116, 117, 114, 110]])
  b_ValueError : mg "ValueError" = none
  b_enumerate : mg "enumerate" = none
  b_int : mg "int" = none
  b_isinstance : mg "isinstance" = none
  b_len : mg "len" = none
  b_max : mg "max" = none
  b_range : mg "range" = none
  b_super : mg "super" = none
  b_tuple : mg "tuple" = none
  me_Parser_fault : Meth K (T.clsA K 2) "fault" (He.fAd K ("Parser", some "fault"))
  me_Parser_token : Meth K (T.clsA K 2) "token" (He.fAd K ("Parser", some "token"))
  me_Parser_name : Meth K (T.clsA K 2) "name" (He.fAd K ("Parser", some "name"))
  me_Parser_passed : Meth K (T.clsA K 2) "passed" (He.fAd K ("Parser", some "passed"))
  me_Parser_mark : Meth K (T.clsA K 2) "mark" (He.fAd K ("Parser", some "mark"))
  me_Parser_kind : Meth K (T.clsA K 2) "kind" (He.fAd K ("Parser", some "kind"))
  mk_Parser : Mk K (T.clsA K 2) (He.fAd K ("Parser", some "__init__"))
  gc_Parser : mg "Parser" = some (.ref (T.clsA K 2))
  xo_BadText : XOk P K xd_BadText
  ge_BadText : mg "BadText" = some (.ref (T.clsA K 4))
  ge_Fault : mg "Fault" = some (.ref (T.clsA K 6))
  ge_LoanError : mg "LoanError" = some (.ref (T.clsA K 3))
  nx_BadText_token : PySem.W.findIn K (.ref (T.clsA K 4)) "token" = some none
  nx_BadText_reason : PySem.W.findIn K (.ref (T.clsA K 4)) "reason" = some none
  xf_BadText : XfC K (T.clsA K 4)
  xc_BadText : ExcC K (T.clsA K 4)
  ck_BadText_BadText : PySem.W.kitOne K (.ref (T.clsA K 4)) (.ref (T.clsA K 4)) = some true
  ck_BadText_ValueError : PySem.W.kitOne K (.ref (T.clsA K 4)) (.type "ValueError") = some true
  sb_Fault : ∀ j v, sub_Fault j = some v → PySem.W.exmOne K (.ref (T.clsA K j)) (.ref (T.clsA K 6)) = some v
  sb_LoanError : ∀ j v, sub_LoanError j = some v → PySem.W.exmOne K (.ref (T.clsA K j)) (.ref (T.clsA K 3)) = some v
variable {P : Program} {w : World} {K : PySem.W.Frag} {mg : Str → Option Value} {base : Heap}
def fs_BadText : List Nat := [0, 1]
def ms_BadText : EM := msgN [eC (.str [116, 111, 107, 101, 110, 32]), eVar 1, eC (.str [58, 32]), eVar 2] 0
theorem gx_BadText (Z : Zf P K mg) (k : Nat) : GXi T P w K mg base (k + 1) 4 "BadText" fs_BadText ms_BadText := by
  obtain ⟨kV, doc, pm, an, ct, R⟩ := runI_of (T := T) (w := w) (mg := mg) (base := base) (k := k) (F := xd_BadText.nf K) (N := ["self", "token", "reason", "__class__"]) (ps := ["self", "token", "reason"]) (fs := [("token", 1), ("reason", 2)]) (me := ms_BadText) Z.xo_BadText.o Z.xo_BadText.z (NdefX.nscope_by (sc := xd_BadText.scope) (by decide +kernel)) rfl rfl rfl rfl Z.b_super PyProof.Rows.Boot.«super» (by simp) (by simp)
    (fun j f i h => by
      match j, h with
      | 0, h => (have e := Option.some.inj h; injection e with e1 e2; subst e1 e2; exact ⟨rfl, Z.nx_BadText_token⟩)
      | 1, h => (have e := Option.some.inj h; injection e with e1 e2; subst e1 e2; exact ⟨rfl, Z.nx_BadText_reason⟩)
      | j + 2, h => simp at h) _
    (fun A outer s H E hr => sm_joined (.con [116, 111, 107, 101, 110, 32] (.fmt (se_var 1) (.con [58, 32] (.fmt (se_var 2) .nil)))))
    (fun A outer s H E hr => (pss_cons (ps_ost (pe_var (i := 0) rfl (Or.inl rfl)) (pe_var (i := 1) rfl (Or.inl rfl))) (pss_cons (ps_ost (pe_var (i := 0) rfl (Or.inl rfl)) (pe_var (i := 2) rfl (Or.inl rfl))) pss_nil)))
  exact ⟨⟨_, _, _, _, R, Binds.all (fun us hu => by match us, hu with | [a0, a1, a2], _ => rfl), Z.xo_BadText.o, Z.xo_BadText.i, Z.xo_BadText.t, Z.ge_BadText, rfl, rfl⟩, by decide, by decide⟩
def F__law_cell : Nat → Fn
  | 0 => botF
  | k + 1 => fnS 2 2 (sSeq (sIf (tCmp ltI (eVar 1) (eCall lenF (aCons (eVar 0) (aNil)))) (sSeq (sRet (eBin itemS (eVar 0) (eVar 1)))
  (sNext)) (sNext))
  (sSeq (sRet (eC (.int 0)))
  (sNext)))
theorem sc__law_cell : FnScope ["_law_script", "_law_k"] ["_law_script", "_law_k"] d__law_cell.scope := ⟨rfl, rfl, rfl, by decide +kernel, rfl, by decide +kernel, by decide +kernel⟩
theorem g__law_cell (Z : Zf P K mg) : ∀ k, GFn T P w K mg base k "_law_cell" ["_law_script", "_law_k"] (F__law_cell k)
  | 0 => gfn_of Z.f__law_cell Z.m__law_cell (fun kV doc pm an cdv ct us hu => by match us, hu with | [a0, a1], _ => rfl) fun _ _ => FnS.zero
  | k + 1 => gfn_of Z.f__law_cell Z.m__law_cell (fun kV doc pm an cdv ct us hu => by match us, hu with | [a0, a1], _ => rfl) fun _ F => fnS_of F sc__law_cell (by decide) fun cdv A outer s H E hr =>
    have b := bd_of (P := P) (w := w) (mg := mg) (base := base) (f := He.fAd K d__law_cell.at_) (cdv := cdv) (outer := outer) (s := s) (H := H) (E := E) Z.tab sc__law_cell.nd hr
    (ss_cons (ss_if (st_cmp op_lt cmpI_does (se_var 1) (se_blt call_len lenF_does Z.b_len rfl (sa_cons (se_var 0) sa_nil)) (nomark _)) (ss_cons (ss_ret (se_item (se_var 0) (se_var 1)))
  ss_nil) ss_nil)
  (ss_cons (ss_ret se_int)
  ss_nil))
def F__law_digits : Nat → Fn
  | 0 => botF
  | k + 1 => fnS 3 8 (sSeq (sAsg (eLst (aNil)) (Sm.gName 3))
  (sSeq (sFor (wRange2 (aCons (eVar 1) (aCons (eVar 2) (aNil)))) (Sm.gName 4) (sSeq (sAsg (eCall (F__law_cell k) (aCons (eVar 0) (aCons (eVar 4) (aNil)))) (Sm.gName 5))
  (sSeq (sIf (tCmp ltI (eVar 5) (eC (.int 0))) (sSeq (sAsg (eBin subI (eC (.int 1)) (eBin mulS (eC (.int 2)) (eVar 5))) (Sm.gName 5))
  (sNext)) (sNext))
  (sSeq (sIf (tCmp geI (eVar 5) (eBin powI (eC (.int 10)) (eC (.int 18)))) (sSeq (sFor (wRange1 (aCons (eC (.int 60)) (aNil))) (Sm.gName 6) (sSeq (sIf (tCmp gtI (eVar 5) (eC (.int 0))) (sSeq (sExpr (eBm isLst appendF (eVar 3) (aCons (eBin modI (eCall intF (aCons (eVar 5) (aNil))) (eC (.int 1000))) (aNil))))
  (sSeq (sAsg (eBin fdivI (eVar 5) (eC (.int 1000))) (Sm.gName 5))
  (sNext))) (sNext))
  (sNext)))
  (sNext)) (sSeq (sAsg (eBin modI (eCall intF (aCons (eBin addS (eBin addS (eBin mulS (eVar 5) (eC (.int 48271))) (eBin mulS (eVar 4) (eC (.int 69621)))) (eC (.int 11))) (aNil))) (eC (.int 2147483647))) (Sm.gName 7))
  (sSeq (sFor (wRange1 (aCons (eC (.int 12)) (aNil))) (Sm.gName 6) (sSeq (sAsg (eBin modI (eCall intF (aCons (eBin addS (eBin addS (eBin mulS (eVar 7) (eC (.int 16807))) (eBin mulS (eC (.int 7)) (eVar 6))) (eC (.int 1))) (aNil))) (eC (.int 2147483647))) (Sm.gName 7))
  (sSeq (sExpr (eBm isLst appendF (eVar 3) (aCons (eBin modI (eCall intF (aCons (eBin fdivI (eVar 7) (eC (.int 997))) (aNil))) (eC (.int 1000))) (aNil))))
  (sNext))))
  (sNext))))
  (sNext)))))
  (sSeq (sRet (eVar 3))
  (sNext))))
theorem sc__law_digits : FnScope ["_law_script", "_law_first", "_law_last", "_law_digits_here", "_law_k", "_law_cell_here", "_law_turn", "_law_seed"] ["_law_script", "_law_first", "_law_last"] d__law_digits.scope := ⟨rfl, rfl, rfl, by decide +kernel, rfl, by decide +kernel, by decide +kernel⟩
theorem g__law_digits (Z : Zf P K mg) : ∀ k, GFn T P w K mg base k "_law_digits" ["_law_script", "_law_first", "_law_last"] (F__law_digits k)
  | 0 => gfn_of Z.f__law_digits Z.m__law_digits (fun kV doc pm an cdv ct us hu => by match us, hu with | [a0, a1, a2], _ => rfl) fun _ _ => FnS.zero
  | k + 1 => gfn_of Z.f__law_digits Z.m__law_digits (fun kV doc pm an cdv ct us hu => by match us, hu with | [a0, a1, a2], _ => rfl) fun _ F => fnS_of F sc__law_digits (by decide) fun cdv A outer s H E hr =>
    have b := bd_of (P := P) (w := w) (mg := mg) (base := base) (f := He.fAd K d__law_digits.at_) (cdv := cdv) (outer := outer) (s := s) (H := H) (E := E) Z.tab sc__law_digits.nd hr
    (ss_cons (ss_set 3 (se_lst sa_nil) b.nd)
  (ss_cons (ss_for b.pass b.calm (si_range2 Z.b_range (sa_cons (se_var 1) (sa_cons (se_var 2) sa_nil))) (sg_name 4 b.nd) (ss_cons (ss_set 5 (se_call b (g__law_cell Z k) (sa_cons (se_var 0) (sa_cons (se_var 4) sa_nil))) b.nd)
  (ss_cons (ss_if (st_cmp op_lt cmpI_does (se_var 5) se_int (nomark _)) (ss_cons (ss_set 5 (se_op op_sub subI_does se_int (se_op op_mulA mulS_does se_int (se_var 5))) b.nd)
  ss_nil) ss_nil)
  (ss_cons (ss_if (st_cmp op_ge cmpI_does (se_var 5) (se_op op_pow powI_does se_int se_int) (nomark _)) (ss_cons (ss_for b.pass b.calm (si_range1 Z.b_range (sa_cons se_int sa_nil)) (sg_name 6 b.nd) (ss_cons (ss_if (st_cmp op_gt cmpI_does (se_var 5) se_int (nomark _)) (ss_cons (ss_expr (se_bm PySem.F.plainAttrs_list PySem.F.slot_list_append PySem.F.type_list_append mt_append appendF_does kind_lst (se_var 3) (sa_cons (se_op op_mod modI_does (se_bltT call_int1 intF_does Z.b_int rfl (sa_cons (se_var 5) sa_nil)) se_int) sa_nil)))
  (ss_cons (ss_set 5 (se_op op_fdiv fdivI_does (se_var 5) se_int) b.nd)
  ss_nil)) ss_nil)
  ss_nil))
  ss_nil) (ss_cons (ss_set 7 (se_op op_mod modI_does (se_bltT call_int1 intF_does Z.b_int rfl (sa_cons (se_op op_addA addS_does (se_op op_addA addS_does (se_op op_mulA mulS_does (se_var 5) se_int) (se_op op_mulA mulS_does (se_var 4) se_int)) se_int) sa_nil)) se_int) b.nd)
  (ss_cons (ss_for b.pass b.calm (si_range1 Z.b_range (sa_cons se_int sa_nil)) (sg_name 6 b.nd) (ss_cons (ss_set 7 (se_op op_mod modI_does (se_bltT call_int1 intF_does Z.b_int rfl (sa_cons (se_op op_addA addS_does (se_op op_addA addS_does (se_op op_mulA mulS_does (se_var 7) se_int) (se_op op_mulA mulS_does se_int (se_var 6))) se_int) sa_nil)) se_int) b.nd)
  (ss_cons (ss_expr (se_bm PySem.F.plainAttrs_list PySem.F.slot_list_append PySem.F.type_list_append mt_append appendF_does kind_lst (se_var 3) (sa_cons (se_op op_mod modI_does (se_bltT call_int1 intF_does Z.b_int rfl (sa_cons (se_op op_fdiv fdivI_does (se_var 7) se_int) sa_nil)) se_int) sa_nil)))
  ss_nil)))
  ss_nil)))
  ss_nil))))
  (ss_cons (ss_ret (se_var 3))
  ss_nil)))
def F__law_rows : Nat → Fn
  | 0 => botF
  | k + 1 => fnS 0 1 (sSeq (sAsg (eLst (aCons (eLst (aCons (eC (.str [102, 110])) (aCons (eC (.int 2)) (aCons (eC (.bl true)) (aNil))))) (aCons (eLst (aCons (eC (.str [102, 110, 32, 102])) (aCons (eC (.int 3)) (aCons (eC (.bl true)) (aNil))))) (aCons (eLst (aCons (eC (.str [102, 110, 32, 102, 40, 97, 41, 32, 123, 32, 125])) (aCons (eC (.int 5)) (aCons (eC (.bl false)) (aNil))))) (aCons (eLst (aCons (eC (.str [102, 110, 32, 102, 40, 97, 58, 32, 120, 41, 32, 123, 32, 125])) (aCons (eC (.int 6)) (aCons (eC (.bl false)) (aNil))))) (aCons (eLst (aCons (eC (.str [102, 110, 32, 70, 40, 41, 32, 123, 32, 125])) (aCons (eC (.int 2)) (aCons (eC (.bl false)) (aNil))))) (aCons (eLst (aCons (eC (.str [102, 110, 32, 102, 40, 41, 32, 45, 62, 32, 123, 32, 125])) (aCons (eC (.int 6)) (aCons (eC (.bl false)) (aNil))))) (aNil)))))))) (Sm.gName 0))
  (sSeq (sAsg (eBin addS (eVar 0) (eLst (aCons (eLst (aCons (eC (.str [102, 110, 32, 102, 40, 41, 32, 45, 32, 111, 119, 110, 32, 123, 32, 125])) (aCons (eC (.int 5)) (aCons (eC (.bl false)) (aNil))))) (aCons (eLst (aCons (eC (.str [102, 110, 32, 102, 40, 41, 32, 123])) (aCons (eC (.int 6)) (aCons (eC (.bl true)) (aNil))))) (aCons (eLst (aCons (eC (.str [102, 110, 32, 102, 40, 41, 32, 123, 32, 120, 32, 125])) (aCons (eC (.int 7)) (aCons (eC (.bl false)) (aNil))))) (aCons (eLst (aCons (eC (.str [102, 110, 32, 102, 40, 41, 32, 123, 32, 108, 101, 116, 32, 61, 32, 110, 101, 119, 59, 32, 125])) (aCons (eC (.int 7)) (aCons (eC (.bl false)) (aNil))))) (aCons (eLst (aCons (eC (.str [102, 110, 32, 102, 40, 41, 32, 123, 32, 108, 101, 116, 32, 120, 32, 110, 101, 119, 59, 32, 125])) (aCons (eC (.int 8)) (aCons (eC (.bl false)) (aNil))))) (aNil)))))))) (Sm.gName 0))
  (sSeq (sAsg (eBin addS (eVar 0) (eLst (aCons (eLst (aCons (eC (.str [102, 110, 32, 102, 40, 41, 32, 123, 32, 108, 101, 116, 32, 120, 32, 61, 32, 59, 32, 125])) (aCons (eC (.int 9)) (aCons (eC (.bl false)) (aNil))))) (aCons (eLst (aCons (eC (.str [102, 110, 32, 102, 40, 41, 32, 123, 32, 108, 101, 116, 32, 120, 32, 61, 32, 110, 101, 119, 32, 125])) (aCons (eC (.int 10)) (aCons (eC (.bl false)) (aNil))))) (aCons (eLst (aCons (eC (.str [102, 110, 32, 102, 40, 41, 32, 123, 32, 114, 101, 97, 100, 59, 32, 125])) (aCons (eC (.int 7)) (aCons (eC (.bl false)) (aNil))))) (aCons (eLst (aCons (eC (.str [102, 110, 32, 102, 40, 41, 32, 123, 32, 114, 101, 97, 100, 32, 120, 32, 121, 59, 32, 125])) (aCons (eC (.int 8)) (aCons (eC (.bl false)) (aNil))))) (aNil))))))) (Sm.gName 0))
  (sSeq (sAsg (eBin addS (eVar 0) (eLst (aCons (eLst (aCons (eC (.str [102, 110, 32, 102, 40, 41, 32, 123, 32, 105, 102, 32, 114, 101, 97, 100, 32, 120, 59, 32, 125])) (aCons (eC (.int 7)) (aCons (eC (.bl false)) (aNil))))) (aCons (eLst (aCons (eC (.str [102, 110, 32, 102, 40, 41, 32, 123, 32, 105, 102, 32, 123, 32, 125, 32, 101, 108, 115, 101, 32, 114, 101, 97, 100, 32, 120, 59, 32, 125])) (aCons (eC (.int 10)) (aCons (eC (.bl false)) (aNil))))) (aCons (eLst (aCons (eC (.str [102, 110, 32, 102, 40, 41, 32, 123, 32, 101, 108, 115, 101, 32, 123, 32, 125, 32, 125])) (aCons (eC (.int 6)) (aCons (eC (.bl false)) (aNil))))) (aCons (eLst (aCons (eC (.str [102, 110, 32, 102, 40, 41, 32, 123, 32, 108, 111, 111, 112, 59, 32, 125])) (aCons (eC (.int 7)) (aCons (eC (.bl false)) (aNil))))) (aNil))))))) (Sm.gName 0))
  (sSeq (sAsg (eBin addS (eVar 0) (eLst (aCons (eLst (aCons (eC (.str [102, 110, 32, 102, 40, 41, 32, 123, 32, 98, 114, 101, 97, 107, 32, 120, 59, 32, 125])) (aCons (eC (.int 7)) (aCons (eC (.bl false)) (aNil))))) (aCons (eLst (aCons (eC (.str [102, 110, 32, 102, 40, 41, 32, 123, 32, 114, 101, 116, 117, 114, 110, 32, 120, 32, 121, 59, 32, 125])) (aCons (eC (.int 8)) (aCons (eC (.bl false)) (aNil))))) (aCons (eLst (aCons (eC (.str [102, 110, 32, 102, 40, 41, 32, 123, 32, 102, 40, 59, 32, 125])) (aCons (eC (.int 8)) (aCons (eC (.bl false)) (aNil))))) (aCons (eLst (aCons (eC (.str [102, 110, 32, 102, 40, 41, 32, 123, 32, 102, 40, 120, 44, 41, 59, 32, 125])) (aCons (eC (.int 10)) (aCons (eC (.bl false)) (aNil))))) (aNil))))))) (Sm.gName 0))
  (sSeq (sAsg (eBin addS (eVar 0) (eLst (aCons (eLst (aCons (eC (.str [102, 110, 32, 102, 40, 41, 32, 123, 32, 102, 40, 110, 101, 119, 41, 59, 32, 125])) (aCons (eC (.int 8)) (aCons (eC (.bl false)) (aNil))))) (aCons (eLst (aCons (eC (.str [102, 110, 32, 102, 40, 41, 32, 123, 32, 108, 101, 116, 32, 120, 32, 61, 32, 114, 101, 102, 59, 32, 125])) (aCons (eC (.int 10)) (aCons (eC (.bl false)) (aNil))))) (aCons (eLst (aCons (eC (.str [102, 110, 32, 102, 40, 41, 32, 123, 32, 108, 101, 116, 32, 120, 32, 61, 32, 114, 101, 102, 32, 110, 101, 119, 59, 32, 125])) (aCons (eC (.int 10)) (aCons (eC (.bl false)) (aNil))))) (aCons (eLst (aCons (eC (.str [102, 110, 32, 102, 40, 41, 32, 123, 32, 114, 101, 102, 32, 120, 59, 32, 125])) (aCons (eC (.int 6)) (aCons (eC (.bl false)) (aNil))))) (aNil))))))) (Sm.gName 0))
  (sSeq (sAsg (eBin addS (eVar 0) (eLst (aCons (eLst (aCons (eC (.str [102, 110, 32, 102, 40, 41, 32, 123, 32, 125, 32, 125])) (aCons (eC (.int 7)) (aCons (eC (.bl false)) (aNil))))) (aCons (eLst (aCons (eC (.str [120])) (aCons (eC (.int 1)) (aCons (eC (.bl false)) (aNil))))) (aCons (eLst (aCons (eC (.str [102, 110, 32, 108, 101, 116, 40, 41, 32, 123, 32, 125])) (aCons (eC (.int 2)) (aCons (eC (.bl false)) (aNil))))) (aCons (eLst (aCons (eC (.str [102, 110, 32, 97, 98, 99, 100, 101, 102, 103, 104, 105, 40, 41, 32, 123, 32, 125])) (aCons (eC (.int 2)) (aCons (eC (.bl false)) (aNil))))) (aCons (eLst (aCons (eC (.str [102, 110, 32, 102, 40, 41, 32, 123, 32, 114, 101, 97, 100, 32, 120, 49, 59, 32, 125])) (aCons (eC (.int 8)) (aCons (eC (.bl false)) (aNil))))) (aNil)))))))) (Sm.gName 0))
  (sSeq (sAsg (eBin addS (eVar 0) (eLst (aCons (eLst (aCons (eC (.str [102, 110, 32, 102, 40, 97, 58, 32, 111, 119, 110, 32, 98, 58, 32, 111, 119, 110, 41, 32, 123, 32, 125])) (aCons (eC (.int 7)) (aCons (eC (.bl false)) (aNil))))) (aCons (eLst (aCons (eC (.str [102, 110, 32, 102, 40, 97, 58, 32, 111, 119, 110, 44, 41, 32, 123, 32, 125])) (aCons (eC (.int 8)) (aCons (eC (.bl false)) (aNil))))) (aCons (eLst (aCons (eC (.str [102, 110, 32, 102, 40, 41, 32, 123, 32, 120, 32, 61, 32, 110, 101, 119, 32, 125])) (aCons (eC (.int 9)) (aCons (eC (.bl false)) (aNil))))) (aCons (eLst (aCons (eC (.str [102, 110, 32, 102, 40, 41, 32, 123, 32, 120, 40, 121, 41, 32, 125])) (aCons (eC (.int 10)) (aCons (eC (.bl false)) (aNil))))) (aNil))))))) (Sm.gName 0))
  (sSeq (sAsg (eBin addS (eVar 0) (eLst (aCons (eLst (aCons (eC (.str [102, 110, 32, 102, 40, 41, 32, 123, 9, 125])) (aCons (eC (.int 6)) (aCons (eC (.bl false)) (aNil))))) (aCons (eLst (aCons (eC (.str [102, 110, 32, 102, 40, 41, 32, 45, 32, 62, 32, 111, 119, 110, 32, 123, 32, 125])) (aCons (eC (.int 5)) (aCons (eC (.bl false)) (aNil))))) (aCons (eLst (aCons (eC (.str [102, 110, 32, 102, 40, 41, 32, 123, 32, 108, 101, 116, 32, 97, 98, 99, 100, 101, 102, 103, 104, 105, 32, 61, 32, 110, 101, 119, 59, 32, 125])) (aCons (eC (.int 7)) (aCons (eC (.bl false)) (aNil))))) (aCons (eLst (aCons (eC (.str [102, 110, 32, 102, 40, 41, 32, 123, 32, 114, 101, 97, 100, 9, 120, 59, 32, 125])) (aCons (eC (.int 7)) (aCons (eC (.bl false)) (aNil))))) (aNil))))))) (Sm.gName 0))
  (sSeq (sRet (eBin addS (eVar 0) (eLst (aCons (eLst (aCons (eC (.str [102, 110, 32, 102, 40, 41, 32, 123, 32, 120, 32, 61, 61, 32, 110, 101, 119, 59, 32, 125])) (aCons (eC (.int 8)) (aCons (eC (.bl false)) (aNil))))) (aCons (eLst (aCons (eC (.str [102, 110, 32, 102, 40, 41, 32, 123, 32, 114, 101, 97, 100, 32, 120, 59, 32, 62, 32, 125])) (aCons (eC (.int 9)) (aCons (eC (.bl false)) (aNil))))) (aCons (eLst (aCons (eC (.str [102, 110, 32, 102, 40, 41, 32, 123, 32, 108, 111, 111, 112, 32, 123, 32, 125, 32])) (aCons (eC (.int 9)) (aCons (eC (.bl true)) (aNil))))) (aCons (eLst (aCons (eC (.str [102, 110, 32, 102, 40, 41, 32, 123, 32, 120, 32, 61, 32, 110, 101, 119])) (aCons (eC (.int 9)) (aCons (eC (.bl true)) (aNil))))) (aNil))))))))
  (sNext)))))))))))
theorem sc__law_rows : FnScope ["_law_rows_here"] [] d__law_rows.scope := ⟨rfl, rfl, rfl, by decide +kernel, rfl, by decide +kernel, by decide +kernel⟩
theorem g__law_rows (Z : Zf P K mg) : ∀ k, GFn T P w K mg base k "_law_rows" [] (F__law_rows k)
  | 0 => gfn_of Z.f__law_rows Z.m__law_rows (fun kV doc pm an cdv ct us hu => by match us, hu with | [], _ => rfl) fun _ _ => FnS.zero
  | k + 1 => gfn_of Z.f__law_rows Z.m__law_rows (fun kV doc pm an cdv ct us hu => by match us, hu with | [], _ => rfl) fun _ F => fnS_of F sc__law_rows (by decide) fun cdv A outer s H E hr =>
    have b := bd_of (P := P) (w := w) (mg := mg) (base := base) (f := He.fAd K d__law_rows.at_) (cdv := cdv) (outer := outer) (s := s) (H := H) (E := E) Z.tab sc__law_rows.nd hr
    (ss_cons (ss_set 0 (se_lst (sa_cons (se_lst (sa_cons (se_str [102, 110]) (sa_cons se_int (sa_cons se_bl sa_nil)))) (sa_cons (se_lst (sa_cons (se_str [102, 110, 32, 102]) (sa_cons se_int (sa_cons se_bl sa_nil)))) (sa_cons (se_lst (sa_cons (se_str [102, 110, 32, 102, 40, 97, 41, 32, 123, 32, 125]) (sa_cons se_int (sa_cons se_bl sa_nil)))) (sa_cons (se_lst (sa_cons (se_str [102, 110, 32, 102, 40, 97, 58, 32, 120, 41, 32, 123, 32, 125]) (sa_cons se_int (sa_cons se_bl sa_nil)))) (sa_cons (se_lst (sa_cons (se_str [102, 110, 32, 70, 40, 41, 32, 123, 32, 125]) (sa_cons se_int (sa_cons se_bl sa_nil)))) (sa_cons (se_lst (sa_cons (se_str [102, 110, 32, 102, 40, 41, 32, 45, 62, 32, 123, 32, 125]) (sa_cons se_int (sa_cons se_bl sa_nil)))) sa_nil))))))) b.nd)
  (ss_cons (ss_set 0 (se_op op_addA addS_does (se_var 0) (se_lst (sa_cons (se_lst (sa_cons (se_str [102, 110, 32, 102, 40, 41, 32, 45, 32, 111, 119, 110, 32, 123, 32, 125]) (sa_cons se_int (sa_cons se_bl sa_nil)))) (sa_cons (se_lst (sa_cons (se_str [102, 110, 32, 102, 40, 41, 32, 123]) (sa_cons se_int (sa_cons se_bl sa_nil)))) (sa_cons (se_lst (sa_cons (se_str [102, 110, 32, 102, 40, 41, 32, 123, 32, 120, 32, 125]) (sa_cons se_int (sa_cons se_bl sa_nil)))) (sa_cons (se_lst (sa_cons (se_str [102, 110, 32, 102, 40, 41, 32, 123, 32, 108, 101, 116, 32, 61, 32, 110, 101, 119, 59, 32, 125]) (sa_cons se_int (sa_cons se_bl sa_nil)))) (sa_cons (se_lst (sa_cons (se_str [102, 110, 32, 102, 40, 41, 32, 123, 32, 108, 101, 116, 32, 120, 32, 110, 101, 119, 59, 32, 125]) (sa_cons se_int (sa_cons se_bl sa_nil)))) sa_nil))))))) b.nd)
  (ss_cons (ss_set 0 (se_op op_addA addS_does (se_var 0) (se_lst (sa_cons (se_lst (sa_cons (se_str [102, 110, 32, 102, 40, 41, 32, 123, 32, 108, 101, 116, 32, 120, 32, 61, 32, 59, 32, 125]) (sa_cons se_int (sa_cons se_bl sa_nil)))) (sa_cons (se_lst (sa_cons (se_str [102, 110, 32, 102, 40, 41, 32, 123, 32, 108, 101, 116, 32, 120, 32, 61, 32, 110, 101, 119, 32, 125]) (sa_cons se_int (sa_cons se_bl sa_nil)))) (sa_cons (se_lst (sa_cons (se_str [102, 110, 32, 102, 40, 41, 32, 123, 32, 114, 101, 97, 100, 59, 32, 125]) (sa_cons se_int (sa_cons se_bl sa_nil)))) (sa_cons (se_lst (sa_cons (se_str [102, 110, 32, 102, 40, 41, 32, 123, 32, 114, 101, 97, 100, 32, 120, 32, 121, 59, 32, 125]) (sa_cons se_int (sa_cons se_bl sa_nil)))) sa_nil)))))) b.nd)
  (ss_cons (ss_set 0 (se_op op_addA addS_does (se_var 0) (se_lst (sa_cons (se_lst (sa_cons (se_str [102, 110, 32, 102, 40, 41, 32, 123, 32, 105, 102, 32, 114, 101, 97, 100, 32, 120, 59, 32, 125]) (sa_cons se_int (sa_cons se_bl sa_nil)))) (sa_cons (se_lst (sa_cons (se_str [102, 110, 32, 102, 40, 41, 32, 123, 32, 105, 102, 32, 123, 32, 125, 32, 101, 108, 115, 101, 32, 114, 101, 97, 100, 32, 120, 59, 32, 125]) (sa_cons se_int (sa_cons se_bl sa_nil)))) (sa_cons (se_lst (sa_cons (se_str [102, 110, 32, 102, 40, 41, 32, 123, 32, 101, 108, 115, 101, 32, 123, 32, 125, 32, 125]) (sa_cons se_int (sa_cons se_bl sa_nil)))) (sa_cons (se_lst (sa_cons (se_str [102, 110, 32, 102, 40, 41, 32, 123, 32, 108, 111, 111, 112, 59, 32, 125]) (sa_cons se_int (sa_cons se_bl sa_nil)))) sa_nil)))))) b.nd)
  (ss_cons (ss_set 0 (se_op op_addA addS_does (se_var 0) (se_lst (sa_cons (se_lst (sa_cons (se_str [102, 110, 32, 102, 40, 41, 32, 123, 32, 98, 114, 101, 97, 107, 32, 120, 59, 32, 125]) (sa_cons se_int (sa_cons se_bl sa_nil)))) (sa_cons (se_lst (sa_cons (se_str [102, 110, 32, 102, 40, 41, 32, 123, 32, 114, 101, 116, 117, 114, 110, 32, 120, 32, 121, 59, 32, 125]) (sa_cons se_int (sa_cons se_bl sa_nil)))) (sa_cons (se_lst (sa_cons (se_str [102, 110, 32, 102, 40, 41, 32, 123, 32, 102, 40, 59, 32, 125]) (sa_cons se_int (sa_cons se_bl sa_nil)))) (sa_cons (se_lst (sa_cons (se_str [102, 110, 32, 102, 40, 41, 32, 123, 32, 102, 40, 120, 44, 41, 59, 32, 125]) (sa_cons se_int (sa_cons se_bl sa_nil)))) sa_nil)))))) b.nd)
  (ss_cons (ss_set 0 (se_op op_addA addS_does (se_var 0) (se_lst (sa_cons (se_lst (sa_cons (se_str [102, 110, 32, 102, 40, 41, 32, 123, 32, 102, 40, 110, 101, 119, 41, 59, 32, 125]) (sa_cons se_int (sa_cons se_bl sa_nil)))) (sa_cons (se_lst (sa_cons (se_str [102, 110, 32, 102, 40, 41, 32, 123, 32, 108, 101, 116, 32, 120, 32, 61, 32, 114, 101, 102, 59, 32, 125]) (sa_cons se_int (sa_cons se_bl sa_nil)))) (sa_cons (se_lst (sa_cons (se_str [102, 110, 32, 102, 40, 41, 32, 123, 32, 108, 101, 116, 32, 120, 32, 61, 32, 114, 101, 102, 32, 110, 101, 119, 59, 32, 125]) (sa_cons se_int (sa_cons se_bl sa_nil)))) (sa_cons (se_lst (sa_cons (se_str [102, 110, 32, 102, 40, 41, 32, 123, 32, 114, 101, 102, 32, 120, 59, 32, 125]) (sa_cons se_int (sa_cons se_bl sa_nil)))) sa_nil)))))) b.nd)
  (ss_cons (ss_set 0 (se_op op_addA addS_does (se_var 0) (se_lst (sa_cons (se_lst (sa_cons (se_str [102, 110, 32, 102, 40, 41, 32, 123, 32, 125, 32, 125]) (sa_cons se_int (sa_cons se_bl sa_nil)))) (sa_cons (se_lst (sa_cons (se_str [120]) (sa_cons se_int (sa_cons se_bl sa_nil)))) (sa_cons (se_lst (sa_cons (se_str [102, 110, 32, 108, 101, 116, 40, 41, 32, 123, 32, 125]) (sa_cons se_int (sa_cons se_bl sa_nil)))) (sa_cons (se_lst (sa_cons (se_str [102, 110, 32, 97, 98, 99, 100, 101, 102, 103, 104, 105, 40, 41, 32, 123, 32, 125]) (sa_cons se_int (sa_cons se_bl sa_nil)))) (sa_cons (se_lst (sa_cons (se_str [102, 110, 32, 102, 40, 41, 32, 123, 32, 114, 101, 97, 100, 32, 120, 49, 59, 32, 125]) (sa_cons se_int (sa_cons se_bl sa_nil)))) sa_nil))))))) b.nd)
  (ss_cons (ss_set 0 (se_op op_addA addS_does (se_var 0) (se_lst (sa_cons (se_lst (sa_cons (se_str [102, 110, 32, 102, 40, 97, 58, 32, 111, 119, 110, 32, 98, 58, 32, 111, 119, 110, 41, 32, 123, 32, 125]) (sa_cons se_int (sa_cons se_bl sa_nil)))) (sa_cons (se_lst (sa_cons (se_str [102, 110, 32, 102, 40, 97, 58, 32, 111, 119, 110, 44, 41, 32, 123, 32, 125]) (sa_cons se_int (sa_cons se_bl sa_nil)))) (sa_cons (se_lst (sa_cons (se_str [102, 110, 32, 102, 40, 41, 32, 123, 32, 120, 32, 61, 32, 110, 101, 119, 32, 125]) (sa_cons se_int (sa_cons se_bl sa_nil)))) (sa_cons (se_lst (sa_cons (se_str [102, 110, 32, 102, 40, 41, 32, 123, 32, 120, 40, 121, 41, 32, 125]) (sa_cons se_int (sa_cons se_bl sa_nil)))) sa_nil)))))) b.nd)
  (ss_cons (ss_set 0 (se_op op_addA addS_does (se_var 0) (se_lst (sa_cons (se_lst (sa_cons (se_str [102, 110, 32, 102, 40, 41, 32, 123, 9, 125]) (sa_cons se_int (sa_cons se_bl sa_nil)))) (sa_cons (se_lst (sa_cons (se_str [102, 110, 32, 102, 40, 41, 32, 45, 32, 62, 32, 111, 119, 110, 32, 123, 32, 125]) (sa_cons se_int (sa_cons se_bl sa_nil)))) (sa_cons (se_lst (sa_cons (se_str [102, 110, 32, 102, 40, 41, 32, 123, 32, 108, 101, 116, 32, 97, 98, 99, 100, 101, 102, 103, 104, 105, 32, 61, 32, 110, 101, 119, 59, 32, 125]) (sa_cons se_int (sa_cons se_bl sa_nil)))) (sa_cons (se_lst (sa_cons (se_str [102, 110, 32, 102, 40, 41, 32, 123, 32, 114, 101, 97, 100, 9, 120, 59, 32, 125]) (sa_cons se_int (sa_cons se_bl sa_nil)))) sa_nil)))))) b.nd)
  (ss_cons (ss_ret (se_op op_addA addS_does (se_var 0) (se_lst (sa_cons (se_lst (sa_cons (se_str [102, 110, 32, 102, 40, 41, 32, 123, 32, 120, 32, 61, 61, 32, 110, 101, 119, 59, 32, 125]) (sa_cons se_int (sa_cons se_bl sa_nil)))) (sa_cons (se_lst (sa_cons (se_str [102, 110, 32, 102, 40, 41, 32, 123, 32, 114, 101, 97, 100, 32, 120, 59, 32, 62, 32, 125]) (sa_cons se_int (sa_cons se_bl sa_nil)))) (sa_cons (se_lst (sa_cons (se_str [102, 110, 32, 102, 40, 41, 32, 123, 32, 108, 111, 111, 112, 32, 123, 32, 125, 32]) (sa_cons se_int (sa_cons se_bl sa_nil)))) (sa_cons (se_lst (sa_cons (se_str [102, 110, 32, 102, 40, 41, 32, 123, 32, 120, 32, 61, 32, 110, 101, 119]) (sa_cons se_int (sa_cons se_bl sa_nil)))) sa_nil)))))))
  ss_nil))))))))))
def F__law_draw : Nat → Fn
  | 0 => botF
  | k + 1 => fnS 2 3 (sSeq (sAsg (eBin itemS (eVar 0) (eC (.int 1))) (Sm.gName 2))
  (sSeq (sSub (eVar 0) (eC (.int 1)) (eBin addS (eVar 2) (eC (.int 1))))
  (sSeq (sIf (tCmp ltI (eVar 2) (eCall lenF (aCons (eBin itemS (eVar 0) (eC (.int 0))) (aNil)))) (sSeq (sRet (eBin modI (eCall intF (aCons (eBin itemS (eBin itemS (eVar 0) (eC (.int 0))) (eVar 2)) (aNil))) (eVar 1)))
  (sNext)) (sNext))
  (sSeq (sRet (eBin modI (eCall intF (aCons (eBin addS (eBin mulS (eVar 2) (eC (.int 7))) (eC (.int 3))) (aNil))) (eVar 1)))
  (sNext)))))
theorem sc__law_draw : FnScope ["_law_box", "_law_many", "_law_at"] ["_law_box", "_law_many"] d__law_draw.scope := ⟨rfl, rfl, rfl, by decide +kernel, rfl, by decide +kernel, by decide +kernel⟩
theorem g__law_draw (Z : Zf P K mg) : ∀ k, GFn T P w K mg base k "_law_draw" ["_law_box", "_law_many"] (F__law_draw k)
  | 0 => gfn_of Z.f__law_draw Z.m__law_draw (fun kV doc pm an cdv ct us hu => by match us, hu with | [a0, a1], _ => rfl) fun _ _ => FnS.zero
  | k + 1 => gfn_of Z.f__law_draw Z.m__law_draw (fun kV doc pm an cdv ct us hu => by match us, hu with | [a0, a1], _ => rfl) fun _ F => fnS_of F sc__law_draw (by decide) fun cdv A outer s H E hr =>
    have b := bd_of (P := P) (w := w) (mg := mg) (base := base) (f := He.fAd K d__law_draw.at_) (cdv := cdv) (outer := outer) (s := s) (H := H) (E := E) Z.tab sc__law_draw.nd hr
    (ss_cons (ss_set 2 (se_item (se_var 0) se_int) b.nd)
  (ss_cons (ss_sub (se_var 0) se_int (se_op op_addA addS_does (se_var 2) se_int))
  (ss_cons (ss_if (st_cmp op_lt cmpI_does (se_var 2) (se_blt call_len lenF_does Z.b_len rfl (sa_cons (se_item (se_var 0) se_int) sa_nil)) (nomark _)) (ss_cons (ss_ret (se_op op_mod modI_does (se_bltT call_int1 intF_does Z.b_int rfl (sa_cons (se_item (se_item (se_var 0) se_int) (se_var 2)) sa_nil)) (se_var 1)))
  ss_nil) ss_nil)
  (ss_cons (ss_ret (se_op op_mod modI_does (se_bltT call_int1 intF_does Z.b_int rfl (sa_cons (se_op op_addA addS_does (se_op op_mulA mulS_does (se_var 2) se_int) se_int) sa_nil)) (se_var 1)))
  ss_nil))))
def F_Parser___init__ : Nat → Fn
  | 0 => botF
  | k + 1 => fnS 2 2 (sSeq (sFld T.ms 15 (eVar 0) (eVar 1))
  (sSeq (sFld T.ms 16 (eVar 0) (eC (.int 0)))
  (sSeq (sFld T.ms 17 (eVar 0) (eC (.int 0)))
  (sSeq (sFld T.ms 18 (eVar 0) (eC (.int 0)))
  (sNext)))))
theorem sc_Parser___init__ : FnScope ["self", "row"] ["self", "row"] d_Parser___init__.scope := ⟨rfl, rfl, rfl, by decide +kernel, rfl, by decide +kernel, by decide +kernel⟩
theorem g_Parser___init__ (Z : Zf P K mg) : ∀ k, GCl T P w K mg base k 2 "Parser" ["self", "row"] (F_Parser___init__ k)
  | 0 => gcl_of Z.f_Parser___init__ Z.gc_Parser Z.mk_Parser (by decide) (fun kV doc pm an cdv ct us hu => by match us, hu with | [a0, a1], _ => rfl) fun _ _ => FnS.zero
  | k + 1 => gcl_of Z.f_Parser___init__ Z.gc_Parser Z.mk_Parser (by decide) (fun kV doc pm an cdv ct us hu => by match us, hu with | [a0, a1], _ => rfl) fun _ F => fnS_of F sc_Parser___init__ (by decide) fun cdv A outer s H E hr =>
    have b := bd_of (P := P) (w := w) (mg := mg) (base := base) (f := He.fAd K d_Parser___init__.at_) (cdv := cdv) (outer := outer) (s := s) (H := H) (E := E) Z.tab sc_Parser___init__.nd hr
    (ss_cons (ss_fld b 15 (se_var 0) (se_var 1))
  (ss_cons (ss_fld b 16 (se_var 0) se_int)
  (ss_cons (ss_fld b 17 (se_var 0) se_int)
  (ss_cons (ss_fld b 18 (se_var 0) se_int)
  ss_nil))))
def F_run_behind : Nat → Fn
  | 0 => botF
  | k + 1 => fnS 2 2 (sSeq (sWhile 3000 (tAnd (tCmp ltI (eVar 1) (eCall lenF (aCons (eVar 0) (aNil)))) (tCmp inS (eBin itemS (eVar 0) (eVar 1)) (eC (.str [97, 98, 99, 100, 101, 102, 103, 104, 105, 106, 107, 108, 109, 110, 111, 112, 113, 114, 115, 116, 117, 118, 119, 120, 121, 122])))) (sSeq (sAug 1 addI (eC (.int 1)))
  (sNext)))
  (sSeq (sRet (eVar 1))
  (sNext)))
theorem sc_run_behind : FnScope ["text", "at"] ["text", "at"] d_run_behind.scope := ⟨rfl, rfl, rfl, by decide +kernel, rfl, by decide +kernel, by decide +kernel⟩
theorem g_run_behind (Z : Zf P K mg) : ∀ k, GFn T P w K mg base k "run_behind" ["text", "at"] (F_run_behind k)
  | 0 => gfn_of Z.f_run_behind Z.m_run_behind (fun kV doc pm an cdv ct us hu => by match us, hu with | [a0, a1], _ => rfl) fun _ _ => FnS.zero
  | k + 1 => gfn_of Z.f_run_behind Z.m_run_behind (fun kV doc pm an cdv ct us hu => by match us, hu with | [a0, a1], _ => rfl) fun _ F => fnS_of F sc_run_behind (by decide) fun cdv A outer s H E hr =>
    have b := bd_of (P := P) (w := w) (mg := mg) (base := base) (f := He.fAd K d_run_behind.at_) (cdv := cdv) (outer := outer) (s := s) (H := H) (E := E) Z.tab sc_run_behind.nd hr
    (ss_cons (ss_while 3000 b.pass (PW.pt (sw_and (st_cmp op_lt cmpI_does (se_var 1) (se_blt call_len lenF_does Z.b_len rfl (sa_cons (se_var 0) sa_nil)) (nomark _)) (sw_and1 (st_cmp (op_inA b.u66) inS_does (se_item (se_var 0) (se_var 1)) (se_glob Z.c_LETTERS) rfl)))) (ss_cons (ss_aug 1 ip_add addI_doesI se_int b.nd)
  ss_nil))
  (ss_cons (ss_ret (se_var 1))
  ss_nil))
def F_run_token : Nat → Fn
  | 0 => botF
  | k + 1 => fnS 1 1 (sSeq (sIf (tCmp inS (eVar 0) (eC (.tup [.str [102, 110], .str [111, 119, 110], .str [114, 101, 102], .str [109, 117, 116], .str [108, 101, 116], .str [110, 101, 119], .str [114, 101, 97, 100], .str [119, 114, 105, 116, 101], .str [100, 114, 111, 112], .str [105, 102], .str [101, 108, 115, 101], .str [108, 111, 111, 112], .str [98, 114, 101, 97, 107], .str [99, 111, 110, 116, 105, 110, 117, 101], .str [114, 101, 116, 117, 114, 110]]))) (sSeq (sRet (eTup (aCons (eC (.str [119, 111, 114, 100])) (aCons (eVar 0) (aNil)))))
  (sNext)) (sNext))
  (sSeq (sRet (eTup (aCons (eIf (tCmp leI (eCall lenF (aCons (eVar 0) (aNil))) (eC (.int (8)))) (eC (.str [110, 97, 109, 101])) (eC (.str [98, 97, 100]))) (aCons (eVar 0) (aNil)))))
  (sNext)))
theorem sc_run_token : FnScope ["run"] ["run"] d_run_token.scope := ⟨rfl, rfl, rfl, by decide +kernel, rfl, by decide +kernel, by decide +kernel⟩
theorem g_run_token (Z : Zf P K mg) : ∀ k, GFn T P w K mg base k "run_token" ["run"] (F_run_token k)
  | 0 => gfn_of Z.f_run_token Z.m_run_token (fun kV doc pm an cdv ct us hu => by match us, hu with | [a0], _ => rfl) fun _ _ => FnS.zero
  | k + 1 => gfn_of Z.f_run_token Z.m_run_token (fun kV doc pm an cdv ct us hu => by match us, hu with | [a0], _ => rfl) fun _ F => fnS_of F sc_run_token (by decide) fun cdv A outer s H E hr =>
    have b := bd_of (P := P) (w := w) (mg := mg) (base := base) (f := He.fAd K d_run_token.at_) (cdv := cdv) (outer := outer) (s := s) (H := H) (E := E) Z.tab sc_run_token.nd hr
    (ss_cons (ss_if (st_cmp (op_inA b.u66) inS_does (se_var 0) (se_glob Z.c_WORDS) rfl) (ss_cons (ss_ret (se_tup (sa_cons (se_str [119, 111, 114, 100]) (sa_cons (se_var 0) sa_nil))))
  ss_nil) ss_nil)
  (ss_cons (ss_ret (se_tup (sa_cons (se_if (st_cmp op_le cmpI_does (se_blt call_len lenF_does Z.b_len rfl (sa_cons (se_var 0) sa_nil)) (se_glob Z.c_NAME_MOST) (nomark _)) (se_str [110, 97, 109, 101]) (se_str [98, 97, 100])) (sa_cons (se_var 0) sa_nil))))
  ss_nil))
def F_tokens : Nat → Fn
  | 0 => botF
  | k + 1 => fnS 1 5 (sSeq (sAsg (eLst (aNil)) (Sm.gName 1))
  (sSeq (sAsg (eC (.int 0)) (Sm.gName 2))
  (sSeq (sWhile 3000 (tCmp ltI (eVar 2) (eCall lenF (aCons (eVar 0) (aNil)))) (sSeq (sAsg (eBin itemS (eVar 0) (eVar 2)) (Sm.gName 3))
  (sSeq (sIf (tCmp inS (eVar 3) (eTup (aCons (eC (.str [32])) (aCons (eC (.str [10])) (aNil))))) (sSeq (sAug 2 addI (eC (.int 1)))
  (sNext)) (sSeq (sIf (tCmp inS (eVar 3) (eC (.str [97, 98, 99, 100, 101, 102, 103, 104, 105, 106, 107, 108, 109, 110, 111, 112, 113, 114, 115, 116, 117, 118, 119, 120, 121, 122]))) (sSeq (sAsg (eCall (F_run_behind k) (aCons (eVar 0) (aCons (eVar 2) (aNil)))) (Sm.gName 4))
  (sSeq (sExpr (eBm isLst appendF (eVar 1) (aCons (eCall (F_run_token k) (aCons (eSlice (eVar 0) (oSome (eVar 2)) (oSome (eVar 4))) (aNil))) (aNil))))
  (sSeq (sAsg (eVar 4) (Sm.gName 2))
  (sNext)))) (sSeq (sIf (tCmp eqS (eSlice (eVar 0) (oSome (eVar 2)) (oSome (eBin addS (eVar 2) (eC (.int 2))))) (eC (.str [45, 62]))) (sSeq (sExpr (eBm isLst appendF (eVar 1) (aCons (eTup (aCons (eC (.str [109, 97, 114, 107])) (aCons (eC (.str [45, 62])) (aNil)))) (aNil))))
  (sSeq (sAug 2 addI (eC (.int 2)))
  (sNext))) (sSeq (sExpr (eBm isLst appendF (eVar 1) (aCons (eTup (aCons (eIf (tCmp inS (eVar 3) (eC (.str [123, 125, 40, 41, 44, 59, 58, 61]))) (eC (.str [109, 97, 114, 107])) (eC (.str [98, 97, 100]))) (aCons (eVar 3) (aNil)))) (aNil))))
  (sSeq (sAug 2 addI (eC (.int 1)))
  (sNext))))
  (sNext)))
  (sNext)))
  (sNext))))
  (sSeq (sRet (eVar 1))
  (sNext)))))
theorem sc_tokens : FnScope ["text", "found", "at", "sign", "behind"] ["text"] d_tokens.scope := ⟨rfl, rfl, rfl, by decide +kernel, rfl, by decide +kernel, by decide +kernel⟩
theorem g_tokens (Z : Zf P K mg) : ∀ k, GFn T P w K mg base k "tokens" ["text"] (F_tokens k)
  | 0 => gfn_of Z.f_tokens Z.m_tokens (fun kV doc pm an cdv ct us hu => by match us, hu with | [a0], _ => rfl) fun _ _ => FnS.zero
  | k + 1 => gfn_of Z.f_tokens Z.m_tokens (fun kV doc pm an cdv ct us hu => by match us, hu with | [a0], _ => rfl) fun _ F => fnS_of F sc_tokens (by decide) fun cdv A outer s H E hr =>
    have b := bd_of (P := P) (w := w) (mg := mg) (base := base) (f := He.fAd K d_tokens.at_) (cdv := cdv) (outer := outer) (s := s) (H := H) (E := E) Z.tab sc_tokens.nd hr
    (ss_cons (ss_set 1 (se_lst sa_nil) b.nd)
  (ss_cons (ss_set 2 se_int b.nd)
  (ss_cons (ss_while 3000 b.pass (st_cmp op_lt cmpI_does (se_var 2) (se_blt call_len lenF_does Z.b_len rfl (sa_cons (se_var 0) sa_nil)) (nomark _)) (ss_cons (ss_set 3 (se_item (se_var 0) (se_var 2)) b.nd)
  (ss_cons (ss_if (st_cmp (op_inA b.u66) inS_does (se_var 3) (se_tup (sa_cons (se_str [32]) (sa_cons (se_str [10]) sa_nil))) rfl) (ss_cons (ss_aug 2 ip_add addI_doesI se_int b.nd)
  ss_nil) (ss_cons (ss_if (st_cmp (op_inA b.u66) inS_does (se_var 3) (se_glob Z.c_LETTERS) rfl) (ss_cons (ss_set 4 (se_call b (g_run_behind Z k) (sa_cons (se_var 0) (sa_cons (se_var 2) sa_nil))) b.nd)
  (ss_cons (ss_expr (se_bm PySem.F.plainAttrs_list PySem.F.slot_list_append PySem.F.type_list_append mt_append appendF_does kind_lst (se_var 1) (sa_cons (se_call b (g_run_token Z k) (sa_cons (se_slice (se_var 0) (so_some (se_var 2)) (so_some (se_var 4))) sa_nil)) sa_nil)))
  (ss_cons (ss_set 2 (se_var 4) b.nd)
  ss_nil))) (ss_cons (ss_if (st_cmp (op_eqA b.u64) eqS_does (se_slice (se_var 0) (so_some (se_var 2)) (so_some (se_op op_addA addS_does (se_var 2) se_int))) (se_str [45, 62]) (nomark _)) (ss_cons (ss_expr (se_bm PySem.F.plainAttrs_list PySem.F.slot_list_append PySem.F.type_list_append mt_append appendF_does kind_lst (se_var 1) (sa_cons (se_tup (sa_cons (se_str [109, 97, 114, 107]) (sa_cons (se_str [45, 62]) sa_nil))) sa_nil)))
  (ss_cons (ss_aug 2 ip_add addI_doesI se_int b.nd)
  ss_nil)) (ss_cons (ss_expr (se_bm PySem.F.plainAttrs_list PySem.F.slot_list_append PySem.F.type_list_append mt_append appendF_does kind_lst (se_var 1) (sa_cons (se_tup (sa_cons (se_if (st_cmp (op_inA b.u66) inS_does (se_var 3) (se_glob Z.c_MARKS) rfl) (se_str [109, 97, 114, 107]) (se_str [98, 97, 100])) (sa_cons (se_var 3) sa_nil))) sa_nil)))
  (ss_cons (ss_aug 2 ip_add addI_doesI se_int b.nd)
  ss_nil)))
  ss_nil))
  ss_nil))
  ss_nil)))
  (ss_cons (ss_ret (se_var 1))
  ss_nil))))
def F_Parser_fault : Nat → Fn
  | 0 => botF
  | 1 => botF
  | 2 => botF
  | k0 + 3 => fnS 1 1 (sSeq (sIf (tCmp geI (eAttr T.ms 16 (eVar 0)) (eCall lenF (aCons (eAttr T.ms 15 (eVar 0)) (aNil)))) (sSeq (sRaise (eMkX 4 fs_BadText ms_BadText (aCons (eBin addS (eCall lenF (aCons (eAttr T.ms 15 (eVar 0)) (aNil))) (eC (.int 1))) (aCons (eC (.str [117, 110, 101, 120, 112, 101, 99, 116, 101, 100, 32, 101, 110, 100])) (aNil)))))
  (sNext)) (sNext))
  (sSeq (sRaise (eMkX 4 fs_BadText ms_BadText (aCons (eBin addS (eAttr T.ms 16 (eVar 0)) (eC (.int 1))) (aCons (eC (.str [117, 110, 101, 120, 112, 101, 99, 116, 101, 100, 32, 116, 111, 107, 101, 110])) (aNil)))))
  (sNext)))
theorem sc_Parser_fault : FnScope ["self"] ["self"] d_Parser_fault.scope := ⟨rfl, rfl, rfl, by decide +kernel, rfl, by decide +kernel, by decide +kernel⟩
theorem g_Parser_fault (Z : Zf P K mg) : ∀ k, GMt T P w K mg base k 2 "fault" ["self"] (F_Parser_fault k)
  | 0 => gmt_of Z.f_Parser_fault Z.me_Parser_fault (fun kV doc pm an cdv ct us hu => by match us, hu with | [a0], _ => rfl) fun _ _ => FnS.zero
  | 1 => gmt_of Z.f_Parser_fault Z.me_Parser_fault (fun kV doc pm an cdv ct us hu => by match us, hu with | [a0], _ => rfl) fun _ _ => FnS.zero
  | 2 => gmt_of Z.f_Parser_fault Z.me_Parser_fault (fun kV doc pm an cdv ct us hu => by match us, hu with | [a0], _ => rfl) fun _ _ => FnS.zero
  | k0 + 3 => gmt_of Z.f_Parser_fault Z.me_Parser_fault (fun kV doc pm an cdv ct us hu => by match us, hu with | [a0], _ => rfl) fun _ F => fnS_of F sc_Parser_fault (by decide) fun cdv A outer s H E hr =>
    have b := bd_of (P := P) (w := w) (mg := mg) (base := base) (f := He.fAd K d_Parser_fault.at_) (cdv := cdv) (outer := outer) (s := s) (H := H) (E := E) Z.tab sc_Parser_fault.nd hr
    (ss_cons (ss_if (st_cmp op_ge cmpI_does (se_attr b 16 (se_var 0)) (se_blt call_len lenF_does Z.b_len rfl (sa_cons (se_attr b 15 (se_var 0)) sa_nil)) (nomark _)) (ss_cons (ss_raise b (pmk_S b (gx_BadText Z k0) (sa_cons (se_op op_addA addS_does (se_blt call_len lenF_does Z.b_len rfl (sa_cons (se_attr b 15 (se_var 0)) sa_nil)) se_int) (sa_cons (se_str [117, 110, 101, 120, 112, 101, 99, 116, 101, 100, 32, 101, 110, 100]) sa_nil))))
  ss_nil) ss_nil)
  (ss_cons (ss_raise b (pmk_S b (gx_BadText Z k0) (sa_cons (se_op op_addA addS_does (se_attr b 16 (se_var 0)) se_int) (sa_cons (se_str [117, 110, 101, 120, 112, 101, 99, 116, 101, 100, 32, 116, 111, 107, 101, 110]) sa_nil))))
  ss_nil))
def F_Parser_token : Nat → Fn
  | 0 => botF
  | k + 1 => fnS 1 1 (sSeq (sRet (eIf (tCmp ltI (eAttr T.ms 16 (eVar 0)) (eCall lenF (aCons (eAttr T.ms 15 (eVar 0)) (aNil)))) (eBin itemS (eAttr T.ms 15 (eVar 0)) (eAttr T.ms 16 (eVar 0))) (eTup (aCons (eC (.str [101, 110, 100])) (aCons (eC (.str [])) (aNil))))))
  (sNext))
theorem sc_Parser_token : FnScope ["self"] ["self"] d_Parser_token.scope := ⟨rfl, rfl, rfl, by decide +kernel, rfl, by decide +kernel, by decide +kernel⟩
theorem g_Parser_token (Z : Zf P K mg) : ∀ k, GMt T P w K mg base k 2 "token" ["self"] (F_Parser_token k)
  | 0 => gmt_of Z.f_Parser_token Z.me_Parser_token (fun kV doc pm an cdv ct us hu => by match us, hu with | [a0], _ => rfl) fun _ _ => FnS.zero
  | k + 1 => gmt_of Z.f_Parser_token Z.me_Parser_token (fun kV doc pm an cdv ct us hu => by match us, hu with | [a0], _ => rfl) fun _ F => fnS_of F sc_Parser_token (by decide) fun cdv A outer s H E hr =>
    have b := bd_of (P := P) (w := w) (mg := mg) (base := base) (f := He.fAd K d_Parser_token.at_) (cdv := cdv) (outer := outer) (s := s) (H := H) (E := E) Z.tab sc_Parser_token.nd hr
    (ss_cons (ss_ret (se_if (st_cmp op_lt cmpI_does (se_attr b 16 (se_var 0)) (se_blt call_len lenF_does Z.b_len rfl (sa_cons (se_attr b 15 (se_var 0)) sa_nil)) (nomark _)) (se_item (se_attr b 15 (se_var 0)) (se_attr b 16 (se_var 0))) (se_tup (sa_cons (se_str [101, 110, 100]) (sa_cons (se_str []) sa_nil)))))
  ss_nil)
def F_Parser_name : Nat → Fn
  | 0 => botF
  | k + 1 => fnS 1 1 (sSeq (sIf (tCmp neS (eBin itemS (eMeth 2 0 (F_Parser_token k) (eVar 0) aNil) (eC (.int 0))) (eC (.str [110, 97, 109, 101]))) (sSeq (sExpr (eMeth 2 24 (F_Parser_fault k) (eVar 0) aNil))
  (sNext)) (sNext))
  (sSeq (sFldAug T.ms 16 addI (eVar 0) (eC (.int 1)))
  (sSeq (sRet (eBin itemS (eBin itemS (eAttr T.ms 15 (eVar 0)) (eBin subI (eAttr T.ms 16 (eVar 0)) (eC (.int 1)))) (eC (.int 1))))
  (sNext))))
theorem sc_Parser_name : FnScope ["self"] ["self"] d_Parser_name.scope := ⟨rfl, rfl, rfl, by decide +kernel, rfl, by decide +kernel, by decide +kernel⟩
theorem g_Parser_name (Z : Zf P K mg) : ∀ k, GMt T P w K mg base k 2 "name" ["self"] (F_Parser_name k)
  | 0 => gmt_of Z.f_Parser_name Z.me_Parser_name (fun kV doc pm an cdv ct us hu => by match us, hu with | [a0], _ => rfl) fun _ _ => FnS.zero
  | k + 1 => gmt_of Z.f_Parser_name Z.me_Parser_name (fun kV doc pm an cdv ct us hu => by match us, hu with | [a0], _ => rfl) fun _ F => fnS_of F sc_Parser_name (by decide) fun cdv A outer s H E hr =>
    have b := bd_of (P := P) (w := w) (mg := mg) (base := base) (f := He.fAd K d_Parser_name.at_) (cdv := cdv) (outer := outer) (s := s) (H := H) (E := E) Z.tab sc_Parser_name.nd hr
    (ss_cons (ss_if (st_cmp (op_neA b.u64) neS_does (se_item (se_meth0 (j := 0) b (g_Parser_token Z k) (se_var 0)) se_int) (se_str [110, 97, 109, 101]) (nomark _)) (ss_cons (ss_expr (se_meth0 (j := 24) b (g_Parser_fault Z k) (se_var 0)))
  ss_nil) ss_nil)
  (ss_cons (ss_fldAug b 16 addI_inop addI_does (se_var 0) se_int)
  (ss_cons (ss_ret (se_item (se_item (se_attr b 15 (se_var 0)) (se_op op_sub subI_does (se_attr b 16 (se_var 0)) se_int)) se_int))
  ss_nil)))
def F_Parser_passed : Nat → Fn
  | 0 => botF
  | k + 1 => fnS 3 3 (sSeq (sIf (tCmp eqS (eMeth 2 0 (F_Parser_token k) (eVar 0) aNil) (eTup (aCons (eVar 1) (aCons (eVar 2) (aNil))))) (sSeq (sFldAug T.ms 16 addI (eVar 0) (eC (.int 1)))
  (sSeq (sRet (eC (.bl true)))
  (sNext))) (sNext))
  (sSeq (sRet (eC (.bl false)))
  (sNext)))
theorem sc_Parser_passed : FnScope ["self", "kind", "text"] ["self", "kind", "text"] d_Parser_passed.scope := ⟨rfl, rfl, rfl, by decide +kernel, rfl, by decide +kernel, by decide +kernel⟩
theorem g_Parser_passed (Z : Zf P K mg) : ∀ k, GMt T P w K mg base k 2 "passed" ["self", "kind", "text"] (F_Parser_passed k)
  | 0 => gmt_of Z.f_Parser_passed Z.me_Parser_passed (fun kV doc pm an cdv ct us hu => by match us, hu with | [a0, a1, a2], _ => rfl) fun _ _ => FnS.zero
  | k + 1 => gmt_of Z.f_Parser_passed Z.me_Parser_passed (fun kV doc pm an cdv ct us hu => by match us, hu with | [a0, a1, a2], _ => rfl) fun _ F => fnS_of F sc_Parser_passed (by decide) fun cdv A outer s H E hr =>
    have b := bd_of (P := P) (w := w) (mg := mg) (base := base) (f := He.fAd K d_Parser_passed.at_) (cdv := cdv) (outer := outer) (s := s) (H := H) (E := E) Z.tab sc_Parser_passed.nd hr
    (ss_cons (ss_if (st_cmp (op_eqA b.u64) eqS_does (se_meth0 (j := 0) b (g_Parser_token Z k) (se_var 0)) (se_tup (sa_cons (se_var 1) (sa_cons (se_var 2) sa_nil))) (nomark _)) (ss_cons (ss_fldAug b 16 addI_inop addI_does (se_var 0) se_int)
  (ss_cons (ss_ret se_bl)
  ss_nil)) ss_nil)
  (ss_cons (ss_ret se_bl)
  ss_nil))
def F_Parser_mark : Nat → Fn
  | 0 => botF
  | k + 1 => fnS 2 2 (sSeq (sIf (tNot (tVal (eMeth 2 28 (F_Parser_passed k) (eVar 0) (aCons (eC (.str [109, 97, 114, 107])) (aCons (eVar 1) (aNil)))))) (sSeq (sExpr (eMeth 2 24 (F_Parser_fault k) (eVar 0) aNil))
  (sNext)) (sNext))
  (sNext))
theorem sc_Parser_mark : FnScope ["self", "text"] ["self", "text"] d_Parser_mark.scope := ⟨rfl, rfl, rfl, by decide +kernel, rfl, by decide +kernel, by decide +kernel⟩
theorem g_Parser_mark (Z : Zf P K mg) : ∀ k, GMt T P w K mg base k 2 "mark" ["self", "text"] (F_Parser_mark k)
  | 0 => gmt_of Z.f_Parser_mark Z.me_Parser_mark (fun kV doc pm an cdv ct us hu => by match us, hu with | [a0, a1], _ => rfl) fun _ _ => FnS.zero
  | k + 1 => gmt_of Z.f_Parser_mark Z.me_Parser_mark (fun kV doc pm an cdv ct us hu => by match us, hu with | [a0, a1], _ => rfl) fun _ F => fnS_of F sc_Parser_mark (by decide) fun cdv A outer s H E hr =>
    have b := bd_of (P := P) (w := w) (mg := mg) (base := base) (f := He.fAd K d_Parser_mark.at_) (cdv := cdv) (outer := outer) (s := s) (H := H) (E := E) Z.tab sc_Parser_mark.nd hr
    (ss_cons (ss_if (st_not (st_val (se_meth (j := 28) b (g_Parser_passed Z k) (se_var 0) (sa_cons (se_str [109, 97, 114, 107]) (sa_cons (se_var 1) sa_nil))))) (ss_cons (ss_expr (se_meth0 (j := 24) b (g_Parser_fault Z k) (se_var 0)))
  ss_nil) ss_nil)
  ss_nil)
def F_Parser_kind : Nat → Fn
  | 0 => botF
  | k + 1 => fnS 1 3 (sSeq (sAsg (eMeth 2 0 (F_Parser_token k) (eVar 0) aNil) (Sm.gUnp [Sm.gName 1, Sm.gName 2]))
  (sSeq (sIf (tOr (tCmp neS (eVar 1) (eC (.str [119, 111, 114, 100]))) (tCmp notInS (eVar 2) (eC (.tup [.str [111, 119, 110], .str [114, 101, 102], .str [109, 117, 116]])))) (sSeq (sExpr (eMeth 2 24 (F_Parser_fault k) (eVar 0) aNil))
  (sNext)) (sNext))
  (sSeq (sFldAug T.ms 16 addI (eVar 0) (eC (.int 1)))
  (sSeq (sRet (eVar 2))
  (sNext)))))
theorem sc_Parser_kind : FnScope ["self", "kind", "text"] ["self"] d_Parser_kind.scope := ⟨rfl, rfl, rfl, by decide +kernel, rfl, by decide +kernel, by decide +kernel⟩
theorem g_Parser_kind (Z : Zf P K mg) : ∀ k, GMt T P w K mg base k 2 "kind" ["self"] (F_Parser_kind k)
  | 0 => gmt_of Z.f_Parser_kind Z.me_Parser_kind (fun kV doc pm an cdv ct us hu => by match us, hu with | [a0], _ => rfl) fun _ _ => FnS.zero
  | k + 1 => gmt_of Z.f_Parser_kind Z.me_Parser_kind (fun kV doc pm an cdv ct us hu => by match us, hu with | [a0], _ => rfl) fun _ F => fnS_of F sc_Parser_kind (by decide) fun cdv A outer s H E hr =>
    have b := bd_of (P := P) (w := w) (mg := mg) (base := base) (f := He.fAd K d_Parser_kind.at_) (cdv := cdv) (outer := outer) (s := s) (H := H) (E := E) Z.tab sc_Parser_kind.nd hr
    (ss_cons (ss_asg (se_meth0 (j := 0) b (g_Parser_token Z k) (se_var 0)) (sg_unp b.calm (sgs_cons (sg_name 1 b.nd) (sgs_cons (sg_name 2 b.nd) sgs_nil))) (gUnp_nx (by intro g hg; simp only [List.mem_cons, List.not_mem_nil, or_false] at hg; rcases hg with hg | hg <;> subst hg <;> intro s ρ st <;> trivial)))
  (ss_cons (ss_if (PW.pt (sw_or (st_cmp (op_neA b.u64) neS_does (se_var 1) (se_str [119, 111, 114, 100]) (nomark _)) (sw_or1 (st_cmp (op_notInA b.u66) notInS_does (se_var 2) (se_glob Z.c_KINDS) rfl)))) (ss_cons (ss_expr (se_meth0 (j := 24) b (g_Parser_fault Z k) (se_var 0)))
  ss_nil) ss_nil)
  (ss_cons (ss_fldAug b 16 addI_inop addI_does (se_var 0) se_int)
  (ss_cons (ss_ret (se_var 2))
  ss_nil))))
def F_read_parameter : Nat → Fn
  | 0 => botF
  | k + 1 => fnS 1 2 (sSeq (sAsg (eMeth 2 30 (F_Parser_name k) (eVar 0) aNil) (Sm.gName 1))
  (sSeq (sExpr (eMeth 2 29 (F_Parser_mark k) (eVar 0) (aCons (eC (.str [58])) (aNil))))
  (sSeq (sRet (eTup (aCons (eVar 1) (aCons (eMeth 2 31 (F_Parser_kind k) (eVar 0) aNil) (aNil)))))
  (sNext))))
theorem sc_read_parameter : FnScope ["parser", "name"] ["parser"] d_read_parameter.scope := ⟨rfl, rfl, rfl, by decide +kernel, rfl, by decide +kernel, by decide +kernel⟩
theorem g_read_parameter (Z : Zf P K mg) : ∀ k, GFn T P w K mg base k "read_parameter" ["parser"] (F_read_parameter k)
  | 0 => gfn_of Z.f_read_parameter Z.m_read_parameter (fun kV doc pm an cdv ct us hu => by match us, hu with | [a0], _ => rfl) fun _ _ => FnS.zero
  | k + 1 => gfn_of Z.f_read_parameter Z.m_read_parameter (fun kV doc pm an cdv ct us hu => by match us, hu with | [a0], _ => rfl) fun _ F => fnS_of F sc_read_parameter (by decide) fun cdv A outer s H E hr =>
    have b := bd_of (P := P) (w := w) (mg := mg) (base := base) (f := He.fAd K d_read_parameter.at_) (cdv := cdv) (outer := outer) (s := s) (H := H) (E := E) Z.tab sc_read_parameter.nd hr
    (ss_cons (ss_set 1 (se_meth0 (j := 30) b (g_Parser_name Z k) (se_var 0)) b.nd)
  (ss_cons (ss_expr (se_meth (j := 29) b (g_Parser_mark Z k) (se_var 0) (sa_cons (se_str [58]) sa_nil)))
  (ss_cons (ss_ret (se_tup (sa_cons (se_var 1) (sa_cons (se_meth0 (j := 31) b (g_Parser_kind Z k) (se_var 0)) sa_nil))))
  ss_nil)))
def F_read_argument : Nat → Fn
  | 0 => botF
  | k + 1 => fnS 1 2 (sSeq (sFor (wVal (eTup (aCons (eC (.str [114, 101, 102])) (aCons (eC (.str [109, 117, 116])) (aNil))))) (Sm.gName 1) (sSeq (sIf (tVal (eMeth 2 28 (F_Parser_passed k) (eVar 0) (aCons (eC (.str [119, 111, 114, 100])) (aCons (eVar 1) (aNil))))) (sSeq (sRet (eTup (aCons (eVar 1) (aCons (eMeth 2 30 (F_Parser_name k) (eVar 0) aNil) (aNil)))))
  (sNext)) (sNext))
  (sNext)))
  (sSeq (sRet (eTup (aCons (eC (.str [110, 97, 109, 101])) (aCons (eMeth 2 30 (F_Parser_name k) (eVar 0) aNil) (aNil)))))
  (sNext)))
theorem sc_read_argument : FnScope ["parser", "word"] ["parser"] d_read_argument.scope := ⟨rfl, rfl, rfl, by decide +kernel, rfl, by decide +kernel, by decide +kernel⟩
theorem g_read_argument (Z : Zf P K mg) : ∀ k, GFn T P w K mg base k "read_argument" ["parser"] (F_read_argument k)
  | 0 => gfn_of Z.f_read_argument Z.m_read_argument (fun kV doc pm an cdv ct us hu => by match us, hu with | [a0], _ => rfl) fun _ _ => FnS.zero
  | k + 1 => gfn_of Z.f_read_argument Z.m_read_argument (fun kV doc pm an cdv ct us hu => by match us, hu with | [a0], _ => rfl) fun _ F => fnS_of F sc_read_argument (by decide) fun cdv A outer s H E hr =>
    have b := bd_of (P := P) (w := w) (mg := mg) (base := base) (f := He.fAd K d_read_argument.at_) (cdv := cdv) (outer := outer) (s := s) (H := H) (E := E) Z.tab sc_read_argument.nd hr
    (ss_cons (ss_for b.pass b.calm (si_val (se_tup (sa_cons (se_str [114, 101, 102]) (sa_cons (se_str [109, 117, 116]) sa_nil)))) (sg_name 1 b.nd) (ss_cons (ss_if (st_val (se_meth (j := 28) b (g_Parser_passed Z k) (se_var 0) (sa_cons (se_str [119, 111, 114, 100]) (sa_cons (se_var 1) sa_nil)))) (ss_cons (ss_ret (se_tup (sa_cons (se_var 1) (sa_cons (se_meth0 (j := 30) b (g_Parser_name Z k) (se_var 0)) sa_nil))))
  ss_nil) ss_nil)
  ss_nil))
  (ss_cons (ss_ret (se_tup (sa_cons (se_str [110, 97, 109, 101]) (sa_cons (se_meth0 (j := 30) b (g_Parser_name Z k) (se_var 0)) sa_nil))))
  ss_nil))
def ft (k : Nat) : Nat → Option Fn
  | 0 => some (F_read_parameter k)
  | 1 => some (F_read_argument k)
  | _ => none
theorem ft_ok (Z : Zf P K mg) (k : Nat) : ∀ i F, ft k i = some F → ∃ fd ps, FnS T P w K mg base k (T.fnA K i) fd ps F ∧ PySem.W.keepIn K (.ref (T.fnA K i)) = true ∧ Binds K fd ps []
  | 0, F, h => by
    cases h
    exact (g_read_parameter Z k).val Z.m_read_parameter
  | 1, F, h => by
    cases h
    exact (g_read_argument Z k).val Z.m_read_argument
  | i + 2, F, h => by cases h
def F_read_row : Nat → Fn
  | 0 => botF
  | k + 1 => fnS 2 3 (sSeq (sAsg (eLst (aNil)) (Sm.gName 2))
  (sSeq (sExpr (eMeth 2 29 (F_Parser_mark k) (eVar 0) (aCons (eC (.str [40])) (aNil))))
  (sSeq (sIf (tNot (tVal (eMeth 2 28 (F_Parser_passed k) (eVar 0) (aCons (eC (.str [109, 97, 114, 107])) (aCons (eC (.str [41])) (aNil)))))) (sSeq (sExpr (eBm isLst appendF (eVar 2) (aCons (eCallV (ft k) (eVar 1) (aCons (eVar 0) (aNil))) (aNil))))
  (sSeq (sWhile 3000 (tVal (eMeth 2 28 (F_Parser_passed k) (eVar 0) (aCons (eC (.str [109, 97, 114, 107])) (aCons (eC (.str [44])) (aNil))))) (sSeq (sExpr (eBm isLst appendF (eVar 2) (aCons (eCallV (ft k) (eVar 1) (aCons (eVar 0) (aNil))) (aNil))))
  (sNext)))
  (sSeq (sExpr (eMeth 2 29 (F_Parser_mark k) (eVar 0) (aCons (eC (.str [41])) (aNil))))
  (sNext)))) (sNext))
  (sSeq (sRet (eCall tupleF (aCons (eVar 2) (aNil))))
  (sNext)))))
theorem sc_read_row : FnScope ["parser", "read", "found"] ["parser", "read"] d_read_row.scope := ⟨rfl, rfl, rfl, by decide +kernel, rfl, by decide +kernel, by decide +kernel⟩
theorem g_read_row (Z : Zf P K mg) : ∀ k, GFn T P w K mg base k "read_row" ["parser", "read"] (F_read_row k)
  | 0 => gfn_of Z.f_read_row Z.m_read_row (fun kV doc pm an cdv ct us hu => by match us, hu with | [a0, a1], _ => rfl) fun _ _ => FnS.zero
  | k + 1 => gfn_of Z.f_read_row Z.m_read_row (fun kV doc pm an cdv ct us hu => by match us, hu with | [a0, a1], _ => rfl) fun _ F => fnS_of F sc_read_row (by decide) fun cdv A outer s H E hr =>
    have b := bd_of (P := P) (w := w) (mg := mg) (base := base) (f := He.fAd K d_read_row.at_) (cdv := cdv) (outer := outer) (s := s) (H := H) (E := E) Z.tab sc_read_row.nd hr
    (ss_cons (ss_set 2 (se_lst sa_nil) b.nd)
  (ss_cons (ss_expr (se_meth (j := 29) b (g_Parser_mark Z k) (se_var 0) (sa_cons (se_str [40]) sa_nil)))
  (ss_cons (ss_if (st_not (st_val (se_meth (j := 28) b (g_Parser_passed Z k) (se_var 0) (sa_cons (se_str [109, 97, 114, 107]) (sa_cons (se_str [41]) sa_nil))))) (ss_cons (ss_expr (se_bm PySem.F.plainAttrs_list PySem.F.slot_list_append PySem.F.type_list_append mt_append appendF_does kind_lst (se_var 2) (sa_cons (se_callv (i := 1) b (ft_ok Z k) (sa_cons (se_var 0) sa_nil)) sa_nil)))
  (ss_cons (ss_while 3000 b.pass (st_val (se_meth (j := 28) b (g_Parser_passed Z k) (se_var 0) (sa_cons (se_str [109, 97, 114, 107]) (sa_cons (se_str [44]) sa_nil)))) (ss_cons (ss_expr (se_bm PySem.F.plainAttrs_list PySem.F.slot_list_append PySem.F.type_list_append mt_append appendF_does kind_lst (se_var 2) (sa_cons (se_callv (i := 1) b (ft_ok Z k) (sa_cons (se_var 0) sa_nil)) sa_nil)))
  ss_nil))
  (ss_cons (ss_expr (se_meth (j := 29) b (g_Parser_mark Z k) (se_var 0) (sa_cons (se_str [41]) sa_nil)))
  ss_nil))) ss_nil)
  (ss_cons (ss_ret (se_bltT call_tuple_of tupleF_does Z.b_tuple rfl (sa_cons (se_var 2) sa_nil)))
  ss_nil))))
def F_read_call_behind : Nat → Fn
  | 0 => botF
  | k + 1 => fnS 2 2 (sSeq (sRet (eTup (aCons (eC (.str [99, 97, 108, 108])) (aCons (eVar 1) (aCons (eCall (F_read_row k) (aCons (eVar 0) (aCons (eC (.fn 1)) (aNil)))) (aNil))))))
  (sNext))
theorem sc_read_call_behind : FnScope ["parser", "name"] ["parser", "name"] d_read_call_behind.scope := ⟨rfl, rfl, rfl, by decide +kernel, rfl, by decide +kernel, by decide +kernel⟩
theorem g_read_call_behind (Z : Zf P K mg) : ∀ k, GFn T P w K mg base k "read_call_behind" ["parser", "name"] (F_read_call_behind k)
  | 0 => gfn_of Z.f_read_call_behind Z.m_read_call_behind (fun kV doc pm an cdv ct us hu => by match us, hu with | [a0, a1], _ => rfl) fun _ _ => FnS.zero
  | k + 1 => gfn_of Z.f_read_call_behind Z.m_read_call_behind (fun kV doc pm an cdv ct us hu => by match us, hu with | [a0, a1], _ => rfl) fun _ F => fnS_of F sc_read_call_behind (by decide) fun cdv A outer s H E hr =>
    have b := bd_of (P := P) (w := w) (mg := mg) (base := base) (f := He.fAd K d_read_call_behind.at_) (cdv := cdv) (outer := outer) (s := s) (H := H) (E := E) Z.tab sc_read_call_behind.nd hr
    (ss_cons (ss_ret (se_tup (sa_cons (se_str [99, 97, 108, 108]) (sa_cons (se_var 1) (sa_cons (se_call b (g_read_row Z k) (sa_cons (se_var 0) (sa_cons (se_fnv 1 Z.m_read_argument) sa_nil))) sa_nil)))))
  ss_nil)
def F_read_expression : Nat → Fn
  | 0 => botF
  | k + 1 => fnS 1 2 (sSeq (sIf (tVal (eMeth 2 28 (F_Parser_passed k) (eVar 0) (aCons (eC (.str [119, 111, 114, 100])) (aCons (eC (.str [110, 101, 119])) (aNil))))) (sSeq (sRet (eTup (aCons (eC (.str [110, 101, 119])) (aNil))))
  (sNext)) (sNext))
  (sSeq (sAsg (eCall (F_read_argument k) (aCons (eVar 0) (aNil))) (Sm.gName 1))
  (sSeq (sIf (tAnd (tCmp eqS (eBin itemS (eVar 1) (eC (.int 0))) (eC (.str [110, 97, 109, 101]))) (tCmp eqS (eMeth 2 0 (F_Parser_token k) (eVar 0) aNil) (eTup (aCons (eC (.str [109, 97, 114, 107])) (aCons (eC (.str [40])) (aNil)))))) (sSeq (sRet (eCall (F_read_call_behind k) (aCons (eVar 0) (aCons (eBin itemS (eVar 1) (eC (.int 1))) (aNil)))))
  (sNext)) (sNext))
  (sSeq (sRet (eVar 1))
  (sNext)))))
theorem sc_read_expression : FnScope ["parser", "found"] ["parser"] d_read_expression.scope := ⟨rfl, rfl, rfl, by decide +kernel, rfl, by decide +kernel, by decide +kernel⟩
theorem g_read_expression (Z : Zf P K mg) : ∀ k, GFn T P w K mg base k "read_expression" ["parser"] (F_read_expression k)
  | 0 => gfn_of Z.f_read_expression Z.m_read_expression (fun kV doc pm an cdv ct us hu => by match us, hu with | [a0], _ => rfl) fun _ _ => FnS.zero
  | k + 1 => gfn_of Z.f_read_expression Z.m_read_expression (fun kV doc pm an cdv ct us hu => by match us, hu with | [a0], _ => rfl) fun _ F => fnS_of F sc_read_expression (by decide) fun cdv A outer s H E hr =>
    have b := bd_of (P := P) (w := w) (mg := mg) (base := base) (f := He.fAd K d_read_expression.at_) (cdv := cdv) (outer := outer) (s := s) (H := H) (E := E) Z.tab sc_read_expression.nd hr
    (ss_cons (ss_if (st_val (se_meth (j := 28) b (g_Parser_passed Z k) (se_var 0) (sa_cons (se_str [119, 111, 114, 100]) (sa_cons (se_str [110, 101, 119]) sa_nil)))) (ss_cons (ss_ret (se_tup (sa_cons (se_str [110, 101, 119]) sa_nil)))
  ss_nil) ss_nil)
  (ss_cons (ss_set 1 (se_call b (g_read_argument Z k) (sa_cons (se_var 0) sa_nil)) b.nd)
  (ss_cons (ss_if (PW.pt (sw_and (st_cmp (op_eqA b.u64) eqS_does (se_item (se_var 1) se_int) (se_str [110, 97, 109, 101]) (nomark _)) (sw_and1 (st_cmp (op_eqA b.u64) eqS_does (se_meth0 (j := 0) b (g_Parser_token Z k) (se_var 0)) (se_tup (sa_cons (se_str [109, 97, 114, 107]) (sa_cons (se_str [40]) sa_nil))) (nomark _))))) (ss_cons (ss_ret (se_call b (g_read_call_behind Z k) (sa_cons (se_var 0) (sa_cons (se_item (se_var 1) se_int) sa_nil))))
  ss_nil) ss_nil)
  (ss_cons (ss_ret (se_var 1))
  ss_nil))))
def F_read_named : Nat → Fn
  | 0 => botF
  | k + 1 => fnS 1 2 (sSeq (sAsg (eMeth 2 30 (F_Parser_name k) (eVar 0) aNil) (Sm.gName 1))
  (sSeq (sIf (tCmp eqS (eMeth 2 0 (F_Parser_token k) (eVar 0) aNil) (eTup (aCons (eC (.str [109, 97, 114, 107])) (aCons (eC (.str [40])) (aNil))))) (sSeq (sRet (eCall (F_read_call_behind k) (aCons (eVar 0) (aCons (eVar 1) (aNil)))))
  (sNext)) (sNext))
  (sSeq (sExpr (eMeth 2 29 (F_Parser_mark k) (eVar 0) (aCons (eC (.str [61])) (aNil))))
  (sSeq (sRet (eTup (aCons (eC (.str [115, 101, 116])) (aCons (eVar 1) (aCons (eCall (F_read_expression k) (aCons (eVar 0) (aNil))) (aNil))))))
  (sNext)))))
theorem sc_read_named : FnScope ["parser", "name"] ["parser"] d_read_named.scope := ⟨rfl, rfl, rfl, by decide +kernel, rfl, by decide +kernel, by decide +kernel⟩
theorem g_read_named (Z : Zf P K mg) : ∀ k, GFn T P w K mg base k "read_named" ["parser"] (F_read_named k)
  | 0 => gfn_of Z.f_read_named Z.m_read_named (fun kV doc pm an cdv ct us hu => by match us, hu with | [a0], _ => rfl) fun _ _ => FnS.zero
  | k + 1 => gfn_of Z.f_read_named Z.m_read_named (fun kV doc pm an cdv ct us hu => by match us, hu with | [a0], _ => rfl) fun _ F => fnS_of F sc_read_named (by decide) fun cdv A outer s H E hr =>
    have b := bd_of (P := P) (w := w) (mg := mg) (base := base) (f := He.fAd K d_read_named.at_) (cdv := cdv) (outer := outer) (s := s) (H := H) (E := E) Z.tab sc_read_named.nd hr
    (ss_cons (ss_set 1 (se_meth0 (j := 30) b (g_Parser_name Z k) (se_var 0)) b.nd)
  (ss_cons (ss_if (st_cmp (op_eqA b.u64) eqS_does (se_meth0 (j := 0) b (g_Parser_token Z k) (se_var 0)) (se_tup (sa_cons (se_str [109, 97, 114, 107]) (sa_cons (se_str [40]) sa_nil))) (nomark _)) (ss_cons (ss_ret (se_call b (g_read_call_behind Z k) (sa_cons (se_var 0) (sa_cons (se_var 1) sa_nil))))
  ss_nil) ss_nil)
  (ss_cons (ss_expr (se_meth (j := 29) b (g_Parser_mark Z k) (se_var 0) (sa_cons (se_str [61]) sa_nil)))
  (ss_cons (ss_ret (se_tup (sa_cons (se_str [115, 101, 116]) (sa_cons (se_var 1) (sa_cons (se_call b (g_read_expression Z k) (sa_cons (se_var 0) sa_nil)) sa_nil)))))
  ss_nil))))
def F_read_let : Nat → Fn
  | 0 => botF
  | k + 1 => fnS 1 2 (sSeq (sAsg (eMeth 2 30 (F_Parser_name k) (eVar 0) aNil) (Sm.gName 1))
  (sSeq (sExpr (eMeth 2 29 (F_Parser_mark k) (eVar 0) (aCons (eC (.str [61])) (aNil))))
  (sSeq (sRet (eTup (aCons (eC (.str [108, 101, 116])) (aCons (eVar 1) (aCons (eCall (F_read_expression k) (aCons (eVar 0) (aNil))) (aNil))))))
  (sNext))))
theorem sc_read_let : FnScope ["parser", "name"] ["parser"] d_read_let.scope := ⟨rfl, rfl, rfl, by decide +kernel, rfl, by decide +kernel, by decide +kernel⟩
theorem g_read_let (Z : Zf P K mg) : ∀ k, GFn T P w K mg base k "read_let" ["parser"] (F_read_let k)
  | 0 => gfn_of Z.f_read_let Z.m_read_let (fun kV doc pm an cdv ct us hu => by match us, hu with | [a0], _ => rfl) fun _ _ => FnS.zero
  | k + 1 => gfn_of Z.f_read_let Z.m_read_let (fun kV doc pm an cdv ct us hu => by match us, hu with | [a0], _ => rfl) fun _ F => fnS_of F sc_read_let (by decide) fun cdv A outer s H E hr =>
    have b := bd_of (P := P) (w := w) (mg := mg) (base := base) (f := He.fAd K d_read_let.at_) (cdv := cdv) (outer := outer) (s := s) (H := H) (E := E) Z.tab sc_read_let.nd hr
    (ss_cons (ss_set 1 (se_meth0 (j := 30) b (g_Parser_name Z k) (se_var 0)) b.nd)
  (ss_cons (ss_expr (se_meth (j := 29) b (g_Parser_mark Z k) (se_var 0) (sa_cons (se_str [61]) sa_nil)))
  (ss_cons (ss_ret (se_tup (sa_cons (se_str [108, 101, 116]) (sa_cons (se_var 1) (sa_cons (se_call b (g_read_expression Z k) (sa_cons (se_var 0) sa_nil)) sa_nil)))))
  ss_nil)))
def F_read_plain : Nat → Fn
  | 0 => botF
  | k + 1 => fnS 1 4 (sSeq (sAsg (eMeth 2 0 (F_Parser_token k) (eVar 0) aNil) (Sm.gUnp [Sm.gName 1, Sm.gName 2]))
  (sSeq (sIf (tCmp eqS (eVar 1) (eC (.str [110, 97, 109, 101]))) (sSeq (sAsg (eCall (F_read_named k) (aCons (eVar 0) (aNil))) (Sm.gName 3))
  (sNext)) (sSeq (sIf (tVal (eMeth 2 28 (F_Parser_passed k) (eVar 0) (aCons (eC (.str [119, 111, 114, 100])) (aCons (eC (.str [108, 101, 116])) (aNil))))) (sSeq (sAsg (eCall (F_read_let k) (aCons (eVar 0) (aNil))) (Sm.gName 3))
  (sNext)) (sSeq (sIf (tAnd (tCmp eqS (eVar 1) (eC (.str [119, 111, 114, 100]))) (tCmp inS (eVar 2) (eTup (aCons (eC (.str [114, 101, 97, 100])) (aCons (eC (.str [119, 114, 105, 116, 101])) (aCons (eC (.str [100, 114, 111, 112])) (aNil))))))) (sSeq (sFldAug T.ms 16 addI (eVar 0) (eC (.int 1)))
  (sSeq (sAsg (eTup (aCons (eVar 2) (aCons (eMeth 2 30 (F_Parser_name k) (eVar 0) aNil) (aNil)))) (Sm.gName 3))
  (sNext))) (sSeq (sIf (tAnd (tCmp eqS (eVar 1) (eC (.str [119, 111, 114, 100]))) (tCmp inS (eVar 2) (eTup (aCons (eC (.str [98, 114, 101, 97, 107])) (aCons (eC (.str [99, 111, 110, 116, 105, 110, 117, 101])) (aNil)))))) (sSeq (sFldAug T.ms 16 addI (eVar 0) (eC (.int 1)))
  (sSeq (sAsg (eTup (aCons (eVar 2) (aNil))) (Sm.gName 3))
  (sNext))) (sSeq (sIf (tVal (eMeth 2 28 (F_Parser_passed k) (eVar 0) (aCons (eC (.str [119, 111, 114, 100])) (aCons (eC (.str [114, 101, 116, 117, 114, 110])) (aNil))))) (sSeq (sAsg (eTup (aCons (eC (.str [114, 101, 116, 117, 114, 110])) (aCons (eIf (tCmp eqS (eBin itemS (eMeth 2 0 (F_Parser_token k) (eVar 0) aNil) (eC (.int 0))) (eC (.str [110, 97, 109, 101]))) (eMeth 2 30 (F_Parser_name k) (eVar 0) aNil) (eC .non)) (aNil)))) (Sm.gName 3))
  (sNext)) (sSeq (sExpr (eMeth 2 24 (F_Parser_fault k) (eVar 0) aNil))
  (sSeq (sAsg (eTup (aNil)) (Sm.gName 3))
  (sNext))))
  (sNext)))
  (sNext)))
  (sNext)))
  (sNext)))
  (sSeq (sExpr (eMeth 2 29 (F_Parser_mark k) (eVar 0) (aCons (eC (.str [59])) (aNil))))
  (sSeq (sRet (eVar 3))
  (sNext)))))
theorem sc_read_plain : FnScope ["parser", "kind", "word", "found"] ["parser"] d_read_plain.scope := ⟨rfl, rfl, rfl, by decide +kernel, rfl, by decide +kernel, by decide +kernel⟩
theorem g_read_plain (Z : Zf P K mg) : ∀ k, GFn T P w K mg base k "read_plain" ["parser"] (F_read_plain k)
  | 0 => gfn_of Z.f_read_plain Z.m_read_plain (fun kV doc pm an cdv ct us hu => by match us, hu with | [a0], _ => rfl) fun _ _ => FnS.zero
  | k + 1 => gfn_of Z.f_read_plain Z.m_read_plain (fun kV doc pm an cdv ct us hu => by match us, hu with | [a0], _ => rfl) fun _ F => fnS_of F sc_read_plain (by decide) fun cdv A outer s H E hr =>
    have b := bd_of (P := P) (w := w) (mg := mg) (base := base) (f := He.fAd K d_read_plain.at_) (cdv := cdv) (outer := outer) (s := s) (H := H) (E := E) Z.tab sc_read_plain.nd hr
    (ss_cons (ss_asg (se_meth0 (j := 0) b (g_Parser_token Z k) (se_var 0)) (sg_unp b.calm (sgs_cons (sg_name 1 b.nd) (sgs_cons (sg_name 2 b.nd) sgs_nil))) (gUnp_nx (by intro g hg; simp only [List.mem_cons, List.not_mem_nil, or_false] at hg; rcases hg with hg | hg <;> subst hg <;> intro s ρ st <;> trivial)))
  (ss_cons (ss_if (st_cmp (op_eqA b.u64) eqS_does (se_var 1) (se_str [110, 97, 109, 101]) (nomark _)) (ss_cons (ss_set 3 (se_call b (g_read_named Z k) (sa_cons (se_var 0) sa_nil)) b.nd)
  ss_nil) (ss_cons (ss_if (st_val (se_meth (j := 28) b (g_Parser_passed Z k) (se_var 0) (sa_cons (se_str [119, 111, 114, 100]) (sa_cons (se_str [108, 101, 116]) sa_nil)))) (ss_cons (ss_set 3 (se_call b (g_read_let Z k) (sa_cons (se_var 0) sa_nil)) b.nd)
  ss_nil) (ss_cons (ss_if (PW.pt (sw_and (st_cmp (op_eqA b.u64) eqS_does (se_var 1) (se_str [119, 111, 114, 100]) (nomark _)) (sw_and1 (st_cmp (op_inA b.u66) inS_does (se_var 2) (se_tup (sa_cons (se_str [114, 101, 97, 100]) (sa_cons (se_str [119, 114, 105, 116, 101]) (sa_cons (se_str [100, 114, 111, 112]) sa_nil)))) rfl)))) (ss_cons (ss_fldAug b 16 addI_inop addI_does (se_var 0) se_int)
  (ss_cons (ss_set 3 (se_tup (sa_cons (se_var 2) (sa_cons (se_meth0 (j := 30) b (g_Parser_name Z k) (se_var 0)) sa_nil))) b.nd)
  ss_nil)) (ss_cons (ss_if (PW.pt (sw_and (st_cmp (op_eqA b.u64) eqS_does (se_var 1) (se_str [119, 111, 114, 100]) (nomark _)) (sw_and1 (st_cmp (op_inA b.u66) inS_does (se_var 2) (se_tup (sa_cons (se_str [98, 114, 101, 97, 107]) (sa_cons (se_str [99, 111, 110, 116, 105, 110, 117, 101]) sa_nil))) rfl)))) (ss_cons (ss_fldAug b 16 addI_inop addI_does (se_var 0) se_int)
  (ss_cons (ss_set 3 (se_tup (sa_cons (se_var 2) sa_nil)) b.nd)
  ss_nil)) (ss_cons (ss_if (st_val (se_meth (j := 28) b (g_Parser_passed Z k) (se_var 0) (sa_cons (se_str [119, 111, 114, 100]) (sa_cons (se_str [114, 101, 116, 117, 114, 110]) sa_nil)))) (ss_cons (ss_set 3 (se_tup (sa_cons (se_str [114, 101, 116, 117, 114, 110]) (sa_cons (se_if (st_cmp (op_eqA b.u64) eqS_does (se_item (se_meth0 (j := 0) b (g_Parser_token Z k) (se_var 0)) se_int) (se_str [110, 97, 109, 101]) (nomark _)) (se_meth0 (j := 30) b (g_Parser_name Z k) (se_var 0)) se_non) sa_nil))) b.nd)
  ss_nil) (ss_cons (ss_expr (se_meth0 (j := 24) b (g_Parser_fault Z k) (se_var 0)))
  (ss_cons (ss_set 3 (se_tup sa_nil) b.nd)
  ss_nil)))
  ss_nil))
  ss_nil))
  ss_nil))
  ss_nil))
  (ss_cons (ss_expr (se_meth (j := 29) b (g_Parser_mark Z k) (se_var 0) (sa_cons (se_str [59]) sa_nil)))
  (ss_cons (ss_ret (se_var 3))
  ss_nil))))
def F_read_block : Nat → Fn
  | 0 => botF
  | k + 1 => fnS 1 3 (sSeq (sAsg (eLst (aNil)) (Sm.gName 1))
  (sSeq (sExpr (eMeth 2 29 (F_Parser_mark k) (eVar 0) (aCons (eC (.str [123])) (aNil))))
  (sSeq (sFldAug T.ms 17 addI (eVar 0) (eC (.int 1)))
  (sSeq (sFld T.ms 18 (eVar 0) (eCall max2F (aCons (eAttr T.ms 18 (eVar 0)) (aCons (eAttr T.ms 17 (eVar 0)) (aNil)))))
  (sSeq (sWhile 3000 (tNot (tVal (eMeth 2 28 (F_Parser_passed k) (eVar 0) (aCons (eC (.str [109, 97, 114, 107])) (aCons (eC (.str [125])) (aNil)))))) (sSeq (sIf (tVal (eMeth 2 28 (F_Parser_passed k) (eVar 0) (aCons (eC (.str [119, 111, 114, 100])) (aCons (eC (.str [105, 102])) (aNil))))) (sSeq (sAsg (eCall (F_read_block k) (aCons (eVar 0) (aNil))) (Sm.gName 2))
  (sSeq (sExpr (eBm isLst appendF (eVar 1) (aCons (eTup (aCons (eC (.str [105, 102])) (aCons (eVar 2) (aCons (eIf (tVal (eMeth 2 28 (F_Parser_passed k) (eVar 0) (aCons (eC (.str [119, 111, 114, 100])) (aCons (eC (.str [101, 108, 115, 101])) (aNil))))) (eCall (F_read_block k) (aCons (eVar 0) (aNil))) (eC .non)) (aNil))))) (aNil))))
  (sNext))) (sSeq (sIf (tVal (eMeth 2 28 (F_Parser_passed k) (eVar 0) (aCons (eC (.str [119, 111, 114, 100])) (aCons (eC (.str [108, 111, 111, 112])) (aNil))))) (sSeq (sExpr (eBm isLst appendF (eVar 1) (aCons (eTup (aCons (eC (.str [108, 111, 111, 112])) (aCons (eCall (F_read_block k) (aCons (eVar 0) (aNil))) (aNil)))) (aNil))))
  (sNext)) (sSeq (sExpr (eBm isLst appendF (eVar 1) (aCons (eCall (F_read_plain k) (aCons (eVar 0) (aNil))) (aNil))))
  (sNext)))
  (sNext)))
  (sNext)))
  (sSeq (sFldAug T.ms 17 subI (eVar 0) (eC (.int 1)))
  (sSeq (sRet (eCall tupleF (aCons (eVar 1) (aNil))))
  (sNext))))))))
theorem sc_read_block : FnScope ["parser", "found", "first"] ["parser"] d_read_block.scope := ⟨rfl, rfl, rfl, by decide +kernel, rfl, by decide +kernel, by decide +kernel⟩
theorem g_read_block (Z : Zf P K mg) : ∀ k, GFn T P w K mg base k "read_block" ["parser"] (F_read_block k)
  | 0 => gfn_of Z.f_read_block Z.m_read_block (fun kV doc pm an cdv ct us hu => by match us, hu with | [a0], _ => rfl) fun _ _ => FnS.zero
  | k + 1 => gfn_of Z.f_read_block Z.m_read_block (fun kV doc pm an cdv ct us hu => by match us, hu with | [a0], _ => rfl) fun _ F => fnS_of F sc_read_block (by decide) fun cdv A outer s H E hr =>
    have b := bd_of (P := P) (w := w) (mg := mg) (base := base) (f := He.fAd K d_read_block.at_) (cdv := cdv) (outer := outer) (s := s) (H := H) (E := E) Z.tab sc_read_block.nd hr
    (ss_cons (ss_set 1 (se_lst sa_nil) b.nd)
  (ss_cons (ss_expr (se_meth (j := 29) b (g_Parser_mark Z k) (se_var 0) (sa_cons (se_str [123]) sa_nil)))
  (ss_cons (ss_fldAug b 17 addI_inop addI_does (se_var 0) se_int)
  (ss_cons (ss_fld b 18 (se_var 0) (se_blt (call_max2 b.calm) max2F_does Z.b_max rfl (sa_cons (se_attr b 18 (se_var 0)) (sa_cons (se_attr b 17 (se_var 0)) sa_nil))))
  (ss_cons (ss_while 3000 b.pass (st_not (st_val (se_meth (j := 28) b (g_Parser_passed Z k) (se_var 0) (sa_cons (se_str [109, 97, 114, 107]) (sa_cons (se_str [125]) sa_nil))))) (ss_cons (ss_if (st_val (se_meth (j := 28) b (g_Parser_passed Z k) (se_var 0) (sa_cons (se_str [119, 111, 114, 100]) (sa_cons (se_str [105, 102]) sa_nil)))) (ss_cons (ss_set 2 (se_call b (g_read_block Z k) (sa_cons (se_var 0) sa_nil)) b.nd)
  (ss_cons (ss_expr (se_bm PySem.F.plainAttrs_list PySem.F.slot_list_append PySem.F.type_list_append mt_append appendF_does kind_lst (se_var 1) (sa_cons (se_tup (sa_cons (se_str [105, 102]) (sa_cons (se_var 2) (sa_cons (se_if (st_val (se_meth (j := 28) b (g_Parser_passed Z k) (se_var 0) (sa_cons (se_str [119, 111, 114, 100]) (sa_cons (se_str [101, 108, 115, 101]) sa_nil)))) (se_call b (g_read_block Z k) (sa_cons (se_var 0) sa_nil)) se_non) sa_nil)))) sa_nil)))
  ss_nil)) (ss_cons (ss_if (st_val (se_meth (j := 28) b (g_Parser_passed Z k) (se_var 0) (sa_cons (se_str [119, 111, 114, 100]) (sa_cons (se_str [108, 111, 111, 112]) sa_nil)))) (ss_cons (ss_expr (se_bm PySem.F.plainAttrs_list PySem.F.slot_list_append PySem.F.type_list_append mt_append appendF_does kind_lst (se_var 1) (sa_cons (se_tup (sa_cons (se_str [108, 111, 111, 112]) (sa_cons (se_call b (g_read_block Z k) (sa_cons (se_var 0) sa_nil)) sa_nil))) sa_nil)))
  ss_nil) (ss_cons (ss_expr (se_bm PySem.F.plainAttrs_list PySem.F.slot_list_append PySem.F.type_list_append mt_append appendF_does kind_lst (se_var 1) (sa_cons (se_call b (g_read_plain Z k) (sa_cons (se_var 0) sa_nil)) sa_nil)))
  ss_nil))
  ss_nil))
  ss_nil))
  (ss_cons (ss_fldAug b 17 subI_inop subI_doesR (se_var 0) se_int)
  (ss_cons (ss_ret (se_bltT call_tuple_of tupleF_does Z.b_tuple rfl (sa_cons (se_var 1) sa_nil)))
  ss_nil)))))))
def F_read_function : Nat → Fn
  | 0 => botF
  | k + 1 => fnS 1 4 (sSeq (sIf (tNot (tVal (eMeth 2 28 (F_Parser_passed k) (eVar 0) (aCons (eC (.str [119, 111, 114, 100])) (aCons (eC (.str [102, 110])) (aNil)))))) (sSeq (sExpr (eMeth 2 24 (F_Parser_fault k) (eVar 0) aNil))
  (sNext)) (sNext))
  (sSeq (sAsg (eMeth 2 30 (F_Parser_name k) (eVar 0) aNil) (Sm.gName 1))
  (sSeq (sAsg (eCall (F_read_row k) (aCons (eVar 0) (aCons (eC (.fn 0)) (aNil)))) (Sm.gName 2))
  (sSeq (sAsg (eIf (tVal (eMeth 2 28 (F_Parser_passed k) (eVar 0) (aCons (eC (.str [109, 97, 114, 107])) (aCons (eC (.str [45, 62])) (aNil))))) (eMeth 2 31 (F_Parser_kind k) (eVar 0) aNil) (eC .non)) (Sm.gName 3))
  (sSeq (sRet (eTup (aCons (eVar 1) (aCons (eVar 2) (aCons (eVar 3) (aCons (eCall (F_read_block k) (aCons (eVar 0) (aNil))) (aNil)))))))
  (sNext))))))
theorem sc_read_function : FnScope ["parser", "name", "parameters", "result"] ["parser"] d_read_function.scope := ⟨rfl, rfl, rfl, by decide +kernel, rfl, by decide +kernel, by decide +kernel⟩
theorem g_read_function (Z : Zf P K mg) : ∀ k, GFn T P w K mg base k "read_function" ["parser"] (F_read_function k)
  | 0 => gfn_of Z.f_read_function Z.m_read_function (fun kV doc pm an cdv ct us hu => by match us, hu with | [a0], _ => rfl) fun _ _ => FnS.zero
  | k + 1 => gfn_of Z.f_read_function Z.m_read_function (fun kV doc pm an cdv ct us hu => by match us, hu with | [a0], _ => rfl) fun _ F => fnS_of F sc_read_function (by decide) fun cdv A outer s H E hr =>
    have b := bd_of (P := P) (w := w) (mg := mg) (base := base) (f := He.fAd K d_read_function.at_) (cdv := cdv) (outer := outer) (s := s) (H := H) (E := E) Z.tab sc_read_function.nd hr
    (ss_cons (ss_if (st_not (st_val (se_meth (j := 28) b (g_Parser_passed Z k) (se_var 0) (sa_cons (se_str [119, 111, 114, 100]) (sa_cons (se_str [102, 110]) sa_nil))))) (ss_cons (ss_expr (se_meth0 (j := 24) b (g_Parser_fault Z k) (se_var 0)))
  ss_nil) ss_nil)
  (ss_cons (ss_set 1 (se_meth0 (j := 30) b (g_Parser_name Z k) (se_var 0)) b.nd)
  (ss_cons (ss_set 2 (se_call b (g_read_row Z k) (sa_cons (se_var 0) (sa_cons (se_fnv 0 Z.m_read_parameter) sa_nil))) b.nd)
  (ss_cons (ss_set 3 (se_if (st_val (se_meth (j := 28) b (g_Parser_passed Z k) (se_var 0) (sa_cons (se_str [109, 97, 114, 107]) (sa_cons (se_str [45, 62]) sa_nil)))) (se_meth0 (j := 31) b (g_Parser_kind Z k) (se_var 0)) se_non) b.nd)
  (ss_cons (ss_ret (se_tup (sa_cons (se_var 1) (sa_cons (se_var 2) (sa_cons (se_var 3) (sa_cons (se_call b (g_read_block Z k) (sa_cons (se_var 0) sa_nil)) sa_nil))))))
  ss_nil)))))
def F_parse_text : Nat → Fn
  | 0 => botF
  | 1 => botF
  | 2 => botF
  | k0 + 3 => fnS 1 3 (sSeq (sIf (tCmp gtI (eCall lenF (aCons (eVar 0) (aNil))) (eC (.int (1500)))) (sSeq (sRaise (eMkX 4 fs_BadText ms_BadText (aCons (eC (.int 0)) (aCons (eC (.str [116, 101, 120, 116, 32, 116, 111, 111, 32, 108, 111, 110, 103])) (aNil)))))
  (sNext)) (sNext))
  (sSeq (sAsg (eMake 2 (F_Parser___init__ (k0 + 1)) (aCons (eCall (F_tokens (k0 + 2)) (aCons (eVar 0) (aNil))) (aNil))) (Sm.gName 1))
  (sSeq (sAsg (eLst (aNil)) (Sm.gName 2))
  (sSeq (sWhile 3000 (tCmp ltI (eAttr T.ms 16 (eVar 1)) (eCall lenF (aCons (eAttr T.ms 15 (eVar 1)) (aNil)))) (sSeq (sExpr (eBm isLst appendF (eVar 2) (aCons (eCall (F_read_function (k0 + 2)) (aCons (eVar 1) (aNil))) (aNil))))
  (sNext)))
  (sSeq (sIf (tCmp gtI (eAttr T.ms 18 (eVar 1)) (eC (.int (60)))) (sSeq (sRaise (eMkX 4 fs_BadText ms_BadText (aCons (eC (.int 0)) (aCons (eC (.str [98, 108, 111, 99, 107, 115, 32, 116, 111, 111, 32, 100, 101, 101, 112])) (aNil)))))
  (sNext)) (sNext))
  (sSeq (sRet (eCall tupleF (aCons (eVar 2) (aNil))))
  (sNext)))))))
theorem sc_parse_text : FnScope ["text", "parser", "found"] ["text"] d_parse_text.scope := ⟨rfl, rfl, rfl, by decide +kernel, rfl, by decide +kernel, by decide +kernel⟩
theorem g_parse_text (Z : Zf P K mg) : ∀ k, GFn T P w K mg base k "parse_text" ["text"] (F_parse_text k)
  | 0 => gfn_of Z.f_parse_text Z.m_parse_text (fun kV doc pm an cdv ct us hu => by match us, hu with | [a0], _ => rfl) fun _ _ => FnS.zero
  | 1 => gfn_of Z.f_parse_text Z.m_parse_text (fun kV doc pm an cdv ct us hu => by match us, hu with | [a0], _ => rfl) fun _ _ => FnS.zero
  | 2 => gfn_of Z.f_parse_text Z.m_parse_text (fun kV doc pm an cdv ct us hu => by match us, hu with | [a0], _ => rfl) fun _ _ => FnS.zero
  | k0 + 3 => gfn_of Z.f_parse_text Z.m_parse_text (fun kV doc pm an cdv ct us hu => by match us, hu with | [a0], _ => rfl) fun _ F => fnS_of F sc_parse_text (by decide) fun cdv A outer s H E hr =>
    have b := bd_of (P := P) (w := w) (mg := mg) (base := base) (f := He.fAd K d_parse_text.at_) (cdv := cdv) (outer := outer) (s := s) (H := H) (E := E) Z.tab sc_parse_text.nd hr
    (ss_cons (ss_if (st_cmp op_gt cmpI_does (se_blt call_len lenF_does Z.b_len rfl (sa_cons (se_var 0) sa_nil)) (se_glob Z.c_TEXT_MOST) (nomark _)) (ss_cons (ss_raise b (pmk_S b (gx_BadText Z k0) (sa_cons se_int (sa_cons (se_str [116, 101, 120, 116, 32, 116, 111, 111, 32, 108, 111, 110, 103]) sa_nil))))
  ss_nil) ss_nil)
  (ss_cons (ss_set 1 (se_make b (g_Parser___init__ Z (k0 + 1)) (sa_cons (se_call b (g_tokens Z (k0 + 2)) (sa_cons (se_var 0) sa_nil)) sa_nil)) b.nd)
  (ss_cons (ss_set 2 (se_lst sa_nil) b.nd)
  (ss_cons (ss_while 3000 b.pass (st_cmp op_lt cmpI_does (se_attr b 16 (se_var 1)) (se_blt call_len lenF_does Z.b_len rfl (sa_cons (se_attr b 15 (se_var 1)) sa_nil)) (nomark _)) (ss_cons (ss_expr (se_bm PySem.F.plainAttrs_list PySem.F.slot_list_append PySem.F.type_list_append mt_append appendF_does kind_lst (se_var 2) (sa_cons (se_call b (g_read_function Z (k0 + 2)) (sa_cons (se_var 1) sa_nil)) sa_nil)))
  ss_nil))
  (ss_cons (ss_if (st_cmp op_gt cmpI_does (se_attr b 18 (se_var 1)) (se_glob Z.c_DEPTH_MOST) (nomark _)) (ss_cons (ss_raise b (pmk_S b (gx_BadText Z k0) (sa_cons se_int (sa_cons (se_str [98, 108, 111, 99, 107, 115, 32, 116, 111, 111, 32, 100, 101, 101, 112]) sa_nil))))
  ss_nil) ss_nil)
  (ss_cons (ss_ret (se_bltT call_tuple_of tupleF_does Z.b_tuple rfl (sa_cons (se_var 2) sa_nil)))
  ss_nil))))))
def F__law_told : Nat → Fn
  | 0 => botF
  | k + 1 => fnS 1 2 (sSeq (sTry sub_LoanError 1 (sSeq (sExpr (eCall (F_parse_text k) (aCons (eVar 0) (aNil))))
  (sNext))
  (fun m => sSeq (sIf (tAnd (tVal (tXis m 4 true (eVar 1))) (tVal (tXis m 4 true (eVar 1)))) (sSeq (sRet (eTup (aCons (eXf m 4 0 (eVar 1)) (aCons (eXf m 4 1 (eVar 1)) (aNil)))))
  (sNext)) (sNext))
  (sSeq (sRet (eTup (aCons (eC (.str [111, 116, 104, 101, 114])) (aNil))))
  (sNext))))
  (sSeq (sRet (eTup (aNil)))
  (sNext)))
theorem sc__law_told : FnScope ["_law_text", "e"] ["_law_text"] d__law_told.scope := ⟨rfl, rfl, rfl, by decide +kernel, rfl, by decide +kernel, by decide +kernel⟩
theorem g__law_told (Z : Zf P K mg) : ∀ k, GFn T P w K mg base k "_law_told" ["_law_text"] (F__law_told k)
  | 0 => gfn_of Z.f__law_told Z.m__law_told (fun kV doc pm an cdv ct us hu => by match us, hu with | [a0], _ => rfl) fun _ _ => FnS.zero
  | k + 1 => gfn_of Z.f__law_told Z.m__law_told (fun kV doc pm an cdv ct us hu => by match us, hu with | [a0], _ => rfl) fun _ F => fnS_of F sc__law_told (by decide) fun cdv A outer s H E hr =>
    have b := bd_of (P := P) (w := w) (mg := mg) (base := base) (f := He.fAd K d__law_told.at_) (cdv := cdv) (outer := outer) (s := s) (H := H) (E := E) Z.tab sc__law_told.nd hr
    (ss_cons (ss_try (sub := sub_LoanError) b 1 rfl rfl rfl rfl ⟨rfl, by decide, Or.inl Z.ge_LoanError⟩ Z.sb_LoanError (fun W' pn xe b' => (ss_cons (ss_expr (se_call b' (g_parse_text Z k) (sa_cons (se_var 0) sa_nil)))
  ss_nil))
  fun m a oe cls d pn hz hd => (ss_cons (ss_if (PW.pt (sw_and (st_val (se_xis 4 true Z.xc_BadText hz hd Z.b_isinstance (se_var 1) (pe_glob (v := .ref (T.clsA K 4)) rfl Z.ge_BadText rfl) (fun _ h => h) Z.ck_BadText_BadText)) (sw_and1 (st_val (se_xis 4 true Z.xc_BadText hz hd Z.b_isinstance (se_var 1) (pe_bltn (v := .ty "ValueError") rfl Z.b_ValueError PyProof.Rows.Boot.«ValueError» rfl) (fun _ h => h) Z.ck_BadText_ValueError))))) (ss_cons (ss_ret (se_tup (sa_cons (se_xf 4 0 Z.xf_BadText hz hd (se_var 1) Z.nx_BadText_token) (sa_cons (se_xf 4 1 Z.xf_BadText hz hd (se_var 1) Z.nx_BadText_reason) sa_nil))))
  ss_nil) ss_nil)
  (ss_cons (ss_ret (se_tup (sa_cons (se_str [111, 116, 104, 101, 114]) sa_nil)))
  ss_nil)))
  (ss_cons (ss_ret (se_tup sa_nil))
  ss_nil))
def F_check_heads : Nat → Fn
  | 0 => botF
  | 1 => botF
  | 2 => botF
  | k0 + 3 => fnS 1 4 (sSeq (sAsg (eLst (aNil)) (Sm.gName 1))
  (sSeq (sFor (wEnum (eVar 0)) (Sm.gUnp [Sm.gName 2, Sm.gName 3]) (sSeq (sIf (tCmp geI (eVar 2) (eC (.int (5)))) (sSeq (fun _ _ => .bad)
  (sNext)) (sNext))
  (sSeq (sIf (tCmp inS (eBin itemS (eVar 3) (eC (.int 0))) (eVar 1)) (sSeq (fun _ _ => .bad)
  (sNext)) (sNext))
  (sSeq (sExpr (eBm isLst appendF (eVar 1) (aCons (eBin itemS (eVar 3) (eC (.int 0))) (aNil))))
  (sNext)))))
  (sNext)))
theorem sc_check_heads : FnScope ["program", "names", "number", "function"] ["program"] d_check_heads.scope := ⟨rfl, rfl, rfl, by decide +kernel, rfl, by decide +kernel, by decide +kernel⟩
theorem g_check_heads (Z : Zf P K mg) : ∀ k, GFn T P w K mg base k "check_heads" ["program"] (F_check_heads k)
  | 0 => gfn_of Z.f_check_heads Z.m_check_heads (fun kV doc pm an cdv ct us hu => by match us, hu with | [a0], _ => rfl) fun _ _ => FnS.zero
  | 1 => gfn_of Z.f_check_heads Z.m_check_heads (fun kV doc pm an cdv ct us hu => by match us, hu with | [a0], _ => rfl) fun _ _ => FnS.zero
  | 2 => gfn_of Z.f_check_heads Z.m_check_heads (fun kV doc pm an cdv ct us hu => by match us, hu with | [a0], _ => rfl) fun _ _ => FnS.zero
  | k0 + 3 => gfn_of Z.f_check_heads Z.m_check_heads (fun kV doc pm an cdv ct us hu => by match us, hu with | [a0], _ => rfl) fun _ F => fnS_of F sc_check_heads (by decide) fun cdv A outer s H E hr =>
    have b := bd_of (P := P) (w := w) (mg := mg) (base := base) (f := He.fAd K d_check_heads.at_) (cdv := cdv) (outer := outer) (s := s) (H := H) (E := E) Z.tab sc_check_heads.nd hr
    (ss_cons (ss_set 1 (se_lst sa_nil) b.nd)
  (ss_cons (ss_for b.pass b.calm (si_enum Z.b_enumerate (se_var 0)) (sg_unp b.calm (sgs_cons (sg_name 2 b.nd) (sgs_cons (sg_name 3 b.nd) sgs_nil))) (ss_cons (ss_if (st_cmp op_ge cmpI_does (se_var 2) (se_glob Z.c_FUNCTIONS_MOST) (nomark _)) (ss_cons ss_bad
  ss_nil) ss_nil)
  (ss_cons (ss_if (st_cmp (op_inA b.u66) inS_does (se_item (se_var 3) se_int) (se_var 1) rfl) (ss_cons ss_bad
  ss_nil) ss_nil)
  (ss_cons (ss_expr (se_bm PySem.F.plainAttrs_list PySem.F.slot_list_append PySem.F.type_list_append mt_append appendF_does kind_lst (se_var 1) (sa_cons (se_item (se_var 3) se_int) sa_nil)))
  ss_nil))))
  ss_nil))
def F_rule_fault : Nat → Fn
  | 0 => botF
  | k + 1 => fnS 1 3 (sSeq (sTry sub_Fault 2 (sSeq (sExpr (eCall (F_check_heads k) (aCons (eVar 0) (aNil))))
  (sSeq (sFor (wRange1 (aCons (eCall lenF (aCons (eVar 0) (aNil))) (aNil))) (Sm.gName 1) (sSeq (sExpr (fun _ _ => .bad))
  (sNext)))
  (sNext)))
  (fun m => fun _ _ => .bad))
  (sSeq (sRet (eC .non))
  (sNext)))
theorem sc_rule_fault : FnScope ["program", "number", "e"] ["program"] d_rule_fault.scope := ⟨rfl, rfl, rfl, by decide +kernel, rfl, by decide +kernel, by decide +kernel⟩
theorem g_rule_fault (Z : Zf P K mg) : ∀ k, GFn T P w K mg base k "rule_fault" ["program"] (F_rule_fault k)
  | 0 => gfn_of Z.f_rule_fault Z.m_rule_fault (fun kV doc pm an cdv ct us hu => by match us, hu with | [a0], _ => rfl) fun _ _ => FnS.zero
  | k + 1 => gfn_of Z.f_rule_fault Z.m_rule_fault (fun kV doc pm an cdv ct us hu => by match us, hu with | [a0], _ => rfl) fun _ F => fnS_of F sc_rule_fault (by decide) fun cdv A outer s H E hr =>
    have b := bd_of (P := P) (w := w) (mg := mg) (base := base) (f := He.fAd K d_rule_fault.at_) (cdv := cdv) (outer := outer) (s := s) (H := H) (E := E) Z.tab sc_rule_fault.nd hr
    (ss_cons (ss_try (sub := sub_Fault) b 2 rfl rfl rfl rfl ⟨rfl, by decide, Or.inl Z.ge_Fault⟩ Z.sb_Fault (fun W' pn xe b' => (ss_cons (ss_expr (se_call b' (g_check_heads Z k) (sa_cons (se_var 0) sa_nil)))
  (ss_cons (ss_for b'.pass b'.calm (si_range1 Z.b_range (sa_cons (se_blt call_len lenF_does Z.b_len rfl (sa_cons (se_var 0) sa_nil)) sa_nil)) (sg_name 1 b'.nd) (ss_cons (ss_expr se_bad)
  ss_nil))
  ss_nil)))
  fun m a oe cls d pn hz hd => sss_bad)
  (ss_cons (ss_ret se_non)
  ss_nil))
def F_parse_program : Nat → Fn
  | 0 => botF
  | 1 => botF
  | 2 => botF
  | k0 + 3 => fnS 1 3 (sSeq (sAsg (eCall (F_parse_text (k0 + 2)) (aCons (eVar 0) (aNil))) (Sm.gName 1))
  (sSeq (sAsg (eCall (F_rule_fault (k0 + 2)) (aCons (eVar 1) (aNil))) (Sm.gName 2))
  (sSeq (sIf (tCmp isNotN (eVar 2) (eC .non)) (sSeq (fun _ _ => .bad)
  (sNext)) (sNext))
  (sSeq (sRet (eVar 1))
  (sNext)))))
theorem sc_parse_program : FnScope ["text", "program", "fault"] ["text"] d_parse_program.scope := ⟨rfl, rfl, rfl, by decide +kernel, rfl, by decide +kernel, by decide +kernel⟩
theorem g_parse_program (Z : Zf P K mg) : ∀ k, GFn T P w K mg base k "parse_program" ["text"] (F_parse_program k)
  | 0 => gfn_of Z.f_parse_program Z.m_parse_program (fun kV doc pm an cdv ct us hu => by match us, hu with | [a0], _ => rfl) fun _ _ => FnS.zero
  | 1 => gfn_of Z.f_parse_program Z.m_parse_program (fun kV doc pm an cdv ct us hu => by match us, hu with | [a0], _ => rfl) fun _ _ => FnS.zero
  | 2 => gfn_of Z.f_parse_program Z.m_parse_program (fun kV doc pm an cdv ct us hu => by match us, hu with | [a0], _ => rfl) fun _ _ => FnS.zero
  | k0 + 3 => gfn_of Z.f_parse_program Z.m_parse_program (fun kV doc pm an cdv ct us hu => by match us, hu with | [a0], _ => rfl) fun _ F => fnS_of F sc_parse_program (by decide) fun cdv A outer s H E hr =>
    have b := bd_of (P := P) (w := w) (mg := mg) (base := base) (f := He.fAd K d_parse_program.at_) (cdv := cdv) (outer := outer) (s := s) (H := H) (E := E) Z.tab sc_parse_program.nd hr
    (ss_cons (ss_set 1 (se_call b (g_parse_text Z (k0 + 2)) (sa_cons (se_var 0) sa_nil)) b.nd)
  (ss_cons (ss_set 2 (se_call b (g_rule_fault Z (k0 + 2)) (sa_cons (se_var 1) sa_nil)) b.nd)
  (ss_cons (ss_if (st_cmp op_notN isNotN_does (se_var 2) se_non (nomark _)) (ss_cons ss_bad
  ss_nil) ss_nil)
  (ss_cons (ss_ret (se_var 1))
  ss_nil))))
def F_law : Nat → Fn
  | 0 => botF
  | k + 1 => fnS 1 12 (sSeq (sAsg (eLst (aCons (eCall (F__law_digits k) (aCons (eVar 0) (aCons (eC (.int 0)) (aCons (eC (.int 20)) (aNil))))) (aCons (eC (.int 0)) (aNil)))) (Sm.gName 1))
  (sSeq (sAsg (eLst (aCons (eLst (aCons (eC (.str [])) (aCons (eC (.int 0)) (aNil)))) (aCons (eLst (aCons (eC (.str [102, 110, 32, 97, 40, 41, 32, 123, 32, 125, 10])) (aCons (eC (.int 6)) (aNil)))) (aCons (eLst (aCons (eC (.str [102, 110, 32, 98, 40, 112, 58, 32, 111, 119, 110, 44, 32, 113, 58, 32, 109, 117, 116, 41, 32, 45, 62, 32, 111, 119, 110, 32, 123, 32, 114, 101, 116, 117, 114, 110, 32, 112, 59, 32, 125, 32, 102, 110, 32, 99, 40, 41, 32, 123, 32, 105, 102, 32, 123, 32, 125, 32, 101, 108, 115, 101, 32, 123, 32, 108, 111, 111, 112, 32, 123, 32, 98, 114, 101, 97, 107, 59, 32, 125, 32, 125, 32, 125])) (aCons (eC (.int 35)) (aNil)))) (aNil))))) (Sm.gName 2))
  (sSeq (sFor (wRange1 (aCons (eC (.int 6)) (aNil))) (Sm.gName 3) (sSeq (sAsg (eBin itemS (eVar 2) (eCall (F__law_draw k) (aCons (eVar 1) (aCons (eC (.int 3)) (aNil))))) (Sm.gUnp [Sm.gName 4, Sm.gName 5]))
  (sSeq (sAsg (eCall (impF (F__law_rows k)) aNil) (Sm.gName 6))
  (sSeq (sAsg (eBin itemS (eVar 6) (eBin modI (eCall intF (aCons (eCall (F__law_draw k) (aCons (eVar 1) (aCons (eC (.int 900)) (aNil)))) (aNil))) (eCall lenF (aCons (eVar 6) (aNil))))) (Sm.gUnp [Sm.gName 7, Sm.gName 8, Sm.gName 9]))
  (sSeq (sAsg (eTup (aCons (eBin addS (eVar 5) (eVar 8)) (aCons (eBin itemS (eLst (aCons (eC (.str [117, 110, 101, 120, 112, 101, 99, 116, 101, 100, 32, 116, 111, 107, 101, 110])) (aCons (eC (.str [117, 110, 101, 120, 112, 101, 99, 116, 101, 100, 32, 101, 110, 100])) (aNil)))) (eCall intF (aCons (eVar 9) (aNil)))) (aNil)))) (Sm.gName 10))
  (sSeq (sIf (tOr (tCmp neS (eCall (isoF (F__law_told k)) (aCons (eBin addS (eVar 4) (eVar 7)) (aNil))) (eVar 10)) (tCmp neS (eCall (isoF (F__law_told k)) (aCons (eVar 4) (aNil))) (eTup (aNil)))) (sSeq (sRet (eC (.bl false)))
  (sNext)) (sNext))
  (sNext)))))))
  (sSeq (sAsg (eBin addS (eC (.int 60)) (eCall (F__law_draw k) (aCons (eVar 1) (aCons (eC (.int 3)) (aNil))))) (Sm.gName 11))
  (sSeq (sAsg (eBin addS (eBin addS (eC (.str [102, 110, 32, 102, 40, 41, 32, 123])) (eBin mulS (eC (.str [105, 102, 32, 123])) (eBin subI (eVar 11) (eC (.int 1))))) (eBin mulS (eC (.str [125])) (eVar 11))) (Sm.gName 7))
  (sSeq (sAsg (eTup (aNil)) (Sm.gName 10))
  (sSeq (sIf (tCmp gtI (eVar 11) (eC (.int 60))) (sSeq (sAsg (eTup (aCons (eC (.int 0)) (aCons (eC (.str [98, 108, 111, 99, 107, 115, 32, 116, 111, 111, 32, 100, 101, 101, 112])) (aNil)))) (Sm.gName 10))
  (sNext)) (sNext))
  (sSeq (sIf (tOr (tCmp neS (eCall (isoF (F__law_told k)) (aCons (eVar 7) (aNil))) (eVar 10)) (tOr (tCmp neS (eCall (isoF (F__law_told k)) (aCons (eBin mulS (eC (.str [32])) (eC (.int 1501))) (aNil))) (eTup (aCons (eC (.int 0)) (aCons (eC (.str [116, 101, 120, 116, 32, 116, 111, 111, 32, 108, 111, 110, 103])) (aNil))))) (tCmp neS (eCall (isoF (F_parse_program k)) (aCons (eBin mulS (eC (.str [32])) (eC (.int 1500))) (aNil))) (eTup (aNil))))) (sSeq (sRet (eC (.bl false)))
  (sNext)) (sNext))
  (sSeq (sIf (tOr (tCmp neS (eCall (isoF (F__law_told k)) (aCons (eBin addS (eC (.str [102, 110, 32, 70, 40, 41, 32, 123, 32, 125])) (eBin mulS (eC (.str [32])) (eC (.int 1500)))) (aNil))) (eTup (aCons (eC (.int 0)) (aCons (eC (.str [116, 101, 120, 116, 32, 116, 111, 111, 32, 108, 111, 110, 103])) (aNil))))) (tCmp neS (eCall (isoF (F__law_told k)) (aCons (eBin addS (eBin addS (eC (.str [102, 110, 32, 102, 40, 41, 32, 123])) (eBin mulS (eC (.str [105, 102, 32, 123])) (eC (.int 70)))) (eC (.str [59]))) (aNil))) (eTup (aCons (eBin addS (eC (.int 6)) (eBin mulS (eC (.int 2)) (eC (.int 70)))) (aCons (eC (.str [117, 110, 101, 120, 112, 101, 99, 116, 101, 100, 32, 116, 111, 107, 101, 110])) (aNil)))))) (sSeq (sRet (eC (.bl false)))
  (sNext)) (sNext))
  (sSeq (sAsg (eBin addS (eC (.int 1)) (eCall (F__law_draw k) (aCons (eVar 1) (aCons (eC (.int 497)) (aNil))))) (Sm.gName 5))
  (sSeq (sRet (eBin eqS (eCall (isoF (F__law_told k)) (aCons (eBin addS (eC (.str [102, 110, 32, 102, 40, 41, 123])) (eBin mulS (eC (.str [105, 102, 123])) (eVar 5))) (aNil))) (eTup (aCons (eBin addS (eC (.int 6)) (eBin mulS (eC (.int 2)) (eVar 5))) (aCons (eC (.str [117, 110, 101, 120, 112, 101, 99, 116, 101, 100, 32, 101, 110, 100])) (aNil))))))
  (sNext))))))))))))
theorem sc_law : FnScope ["_law_script", "_law_box", "_law_heads", "_law_turn", "_law_head", "_law_many", "_law_rows_here", "_law_text", "_law_token", "_law_ends", "_law_due", "_law_deep"] ["_law_script"] d_law.scope := ⟨rfl, rfl, rfl, by decide +kernel, rfl, by decide +kernel, by decide +kernel⟩
theorem s_law (Z : Zf P K mg) : ∀ k fd, FunD K d_law.name d_law.qual d_law.params d_law.body d_law.scope [] [] (He.fAd K d_law.at_) fd → FnS T P w K mg base k (He.fAd K d_law.at_) fd ["_law_script"] (F_law k)
  | 0, _, _ => FnS.zero
  | k + 1, _, F => fnS_of F sc_law (by decide) fun cdv A outer s H E hr =>
    have b := bd_of (P := P) (w := w) (mg := mg) (base := base) (f := He.fAd K d_law.at_) (cdv := cdv) (outer := outer) (s := s) (H := H) (E := E) Z.tab sc_law.nd hr
    (ss_cons (ss_set 1 (se_lst (sa_cons (se_call b (g__law_digits Z k) (sa_cons (se_var 0) (sa_cons se_int (sa_cons se_int sa_nil)))) (sa_cons se_int sa_nil))) b.nd)
  (ss_cons (ss_set 2 (se_lst (sa_cons (se_lst (sa_cons (se_str []) (sa_cons se_int sa_nil))) (sa_cons (se_lst (sa_cons (se_str [102, 110, 32, 97, 40, 41, 32, 123, 32, 125, 10]) (sa_cons se_int sa_nil))) (sa_cons (se_lst (sa_cons (se_str [102, 110, 32, 98, 40, 112, 58, 32, 111, 119, 110, 44, 32, 113, 58, 32, 109, 117, 116, 41, 32, 45, 62, 32, 111, 119, 110, 32, 123, 32, 114, 101, 116, 117, 114, 110, 32, 112, 59, 32, 125, 32, 102, 110, 32, 99, 40, 41, 32, 123, 32, 105, 102, 32, 123, 32, 125, 32, 101, 108, 115, 101, 32, 123, 32, 108, 111, 111, 112, 32, 123, 32, 98, 114, 101, 97, 107, 59, 32, 125, 32, 125, 32, 125]) (sa_cons se_int sa_nil))) sa_nil)))) b.nd)
  (ss_cons (ss_for b.pass b.calm (si_range1 Z.b_range (sa_cons se_int sa_nil)) (sg_name 3 b.nd) (ss_cons (ss_asg (se_item (se_var 2) (se_call b (g__law_draw Z k) (sa_cons (se_var 1) (sa_cons se_int sa_nil)))) (sg_unp b.calm (sgs_cons (sg_name 4 b.nd) (sgs_cons (sg_name 5 b.nd) sgs_nil))) (gUnp_nx (by intro g hg; simp only [List.mem_cons, List.not_mem_nil, or_false] at hg; rcases hg with hg | hg <;> subst hg <;> intro s ρ st <;> trivial)))
  (ss_cons (ss_set 6 (se_call0 b ((g__law_rows Z k).imp)) b.nd)
  (ss_cons (ss_asg (se_item (se_var 6) (se_op op_mod modI_does (se_bltT call_int1 intF_does Z.b_int rfl (sa_cons (se_call b (g__law_draw Z k) (sa_cons (se_var 1) (sa_cons se_int sa_nil))) sa_nil)) (se_blt call_len lenF_does Z.b_len rfl (sa_cons (se_var 6) sa_nil)))) (sg_unp b.calm (sgs_cons (sg_name 7 b.nd) (sgs_cons (sg_name 8 b.nd) (sgs_cons (sg_name 9 b.nd) sgs_nil)))) (gUnp_nx (by intro g hg; simp only [List.mem_cons, List.not_mem_nil, or_false] at hg; rcases hg with hg | hg | hg <;> subst hg <;> intro s ρ st <;> trivial)))
  (ss_cons (ss_set 10 (se_tup (sa_cons (se_op op_addA addS_does (se_var 5) (se_var 8)) (sa_cons (se_item (se_lst (sa_cons (se_str [117, 110, 101, 120, 112, 101, 99, 116, 101, 100, 32, 116, 111, 107, 101, 110]) (sa_cons (se_str [117, 110, 101, 120, 112, 101, 99, 116, 101, 100, 32, 101, 110, 100]) sa_nil))) (se_bltT call_int1 intF_does Z.b_int rfl (sa_cons (se_var 9) sa_nil))) sa_nil))) b.nd)
  (ss_cons (ss_if (PW.pt (sw_or (st_cmp (op_neA b.u64) neS_does (se_call b ((g__law_told Z k).iso) (sa_cons (se_op op_addA addS_does (se_var 4) (se_var 7)) sa_nil)) (se_var 10) (nomark _)) (sw_or1 (st_cmp (op_neA b.u64) neS_does (se_call b ((g__law_told Z k).iso) (sa_cons (se_var 4) sa_nil)) (se_tup sa_nil) (nomark _))))) (ss_cons (ss_ret se_bl)
  ss_nil) ss_nil)
  ss_nil))))))
  (ss_cons (ss_set 11 (se_op op_addA addS_does se_int (se_call b (g__law_draw Z k) (sa_cons (se_var 1) (sa_cons se_int sa_nil)))) b.nd)
  (ss_cons (ss_set 7 (se_op op_addA addS_does (se_op op_addA addS_does (se_str [102, 110, 32, 102, 40, 41, 32, 123]) (se_op op_mulA mulS_does (se_str [105, 102, 32, 123]) (se_op op_sub subI_does (se_var 11) se_int))) (se_op op_mulA mulS_does (se_str [125]) (se_var 11))) b.nd)
  (ss_cons (ss_set 10 (se_tup sa_nil) b.nd)
  (ss_cons (ss_if (st_cmp op_gt cmpI_does (se_var 11) se_int (nomark _)) (ss_cons (ss_set 10 (se_tup (sa_cons se_int (sa_cons (se_str [98, 108, 111, 99, 107, 115, 32, 116, 111, 111, 32, 100, 101, 101, 112]) sa_nil))) b.nd)
  ss_nil) ss_nil)
  (ss_cons (ss_if (PW.pt (sw_or (st_cmp (op_neA b.u64) neS_does (se_call b ((g__law_told Z k).iso) (sa_cons (se_var 7) sa_nil)) (se_var 10) (nomark _)) (sw_or (st_cmp (op_neA b.u64) neS_does (se_call b ((g__law_told Z k).iso) (sa_cons (se_op op_mulA mulS_does (se_str [32]) se_int) sa_nil)) (se_tup (sa_cons se_int (sa_cons (se_str [116, 101, 120, 116, 32, 116, 111, 111, 32, 108, 111, 110, 103]) sa_nil))) (nomark _)) (sw_or1 (st_cmp (op_neA b.u64) neS_does (se_call b ((g_parse_program Z k).iso) (sa_cons (se_op op_mulA mulS_does (se_str [32]) se_int) sa_nil)) (se_tup sa_nil) (nomark _)))))) (ss_cons (ss_ret se_bl)
  ss_nil) ss_nil)
  (ss_cons (ss_if (PW.pt (sw_or (st_cmp (op_neA b.u64) neS_does (se_call b ((g__law_told Z k).iso) (sa_cons (se_op op_addA addS_does (se_str [102, 110, 32, 70, 40, 41, 32, 123, 32, 125]) (se_op op_mulA mulS_does (se_str [32]) se_int)) sa_nil)) (se_tup (sa_cons se_int (sa_cons (se_str [116, 101, 120, 116, 32, 116, 111, 111, 32, 108, 111, 110, 103]) sa_nil))) (nomark _)) (sw_or1 (st_cmp (op_neA b.u64) neS_does (se_call b ((g__law_told Z k).iso) (sa_cons (se_op op_addA addS_does (se_op op_addA addS_does (se_str [102, 110, 32, 102, 40, 41, 32, 123]) (se_op op_mulA mulS_does (se_str [105, 102, 32, 123]) se_int)) (se_str [59])) sa_nil)) (se_tup (sa_cons (se_op op_addA addS_does se_int (se_op op_mulA mulS_does se_int se_int)) (sa_cons (se_str [117, 110, 101, 120, 112, 101, 99, 116, 101, 100, 32, 116, 111, 107, 101, 110]) sa_nil))) (nomark _))))) (ss_cons (ss_ret se_bl)
  ss_nil) ss_nil)
  (ss_cons (ss_set 5 (se_op op_addA addS_does se_int (se_call b (g__law_draw Z k) (sa_cons (se_var 1) (sa_cons se_int sa_nil)))) b.nd)
  (ss_cons (ss_ret (se_cmp (op_eqA b.u64) eqS_does (se_call b ((g__law_told Z k).iso) (sa_cons (se_op op_addA addS_does (se_str [102, 110, 32, 102, 40, 41, 123]) (se_op op_mulA mulS_does (se_str [105, 102, 123]) (se_var 5))) sa_nil)) (se_tup (sa_cons (se_op op_addA addS_does se_int (se_op op_mulA mulS_does se_int (se_var 5))) (sa_cons (se_str [117, 110, 101, 120, 112, 101, 99, 116, 101, 100, 32, 101, 110, 100]) sa_nil))) (nomark _)))
  ss_nil)))))))))))
end Wk

namespace Hd
open PySem PySem.Spec PyProof.Rows L2 Sm Wk
abbrev R : PySem.W.OpenRow := PySem.W.OpenLaw.row PySem.Challenge.rw_loancheck_k01_faults_of_texts
def fa0 : List He.Fa := [.glo "_law_cell", .glo "_law_digits", .glo "_law_draw", .glo "_law_rows", .glo "_law_told", .glo "check_heads", .glo "law", .glo "parse_program", .glo "parse_text", .glo "read_argument", .glo "read_block", .glo "read_call_behind", .glo "read_expression", .glo "read_function", .glo "read_let", .glo "read_named", .glo "read_parameter", .glo "read_plain", .glo "read_row", .glo "rule_fault", .glo "run_behind", .glo "run_token", .glo "tokens", .free "ValueError", .free "enumerate", .free "int", .free "isinstance", .free "len", .free "max", .free "range"]
def fa1 : List He.Fa := [.free "super", .free "tuple", .meth "Parser" "fault", .meth "Parser" "token", .meth "Parser" "name", .meth "Parser" "passed", .meth "Parser" "mark", .meth "Parser" "kind", .mkr "Parser", .glo "Parser", .glo "BadText", .glo "Fault", .glo "LoanError", .noat "BadText" "token", .noat "BadText" "reason", .exm "BadText" "Fault" false, .exm "BadText" "LoanError" true]
def fa : List He.Fa := fa0 ++ fa1
def cs0 : List (PySem.Str × S) := [("DEPTH_MOST", .int (60)), ("FUNCTIONS_MOST", .int (5)), ("KINDS", .tup [.str [111, 119, 110], .str [114, 101, 102], .str [109, 117, 116]]), ("LETTERS", .str [97, 98, 99, 100, 101, 102, 103, 104, 105, 106, 107, 108, 109, 110, 111, 112, 113, 114, 115, 116, 117, 118, 119, 120, 121, 122]), ("MARKS", .str [123, 125, 40, 41, 44, 59, 58, 61]), ("NAME_MOST", .int (8)), ("TEXT_MOST", .int (1500)), ("WORDS", .tup [.str [102, 110], .str [111, 119, 110], .str [114, 101, 102], .str [109, 117, 116], .str [108, 101, 116], .str [110, 101, 119], .str [114, 101, 97, 100], .str [119, 114, 105, 116, 101], .str [100, 114, 111, 112], .str [105, 102], .str [101, 108, 115, 101], .str [108, 111, 111, 112], .str [98, 114, 101, 97, 107], .str [99, 111, 110, 116, 105, 110, 117, 101], .str [114, 101, 116, 117, 114, 110]])]
def cs : List (PySem.Str × S) := cs0
def fn0 : List He.DefD := [d__law_cell, d__law_digits, d__law_rows, d__law_draw, d_Parser___init__, d_run_behind, d_run_token, d_tokens, d_Parser_fault, d_Parser_token, d_Parser_name, d_Parser_passed, d_Parser_mark, d_Parser_kind, d_read_parameter, d_read_argument, d_read_row, d_read_call_behind, d_read_expression, d_read_named, d_read_let, d_read_plain, d_read_block, d_read_function, d_parse_text, d__law_told, d_check_heads, d_rule_fault, d_parse_program, d_law]
def fn : List He.DefD := fn0
def xds0 : List XDef := [xd_BadText]
def xds : List XDef := xds0
def xfs0 : List PySem.Str := ["BadText"]
def xfs : List PySem.Str := xfs0
def xcs0 : List PySem.Str := ["BadText"]
def xcs : List PySem.Str := xcs0
def cks0 : List (PySem.Str × (PySem.W.Frag → Value)) := [("BadText", fun K => .ref (He.ga K "BadText")), ("BadText", fun _ => .type "ValueError")]
def cks : List (PySem.Str × (PySem.W.Frag → Value)) := cks0
def lk : Look0 := ⟨R.prog, T, fa, cs, fn, xds, xfs, xcs, cks⟩
def nms0 : List PySem.Str := [("__name__" : PySem.Str), ("LoanError" : PySem.Str), ("BadText" : PySem.Str), ("BadRule" : PySem.Str), ("TEMPORARY" : PySem.Str), ("RESULT" : PySem.Str), ("Builder" : PySem.Str), ("hand_over" : PySem.Str), ("argument_node" : PySem.Str), ("call_nodes" : PySem.Str), ("expression_nodes" : PySem.Str), ("call_statement" : PySem.Str), ("jump" : PySem.Str), ("return_nodes" : PySem.Str), ("exit_node" : PySem.Str), ("inner_block" : PySem.Str), ("if_nodes" : PySem.Str), ("loop_nodes" : PySem.Str), ("plain_nodes" : PySem.Str), ("statement_nodes" : PySem.Str)]
def nms1 : List PySem.Str := [("build" : PySem.Str), ("many_nodes" : PySem.Str), ("FUNCTIONS_MOST" : PySem.Str), ("PARAMETERS_MOST" : PySem.Str), ("VARIABLES_MOST" : PySem.Str), ("NODES_MOST" : PySem.Str), ("Fault" : PySem.Str), ("Checking" : PySem.Str), ("argument_kind" : PySem.Str), ("check_call" : PySem.Str), ("expression_kind" : PySem.Str), ("check_let" : PySem.Str), ("check_set" : PySem.Str), ("check_use" : PySem.Str), ("check_return" : PySem.Str), ("check_plain" : PySem.Str), ("check_block" : PySem.Str), ("check_statements" : PySem.Str), ("check_parameters" : PySem.Str), ("check_end" : PySem.Str)]
def nms2 : List PySem.Str := [("check_heads" : PySem.Str), ("checked" : PySem.Str), ("rule_fault" : PySem.Str), ("LETTERS" : PySem.Str), ("MARKS" : PySem.Str), ("WORDS" : PySem.Str), ("NAME_MOST" : PySem.Str), ("run_token" : PySem.Str), ("run_behind" : PySem.Str), ("tokens" : PySem.Str), ("TEXT_MOST" : PySem.Str), ("DEPTH_MOST" : PySem.Str), ("KINDS" : PySem.Str), ("Parser" : PySem.Str), ("read_parameter" : PySem.Str), ("read_argument" : PySem.Str), ("read_row" : PySem.Str), ("read_call_behind" : PySem.Str), ("read_expression" : PySem.Str), ("read_named" : PySem.Str)]
def nms3 : List PySem.Str := [("read_let" : PySem.Str), ("read_plain" : PySem.Str), ("read_block" : PySem.Str), ("read_function" : PySem.Str), ("parse_text" : PySem.Str), ("parse_program" : PySem.Str), ("_law_is_integer" : PySem.Str), ("_law_cell" : PySem.Str), ("_law_list_is" : PySem.Str), ("_law_same" : PySem.Str), ("_law_digits" : PySem.Str), ("_law_draw" : PySem.Str), ("_law_rows" : PySem.Str), ("_law_told" : PySem.Str)]
def nms : List PySem.Str := nms0 ++ nms1 ++ nms2 ++ nms3
def ob (s : PySem.W.SharedT) : AlM := lk.ob (HandSHeadRun.getT s)
theorem ob_eq (s : PySem.W.SharedT) : ob s = lk.hook.obs s.abs := lk.ob_eq (HandSHeadRun.getT_eq s)
theorem zf {K : PySem.W.Frag} {h : Heap} {mg : PySem.Str → Option Value} (c : lk.Says K) (X : K.In h) (G : h.Ns mainGlobals mg) : Zf R.prog K mg where
  tab := tabB_ok (by decide) c.parts.2.1
  f__law_cell := c.def_ 0
  f__law_digits := c.def_ 1
  f__law_rows := c.def_ 2
  f__law_draw := c.def_ 3
  f_Parser___init__ := c.def_ 4
  f_run_behind := c.def_ 5
  f_run_token := c.def_ 6
  f_tokens := c.def_ 7
  f_Parser_fault := c.def_ 8
  f_Parser_token := c.def_ 9
  f_Parser_name := c.def_ 10
  f_Parser_passed := c.def_ 11
  f_Parser_mark := c.def_ 12
  f_Parser_kind := c.def_ 13
  f_read_parameter := c.def_ 14
  f_read_argument := c.def_ 15
  f_read_row := c.def_ 16
  f_read_call_behind := c.def_ 17
  f_read_expression := c.def_ 18
  f_read_named := c.def_ 19
  f_read_let := c.def_ 20
  f_read_plain := c.def_ 21
  f_read_block := c.def_ 22
  f_read_function := c.def_ 23
  f_parse_text := c.def_ 24
  f__law_told := c.def_ 25
  f_check_heads := c.def_ 26
  f_rule_fault := c.def_ 27
  f_parse_program := c.def_ 28
  f_law := c.def_ 29
  m__law_cell := He.glo_ok X G (c.fact 0)
  m__law_digits := He.glo_ok X G (c.fact 1)
  m__law_draw := He.glo_ok X G (c.fact 2)
  m__law_rows := He.glo_ok X G (c.fact 3)
  m__law_told := He.glo_ok X G (c.fact 4)
  m_check_heads := He.glo_ok X G (c.fact 5)
  m_law := He.glo_ok X G (c.fact 6)
  m_parse_program := He.glo_ok X G (c.fact 7)
  m_parse_text := He.glo_ok X G (c.fact 8)
  m_read_argument := He.glo_ok X G (c.fact 9)
  m_read_block := He.glo_ok X G (c.fact 10)
  m_read_call_behind := He.glo_ok X G (c.fact 11)
  m_read_expression := He.glo_ok X G (c.fact 12)
  m_read_function := He.glo_ok X G (c.fact 13)
  m_read_let := He.glo_ok X G (c.fact 14)
  m_read_named := He.glo_ok X G (c.fact 15)
  m_read_parameter := He.glo_ok X G (c.fact 16)
  m_read_plain := He.glo_ok X G (c.fact 17)
  m_read_row := He.glo_ok X G (c.fact 18)
  m_rule_fault := He.glo_ok X G (c.fact 19)
  m_run_behind := He.glo_ok X G (c.fact 20)
  m_run_token := He.glo_ok X G (c.fact 21)
  m_tokens := He.glo_ok X G (c.fact 22)
  c_DEPTH_MOST := c.con X G 0
  c_FUNCTIONS_MOST := c.con X G 1
  c_KINDS := c.con X G 2
  c_LETTERS := c.con X G 3
  c_MARKS := c.con X G 4
  c_NAME_MOST := c.con X G 5
  c_TEXT_MOST := c.con X G 6
  c_WORDS := c.con X G 7
  b_ValueError := He.free_ok X G (c.fact 23)
  b_enumerate := He.free_ok X G (c.fact 24)
  b_int := He.free_ok X G (c.fact 25)
  b_isinstance := He.free_ok X G (c.fact 26)
  b_len := He.free_ok X G (c.fact 27)
  b_max := He.free_ok X G (c.fact 28)
  b_range := He.free_ok X G (c.fact 29)
  b_super := He.free_ok X G (c.fact 30)
  b_tuple := He.free_ok X G (c.fact 31)
  me_Parser_fault := meth_of (c.fact 32)
  me_Parser_token := meth_of (c.fact 33)
  me_Parser_name := meth_of (c.fact 34)
  me_Parser_passed := meth_of (c.fact 35)
  me_Parser_mark := meth_of (c.fact 36)
  me_Parser_kind := meth_of (c.fact 37)
  mk_Parser := mk_of (c.fact 38)
  gc_Parser := He.glo_ok X G (c.fact 39)
  xo_BadText := c.xdef 0 (by decide +kernel) (by decide +kernel) (by decide +kernel) (by decide +kernel)
  ge_BadText := He.glo_ok X G (c.fact 40)
  ge_Fault := He.glo_ok X G (c.fact 41)
  ge_LoanError := He.glo_ok X G (c.fact 42)
  nx_BadText_token := He.eqO_ok (c.fact 43 (f := .noat "BadText" "token"))
  nx_BadText_reason := He.eqO_ok (c.fact 44 (f := .noat "BadText" "reason"))
  xf_BadText := c.xfc 0
  xc_BadText := c.xcc 0
  ck_BadText_BadText := c.kit 0 (x := "BadText") (v := fun K => .ref (He.ga K "BadText"))
  ck_BadText_ValueError := c.kit 1 (x := "BadText") (v := fun _ => .type "ValueError")
  sb_Fault := fun j v h => (by
    revert h
    unfold sub_Fault
    split <;> intro h <;> first | (cases h; exact of_decide_eq_true (c.fact 45 (f := .exm "BadText" "Fault" false))) | cases h)
  sb_LoanError := fun j v h => (by
    revert h
    unfold sub_LoanError
    split <;> intro h <;> first | (cases h; exact of_decide_eq_true (c.fact 46 (f := .exm "BadText" "LoanError" true))) | cases h)
abbrev qv : Program := PySem.W.view R.prog [79]
theorem run (w : World) : HandSHeadRun.RunEq R qv lk.hook ob 6000 nms w := by
  intro os
  kernel_rfl
end Hd

namespace Wk
open Sm
/-! ### the parser's parts, at any state -/
abbrev PC (r a d m : Nat) : Cell := .ins 2 [(15, .ref r), (16, .int a), (17, .int d), (18, .int m)]
def tokEnd : S := .tup [.str [101, 110, 100], .str []]
def tok (row : List S) (a : Nat) : S := match row[a]? with
  | some v => v
  | none => tokEnd
theorem n15 : ¬ 15 ∈ T.ms 2 := by decide
theorem n16 : ¬ 16 ∈ T.ms 2 := by decide
theorem n17 : ¬ 17 ∈ T.ms 2 := by decide
theorem n18 : ¬ 18 ∈ T.ms 2 := by decide
theorem ms2 : T.ms 2 = [19, 24, 0, 28, 29, 30, 31] := rfl
section
variable {st : Sto} {p r a d m k : Nat} {row : List S}
theorem at_ok_n {α : Type} (l : List α) (i : Nat) : atI l (i : Int) = l[i]? := by
  unfold atI ixN
  rw [if_pos (by omega)]
  by_cases h : i < l.length
  · rw [if_pos (by omega)]
    simp
  · rw [if_neg (by omega)]
    rw [List.getElem?_eq_none (by omega)]
    rfl
theorem at_ok (l : List S) (i : Nat) : atI l (i : Int) = l[i]? := at_ok_n l i
theorem token_eq (hP : st[p]? = some (PC r a d m)) (hR : st[r]? = some (.lst row)) : F_Parser_token (k + 1) [.ref p] st = .ok (tok row a) st := by
  have e1 : eAttr T.ms 16 (eVar 0) [some (.ref p)] st = .ok (.int a) st := by
    simp [eAttr, eVar, Res.bind, hP, ms2]
    rfl
  have e2 : eAttr T.ms 15 (eVar 0) [some (.ref p)] st = .ok (.ref r) st := by
    simp [eAttr, eVar, Res.bind, hP, ms2]
  have e3 : eCall lenF (aCons (eAttr T.ms 15 (eVar 0)) aNil) [some (.ref p)] st = .ok (.int row.length) st := by
    simp [eCall, aCons, aNil, e2, Res.bind, lenF, hR]
  have e4 : eBin itemS (eAttr T.ms 15 (eVar 0)) (eAttr T.ms 16 (eVar 0)) [some (.ref p)] st = (match row[a]? with | some v => .ok v st | none => .bad) := by
    simp [eBin, e1, e2, Res.bind, itemS, hR, at_ok]
    all_goals (cases row[a]? <;> rfl)
  have e5 : tCmp ltI (eAttr T.ms 16 (eVar 0)) (eCall lenF (aCons (eAttr T.ms 15 (eVar 0)) aNil)) [some (.ref p)] st = .ok (decide (a < row.length)) st := by
    simp [tCmp, e1, e3, Res.bind, ltI, cmpI, boolOf]
  unfold F_Parser_token fnS
  simp only [List.length_cons, List.length_nil, if_true, List.map_cons, List.map_nil, List.replicate, Nat.sub_self, List.append_nil, Nat.zero_add]
  unfold sSeq sRet eIf
  rw [e5]
  simp only [Res.bind]
  by_cases h : a < row.length
  · simp only [h, decide_true, if_true]
    rw [e4, List.getElem?_eq_getElem h]
    unfold tok
    rw [List.getElem?_eq_getElem h]
    simp [Res.toSR]
  · simp only [h, decide_false]
    unfold tok
    rw [List.getElem?_eq_none (by omega)]
    simp [eTup, aCons, aNil, eC, Res.bind, Res.toSR, SZ, tokEnd]
theorem lt_get {α : Type} {l : List α} {i : Nat} {x : α} (h : l[i]? = some x) : i < l.length := (List.getElem?_eq_some_iff.mp h).1
/-- the state behind a step of a field -/
theorem set_get {c c' : Cell} (h : st[p]? = some c) : (st.set p c')[p]? = some c' := by
  rw [List.getElem?_set_self (lt_get h)]
theorem set_ne {i : Nat} {c' : Cell} (h : i ≠ p) : (st.set p c')[i]? = st[i]? := by
  rw [List.getElem?_set_ne (Ne.symm h)]
theorem passed_eq (hP : st[p]? = some (PC r a d m)) (hR : st[r]? = some (.lst row)) (x y : Tx) (b : Bool) (he : eqV (tok row a) (.tup [.str x, .str y]) st = some b) :
    F_Parser_passed (k + 2) [.ref p, .str x, .str y] st = .ok (.bl b) (if b = true then st.set p (PC r (a + 1) d m) else st) := by
  have e1 : eMeth 2 0 (F_Parser_token (k + 1)) (eVar 0) aNil [some (.ref p), some (.str x), some (.str y)] st = .ok (tok row a) st := by
    have z : List.lookup 0 [(15, S.ref r), (16, S.int a), (17, S.int d), (18, S.int m)] = none := rfl
    simp [eMeth, eVar, Res.bind, hP, z, aNil, token_eq hP hR]
  have e2 : tCmp eqS (eMeth 2 0 (F_Parser_token (k + 1)) (eVar 0) aNil) (eTup (aCons (eVar 1) (aCons (eVar 2) aNil))) [some (.ref p), some (.str x), some (.str y)] st = .ok b st := by
    simp [tCmp, e1, Res.bind, eTup, aCons, aNil, eVar, SZ, eqS, he, boolOf]
  have e3 : sFldAug T.ms 16 addI (eVar 0) (eC (.int 1)) [some (.ref p), some (.str x), some (.str y)] st = .nx [some (.ref p), some (.str x), some (.str y)] (st.set p (PC r (a + 1) d m)) := by
    have z : List.lookup 16 [(15, S.ref r), (16, S.int a), (17, S.int d), (18, S.int m)] = some (.int a) := rfl
    simp [sFldAug, eVar, Res.toSR, hP, ms2, z, eC, addI, putK]
    rfl
  unfold F_Parser_passed fnS
  simp only [List.length_cons, List.length_nil, if_true, List.map_cons, List.map_nil, List.replicate, Nat.sub_self, List.append_nil, Nat.zero_add]
  cases b with
  | true => simp [sSeq, sIf, e2, Res.toSR, e3, sRet, eC]
  | false => simp [sSeq, sIf, e2, Res.toSR, sNext, sRet, eC]
theorem mark_eq (hP : st[p]? = some (PC r a d m)) (hR : st[r]? = some (.lst row)) (y : Tx) (he : eqV (tok row a) (.tup [.str [109, 97, 114, 107], .str y]) st = some true) :
    F_Parser_mark (k + 3) [.ref p, .str y] st = .ok .non (st.set p (PC r (a + 1) d m)) := by
  have z : List.lookup 28 [(15, S.ref r), (16, S.int a), (17, S.int d), (18, S.int m)] = none := rfl
  have e1 := passed_eq (k := k) hP hR [109, 97, 114, 107] y true he
  unfold F_Parser_mark fnS
  simp only [List.length_cons, List.length_nil, if_true, List.map_cons, List.map_nil, List.replicate, Nat.sub_self, List.append_nil, Nat.zero_add]
  simp [sSeq, sIf, tNot, tVal, eMeth, eVar, eC, Res.bind, Res.toSR, hP, z, aCons, aNil, e1, truth, sNext]
abbrev uend : Tx := [117, 110, 101, 120, 112, 101, 99, 116, 101, 100, 32, 101, 110, 100]
theorem fault_eq (hP : st[p]? = some (PC r a d m)) (hR : st[r]? = some (.lst row)) (ha : row.length ≤ a) (hz : row.length ≤ 5000) :
    F_Parser_fault (k + 3) [.ref p] st = .exc ⟨4, [(1, .str uend), (0, .int (row.length + 1 : Nat))]⟩ st := by
  have z : List.lookup 16 [(15, S.ref r), (16, S.int a), (17, S.int d), (18, S.int m)] = some (.int a) := rfl
  have e1 : eAttr T.ms 16 (eVar 0) [some (.ref p)] st = .ok (.int a) st := by simp [eAttr, eVar, Res.bind, hP, ms2, z]
  have e2 : eAttr T.ms 15 (eVar 0) [some (.ref p)] st = .ok (.ref r) st := by simp [eAttr, eVar, Res.bind, hP, ms2]
  have e3 : eCall lenF (aCons (eAttr T.ms 15 (eVar 0)) aNil) [some (.ref p)] st = .ok (.int row.length) st := by simp [eCall, aCons, aNil, e2, Res.bind, lenF, hR]
  have hlog : ((row.length + 1 : Nat) : Int).natAbs.log2 < 1920 := by
    have q : ((row.length + 1 : Nat) : Int).natAbs = row.length + 1 := rfl
    rw [q]
    have q2 : row.length + 1 < 2 ^ 13 := by omega
    have q3 := (Nat.log2_lt (by omega)).mpr q2
    omega
  have e4 : eMkX 4 fs_BadText ms_BadText (aCons (eBin addS (eCall lenF (aCons (eAttr T.ms 15 (eVar 0)) aNil)) (eC (.int 1))) (aCons (eC (.str uend)) aNil)) [some (.ref p)] st = .ok ⟨4, [(1, .str uend), (0, .int (row.length + 1 : Nat))]⟩ st := by
    have q : ((row.length : Int) + 1) = ((row.length + 1 : Nat) : Int) := by omega
    simp only [eMkX, aCons, aNil, eBin, e3, Res.bind, eC, addS, q]
    rw [if_pos (by refine ⟨?_, rfl⟩; rfl)]
    have hm : ms_BadText (none :: (List.map some [S.int (row.length + 1 : Nat), S.str uend] ++ [none])) [] = .ok .non [] := by
      unfold ms_BadText
      simp only [msgN, eC, eVar, List.map_cons, List.map_nil, List.cons_append, List.nil_append, List.getElem?_cons_succ, List.getElem?_cons_zero, Res.bind]
      rw [if_pos (by decide)]
      rw [if_pos ⟨hlog, by decide⟩]
      rw [if_pos (by decide)]
      rw [if_pos (by decide)]
    rw [hm]
    rfl
  unfold F_Parser_fault fnS
  simp only [List.length_cons, List.length_nil, if_true, List.map_cons, List.map_nil, List.replicate, Nat.sub_self, List.append_nil, Nat.zero_add]
  have e5 : tCmp geI (eAttr T.ms 16 (eVar 0)) (eCall lenF (aCons (eAttr T.ms 15 (eVar 0)) aNil)) [some (.ref p)] st = .ok true st := by
    simp [tCmp, e1, e3, Res.bind, geI, cmpI, boolOf, ha]
  simp only [sSeq, sIf, e5, Res.toSR, if_true, sRaise, e4]
abbrev uexc (row : List S) : Ex := ⟨4, [(1, .str uend), (0, .int (row.length + 1 : Nat))]⟩
theorem tok_end (ha : row.length ≤ a) : tok row a = tokEnd := by
  unfold tok
  rw [List.getElem?_eq_none ha]
theorem plain_eq (hP : st[p]? = some (PC r a d m)) (hR : st[r]? = some (.lst row)) (ha : row.length ≤ a) (hz : row.length ≤ 5000) : F_read_plain (k + 4) [.ref p] st = .exc (uexc row) st := by
  have z0 : List.lookup 0 [(15, S.ref r), (16, S.int a), (17, S.int d), (18, S.int m)] = none := rfl
  have z24 : List.lookup 24 [(15, S.ref r), (16, S.int a), (17, S.int d), (18, S.int m)] = none := rfl
  have z28 : List.lookup 28 [(15, S.ref r), (16, S.int a), (17, S.int d), (18, S.int m)] = none := rfl
  have ht := token_eq (k := k + 2) hP hR
  rw [tok_end ha] at ht
  have hp : ∀ x y b, eqV tokEnd (.tup [.str x, .str y]) st = some b → F_Parser_passed (k + 3) [.ref p, .str x, .str y] st = .ok (.bl b) (if b = true then st.set p (PC r (a + 1) d m) else st) := fun x y b he => passed_eq (k := k + 1) hP hR x y b (by rw [tok_end ha]; exact he)
  have p1 := hp [119, 111, 114, 100] [108, 101, 116] false rfl
  have p2 := hp [119, 111, 114, 100] [114, 101, 116, 117, 114, 110] false rfl
  have hf := fault_eq (k := k) hP hR ha hz
  unfold F_read_plain fnS
  simp only [List.length_cons, List.length_nil, if_true, List.map_cons, List.map_nil, List.replicate, Nat.sub_self, List.nil_append, Nat.zero_add, List.cons_append]
  have g1 : sAsg (eMeth 2 0 (F_Parser_token (k + 3)) (eVar 0) aNil) (Sm.gUnp [Sm.gName 1, Sm.gName 2]) [some (.ref p), none, none, none] st = .nx [some (.ref p), some (.str [101, 110, 100]), some (.str []), none] st := by
    simp [sAsg, eMeth, eVar, Res.bind, Res.toSR, hP, z0, aNil, ht, tokEnd, Sm.gUnp, gTupL, Sm.gName]
  have c1 : ∀ y : Tx, eqV (.str [101, 110, 100]) (.str y) st = some (([101, 110, 100] : Tx) == y) := fun y => by simp [eqV, S.flat, S.eqb]
  have c2 : tCmp eqS (eVar 1) (eC (.str [110, 97, 109, 101])) [some (.ref p), some (.str [101, 110, 100]), some (.str []), none] st = .ok false st := by
    simp [tCmp, eVar, eC, Res.bind, eqS, c1, boolOf]
  have c3 : tCmp eqS (eVar 1) (eC (.str [119, 111, 114, 100])) [some (.ref p), some (.str [101, 110, 100]), some (.str []), none] st = .ok false st := by
    simp [tCmp, eVar, eC, Res.bind, eqS, c1, boolOf]
  have c4 : ∀ x y, F_Parser_passed (k + 3) [.ref p, .str x, .str y] st = .ok (.bl false) st → tVal (eMeth 2 28 (F_Parser_passed (k + 3)) (eVar 0) (aCons (eC (.str x)) (aCons (eC (.str y)) aNil))) [some (.ref p), some (.str [101, 110, 100]), some (.str []), none] st = .ok false st := fun x y h => by
    simp [tVal, eMeth, eVar, eC, Res.bind, hP, z28, aCons, aNil, h, truth]
  have c5 : sExpr (eMeth 2 24 (F_Parser_fault (k + 3)) (eVar 0) aNil) [some (.ref p), some (.str [101, 110, 100]), some (.str []), none] st = .exc (uexc row) [some (.ref p), some (.str [101, 110, 100]), some (.str []), none] st := by
    simp [sExpr, eMeth, eVar, Res.bind, Res.toSR, hP, z24, aNil, hf]
  simp only [sSeq, g1, sIf, c2, Res.toSR, c4 _ _ p1, tAnd, c3, Res.bind, c4 _ _ p2, c5, Bool.false_eq_true, if_false]
theorem while_one {n : Nat} {c : TM} {b : SM} {ρ : Env} {st : Sto} : sWhile (n + 1) c b ρ st = (c ρ st).toSR ρ fun t st => if t = true then (match b ρ st with
    | .nx ρ st => sWhile n c b ρ st
    | .ct ρ st => sWhile n c b ρ st
    | .bk ρ st => .nx ρ st
    | r => r) else .nx ρ st := rfl
/-- one block: its rest told by h -/
theorem blk {row : List S} {hz : row.length ≤ 5000} (i k : Nat) (hk : i + 5 ≤ k) (st : Sto) (p r a d m : Nat) (hP : st[p]? = some (PC r a d m)) (hR : st[r]? = some (.lst row)) (hrp : r ≠ p) (hM : ∀ t, t ≤ i → tok row (a + 2 * t) = .tup [.str [109, 97, 114, 107], .str [123]])
    (hI : ∀ t, t < i → tok row (a + 2 * t + 1) = .tup [.str [119, 111, 114, 100], .str [105, 102]]) (hl : row.length = a + 2 * i + 1)
    (h : 0 < i → ∀ (k' : Nat) (st' : Sto) (d' m' : Nat), i + 4 ≤ k' → st'[p]? = some (PC r (a + 2) d' m') → st'[r]? = some (.lst row) → ∃ st'', F_read_block k' [.ref p] st' = .exc (uexc row) st'') : ∃ st', F_read_block k [.ref p] st = .exc (uexc row) st' := by
  obtain ⟨k, rfl⟩ : ∃ k', k = k' + 5 := ⟨k - 5, by omega⟩
  have hp := lt_get hP
  have hr := lt_get hR
  -- the list that it fills
  have hP1 : (st ++ [Cell.lst []])[p]? = some (PC r a d m) := by rw [List.getElem?_append_left hp]; exact hP
  have hR1 : (st ++ [Cell.lst []])[r]? = some (.lst row) := by rw [List.getElem?_append_left hr]; exact hR
  have hL1 : (st ++ [Cell.lst []])[st.length]? = some (.lst []) := by simp
  -- the mark
  have hm0 := hM 0 (by omega)
  rw [show a + 2 * 0 = a by omega] at hm0
  have mk := mark_eq (k := k + 1) hP1 hR1 [123] (by rw [hm0]; rfl)
  have z17 : ∀ x : Nat, List.lookup 17 [(15, S.ref r), (16, S.int x), (17, S.int d), (18, S.int m)] = some (.int d) := fun x => rfl
  have z29 : ∀ x : Nat, List.lookup 29 [(15, S.ref r), (16, S.int x), (17, S.int d), (18, S.int m)] = none := fun x => rfl
  have z28 : ∀ x y w : Nat, List.lookup 28 [(15, S.ref r), (16, S.int x), (17, S.int y), (18, S.int w)] = none := fun x y w => rfl
  have g2 : sExpr (eMeth 2 29 (F_Parser_mark (k + 4)) (eVar 0) (aCons (eC (.str [123])) aNil)) [some (.ref p), some (.ref st.length), none] (st ++ [Cell.lst []]) = .nx [some (.ref p), some (.ref st.length), none] ((st ++ [Cell.lst []]).set p (PC r (a + 1) d m)) := by
    simp [sExpr, eMeth, eVar, eC, Res.bind, Res.toSR, hP1, z29, aCons, aNil, mk]
  have hP2 := set_get (c' := PC r (a + 1) d m) hP1
  have g3 : sFldAug T.ms 17 addI (eVar 0) (eC (.int 1)) [some (.ref p), some (.ref st.length), none] ((st ++ [Cell.lst []]).set p (PC r (a + 1) d m)) = .nx [some (.ref p), some (.ref st.length), none] ((st ++ [Cell.lst []]).set p (PC r (a + 1) (d + 1) m)) := by
    simp only [sFldAug, eVar, List.getElem?_cons_zero, Res.toSR, hP2]
    rw [if_neg n17]
    simp only [z17 (a + 1), eC, addI, hP2]
    rw [if_pos (by simp)]
    simp only [List.set_set]
    rfl
  have hP3 := set_get (c' := PC r (a + 1) (d + 1) m) hP1
  have zz18 : List.lookup 18 [(15, S.ref r), (16, S.int (a + 1 : Nat)), (17, S.int (d + 1 : Nat)), (18, S.int m)] = some (.int m) := rfl
  have zz17 : List.lookup 17 [(15, S.ref r), (16, S.int (a + 1 : Nat)), (17, S.int (d + 1 : Nat)), (18, S.int m)] = some (.int (d + 1 : Nat)) := rfl
  have q18 : eAttr T.ms 18 (eVar 0) [some (.ref p), some (.ref st.length), none] ((st ++ [Cell.lst []]).set p (PC r (a + 1) (d + 1) m)) = .ok (.int m) ((st ++ [Cell.lst []]).set p (PC r (a + 1) (d + 1) m)) := by
    simp only [eAttr, eVar, Res.bind, hP3, List.getElem?_cons_zero, ms2, zz18]
    rw [if_neg (by decide)]
  have q17 : eAttr T.ms 17 (eVar 0) [some (.ref p), some (.ref st.length), none] ((st ++ [Cell.lst []]).set p (PC r (a + 1) (d + 1) m)) = .ok (.int (d + 1 : Nat)) ((st ++ [Cell.lst []]).set p (PC r (a + 1) (d + 1) m)) := by
    simp only [eAttr, eVar, Res.bind, hP3, List.getElem?_cons_zero, ms2, zz17]
    rw [if_neg (by decide)]
  obtain ⟨m', e'⟩ : ∃ m' : Nat, ∀ S0 : Sto, max2F [.int m, .int (d + 1 : Nat)] S0 = .ok (.int m') S0 := by
    refine ⟨if (d + 1 : Nat) > m then d + 1 else m, fun S0 => ?_⟩
    unfold max2F
    by_cases hh : (d + 1 : Nat) > m
    · simp only [if_pos hh]
      rw [if_pos (by omega)]
    · simp only [if_neg hh]
      rw [if_neg (by omega)]
  have g4 : sFld T.ms 18 (eVar 0) (eCall max2F (aCons (eAttr T.ms 18 (eVar 0)) (aCons (eAttr T.ms 17 (eVar 0)) aNil))) [some (.ref p), some (.ref st.length), none] ((st ++ [Cell.lst []]).set p (PC r (a + 1) (d + 1) m)) =
      .nx [some (.ref p), some (.ref st.length), none] ((st ++ [Cell.lst []]).set p (PC r (a + 1) (d + 1) m')) := by
    simp only [sFld, eCall, aCons, aNil, q18, q17, Res.bind, e', Res.toSR, eVar, List.getElem?_cons_zero, hP3]
    rw [if_pos ⟨n18, by simp⟩]
    simp only [List.set_set]
    rfl
  have hP4 := set_get (c' := PC r (a + 1) (d + 1) m') hP1
  have hR4 : ((st ++ [Cell.lst []]).set p (PC r (a + 1) (d + 1) m'))[r]? = some (.lst row) := by rw [set_ne hrp]; exact hR1
  have hL4 : ((st ++ [Cell.lst []]).set p (PC r (a + 1) (d + 1) m'))[st.length]? = some (.lst []) := by rw [set_ne (by omega)]; exact hL1
  generalize (st ++ [Cell.lst []]).set p (PC r (a + 1) (d + 1) m') = S4 at g4 hP4 hR4 hL4
  have cV : ∀ x y b st', F_Parser_passed (k + 4) [.ref p, .str x, .str y] S4 = .ok (.bl b) st' → tVal (eMeth 2 28 (F_Parser_passed (k + 4)) (eVar 0) (aCons (eC (.str x)) (aCons (eC (.str y)) aNil))) [some (.ref p), some (.ref st.length), none] S4 = .ok b st' := fun x y b st' hh => by
    simp [tVal, eMeth, eVar, eC, Res.bind, hP4, z28, aCons, aNil, hh, truth]
  have hpass := fun x y b he => cV x y b _ (passed_eq (k := k + 2) hP4 hR4 x y b he)
  unfold F_read_block fnS
  simp only [List.length_cons, List.length_nil, if_true, List.map_cons, List.map_nil, List.replicate, Nat.sub_self, List.nil_append, Nat.zero_add, List.cons_append]
  have g1 : sAsg (eLst aNil) (Sm.gName 1) [some (.ref p), none, none] st = .nx [some (.ref p), some (.ref st.length), none] (st ++ [Cell.lst []]) := by
    simp [sAsg, eLst, aNil, Res.bind, Res.toSR, SZ, Sm.gName]
  simp only [sSeq, g1, g2, g3, g4]
  rw [show sWhile 3000 = sWhile (2999 + 1) from rfl, while_one]
  by_cases hi : 0 < i
  · have ht : tok row (a + 1) = .tup [.str [119, 111, 114, 100], .str [105, 102]] := hI 0 hi
    have c1 := hpass [109, 97, 114, 107] [125] false (by rw [ht]; rfl)
    have c2 := hpass [119, 111, 114, 100] [105, 102] true (by rw [ht]; rfl)
    rw [if_neg (by decide)] at c1
    rw [if_pos rfl] at c2
    obtain ⟨st'', e⟩ := h hi (k + 4) (S4.set p (PC r (a + 1 + 1) (d + 1) m')) (d + 1) m' (by omega) (set_get hP4) (by rw [set_ne hrp]; exact hR4)
    refine ⟨st'', ?_⟩
    simp only [tNot, c1, Res.bind, Res.toSR, Bool.not_false, if_true, sIf, c2, sSeq, sAsg, eCall, aCons, aNil, eVar, List.getElem?_cons_zero, e]
  · have hi0 : i = 0 := by omega
    subst hi0
    have ha : row.length ≤ a + 1 := by omega
    have ht := tok_end (a := a + 1) ha
    have c1 := hpass [109, 97, 114, 107] [125] false (by rw [ht]; rfl)
    have c2 := hpass [119, 111, 114, 100] [105, 102] false (by rw [ht]; rfl)
    have c3 := hpass [119, 111, 114, 100] [108, 111, 111, 112] false (by rw [ht]; rfl)
    rw [if_neg (by decide)] at c1 c2 c3
    have pl := plain_eq (k := k) hP4 hR4 ha hz
    refine ⟨S4, ?_⟩
    have il : isLst (.ref st.length) S4 = true := by simp [isLst, hL4]
    simp only [tNot, c1, Res.bind, Res.toSR, Bool.not_false, if_true, sIf, c2, c3, Bool.false_eq_true, if_false, sSeq, sExpr, eBm, eVar, List.getElem?_cons_succ, List.getElem?_cons_zero, il, aCons, eCall, aNil, pl]
/-- a block of nothing but ifs, cut short -/
theorem block_eq (row : List S) (hz : row.length ≤ 5000) : ∀ (i k : Nat), i + 5 ≤ k → ∀ (st : Sto) (p r a d m : Nat), st[p]? = some (PC r a d m) → st[r]? = some (.lst row) → r ≠ p → (∀ t, t ≤ i → tok row (a + 2 * t) = .tup [.str [109, 97, 114, 107], .str [123]]) →
    (∀ t, t < i → tok row (a + 2 * t + 1) = .tup [.str [119, 111, 114, 100], .str [105, 102]]) → row.length = a + 2 * i + 1 → ∃ st', F_read_block k [.ref p] st = .exc (uexc row) st' := by
  intro i
  induction i with
  | zero => intro k hk st p r a d m hP hR hrp hM hI hl; exact blk (hz := hz) 0 k hk st p r a d m hP hR hrp hM hI hl (fun h => absurd h (by omega))
  | succ i ih =>
    intro k hk st p r a d m hP hR hrp hM hI hl
    exact blk (hz := hz) (i + 1) k hk st p r a d m hP hR hrp hM hI hl fun _ => by
      intro k' st' d' m' hk' hP' hR'
      exact ih k' (by omega) st' p r (a + 2) d' m' hP' hR' hrp (fun t ht => by have := hM (t + 1) (by omega); rw [show a + 2 + 2 * t = a + 2 * (t + 1) by omega]; exact this)
        (fun t ht => by have := hI (t + 1) (by omega); rw [show a + 2 + 2 * t + 1 = a + 2 * (t + 1) + 1 by omega]; exact this) (by omega)
end
end Wk

namespace Wk
open Sm
/-! ### the tokens of a text -/
abbrev LT : Tx := [97, 98, 99, 100, 101, 102, 103, 104, 105, 106, 107, 108, 109, 110, 111, 112, 113, 114, 115, 116, 117, 118, 119, 120, 121, 122]
def lead : Tx → Nat
  | [] => 0
  | c :: r => if c ∈ LT then lead r + 1 else 0
section
variable {t : Tx} {st : Sto} {k : Nat}
theorem drop_get {α : Type} {l : List α} {i : Nat} {c : α} {r : List α} (h : l.drop i = c :: r) : l[i]? = some c ∧ i < l.length ∧ l.drop (i + 1) = r := by
  have h1 : l[i]? = some c := by
    have z : (l.drop i)[0]? = some c := by rw [h]; rfl
    rw [List.getElem?_drop] at z
    simpa using z
  refine ⟨h1, lt_get h1, ?_⟩
  have z : (l.drop i).drop 1 = r := by rw [h]; rfl
  rw [List.drop_drop] at z
  exact z
theorem item_str (hz : t.length ≤ SZ) (i : Nat) {c : Nat} (h : t[i]? = some c) : itemS (.str t) (.int i) st = .ok (.str [c]) st := by
  unfold itemS
  simp only
  rw [if_pos hz, at_ok_n, h]
theorem len_str (hz : t.length ≤ SZ) : lenF [.str t] st = .ok (.int t.length) st := by
  unfold lenF
  simp only
  rw [if_pos hz]
theorem behind_loop (hz : t.length ≤ SZ) : ∀ (suf : Tx) (i n : Nat), t.drop i = suf → suf.length < n →
    sWhile n (tAnd (tCmp ltI (eVar 1) (eCall lenF (aCons (eVar 0) aNil))) (tCmp inS (eBin itemS (eVar 0) (eVar 1)) (eC (.str LT)))) (sSeq (sAug 1 addI (eC (.int 1))) sNext) [some (.str t), some (.int i)] st = .nx [some (.str t), some (.int (i + lead suf : Nat))] st := by
  intro suf
  induction suf with
  | nil =>
    intro i n h hn
    obtain ⟨n, rfl⟩ : ∃ m, n = m + 1 := ⟨n - 1, by omega⟩
    have hi : t.length ≤ i := by
      have z := congrArg List.length h
      rw [List.length_drop] at z
      simp at z
      omega
    rw [while_one]
    have c1 : tCmp ltI (eVar 1) (eCall lenF (aCons (eVar 0) aNil)) [some (.str t), some (.int i)] st = .ok false st := by
      simp [tCmp, eVar, eCall, aCons, aNil, Res.bind, len_str hz, ltI, cmpI, boolOf, hi]
    simp [tAnd, c1, Res.bind, Res.toSR, lead]
  | cons c r ih =>
    intro i n h hn
    obtain ⟨n, rfl⟩ : ∃ m, n = m + 1 := ⟨n - 1, by omega⟩
    obtain ⟨h1, h2, h3⟩ := drop_get h
    rw [while_one]
    have c1 : tCmp ltI (eVar 1) (eCall lenF (aCons (eVar 0) aNil)) [some (.str t), some (.int i)] st = .ok true st := by
      simp [tCmp, eVar, eCall, aCons, aNil, Res.bind, len_str hz, ltI, cmpI, boolOf, h2]
    have c2 : tCmp inS (eBin itemS (eVar 0) (eVar 1)) (eC (.str LT)) [some (.str t), some (.int i)] st = .ok (decide (c ∈ LT)) st := by
      simp only [tCmp, eBin, eVar, eC, Res.bind, List.getElem?_cons_zero, List.getElem?_cons_succ, item_str hz i h1, inS, memV, boolOf]
    simp only [tAnd, c1, Res.bind, if_true, c2, Res.toSR]
    by_cases hc : c ∈ LT
    · simp only [hc, decide_true, if_true]
      have b1 : sSeq (sAug 1 addI (eC (.int 1))) sNext [some (.str t), some (.int i)] st = .nx [some (.str t), some (.int (i + 1 : Nat))] st := rfl
      rw [b1]
      simp only
      rw [ih (i + 1) n h3 (by simp at hn; omega)]
      rw [show lead (c :: r) = lead r + 1 from if_pos hc, show i + 1 + lead r = i + (lead r + 1) by omega]
    · simp only [hc, decide_false, Bool.false_eq_true, if_false]
      rw [show lead (c :: r) = 0 from if_neg hc]
      rfl
theorem behind_eq (hz : t.length ≤ 2000) (i : Nat) : F_run_behind (k + 1) [.str t, .int i] st = .ok (.int (i + lead (t.drop i) : Nat)) st := by
  have hs : t.length ≤ SZ := by unfold SZ; omega
  unfold F_run_behind fnS
  simp only [List.length_cons, List.length_nil, if_true, List.map_cons, List.map_nil, List.replicate, Nat.sub_self, List.append_nil, Nat.zero_add]
  simp only [sSeq]
  rw [behind_loop hs (t.drop i) i 3000 rfl (by rw [List.length_drop]; omega)]
  rfl
abbrev MK : Tx := [123, 125, 40, 41, 44, 59, 58, 61]
abbrev WS : List S := [.str [102, 110], .str [111, 119, 110], .str [114, 101, 102], .str [109, 117, 116], .str [108, 101, 116], .str [110, 101, 119], .str [114, 101, 97, 100], .str [119, 114, 105, 116, 101], .str [100, 114, 111, 112], .str [105, 102], .str [101, 108, 115, 101], .str [108, 111, 111, 112], .str [98, 114, 101, 97, 107], .str [99, 111, 110, 116, 105, 110, 117, 101], .str [114, 101, 116, 117, 114, 110]]
/-- the token of a run of letters -/
def runT (x : Tx) : S := if (WS.any fun z => z.eqb (.str x)) = true then .tup [.str [119, 111, 114, 100], .str x] else .tup [.str (if (x.length : Int) ≤ 8 then [110, 97, 109, 101] else [98, 97, 100]), .str x]
def lex : Nat → Tx → List S
  | 0, _ => []
  | n + 1, s => match s with
    | [] => []
    | c :: r => if c = 32 ∨ c = 10 then lex n r else if c ∈ LT then runT (s.take (lead s)) :: lex n (s.drop (lead s)) else
      if s.take 2 = [45, 62] then .tup [.str [109, 97, 114, 107], .str [45, 62]] :: lex n (s.drop 2) else .tup [.str (if c ∈ MK then [109, 97, 114, 107] else [98, 97, 100]), .str [c]] :: lex n r
theorem cut_eq (l : Tx) (a b : Nat) (h1 : a ≤ l.length) (h2 : a ≤ b) : cut l (some (a : Int)) (some (b : Int)) = (l.drop a).take (b - a) := by
  have e : ∀ n d v : Nat, sIx n d (some (v : Int)) = min v n := fun n d v => by
    show (if (v : Int) < 0 then ((v : Int) + (n : Int)).toNat else min (v : Int).toNat n) = _
    rw [if_neg (by omega)]
    rfl
  unfold cut
  rw [e, e]
  rw [Nat.min_eq_left h1]
  by_cases h : b ≤ l.length
  · rw [Nat.min_eq_left h]
  · rw [Nat.min_eq_right (by omega), List.take_of_length_le (by rw [List.length_drop]; omega), List.take_of_length_le (by rw [List.length_drop]; omega)]
theorem run_token_eq (x : Tx) (hx : okTx x = true) (hz : x.length ≤ 2000) : F_run_token (k + 1) [.str x] st = .ok (runT x) st := by
  have hs : x.length ≤ SZ := by unfold SZ; omega
  unfold F_run_token fnS
  simp only [List.length_cons, List.length_nil, if_true, List.map_cons, List.map_nil, List.replicate, Nat.sub_self, List.append_nil, Nat.zero_add]
  have c1 : tCmp inS (eVar 0) (eC (.tup WS)) [some (.str x)] st = .ok (WS.any fun z => z.eqb (.str x)) st := by
    have hp : (S.plain (.str x) && S.plainL WS && decide (S.dep (.str x) ≤ 60)) = true := by
      have e1 : S.plain (.str x) = true := by unfold S.plain; exact hx
      have e2 : S.plainL WS = true := by decide
      have e3 : S.dep (.str x) = 0 := by unfold S.dep; rfl
      rw [e1, e2, e3]; rfl
    simp only [tCmp, eVar, eC, List.getElem?_cons_zero, Res.bind, inS, memV, hp, if_true, boolOf]
  have c2 : tCmp leI (eCall lenF (aCons (eVar 0) aNil)) (eC (.int 8)) [some (.str x)] st = .ok (decide ((x.length : Int) ≤ 8)) st := by
    simp only [tCmp, eCall, aCons, aNil, eVar, eC, List.getElem?_cons_zero, Res.bind, len_str hs, leI, cmpI, boolOf]
  simp only [sSeq, sIf, c1, Res.toSR]
  unfold runT
  by_cases h : (WS.any fun z => z.eqb (.str x)) = true
  · rw [if_pos h, if_pos h]
    simp [sRet, eTup, aCons, aNil, eC, eVar, Res.bind, Res.toSR, SZ]
  · rw [if_neg h, if_neg h]
    simp only [sNext, sRet, eTup, aCons, aNil, eIf, c2, Res.bind, eVar, List.getElem?_cons_zero]
    by_cases h8 : (x.length : Int) ≤ 8
    · simp [h8, eC, Res.toSR, SZ]
    · simp [h8, eC, Res.toSR, SZ]
theorem ok_drop {x : Tx} (h : okTx x = true) (n : Nat) : okTx (x.drop n) = true := List.all_eq_true.mpr fun c hc => List.all_eq_true.mp h c (List.mem_of_mem_drop hc)
theorem ok_take {x : Tx} (h : okTx x = true) (n : Nat) : okTx (x.take n) = true := List.all_eq_true.mpr fun c hc => List.all_eq_true.mp h c (List.mem_of_mem_take hc)
theorem lead_le : ∀ x : Tx, lead x ≤ x.length
  | [] => Nat.le_refl _
  | c :: r => by
    by_cases h : c ∈ LT
    · rw [show lead (c :: r) = lead r + 1 from if_pos h]
      have := lead_le r
      simp; omega
    · rw [show lead (c :: r) = 0 from if_neg h]
      exact Nat.zero_le _
/-- one turn of the loop of tokens -/
abbrev tkC : TM := tCmp ltI (eVar 2) (eCall lenF (aCons (eVar 0) aNil))
def tkB (k : Nat) : SM := sSeq (sAsg (eBin itemS (eVar 0) (eVar 2)) (Sm.gName 3))
  (sSeq (sIf (tCmp inS (eVar 3) (eTup (aCons (eC (.str [32])) (aCons (eC (.str [10])) (aNil))))) (sSeq (sAug 2 addI (eC (.int 1)))
  (sNext)) (sSeq (sIf (tCmp inS (eVar 3) (eC (.str LT))) (sSeq (sAsg (eCall (F_run_behind k) (aCons (eVar 0) (aCons (eVar 2) (aNil)))) (Sm.gName 4))
  (sSeq (sExpr (eBm isLst appendF (eVar 1) (aCons (eCall (F_run_token k) (aCons (eSlice (eVar 0) (oSome (eVar 2)) (oSome (eVar 4))) (aNil))) (aNil))))
  (sSeq (sAsg (eVar 4) (Sm.gName 2))
  (sNext)))) (sSeq (sIf (tCmp eqS (eSlice (eVar 0) (oSome (eVar 2)) (oSome (eBin addS (eVar 2) (eC (.int 2))))) (eC (.str [45, 62]))) (sSeq (sExpr (eBm isLst appendF (eVar 1) (aCons (eTup (aCons (eC (.str [109, 97, 114, 107])) (aCons (eC (.str [45, 62])) (aNil)))) (aNil))))
  (sSeq (sAug 2 addI (eC (.int 2)))
  (sNext))) (sSeq (sExpr (eBm isLst appendF (eVar 1) (aCons (eTup (aCons (eIf (tCmp inS (eVar 3) (eC (.str MK))) (eC (.str [109, 97, 114, 107])) (eC (.str [98, 97, 100]))) (aCons (eVar 3) (aNil)))) (aNil))))
  (sSeq (sAug 2 addI (eC (.int 1)))
  (sNext))))
  (sNext)))
  (sNext)))
  (sNext))
theorem append_eq {f : Nat} {acc : List S} (h : st[f]? = some (.lst acc)) (hz : acc.length ≤ 2000) (v : S) : appendF [.ref f, v] st = .ok .non (st.set f (.lst (acc ++ [v]))) := by
  unfold appendF
  simp only [h]
  rw [if_pos (by unfold SZ; omega)]
theorem tk_turn (hz : t.length ≤ 2000) (hok : okTx t = true) {f i : Nat} {acc : List S} {c : Nat} {r : Tx} (hf : st[f]? = some (.lst acc)) (ha : acc.length ≤ 2000) (s3 s4 : Option S) (h : t.drop i = c :: r) :
    ∃ s3' s4', tkB (k + 1) [some (.str t), some (.ref f), some (.int i), s3, s4] st = (if c = 32 ∨ c = 10 then .nx [some (.str t), some (.ref f), some (.int (i + 1 : Nat)), s3', s4'] st else
      if c ∈ LT then .nx [some (.str t), some (.ref f), some (.int (i + lead (c :: r) : Nat)), s3', s4'] (st.set f (.lst (acc ++ [runT ((c :: r).take (lead (c :: r)))]))) else
      if (c :: r).take 2 = [45, 62] then .nx [some (.str t), some (.ref f), some (.int (i + 2 : Nat)), s3', s4'] (st.set f (.lst (acc ++ [.tup [.str [109, 97, 114, 107], .str [45, 62]]]))) else
      .nx [some (.str t), some (.ref f), some (.int (i + 1 : Nat)), s3', s4'] (st.set f (.lst (acc ++ [.tup [.str (if c ∈ MK then [109, 97, 114, 107] else [98, 97, 100]), .str [c]]])))) := by
  have hs : t.length ≤ SZ := by unfold SZ; omega
  obtain ⟨h1, h2, h3⟩ := drop_get h
  have okc : okTx [c] = true := by
    have z := ok_take (ok_drop hok i) 1
    rw [h] at z
    exact z
  have il : ∀ st' : Sto, ∀ acc', st'[f]? = some (.lst acc') → isLst (.ref f) st' = true := fun st' acc' e => by simp [isLst, e]
  have g1 : sAsg (eBin itemS (eVar 0) (eVar 2)) (Sm.gName 3) [some (.str t), some (.ref f), some (.int i), s3, s4] st = .nx [some (.str t), some (.ref f), some (.int i), some (.str [c]), s4] st := by
    simp only [sAsg, eBin, eVar, List.getElem?_cons_zero, List.getElem?_cons_succ, Res.bind, item_str hs i h1, Res.toSR, Sm.gName]
    rfl
  have c1 : ∀ x4, tCmp inS (eVar 3) (eTup (aCons (eC (.str [32])) (aCons (eC (.str [10])) aNil))) [some (.str t), some (.ref f), some (.int i), some (.str [c]), x4] st = .ok (decide (c = 32 ∨ c = 10)) st := fun x4 => by
    have hp : (S.plain (.str [c]) && S.plainL [.str [32], .str [10]] && decide (S.dep (.str [c]) ≤ 60)) = true := by
      have e1 : S.plain (.str [c]) = true := by unfold S.plain; exact okc
      have e3 : S.dep (.str [c]) = 0 := by unfold S.dep; rfl
      rw [e1, e3]; rfl
    have e : ([S.str [32], S.str [10]].any fun z => z.eqb (.str [c])) = decide (c = 32 ∨ c = 10) := by
      simp only [List.any_cons, List.any_nil, S.eqb]
      by_cases q1 : c = 32
      · subst q1; rfl
      · by_cases q2 : c = 10
        · subst q2; rfl
        · have n1 : (([32] : Tx) == [c]) = false := by simp; omega
          have n2 : (([10] : Tx) == [c]) = false := by simp; omega
          simp [n1, n2, q1, q2]
    have e2 : eTup (aCons (eC (.str [32])) (aCons (eC (.str [10])) aNil)) [some (.str t), some (.ref f), some (.int i), some (.str [c]), x4] st = .ok (.tup [.str [32], .str [10]]) st := rfl
    simp only [tCmp, eVar, List.getElem?_cons_zero, List.getElem?_cons_succ, Res.bind, e2, inS, memV, hp, if_true, e, boolOf]
  have c2 : ∀ x4 (L : Tx), tCmp inS (eVar 3) (eC (.str L)) [some (.str t), some (.ref f), some (.int i), some (.str [c]), x4] st = .ok (decide (c ∈ L)) st := fun x4 L => by
    simp only [tCmp, eVar, eC, List.getElem?_cons_zero, List.getElem?_cons_succ, Res.bind, inS, memV, boolOf]
  unfold tkB
  by_cases q1 : c = 32 ∨ c = 10
  · refine ⟨some (.str [c]), s4, ?_⟩
    rw [if_pos q1]
    simp only [sSeq, g1, sIf, c1, Res.toSR, q1, decide_true, if_true]
    rfl
  · by_cases q2 : c ∈ LT
    · have hb := behind_eq (k := k) (st := st) hz i
      rw [h] at hb
      have hl := lead_le (c :: r)
      have hll : (c :: r).length = t.length - i := by rw [← h, List.length_drop]
      have hcut := cut_eq t i (i + lead (c :: r)) (by omega) (by omega)
      rw [h, show i + lead (c :: r) - i = lead (c :: r) by omega] at hcut
      have hsl : eSlice (eVar 0) (oSome (eVar 2)) (oSome (eVar 4)) [some (.str t), some (.ref f), some (.int i), some (.str [c]), some (.int (i + lead (c :: r) : Nat))] st = .ok (.str ((c :: r).take (lead (c :: r)))) st := by
        simp only [eSlice, oSome, eVar, List.getElem?_cons_zero, List.getElem?_cons_succ, Res.bind, sliceS, hcut]
        rw [if_pos hs]
      have hrt := run_token_eq (k := k) (st := st) ((c :: r).take (lead (c :: r))) (by rw [← h]; exact ok_take (ok_drop hok i) _) (by rw [List.length_take]; omega)
      refine ⟨some (.str [c]), some (.int (i + lead (c :: r) : Nat)), ?_⟩
      rw [if_neg q1, if_pos q2]
      have g4 : sAsg (eCall (F_run_behind (k + 1)) (aCons (eVar 0) (aCons (eVar 2) aNil))) (Sm.gName 4) [some (.str t), some (.ref f), some (.int i), some (.str [c]), s4] st = .nx [some (.str t), some (.ref f), some (.int i), some (.str [c]), some (.int (i + lead (c :: r) : Nat))] st := by
        simp only [sAsg, eCall, aCons, aNil, eVar, List.getElem?_cons_zero, List.getElem?_cons_succ, Res.bind, hb, Res.toSR, Sm.gName]
        rfl
      have g5 : sExpr (eBm isLst appendF (eVar 1) (aCons (eCall (F_run_token (k + 1)) (aCons (eSlice (eVar 0) (oSome (eVar 2)) (oSome (eVar 4))) aNil)) aNil)) [some (.str t), some (.ref f), some (.int i), some (.str [c]), some (.int (i + lead (c :: r) : Nat))] st =
          .nx [some (.str t), some (.ref f), some (.int i), some (.str [c]), some (.int (i + lead (c :: r) : Nat))] (st.set f (.lst (acc ++ [runT ((c :: r).take (lead (c :: r)))]))) := by
        simp only [sExpr, eBm, eCall, eVar, aCons, aNil, List.getElem?_cons_zero, List.getElem?_cons_succ, Res.bind, il st acc hf, if_true, hsl, hrt, append_eq hf ha, Res.toSR]
      simp only [sSeq, g1, sIf, c1, c2, Res.toSR, q1, q2, decide_true, decide_false, if_true, Bool.false_eq_true, if_false, g4, g5]
      rfl
    · have hc2 := cut_eq t i (i + 2) (by omega) (by omega)
      rw [h, show i + 2 - i = 2 by omega] at hc2
      have hsl : tCmp eqS (eSlice (eVar 0) (oSome (eVar 2)) (oSome (eBin addS (eVar 2) (eC (.int 2))))) (eC (.str [45, 62])) [some (.str t), some (.ref f), some (.int i), some (.str [c]), s4] st = .ok (decide ((c :: r).take 2 = [45, 62])) st := by
        have e : ((i : Int) + 2) = ((i + 2 : Nat) : Int) := by omega
        simp only [tCmp, eSlice, oSome, eVar, eBin, eC, addS, e, List.getElem?_cons_zero, List.getElem?_cons_succ, Res.bind, sliceS, hc2]
        rw [if_pos hs]
        simp only [Res.bind, eqS, eqV, S.flat, Bool.and_self, if_true, S.eqb, boolOf]
        congr 1
        by_cases q : (c :: r).take 2 = [45, 62]
        · rw [q]; rfl
        · rw [decide_eq_false q]; exact beq_eq_false_iff_ne.mpr q
      by_cases q3 : (c :: r).take 2 = [45, 62]
      · refine ⟨some (.str [c]), s4, ?_⟩
        rw [if_neg q1, if_neg q2, if_pos q3]
        simp only [sSeq, g1, sIf, c1, c2, hsl, Res.toSR, q1, q2, q3, decide_true, decide_false, if_true, Bool.false_eq_true, if_false, sExpr, eBm, eVar, List.getElem?_cons_zero, List.getElem?_cons_succ, Res.bind, il st acc hf, aCons, aNil, eTup, eC]
        rw [if_pos (by decide)]
        simp only [Res.bind, append_eq hf ha, Res.toSR]
        rfl
      · refine ⟨some (.str [c]), s4, ?_⟩
        rw [if_neg q1, if_neg q2, if_neg q3]
        simp only [sSeq, g1, sIf, c1, c2, hsl, Res.toSR, q1, q2, q3, decide_true, decide_false, if_true, Bool.false_eq_true, if_false, sExpr, eBm, eVar, List.getElem?_cons_zero, List.getElem?_cons_succ, Res.bind, il st acc hf, aCons, aNil, eTup, eIf, eC]
        by_cases q4 : c ∈ MK
        · simp only [q4, decide_true, if_true, Res.bind]
          rw [if_pos (by show 2 ≤ SZ; decide)]
          simp only [Res.bind, append_eq hf ha, Res.toSR]
          rfl
        · simp only [q4, decide_false, Bool.false_eq_true, if_false, Res.bind]
          rw [if_pos (by show 2 ≤ SZ; decide)]
          simp only [Res.bind, append_eq hf ha, Res.toSR]
          rfl
theorem set_last {f : Nat} {x y : Cell} : (st.set f x).set f y = st.set f y := List.set_set ..
theorem lead_pos {c : Nat} {r : Tx} (h : c ∈ LT) : 0 < lead (c :: r) := by
  rw [show lead (c :: r) = lead r + 1 from if_pos h]
  omega
theorem tk_loop (hz : t.length ≤ 2000) (hok : okTx t = true) (f : Nat) : ∀ (n : Nat) (suf : Tx) (acc : List S) (i : Nat) (st : Sto) (s3 s4 : Option S), t.drop i = suf → suf.length < n → st[f]? = some (.lst acc) → acc.length + suf.length ≤ 2000 →
    ∃ i' s3' s4', sWhile n tkC (tkB (k + 1)) [some (.str t), some (.ref f), some (.int i), s3, s4] st = .nx [some (.str t), some (.ref f), some (.int (i' : Nat)), s3', s4'] (st.set f (.lst (acc ++ lex n suf))) := by
  have hs : t.length ≤ SZ := by unfold SZ; omega
  intro n
  induction n with
  | zero => intro suf acc i st s3 s4 h hn; omega
  | succ n ih =>
    intro suf acc i st s3 s4 h hn hf ha
    rw [while_one]
    have ct : ∀ b : Bool, decide ((i : Int) < (t.length : Int)) = b → tkC [some (.str t), some (.ref f), some (.int i), s3, s4] st = .ok b st := fun b e => by
      simp only [tkC, tCmp, eVar, eCall, aCons, aNil, List.getElem?_cons_zero, List.getElem?_cons_succ, Res.bind, len_str hs, ltI, cmpI, boolOf, e]
    cases suf with
    | nil =>
      have hi : t.length ≤ i := by
        have z := congrArg List.length h
        rw [List.length_drop] at z
        simp at z
        omega
      rw [ct false (by simp; omega)]
      refine ⟨i, s3, s4, ?_⟩
      have e : st.set f (.lst (acc ++ lex (n + 1) [])) = st := by
        have q : acc ++ lex (n + 1) [] = acc := by unfold lex; simp
        rw [q]
        apply List.ext_getElem?
        intro j
        by_cases hj : j = f
        · subst hj; rw [List.getElem?_set_self (lt_get hf), hf]
        · rw [List.getElem?_set_ne (Ne.symm hj)]
      rw [e]
      rfl
    | cons c r =>
      obtain ⟨h1, h2, h3⟩ := drop_get h
      rw [ct true (by simp; omega)]
      simp only [Res.toSR, if_true]
      obtain ⟨x3, x4, e⟩ := tk_turn (k := k) hz hok hf (by omega) s3 s4 h
      rw [e]
      have hl : (c :: r).length = r.length + 1 := rfl
      by_cases q1 : c = 32 ∨ c = 10
      · rw [if_pos q1]
        simp only
        obtain ⟨i', y3, y4, e2⟩ := ih r acc (i + 1) st x3 x4 h3 (by omega) hf (by omega)
        refine ⟨i', y3, y4, ?_⟩
        rw [e2]
        have q : lex (n + 1) (c :: r) = lex n r := if_pos q1
        rw [q]
      · rw [if_neg q1]
        by_cases q2 : c ∈ LT
        · rw [if_pos q2]
          simp only
          have hp := lead_pos (r := r) q2
          have hd : t.drop (i + lead (c :: r)) = (c :: r).drop (lead (c :: r)) := by rw [← h, List.drop_drop]
          obtain ⟨i', y3, y4, e2⟩ := ih ((c :: r).drop (lead (c :: r))) (acc ++ [runT ((c :: r).take (lead (c :: r)))]) (i + lead (c :: r)) (st.set f (.lst (acc ++ [runT ((c :: r).take (lead (c :: r)))]))) x3 x4 hd (by rw [List.length_drop]; omega) (set_get hf)
            (by rw [List.length_append, List.length_drop]; simp; omega)
          refine ⟨i', y3, y4, ?_⟩
          rw [e2, set_last]
          have q : lex (n + 1) (c :: r) = runT ((c :: r).take (lead (c :: r))) :: lex n ((c :: r).drop (lead (c :: r))) := by
            show (if c = 32 ∨ c = 10 then _ else _) = _
            rw [if_neg q1, if_pos q2]
          rw [q, List.append_assoc]
          rfl
        · rw [if_neg q2]
          by_cases q3 : (c :: r).take 2 = [45, 62]
          · rw [if_pos q3]
            simp only
            have hd : t.drop (i + 2) = (c :: r).drop 2 := by rw [← h, List.drop_drop]
            obtain ⟨i', y3, y4, e2⟩ := ih ((c :: r).drop 2) (acc ++ [.tup [.str [109, 97, 114, 107], .str [45, 62]]]) (i + 2) (st.set f (.lst (acc ++ [.tup [.str [109, 97, 114, 107], .str [45, 62]]]))) x3 x4 hd (by rw [List.length_drop]; omega) (set_get hf)
              (by rw [List.length_append, List.length_drop]; simp; omega)
            refine ⟨i', y3, y4, ?_⟩
            rw [e2, set_last]
            have q : lex (n + 1) (c :: r) = .tup [.str [109, 97, 114, 107], .str [45, 62]] :: lex n ((c :: r).drop 2) := by
              show (if c = 32 ∨ c = 10 then _ else _) = _
              rw [if_neg q1, if_neg q2, if_pos q3]
            rw [q, List.append_assoc]
            rfl
          · rw [if_neg q3]
            simp only
            obtain ⟨i', y3, y4, e2⟩ := ih r (acc ++ [.tup [.str (if c ∈ MK then [109, 97, 114, 107] else [98, 97, 100]), .str [c]]]) (i + 1) (st.set f (.lst (acc ++ [.tup [.str (if c ∈ MK then [109, 97, 114, 107] else [98, 97, 100]), .str [c]]]))) x3 x4 h3 (by omega) (set_get hf)
              (by rw [List.length_append]; simp; omega)
            refine ⟨i', y3, y4, ?_⟩
            rw [e2, set_last]
            have q : lex (n + 1) (c :: r) = .tup [.str (if c ∈ MK then [109, 97, 114, 107] else [98, 97, 100]), .str [c]] :: lex n r := by
              show (if c = 32 ∨ c = 10 then _ else _) = _
              rw [if_neg q1, if_neg q2, if_neg q3]
            rw [q, List.append_assoc]
            rfl
theorem tokens_eq (hz : t.length ≤ 2000) (hok : okTx t = true) : F_tokens (k + 2) [.str t] st = .ok (.ref st.length) (st ++ [.lst (lex 3000 t)]) := by
  obtain ⟨i', y3, y4, e⟩ := tk_loop (k := k) hz hok st.length 3000 t [] 0 (st ++ [.lst []]) none none rfl (by omega) (by simp) (by simpa using hz)
  have e2 : F_tokens (k + 2) [.str t] st = (match (sSeq (sAsg (eLst aNil) (Sm.gName 1)) (sSeq (sAsg (eC (.int 0)) (Sm.gName 2)) (sSeq (sWhile 3000 tkC (tkB (k + 1))) (sSeq (sRet (eVar 1)) sNext)))) [some (.str t), none, none, none, none] st with
    | .nx _ st => .ok .non st
    | .rt v st => .ok v st
    | .exc e _ st => .exc e st
    | _ => .bad) := rfl
  have g1 : sAsg (eLst aNil) (Sm.gName 1) [some (.str t), none, none, none, none] st = .nx [some (.str t), some (.ref st.length), none, none, none] (st ++ [.lst []]) := by
    simp only [sAsg, eLst, aNil, Res.bind, List.length_nil]
    rw [if_pos (Nat.zero_le _)]
    rfl
  have g2 : sAsg (eC (.int 0)) (Sm.gName 2) [some (.str t), some (.ref st.length), none, none, none] (st ++ [.lst []]) = .nx [some (.str t), some (.ref st.length), some (.int (0 : Nat)), none, none] (st ++ [.lst []]) := rfl
  rw [e2]
  simp only [sSeq, g1, g2, e]
  have e3 : (st ++ [Cell.lst []]).set st.length (.lst ([] ++ lex 3000 t)) = st ++ [.lst (lex 3000 t)] := by
    rw [List.set_append_right _ _ (Nat.le_refl _)]
    simp
  rw [e3]
  rfl
end
end Wk

namespace Wk
open Sm
section
variable {st : Sto} {p r a d m k : Nat} {row : List S}
theorem name_eq (hP : st[p]? = some (PC r a d m)) (hR : st[r]? = some (.lst row)) (hrp : r ≠ p) {x : Tx} (ht : row[a]? = some (.tup [.str [110, 97, 109, 101], .str x])) : F_Parser_name (k + 2) [.ref p] st = .ok (.str x) (st.set p (PC r (a + 1) d m)) := by
  have z0 : List.lookup 0 [(15, S.ref r), (16, S.int a), (17, S.int d), (18, S.int m)] = none := rfl
  have htk := token_eq (k := k) hP hR
  have hto : tok row a = .tup [.str [110, 97, 109, 101], .str x] := by unfold tok; rw [ht]
  rw [hto] at htk
  have c1 : tCmp neS (eBin itemS (eMeth 2 0 (F_Parser_token (k + 1)) (eVar 0) aNil) (eC (.int 0))) (eC (.str [110, 97, 109, 101])) [some (.ref p)] st = .ok false st := by
    have e0 : itemS (.tup [.str [110, 97, 109, 101], .str x]) (.int 0) st = .ok (.str [110, 97, 109, 101]) st := rfl
    simp only [tCmp, eBin, eMeth, eVar, List.getElem?_cons_zero, Res.bind, hP, z0, and_self, if_true, aNil, htk, eC, e0]
    rfl
  have z16 : List.lookup 16 [(15, S.ref r), (16, S.int a), (17, S.int d), (18, S.int m)] = some (.int a) := rfl
  have g2 : sFldAug T.ms 16 addI (eVar 0) (eC (.int 1)) [some (.ref p)] st = .nx [some (.ref p)] (st.set p (PC r (a + 1) d m)) := by
    simp only [sFldAug, eVar, List.getElem?_cons_zero, Res.toSR, hP]
    rw [if_neg n16]
    simp only [z16, eC, addI, hP]
    rw [if_pos (by simp)]
    rfl
  have hP2 := set_get (c' := PC r (a + 1) d m) hP
  have hR2 : (st.set p (PC r (a + 1) d m))[r]? = some (.lst row) := by rw [set_ne hrp]; exact hR
  have y15 : List.lookup 15 [(15, S.ref r), (16, S.int (a + 1 : Nat)), (17, S.int d), (18, S.int m)] = some (.ref r) := rfl
  have y16 : List.lookup 16 [(15, S.ref r), (16, S.int (a + 1 : Nat)), (17, S.int d), (18, S.int m)] = some (.int (a + 1 : Nat)) := rfl
  have e15 : eAttr T.ms 15 (eVar 0) [some (.ref p)] (st.set p (PC r (a + 1) d m)) = .ok (.ref r) (st.set p (PC r (a + 1) d m)) := by
    simp only [eAttr, eVar, List.getElem?_cons_zero, Res.bind, hP2, y15]
    rw [if_neg n15]
  have e16 : eAttr T.ms 16 (eVar 0) [some (.ref p)] (st.set p (PC r (a + 1) d m)) = .ok (.int (a + 1 : Nat)) (st.set p (PC r (a + 1) d m)) := by
    simp only [eAttr, eVar, List.getElem?_cons_zero, Res.bind, hP2, y16]
    rw [if_neg n16]
  have q : (((a + 1 : Nat) : Int) - 1) = (a : Int) := by omega
  have i1 : itemS (.ref r) (.int a) (st.set p (PC r (a + 1) d m)) = .ok (.tup [.str [110, 97, 109, 101], .str x]) (st.set p (PC r (a + 1) d m)) := by
    simp only [itemS, hR2, at_ok, ht]
  have i2 : ∀ s0 : Sto, itemS (.tup [.str [110, 97, 109, 101], .str x]) (.int 1) s0 = .ok (.str x) s0 := fun s0 => rfl
  have g3 : sRet (eBin itemS (eBin itemS (eAttr T.ms 15 (eVar 0)) (eBin subI (eAttr T.ms 16 (eVar 0)) (eC (.int 1)))) (eC (.int 1))) [some (.ref p)] (st.set p (PC r (a + 1) d m)) = .rt (.str x) (st.set p (PC r (a + 1) d m)) := by
    simp only [sRet, eBin, e15, e16, Res.bind, eC, subI, q, i1, i2, Res.toSR]
  unfold F_Parser_name fnS
  simp only [List.length_cons, List.length_nil, if_true, List.map_cons, List.map_nil, List.replicate, Nat.sub_self, List.append_nil, Nat.zero_add]
  simp only [sSeq, sIf, c1, Res.toSR, Bool.false_eq_true, if_false, sNext, g2, g3]
theorem row_eq (hP : st[p]? = some (PC r a d m)) (hR : st[r]? = some (.lst row)) (hrp : r ≠ p) (h1 : tok row a = .tup [.str [109, 97, 114, 107], .str [40]]) (h2 : tok row (a + 1) = .tup [.str [109, 97, 114, 107], .str [41]]) (v : S) :
    F_read_row (k + 5) [.ref p, v] st = .ok (.tup []) ((st ++ [Cell.lst []]).set p (PC r (a + 2) d m)) := by
  have hp := lt_get hP
  have hr := lt_get hR
  have hP1 : (st ++ [Cell.lst []])[p]? = some (PC r a d m) := by rw [List.getElem?_append_left hp]; exact hP
  have hR1 : (st ++ [Cell.lst []])[r]? = some (.lst row) := by rw [List.getElem?_append_left hr]; exact hR
  have hL1 : (st ++ [Cell.lst []])[st.length]? = some (.lst []) := by simp
  have z29 : List.lookup 29 [(15, S.ref r), (16, S.int a), (17, S.int d), (18, S.int m)] = none := rfl
  have z28 : List.lookup 28 [(15, S.ref r), (16, S.int (a + 1 : Nat)), (17, S.int d), (18, S.int m)] = none := rfl
  have g1 : sAsg (eLst aNil) (Sm.gName 2) [some (.ref p), some v, none] st = .nx [some (.ref p), some v, some (.ref st.length)] (st ++ [.lst []]) := by
    simp only [sAsg, eLst, aNil, Res.bind, List.length_nil]
    rw [if_pos (Nat.zero_le _)]
    rfl
  have mk := mark_eq (k := k + 1) hP1 hR1 [40] (by rw [h1]; rfl)
  have g2 : sExpr (eMeth 2 29 (F_Parser_mark (k + 4)) (eVar 0) (aCons (eC (.str [40])) aNil)) [some (.ref p), some v, some (.ref st.length)] (st ++ [Cell.lst []]) = .nx [some (.ref p), some v, some (.ref st.length)] ((st ++ [Cell.lst []]).set p (PC r (a + 1) d m)) := by
    simp only [sExpr, eMeth, eVar, eC, List.getElem?_cons_zero, Res.bind, hP1, z29, and_self, if_true, aCons, aNil, mk, Res.toSR]
  have hP2 := set_get (c' := PC r (a + 1) d m) hP1
  have hR2 : ((st ++ [Cell.lst []]).set p (PC r (a + 1) d m))[r]? = some (.lst row) := by rw [set_ne hrp]; exact hR1
  have ps := passed_eq (k := k + 2) hP2 hR2 [109, 97, 114, 107] [41] true (by rw [h2]; rfl)
  rw [if_pos rfl, set_last] at ps
  have hL3 : ((st ++ [Cell.lst []]).set p (PC r (a + 1 + 1) d m))[st.length]? = some (.lst []) := by rw [set_ne (by omega)]; exact hL1
  have c3 : tNot (tVal (eMeth 2 28 (F_Parser_passed (k + 4)) (eVar 0) (aCons (eC (.str [109, 97, 114, 107])) (aCons (eC (.str [41])) aNil)))) [some (.ref p), some v, some (.ref st.length)] ((st ++ [Cell.lst []]).set p (PC r (a + 1) d m)) = .ok false ((st ++ [Cell.lst []]).set p (PC r (a + 1 + 1) d m)) := by
    simp only [tNot, tVal, eMeth, eVar, eC, List.getElem?_cons_zero, Res.bind, hP2, z28, and_self, if_true, aCons, aNil, ps, truth]
    rfl
  unfold F_read_row fnS
  simp only [List.length_cons, List.length_nil, if_true, List.map_cons, List.map_nil, List.replicate, Nat.zero_add, List.cons_append, List.nil_append]
  simp only [sSeq, g1, g2, sIf, c3, Res.toSR, Bool.false_eq_true, if_false, sNext, sRet, eCall, aCons, aNil, eVar, List.getElem?_cons_zero, List.getElem?_cons_succ, Res.bind, tupleF, hL3]
theorem func_eq (hP : st[p]? = some (PC r 0 d m)) (hR : st[r]? = some (.lst row)) (hrp : r ≠ p) (n : Nat) (hk : n + 5 ≤ k) {x : Tx} (h0 : tok row 0 = .tup [.str [119, 111, 114, 100], .str [102, 110]]) (h1 : row[1]? = some (.tup [.str [110, 97, 109, 101], .str x])) (h2 : tok row 2 = .tup [.str [109, 97, 114, 107], .str [40]])
    (h3 : tok row 3 = .tup [.str [109, 97, 114, 107], .str [41]]) (hz : row.length ≤ 5000) (hM : ∀ t, t ≤ n → tok row (4 + 2 * t) = .tup [.str [109, 97, 114, 107], .str [123]]) (hI : ∀ t, t < n → tok row (4 + 2 * t + 1) = .tup [.str [119, 111, 114, 100], .str [105, 102]]) (hl : row.length = 4 + 2 * n + 1) :
    ∃ st', F_read_function (k + 1) [.ref p] st = .exc (uexc row) st' := by
  obtain ⟨k, rfl⟩ : ∃ k', k = k' + 5 := ⟨k - 5, by omega⟩
  have z28 : ∀ y : Nat, List.lookup 28 [(15, S.ref r), (16, S.int y), (17, S.int d), (18, S.int m)] = none := fun y => rfl
  have z30 : ∀ y : Nat, List.lookup 30 [(15, S.ref r), (16, S.int y), (17, S.int d), (18, S.int m)] = none := fun y => rfl
  have ps := passed_eq (k := k + 3) hP hR [119, 111, 114, 100] [102, 110] true (by rw [h0]; rfl)
  rw [if_pos rfl] at ps
  have c1 : tNot (tVal (eMeth 2 28 (F_Parser_passed (k + 5)) (eVar 0) (aCons (eC (.str [119, 111, 114, 100])) (aCons (eC (.str [102, 110])) aNil)))) [some (.ref p), none, none, none] st = .ok false (st.set p (PC r (0 + 1) d m)) := by
    have z := z28 0
    simp only [tNot, tVal, eMeth, eVar, eC, List.getElem?_cons_zero, Res.bind, hP, z, and_self, if_true, aCons, aNil, ps, truth]
    rfl
  have hP1 := set_get (c' := PC r 1 d m) hP
  have hR1 : (st.set p (PC r 1 d m))[r]? = some (.lst row) := by rw [set_ne hrp]; exact hR
  have nm := name_eq (k := k + 3) hP1 hR1 hrp h1
  rw [set_last] at nm
  have g2 : sAsg (eMeth 2 30 (F_Parser_name (k + 5)) (eVar 0) aNil) (Sm.gName 1) [some (.ref p), none, none, none] (st.set p (PC r 1 d m)) = .nx [some (.ref p), some (.str x), none, none] (st.set p (PC r 2 d m)) := by
    have z := z30 1
    simp only [sAsg, eMeth, eVar, List.getElem?_cons_zero, Res.bind, hP1, z, and_self, if_true, aNil, nm, Res.toSR, Sm.gName]
    rfl
  have hP2 := set_get (c' := PC r 2 d m) hP
  have hR2 : (st.set p (PC r 2 d m))[r]? = some (.lst row) := by rw [set_ne hrp]; exact hR
  have rw' := row_eq (k := k) hP2 hR2 hrp h2 h3 (.fn 0)
  generalize hS : ((st.set p (PC r 2 d m)) ++ [Cell.lst []]).set p (PC r (2 + 2) d m) = S3 at rw'
  have hP3 : S3[p]? = some (PC r 4 d m) := by
    rw [← hS]
    exact set_get (by rw [List.getElem?_append_left (lt_get hP2)]; exact hP2)
  have hR3 : S3[r]? = some (.lst row) := by
    rw [← hS, set_ne hrp, List.getElem?_append_left (lt_get hR2)]
    exact hR2
  have g3 : sAsg (eCall (F_read_row (k + 5)) (aCons (eVar 0) (aCons (eC (.fn 0)) aNil))) (Sm.gName 2) [some (.ref p), some (.str x), none, none] (st.set p (PC r 2 d m)) = .nx [some (.ref p), some (.str x), some (.tup []), none] S3 := by
    simp only [sAsg, eCall, aCons, aNil, eVar, eC, List.getElem?_cons_zero, Res.bind, rw', Res.toSR, Sm.gName]
    rfl
  have ps2 := passed_eq (k := k + 3) hP3 hR3 [109, 97, 114, 107] [45, 62] false (by have z := hM 0 (by omega); rw [show 4 + 2 * 0 = 4 from rfl] at z; rw [z]; rfl)
  rw [if_neg (by decide)] at ps2
  have g4 : sAsg (eIf (tVal (eMeth 2 28 (F_Parser_passed (k + 5)) (eVar 0) (aCons (eC (.str [109, 97, 114, 107])) (aCons (eC (.str [45, 62])) aNil)))) (eMeth 2 31 (F_Parser_kind (k + 5)) (eVar 0) aNil) (eC .non)) (Sm.gName 3) [some (.ref p), some (.str x), some (.tup []), none] S3 = .nx [some (.ref p), some (.str x), some (.tup []), some .non] S3 := by
    have z := z28 4
    simp only [sAsg, eIf, tVal, eMeth, eVar, eC, List.getElem?_cons_zero, Res.bind, hP3, z, and_self, if_true, aCons, aNil, ps2, truth, Bool.false_eq_true, if_false, Res.toSR, Sm.gName]
    rfl
  obtain ⟨st', e⟩ := block_eq row hz n (k + 5) (by omega) S3 p r 4 d m hP3 hR3 hrp hM hI hl
  refine ⟨st', ?_⟩
  unfold F_read_function fnS
  simp only [List.length_cons, List.length_nil, if_true, List.map_cons, List.map_nil, List.replicate, Nat.zero_add, List.cons_append, List.nil_append]
  simp only [sSeq, sIf, c1, Res.toSR, Bool.false_eq_true, if_false, sNext, g2, g3, g4, sRet, eTup, aCons, aNil, eVar, List.getElem?_cons_zero, List.getElem?_cons_succ, Res.bind, eCall, e]
end
end Wk

namespace Wk
open Sm
abbrev IFT : S := .tup [.str [119, 111, 114, 100], .str [105, 102]]
abbrev MKT : S := .tup [.str [109, 97, 114, 107], .str [123]]
abbrev ifs (n : Nat) : Tx := (List.replicate n [105, 102, 123]).flatten
abbrev row5 : List S := [.tup [.str [119, 111, 114, 100], .str [102, 110]], .tup [.str [110, 97, 109, 101], .str [102]], .tup [.str [109, 97, 114, 107], .str [40]], .tup [.str [109, 97, 114, 107], .str [41]], MKT]
theorem lex_let {n c : Nat} {r : Tx} (q1 : ¬ (c = 32 ∨ c = 10)) (q2 : c ∈ LT) : lex (n + 1) (c :: r) = runT ((c :: r).take (lead (c :: r))) :: lex n ((c :: r).drop (lead (c :: r))) := by
  show (if c = 32 ∨ c = 10 then _ else _) = _
  rw [if_neg q1, if_pos q2]
theorem lex_sp {n c : Nat} {r : Tx} (q1 : c = 32 ∨ c = 10) : lex (n + 1) (c :: r) = lex n r := if_pos q1
theorem lex_mark {n c : Nat} {r : Tx} (q1 : ¬ (c = 32 ∨ c = 10)) (q2 : ¬ c ∈ LT) (q3 : c ≠ 45) (q4 : c ∈ MK) : lex (n + 1) (c :: r) = .tup [.str [109, 97, 114, 107], .str [c]] :: lex n r := by
  show (if c = 32 ∨ c = 10 then _ else _) = _
  rw [if_neg q1, if_neg q2, if_neg (by intro h; simp at h; exact q3 h.1), if_pos q4]
theorem lead_in {c : Nat} {r : Tx} (h : c ∈ LT) : lead (c :: r) = lead r + 1 := if_pos h
theorem lead_out {c : Nat} {r : Tx} (h : ¬ c ∈ LT) : lead (c :: r) = 0 := if_neg h
theorem lex_ifs : ∀ n m : Nat, 2 * n < m → lex m (ifs n) = (List.replicate n [IFT, MKT]).flatten
  | 0, m, h => by
    obtain ⟨m, rfl⟩ : ∃ k, m = k + 1 := ⟨m - 1, by omega⟩
    rfl
  | n + 1, m, h => by
    obtain ⟨m, rfl⟩ : ∃ k, m = k + 2 := ⟨m - 2, by omega⟩
    have e : ifs (n + 1) = 105 :: 102 :: 123 :: ifs n := by
      show (List.replicate (n + 1) [105, 102, 123]).flatten = _
      rw [List.replicate_succ, List.flatten_cons]
      rfl
    have hl : lead (105 :: 102 :: 123 :: ifs n) = 2 := by rw [lead_in (by decide), lead_in (by decide), lead_out (by decide)]
    rw [e, show m + 2 = (m + 1) + 1 from rfl, lex_let (by decide) (by decide), hl]
    show runT [105, 102] :: lex (m + 1) (123 :: ifs n) = _
    rw [lex_mark (by decide) (by decide) (by decide) (by decide), lex_ifs n m (by omega), List.replicate_succ, List.flatten_cons]
    rfl
abbrev txA (n : Nat) : Tx := [102, 110, 32, 102, 40, 41, 123] ++ ifs n
theorem lex_txA (n : Nat) (h : n ≤ 1000) : lex 3000 (txA n) = row5 ++ (List.replicate n [IFT, MKT]).flatten := by
  have e : txA n = 102 :: 110 :: 32 :: 102 :: 40 :: 41 :: 123 :: ifs n := rfl
  have h1 : lead (102 :: 110 :: 32 :: 102 :: 40 :: 41 :: 123 :: ifs n) = 2 := by rw [lead_in (by decide), lead_in (by decide), lead_out (by decide)]
  have h2 : lead (102 :: 40 :: 41 :: 123 :: ifs n) = 1 := by rw [lead_in (by decide), lead_out (by decide)]
  rw [e, show 3000 = 2999 + 1 from rfl, lex_let (by decide) (by decide), h1]
  show runT [102, 110] :: lex (2998 + 1) (32 :: 102 :: 40 :: 41 :: 123 :: ifs n) = _
  have s1 : lex (2998 + 1) (32 :: 102 :: 40 :: 41 :: 123 :: ifs n) = lex (2997 + 1) (102 :: 40 :: 41 :: 123 :: ifs n) := by
    exact lex_sp (.inl rfl)
  rw [s1, lex_let (by decide) (by decide), h2]
  show runT [102, 110] :: runT [102] :: lex (2996 + 1) (40 :: 41 :: 123 :: ifs n) = _
  rw [lex_mark (by decide) (by decide) (by decide) (by decide)]
  show runT [102, 110] :: runT [102] :: _ :: lex (2995 + 1) (41 :: 123 :: ifs n) = _
  rw [lex_mark (by decide) (by decide) (by decide) (by decide)]
  show runT [102, 110] :: runT [102] :: _ :: _ :: lex (2994 + 1) (123 :: ifs n) = _
  rw [lex_mark (by decide) (by decide) (by decide) (by decide), lex_ifs n 2994 (by omega)]
  rfl
theorem two_get {x y : S} : ∀ (n t : Nat), t < n → ((List.replicate n [x, y]).flatten)[2 * t]? = some x ∧ ((List.replicate n [x, y]).flatten)[2 * t + 1]? = some y
  | 0, t, h => by omega
  | n + 1, 0, h => by rw [List.replicate_succ, List.flatten_cons]; exact ⟨rfl, rfl⟩
  | n + 1, t + 1, h => by
    obtain ⟨a, b⟩ := two_get n t (by omega)
    rw [List.replicate_succ, List.flatten_cons, show 2 * (t + 1) = 2 * t + 1 + 1 by omega]
    exact ⟨a, b⟩
theorem len_ifs (n : Nat) : (ifs n).length = 3 * n := by
  induction n with
  | zero => rfl
  | succ n ih =>
    show ((List.replicate (n + 1) [105, 102, 123]).flatten).length = _
    rw [List.replicate_succ, List.flatten_cons, List.length_append]
    show 3 + (ifs n).length = _
    omega
theorem len_two {x y : S} (n : Nat) : ((List.replicate n [x, y]).flatten).length = 2 * n := by
  induction n with
  | zero => rfl
  | succ n ih =>
    rw [List.replicate_succ, List.flatten_cons, List.length_append, ih]
    show 2 + 2 * n = _
    omega
theorem ok_ifs (n : Nat) : okTx (ifs n) = true := by
  induction n with
  | zero => rfl
  | succ n ih =>
    have e : ifs (n + 1) = 105 :: 102 :: 123 :: ifs n := by
      show (List.replicate (n + 1) [105, 102, 123]).flatten = _
      rw [List.replicate_succ, List.flatten_cons]
      rfl
    rw [e]
    unfold okTx at ih ⊢
    simp only [List.all_cons, ih]
    rfl
theorem many_core {t : Tx} {row : List S} {k0 : Nat} (n : Nat) (hk : n + 5 ≤ k0) (hlen : t.length ≤ 1500) (tk : F_tokens (k0 + 2) [.str t] [] = .ok (.ref 0) [.lst row]) (hrl : row.length = 5 + 2 * n) (hn : n ≤ 1000) (h0 : tok row 0 = .tup [.str [119, 111, 114, 100], .str [102, 110]]) {x : Tx} (h1 : row[1]? = some (.tup [.str [110, 97, 109, 101], .str x]))
    (h2 : tok row 2 = .tup [.str [109, 97, 114, 107], .str [40]]) (h3 : tok row 3 = .tup [.str [109, 97, 114, 107], .str [41]]) (hM : ∀ t, t ≤ n → tok row (4 + 2 * t) = MKT) (hI : ∀ t, t < n → tok row (4 + 2 * t + 1) = IFT) :
    ∃ st', F_parse_text (k0 + 3) [.str t] [] = .exc ⟨4, [(1, .str uend), (0, .int (6 + 2 * n : Nat))]⟩ st' := by
  have hs : t.length ≤ SZ := by unfold SZ; omega
  have c1 : tCmp gtI (eCall lenF (aCons (eVar 0) aNil)) (eC (.int 1500)) [some (.str t), none, none] [] = .ok false [] := by
    simp only [tCmp, eCall, aCons, aNil, eVar, eC, List.getElem?_cons_zero, Res.bind, len_str hs, gtI, cmpI, boolOf]
    have q : decide ((1500 : Int) < (t.length : Int)) = false := decide_eq_false (by omega)
    rw [q]
  have g2 : sAsg (eMake 2 (F_Parser___init__ (k0 + 1)) (aCons (eCall (F_tokens (k0 + 2)) (aCons (eVar 0) aNil)) aNil)) (Sm.gName 1) [some (.str t), none, none] [] = .nx [some (.str t), some (.ref 1), none] [.lst row, PC 0 0 0 0] := by
    have ini : F_Parser___init__ (k0 + 1) [.ref 1, .ref 0] [.lst row, .ins 2 []] = .ok .non [.lst row, PC 0 0 0 0] := rfl
    simp only [sAsg, eMake, aCons, aNil, eCall, eVar, List.getElem?_cons_zero, Res.bind, tk, List.length_cons, List.length_nil, List.cons_append, List.nil_append, Nat.zero_add, ini, Res.toSR, Sm.gName]
    rfl
  have g3 : sAsg (eLst aNil) (Sm.gName 2) [some (.str t), some (.ref 1), none] [.lst row, PC 0 0 0 0] = .nx [some (.str t), some (.ref 1), some (.ref 2)] [.lst row, PC 0 0 0 0, .lst []] := rfl
  obtain ⟨st', e⟩ := func_eq (k := k0 + 1) (st := [.lst row, PC 0 0 0 0, .lst []]) (p := 1) (r := 0) (d := 0) (m := 0) (row := row) rfl rfl (by decide) n (by omega) h0 h1 h2 h3 (by omega) hM hI (by omega)
  have c4 : tCmp ltI (eAttr T.ms 16 (eVar 1)) (eCall lenF (aCons (eAttr T.ms 15 (eVar 1)) aNil)) [some (.str t), some (.ref 1), some (.ref 2)] [.lst row, PC 0 0 0 0, .lst []] = .ok true [.lst row, PC 0 0 0 0, .lst []] := by
    have e16 : eAttr T.ms 16 (eVar 1) [some (.str t), some (.ref 1), some (.ref 2)] [.lst row, PC 0 0 0 0, .lst []] = .ok (.int (0 : Nat)) [.lst row, PC 0 0 0 0, .lst []] := rfl
    have e15 : eAttr T.ms 15 (eVar 1) [some (.str t), some (.ref 1), some (.ref 2)] [.lst row, PC 0 0 0 0, .lst []] = .ok (.ref 0) [.lst row, PC 0 0 0 0, .lst []] := rfl
    have el : lenF [.ref 0] [.lst row, PC 0 0 0 0, .lst []] = .ok (.int row.length) [.lst row, PC 0 0 0 0, .lst []] := rfl
    simp only [tCmp, e16, eCall, aCons, aNil, e15, Res.bind, el, ltI, cmpI, boolOf, hrl]
    have q : decide (((0 : Nat) : Int) < ((5 + 2 * n : Nat) : Int)) = true := decide_eq_true (by omega)
    rw [q]
  refine ⟨st', ?_⟩
  have il : isLst (.ref 2) [.lst row, PC 0 0 0 0, .lst []] = true := rfl
  have e' : F_read_function (k0 + 2) [.ref 1] [.lst row, PC 0 0 0 0, .lst []] = .exc (uexc row) st' := e
  have w1 : ∀ B : SM, sWhile 3000 (tCmp ltI (eAttr T.ms 16 (eVar 1)) (eCall lenF (aCons (eAttr T.ms 15 (eVar 1)) aNil))) (sSeq (sExpr (eBm isLst appendF (eVar 2) (aCons (eCall (F_read_function (k0 + 2)) (aCons (eVar 1) aNil)) aNil))) sNext) [some (.str t), some (.ref 1), some (.ref 2)] [.lst row, PC 0 0 0 0, .lst []] =
      .exc (uexc row) [some (.str t), some (.ref 1), some (.ref 2)] st' := fun _ => by
    rw [show sWhile 3000 = sWhile (2999 + 1) from rfl, while_one]
    simp only [c4, Res.toSR, if_true, sSeq, sExpr, eBm, eVar, List.getElem?_cons_zero, List.getElem?_cons_succ, Res.bind, il, aCons, eCall, aNil, e']
  have w2 := w1 sNext
  unfold F_parse_text fnS
  simp only [List.length_cons, List.length_nil, if_true, List.map_cons, List.map_nil, List.replicate, Nat.zero_add, List.cons_append, List.nil_append]
  simp only [sSeq, sIf, c1, Res.toSR, Bool.false_eq_true, if_false, sNext, g2, g3]
  have w3 : sWhile 3000 (tCmp ltI (eAttr T.ms 16 (eVar 1)) (eCall lenF (aCons (eAttr T.ms 15 (eVar 1)) aNil))) (fun ρ st => match sExpr (eBm isLst appendF (eVar 2) (aCons (eCall (F_read_function (k0 + 2)) (aCons (eVar 1) aNil)) aNil)) ρ st with | .nx ρ st => .nx ρ st | r => r) [some (.str t), some (.ref 1), some (.ref 2)] [.lst row, PC 0 0 0 0, .lst []] = .exc (uexc row) [some (.str t), some (.ref 1), some (.ref 2)] st' := w2
  first
    | rw [w2]
    | rw [w3]
    | simp only [w2]
    | simp only [w3]
  show Res.exc (⟨4, [(1, .str uend), (0, .int (row.length + 1 : Nat))]⟩ : Ex) st' = _
  rw [show row.length + 1 = 6 + 2 * n by omega]
theorem many_eq (n : Nat) (hn : n ≤ 497) : ∃ st', F_parse_text 684 [.str (txA n)] [] = .exc ⟨4, [(1, .str uend), (0, .int (6 + 2 * n : Nat))]⟩ st' := by
  have hlen : (txA n).length = 7 + 3 * n := by
    have z := len_ifs n
    show ([102, 110, 32, 102, 40, 41, 123] ++ ifs n).length = _
    rw [List.length_append, z]
    rfl
  have hok : okTx (txA n) = true := by
    have z := ok_ifs n
    unfold okTx at z ⊢
    rw [List.all_append, z]
    rfl
  have tk := tokens_eq (k := 681) (st := ([] : Sto)) (t := txA n) (by omega) hok
  rw [lex_txA n (by omega)] at tk
  generalize hrow : row5 ++ (List.replicate n [IFT, MKT]).flatten = row at tk
  have hrl : row.length = 5 + 2 * n := by rw [← hrow, List.length_append, len_two]; rfl
  have t5 : ∀ i, i < 5 → row[i]? = row5[i]? := fun i hi => by rw [← hrow, List.getElem?_append_left hi]
  have t6 : ∀ i, row[5 + i]? = ((List.replicate n [IFT, MKT]).flatten)[i]? := fun i => by rw [← hrow, List.getElem?_append_right (by show 5 ≤ _; omega)]; congr 1; show 5 + i - 5 = i; omega
  have tk5 : ∀ i (v : S), i < 5 → row5[i]? = some v → tok row i = v := fun i v hi hv => by unfold tok; rw [t5 i hi, hv]
  refine many_core (k0 := 681) (x := [102]) n (by omega) (by omega) tk hrl (by omega) (tk5 0 _ (by omega) rfl) (by rw [t5 1 (by omega)]; rfl) (tk5 2 _ (by omega) rfl) (tk5 3 _ (by omega) rfl) (fun t ht => ?_) fun t ht => ?_
  · cases t with
    | zero => exact tk5 4 _ (by omega) rfl
    | succ t =>
      unfold tok
      rw [show 4 + 2 * (t + 1) = 5 + (2 * t + 1) by omega, t6, (two_get n t (by omega)).2]
  · unfold tok
    rw [show 4 + 2 * t + 1 = 5 + 2 * t by omega, t6, (two_get n t ht).1]
theorem told_exc {k : Nat} {t : Tx} {a : Nat} {u : Tx} {st1 : Sto} (e : F_parse_text k [.str t] [] = .exc ⟨4, [(1, .str u), (0, .int a)]⟩ st1) : ∃ st', F__law_told (k + 1) [.str t] [] = .ok (.tup [.int a, .str u]) st' := by
  refine ⟨st1 ++ [.exn ⟨4, [(1, .str u), (0, .int a)]⟩], ?_⟩
  have hx : (st1 ++ [Cell.exn ⟨4, [(1, .str u), (0, .int a)]⟩])[st1.length]? = some (.exn ⟨4, [(1, .str u), (0, .int a)]⟩) := by simp
  generalize hS : st1 ++ [Cell.exn ⟨4, [(1, .str u), (0, .int a)]⟩] = S2 at hx
  have l0 : List.lookup 0 [(1, S.str u), (0, S.int a)] = some (.int a) := rfl
  have l1 : List.lookup 1 [(1, S.str u), (0, S.int a)] = some (.str u) := rfl
  unfold F__law_told fnS
  simp only [List.length_cons, List.length_nil, if_true, List.map_cons, List.map_nil, List.replicate, Nat.zero_add, List.cons_append, List.nil_append]
  have b1 : sSeq (sExpr (eCall (F_parse_text k) (aCons (eVar 0) aNil))) sNext [some (.str t), none] [] = .exc ⟨4, [(1, .str u), (0, .int a)]⟩ [some (.str t), none] st1 := by
    simp only [sSeq, sExpr, eCall, aCons, aNil, eVar, List.getElem?_cons_zero, Res.bind, e, Res.toSR]
  have x1 : tXis st1.length 4 true (eVar 1) [some (.str t), some (.ref st1.length)] S2 = .ok (.bl true) S2 := by
    simp only [tXis, eVar, List.getElem?_cons_zero, List.getElem?_cons_succ, Res.bind, hx, if_true]
    rw [if_pos ⟨trivial, by simp⟩]
  have f0 : eXf st1.length 4 0 (eVar 1) [some (.str t), some (.ref st1.length)] S2 = .ok (.int a) S2 := by
    simp only [eXf, eVar, List.getElem?_cons_zero, List.getElem?_cons_succ, Res.bind, hx, if_true, l0]
  have f1 : eXf st1.length 4 1 (eVar 1) [some (.str t), some (.ref st1.length)] S2 = .ok (.str u) S2 := by
    simp only [eXf, eVar, List.getElem?_cons_zero, List.getElem?_cons_succ, Res.bind, hx, if_true, l1]
  have tr : truth (.bl true) S2 = some true := rfl
  have sb : sub_LoanError 4 = some true := rfl
  have hd : (sSeq (sIf (tAnd (tVal (tXis st1.length 4 true (eVar 1))) (tVal (tXis st1.length 4 true (eVar 1)))) (sSeq (sRet (eTup (aCons (eXf st1.length 4 0 (eVar 1)) (aCons (eXf st1.length 4 1 (eVar 1)) aNil)))) sNext) sNext)
      (sSeq (sRet (eTup (aCons (eC (.str [111, 116, 104, 101, 114])) aNil))) sNext)) [some (.str t), some (.ref st1.length)] S2 = .rt (.tup [.int a, .str u]) S2 := by
    simp only [sSeq, sIf, tAnd, tVal, x1, Res.bind, tr, if_true, Res.toSR, sRet, eTup, aCons, aNil, f0, f1]
    rw [if_pos (by show 2 ≤ SZ; decide)]
  have tt : sTry sub_LoanError 1 (sSeq (sExpr (eCall (F_parse_text k) (aCons (eVar 0) aNil))) sNext) (fun m => sSeq (sIf (tAnd (tVal (tXis m 4 true (eVar 1))) (tVal (tXis m 4 true (eVar 1)))) (sSeq (sRet (eTup (aCons (eXf m 4 0 (eVar 1)) (aCons (eXf m 4 1 (eVar 1)) aNil)))) sNext) sNext)
      (sSeq (sRet (eTup (aCons (eC (.str [111, 116, 104, 101, 114])) aNil))) sNext)) [some (.str t), none] [] = .rt (.tup [.int a, .str u]) S2 := by
    unfold sTry
    rw [b1]
    simp only [sb, hS]
    rw [show List.set [some (S.str t), none] 1 (some (S.ref (List.length st1))) = [some (.str t), some (.ref st1.length)] from rfl, hd]
  show (match (sSeq (sTry _ _ _ _) _) _ _ with
    | .nx _ st => _
    | .rt v st => _
    | .exc e _ st => _
    | _ => _) = _
  unfold sSeq at tt ⊢
  first
    | rw [tt]
    | simp only [tt]
theorem told_many (n : Nat) (hn : n ≤ 497) : ∃ st', F__law_told 685 [.str (txA n)] [] = .ok (.tup [.int (6 + 2 * n : Nat), .str uend]) st' := by
  obtain ⟨st1, e⟩ := many_eq n hn
  exact told_exc e
end Wk

namespace Wk
open Sm
/-! ### for over a range -/
theorem for_range {lo : Int} {n s : Nat} {b : SM} (I : Nat → Env → Sto → Prop) (h : ∀ i ρ st, i < n → I i ρ st → ∃ ρ' st', b (ρ.set s (some (.int (lo + i)))) st = .nx ρ' st' ∧ I (i + 1) ρ' st') :
    ∀ j i ρ st, i + j = n → I i ρ st → ∃ ρ' st', forN (walkR lo n).at_ (Sm.gName s) b (j + 1) i ρ st = .nx ρ' st' ∧ I n ρ' st'
  | 0, i, ρ, st, hj, hi => by
    have e : i = n := by omega
    subst e
    refine ⟨ρ, st, ?_, hi⟩
    unfold forN walkR
    simp only [if_neg (Nat.lt_irrefl i)]
  | j + 1, i, ρ, st, hj, hi => by
    obtain ⟨ρ1, st1, e1, h1⟩ := h i ρ st (by omega) hi
    obtain ⟨ρ2, st2, e2, h2⟩ := for_range I h j (i + 1) ρ1 st1 (by omega) h1
    refine ⟨ρ2, st2, ?_, h2⟩
    unfold forN
    have w : (walkR lo n).at_ i st = .item (.int (lo + i)) := by unfold walkR; simp only [if_pos (show i < n by omega)]
    simp only [w, Sm.gName, e1]
    exact e2
theorem wr1 (x : Int) (h1 : x < 1000000000) (h2 : -1000000000 < x) {ρ : Env} {st : Sto} : wRange1 (aCons (eC (.int x)) aNil) ρ st = .ok (walkR 0 x.toNat) st := by
  unfold wRange1 aCons aNil eC Res.bind
  exact if_pos ⟨h1, h2⟩
theorem sFor_range1 {n s : Nat} {b : SM} {ρ : Env} {st : Sto} (z : Int) (hz : z = (n : Int)) (hn : n < 1000000) (I : Nat → Env → Sto → Prop) (h0 : I 0 ρ st) (h : ∀ i ρ st, i < n → I i ρ st → ∃ ρ' st', b (ρ.set s (some (.int i))) st = .nx ρ' st' ∧ I (i + 1) ρ' st') :
    ∃ ρ' st', sFor (wRange1 (aCons (eC (.int z)) aNil)) (Sm.gName s) b ρ st = .nx ρ' st' ∧ I n ρ' st' := by
  subst hz
  obtain ⟨ρ', st', e, hI⟩ := for_range (lo := 0) (s := s) (b := b) I (fun i ρ st hi hI => by
    obtain ⟨ρ1, st1, e, q⟩ := h i ρ st hi hI
    exact ⟨ρ1, st1, by rw [show (0 : Int) + i = i by omega]; exact e, q⟩) n 0 ρ st (by omega) h0
  refine ⟨ρ', st', ?_, hI⟩
  have q : wRange1 (aCons (eC (.int n)) aNil) ρ st = .ok (walkR 0 n) st := by
    exact wr1 n (by omega) (by omega)
  unfold sFor
  rw [q]
  exact e
theorem sFor_range2 {n s : Nat} {b : SM} {ρ : Env} {st : Sto} (i1 i2 : Nat) (z : Int) (hz : z = (n : Int)) (hv1 : ρ[i1]? = some (some (.int 0))) (hv2 : ρ[i2]? = some (some (.int z))) (hn : n < 1000000) (I : Nat → Env → Sto → Prop) (h0 : I 0 ρ st) (h : ∀ i ρ st, i < n → I i ρ st → ∃ ρ' st', b (ρ.set s (some (.int i))) st = .nx ρ' st' ∧ I (i + 1) ρ' st') :
    ∃ ρ' st', sFor (wRange2 (aCons (eVar i1) (aCons (eVar i2) aNil))) (Sm.gName s) b ρ st = .nx ρ' st' ∧ I n ρ' st' := by
  subst hz
  obtain ⟨ρ', st', e, hI⟩ := for_range (lo := 0) (s := s) (b := b) I (fun i ρ st hi hI => by
    obtain ⟨ρ1, st1, e, q⟩ := h i ρ st hi hI
    exact ⟨ρ1, st1, by rw [show (0 : Int) + i = i by omega]; exact e, q⟩) n 0 ρ st (by omega) h0
  refine ⟨ρ', st', ?_, hI⟩
  have q : wRange2 (aCons (eVar i1) (aCons (eVar i2) aNil)) ρ st = .ok (walkR 0 n) st := by
    have q1 : ((n : Int) - 0).toNat = n := by omega
    unfold wRange2 aCons aNil eVar
    simp only [hv1, hv2, Res.bind]
    rw [if_pos (by exact ⟨by omega, by omega, by omega, by omega⟩), q1]
  unfold sFor
  rw [q]
  exact e
theorem seq_nx {a b : SM} {ρ ρ1 : Env} {st st1 : Sto} (h : a ρ st = .nx ρ1 st1) : sSeq a b ρ st = b ρ1 st1 := by
  unfold sSeq
  rw [h]
theorem seq_rt {a b : SM} {ρ : Env} {st st1 : Sto} {v : S} (h : a ρ st = .rt v st1) : sSeq a b ρ st = .rt v st1 := by
  unfold sSeq
  rw [h]
theorem if_t {c : TM} {a b : SM} {ρ : Env} {st st1 : Sto} (h : c ρ st = .ok true st1) : sIf c a b ρ st = a ρ st1 := by
  unfold sIf
  rw [h]
  rfl
theorem if_f {c : TM} {a b : SM} {ρ : Env} {st st1 : Sto} (h : c ρ st = .ok false st1) : sIf c a b ρ st = b ρ st1 := by
  unfold sIf
  rw [h]
  rfl
/-! ### the script's digits -/
def good (l : List S) : Prop := ∀ x ∈ l, ∃ v : Nat, x = .int v
theorem good_app {l : List S} {v : Int} (h : good l) (hv : 0 ≤ v) : good (l ++ [.int v]) := fun x hx => by
  rcases List.mem_append.mp hx with q | q
  · exact h x q
  · rw [List.mem_singleton.mp q]
    exact ⟨v.toNat, by rw [Int.toNat_of_nonneg hv]⟩
section
variable {k : Nat} {ns : List Int} {l : List S}
theorem cell_eq (i : Nat) : ∃ c : Int, F__law_cell (k + 1) [.ref 0, .int i] [.rol (ns.map S.int), .lst l] = .ok (.int c) [.rol (ns.map S.int), .lst l] := by
  have hl : lenF [.ref 0] [.rol (ns.map S.int), .lst l] = .ok (.int ns.length) [.rol (ns.map S.int), .lst l] := by
    show Res.ok (S.int ((ns.map S.int).length)) _ = _
    rw [List.length_map]
  have c1 : tCmp ltI (eVar 1) (eCall lenF (aCons (eVar 0) aNil)) [some (.ref 0), some (.int i)] [.rol (ns.map S.int), .lst l] = .ok (decide ((i : Int) < (ns.length : Int))) [.rol (ns.map S.int), .lst l] := by
    simp only [tCmp, eVar, eCall, aCons, aNil, List.getElem?_cons_zero, List.getElem?_cons_succ, Res.bind, hl, ltI, cmpI, boolOf]
  by_cases h : i < ns.length
  · refine ⟨ns[i], ?_⟩
    have it : itemS (.ref 0) (.int i) [.rol (ns.map S.int), .lst l] = .ok (.int ns[i]) [.rol (ns.map S.int), .lst l] := by
      simp only [itemS, List.getElem?_cons_zero, at_ok, List.getElem?_map, List.getElem?_eq_getElem h, Option.map]
    unfold F__law_cell fnS
    simp only [List.length_cons, List.length_nil, if_true, List.map_cons, List.map_nil, List.replicate, Nat.sub_self, List.append_nil, Nat.zero_add]
    have q : decide ((i : Int) < (ns.length : Int)) = true := decide_eq_true (by omega)
    rw [q] at c1
    simp only [sSeq, sIf, c1, Res.toSR, if_true, sRet, eBin, eVar, List.getElem?_cons_zero, List.getElem?_cons_succ, Res.bind, it]
  · refine ⟨0, ?_⟩
    unfold F__law_cell fnS
    simp only [List.length_cons, List.length_nil, if_true, List.map_cons, List.map_nil, List.replicate, Nat.sub_self, List.append_nil, Nat.zero_add]
    have q : decide ((i : Int) < (ns.length : Int)) = false := decide_eq_false (by omega)
    rw [q] at c1
    simp only [sSeq, sIf, c1, Res.toSR, Bool.false_eq_true, if_false, sNext, sRet, eC]
/-- what stands while the digits are gathered -/
def DI (ns : List Int) (b : Nat) (ρ : Env) (st : Sto) : Prop := ∃ (l : List S) (x4 x5 x6 x7 : Option S), ρ = [some (.ref 0), some (.int 0), some (.int 20), some (.ref 1), x4, x5, x6, x7] ∧ st = [.rol (ns.map S.int), .lst l] ∧ good l ∧ l.length ≤ b
abbrev dgB1 : SM := sSeq (sIf (tCmp gtI (eVar 5) (eC (.int 0))) (sSeq (sExpr (eBm isLst appendF (eVar 3) (aCons (eBin modI (eCall intF (aCons (eVar 5) (aNil))) (eC (.int 1000))) (aNil))))
  (sSeq (sAsg (eBin fdivI (eVar 5) (eC (.int 1000))) (Sm.gName 5))
  (sNext))) (sNext))
  (sNext)
abbrev dgB2 : SM := sSeq (sAsg (eBin modI (eCall intF (aCons (eBin addS (eBin addS (eBin mulS (eVar 7) (eC (.int 16807))) (eBin mulS (eC (.int 7)) (eVar 6))) (eC (.int 1))) (aNil))) (eC (.int 2147483647))) (Sm.gName 7))
  (sSeq (sExpr (eBm isLst appendF (eVar 3) (aCons (eBin modI (eCall intF (aCons (eBin fdivI (eVar 7) (eC (.int 997))) (aNil))) (eC (.int 1000))) (aNil))))
  (sNext))
theorem app1 (hl : l.length ≤ 3000) (v : S) : appendF [.ref 1, v] [.rol (ns.map S.int), .lst l] = .ok .non [.rol (ns.map S.int), .lst (l ++ [v])] := by
  show (if l.length < SZ then _ else _) = _
  rw [if_pos (by unfold SZ; omega)]
  rfl
theorem mulOk {i j : Int} (h : (-18446744073709551616 < i ∧ i < 18446744073709551616) ∨ (-18446744073709551616 < j ∧ j < 18446744073709551616)) {st : Sto} : mulS (.int i) (.int j) st = .ok (.int (i * j)) st := if_pos h
theorem modOk {i j : Int} (h : 0 < j) {st : Sto} : modI (.int i) (.int j) st = .ok (.int (i % j)) st := if_pos h
theorem fdivOk {i j : Int} (h : 0 < j ∧ j < 1073741824) {st : Sto} : fdivI (.int i) (.int j) st = .ok (.int (i / j)) st := if_pos h
theorem turn1 {x4 x6 x7 : Option S} {c : Int} (hc : 0 ≤ c) (hg : good l) (hl : l.length ≤ 2000) : ∃ (c' : Int) (l' : List S), dgB1 [some (.ref 0), some (.int 0), some (.int 20), some (.ref 1), x4, some (.int c), x6, x7] [.rol (ns.map S.int), .lst l] =
    .nx [some (.ref 0), some (.int 0), some (.int 20), some (.ref 1), x4, some (.int c'), x6, x7] [.rol (ns.map S.int), .lst l'] ∧ 0 ≤ c' ∧ good l' ∧ l'.length ≤ l.length + 1 := by
  by_cases h : 0 < c
  · refine ⟨c / 1000, l ++ [.int (c % 1000)], ?_, by omega, good_app hg (by omega), by simp⟩
    have il : isLst (.ref 1) [.rol (ns.map S.int), .lst l] = true := rfl
    have q : decide ((0 : Int) < c) = true := decide_eq_true h
    simp only [dgB1, sSeq, sIf, tCmp, eVar, eC, List.getElem?_cons_zero, List.getElem?_cons_succ, Res.bind, gtI, cmpI, boolOf, q, Res.toSR, if_true, sExpr, eBm, il, aCons, aNil, eBin, eCall, intF, modOk (show (0 : Int) < 1000 by decide), app1 (show l.length ≤ 3000 by omega), sAsg, fdivOk (show (0 : Int) < 1000 ∧ (1000 : Int) < 1073741824 by decide), Sm.gName, sNext]
    rfl
  · refine ⟨c, l, ?_, hc, hg, by omega⟩
    have q : decide ((0 : Int) < c) = false := decide_eq_false h
    simp only [dgB1, sSeq, sIf, tCmp, eVar, eC, List.getElem?_cons_zero, List.getElem?_cons_succ, Res.bind, gtI, cmpI, boolOf, q, Res.toSR, Bool.false_eq_true, if_false, sNext]
theorem turn2 {x4 x5 : Option S} {t s : Int} (ht : 0 ≤ t ∧ t < 1000) (hs : 0 ≤ s ∧ s < 2147483647) (hg : good l) (hl : l.length ≤ 2000) : ∃ (s' : Int) (l' : List S), dgB2 [some (.ref 0), some (.int 0), some (.int 20), some (.ref 1), x4, x5, some (.int t), some (.int s)] [.rol (ns.map S.int), .lst l] =
    .nx [some (.ref 0), some (.int 0), some (.int 20), some (.ref 1), x4, x5, some (.int t), some (.int s')] [.rol (ns.map S.int), .lst l'] ∧ (0 ≤ s' ∧ s' < 2147483647) ∧ good l' ∧ l'.length ≤ l.length + 1 := by
  refine ⟨(s * 16807 + 7 * t + 1) % 2147483647, l ++ [.int ((s * 16807 + 7 * t + 1) % 2147483647 / 997 % 1000)], ?_, ⟨by omega, by omega⟩, good_app hg (by omega), by simp⟩
  have il : isLst (.ref 1) [.rol (ns.map S.int), .lst l] = true := rfl
  have g1 : sAsg (eBin modI (eCall intF (aCons (eBin addS (eBin addS (eBin mulS (eVar 7) (eC (.int 16807))) (eBin mulS (eC (.int 7)) (eVar 6))) (eC (.int 1))) (aNil))) (eC (.int 2147483647))) (Sm.gName 7) [some (.ref 0), some (.int 0), some (.int 20), some (.ref 1), x4, x5, some (.int t), some (.int s)] [.rol (ns.map S.int), .lst l] =
      .nx [some (.ref 0), some (.int 0), some (.int 20), some (.ref 1), x4, x5, some (.int t), some (.int ((s * 16807 + 7 * t + 1) % 2147483647))] [.rol (ns.map S.int), .lst l] := by
    simp only [sAsg, eBin, eCall, aCons, aNil, eVar, eC, List.getElem?_cons_zero, List.getElem?_cons_succ, Res.bind, mulOk (i := s) (j := 16807) (.inr (by decide)), mulOk (i := 7) (j := t) (.inl (by decide)), addS, intF, modOk (show (0 : Int) < 2147483647 by decide), Res.toSR, Sm.gName]
    rfl
  generalize (s * 16807 + 7 * t + 1) % 2147483647 = z at g1
  simp only [dgB2, sSeq, g1, sExpr, eBm, eVar, List.getElem?_cons_zero, List.getElem?_cons_succ, Res.bind, il, if_true, aCons, aNil, eBin, eCall, eC, fdivOk (show (0 : Int) < 997 ∧ (997 : Int) < 1073741824 by decide), intF, modOk (show (0 : Int) < 1000 by decide), app1 (show l.length ≤ 3000 by omega), Res.toSR, sNext]
abbrev dgB (k : Nat) : SM := sSeq (sAsg (eCall (F__law_cell k) (aCons (eVar 0) (aCons (eVar 4) (aNil)))) (Sm.gName 5))
  (sSeq (sIf (tCmp ltI (eVar 5) (eC (.int 0))) (sSeq (sAsg (eBin subI (eC (.int 1)) (eBin mulS (eC (.int 2)) (eVar 5))) (Sm.gName 5))
  (sNext)) (sNext))
  (sSeq (sIf (tCmp geI (eVar 5) (eBin powI (eC (.int 10)) (eC (.int 18)))) (sSeq (sFor (wRange1 (aCons (eC (.int 60)) (aNil))) (Sm.gName 6) dgB1)
  (sNext)) (sSeq (sAsg (eBin modI (eCall intF (aCons (eBin addS (eBin addS (eBin mulS (eVar 5) (eC (.int 48271))) (eBin mulS (eVar 4) (eC (.int 69621)))) (eC (.int 11))) (aNil))) (eC (.int 2147483647))) (Sm.gName 7))
  (sSeq (sFor (wRange1 (aCons (eC (.int 12)) (aNil))) (Sm.gName 6) dgB2)
  (sNext))))
  (sNext)))
end
end Wk

namespace Wk
open Sm
section
variable {k : Nat} {ns : List Int} {l : List S}
theorem dg_turn (i : Nat) (hi : i < 20) (ρ : Env) (st : Sto) (h : DI ns (60 * i) ρ st) : ∃ ρ' st', dgB (k + 1) (ρ.set 4 (some (.int i))) st = .nx ρ' st' ∧ DI ns (60 * (i + 1)) ρ' st' := by
  obtain ⟨l, x4, x5, x6, x7, rfl, rfl, hg, hl⟩ := h
  obtain ⟨c, hc⟩ := cell_eq (k := k) (ns := ns) (l := l) i
  have g1 : sAsg (eCall (F__law_cell (k + 1)) (aCons (eVar 0) (aCons (eVar 4) (aNil)))) (Sm.gName 5) [some (.ref 0), some (.int 0), some (.int 20), some (.ref 1), some (.int i), x5, x6, x7] [.rol (ns.map S.int), .lst l] =
      .nx [some (.ref 0), some (.int 0), some (.int 20), some (.ref 1), some (.int i), some (.int c), x6, x7] [.rol (ns.map S.int), .lst l] := by
    simp only [sAsg, eCall, aCons, aNil, eVar, List.getElem?_cons_zero, List.getElem?_cons_succ, Res.bind, hc, Res.toSR, Sm.gName]
    rfl
  -- the cell, not negative
  obtain ⟨c', hc', g2⟩ : ∃ c' : Int, 0 ≤ c' ∧ sIf (tCmp ltI (eVar 5) (eC (.int 0))) (sSeq (sAsg (eBin subI (eC (.int 1)) (eBin mulS (eC (.int 2)) (eVar 5))) (Sm.gName 5)) (sNext)) (sNext) [some (.ref 0), some (.int 0), some (.int 20), some (.ref 1), some (.int i), some (.int c), x6, x7] [.rol (ns.map S.int), .lst l] =
      .nx [some (.ref 0), some (.int 0), some (.int 20), some (.ref 1), some (.int i), some (.int c'), x6, x7] [.rol (ns.map S.int), .lst l] := by
    by_cases h0 : c < 0
    · refine ⟨1 - 2 * c, by omega, ?_⟩
      have q : decide (c < 0) = true := decide_eq_true h0
      simp only [sIf, tCmp, eVar, eC, List.getElem?_cons_zero, List.getElem?_cons_succ, Res.bind, ltI, cmpI, boolOf, q, Res.toSR, if_true, sSeq, sAsg, eBin, mulOk (i := 2) (j := c) (.inl (by decide)), subI, Sm.gName, sNext]
      rfl
    · refine ⟨c, by omega, ?_⟩
      have q : decide (c < 0) = false := decide_eq_false h0
      simp only [sIf, tCmp, eVar, eC, List.getElem?_cons_zero, List.getElem?_cons_succ, Res.bind, ltI, cmpI, boolOf, q, Res.toSR, Bool.false_eq_true, if_false, sNext]
  have c3 : tCmp geI (eVar 5) (eBin powI (eC (.int 10)) (eC (.int 18))) [some (.ref 0), some (.int 0), some (.int 20), some (.ref 1), some (.int i), some (.int c'), x6, x7] [.rol (ns.map S.int), .lst l] = .ok (decide ((1000000000000000000 : Int) ≤ c')) [.rol (ns.map S.int), .lst l] := by
    have p : ∀ s0 : Sto, powI (.int 10) (.int 18) s0 = .ok (.int 1000000000000000000) s0 := fun s0 => rfl
    simp only [tCmp, eBin, eVar, eC, List.getElem?_cons_zero, List.getElem?_cons_succ, Res.bind, p, geI, cmpI, boolOf]
  by_cases hb : (1000000000000000000 : Int) ≤ c'
  · have q : decide ((1000000000000000000 : Int) ≤ c') = true := decide_eq_true hb
    rw [q] at c3
    obtain ⟨ρ', st', e, l', y5, y6, hρ, hst, _, hg', hl'⟩ := sFor_range1 (n := 60) (s := 6) (b := dgB1) (ρ := [some (.ref 0), some (.int 0), some (.int 20), some (.ref 1), some (.int i), some (.int c'), x6, x7]) (st := [.rol (ns.map S.int), .lst l]) 60 rfl (by omega)
      (fun j ρ st => ∃ (l' : List S) (d : Int) (y6 : Option S), ρ = [some (.ref 0), some (.int 0), some (.int 20), some (.ref 1), some (.int i), some (.int d), y6, x7] ∧ st = [.rol (ns.map S.int), .lst l'] ∧ 0 ≤ d ∧ good l' ∧ l'.length ≤ l.length + j)
      ⟨l, c', x6, rfl, rfl, hc', hg, by omega⟩ (fun j ρ st hj hI => by
        obtain ⟨l1, d, y6, rfl, rfl, hd, hg1, hl1⟩ := hI
        obtain ⟨d', l2, e, h1, h2, h3⟩ := turn1 (ns := ns) (x4 := some (.int i)) (x6 := some (.int j)) (x7 := x7) hd hg1 (by omega)
        exact ⟨_, _, e, l2, d', some (.int j), rfl, rfl, h1, h2, by omega⟩)
    subst hρ hst
    have e' : sFor (wRange1 (aCons (eC (.int 60)) (aNil))) (Sm.gName 6) dgB1 [some (.ref 0), some (.int 0), some (.int 20), some (.ref 1), some (.int i), some (.int c'), x6, x7] [.rol (ns.map S.int), .lst l] = _ := e
    refine ⟨_, _, ?_, l', some (.int i), some (.int y5), y6, x7, rfl, rfl, hg', by omega⟩
    show dgB (k + 1) [some (.ref 0), some (.int 0), some (.int 20), some (.ref 1), some (.int i), x5, x6, x7] _ = _
    unfold dgB
    rw [seq_nx g1, seq_nx g2]
    refine seq_nx ((if_t c3).trans ?_)
    exact seq_nx e'
  · have q : decide ((1000000000000000000 : Int) ≤ c') = false := decide_eq_false hb
    rw [q] at c3
    have g40 : ∀ z : Int, sAsg (eBin modI (eCall intF (aCons (eBin addS (eBin addS (eBin mulS (eVar 5) (eC (.int 48271))) (eBin mulS (eVar 4) (eC (.int 69621)))) (eC (.int 11))) (aNil))) (eC (.int 2147483647))) (Sm.gName 7) [some (.ref 0), some (.int 0), some (.int 20), some (.ref 1), some (.int z), some (.int c'), x6, x7] [.rol (ns.map S.int), .lst l] =
        .nx [some (.ref 0), some (.int 0), some (.int 20), some (.ref 1), some (.int z), some (.int c'), x6, some (.int ((c' * 48271 + z * 69621 + 11) % 2147483647))] [.rol (ns.map S.int), .lst l] := fun z => by
      simp only [sAsg, eBin, eCall, aCons, aNil, eVar, eC, List.getElem?_cons_zero, List.getElem?_cons_succ, Res.bind, mulOk (i := c') (j := 48271) (.inr (by decide)), mulOk (i := z) (j := 69621) (.inr (by decide)), addS, intF, modOk (show (0 : Int) < 2147483647 by decide), Res.toSR, Sm.gName]
      rfl
    have g4 := g40 i
    have hsd : 0 ≤ (c' * 48271 + i * 69621 + 11) % 2147483647 ∧ (c' * 48271 + i * 69621 + 11) % 2147483647 < 2147483647 := ⟨by omega, by omega⟩
    generalize (c' * 48271 + i * 69621 + 11) % 2147483647 = sd at g4 hsd
    obtain ⟨ρ', st', e, l', s', y6, hρ, hst, _, hg', hl'⟩ := sFor_range1 (n := 12) (s := 6) (b := dgB2) (ρ := [some (.ref 0), some (.int 0), some (.int 20), some (.ref 1), some (.int i), some (.int c'), x6, some (.int sd)]) (st := [.rol (ns.map S.int), .lst l]) 12 rfl (by omega)
      (fun j ρ st => ∃ (l' : List S) (d : Int) (y6 : Option S), ρ = [some (.ref 0), some (.int 0), some (.int 20), some (.ref 1), some (.int i), some (.int c'), y6, some (.int d)] ∧ st = [.rol (ns.map S.int), .lst l'] ∧ (0 ≤ d ∧ d < 2147483647) ∧ good l' ∧ l'.length ≤ l.length + j)
      ⟨l, sd, x6, rfl, rfl, hsd, hg, by omega⟩ (fun j ρ st hj hI => by
        obtain ⟨l1, d, y6, rfl, rfl, hd, hg1, hl1⟩ := hI
        obtain ⟨d', l2, e, h1, h2, h3⟩ := turn2 (ns := ns) (x4 := some (.int i)) (x5 := some (.int c')) (t := (j : Int)) (s := d) ⟨by omega, by omega⟩ hd hg1 (by omega)
        exact ⟨_, _, e, l2, d', some (.int j), rfl, rfl, h1, h2, by omega⟩)
    subst hρ hst
    have e' : sFor (wRange1 (aCons (eC (.int 12)) (aNil))) (Sm.gName 6) dgB2 [some (.ref 0), some (.int 0), some (.int 20), some (.ref 1), some (.int i), some (.int c'), x6, some (.int sd)] [.rol (ns.map S.int), .lst l] = _ := e
    refine ⟨_, _, ?_, l', some (.int i), some (.int c'), y6, some (.int s'), rfl, rfl, hg', by omega⟩
    show dgB (k + 1) [some (.ref 0), some (.int 0), some (.int 20), some (.ref 1), some (.int i), x5, x6, x7] _ = _
    unfold dgB
    rw [seq_nx g1, seq_nx g2]
    refine seq_nx ((if_f c3).trans ?_)
    rw [seq_nx g4]
    exact seq_nx e'
end
end Wk

namespace Wk
open Sm
/-! ### a draw -/
theorem draw_eq {k b d N at_ : Nat} {l : List S} {st : Sto} (hb : st[b]? = some (.lst [.ref d, .int at_])) (hd : st[d]? = some (.lst l)) (hne : d ≠ b) (hg : good l) (hN : 0 < N) :
    ∃ v : Nat, v < N ∧ F__law_draw (k + 1) [.ref b, .int N] st = .ok (.int v) (st.set b (.lst [.ref d, .int (at_ + 1 : Nat)])) := by
  have i1 : itemS (.ref b) (.int 1) st = .ok (.int at_) st := by
    simp only [itemS, hb]
    rfl
  have g1 : sAsg (eBin itemS (eVar 0) (eC (.int 1))) (Sm.gName 2) [some (.ref b), some (.int N), none] st = .nx [some (.ref b), some (.int N), some (.int at_)] st := by
    simp only [sAsg, eBin, eVar, eC, List.getElem?_cons_zero, Res.bind, i1, Res.toSR, Sm.gName]
    rfl
  have g2 : sSub (eVar 0) (eC (.int 1)) (eBin addS (eVar 2) (eC (.int 1))) [some (.ref b), some (.int N), some (.int at_)] st = .nx [some (.ref b), some (.int N), some (.int at_)] (st.set b (.lst [.ref d, .int (at_ + 1 : Nat)])) := by
    have q : ixN [S.ref d, S.int at_].length 1 = some 1 := rfl
    simp only [sSub, eBin, eVar, eC, List.getElem?_cons_zero, List.getElem?_cons_succ, Res.bind, addS, Res.toSR, setS, hb, q]
    rfl
  have hb2 := set_get (c' := .lst [.ref d, .int (at_ + 1 : Nat)]) hb
  have hd2 : (st.set b (.lst [.ref d, .int (at_ + 1 : Nat)]))[d]? = some (.lst l) := by rw [set_ne hne]; exact hd
  generalize st.set b (.lst [.ref d, .int (at_ + 1 : Nat)]) = S2 at g2 hb2 hd2
  have i0 : itemS (.ref b) (.int 0) S2 = .ok (.ref d) S2 := by
    simp only [itemS, hb2]
    rfl
  have ln : lenF [.ref d] S2 = .ok (.int l.length) S2 := by simp only [lenF, hd2]
  have c1 : tCmp ltI (eVar 2) (eCall lenF (aCons (eBin itemS (eVar 0) (eC (.int 0))) aNil)) [some (.ref b), some (.int N), some (.int at_)] S2 = .ok (decide ((at_ : Int) < (l.length : Int))) S2 := by
    simp only [tCmp, eVar, eCall, aCons, aNil, eBin, eC, List.getElem?_cons_zero, List.getElem?_cons_succ, Res.bind, i0, ln, ltI, cmpI, boolOf]
  have hN' : (0 : Int) < (N : Int) := by omega
  by_cases h : at_ < l.length
  · obtain ⟨v, hv⟩ := hg _ (List.getElem_mem h)
    refine ⟨v % N, Nat.mod_lt _ hN, ?_⟩
    have q : decide ((at_ : Int) < (l.length : Int)) = true := decide_eq_true (by omega)
    rw [q] at c1
    have i2 : itemS (.ref d) (.int at_) S2 = .ok (.int v) S2 := by
      simp only [itemS, hd2, at_ok, List.getElem?_eq_getElem h, hv]
    unfold F__law_draw fnS
    simp only [List.length_cons, List.length_nil, if_true, List.map_cons, List.map_nil, List.replicate, Nat.zero_add, List.cons_append, List.nil_append]
    simp only [sSeq, g1, g2, sIf, c1, Res.toSR, if_true, sRet, eBin, eCall, aCons, aNil, eVar, eC, List.getElem?_cons_zero, List.getElem?_cons_succ, Res.bind, i0, i2, intF, modOk hN']
    rfl
  · refine ⟨(at_ * 7 + 3) % N, Nat.mod_lt _ hN, ?_⟩
    have q : decide ((at_ : Int) < (l.length : Int)) = false := decide_eq_false (by omega)
    rw [q] at c1
    have qv : ((at_ : Int) * 7 + 3) % (N : Int) = (((at_ * 7 + 3) % N : Nat) : Int) := by
      rw [Int.natCast_emod, Int.natCast_add, Int.natCast_mul]
      rfl
    have e3 : ∀ y z : Int, 0 < y → sRet (eBin modI (eCall intF (aCons (eBin addS (eBin mulS (eVar 2) (eC (.int 7))) (eC (.int 3))) (aNil))) (eVar 1)) [some (.ref b), some (.int y), some (.int z)] S2 = .rt (.int ((z * 7 + 3) % y)) S2 := fun y z hy => by
      simp only [sRet, eBin, eCall, aCons, aNil, eVar, eC, List.getElem?_cons_zero, List.getElem?_cons_succ, Res.bind, mulOk (i := z) (j := 7) (.inr (by decide)), addS, intF, modOk hy, Res.toSR]
    have e4 := e3 N at_ hN'
    rw [qv] at e4
    unfold F__law_draw fnS
    simp only [List.length_cons, List.length_nil, if_true, List.map_cons, List.map_nil, List.replicate, Nat.zero_add, List.cons_append, List.nil_append]
    have c2 : ∀ A : SM, sIf (tCmp ltI (eVar 2) (eCall lenF (aCons (eBin itemS (eVar 0) (eC (.int 0))) aNil))) A sNext [some (.ref b), some (.int N), some (.int at_)] S2 = .nx [some (.ref b), some (.int N), some (.int at_)] S2 := fun A => if_f c1
    rw [seq_nx g1, seq_nx g2, seq_nx (c2 _), seq_rt e4]
end Wk

namespace Wk
open Sm
section
variable {k : Nat} {ns : List Int} {l : List S}
theorem digits_eq : ∃ l, F__law_digits (k + 2) [.ref 0, .int 0, .int 20] [.rol (ns.map S.int)] = .ok (.ref 1) [.rol (ns.map S.int), .lst l] ∧ good l := by
  obtain ⟨ρ', st', e, l, x4, x5, x6, x7, hρ, hst, hg, hl⟩ := sFor_range2 (n := 20) (s := 4) (b := dgB (k + 1)) (ρ := [some (.ref 0), some (.int 0), some (.int 20), some (.ref 1), none, none, none, none]) (st := [.rol (ns.map S.int), .lst []]) 1 2 20 rfl rfl rfl (by omega)
    (fun i ρ st => DI ns (60 * i) ρ st) ⟨[], none, none, none, none, rfl, rfl, fun x hx => by simp at hx, by simp⟩ (fun i ρ st hi hI => dg_turn (k := k) i hi ρ st hI)
  subst hρ hst
  refine ⟨l, ?_, hg⟩
  have g1 : sAsg (eLst aNil) (Sm.gName 3) [some (.ref 0), some (.int 0), some (.int 20), none, none, none, none, none] [.rol (ns.map S.int)] = .nx [some (.ref 0), some (.int 0), some (.int 20), some (.ref 1), none, none, none, none] [.rol (ns.map S.int), .lst []] := rfl
  unfold F__law_digits fnS
  simp only [List.length_cons, List.length_nil, if_true, List.map_cons, List.map_nil, List.replicate, Nat.zero_add, List.cons_append, List.nil_append]
  rw [seq_nx g1, seq_nx e]
  rfl
end
end Wk

namespace Wk
open Sm
abbrev utok : Tx := [117, 110, 101, 120, 112, 101, 99, 116, 101, 100, 32, 116, 111, 107, 101, 110]
def rowsT : List (Tx × Int × Bool) := [([102, 110], 2, true), ([102, 110, 32, 102], 3, true), ([102, 110, 32, 102, 40, 97, 41, 32, 123, 32, 125], 5, false), ([102, 110, 32, 102, 40, 97, 58, 32, 120, 41, 32, 123, 32, 125], 6, false), ([102, 110, 32, 70, 40, 41, 32, 123, 32, 125], 2, false), ([102, 110, 32, 102, 40, 41, 32, 45, 62, 32, 123, 32, 125], 6, false), ([102, 110, 32, 102, 40, 41, 32, 45, 32, 111, 119, 110, 32, 123, 32, 125], 5, false), ([102, 110, 32, 102, 40, 41, 32, 123], 6, true), ([102, 110, 32, 102, 40, 41, 32, 123, 32, 120, 32, 125], 7, false), ([102, 110, 32, 102, 40, 41, 32, 123, 32, 108, 101, 116, 32, 61, 32, 110, 101, 119, 59, 32, 125], 7, false), ([102, 110, 32, 102, 40, 41, 32, 123, 32, 108, 101, 116, 32, 120, 32, 110, 101, 119, 59, 32, 125], 8, false), ([102, 110, 32, 102, 40, 41, 32, 123, 32, 108, 101, 116, 32, 120, 32, 61, 32, 59, 32, 125], 9, false), ([102, 110, 32, 102, 40, 41, 32, 123, 32, 108, 101, 116, 32, 120, 32, 61, 32, 110, 101, 119, 32, 125], 10, false), ([102, 110, 32, 102, 40, 41, 32, 123, 32, 114, 101, 97, 100, 59, 32, 125], 7, false), ([102, 110, 32, 102, 40, 41, 32, 123, 32, 114, 101, 97, 100, 32, 120, 32, 121, 59, 32, 125], 8, false), ([102, 110, 32, 102, 40, 41, 32, 123, 32, 105, 102, 32, 114, 101, 97, 100, 32, 120, 59, 32, 125], 7, false), ([102, 110, 32, 102, 40, 41, 32, 123, 32, 105, 102, 32, 123, 32, 125, 32, 101, 108, 115, 101, 32, 114, 101, 97, 100, 32, 120, 59, 32, 125], 10, false), ([102, 110, 32, 102, 40, 41, 32, 123, 32, 101, 108, 115, 101, 32, 123, 32, 125, 32, 125], 6, false), ([102, 110, 32, 102, 40, 41, 32, 123, 32, 108, 111, 111, 112, 59, 32, 125], 7, false), ([102, 110, 32, 102, 40, 41, 32, 123, 32, 98, 114, 101, 97, 107, 32, 120, 59, 32, 125], 7, false), ([102, 110, 32, 102, 40, 41, 32, 123, 32, 114, 101, 116, 117, 114, 110, 32, 120, 32, 121, 59, 32, 125], 8, false), ([102, 110, 32, 102, 40, 41, 32, 123, 32, 102, 40, 59, 32, 125], 8, false), ([102, 110, 32, 102, 40, 41, 32, 123, 32, 102, 40, 120, 44, 41, 59, 32, 125], 10, false), ([102, 110, 32, 102, 40, 41, 32, 123, 32, 102, 40, 110, 101, 119, 41, 59, 32, 125], 8, false), ([102, 110, 32, 102, 40, 41, 32, 123, 32, 108, 101, 116, 32, 120, 32, 61, 32, 114, 101, 102, 59, 32, 125], 10, false), ([102, 110, 32, 102, 40, 41, 32, 123, 32, 108, 101, 116, 32, 120, 32, 61, 32, 114, 101, 102, 32, 110, 101, 119, 59, 32, 125], 10, false), ([102, 110, 32, 102, 40, 41, 32, 123, 32, 114, 101, 102, 32, 120, 59, 32, 125], 6, false), ([102, 110, 32, 102, 40, 41, 32, 123, 32, 125, 32, 125], 7, false), ([120], 1, false), ([102, 110, 32, 108, 101, 116, 40, 41, 32, 123, 32, 125], 2, false), ([102, 110, 32, 97, 98, 99, 100, 101, 102, 103, 104, 105, 40, 41, 32, 123, 32, 125], 2, false), ([102, 110, 32, 102, 40, 41, 32, 123, 32, 114, 101, 97, 100, 32, 120, 49, 59, 32, 125], 8, false), ([102, 110, 32, 102, 40, 97, 58, 32, 111, 119, 110, 32, 98, 58, 32, 111, 119, 110, 41, 32, 123, 32, 125], 7, false), ([102, 110, 32, 102, 40, 97, 58, 32, 111, 119, 110, 44, 41, 32, 123, 32, 125], 8, false), ([102, 110, 32, 102, 40, 41, 32, 123, 32, 120, 32, 61, 32, 110, 101, 119, 32, 125], 9, false), ([102, 110, 32, 102, 40, 41, 32, 123, 32, 120, 40, 121, 41, 32, 125], 10, false), ([102, 110, 32, 102, 40, 41, 32, 123, 9, 125], 6, false), ([102, 110, 32, 102, 40, 41, 32, 45, 32, 62, 32, 111, 119, 110, 32, 123, 32, 125], 5, false), ([102, 110, 32, 102, 40, 41, 32, 123, 32, 108, 101, 116, 32, 97, 98, 99, 100, 101, 102, 103, 104, 105, 32, 61, 32, 110, 101, 119, 59, 32, 125], 7, false), ([102, 110, 32, 102, 40, 41, 32, 123, 32, 114, 101, 97, 100, 9, 120, 59, 32, 125], 7, false), ([102, 110, 32, 102, 40, 41, 32, 123, 32, 120, 32, 61, 61, 32, 110, 101, 119, 59, 32, 125], 8, false), ([102, 110, 32, 102, 40, 41, 32, 123, 32, 114, 101, 97, 100, 32, 120, 59, 32, 62, 32, 125], 9, false), ([102, 110, 32, 102, 40, 41, 32, 123, 32, 108, 111, 111, 112, 32, 123, 32, 125, 32], 9, true), ([102, 110, 32, 102, 40, 41, 32, 123, 32, 120, 32, 61, 32, 110, 101, 119], 9, true)]
def headsT : List (Tx × Int) := [([], 0), ([102, 110, 32, 97, 40, 41, 32, 123, 32, 125, 10], 6), ([102, 110, 32, 98, 40, 112, 58, 32, 111, 119, 110, 44, 32, 113, 58, 32, 109, 117, 116, 41, 32, 45, 62, 32, 111, 119, 110, 32, 123, 32, 114, 101, 116, 117, 114, 110, 32, 112, 59, 32, 125, 32, 102, 110, 32, 99, 40, 41, 32, 123, 32, 105, 102, 32, 123, 32, 125, 32, 101, 108, 115, 101, 32, 123, 32, 108, 111, 111, 112, 32, 123, 32, 98, 114, 101, 97, 107, 59, 32, 125, 32, 125, 32, 125], 35)]

def rowOk (h : Tx × Int) (r : Tx × Int × Bool) : Bool := gave (F__law_told 685 [.str (h.1 ++ r.1)] []) (.tup [.int (h.2 + r.2.1), .str (if r.2.2 = true then uend else utok)])
theorem rows0_0 : (headsT.drop 0).head?.all (fun h => ((rowsT.drop 0).take 11).all fun r => rowOk h r) = true := by decide +kernel
theorem rows0_11 : (headsT.drop 0).head?.all (fun h => ((rowsT.drop 11).take 11).all fun r => rowOk h r) = true := by decide +kernel
theorem rows0_22 : (headsT.drop 0).head?.all (fun h => ((rowsT.drop 22).take 11).all fun r => rowOk h r) = true := by decide +kernel
theorem rows0_33 : (headsT.drop 0).head?.all (fun h => ((rowsT.drop 33).take 11).all fun r => rowOk h r) = true := by decide +kernel
theorem head0 : (headsT.drop 0).head?.all (fun h => gave (F__law_told 685 [.str h.1] []) (.tup [])) = true := by decide +kernel
theorem rows1_0 : (headsT.drop 1).head?.all (fun h => ((rowsT.drop 0).take 11).all fun r => rowOk h r) = true := by decide +kernel
theorem rows1_11 : (headsT.drop 1).head?.all (fun h => ((rowsT.drop 11).take 11).all fun r => rowOk h r) = true := by decide +kernel
theorem rows1_22 : (headsT.drop 1).head?.all (fun h => ((rowsT.drop 22).take 11).all fun r => rowOk h r) = true := by decide +kernel
theorem rows1_33 : (headsT.drop 1).head?.all (fun h => ((rowsT.drop 33).take 11).all fun r => rowOk h r) = true := by decide +kernel
theorem head1 : (headsT.drop 1).head?.all (fun h => gave (F__law_told 685 [.str h.1] []) (.tup [])) = true := by decide +kernel
theorem rows2_0 : (headsT.drop 2).head?.all (fun h => ((rowsT.drop 0).take 6).all fun r => rowOk h r) = true := by decide +kernel
theorem rows2_6 : (headsT.drop 2).head?.all (fun h => ((rowsT.drop 6).take 6).all fun r => rowOk h r) = true := by decide +kernel
theorem rows2_12 : (headsT.drop 2).head?.all (fun h => ((rowsT.drop 12).take 6).all fun r => rowOk h r) = true := by decide +kernel
theorem rows2_18 : (headsT.drop 2).head?.all (fun h => ((rowsT.drop 18).take 6).all fun r => rowOk h r) = true := by decide +kernel
theorem rows2_24 : (headsT.drop 2).head?.all (fun h => ((rowsT.drop 24).take 6).all fun r => rowOk h r) = true := by decide +kernel
theorem rows2_30 : (headsT.drop 2).head?.all (fun h => ((rowsT.drop 30).take 6).all fun r => rowOk h r) = true := by decide +kernel
theorem rows2_36 : (headsT.drop 2).head?.all (fun h => ((rowsT.drop 36).take 6).all fun r => rowOk h r) = true := by decide +kernel
theorem rows2_42 : (headsT.drop 2).head?.all (fun h => ((rowsT.drop 42).take 6).all fun r => rowOk h r) = true := by decide +kernel
theorem head2 : (headsT.drop 2).head?.all (fun h => gave (F__law_told 685 [.str h.1] []) (.tup [])) = true := by decide +kernel
end Wk

namespace Wk
open Sm
abbrev utok1 : Tx := [117, 110, 101, 120, 112, 101, 99, 116, 101, 100, 32, 116, 111, 107, 101, 110]
def deepT (d : Nat) : Tx := [102, 110, 32, 102, 40, 41, 32, 123] ++ (List.replicate (d - 1) [105, 102, 32, 123]).flatten ++ (List.replicate d [125]).flatten

theorem dp60 : gave (F__law_told 685 [.str (deepT 60)] []) (.tup []) = true := by decide +kernel
theorem dp61 : gave (F__law_told 685 [.str (deepT 61)] []) (.tup [.int 0, .str [98, 108, 111, 99, 107, 115, 32, 116, 111, 111, 32, 100, 101, 101, 112]]) = true := by decide +kernel
theorem dp62 : gave (F__law_told 685 [.str (deepT 62)] []) (.tup [.int 0, .str [98, 108, 111, 99, 107, 115, 32, 116, 111, 111, 32, 100, 101, 101, 112]]) = true := by decide +kernel
theorem lg1 : gave (F__law_told 685 [.str (List.replicate 1501 [32]).flatten] []) (.tup [.int 0, .str [116, 101, 120, 116, 32, 116, 111, 111, 32, 108, 111, 110, 103]]) = true := by decide +kernel
theorem lg2 : gave (F__law_told 685 [.str ([102, 110, 32, 70, 40, 41, 32, 123, 32, 125] ++ (List.replicate 1500 [32]).flatten)] []) (.tup [.int 0, .str [116, 101, 120, 116, 32, 116, 111, 111, 32, 108, 111, 110, 103]]) = true := by decide +kernel
theorem if70 : gave (F__law_told 685 [.str ([102, 110, 32, 102, 40, 41, 32, 123] ++ (List.replicate 70 [105, 102, 32, 123]).flatten ++ [59])] []) (.tup [.int 146, .str utok1]) = true := by decide +kernel
end Wk

namespace Wk
open Sm
/-! ### steps -/
section
variable {ρ : Env} {st st1 st2 st3 : Sto} {a b : EM} {x y v : S} {r : Res S} {i : Nat}
theorem ev (h : ρ[i]? = some (some v)) : eVar i ρ st = .ok v st := by unfold eVar; rw [h]
theorem ebin {f : F2} (h1 : a ρ st = .ok x st1) (h2 : b ρ st1 = .ok y st2) (h3 : f x y st2 = r) : eBin f a b ρ st = r := by
  unfold eBin; rw [h1]; unfold Res.bind; simp only; rw [h2]; exact h3
theorem ecall0 {F : Fn} (h : F [] st = r) : eCall F aNil ρ st = r := h
theorem ecall1 {F : Fn} (h1 : a ρ st = .ok x st1) (h : F [x] st1 = r) : eCall F (aCons a aNil) ρ st = r := by
  unfold eCall aCons; rw [h1]; exact h
theorem ecall2 {F : Fn} (h1 : a ρ st = .ok x st1) (h2 : b ρ st1 = .ok y st2) (h : F [x, y] st2 = r) : eCall F (aCons a (aCons b aNil)) ρ st = r := by
  unfold eCall aCons; rw [h1]; unfold Res.bind; simp only; rw [h2]; exact h
theorem etup2 (h1 : a ρ st = .ok x st1) (h2 : b ρ st1 = .ok y st2) : eTup (aCons a (aCons b aNil)) ρ st = .ok (.tup [x, y]) st2 := by
  unfold eTup aCons; rw [h1]; unfold Res.bind; simp only; rw [h2]; rfl
theorem elst2 (h1 : a ρ st = .ok x st1) (h2 : b ρ st1 = .ok y st2) : eLst (aCons a (aCons b aNil)) ρ st = .ok (.ref st2.length) (st2 ++ [.lst [x, y]]) := by
  unfold eLst aCons; rw [h1]; unfold Res.bind; simp only; rw [h2]; rfl
theorem tcmp {f : F2} {t : Bool} (h1 : a ρ st = .ok x st1) (h2 : b ρ st1 = .ok y st2) (h3 : f x y st2 = .ok (.bl t) st3) : tCmp f a b ρ st = .ok t st3 := by
  unfold tCmp; rw [h1]; unfold Res.bind; simp only; rw [h2]; simp only; rw [h3]; rfl
theorem tor_f {a b : TM} (h1 : a ρ st = .ok false st1) (h2 : b ρ st1 = .ok false st2) : tOr a b ρ st = .ok false st2 := by
  unfold tOr; rw [h1]; unfold Res.bind; simp only; rw [if_neg (by decide)]; exact h2
theorem asg (h : a ρ st = .ok v st1) : sAsg a (Sm.gName i) ρ st = .nx (ρ.set i (some v)) st1 := by
  unfold sAsg; rw [h]; rfl
theorem unp2 {i j n : Nat} (h : a ρ st = .ok (.ref n) st1) (hl : st1[n]? = some (.lst [x, y])) : sAsg a (Sm.gUnp [Sm.gName i, Sm.gName j]) ρ st = .nx ((ρ.set i (some x)).set j (some y)) st1 := by
  unfold sAsg; rw [h]; unfold Res.toSR Sm.gUnp; simp only; rw [hl]; rfl
theorem unp3 {i j k n : Nat} {z : S} (h : a ρ st = .ok (.ref n) st1) (hl : st1[n]? = some (.lst [x, y, z])) : sAsg a (Sm.gUnp [Sm.gName i, Sm.gName j, Sm.gName k]) ρ st = .nx (((ρ.set i (some x)).set j (some y)).set k (some z)) st1 := by
  unfold sAsg; rw [h]; unfold Res.toSR Sm.gUnp; simp only; rw [hl]; rfl
end
/-! ### the same told as due -/
theorem beq_self (u : Tx) : (u == u) = true := by simp
theorem due_ne {m : Int} {u : Tx} (hu : okTx u = true) (st : Sto) : neS (.tup [.int m, .str u]) (.tup [.int m, .str u]) st = .ok (.bl false) st := by
  have h : eqV (.tup [.int m, .str u]) (.tup [.int m, .str u]) st = some true := by
    unfold eqV
    simp only [S.flat, Bool.false_and, Bool.false_eq_true, if_false, S.plain, S.plainL, hu, S.dep, S.depL, S.eqb, S.eqL]
    simp
  unfold neS
  rw [h]
  rfl
theorem due_eq {m : Int} {u : Tx} (hu : okTx u = true) (st : Sto) : eqS (.tup [.int m, .str u]) (.tup [.int m, .str u]) st = .ok (.bl true) st := by
  have h : eqV (.tup [.int m, .str u]) (.tup [.int m, .str u]) st = some true := by
    unfold eqV
    simp only [S.flat, Bool.false_and, Bool.false_eq_true, if_false, S.plain, S.plainL, hu, S.dep, S.depL, S.eqb, S.eqL]
    simp
  unfold eqS
  rw [h]
theorem nil_ne (st : Sto) : neS (.tup []) (.tup []) st = .ok (.bl false) st := rfl
/-! ### the rows -/
def rowsB : Bool := match F__law_rows 685 [] [] with
  | .ok (.ref n) G => (match G[n]? with
    | some (.lst l) => decide (l.length = 44) && (List.range 44).all fun w => match l[w]?, rowsT[w]? with
      | some (.ref j), some (t, k, e) => (match G[j]? with
        | some (.lst [.str t', .int k', .bl e']) => decide (t' = t) && (decide (k' = k) && decide (e' = e))
        | _ => false)
      | _, _ => false
    | _ => false)
  | _ => false
theorem rowsB_ok : rowsB = true := by decide +kernel
theorem rows_facts : ∃ (n : Nat) (G : Sto) (l : List S), F__law_rows 685 [] [] = .ok (.ref n) G ∧ G[n]? = some (.lst l) ∧ l.length = 44 ∧ ∀ w, w < 44 → ∃ (j : Nat) (t : Tx) (k : Int) (e : Bool), l[w]? = some (.ref j) ∧ rowsT[w]? = some (t, k, e) ∧ G[j]? = some (.lst [.str t, .int k, .bl e]) := by
  have h := rowsB_ok
  unfold rowsB at h
  split at h
  · rename_i n G hr
    split at h
    · rename_i l hl
      obtain ⟨h1, h2⟩ := Bool.and_eq_true_iff.mp h
      refine ⟨n, G, l, hr, hl, of_decide_eq_true h1, fun w hw => ?_⟩
      have h3 := List.all_eq_true.mp h2 w (List.mem_range.mpr hw)
      split at h3
      · rename_i j t k e e1 e2
        split at h3
        · rename_i t' k' e' e3
          obtain ⟨q1, q⟩ := Bool.and_eq_true_iff.mp h3
          obtain ⟨q2, q3⟩ := Bool.and_eq_true_iff.mp q
          have z1 : t' = t := of_decide_eq_true q1
          have z2 : k' = k := of_decide_eq_true q2
          have z3 : e' = e := of_decide_eq_true q3
          subst z1 z2 z3
          exact ⟨j, t', k', e', e1, e2, e3⟩
        · cases h3
      · cases h3
    · cases h
  · cases h
/-- what is told of a head and a row -/
theorem cell_ok {hd : Nat} {w : Nat} {h : Tx × Int} {t : Tx} {k : Int} {e : Bool} (h1 : headsT[hd]? = some h) (h2 : rowsT[w]? = some (t, k, e)) : gave (F__law_told 685 [.str (h.1 ++ t)] []) (.tup [.int (h.2 + k), .str (if e = true then uend else utok)]) = true ∧ gave (F__law_told 685 [.str h.1] []) (.tup []) = true := by
  have hw : w < 44 := (List.getElem?_eq_some_iff.mp h2).1
  have hh : hd < 3 := (List.getElem?_eq_some_iff.mp h1).1
  have pick : ∀ (d n : Nat), (headsT.drop hd).head?.all (fun h => ((rowsT.drop d).take n).all fun r => rowOk h r) = true → d ≤ w → w < d + n → rowOk h (t, k, e) = true := fun d n q a b => by
    have z : (headsT.drop hd).head? = some h := by rw [List.head?_drop]; exact h1
    rw [z] at q
    have q' : (((rowsT.drop d).take n).all fun r => rowOk h r) = true := q
    refine List.all_eq_true.mp q' (t, k, e) (List.mem_of_getElem? (i := w - d) ?_)
    rw [List.getElem?_take_of_lt (by omega), List.getElem?_drop, show d + (w - d) = w by omega]
    exact h2
  have pick0 : (headsT.drop hd).head?.all (fun h => gave (F__law_told 685 [.str h.1] []) (.tup [])) = true → gave (F__law_told 685 [.str h.1] []) (.tup []) = true := fun q => by
    have z : (headsT.drop hd).head? = some h := by rw [List.head?_drop]; exact h1
    rw [z] at q
    exact q
  have three : hd = 0 ∨ hd = 1 ∨ hd = 2 := by omega
  rcases three with z | z | z
  · subst z
    refine ⟨?_, pick0 head0⟩
    by_cases c1 : w < 11
    · exact pick 0 11 rows0_0 (by omega) (by omega)
    · by_cases c2 : w < 22
      · exact pick 11 11 rows0_11 (by omega) (by omega)
      · by_cases c3 : w < 33
        · exact pick 22 11 rows0_22 (by omega) (by omega)
        · exact pick 33 11 rows0_33 (by omega) (by omega)
  · subst z
    refine ⟨?_, pick0 head1⟩
    by_cases c1 : w < 11
    · exact pick 0 11 rows1_0 (by omega) (by omega)
    · by_cases c2 : w < 22
      · exact pick 11 11 rows1_11 (by omega) (by omega)
      · by_cases c3 : w < 33
        · exact pick 22 11 rows1_22 (by omega) (by omega)
        · exact pick 33 11 rows1_33 (by omega) (by omega)
  · subst z
    refine ⟨?_, pick0 head2⟩
    by_cases c1 : w < 6
    · exact pick 0 6 rows2_0 (by omega) (by omega)
    · by_cases c2 : w < 12
      · exact pick 6 6 rows2_6 (by omega) (by omega)
      · by_cases c3 : w < 18
        · exact pick 12 6 rows2_12 (by omega) (by omega)
        · by_cases c4 : w < 24
          · exact pick 18 6 rows2_18 (by omega) (by omega)
          · by_cases c5 : w < 30
            · exact pick 24 6 rows2_24 (by omega) (by omega)
            · by_cases c6 : w < 36
              · exact pick 30 6 rows2_30 (by omega) (by omega)
              · by_cases c7 : w < 42
                · exact pick 36 6 rows2_36 (by omega) (by omega)
                · exact pick 42 6 rows2_42 (by omega) (by omega)
end Wk

namespace Wk
open Sm
theorem heads_len {hd : Nat} {h : Tx × Int} (h1 : headsT[hd]? = some h) : h.1.length ≤ 1000 := by
  have a : (headsT.all fun h => decide (h.1.length ≤ 1000)) = true := by decide +kernel
  exact of_decide_eq_true (List.all_eq_true.mp a h (List.mem_of_getElem? h1))
theorem rows_len {w : Nat} {r : Tx × Int × Bool} (h1 : rowsT[w]? = some r) : r.1.length ≤ 1000 := by
  have a : (rowsT.all fun r => decide (r.1.length ≤ 1000)) = true := by decide +kernel
  exact of_decide_eq_true (List.all_eq_true.mp a r (List.mem_of_getElem? h1))
/-- the store, as the turns see it -/
structure LS (l : List S) (st : Sto) : Prop where
  dg : st[1]? = some (.lst l)
  bx : ∃ at_ : Nat, st[2]? = some (.lst [.ref 1, .int at_])
  hd : ∀ v, v < 3 → ∃ h, headsT[v]? = some h ∧ st[3 + v]? = some (.lst [.str h.1, .int h.2])
  hs : st[6]? = some (.lst [.ref 3, .ref 4, .ref 5])
theorem LS.len {l : List S} {st : Sto} (h : LS l st) : 7 ≤ st.length := lt_get h.hs
theorem LS.app {l : List S} {st : Sto} (h : LS l st) (g : Sto) : LS l (st ++ g) := by
  have hl := h.len
  refine ⟨by rw [List.getElem?_append_left (by omega)]; exact h.dg, ?_, fun v hv => ?_, by rw [List.getElem?_append_left (by omega)]; exact h.hs⟩
  · obtain ⟨a, e⟩ := h.bx
    exact ⟨a, by rw [List.getElem?_append_left (by omega)]; exact e⟩
  · obtain ⟨x, e1, e2⟩ := h.hd v hv
    exact ⟨x, e1, by rw [List.getElem?_append_left (by omega)]; exact e2⟩
theorem LS.box {l : List S} {st : Sto} (h : LS l st) (a : Nat) : LS l (st.set 2 (.lst [.ref 1, .int a])) := by
  have hl := h.len
  refine ⟨by rw [List.getElem?_set_ne (by omega)]; exact h.dg, ⟨a, List.getElem?_set_self (by omega)⟩, fun v hv => ?_, by rw [List.getElem?_set_ne (by omega)]; exact h.hs⟩
  obtain ⟨x, e1, e2⟩ := h.hd v hv
  exact ⟨x, e1, by rw [List.getElem?_set_ne (by omega)]; exact e2⟩
/-- a draw out of the box at 2 -/
theorem LS.draw {l : List S} {st : Sto} (h : LS l st) (hg : good l) (N : Nat) (hN : 0 < N) (z : Int) (hz : z = (N : Int)) : ∃ v a : Nat, v < N ∧ F__law_draw 685 [.ref 2, .int z] st = .ok (.int v) (st.set 2 (.lst [.ref 1, .int a])) := by
  obtain ⟨at_, hb⟩ := h.bx
  obtain ⟨v, hv, e⟩ := draw_eq (k := 684) hb h.dg (by decide) hg hN
  subst hz
  exact ⟨v, at_ + 1, hv, e⟩
abbrev lwB : SM := sSeq (sAsg (eBin itemS (eVar 2) (eCall (F__law_draw 685) (aCons (eVar 1) (aCons (eC (.int 3)) (aNil))))) (Sm.gUnp [Sm.gName 4, Sm.gName 5]))
  (sSeq (sAsg (eCall (impF (F__law_rows 685)) aNil) (Sm.gName 6))
  (sSeq (sAsg (eBin itemS (eVar 6) (eBin modI (eCall intF (aCons (eCall (F__law_draw 685) (aCons (eVar 1) (aCons (eC (.int 900)) (aNil)))) (aNil))) (eCall lenF (aCons (eVar 6) (aNil))))) (Sm.gUnp [Sm.gName 7, Sm.gName 8, Sm.gName 9]))
  (sSeq (sAsg (eTup (aCons (eBin addS (eVar 5) (eVar 8)) (aCons (eBin itemS (eLst (aCons (eC (.str [117, 110, 101, 120, 112, 101, 99, 116, 101, 100, 32, 116, 111, 107, 101, 110])) (aCons (eC (.str [117, 110, 101, 120, 112, 101, 99, 116, 101, 100, 32, 101, 110, 100])) (aNil)))) (eCall intF (aCons (eVar 9) (aNil)))) (aNil)))) (Sm.gName 10))
  (sSeq (sIf (tOr (tCmp neS (eCall (isoF (F__law_told 685)) (aCons (eBin addS (eVar 4) (eVar 7)) (aNil))) (eVar 10)) (tCmp neS (eCall (isoF (F__law_told 685)) (aCons (eVar 4) (aNil))) (eTup (aNil)))) (sSeq (sRet (eC (.bl false)))
  (sNext)) (sNext))
  (sNext)))))
def LI (l : List S) (ρ : Env) (st : Sto) : Prop := LS l st ∧ ∃ x3 x4 x5 x6 x7 x8 x9 x10 x11 : Option S, ρ = [some (.ref 0), some (.ref 2), some (.ref 6), x3, x4, x5, x6, x7, x8, x9, x10, x11]
theorem lw_turn {l : List S} (hg : good l) (i : Nat) (ρ : Env) (st : Sto) (h : LI l ρ st) : ∃ ρ' st', lwB (ρ.set 3 (some (.int i))) st = .nx ρ' st' ∧ LI l ρ' st' := by
  obtain ⟨hS, x3, x4, x5, x6, x7, x8, x9, x10, x11, rfl⟩ := h
  show ∃ ρ' st', lwB [some (.ref 0), some (.ref 2), some (.ref 6), some (.int i), x4, x5, x6, x7, x8, x9, x10, x11] st = .nx ρ' st' ∧ LI l ρ' st'
  -- the head
  obtain ⟨v, a1, hv, d1⟩ := hS.draw hg 3 (by decide) 3 rfl
  have hS1 := hS.box a1
  generalize st.set 2 (.lst [.ref 1, .int a1]) = S1 at d1 hS1
  obtain ⟨hh, hv1, hv2⟩ := hS1.hd v hv
  have i1 : itemS (.ref 6) (.int v) S1 = .ok (.ref (3 + v)) S1 := by
    unfold itemS
    simp only [hS1.hs]
    rw [at_ok]
    have three : v = 0 ∨ v = 1 ∨ v = 2 := by omega
    rcases three with z | z | z <;> subst z <;> rfl
  have g1 : sAsg (eBin itemS (eVar 2) (eCall (F__law_draw 685) (aCons (eVar 1) (aCons (eC (.int 3)) (aNil))))) (Sm.gUnp [Sm.gName 4, Sm.gName 5]) [some (.ref 0), some (.ref 2), some (.ref 6), some (.int i), x4, x5, x6, x7, x8, x9, x10, x11] st =
      .nx [some (.ref 0), some (.ref 2), some (.ref 6), some (.int i), some (.str hh.1), some (.int hh.2), x6, x7, x8, x9, x10, x11] S1 :=
    unp2 (ebin (ev rfl) (ecall2 (ev rfl) rfl d1) i1) hv2
  -- the rows
  obtain ⟨n, G, L, hr, hL, hLl, hrow⟩ := rows_facts
  have ir : impF (F__law_rows 685) [] S1 = .ok (.ref (S1.length + n)) (S1 ++ G.map (Cell.shift S1.length)) := by
    unfold impF
    rw [if_pos (show S.cleanL [] = true from rfl), hr]
    rfl
  have g2 : sAsg (eCall (impF (F__law_rows 685)) aNil) (Sm.gName 6) [some (.ref 0), some (.ref 2), some (.ref 6), some (.int i), some (.str hh.1), some (.int hh.2), x6, x7, x8, x9, x10, x11] S1 =
      .nx [some (.ref 0), some (.ref 2), some (.ref 6), some (.int i), some (.str hh.1), some (.int hh.2), some (.ref (S1.length + n)), x7, x8, x9, x10, x11] (S1 ++ G.map (Cell.shift S1.length)) := asg (ecall0 ir)
  have hS2 := hS1.app (G.map (Cell.shift S1.length))
  have low := hS1.len
  have cellG : ∀ (j : Nat) (c : Cell), G[j]? = some c → (S1 ++ G.map (Cell.shift S1.length))[S1.length + j]? = some (Cell.shift S1.length c) := fun j c e => by
    rw [List.getElem?_append_right (by omega), List.getElem?_map, show S1.length + j - S1.length = j by omega, e]
    rfl
  obtain ⟨v2, a2, hv2', d2⟩ := hS2.draw hg 900 (by decide) 900 rfl
  have hS3 := hS2.box a2
  have cell3 : ∀ (j : Nat) (c : Cell), G[j]? = some c → ((S1 ++ G.map (Cell.shift S1.length)).set 2 (.lst [.ref 1, .int a2]))[S1.length + j]? = some (Cell.shift S1.length c) := fun j c e => by
    rw [List.getElem?_set_ne (by omega)]
    exact cellG j c e
  generalize (S1 ++ G.map (Cell.shift S1.length)).set 2 (.lst [.ref 1, .int a2]) = S3 at d2 hS3 cell3
  have shl : ∀ (l : List S), (S.shiftL S1.length l).length = l.length := fun l => by
    induction l with
    | nil => rfl
    | cons x l ih => unfold S.shiftL; simp [ih]
  have shg : ∀ (l : List S) (w : Nat), (S.shiftL S1.length l)[w]? = (l[w]?).map (S.shift S1.length) := fun l => by
    induction l with
    | nil => intro w; rfl
    | cons x l ih =>
      intro w
      unfold S.shiftL
      cases w with
      | zero => rfl
      | succ w => exact ih w
  have lst3 : S3[S1.length + n]? = some (.lst (S.shiftL S1.length L)) := cell3 n _ hL
  have ln : lenF [.ref (S1.length + n)] S3 = .ok (.int 44) S3 := by
    unfold lenF
    simp only [lst3, shl, hLl]
    rfl
  have hw : v2 % 44 < 44 := Nat.mod_lt _ (by decide)
  obtain ⟨j, t, k, e, hj, hrT, hG⟩ := hrow (v2 % 44) hw
  have md : modI (.int v2) (.int 44) S3 = .ok (.int ((v2 % 44 : Nat) : Int)) S3 := by
    rw [modOk (show (0 : Int) < 44 by decide), Int.natCast_emod]
    rfl
  generalize v2 % 44 = wv at hw hj hrT md
  have i3 : itemS (.ref (S1.length + n)) (.int wv) S3 = .ok (.ref (S1.length + j)) S3 := by
    unfold itemS
    simp only [lst3]
    rw [at_ok, shg, hj]
    rfl
  have row3 : S3[S1.length + j]? = some (.lst [.str t, .int k, .bl e]) := cell3 j _ hG
  have g3 : sAsg (eBin itemS (eVar 6) (eBin modI (eCall intF (aCons (eCall (F__law_draw 685) (aCons (eVar 1) (aCons (eC (.int 900)) (aNil)))) (aNil))) (eCall lenF (aCons (eVar 6) (aNil))))) (Sm.gUnp [Sm.gName 7, Sm.gName 8, Sm.gName 9])
      [some (.ref 0), some (.ref 2), some (.ref 6), some (.int i), some (.str hh.1), some (.int hh.2), some (.ref (S1.length + n)), x7, x8, x9, x10, x11] (S1 ++ G.map (Cell.shift S1.length)) =
      .nx [some (.ref 0), some (.ref 2), some (.ref 6), some (.int i), some (.str hh.1), some (.int hh.2), some (.ref (S1.length + n)), some (.str t), some (.int k), some (.bl e), x10, x11] S3 :=
    unp3 (ebin (ev rfl) (ebin (ecall1 (x := .int v2) (ecall2 (ev rfl) rfl d2) rfl) (ecall1 (ev rfl) ln) md) i3) row3
  -- what is due
  have i4 : itemS (.ref S3.length) (.int (if e = true then 1 else 0)) (S3 ++ [.lst [.str utok, .str uend]]) = .ok (.str (if e = true then uend else utok)) (S3 ++ [.lst [.str utok, .str uend]]) := by
    have q : (S3 ++ [Cell.lst [.str utok, .str uend]])[S3.length]? = some (.lst [.str utok, .str uend]) := by simp
    unfold itemS
    simp only [q]
    cases e <;> rfl
  have g4 : sAsg (eTup (aCons (eBin addS (eVar 5) (eVar 8)) (aCons (eBin itemS (eLst (aCons (eC (.str [117, 110, 101, 120, 112, 101, 99, 116, 101, 100, 32, 116, 111, 107, 101, 110])) (aCons (eC (.str [117, 110, 101, 120, 112, 101, 99, 116, 101, 100, 32, 101, 110, 100])) (aNil)))) (eCall intF (aCons (eVar 9) (aNil)))) (aNil)))) (Sm.gName 10)
      [some (.ref 0), some (.ref 2), some (.ref 6), some (.int i), some (.str hh.1), some (.int hh.2), some (.ref (S1.length + n)), some (.str t), some (.int k), some (.bl e), x10, x11] S3 =
      .nx [some (.ref 0), some (.ref 2), some (.ref 6), some (.int i), some (.str hh.1), some (.int hh.2), some (.ref (S1.length + n)), some (.str t), some (.int k), some (.bl e), some (.tup [.int (hh.2 + k), .str (if e = true then uend else utok)]), x11] (S3 ++ [.lst [.str utok, .str uend]]) :=
    asg (etup2 (ebin (ev rfl) (ev rfl) rfl) (ebin (elst2 rfl rfl) (ecall1 (ev rfl) rfl) i4))
  have hS4 := hS3.app [.lst [.str utok, .str uend]]
  generalize S3 ++ [Cell.lst [.str utok, .str uend]] = S4 at g4 hS4
  -- what is told
  obtain ⟨c1, c2⟩ := cell_ok hv1 hrT
  have okU : okTx (if e = true then uend else utok) = true := by cases e <;> rfl
  have t1 : isoF (F__law_told 685) [.str (hh.1 ++ t)] S4 = .ok (.tup [.int (hh.2 + k), .str (if e = true then uend else utok)]) S4 := isoF_ok c1 rfl rfl
  have t2 : isoF (F__law_told 685) [.str hh.1] S4 = .ok (.tup []) S4 := isoF_ok c2 rfl rfl
  have ad : addS (.str hh.1) (.str t) S4 = .ok (.str (hh.1 ++ t)) S4 := by
    have z1 := heads_len hv1
    have z2 := rows_len hrT
    exact if_pos (by unfold SZ; simp only at z2; omega)
  have c5 : tOr (tCmp neS (eCall (isoF (F__law_told 685)) (aCons (eBin addS (eVar 4) (eVar 7)) (aNil))) (eVar 10)) (tCmp neS (eCall (isoF (F__law_told 685)) (aCons (eVar 4) (aNil))) (eTup (aNil)))
      [some (.ref 0), some (.ref 2), some (.ref 6), some (.int i), some (.str hh.1), some (.int hh.2), some (.ref (S1.length + n)), some (.str t), some (.int k), some (.bl e), some (.tup [.int (hh.2 + k), .str (if e = true then uend else utok)]), x11] S4 = .ok false S4 :=
    tor_f (tcmp (ecall1 (ebin (ev rfl) (ev rfl) ad) t1) (ev rfl) (due_ne okU S4)) (tcmp (ecall1 (ev rfl) t2) rfl (nil_ne S4))
  refine ⟨[some (.ref 0), some (.ref 2), some (.ref 6), some (.int i), some (.str hh.1), some (.int hh.2), some (.ref (S1.length + n)), some (.str t), some (.int k), some (.bl e), some (.tup [.int (hh.2 + k), .str (if e = true then uend else utok)]), x11], S4, ?_, hS4, _, _, _, _, _, _, _, _, _, rfl⟩
  have c6 : ∀ A : SM, sIf (tOr (tCmp neS (eCall (isoF (F__law_told 685)) (aCons (eBin addS (eVar 4) (eVar 7)) (aNil))) (eVar 10)) (tCmp neS (eCall (isoF (F__law_told 685)) (aCons (eVar 4) (aNil))) (eTup (aNil)))) A sNext
      [some (.ref 0), some (.ref 2), some (.ref 6), some (.int i), some (.str hh.1), some (.int hh.2), some (.ref (S1.length + n)), some (.str t), some (.int k), some (.bl e), some (.tup [.int (hh.2 + k), .str (if e = true then uend else utok)]), x11] S4 =
      .nx [some (.ref 0), some (.ref 2), some (.ref 6), some (.int i), some (.str hh.1), some (.int hh.2), some (.ref (S1.length + n)), some (.str t), some (.int k), some (.bl e), some (.tup [.int (hh.2 + k), .str (if e = true then uend else utok)]), x11] S4 := fun A => if_f c5
  unfold lwB
  rw [seq_nx g1, seq_nx g2, seq_nx g3, seq_nx g4, seq_nx (c6 _)]
  rfl
end Wk

namespace Wk
open Sm
theorem lex_spaces : ∀ n m : Nat, lex m ((List.replicate n [32]).flatten) = []
  | _, 0 => rfl
  | 0, m + 1 => rfl
  | n + 1, m + 1 => by
    have e : (List.replicate (n + 1) [32]).flatten = 32 :: (List.replicate n [32]).flatten := by
      rw [List.replicate_succ, List.flatten_cons]
      rfl
    rw [e, lex_sp (.inl rfl)]
    exact lex_spaces n m
theorem len_spaces (n : Nat) : ((List.replicate n [32]).flatten : Tx).length = n := by
  induction n with
  | zero => rfl
  | succ n ih =>
    rw [List.replicate_succ, List.flatten_cons, List.length_append, ih]
    show 1 + n = _
    omega
theorem ok_spaces (n : Nat) : okTx ((List.replicate n [32]).flatten) = true := by
  induction n with
  | zero => rfl
  | succ n ih =>
    have e : (List.replicate (n + 1) [32]).flatten = (32 :: (List.replicate n [32]).flatten : Tx) := by
      rw [List.replicate_succ, List.flatten_cons]
      rfl
    rw [e]
    unfold okTx at ih ⊢
    simp only [List.all_cons, ih]
    rfl
abbrev PZ : Sto := [.lst [], PC 0 0 0 0]
theorem parse_empty {t : Tx} {k0 : Nat} (hlen : t.length ≤ 1500) (tk : F_tokens (k0 + 2) [.str t] [] = .ok (.ref 0) [.lst []]) : F_parse_text (k0 + 3) [.str t] [] = .ok (.tup []) [.lst [], PC 0 0 0 0, .lst []] := by
  have hs : t.length ≤ SZ := by unfold SZ; omega
  have c1 : tCmp gtI (eCall lenF (aCons (eVar 0) aNil)) (eC (.int 1500)) [some (.str t), none, none] [] = .ok false [] := by
    have q : decide ((1500 : Int) < (t.length : Int)) = false := decide_eq_false (by omega)
    exact tcmp (ecall1 (ev rfl) (len_str hs)) rfl (by unfold gtI cmpI; simp only [q])
  have g2 : sAsg (eMake 2 (F_Parser___init__ (k0 + 1)) (aCons (eCall (F_tokens (k0 + 2)) (aCons (eVar 0) aNil)) aNil)) (Sm.gName 1) [some (.str t), none, none] [] = .nx [some (.str t), some (.ref 1), none] [.lst [], PC 0 0 0 0] := by
    have ini : F_Parser___init__ (k0 + 1) [.ref 1, .ref 0] [.lst [], .ins 2 []] = .ok .non [.lst [], PC 0 0 0 0] := rfl
    simp only [sAsg, eMake, aCons, aNil, eCall, eVar, List.getElem?_cons_zero, Res.bind, tk, List.length_cons, List.length_nil, List.cons_append, List.nil_append, Nat.zero_add, ini, Res.toSR, Sm.gName]
    rfl
  have g3 : sAsg (eLst aNil) (Sm.gName 2) [some (.str t), some (.ref 1), none] [.lst [], PC 0 0 0 0] = .nx [some (.str t), some (.ref 1), some (.ref 2)] [.lst [], PC 0 0 0 0, .lst []] := rfl
  have c4 : tCmp ltI (eAttr T.ms 16 (eVar 1)) (eCall lenF (aCons (eAttr T.ms 15 (eVar 1)) aNil)) [some (.str t), some (.ref 1), some (.ref 2)] [.lst [], PC 0 0 0 0, .lst []] = .ok false [.lst [], PC 0 0 0 0, .lst []] := rfl
  have w1 : ∀ B : SM, sWhile 3000 (tCmp ltI (eAttr T.ms 16 (eVar 1)) (eCall lenF (aCons (eAttr T.ms 15 (eVar 1)) aNil))) B [some (.str t), some (.ref 1), some (.ref 2)] [.lst [], PC 0 0 0 0, .lst []] = .nx [some (.str t), some (.ref 1), some (.ref 2)] [.lst [], PC 0 0 0 0, .lst []] := fun B => by
    rw [show sWhile 3000 = sWhile (2999 + 1) from rfl, while_one, c4]
    rfl
  have c5 : tCmp gtI (eAttr T.ms 18 (eVar 1)) (eC (.int 60)) [some (.str t), some (.ref 1), some (.ref 2)] [.lst [], PC 0 0 0 0, .lst []] = .ok false [.lst [], PC 0 0 0 0, .lst []] := rfl
  have n1 : ∀ (A : SM), sIf (tCmp gtI (eCall lenF (aCons (eVar 0) aNil)) (eC (.int 1500))) A sNext [some (.str t), none, none] [] = .nx [some (.str t), none, none] [] := fun A => if_f c1
  have n5 : ∀ (A : SM), sIf (tCmp gtI (eAttr T.ms 18 (eVar 1)) (eC (.int 60))) A sNext [some (.str t), some (.ref 1), some (.ref 2)] [.lst [], PC 0 0 0 0, .lst []] = .nx [some (.str t), some (.ref 1), some (.ref 2)] [.lst [], PC 0 0 0 0, .lst []] := fun A => if_f c5
  have r6 : sRet (eCall tupleF (aCons (eVar 2) aNil)) [some (.str t), some (.ref 1), some (.ref 2)] [.lst [], PC 0 0 0 0, .lst []] = .rt (.tup []) [.lst [], PC 0 0 0 0, .lst []] := rfl
  unfold F_parse_text fnS
  simp only [List.length_cons, List.length_nil, if_true, List.map_cons, List.map_nil, List.replicate, Nat.zero_add, List.cons_append, List.nil_append]
  rw [seq_nx (n1 _), seq_nx g2, seq_nx g3, seq_nx (w1 _), seq_nx (n5 _), seq_rt r6]
theorem prog_core {t : Tx} (pt : F_parse_text 684 [.str t] [] = .ok (.tup []) [.lst [], PC 0 0 0 0, .lst []]) : gave (F_parse_program 685 [.str t] []) (.tup []) = true := by
  have g1 : sAsg (eCall (F_parse_text (682 + 2)) (aCons (eVar 0) aNil)) (Sm.gName 1) [some (.str t), none, none] [] = .nx [some (.str t), some (.tup []), none] [.lst [], PC 0 0 0 0, .lst []] := asg (ecall1 (ev rfl) pt)
  have rf : F_rule_fault (682 + 2) [.tup []] [.lst [], PC 0 0 0 0, .lst []] = .ok .non ([.lst [], PC 0 0 0 0, .lst []] ++ [.lst []]) := rfl
  have g2 : sAsg (eCall (F_rule_fault (682 + 2)) (aCons (eVar 1) aNil)) (Sm.gName 2) [some (.str t), some (.tup []), none] [.lst [], PC 0 0 0 0, .lst []] = .nx [some (.str t), some (.tup []), some .non] ([.lst [], PC 0 0 0 0, .lst []] ++ [.lst []]) := asg (ecall1 (ev rfl) rf)
  have c3 : tCmp isNotN (eVar 2) (eC .non) [some (.str t), some (.tup []), some .non] ([.lst [], PC 0 0 0 0, .lst []] ++ [.lst []]) = .ok false ([.lst [], PC 0 0 0 0, .lst []] ++ [.lst []]) := tcmp (ev rfl) rfl rfl
  have n3 : ∀ A : SM, sIf (tCmp isNotN (eVar 2) (eC .non)) A sNext [some (.str t), some (.tup []), some .non] ([.lst [], PC 0 0 0 0, .lst []] ++ [.lst []]) = .nx [some (.str t), some (.tup []), some .non] ([.lst [], PC 0 0 0 0, .lst []] ++ [.lst []]) := fun A => if_f c3
  have r4 : sRet (eVar 1) [some (.str t), some (.tup []), some .non] ([.lst [], PC 0 0 0 0, .lst []] ++ [.lst []]) = .rt (.tup []) ([.lst [], PC 0 0 0 0, .lst []] ++ [.lst []]) := rfl
  have e0 : F_parse_program 685 = F_parse_program (682 + 3) := rfl
  rw [e0]
  unfold F_parse_program fnS
  simp only [List.length_cons, List.length_nil, if_true, List.map_cons, List.map_nil, List.replicate, Nat.zero_add, List.cons_append, List.nil_append]
  rw [seq_nx g1]
  have r2 := seq_nx (b := sSeq (sIf (tCmp isNotN (eVar 2) (eC .non)) (sSeq (fun _ _ => .bad) sNext) sNext) (sSeq (sRet (eVar 1)) sNext)) g2
  rw [r2, seq_nx (n3 _), seq_rt r4]
  rfl
theorem prog_empty : gave (F_parse_program 685 [.str ((List.replicate 1500 [32]).flatten)] []) (.tup []) = true := by
  have tk := tokens_eq (k := 681) (st := ([] : Sto)) (t := (List.replicate 1500 [32]).flatten) (by rw [len_spaces]; omega) (ok_spaces _)
  rw [lex_spaces] at tk
  exact prog_core (parse_empty (k0 := 681) (by rw [len_spaces]; omega) tk)
theorem mul_str (a : Tx) (n : Nat) (h : a.length * n ≤ SZ) (hn : n < 1000000) (st : Sto) : mulS (.str a) (.int n) st = .ok (.str (List.replicate n a).flatten) st := by
  unfold mulS
  simp only
  rw [if_pos (by rw [Int.toNat_natCast]; exact ⟨h, by omega, by omega⟩), Int.toNat_natCast]
theorem add_str (a b : Tx) (h : a.length + b.length ≤ SZ) (st : Sto) : addS (.str a) (.str b) st = .ok (.str (a ++ b)) st := if_pos h
theorem len_rep (a : Tx) (n : Nat) : ((List.replicate n a).flatten).length = n * a.length := by
  induction n with
  | zero => simp
  | succ n ih =>
    rw [List.replicate_succ, List.flatten_cons, List.length_append, ih, Nat.succ_mul]
    omega
abbrev dmsg : Tx := [98, 108, 111, 99, 107, 115, 32, 116, 111, 111, 32, 100, 101, 101, 112]
abbrev lmsg : Tx := [116, 101, 120, 116, 32, 116, 111, 111, 32, 108, 111, 110, 103]
abbrev EE (x3 x4 x5 x6 x7 x8 x9 x10 x11 : Option S) : Env := [some (.ref 0), some (.ref 2), some (.ref 6), x3, x4, x5, x6, x7, x8, x9, x10, x11]
abbrev s3 : SM := sAsg (eBin addS (eC (.int 60)) (eCall (F__law_draw 685) (aCons (eVar 1) (aCons (eC (.int 3)) (aNil))))) (Sm.gName 11)
abbrev s4 : SM := sAsg (eBin addS (eBin addS (eC (.str [102, 110, 32, 102, 40, 41, 32, 123])) (eBin mulS (eC (.str [105, 102, 32, 123])) (eBin subI (eVar 11) (eC (.int 1))))) (eBin mulS (eC (.str [125])) (eVar 11))) (Sm.gName 7)
abbrev s5 : SM := sAsg (eTup (aNil)) (Sm.gName 10)
abbrev s6 : SM := sIf (tCmp gtI (eVar 11) (eC (.int 60))) (sSeq (sAsg (eTup (aCons (eC (.int 0)) (aCons (eC (.str [98, 108, 111, 99, 107, 115, 32, 116, 111, 111, 32, 100, 101, 101, 112])) (aNil)))) (Sm.gName 10)) (sNext)) (sNext)
abbrev s7 : SM := sIf (tOr (tCmp neS (eCall (isoF (F__law_told 685)) (aCons (eVar 7) (aNil))) (eVar 10)) (tOr (tCmp neS (eCall (isoF (F__law_told 685)) (aCons (eBin mulS (eC (.str [32])) (eC (.int 1501))) (aNil))) (eTup (aCons (eC (.int 0)) (aCons (eC (.str [116, 101, 120, 116, 32, 116, 111, 111, 32, 108, 111, 110, 103])) (aNil))))) (tCmp neS (eCall (isoF (F_parse_program 685)) (aCons (eBin mulS (eC (.str [32])) (eC (.int 1500))) (aNil))) (eTup (aNil))))) (sSeq (sRet (eC (.bl false))) (sNext)) (sNext)
abbrev s8 : SM := sIf (tOr (tCmp neS (eCall (isoF (F__law_told 685)) (aCons (eBin addS (eC (.str [102, 110, 32, 70, 40, 41, 32, 123, 32, 125])) (eBin mulS (eC (.str [32])) (eC (.int 1500)))) (aNil))) (eTup (aCons (eC (.int 0)) (aCons (eC (.str [116, 101, 120, 116, 32, 116, 111, 111, 32, 108, 111, 110, 103])) (aNil))))) (tCmp neS (eCall (isoF (F__law_told 685)) (aCons (eBin addS (eBin addS (eC (.str [102, 110, 32, 102, 40, 41, 32, 123])) (eBin mulS (eC (.str [105, 102, 32, 123])) (eC (.int 70)))) (eC (.str [59]))) (aNil))) (eTup (aCons (eBin addS (eC (.int 6)) (eBin mulS (eC (.int 2)) (eC (.int 70)))) (aCons (eC (.str [117, 110, 101, 120, 112, 101, 99, 116, 101, 100, 32, 116, 111, 107, 101, 110])) (aNil)))))) (sSeq (sRet (eC (.bl false))) (sNext)) (sNext)
abbrev s9 : SM := sAsg (eBin addS (eC (.int 1)) (eCall (F__law_draw 685) (aCons (eVar 1) (aCons (eC (.int 497)) (aNil))))) (Sm.gName 5)
abbrev s10 : SM := sRet (eBin eqS (eCall (isoF (F__law_told 685)) (aCons (eBin addS (eC (.str [102, 110, 32, 102, 40, 41, 123])) (eBin mulS (eC (.str [105, 102, 123])) (eVar 5))) (aNil))) (eTup (aCons (eBin addS (eC (.int 6)) (eBin mulS (eC (.int 2)) (eVar 5))) (aCons (eC (.str [117, 110, 101, 120, 112, 101, 99, 116, 101, 100, 32, 101, 110, 100])) (aNil)))))
abbrev s0 : SM := sAsg (eLst (aCons (eCall (F__law_digits 685) (aCons (eVar 0) (aCons (eC (.int 0)) (aCons (eC (.int 20)) (aNil))))) (aCons (eC (.int 0)) (aNil)))) (Sm.gName 1)
abbrev s1 : SM := sAsg (eLst (aCons (eLst (aCons (eC (.str [])) (aCons (eC (.int 0)) (aNil)))) (aCons (eLst (aCons (eC (.str [102, 110, 32, 97, 40, 41, 32, 123, 32, 125, 10])) (aCons (eC (.int 6)) (aNil)))) (aCons (eLst (aCons (eC (.str [102, 110, 32, 98, 40, 112, 58, 32, 111, 119, 110, 44, 32, 113, 58, 32, 109, 117, 116, 41, 32, 45, 62, 32, 111, 119, 110, 32, 123, 32, 114, 101, 116, 117, 114, 110, 32, 112, 59, 32, 125, 32, 102, 110, 32, 99, 40, 41, 32, 123, 32, 105, 102, 32, 123, 32, 125, 32, 101, 108, 115, 101, 32, 123, 32, 108, 111, 111, 112, 32, 123, 32, 98, 114, 101, 97, 107, 59, 32, 125, 32, 125, 32, 125])) (aCons (eC (.int 35)) (aNil)))) (aNil))))) (Sm.gName 2)
theorem step3 {l : List S} (hg : good l) {st : Sto} (hS : LS l st) (x3 x4 x5 x6 x7 x8 x9 x10 x11 : Option S) : ∃ d st', 60 ≤ d ∧ d ≤ 62 ∧ s3 (EE x3 x4 x5 x6 x7 x8 x9 x10 x11) st = .nx (EE x3 x4 x5 x6 x7 x8 x9 x10 (some (.int (d : Nat)))) st' ∧ LS l st' := by
  obtain ⟨v, a, hv, e⟩ := hS.draw hg 3 (by decide) 3 rfl
  refine ⟨60 + v, _, by omega, by omega, ?_, hS.box a⟩
  have q : addS (.int 60) (.int v) (st.set 2 (.lst [.ref 1, .int a])) = .ok (.int ((60 + v : Nat) : Int)) (st.set 2 (.lst [.ref 1, .int a])) := by
    show Res.ok (S.int (60 + (v : Int))) _ = _
    rw [Int.natCast_add]
    rfl
  exact asg (ebin rfl (ecall2 (ev rfl) rfl e) q)
theorem step4 {st : Sto} {d : Nat} (h1 : 60 ≤ d) (h2 : d ≤ 62) (x3 x4 x5 x6 x7 x8 x9 x10 : Option S) : s4 (EE x3 x4 x5 x6 x7 x8 x9 x10 (some (.int d))) st = .nx (EE x3 x4 x5 x6 (some (.str (deepT d))) x8 x9 x10 (some (.int d))) st := by
  have q1 : subI (.int d) (.int 1) st = .ok (.int ((d - 1 : Nat) : Int)) st := by
    show Res.ok (S.int ((d : Int) - 1)) _ = _
    rw [show (d : Int) - 1 = ((d - 1 : Nat) : Int) by omega]
  have m1 := mul_str [105, 102, 32, 123] (d - 1) (by show 4 * (d - 1) ≤ SZ; unfold SZ; omega) (by omega) st
  have m2 := mul_str [125] d (by show 1 * d ≤ SZ; unfold SZ; omega) (by omega) st
  have l1 := len_rep [105, 102, 32, 123] (d - 1)
  have l2 := len_rep [125] d
  have e1 : ([105, 102, 32, 123] : Tx).length = 4 := rfl
  have e2 : ([125] : Tx).length = 1 := rfl
  rw [e1] at l1
  rw [e2] at l2
  have a1 := add_str [102, 110, 32, 102, 40, 41, 32, 123] (List.replicate (d - 1) [105, 102, 32, 123]).flatten (by rw [l1]; show 8 + (d - 1) * 4 ≤ SZ; unfold SZ; omega) st
  have a2 := add_str ([102, 110, 32, 102, 40, 41, 32, 123] ++ (List.replicate (d - 1) [105, 102, 32, 123]).flatten) (List.replicate d [125]).flatten (by rw [List.length_append, l1, l2]; show 8 + (d - 1) * 4 + d * 1 ≤ SZ; unfold SZ; omega) st
  exact asg (ebin (ebin rfl (ebin rfl (ebin (ev rfl) rfl q1) m1) a1) (ebin rfl (ev rfl) m2) a2)
theorem step6 {st : Sto} {d : Nat} (h1 : 60 ≤ d) (h2 : d ≤ 62) (x3 x4 x5 x6 x7 x8 x9 : Option S) : ∃ due : S, s6 (EE x3 x4 x5 x6 x7 x8 x9 (some (.tup [])) (some (.int d))) st = .nx (EE x3 x4 x5 x6 x7 x8 x9 (some due) (some (.int d))) st ∧ isoF (F__law_told 685) [.str (deepT d)] st = .ok due st ∧ neS due due st = .ok (.bl false) st := by
  have three : d = 60 ∨ d = 61 ∨ d = 62 := by omega
  rcases three with z | z | z
  · subst z
    exact ⟨.tup [], if_f (tcmp (ev rfl) rfl rfl), isoF_ok dp60 rfl rfl, nil_ne st⟩
  · subst z
    exact ⟨.tup [.int 0, .str dmsg], (if_t (tcmp (ev rfl) rfl rfl)).trans rfl, isoF_ok dp61 rfl rfl, due_ne rfl st⟩
  · subst z
    exact ⟨.tup [.int 0, .str dmsg], (if_t (tcmp (ev rfl) rfl rfl)).trans rfl, isoF_ok dp62 rfl rfl, due_ne rfl st⟩
theorem step7 {st : Sto} {d : Nat} {due : S} (h1 : isoF (F__law_told 685) [.str (deepT d)] st = .ok due st) (h2 : neS due due st = .ok (.bl false) st) (x3 x4 x5 x6 x8 x9 x11 : Option S) :
    s7 (EE x3 x4 x5 x6 (some (.str (deepT d))) x8 x9 (some due) x11) st = .nx (EE x3 x4 x5 x6 (some (.str (deepT d))) x8 x9 (some due) x11) st := by
  have m1 := mul_str [32] 1501 (by decide) (by decide) st
  have m2 := mul_str [32] 1500 (by decide) (by decide) st
  have t1 : isoF (F__law_told 685) [.str (List.replicate 1501 [32]).flatten] st = .ok (.tup [.int 0, .str lmsg]) st := isoF_ok lg1 rfl rfl
  have t2 : isoF (F_parse_program 685) [.str (List.replicate 1500 [32]).flatten] st = .ok (.tup []) st := isoF_ok prog_empty rfl rfl
  exact if_f (tor_f (tcmp (ecall1 (ev rfl) h1) (ev rfl) h2) (tor_f (tcmp (ecall1 (ebin rfl rfl m1) t1) rfl (due_ne rfl st)) (tcmp (ecall1 (ebin rfl rfl m2) t2) rfl (nil_ne st))))
theorem step8 {st : Sto} (x3 x4 x5 x6 x7 x8 x9 x10 x11 : Option S) : s8 (EE x3 x4 x5 x6 x7 x8 x9 x10 x11) st = .nx (EE x3 x4 x5 x6 x7 x8 x9 x10 x11) st := by
  have m1 := mul_str [32] 1500 (by decide) (by decide) st
  have l1 := len_rep [32] 1500
  have m2 := mul_str [105, 102, 32, 123] 70 (by decide) (by decide) st
  have l2 := len_rep [105, 102, 32, 123] 70
  have a1 := add_str [102, 110, 32, 70, 40, 41, 32, 123, 32, 125] (List.replicate 1500 [32]).flatten (by rw [l1]; decide) st
  have a2 := add_str [102, 110, 32, 102, 40, 41, 32, 123] (List.replicate 70 [105, 102, 32, 123]).flatten (by rw [l2]; decide) st
  have a3 := add_str ([102, 110, 32, 102, 40, 41, 32, 123] ++ (List.replicate 70 [105, 102, 32, 123]).flatten) [59] (by rw [List.length_append, l2]; decide) st
  have t1 : isoF (F__law_told 685) [.str ([102, 110, 32, 70, 40, 41, 32, 123, 32, 125] ++ (List.replicate 1500 [32]).flatten)] st = .ok (.tup [.int 0, .str lmsg]) st := isoF_ok lg2 rfl rfl
  have t2 : isoF (F__law_told 685) [.str ([102, 110, 32, 102, 40, 41, 32, 123] ++ (List.replicate 70 [105, 102, 32, 123]).flatten ++ [59])] st = .ok (.tup [.int 146, .str utok1]) st := isoF_ok if70 rfl rfl
  exact if_f (tor_f (tcmp (ecall1 (ebin rfl (ebin rfl rfl m1) a1) t1) rfl (due_ne rfl st)) (tcmp (ecall1 (ebin (ebin rfl (ebin rfl rfl m2) a2) rfl a3) t2) (etup2 (ebin rfl (ebin rfl rfl rfl) rfl) rfl) (due_ne rfl st)))
theorem step9 {l : List S} (hg : good l) {st : Sto} (hS : LS l st) (x3 x4 x5 x6 x7 x8 x9 x10 x11 : Option S) : ∃ (n : Nat) (st' : Sto), n ≤ 497 ∧ s9 (EE x3 x4 x5 x6 x7 x8 x9 x10 x11) st = .nx (EE x3 x4 (some (.int n)) x6 x7 x8 x9 x10 x11) st' := by
  obtain ⟨v, a, hv, e⟩ := hS.draw hg 497 (by decide) 497 rfl
  refine ⟨1 + v, st.set 2 (.lst [.ref 1, .int a]), by omega, ?_⟩
  have q : addS (.int 1) (.int v) (st.set 2 (.lst [.ref 1, .int a])) = .ok (.int ((1 + v : Nat) : Int)) (st.set 2 (.lst [.ref 1, .int a])) := by
    show Res.ok (S.int (1 + (v : Int))) _ = _
    rw [Int.natCast_add]
    rfl
  exact asg (ebin rfl (ecall2 (ev rfl) rfl e) q)
theorem step10 {st : Sto} {n : Nat} (hn : n ≤ 497) (x3 x4 x6 x7 x8 x9 x10 x11 : Option S) : s10 (EE x3 x4 (some (.int n)) x6 x7 x8 x9 x10 x11) st = .rt (.bl true) st := by
  have m1 := mul_str [105, 102, 123] n (by show 3 * n ≤ SZ; unfold SZ; omega) (by omega) st
  have l1 := len_rep [105, 102, 123] n
  have e1 : ([105, 102, 123] : Tx).length = 3 := rfl
  rw [e1] at l1
  have a1 := add_str [102, 110, 32, 102, 40, 41, 123] (List.replicate n [105, 102, 123]).flatten (by rw [l1]; show 7 + n * 3 ≤ SZ; unfold SZ; omega) st
  obtain ⟨st', e⟩ := told_many n hn
  have t1 : isoF (F__law_told 685) [.str (txA n)] st = .ok (.tup [.int (6 + 2 * n : Nat), .str uend]) st := by
    unfold isoF
    rw [if_pos (show S.cleanL [.str (txA n)] = true from rfl), e]
    rfl
  have q : addS (.int 6) (.int (2 * (n : Int))) st = .ok (.int ((6 + 2 * n : Nat) : Int)) st := by
    show Res.ok (S.int (6 + 2 * (n : Int))) _ = _
    rw [Int.natCast_add, Int.natCast_mul]
    rfl
  have m2 : mulS (.int 2) (.int n) st = .ok (.int (2 * (n : Int))) st := mulOk (.inl (by decide))
  have r : eBin eqS (eCall (isoF (F__law_told 685)) (aCons (eBin addS (eC (.str [102, 110, 32, 102, 40, 41, 123])) (eBin mulS (eC (.str [105, 102, 123])) (eVar 5))) (aNil))) (eTup (aCons (eBin addS (eC (.int 6)) (eBin mulS (eC (.int 2)) (eVar 5))) (aCons (eC (.str uend)) (aNil)))) (EE x3 x4 (some (.int n)) x6 x7 x8 x9 x10 x11) st = .ok (.bl true) st :=
    ebin (ecall1 (ebin rfl (ebin rfl (ev rfl) m1) a1) t1) (etup2 (ebin rfl (ebin rfl (ev rfl) m2) q) rfl) (due_eq rfl st)
  show sRet _ _ _ = _
  unfold sRet
  rw [r]
  rfl
theorem law_true (ns : List Int) : ∃ st', F_law 686 [.ref 0] [.rol (ns.map S.int)] = .ok (.bl true) st' := by
  obtain ⟨l, hd, hg⟩ := digits_eq (k := 683) (ns := ns)
  have g0 : s0 [some (.ref 0), none, none, none, none, none, none, none, none, none, none, none] [.rol (ns.map S.int)] = .nx [some (.ref 0), some (.ref 2), none, none, none, none, none, none, none, none, none, none] [.rol (ns.map S.int), .lst l, .lst [.ref 1, .int 0]] := by
    have hd' : F__law_digits 685 [.ref 0, .int 0, .int 20] [.rol (ns.map S.int)] = .ok (.ref 1) [.rol (ns.map S.int), .lst l] := hd
    have e3 : eCall (F__law_digits 685) (aCons (eVar 0) (aCons (eC (.int 0)) (aCons (eC (.int 20)) (aNil)))) [some (.ref 0), none, none, none, none, none, none, none, none, none, none, none] [.rol (ns.map S.int)] = .ok (.ref 1) [.rol (ns.map S.int), .lst l] := hd'
    have e4 : eLst (aCons (eCall (F__law_digits 685) (aCons (eVar 0) (aCons (eC (.int 0)) (aCons (eC (.int 20)) (aNil))))) (aCons (eC (.int 0)) (aNil))) [some (.ref 0), none, none, none, none, none, none, none, none, none, none, none] [.rol (ns.map S.int)] = .ok (.ref 2) [.rol (ns.map S.int), .lst l, .lst [.ref 1, .int 0]] := elst2 (y := .int 0) (st2 := [.rol (ns.map S.int), .lst l]) e3 rfl
    exact asg e4
  have g1 : s1 [some (.ref 0), some (.ref 2), none, none, none, none, none, none, none, none, none, none] [.rol (ns.map S.int), .lst l, .lst [.ref 1, .int 0]] = .nx (EE none none none none none none none none none) ([.rol (ns.map S.int), .lst l, .lst [.ref 1, .int 0]] ++ (headsT.map fun h => Cell.lst [.str h.1, .int h.2]) ++ [.lst [.ref 3, .ref 4, .ref 5]]) := rfl
  have hS0 : LS l ([.rol (ns.map S.int), .lst l, .lst [.ref 1, .int 0]] ++ (headsT.map fun h => Cell.lst [.str h.1, .int h.2]) ++ [.lst [.ref 3, .ref 4, .ref 5]]) := by
    refine ⟨rfl, ⟨0, rfl⟩, fun v hv => ?_, rfl⟩
    have three : v = 0 ∨ v = 1 ∨ v = 2 := by omega
    rcases three with z | z | z <;> subst z <;> exact ⟨_, rfl, rfl⟩
  generalize ([.rol (ns.map S.int), .lst l, .lst [.ref 1, .int 0]] ++ (headsT.map fun h => Cell.lst [.str h.1, .int h.2]) ++ [.lst [.ref 3, .ref 4, .ref 5]] : Sto) = S0 at g1 hS0
  obtain ⟨ρ', S1, g2, hS1, y3, y4, y5, y6, y7, y8, y9, y10, y11, hρ⟩ := sFor_range1 (n := 6) (s := 3) (b := lwB) (ρ := EE none none none none none none none none none) (st := S0) 6 rfl (by omega) (fun _ ρ st => LI l ρ st) ⟨hS0, none, none, none, none, none, none, none, none, none, rfl⟩ (fun i ρ st _ hI => lw_turn hg i ρ st hI)
  subst hρ
  obtain ⟨d, S2, h1, h2, g3, hS2⟩ := step3 hg hS1 y3 y4 y5 y6 y7 y8 y9 y10 y11
  have g4 := step4 (st := S2) h1 h2 y3 y4 y5 y6 y7 y8 y9 y10
  have g5 : s5 (EE y3 y4 y5 y6 (some (.str (deepT d))) y8 y9 y10 (some (.int d))) S2 = .nx (EE y3 y4 y5 y6 (some (.str (deepT d))) y8 y9 (some (.tup [])) (some (.int d))) S2 := rfl
  obtain ⟨due, g6, t1, t2⟩ := step6 (st := S2) h1 h2 y3 y4 y5 y6 (some (.str (deepT d))) y8 y9
  have g7 := step7 t1 t2 y3 y4 y5 y6 y8 y9 (some (.int d))
  have g8 := step8 (st := S2) y3 y4 y5 y6 (some (.str (deepT d))) y8 y9 (some due) (some (.int d))
  obtain ⟨n, S3, hn, g9⟩ := step9 hg hS2 y3 y4 y5 y6 (some (.str (deepT d))) y8 y9 (some due) (some (.int d))
  have g10 := step10 (st := S3) hn y3 y4 y6 (some (.str (deepT d))) y8 y9 (some due) (some (.int d))
  refine ⟨S3, ?_⟩
  have e0 : F_law 686 = F_law (685 + 1) := rfl
  rw [e0]
  unfold F_law fnS
  simp only [List.length_cons, List.length_nil, if_true, List.map_cons, List.map_nil, List.replicate, Nat.zero_add, List.cons_append, List.nil_append]
  rw [seq_nx g0, seq_nx g1, seq_nx g2, seq_nx g3, seq_nx g4, seq_nx g5, seq_nx g6, seq_nx g7, seq_nx g8, seq_nx g9, seq_rt g10]
end Wk

namespace Sm
open PySem PySem.Spec PyProof.Rows L2
abbrev CXf : CXT := fun _ _ _ _ _ _ => False
theorem FnS.ok0 {T : Tab} {P : Program} {w : World} {K : PySem.W.Frag} {mg : Str → Option Value} {base : Heap} {k : Nat} {f : Addr} {fd : FuncData} {ps : List Str} {F : Fn} {j : Nat} (G : FnS T P w K mg base k f fd ps F) (h1 : k + 7 ≤ 3 * j) (h2 : 5 * k ≤ 16 * j) (hG : needG = false) :
    FnOk P w K mg base CXf j f fd ps (fun vs H Q _ => spF T K F vs H Q fun _ _ _ => False) := by
  have g := G.ok h1 h2 hG
  refine ⟨fun vs H Q E h => g.len vs H Q _ h, fun A outer s H args us vs Q E hr e0 hb rv hsp => codeAny_mono (g.run A outer s H args us vs Q _ hr e0 hb rv hsp) fun r s' hq => ?_⟩
  cases r with
  | error e =>
    obtain ⟨_, _, _, _, _, _, _, _, _, _, _, _, z⟩ := hq
    exact z.elim
  | ok fl => cases fl <;> exact hq
end Sm
namespace Hd
open PySem PySem.Spec PyProof.Rows L2 Sm Wk
theorem facts {w : World} {K : PySem.W.Frag} {h : Heap} {mg : PySem.Str → Option Value} {f : Addr} (X : K.In h) (G : h.Ns mainGlobals mg) (hfa : mg ("law" : PySem.Str) = some (.ref f)) (c : lk.Says K) :
    ∃ fd : FuncData, (∀ (s : Shared) (v : Value), BindsTo s fd ⟨[v], []⟩ [("_law_script", v)]) ∧ ∀ base : Heap, K.In base → base.Ns mainGlobals mg → FnOk R.prog w K mg base CXf 231 f fd ["_law_script"] (fun vs H Q _ => spF T K (F_law 686) vs H Q fun _ _ _ => False) := by
  have Z := zf c X G
  have e := hfa.symm.trans Z.m_law
  cases e
  obtain ⟨fd, F1⟩ := Z.f_law.ex
  refine ⟨fd, fun s v => ?_, fun base _ _ => (s_law Z 686 fd F1).ok0 (by decide) (by decide) rfl⟩
  have bd : BindsTo s fd ⟨[v], []⟩ ((["_law_script"] : List PySem.Str).zip [v]) := by
    obtain ⟨oc, od, dV, kV, doc, pm, an, cdv, ct, osl, rfl, _, _, hdv, _⟩ := F1.ex
    rcases hdv with hdv | hdv
    · obtain rfl : dV = .none := hdv.2
      exact BindsTo.of_eq rfl
    · exact absurd rfl hdv.1
  exact bd
end Hd
open PySem PySem.W PySem.Calls PyProof.Rows
theorem PySem.Challenge.cw_loancheck_k01_faults_of_texts_holds : PySem.Challenge.rw_loancheck_k01_faults_of_texts.Holds := by
  w_on; o_law
  refine HandSHeadRun.head_any (r := OpenLaw.row PySem.Challenge.rw_loancheck_k01_faults_of_texts) (q := Hd.qv) (H := Hd.lk.hook) (ob := Hd.ob) (M := 6000) (loose := Hd.nms) (d := HandSHeadRun.topDef (OpenLaw.row PySem.Challenge.rw_loancheck_k01_faults_of_texts).prog 79) (kwd := []) Hd.ob_eq
    (by kernel_rfl) (fun s => by kernel_rfl) Hd.run (by kernel_rfl) (by kernel_rfl) (by kernel_rfl) (by rfl) (by first | assumption | decide +kernel) (by decide +kernel) ⟨rfl, rfl, rfl, rfl, rfl, by decide +kernel⟩ ?hw ?hc
  case hw => w_witness2
  case hc =>
    refine L2.walk_ofE (l := PySem.Challenge.rw_loancheck_k01_faults_of_texts) (n := 63) (k := 231) (x := "_law_script") (CX := Sm.CXf) rfl (by decide) (by kernel_rfl) ⟨rfl, by decide, by decide⟩ ?F (fun _ _ _ _ z => z)
    intro w mg fa h Y G hmg0
    obtain ⟨K, KX, c⟩ := Y
    have hmg : mg ("law" : PySem.Str) = some (.ref fa) := by
      have e : (HandSHeadRun.topDef (OpenLaw.row PySem.Challenge.rw_loancheck_k01_faults_of_texts).prog 79).name = ("law" : PySem.Str) := by kernel_rfl
      rw [← e]
      exact hmg0
    obtain ⟨fd, hb, hF⟩ := Hd.facts (w := w) KX G hmg c
    exact ⟨K, fd, (fun vs H Q _ => Sm.spF Wk.T K (Wk.F_law 686) vs H Q fun _ _ _ => False), KX, hb, fun H a ns hl ho hS => Sm.script_post c.parts.1 ho hS (Wk.law_true ns), hF⟩

