import PyProof.Rows.All
import Wide.All
import OpenK.AllK
import Wide.FinOn
import HandS.ForMost
import HandS.Walk
import HandS.Exc
import HandS.ExcOwn
import HandS.WordsExc
import HandS.CallSlots
import HandS.HeadHook1
import HandS.TupAny
import HandS.Wide
import HandS.Style
import HandS.IsInst
import HandS.Small
import HandS.TryOnly
import HandS.WideMore
import HandS.Defaults
import HandS.Ends
import HandS.EndTab
import HandS.Head0
import HandS.Head1
import HandS.Head2
import HandS.HeadEnd
import HandS.HeadHook2
import HandS.HeadHook3
import HandS.HeadHook4
import HandS.HeadWalk
import PySem.Challenge.RW_everynumeral_k95_faulty_texts_of_numeral
import KE.IntTextLaws
import HandS.Text
set_option Elab.async false
set_option linter.all false
set_option maxRecDepth 100000
set_option maxHeartbeats 0
set_option autoImplicit false
/-! A small evaluator over plain data, its language (E, T, I, S), and how a def of the program is read into it (c*). -/
namespace PyE
open PySem

/-- plain data: what a value of the program is worth -/
inductive D where
  | non | bl (b : Bool) | int (i : Int) | str (s : List Nat) | tup (ds : List D) | lst (ds : List D) | rol (ds : List D) | ref (n : Nat)
  deriving Inhabited
/-- a slot of a frame: nothing, a value that others may hold, a list that this slot alone holds -/
inductive Sl where
  | no | sh (d : D) | own (d : D)
  deriving Inhabited
abbrev Env := List Sl
/-- a thing with an identity -/
inductive Ob where
  | lst (ds : List D) | dic (kvs : List (List L2.Key × D)) | ins (c : Str) (fs : List (Str × D))
abbrev Store := List Ob
/-- an exception: its class by number, its values -/
structure Xc where
  cls : Str
  args : List D
inductive Res (a : Type) where
  | ok (x : a) (s : Store) | exc (x : Xc) (s : Store) | bad
def Res.bind {a b : Type} : Res a → (a → Store → Res b) → Res b
  | .ok x s, f => f x s
  | .exc x s, _ => .exc x s
  | .bad, _ => .bad
def ofO {a : Type} : Option a → Store → Res a
  | some x, s => .ok x s
  | none, _ => .bad
@[simp] theorem bind_ok {a b : Type} (x : a) (s : Store) (f : a → Store → Res b) : (Res.ok x s).bind f = f x s := rfl
@[simp] theorem bind_exc {a b : Type} (x : Xc) (s : Store) (f : a → Store → Res b) : (Res.exc x s).bind f = .exc x s := rfl
@[simp] theorem bind_bad {a b : Type} (f : a → Store → Res b) : (Res.bad : Res a).bind f = .bad := rfl
@[simp] theorem ofO_some {a : Type} (x : a) (s : Store) : ofO (some x) s = .ok x s := rfl
@[simp] theorem ofO_none {a : Type} (s : Store) : (ofO none s : Res a) = .bad := rfl

inductive B where | add | sub | mul | fdiv | mod | pow
  deriving DecidableEq
inductive C where | eq | ne | lt | le | gt | ge | is | isnot | inn | notin
  deriving DecidableEq
/-- built-in functions of values -/
inductive F where | len | sum | min1 | max1 | min2 | max2 | abs | int | str | tuple | list | sorted | all | any
  deriving DecidableEq
/-- built-in classes that are asked for -/
inductive Ty where | int | bool | str | tuple | list
  deriving DecidableEq
/-- targets -/
inductive Tg where | name (i : Nat) | tup (is : List Nat)

mutual
inductive E where
  | var (i : Nat) | con (d : D) | bin (o : B) (a b : E) | neg (a : E) | cmp (o : C) (a b : E) | chain (o p : C) (a b c : E)
  | andv (a b : E) | orv (a b : E) | notv (a : E) | ite (t : T) (a b : E) | tup (es : Es) | lst (es : Es) | newl (es : Es)
  | idx (a i : E) | slc (a : E) (lo hi : Eo) | rev (a : E) | call (f : Nat) (es : Es) | blt (f : F) (es : Es) | isi (a : E) (t : Ty)
  | newd | dgt (a : E) (es : Es)
  | never | fld (c : Str) (a : E) (f : Str) | meth (c : Str) (f : Nat) (m : Str) (a : E) (es : Es) | make (c : Str) (f : Nat) (es : Es) | join (a e : E)
  | comp (e : E) (tg : Tg) (it : I) (t : To) (vs : List Nat)
inductive Es where
  | nil | cons (e : E) (r : Es)
inductive Eo where
  | none | some (e : E)
/-- tests -/
inductive T where
  | tru (e : E) | and (a b : T) | or (a b : T) | not (a : T)
inductive To where
  | yes | one (t : T)
/-- what is walked -/
inductive I where
  | seq (e : E) | rng1 (e : E) | rng2 (a b : E) | zip (a b : E) | enum (a : E)
end

inductive S where
  | skip | seq (a b : S) | asg (tg : Tg) (e : E) | par2 (i j : Nat) (a b : E) | par3 (i j k : Nat) (a b c : E) | aug (i : Nat) (o : B) (e : E)
  | set (o i e : E) | dput (o : E) (es : Es) (e : E) | app (o e : E) | exp (e : E) | ite (t : T) (a b : S) | while (t : T) (b : S) | for (tg : Tg) (it : I) (b : S)
  | ret (e : E) | retN | brk | cont
  | never | fset (c : Str) (a : E) (f : Str) (e : E) | faug (c : Str) (a : E) (f : Str) (o : B) (e : E) | raise (c : Str) (es : Es) | tryR (b : S) (c : Str) (d : D)
inductive Flow where
  | nx (r : Env) | ret (own : Bool) (d : D) | br (r : Env) | ct (r : Env)

/-! ### operations on data -/
def SZ : Nat := 16777216
def small64 (i : Int) : Bool := decide (-(2 ^ 64) < i) && decide (i < 2 ^ 64)
def mulOk (i j : Int) : Bool := small64 i || small64 j || decide (i.natAbs.log2 + j.natAbs.log2 < 1000000)
def divOk (j : Int) : Bool := decide (0 < j) && (decide (j < 1073741824) || decide (j.natAbs.log2 < 9000))
def binD : B → D → D → Option D
  | .add, .int i, .int j => some (.int (i + j))
  | .add, .str x, .str y => if x.length + y.length ≤ SZ then some (.str (x ++ y)) else none
  | .add, .tup x, .tup y => if x.length + y.length ≤ SZ then some (.tup (x ++ y)) else none
  | .add, .lst x, .lst y => if x.length + y.length ≤ SZ then some (.lst (x ++ y)) else none
  | .sub, .int i, .int j => some (.int (i - j))
  | .mul, .int i, .int j => if mulOk i j then some (.int (i * j)) else none
  | .mul, .str x, .int k => if 0 ≤ k ∧ k ≤ 1000000 ∧ x.length * k.toNat ≤ 1000000 then some (.str (List.replicate k.toNat x).flatten) else none
  | .mul, .lst x, .int k => if 0 ≤ k ∧ k ≤ 1000000 ∧ x.length * k.toNat ≤ SZ then some (.lst (List.replicate k.toNat x).flatten) else none
  | .fdiv, .int i, .int j => if divOk j then some (.int (i / j)) else none
  | .mod, .int i, .int j => if 0 < j then some (.int (i % j)) else none
  | .pow, .int i, .int j => if 0 ≤ j ∧ j ≤ 1000000 ∧ i.natAbs < 2 ^ 64 then some (.int (i ^ j.toNat)) else none
  | _, _, _ => none
mutual
def dep : D → Nat
  | .tup ds => deps ds + 1
  | .lst ds => deps ds + 1
  | _ => 0
def deps : List D → Nat
  | [] => 0
  | d :: r => max (dep d) (deps r)
end
mutual
/-- == of data (no identities) -/
def eqD : D → D → Bool
  | .non, .non => true
  | .bl a, .bl b => a == b
  | .bl a, .int j => (if a then 1 else 0) == j
  | .int i, .bl b => i == (if b then 1 else 0)
  | .int i, .int j => i == j
  | .str x, .str y => x == y
  | .lst xs, .lst ys => eqDs xs ys
  | .tup xs, .tup ys => eqDs xs ys
  | _, _ => false
def eqDs : List D → List D → Bool
  | [], [] => true
  | x :: xs, y :: ys => eqD x y && eqDs xs ys
  | _, _ => false
end
mutual
/-- no identity within, each sign of a text one that there is -/
def plainD : D → Bool
  | .ref _ => false
  | .rol _ => false
  | .tup ds => plainDs ds
  | .lst ds => plainDs ds
  | .str s => s.all (· < 0x110000)
  | _ => true
def plainDs : List D → Bool
  | [] => true
  | d :: r => plainD d && plainDs r
end
def flat : D → Bool
  | .non => true | .bl _ => true | .int _ => true | .str _ => true
  | _ => false
def scalD : D → D → Bool
  | .non, .non => true | .non, .int _ => true | .int _, .non => true | .non, .bl _ => true | .bl _, .non => true | .non, .str _ => true | .str _, .non => true
  | .int _, .int _ => true | .bl _, .bl _ => true | .str _, .str _ => true | .int _, .str _ => true | .str _, .int _ => true | .bl _, .str _ => true | .str _, .bl _ => true
  | _, _ => false
def isNon : D → Bool
  | .non => true
  | _ => false
/-- == of two values: plain ones by themselves, nested ones to a depth -/
def eqO (x y : D) : Option Bool :=
  if scalD x y then some (eqD x y) else if plainD x && plainD y && decide (dep x ≤ 64) && decide (dep y ≤ 64) then some (eqD x y) else none
def strIn : List Nat → List Nat → Bool
  | [c], y => decide (c ∈ y)
  | x, y => !(Builtin.Str.occurrences ⟨y.toArray⟩ ⟨x.toArray⟩ 0 y.length 1).isEmpty
def inO (x : D) : D → Option Bool
  | .str y => match x with
    | .str z => some (strIn z y)
    | _ => none
  | .lst ds => if flat x && ds.all flat then some (ds.any fun z => eqD z x) else none
  | .tup ds => if flat x && ds.all flat then some (ds.any fun z => eqD z x) else none
  | _ => none
def cmpD : C → D → D → Option Bool
  | .lt, .int i, .int j => some (decide (i < j))
  | .le, .int i, .int j => some (decide (i ≤ j))
  | .gt, .int i, .int j => some (decide (j < i))
  | .ge, .int i, .int j => some (decide (j ≤ i))
  | .eq, x, y => eqO x y
  | .ne, x, y => (eqO x y).map (!·)
  | .is, x, .non => some (isNon x)
  | .isnot, x, .non => some (!isNon x)
  | .inn, x, y => inO x y
  | .notin, x, y => (inO x y).map (!·)
  | _, _, _ => none
abbrev atD {a : Type} (xs : List a) (i : Int) : Option a := L2.atI xs i
def idxD (st : Store) : D → D → Option D
  | .tup ds, .int i => atD ds i
  | .lst ds, .int i => atD ds i
  | .rol ds, .int i => atD ds i
  | .str s, .int i => if s.length ≤ SZ then (atD s i).map fun c => .str [c] else none
  | .ref n, .int i => match st[n]? with | some (.lst ds) => atD ds i | _ => none
  | _, _ => none
def cut {a : Type} (xs : List a) (lo hi : Option Int) : List a := (xs.drop (HT.sIx xs.length 0 lo)).take (HT.sIx xs.length xs.length hi - HT.sIx xs.length 0 lo)
def slcD : D → Option Int → Option Int → Option D
  | .tup ds, lo, hi => some (.tup (cut ds lo hi))
  | .lst ds, lo, hi => some (.lst (cut ds lo hi))
  | .rol ds, lo, hi => some (.lst (cut ds lo hi))
  | .str s, lo, hi => if s.length ≤ SZ then some (.str (cut s lo hi)) else none
  | _, _, _ => none
def revD : D → Option D
  | .lst ds => some (.lst ds.reverse)
  | _ => none
def truD (st : Store) : D → Option Bool
  | .non => some false
  | .bl b => some b
  | .int i => some (i != 0)
  | .str s => if s.length ≤ SZ then some (!s.isEmpty) else none
  | .tup ds => some (!ds.isEmpty)
  | .lst ds => some (!ds.isEmpty)
  | _ => none
def intsD : List D → Option (List Int)
  | [] => some []
  | .int i :: r => (intsD r).map (i :: ·)
  | _ => none
def blsD : List D → Option (List Bool)
  | [] => some []
  | .bl i :: r => (blsD r).map (i :: ·)
  | _ => none
def isiD : D → Ty → Option Bool
  | .int _, t => some (t == .int)
  | .bl _, t => some (t == .int || t == .bool)
  | .str _, t => some (t == .str)
  | .tup _, t => some (t == .tuple)
  | .lst _, t => some (t == .list)
  | .non, _ => some false
  | _, _ => none
def minI (i j : Int) : Int := if j < i then j else i
def maxI (i j : Int) : Int := if j > i then j else i
def bltD (st : Store) : F → List D → Option D
  | .len, [.tup ds] => some (.int ds.length)
  | .len, [.lst ds] => some (.int ds.length)
  | .len, [.rol ds] => some (.int ds.length)
  | .len, [.str s] => if s.length ≤ SZ then some (.int s.length) else none
  | .len, [.ref n] => match st[n]? with | some (.lst ds) => some (.int ds.length) | _ => none
  | .sum, [.lst ds] => (intsD ds).map fun ns => .int ns.sum
  | .min2, [.int i, .int j] => some (.int (minI i j))
  | .max2, [.int i, .int j] => some (.int (maxI i j))
  | .abs, [.int i] => some (.int (if i < 0 then -i else i))
  | .int, [.int i] => some (.int i)
  | .int, [.bl b] => some (.int (if b then 1 else 0))
  | .int, [.str z] => if z.length ≤ 640 then (PySem.intText? ⟨z.toArray⟩).map .int else none
  | .str, [.int i] => if i.natAbs.log2 < 1920 then some (.str (toString i : Str).cps.toList) else none
  | .tuple, [.lst ds] => some (.tup ds)
  | .tuple, [.tup ds] => some (.tup ds)
  | .list, [.lst ds] => some (.lst ds)
  | .list, [.rol ds] => some (.lst ds)
  | .list, [.tup ds] => some (.lst ds)
  | .all, [.lst ds] => (blsD ds).map fun bs => .bl (bs.all id)
  | .any, [.lst ds] => (blsD ds).map fun bs => .bl (bs.any id)
  | _, _ => none
def strsD : List D → Option (List (List Nat))
  | [] => some []
  | .str z :: r => (strsD r).map (z :: ·)
  | _ => none
/-- texts, joined -/
def joinL (z : List Nat) : List (List Nat) → List Nat
  | [] => []
  | [x] => x
  | x :: y :: r => x ++ (z ++ joinL z (y :: r))
def joinD : D → D → Option D
  | .str z, .lst ds => (strsD ds).bind fun ys => if (ys.map (·.length)).sum + ys.length * z.length ≤ SZ then some (.str (joinL z ys)) else none
  | .str z, .tup ds => (strsD ds).bind fun ys => if (ys.map (·.length)).sum + ys.length * z.length ≤ SZ then some (.str (joinL z ys)) else none
  | _, _ => none
def fldD (st : Store) (x : D) (c f : Str) : Option D := match x with
  | .ref n => match st[n]? with
    | some (.ins c' fs) => if c' = c then fs.lookup f else none
    | _ => none
  | _ => none
def insB (st : Store) (x : D) (c m : Str) : Bool := match x with
  | .ref n => match st[n]? with
    | some (.ins c' fs) => decide (c' = c) && (fs.lookup m).isNone
    | _ => false
  | _ => false
def keyD : D → Option L2.Key
  | .int i => some (.inl i)
  | .str s => some (.inr ⟨s.toArray⟩)
  | _ => none
def keysD : List D → Option (List L2.Key)
  | [] => some []
  | d :: r => match keyD d, keysD r with
    | some k, some ks => some (k :: ks)
    | _, _ => none
def valD (kvs : List (List L2.Key × D)) (k : List L2.Key) : Option D := (kvs.find? fun kv => decide (kv.1 = k)).map (·.2)
def putD (kvs : List (List L2.Key × D)) (k : List L2.Key) (d : D) : List (List L2.Key × D) :=
  if (kvs.any fun kv => decide (kv.1 = k)) = true then kvs.map (fun kv => if kv.1 = k then (kv.1, d) else kv) else kvs ++ [(k, d)]
def dgtD (st : Store) (x : D) (ds : List D) : Option D := match x with
  | .ref n => match st[n]? with
    | some (.dic kvs) => (keysD ds).bind (valD kvs)
    | _ => none
  | _ => none
def rngD (lo hi : Int) : List D := (List.range (hi - lo).toNat).map fun k => .int (lo + (k : Nat))
def rngOk (i : Int) : Bool := decide (-(2 ^ 62) ≤ i) && decide (i < 2 ^ 62)
def itemsD : D → Option (List D)
  | .rol ds => some ds
  | .tup ds => some ds
  | .lst ds => some ds
  | .str s => some (s.map fun c => .str [c])
  | _ => none
def zipD : List D → List D → List D
  | x :: xs, y :: ys => .tup [x, y] :: zipD xs ys
  | _, _ => []
def enumD (k : Nat) : List D → List D
  | x :: xs => .tup [.int k, x] :: enumD (k + 1) xs
  | _ => []

/-! ### frames -/
def toSh : Sl → Sl
  | .own d => .sh d
  | x => x
def shAt : Env → Nat → Env
  | [], _ => []
  | x :: r, 0 => toSh x :: r
  | x :: r, n + 1 => x :: shAt r n
def share : List Nat → Env → Env
  | [], r => r
  | i :: l, r => share l (shAt r i)
def putS : Env → Nat → Sl → Env
  | [], _, _ => []
  | _ :: r, 0, y => y :: r
  | x :: r, n + 1, y => x :: putS r n y
def getS : Env → Nat → Sl
  | [], _ => .no
  | x :: _, 0 => x
  | _ :: r, n + 1 => getS r n
def wipeE : List Nat → Env → Env
  | [], r => r
  | i :: l, r => wipeE l (putS r i .no)
def putAll : Env → List Nat → List D → Option Env
  | r, [], [] => some r
  | r, i :: is, d :: ds => putAll (putS r i (.sh d)) is ds
  | _, _, _ => none
def putTg (r : Env) : Tg → Bool → D → Option Env
  | .name i, own, d => some (putS r i (if own then .own d else .sh d))
  | .tup is, _, .tup ds => putAll r is ds
  | _, _, _ => none

/-! ### which slots a piece of text hands on -/
/-- a name that stands by itself -/
def topv : E → List Nat
  | .var i => [i]
  | _ => []
mutual
/-- the slots whose very objects may be in e's value or in what a call in it was handed, e's own value apart -/
def escB : E → List Nat
  | .var _ => []
  | .con _ => []
  | .bin _ a b => escB a ++ escB b
  | .neg a => escB a
  | .cmp _ a b => escB a ++ escB b
  | .chain _ _ a b c => escB a ++ (escB b ++ escB c)
  | .andv a b => escB a ++ escB b
  | .orv a b => escB a ++ escB b
  | .notv a => escB a
  | .ite t a b => escT t ++ ((topv a ++ escB a) ++ (topv b ++ escB b))
  | .tup es => escs es
  | .lst es => escs es
  | .newl es => escs es
  | .newd => []
  | .dgt a es => escB a ++ escs es
  | .never => []
  | .fld _ a _ => escB a
  | .meth _ _ _ a es => (topv a ++ escB a) ++ escs es
  | .make _ _ es => escs es
  | .join a e => escB a ++ escB e
  | .idx a i => escB a ++ escB i
  | .slc a lo hi => escB a ++ (escO lo ++ escO hi)
  | .rev a => escB a
  | .call _ es => escs es
  | .blt _ es => escBs es
  | .isi a _ => escB a
  | .comp e _ it t _ => (topv e ++ escB e) ++ (escI it ++ escTo t)
def escs : Es → List Nat
  | .nil => []
  | .cons e r => (topv e ++ escB e) ++ escs r
def escBs : Es → List Nat
  | .nil => []
  | .cons e r => escB e ++ escBs r
def escO : Eo → List Nat
  | .none => []
  | .some e => escB e
def escT : T → List Nat
  | .tru e => escB e
  | .and a b => escT a ++ escT b
  | .or a b => escT a ++ escT b
  | .not a => escT a
def escTo : To → List Nat
  | .yes => []
  | .one t => escT t
def escI : I → List Nat
  | .seq e => (topv e ++ escB e)
  | .rng1 e => escB e
  | .rng2 a b => escB a ++ escB b
  | .zip a b => (topv a ++ escB a) ++ (topv b ++ escB b)
  | .enum a => (topv a ++ escB a)
end
/-- .. its own value too -/
def esc (e : E) : List Nat := topv e ++ escB e

/-! ### the evaluator: cl is what a call of a def gives -/
def noX {a : Type} : Res a → Res a
  | .exc _ _ => .bad
  | r => r
def asInt : D → Option Int
  | .int i => some i
  | _ => none
def asBl : D → Option Bool
  | .bl b => some b
  | _ => none
/-- the turns of a comprehension -/
def compF (f : D → Store → Res (Option D)) : List D → Store → Res (List D)
  | [], s => .ok [] s
  | x :: xs, s => (f x s).bind fun y s1 => (compF f xs s1).bind fun ys s2 => .ok (match y with | some d => d :: ys | none => ys) s2
section
variable (cl : Nat → List D → Store → Res D)
mutual
def evE : E → Env → Store → Res D
  | .var i, r, s => match getS r i with | .sh d => .ok d s | .own d => .ok d s | .no => .bad
  | .con d, _, s => .ok d s
  | .bin o a b, r, s => (evE a r s).bind fun x s1 => (evE b r s1).bind fun y s2 => ofO (binD o x y) s2
  | .neg a, r, s => (evE a r s).bind fun x s1 => ofO ((asInt x).map fun i => .int (-i)) s1
  | .cmp o a b, r, s => (evE a r s).bind fun x s1 => (evE b r s1).bind fun y s2 => ofO ((cmpD o x y).map .bl) s2
  | .chain o p a b c, r, s => (evE a r s).bind fun x s1 => (evE b r s1).bind fun y s2 => match cmpD o x y with
    | some true => (evE c r s2).bind fun z s3 => ofO ((cmpD p y z).map .bl) s3
    | some false => .ok (.bl false) s2
    | none => .bad
  | .andv a b, r, s => (evE a r s).bind fun x s1 => match x with
    | .bl true => (evE b r s1).bind fun y s2 => ofO ((asBl y).map .bl) s2
    | .bl false => .ok (.bl false) s1
    | _ => .bad
  | .orv a b, r, s => (evE a r s).bind fun x s1 => match x with
    | .bl true => .ok (.bl true) s1
    | .bl false => (evE b r s1).bind fun y s2 => ofO ((asBl y).map .bl) s2
    | _ => .bad
  | .notv a, r, s => (evE a r s).bind fun x s1 => ofO ((asBl x).map fun b => .bl (!b)) s1
  | .ite t a b, r, s => (evT t r s).bind fun c s1 => if c then evE a r s1 else evE b r s1
  | .tup es, r, s => (evEs es r s).bind fun ds s1 => if ds.length ≤ SZ then .ok (.tup ds) s1 else .bad
  | .lst es, r, s => (evEs es r s).bind fun ds s1 => if ds.length ≤ SZ then .ok (.lst ds) s1 else .bad
  | .newl es, r, s => (evEs es r s).bind fun ds s1 => if ds.length ≤ SZ then .ok (.ref s1.length) (s1 ++ [.lst ds]) else .bad
  | .newd, _, s => .ok (.ref s.length) (s ++ [.dic []])
  | .dgt a es, r, s => (evE a r s).bind fun x s1 => (evEs es r s1).bind fun ds s2 => if ds.length ≤ SZ then ofO (dgtD s2 x ds) s2 else .bad
  | .never, _, _ => .bad
  | .fld c a f, r, s => (evE a r s).bind fun x s1 => ofO (fldD s1 x c f) s1
  | .meth c f m a es, r, s => (evE a r s).bind fun x s1 => if insB s1 x c m then (evEs es r s1).bind fun ds s2 => cl f (x :: ds) s2 else .bad
  | .make c f es, r, s => (evEs es r s).bind fun ds s1 => (cl f (.ref s1.length :: ds) (s1 ++ [.ins c []])).bind fun d s2 => if isNon d then .ok (.ref s1.length) s2 else .bad
  | .join a e, r, s => (evE a r s).bind fun x s1 => match x with
    | .str z => (evE e r s1).bind fun y s2 => ofO (joinD (.str z) y) s2
    | _ => .bad
  | .idx a i, r, s => (evE a r s).bind fun x s1 => (evE i r s1).bind fun y s2 => ofO (idxD s2 x y) s2
  | .slc a lo hi, r, s => (evE a r s).bind fun x s1 => (evO lo r s1).bind fun i s2 => (evO hi r s2).bind fun j s3 => ofO (slcD x i j) s3
  | .rev a, r, s => (evE a r s).bind fun x s1 => ofO (revD x) s1
  | .call f es, r, s => (evEs es r s).bind fun ds s1 => cl f ds s1
  | .blt f es, r, s => (evEs es r s).bind fun ds s1 => ofO (bltD s1 f ds) s1
  | .isi a t, r, s => (evE a r s).bind fun x s1 => ofO ((isiD x t).map .bl) s1
  | .comp e tg it t vs, r, s => (evI it r s).bind fun xs s1 => if xs.length ≤ SZ then
      (noX (compF (fun x s2 => match putTg (wipeE vs r) tg false x with
        | none => .bad
        | some r2 => (evTo t r2 s2).bind fun c s3 => if c then (evE e r2 s3).bind fun d s4 => .ok (some d) s4 else .ok none s3) xs s1)).bind fun ds s2 => .ok (.lst ds) s2
    else .bad
def evEs : Es → Env → Store → Res (List D)
  | .nil, _, s => .ok [] s
  | .cons e es, r, s => (evE e r s).bind fun x s1 => (evEs es r s1).bind fun xs s2 => .ok (x :: xs) s2
def evO : Eo → Env → Store → Res (Option Int)
  | .none, _, s => .ok none s
  | .some e, r, s => (evE e r s).bind fun x s1 => ofO ((asInt x).map some) s1
def evT : T → Env → Store → Res Bool
  | .tru e, r, s => (evE e r s).bind fun x s1 => ofO (truD s1 x) s1
  | .and a b, r, s => (evT a r s).bind fun c s1 => if c then evT b r s1 else .ok false s1
  | .or a b, r, s => (evT a r s).bind fun c s1 => if c then .ok true s1 else evT b r s1
  | .not a, r, s => (evT a r s).bind fun c s1 => .ok (!c) s1
def evTo : To → Env → Store → Res Bool
  | .yes, _, s => .ok true s
  | .one t, r, s => evT t r s
def evI : I → Env → Store → Res (List D)
  | .seq e, r, s => (evE e r s).bind fun x s1 => ofO (itemsD x) s1
  | .rng1 e, r, s => (evE e r s).bind fun x s1 => match x with
    | .int j => if rngOk j then .ok (rngD 0 j) s1 else .bad
    | _ => .bad
  | .rng2 a b, r, s => (evE a r s).bind fun x s1 => (evE b r s1).bind fun y s2 => match x, y with
    | .int i, .int j => if rngOk i && rngOk j then .ok (rngD i j) s2 else .bad
    | _, _ => .bad
  | .zip a b, r, s => (evE a r s).bind fun x s1 => (evE b r s1).bind fun y s2 => match x, y with
    | .lst xs, .lst ys => .ok (zipD xs ys) s2
    | _, _ => .bad
  | .enum a, r, s => (evE a r s).bind fun x s1 => match x with
    | .lst xs => .ok (enumD 0 xs) s1
    | _ => .bad
end
/-- does an expression make a list that nobody else holds -/
def fresh (ro : Nat → Bool) : E → Bool
  | .lst _ => true
  | .bin .add _ _ => true
  | .slc _ _ _ => true
  | .rev _ => true
  | .comp _ _ _ _ _ => true
  | .blt .list _ => true
  | .blt .sorted _ => true
  | .call f _ => ro f
  | _ => false
def whileF (l : List Nat) (c : Env → Store → Res Bool) (b : Env → Store → Res Flow) : Nat → Env → Store → Res Flow
  | 0, _, _ => .bad
  | n + 1, r, s => (c (share l r) s).bind fun k s1 => if k then (b (share l r) s1).bind fun f s2 => match f with
      | .nx r' => whileF l c b n r' s2
      | .ct r' => whileF l c b n r' s2
      | .br r' => .ok (.nx r') s2
      | .ret o d => .ok (.ret o d) s2
    else .ok (.nx (share l r)) s1
def forF (tg : Tg) (b : Env → Store → Res Flow) : List D → Env → Store → Res Flow
  | [], r, s => .ok (.nx r) s
  | x :: xs, r, s => match putTg r tg false x with
    | none => .bad
    | some r1 => (b r1 s).bind fun f s2 => match f with
      | .nx r' => forF tg b xs r' s2
      | .ct r' => forF tg b xs r' s2
      | .br r' => .ok (.nx r') s2
      | .ret o d => .ok (.ret o d) s2
def WF : Nat := 1073741824
/-- the slot of a name -/
def varOf : E → Option Nat
  | .var i => some i
  | _ => none
/-- o[y] = d, x what stands at o -/
def setD (r : Env) (s : Store) (o : E) (x y d : D) : Res Flow :=
  match x, y with
  | .ref n, .int k => match s[n]? with
    | some (.lst ds) => match L2.ixN ds.length k with
      | some j => .ok (.nx r) (s.set n (.lst (ds.set j d)))
      | none => .bad
    | _ => .bad
  | .lst ds, .int k => match varOf o with
    | some v => match getS r v with
      | .own (.lst _) => match L2.ixN ds.length k with
        | some j => .ok (.nx (putS r v (.own (.lst (ds.set j d))))) s
        | none => .bad
      | _ => .bad
    | none => .bad
  | _, _ => .bad
/-- o[k] = d, x what stands at o -/
def dputD (r : Env) (s : Store) (x : D) (ds : List D) (d : D) : Res Flow :=
  match x with
  | .ref n => match s[n]? with
    | some (.dic kvs) => match keysD ds with
      | some k => if kvs.length < SZ ∧ ds.length ≤ SZ then .ok (.nx r) (s.set n (.dic (putD kvs k d))) else .bad
      | none => .bad
    | _ => .bad
  | _ => .bad
/-- a field's store -/
def setF (f : Str) (d : D) : List (Str × D) → List (Str × D)
  | [] => [(f, d)]
  | (g, e) :: r => if g = f then (g, d) :: r else (g, e) :: setF f d r
def fsetD (r : Env) (s : Store) (x : D) (c f : Str) (d : D) : Res Flow :=
  match x with
  | .ref n => match s[n]? with
    | some (.ins c' fs) => if c' = c ∧ fs.length < 1000 then .ok (.nx r) (s.set n (.ins c' (setF f d fs))) else .bad
    | _ => .bad
  | _ => .bad
def isL (s : Store) : D → Bool
  | .ref n => match s[n]? with
    | some (.lst _) => true
    | _ => false
  | .lst _ => true
  | _ => false
/-- o.append(d), x what stands at o -/
def appD (r : Env) (s : Store) (o : E) (x d : D) : Res Flow :=
  match x with
  | .ref n => match s[n]? with
    | some (.lst ds) => if ds.length < SZ then .ok (.nx r) (s.set n (.lst (ds ++ [d]))) else .bad
    | _ => .bad
  | .lst ds => match varOf o with
    | some v => match getS r v with
      | .own (.lst _) => if ds.length < SZ then .ok (.nx (putS r v (.own (.lst (ds ++ [d]))))) s else .bad
      | _ => .bad
    | none => .bad
  | _ => .bad
/-- x op= y -/
def augD : B → D → D → Option D
  | .mul, .int i, .int j => if small64 i || small64 j then some (.int (i * j)) else none
  | .fdiv, .int i, .int j => if divOk j then some (.int (i / j)) else none
  | .mod, .int i, .int j => if 0 < j then some (.int (i % j)) else none
  | .add, .int i, .int j => some (.int (i + j))
  | .sub, .int i, .int j => some (.int (i - j))
  | .add, .str x, .str y => if x.length + y.length ≤ SZ then some (.str (x ++ y)) else none
  | _, _, _ => none
variable (ro : Nat → Bool)
def evS : S → Env → Store → Res Flow
  | .skip, r, s => .ok (.nx r) s
  | .seq a b, r, s => (evS a r s).bind fun f s1 => match f with
    | .nx r1 => evS b r1 s1
    | f => .ok f s1
  | .asg tg e, r, s => (evE cl e (share (esc e) r) s).bind fun d s1 => ofO ((putTg (share (esc e) r) tg (fresh ro e) d).map .nx) s1
  | .par2 i j a b, r, s =>
    let r0 := share (esc a ++ esc b) r
    (evE cl a r0 s).bind fun x s1 => (evE cl b r0 s1).bind fun y s2 => .ok (.nx (putS (putS r0 i (.sh x)) j (.sh y))) s2
  | .par3 i j k a b c, r, s =>
    let r0 := share (esc a ++ (esc b ++ esc c)) r
    (evE cl a r0 s).bind fun x s1 => (evE cl b r0 s1).bind fun y s2 => (evE cl c r0 s2).bind fun z s3 => .ok (.nx (putS (putS (putS r0 i (.sh x)) j (.sh y)) k (.sh z))) s3
  | .aug i o e, r, s =>
    let r0 := share (escB e) r
    (evE cl (.var i) r0 s).bind fun x s1 => (evE cl e r0 s1).bind fun y s2 => ofO ((augD o x y).map fun z => .nx (putS r0 i (.sh z))) s2
  | .set o i e, r, s =>
    let r0 := share (esc e ++ (escB o ++ escB i)) r
    (evE cl e r0 s).bind fun d s1 => (evE cl o r0 s1).bind fun x s2 => (evE cl i r0 s2).bind fun y s3 => setD r0 s3 o x y d
  | .dput o es e, r, s =>
    let r0 := share (esc e ++ (escB o ++ escs es)) r
    (evE cl e r0 s).bind fun d s1 => (evE cl o r0 s1).bind fun x s2 => (evEs cl es r0 s2).bind fun ds s3 => dputD r0 s3 x ds d
  | .app o e, r, s =>
    let r0 := share (esc e ++ escB o) r
    (evE cl o r0 s).bind fun x s1 => if isL s1 x then (evE cl e r0 s1).bind fun d s2 => appD r0 s2 o x d else .bad
  | .exp e, r, s => (evE cl e (share (escB e) r) s).bind fun _ s1 => .ok (.nx (share (escB e) r)) s1
  | .never, _, _ => .bad
  | .fset c a f e, r, s =>
    let r0 := share (esc e ++ escB a) r
    (evE cl e r0 s).bind fun d s1 => (evE cl a r0 s1).bind fun x s2 => fsetD r0 s2 x c f d
  | .faug c a f o e, r, s =>
    let r0 := share (escB e ++ escB a) r
    (evE cl a r0 s).bind fun x s1 => (ofO (fldD s1 x c f) s1).bind fun v s2 => (evE cl e r0 s2).bind fun y s3 => (ofO (augD o v y) s3).bind fun z s4 => fsetD r0 s4 x c f z
  | .raise c es, r, s => (evEs cl es (share (escs es) r) s).bind fun ds s1 => if ds.length ≤ SZ then .exc ⟨c, ds⟩ s1 else .bad
  | .tryR b c d, r, s => match evS b r s with
    | .exc x s1 => if x.cls = c then .ok (.ret false d) s1 else .bad
    | .ok f s1 => .ok f s1
    | .bad => .bad
  | .ite t a b, r, s => (evT cl t (share (escT t) r) s).bind fun c s1 => if c then evS a (share (escT t) r) s1 else evS b (share (escT t) r) s1
  | .while t b, r, s => whileF (escT t) (evT cl t) (evS b) WF r s
  | .for tg it b, r, s => (evI cl it (share (escI it) r) s).bind fun xs s1 => forF tg (evS b) xs (share (escI it) r) s1
  | .ret e, r, s => match varOf e with
    | some i => match getS r i with
      | .own d => .ok (.ret true d) s
      | .sh d => .ok (.ret false d) s
      | .no => .bad
    | none => (evE cl e (share (esc e) r) s).bind fun d s1 => .ok (.ret (fresh ro e) d) s1
  | .retN, _, s => .ok (.ret false .non) s
  | .brk, r, s => .ok (.br r) s
  | .cont, r, s => .ok (.ct r) s
end
/-- a def: its parameters, its slots, does it hand back a list that nobody else holds, its body -/
structure Fn where
  np : Nat
  ns : Nat
  ro : Bool
  ini : Bool
  body : S
/-- an instance is made no deeper than here -/
def MKT : Nat := 130
def roOf (fs : List Fn) (f : Nat) : Bool := match fs[f]? with | some fn => fn.ro | none => false
def callF (fs : List Fn) : Nat → Nat → List D → Store → Res D
  | 0, _, _, _ => .bad
  | n + 1, f, args, s => match fs[f]? with
    | none => .bad
    | some fn => if args.length = fn.np ∧ (fn.ini = false ∨ MKT < n) then
        (evS (callF fs n) (roOf fs) fn.body (args.map Sl.sh ++ List.replicate (fn.ns - fn.np) Sl.no) s).bind fun fl s1 => match fl with
          | .ret o d => if fn.ro && !o then .bad else .ok d s1
          | .nx _ => if fn.ro then .bad else .ok .non s1
          | _ => .bad
      else .bad
end PyE

/-! How data stands in the heap: Rep, the store, the frame; what evaluation leaves as it was. -/
namespace PyE
open PySem PySem.Spec PyProof.Rows L2

/-- a list of the written part -/
def KL (K : PySem.W.Frag) (a : Addr) (xs : List V) : Prop :=
  ∃ (o : Obj) (its : Array Value) (n : Nat), K.lookup a = some o ∧ o.cls = .type "list" ∧ o.dict = none ∧ o.data = .seq its n ∧ its.size ≤ sizeLine ∧ Vals xs its.toList
mutual
/-- v is the data d: O the lists that a frame holds alone, ph the store's addresses -/
def Rep (K : PySem.W.Frag) (H : Hp) (O : Addr → Prop) (ph : List Addr) : D → V → Prop
  | .non, v => v = .non
  | .bl b, v => v = .bl b
  | .int i, v => v = .int i
  | .str s, v => v = .str ⟨s.toArray⟩
  | .tup ds, v => ∃ a vs, v = .ref a ∧ SqT K H a vs ∧ Reps K H O ph ds vs
  | .lst ds, v => ∃ a vs, v = .ref a ∧ H a = some (.lst vs) ∧ ¬ O a ∧ a ∉ ph ∧ Reps K H O ph ds vs
  | .rol ds, v => ∃ a vs, v = .ref a ∧ ((Rd H a (.lst vs) ∧ ¬ O a ∧ a ∉ ph) ∨ KL K a vs) ∧ Reps K H O ph ds vs
  | .ref n, v => ∃ a, v = .ref a ∧ ph[n]? = some a
def Reps (K : PySem.W.Frag) (H : Hp) (O : Addr → Prop) (ph : List Addr) : List D → List V → Prop
  | [], vs => vs = []
  | d :: ds, vs => ∃ v r, vs = v :: r ∧ Rep K H O ph d v ∧ Reps K H O ph ds r
end
/-- the kinds of things with an identity -/
def IsM : HO → Prop
  | .lst _ => True
  | .dT _ => True
  | .dK _ => True
  | .ins _ _ _ => True
  | _ => False
def Mu (H : Hp) (a : Addr) : Prop := ∃ o, H a = some o ∧ IsM o
theorem Mu.lst {H : Hp} {a : Addr} {vs : List V} (h : H a = some (.lst vs)) : Mu H a := ⟨_, h, trivial⟩
theorem Mu.noTup {H : Hp} {a : Addr} {vs : List V} (m : Mu H a) (h : Rd H a (.tup vs)) : False := by
  obtain ⟨o, q, i⟩ := m
  rcases h with h | ⟨o', h⟩
  · rw [q] at h
    cases h
    exact i
  · rw [q] at h
    cases h
    exact i
/-- from one moment to a later one: all but the store stands, the store has grown by new things -/
structure Ext (ph : List Addr) (H : Hp) (ph' : List Addr) (H' : Hp) : Prop where
  step : ∀ a o, H a = some o → a ∉ ph → H' a = some o
  grow : ∃ new, ph' = ph ++ new ∧ ∀ a ∈ new, H a = none
  isl : ∀ a ∈ ph, Mu H a
  isl' : ∀ a ∈ ph', Mu H' a
/-- the pairs of a dict -/
def RepK {κ : Type} (K : PySem.W.Frag) (H : Hp) (O : Addr → Prop) (ph : List Addr) : List (κ × D) → List (κ × V) → Prop
  | [], xs => xs = []
  | (k, d) :: r, xs => ∃ v ys, xs = (k, v) :: ys ∧ Rep K H O ph d v ∧ RepK K H O ph r ys
/-- o is the thing b -/
def ObOk (K : PySem.W.Frag) (H : Hp) (O : Addr → Prop) (ph : List Addr) : Ob → HO → Prop
  | .lst ds, o => ∃ vs, o = .lst vs ∧ Reps K H O ph ds vs
  | .dic kvs, o => ∃ xs, o = .dT xs ∧ RepK K H O ph kvs xs
  | .ins c fs, o => ∃ dx xs, o = .ins (He.ga K c) dx xs ∧ RepK K H O ph fs xs
/-- the store -/
structure RSt (K : PySem.W.Frag) (H : Hp) (O : Addr → Prop) (ph : List Addr) (st : Store) : Prop where
  len : ph.length = st.length
  nd : ph.Nodup
  ob : ∀ (n : Nat) (b : Ob), st[n]? = some b → ∃ a o, ph[n]? = some a ∧ ¬ O a ∧ H a = some o ∧ ObOk K H O ph b o
section
variable {K : PySem.W.Frag} {H H1 H2 : Hp} {O O' : Addr → Prop} {ph ph1 ph2 : List Addr} {st : Store}
theorem ObOk.m {b : Ob} {o : HO} (h : ObOk K H O ph b o) : IsM o := by
  cases b with
  | lst ds =>
    obtain ⟨vs, rfl, _⟩ := h
    trivial
  | dic kvs =>
    obtain ⟨vs, rfl, _⟩ := h
    trivial
  | ins c fs =>
    obtain ⟨dx, vs, rfl, _⟩ := h
    trivial
theorem RSt.obj (r : RSt K H O ph st) (n : Nat) (ds : List D) (h : st[n]? = some (Ob.lst ds)) : ∃ a vs, ph[n]? = some a ∧ ¬ O a ∧ H a = some (.lst vs) ∧ Reps K H O ph ds vs := by
  obtain ⟨a, o, e1, no, e2, vs, rfl, q⟩ := r.ob n _ h
  exact ⟨a, vs, e1, no, e2, q⟩
theorem RSt.at_ (r : RSt K H O ph st) {a : Addr} (ha : a ∈ ph) : ¬ O a ∧ Mu H a := by
  obtain ⟨n, hn, e⟩ := List.mem_iff_getElem.mp ha
  have h2 : n < st.length := by rw [← r.len]; exact hn
  obtain ⟨a', o, e1, no, e2, q⟩ := r.ob n _ (List.getElem?_eq_getElem h2)
  rw [List.getElem?_eq_getElem hn, e] at e1
  cases e1
  exact ⟨no, o, e2, q.m⟩
theorem RSt.isl (r : RSt K H O ph st) : ∀ a ∈ ph, Mu H a := fun a ha => (r.at_ ha).2
theorem RSt.notO (r : RSt K H O ph st) : ∀ a ∈ ph, ¬ O a := fun a ha => (r.at_ ha).1
theorem Ext.refl (i : ∀ a ∈ ph, Mu H a) : Ext ph H ph H := ⟨fun _ _ h _ => h, ⟨[], by simp, by simp⟩, i, i⟩
theorem Ext.trans (a : Ext ph H ph1 H1) (b : Ext ph1 H1 ph2 H2) : Ext ph H ph2 H2 := by
  obtain ⟨n1, e1, f1⟩ := a.grow
  obtain ⟨n2, e2, f2⟩ := b.grow
  have keep : ∀ x o, H x = some o → ∃ o', H1 x = some o' := fun x o h => by
    by_cases hx : x ∈ ph
    · obtain ⟨o, q, _⟩ := a.isl' x (by rw [e1]; exact List.mem_append_left _ hx)
      exact ⟨_, q⟩
    · exact ⟨o, a.step x o h hx⟩
  refine ⟨fun x o h hx => ?_, ⟨n1 ++ n2, by rw [e2, e1, List.append_assoc], fun x hx => ?_⟩, a.isl, b.isl'⟩
  · refine b.step x o (a.step x o h hx) fun hm => ?_
    rw [e1] at hm
    rcases List.mem_append.mp hm with z | z
    · exact hx z
    · rw [f1 x z] at h; cases h
  · rcases List.mem_append.mp hx with z | z
    · exact f1 x z
    · cases q : H x with
      | none => rfl
      | some o =>
        obtain ⟨o', q'⟩ := keep x o q
        rw [f2 x z] at q'; cases q'
/-- what stood stands, whatever it is now -/
theorem Ext.there (a : Ext ph H ph1 H1) {x : Addr} {o : HO} (h : H x = some o) : ∃ o', H1 x = some o' := by
  by_cases hx : x ∈ ph
  · obtain ⟨n1, e1, f1⟩ := a.grow
    obtain ⟨o, q, _⟩ := a.isl' x (by rw [e1]; exact List.mem_append_left _ hx)
    exact ⟨_, q⟩
  · exact ⟨o, a.step x o h hx⟩
theorem Ext.free (a : Ext ph H ph1 H1) {x : Addr} (h : H1 x = none) : H x = none := by
  cases q : H x with
  | none => rfl
  | some o =>
    obtain ⟨o', q'⟩ := a.there q
    rw [h] at q'; cases q'
theorem Ext.notin (a : Ext ph H ph1 H1) {x : Addr} {o : HO} (h : H x = some o) (hx : x ∉ ph) : x ∉ ph1 := fun hm => by
  obtain ⟨n1, e1, f1⟩ := a.grow
  rw [e1] at hm
  rcases List.mem_append.mp hm with z | z
  · exact hx z
  · rw [f1 x z] at h; cases h
theorem Ext.rd (e : Ext ph H ph1 H1) {a : Addr} {u : HO} (h : Rd H a u) (hn : a ∉ ph) : Rd H1 a u := by
  rcases h with h | ⟨o, h⟩
  · exact .inl (e.step _ _ h hn)
  · exact .inr ⟨o, e.step _ _ h hn⟩
theorem Ext.sqt (e : Ext ph H ph1 H1) {a : Addr} {vs : List V} (h : SqT K H a vs) : SqT K H1 a vs := by
  rcases h with h | h
  · exact .inl (e.rd h fun hm => (e.isl a hm).noTup h)
  · exact .inr h
mutual
theorem Rep.ext (e : Ext ph H ph1 H1) (ho : ∀ a, O' a → O a) : ∀ (d : D) (v : V), Rep K H O ph d v → Rep K H1 O' ph1 d v
  | .non, v, h => h
  | .bl b, v, h => h
  | .int i, v, h => h
  | .str s, v, h => h
  | .tup ds, v, h => by
    simp only [Rep] at h ⊢
    obtain ⟨a, vs, rfl, q, r⟩ := h
    exact ⟨a, vs, rfl, e.sqt q, Reps.ext e ho ds vs r⟩
  | .lst ds, v, h => by
    simp only [Rep] at h ⊢
    obtain ⟨a, vs, rfl, q, no, ni, r⟩ := h
    exact ⟨a, vs, rfl, e.step _ _ q ni, fun z => no (ho _ z), e.notin q ni, Reps.ext e ho ds vs r⟩
  | .rol ds, v, h => by
    simp only [Rep] at h ⊢
    obtain ⟨a, vs, rfl, q, r⟩ := h
    refine ⟨a, vs, rfl, ?_, Reps.ext e ho ds vs r⟩
    rcases q with ⟨q, no, ni⟩ | q
    · refine .inl ⟨e.rd q ni, fun z => no (ho _ z), ?_⟩
      rcases q with q | ⟨o, q⟩
      · exact e.notin q ni
      · exact e.notin q ni
    · exact .inr q
  | .ref n, v, h => by
    simp only [Rep] at h ⊢
    obtain ⟨a, rfl, q⟩ := h
    obtain ⟨new, e1, _⟩ := e.grow
    exact ⟨a, rfl, by rw [e1, List.getElem?_append_left (List.getElem?_eq_some_iff.mp q).1]; exact q⟩
theorem Reps.ext (e : Ext ph H ph1 H1) (ho : ∀ a, O' a → O a) : ∀ (ds : List D) (vs : List V), Reps K H O ph ds vs → Reps K H1 O' ph1 ds vs
  | [], vs, h => h
  | d :: ds, vs, h => by
    simp only [Reps] at h ⊢
    obtain ⟨v, r, rfl, h1, h2⟩ := h
    exact ⟨v, r, rfl, Rep.ext e ho d v h1, Reps.ext e ho ds r h2⟩
end
theorem Rep.next {d : D} {v : V} (h : Rep K H O ph d v) (e : Ext ph H ph1 H1) : Rep K H1 O ph1 d v := Rep.ext e (fun _ z => z) d v h
theorem Reps.next {ds : List D} {vs : List V} (h : Reps K H O ph ds vs) (e : Ext ph H ph1 H1) : Reps K H1 O ph1 ds vs := Reps.ext e (fun _ z => z) ds vs h
theorem Reps.length : ∀ {ds : List D} {vs : List V}, Reps K H O ph ds vs → ds.length = vs.length
  | [], vs, h => by
    simp only [Reps] at h
    subst h
    rfl
  | d :: ds, vs, h => by
    simp only [Reps] at h
    obtain ⟨v, r, rfl, _, h2⟩ := h
    simp [Reps.length h2]
theorem Reps.append : ∀ {ds es : List D} {vs ws : List V}, Reps K H O ph ds vs → Reps K H O ph es ws → Reps K H O ph (ds ++ es) (vs ++ ws)
  | [], es, vs, ws, h, h' => by
    simp only [Reps] at h
    subst h
    exact h'
  | d :: ds, es, vs, ws, h, h' => by
    simp only [Reps] at h
    obtain ⟨v, r, rfl, h1, h2⟩ := h
    show Reps K H O ph (d :: (ds ++ es)) (v :: (r ++ ws))
    simp only [Reps]
    exact ⟨v, _, rfl, h1, Reps.append h2 h'⟩
theorem Reps.get : ∀ {ds : List D} {vs : List V} {i : Nat} {d : D}, Reps K H O ph ds vs → ds[i]? = some d → ∃ v, vs[i]? = some v ∧ Rep K H O ph d v
  | [], vs, i, d, h, e => by simp at e
  | x :: ds, vs, 0, d, h, e => by
    simp only [Reps] at h
    obtain ⟨v, r, rfl, h1, h2⟩ := h
    simp at e
    subst e
    exact ⟨v, rfl, h1⟩
  | x :: ds, vs, i + 1, d, h, e => by
    simp only [Reps] at h
    obtain ⟨v, r, rfl, h1, h2⟩ := h
    obtain ⟨w, q, s⟩ := Reps.get (i := i) h2 (by simpa using e)
    exact ⟨w, by simpa using q, s⟩
theorem Reps.set : ∀ {ds : List D} {vs : List V} {d : D} {v : V} (i : Nat), Reps K H O ph ds vs → Rep K H O ph d v → Reps K H O ph (ds.set i d) (vs.set i v)
  | [], vs, d, v, i, h, e => by
    simp only [Reps] at h
    subst h
    simp [Reps]
  | x :: ds, vs, d, v, 0, h, e => by
    simp only [Reps] at h
    obtain ⟨y, r, rfl, h1, h2⟩ := h
    simp only [List.set_cons_zero, Reps]
    exact ⟨v, r, rfl, e, h2⟩
  | x :: ds, vs, d, v, i + 1, h, e => by
    simp only [Reps] at h
    obtain ⟨y, r, rfl, h1, h2⟩ := h
    simp only [List.set_cons_succ, Reps]
    exact ⟨y, _, rfl, h1, Reps.set i h2 e⟩
theorem Reps.drop : ∀ {ds : List D} {vs : List V} (n : Nat), Reps K H O ph ds vs → Reps K H O ph (ds.drop n) (vs.drop n)
  | ds, vs, 0, h => h
  | [], vs, n + 1, h => by
    simp only [Reps] at h
    subst h
    simp [Reps]
  | d :: ds, vs, n + 1, h => by
    simp only [Reps] at h
    obtain ⟨y, r, rfl, h1, h2⟩ := h
    exact Reps.drop n h2
theorem Reps.take : ∀ {ds : List D} {vs : List V} (n : Nat), Reps K H O ph ds vs → Reps K H O ph (ds.take n) (vs.take n)
  | ds, vs, 0, h => by simp [Reps]
  | [], vs, n + 1, h => by
    simp only [Reps] at h
    subst h
    simp [Reps]
  | d :: ds, vs, n + 1, h => by
    simp only [Reps] at h
    obtain ⟨y, r, rfl, h1, h2⟩ := h
    simp only [List.take_succ_cons, Reps]
    exact ⟨y, _, rfl, h1, Reps.take n h2⟩
theorem Reps.reverse : ∀ {ds : List D} {vs : List V}, Reps K H O ph ds vs → Reps K H O ph ds.reverse vs.reverse
  | [], vs, h => by
    simp only [Reps] at h
    subst h
    simp [Reps]
  | d :: ds, vs, h => by
    simp only [Reps] at h
    obtain ⟨y, r, rfl, h1, h2⟩ := h
    rw [List.reverse_cons, List.reverse_cons]
    exact Reps.append (Reps.reverse h2) (by simp only [Reps]; exact ⟨y, [], rfl, h1, rfl⟩)
theorem Reps.cons {d : D} {v : V} {ds : List D} {vs : List V} (h : Rep K H O ph d v) (r : Reps K H O ph ds vs) : Reps K H O ph (d :: ds) (v :: vs) := by
  simp only [Reps]
  exact ⟨v, vs, rfl, h, r⟩
theorem Reps.nil : Reps K H O ph [] [] := by simp only [Reps]
/-- a thing is laid: it is new, and nothing else moves -/
theorem Ext.new (i : ∀ a ∈ ph, Mu H a) {p : Addr} (hp : H p = none) (o : HO) : Ext ph H ph (upd H p o) := by
  have ne : ∀ a u, H a = some u → a ≠ p := fun a u h e => by rw [e, hp] at h; cases h
  refine ⟨fun a u h _ => by rw [upd_ne (ne a u h)]; exact h, ⟨[], by simp, by simp⟩, i, fun a ha => ?_⟩
  obtain ⟨o, q, im⟩ := i a ha
  exact ⟨o, by rw [upd_ne (ne a _ q)]; exact q, im⟩
theorem RepK.ext {κ : Type} (e : Ext ph H ph1 H1) (ho : ∀ a, O' a → O a) : ∀ (l : List (κ × D)) (xs : List (κ × V)), RepK K H O ph l xs → RepK K H1 O' ph1 l xs
  | [], xs, h => h
  | (k, d) :: r, xs, h => by
    obtain ⟨v, ys, rfl, h1, h2⟩ := h
    exact ⟨v, ys, rfl, Rep.ext e ho d v h1, RepK.ext e ho r ys h2⟩
theorem ObOk.ext (e : Ext ph H ph1 H1) (ho : ∀ a, O' a → O a) {b : Ob} {o : HO} (h : ObOk K H O ph b o) : ObOk K H1 O' ph1 b o := by
  cases b with
  | lst ds =>
    obtain ⟨vs, e1, q⟩ := h
    exact ⟨vs, e1, Reps.ext e ho ds vs q⟩
  | dic kvs =>
    obtain ⟨vs, e1, q⟩ := h
    exact ⟨vs, e1, RepK.ext e ho kvs vs q⟩
  | ins c fs =>
    obtain ⟨dx, vs, e1, q⟩ := h
    exact ⟨dx, vs, e1, RepK.ext e ho fs vs q⟩
theorem ObOk.next (e : Ext ph H ph1 H1) {b : Ob} {o : HO} (h : ObOk K H O ph b o) : ObOk K H1 O ph1 b o := h.ext e fun _ z => z
theorem RSt.ext (r : RSt K H O ph st) (e : Ext ph H ph H1) (hs : ∀ a ∈ ph, H1 a = H a) : RSt K H1 O ph st :=
  ⟨r.len, r.nd, fun n ds h => by
    obtain ⟨a, vs, e1, no, e2, q⟩ := r.ob n ds h
    exact ⟨a, vs, e1, no, by rw [hs a (List.mem_of_getElem? e1)]; exact e2, q.next e⟩⟩
theorem RSt.new (r : RSt K H O ph st) {p : Addr} (hp : H p = none) (o : HO) : RSt K (upd H p o) O ph st :=
  r.ext (Ext.new r.isl hp o) fun a ha => by
    obtain ⟨o, q, _⟩ := r.isl a ha
    rw [upd_ne (fun e => by rw [e, hp] at q; cases q)]
/-- a smaller O -/
theorem RSt.less (r : RSt K H O ph st) (ho : ∀ a, O' a → O a) : RSt K H O' ph st :=
  ⟨r.len, r.nd, fun n ds h => by
    obtain ⟨a, vs, e1, no, e2, q⟩ := r.ob n ds h
    exact ⟨a, vs, e1, fun z => no (ho _ z), e2, q.ext (Ext.refl r.isl) ho⟩⟩
end
end PyE

/-! The frame, what a piece of text's reading owes to the evaluator, and the operations by values. -/
namespace PyE
open PySem PySem.Spec PyProof.Rows L2

def wpR {a : Type} (r : Res a) (k : a → Store → Prop) (x : Xc → Store → Prop) : Prop :=
  match r with
  | .ok y s => k y s
  | .exc e s => x e s
  | .bad => False
theorem wpR_mono {a : Type} {r : Res a} {k k' : a → Store → Prop} {x x' : Xc → Store → Prop} (h : wpR r k x) (hk : ∀ y s, k y s → k' y s) (hx : ∀ e s, x e s → x' e s) : wpR r k' x' := by
  cases r with
  | ok y s => exact hk y s h
  | exc e s => exact hx e s h
  | bad => exact h
theorem wpR_bind {a b : Type} {r : Res a} {f : a → Store → Res b} {k : b → Store → Prop} {x : Xc → Store → Prop} (h : wpR (r.bind f) k x) : wpR r (fun y s => wpR (f y s) k x) x := by
  cases r with
  | ok y s => exact h
  | exc e s => exact h
  | bad => exact h
theorem wpR_ofO {a : Type} {o : Option a} {s : Store} {k : a → Store → Prop} {x : Xc → Store → Prop} (h : wpR (ofO o s) k x) : ∃ y, o = some y ∧ k y s := by
  cases o with
  | none => exact False.elim h
  | some y => exact ⟨y, rfl, h⟩

/-- a slot as it stands -/
def SlOk (K : PySem.W.Frag) (H : Hp) (O : Addr → Prop) (ph : List Addr) (σ : L2.St) (i : Nat) : Sl → Prop
  | .no => True
  | .sh d => ∃ v, σ[i]? = some (some v) ∧ Rep K H O ph d v
  | .own d => match d with
    | .lst ds => ∃ a vs, σ[i]? = some (some (.ref a)) ∧ O a ∧ H a = some (.lst vs) ∧ a ∉ ph ∧ Reps K H O ph ds vs
    | d => ∃ v, σ[i]? = some (some v) ∧ Rep K H O ph d v
def isOwn (s : Sl) : Prop := ∃ ds, s = .own (.lst ds)
/-- the frame and the store -/
structure Pre (K : PySem.W.Frag) (H : Hp) (O : Addr → Prop) (ph : List Addr) (r : Env) (σ : L2.St) (st : Store) : Prop where
  st_ : RSt K H O ph st
  odom : ∀ a, O a → ∃ vs, H a = some (.lst vs)
  env : ∀ i, SlOk K H O ph σ i (getS r i)
  inj : ∀ i j a, isOwn (getS r i) → isOwn (getS r j) → σ[i]? = some (some (.ref a)) → σ[j]? = some (some (.ref a)) → i = j
  len : r.length = σ.length
/-- none of these slots holds a list alone -/
def Un (l : List Nat) (r : Env) : Prop := ∀ i ∈ l, ¬ isOwn (getS r i)
section
variable {K : PySem.W.Frag} {H H1 H2 : Hp} {O O' : Addr → Prop} {ph ph1 ph2 : List Addr} {st st1 : Store} {r : Env} {σ : L2.St}
theorem Un.fst {a b : List Nat} (u : Un (a ++ b) r) : Un a r := fun i h => u i (List.mem_append_left _ h)
theorem Un.snd {a b : List Nat} (u : Un (a ++ b) r) : Un b r := fun i h => u i (List.mem_append_right _ h)
theorem SlOk.next {i : Nat} {s : Sl} (h : SlOk K H O ph σ i s) (e : Ext ph H ph1 H1) : SlOk K H1 O ph1 σ i s := by
  cases s with
  | no => trivial
  | sh d =>
    obtain ⟨v, a, b⟩ := h
    exact ⟨v, a, b.next e⟩
  | own d =>
    cases d with
    | lst ds =>
      obtain ⟨a, vs, h1, h2, h3, h4, h5⟩ := h
      exact ⟨a, vs, h1, h2, e.step _ _ h3 h4, e.notin h3 h4, h5.next e⟩
    | non => obtain ⟨v, a, b⟩ := h; exact ⟨v, a, b.next e⟩
    | bl _ => obtain ⟨v, a, b⟩ := h; exact ⟨v, a, b.next e⟩
    | int _ => obtain ⟨v, a, b⟩ := h; exact ⟨v, a, b.next e⟩
    | str _ => obtain ⟨v, a, b⟩ := h; exact ⟨v, a, b.next e⟩
    | tup _ => obtain ⟨v, a, b⟩ := h; exact ⟨v, a, b.next e⟩
    | rol _ => obtain ⟨v, a, b⟩ := h; exact ⟨v, a, b.next e⟩
    | ref _ => obtain ⟨v, a, b⟩ := h; exact ⟨v, a, b.next e⟩
theorem Pre.next (p : Pre K H O ph r σ st) (e : Ext ph H ph1 H1) (s : RSt K H1 O ph1 st1) : Pre K H1 O ph1 r σ st1 :=
  ⟨s, fun a h => by
    obtain ⟨o, q⟩ := p.odom a h
    exact ⟨o, e.step a _ q fun z => p.st_.notO a z h⟩, fun i => (p.env i).next e, p.inj, p.len⟩
theorem Pre.ext0 (p : Pre K H O ph r σ st) : Ext ph H ph H := Ext.refl p.st_.isl
/-- a value that is only looked at: it may be a list that the frame holds alone -/
def RepB (K : PySem.W.Frag) (H : Hp) (O : Addr → Prop) (ph : List Addr) (d : D) (v : V) : Prop :=
  match d with
  | .lst ds => ∃ a vs, v = .ref a ∧ H a = some (.lst vs) ∧ a ∉ ph ∧ Reps K H O ph ds vs
  | d => Rep K H O ph d v
theorem Rep.toB {d : D} {v : V} (h : Rep K H O ph d v) : RepB K H O ph d v := by
  cases d with
  | lst ds =>
    simp only [Rep] at h
    obtain ⟨a, vs, e, h1, _, h2, h3⟩ := h
    exact ⟨a, vs, e, h1, h2, h3⟩
  | _ => exact h
theorem RepB.next {d : D} {v : V} (h : RepB K H O ph d v) (e : Ext ph H ph1 H1) : RepB K H1 O ph1 d v := by
  cases d with
  | lst ds =>
    obtain ⟨a, vs, e', h1, h2, h3⟩ := h
    exact ⟨a, vs, e', e.step _ _ h1 h2, e.notin h1 h2, h3.next e⟩
  | _ => exact Rep.next h e
/-- a slot that is read -/
theorem Pre.var {i : Nat} {d : D} (p : Pre K H O ph r σ st) (h : getS r i = .sh d ∨ getS r i = .own d) : ∃ v, σ[i]? = some (some v) ∧ RepB K H O ph d v ∧ (¬ isOwn (getS r i) → Rep K H O ph d v) := by
  have q := p.env i
  rcases h with h | h
  · rw [h] at q
    obtain ⟨v, a, b⟩ := q
    exact ⟨v, a, b.toB, fun _ => b⟩
  · rw [h] at q
    cases d with
    | lst ds =>
      obtain ⟨a, vs, h1, h2, h3, h4, h5⟩ := q
      exact ⟨_, h1, ⟨a, vs, rfl, h3, h4, h5⟩, fun n => absurd ⟨ds, h⟩ n⟩
    | non => obtain ⟨v, a, b⟩ := q; exact ⟨v, a, b.toB, fun _ => b⟩
    | bl _ => obtain ⟨v, a, b⟩ := q; exact ⟨v, a, b.toB, fun _ => b⟩
    | int _ => obtain ⟨v, a, b⟩ := q; exact ⟨v, a, b.toB, fun _ => b⟩
    | str _ => obtain ⟨v, a, b⟩ := q; exact ⟨v, a, b.toB, fun _ => b⟩
    | tup _ => obtain ⟨v, a, b⟩ := q; exact ⟨v, a, b.toB, fun _ => b⟩
    | rol _ => obtain ⟨v, a, b⟩ := q; exact ⟨v, a, b.toB, fun _ => b⟩
    | ref _ => obtain ⟨v, a, b⟩ := q; exact ⟨v, a, b.toB, fun _ => b⟩
end

/-- what is wanted of an exception: W at the slots, wherever the store has come to -/
def XW (K : PySem.W.Frag) (xr : Xc → Value → Option Addr → Hp → Prop) (W : WX) (O : Addr → Prop) (ph : List Addr) (H : Hp) (σ : L2.St) (e : Xc) (s : Store) : Prop :=
  ∀ cls od H' ph', Ext ph H ph' H' → RSt K H' O ph' s → xr e cls od H' → W cls od σ H'
theorem XW.next {K : PySem.W.Frag} {xr : Xc → Value → Option Addr → Hp → Prop} {W : WX} {O : Addr → Prop} {ph ph1 : List Addr} {H H1 : Hp} {σ : L2.St} {e : Xc} {s : Store} (x : XW K xr W O ph H σ e s) (a : Ext ph H ph1 H1) : XW K xr W O ph1 H1 σ e s :=
  fun cls od H' ph' b r z => x cls od H' ph' (a.trans b) r z
/-- from one moment to a later one, a frame's own lists and the store apart -/
structure Lat (O : Addr → Prop) (ph : List Addr) (H : Hp) (O2 : Addr → Prop) (ph2 : List Addr) (H2 : Hp) : Prop where
  step : ∀ a o, H a = some o → a ∉ ph → ¬ O a → H2 a = some o
  grow : ∃ new, ph2 = ph ++ new ∧ ∀ a ∈ new, H a = none
  own : ∀ a o, H a = some o → ¬ O a → ¬ O2 a
  isl : ∀ a ∈ ph, Mu H a
  iso : ∀ a, O a → ∃ vs, H a = some (.lst vs)
  there : ∀ a o, H a = some o → ∃ o', H2 a = some o'
section
variable {K : PySem.W.Frag} {H H1 H2 H3 : Hp} {O O1 O2 O3 : Addr → Prop} {ph ph1 ph2 ph3 : List Addr} {st : Store}
theorem Lat.of_ext (e : Ext ph H ph1 H1) (iso : ∀ a, O a → ∃ vs, H a = some (.lst vs)) : Lat O ph H O ph1 H1 :=
  ⟨fun a o h n _ => e.step a o h n, e.grow, fun _ _ _ n => n, e.isl, iso, fun _ _ h => e.there h⟩
theorem Lat.notin (e : Lat O ph H O2 ph2 H2) {x : Addr} {o : HO} (h : H x = some o) (hx : x ∉ ph) : x ∉ ph2 := fun hm => by
  obtain ⟨n1, e1, f1⟩ := e.grow
  rw [e1] at hm
  rcases List.mem_append.mp hm with z | z
  · exact hx z
  · rw [f1 x z] at h; cases h
theorem Lat.trans (a : Lat O ph H O1 ph1 H1) (b : Lat O1 ph1 H1 O2 ph2 H2) : Lat O ph H O2 ph2 H2 := by
  obtain ⟨n1, e1, f1⟩ := a.grow
  obtain ⟨n2, e2, f2⟩ := b.grow
  refine ⟨fun x o h hx hn => b.step x o (a.step x o h hx hn) (a.notin h hx) (a.own x o h hn), ⟨n1 ++ n2, by rw [e2, e1, List.append_assoc], fun x hx => ?_⟩, fun x o h hn => ?_, a.isl, a.iso, fun x o h => ?_⟩
  · rcases List.mem_append.mp hx with z | z
    · exact f1 x z
    · cases q : H x with
      | none => rfl
      | some o =>
        obtain ⟨o', q'⟩ := a.there x o q
        rw [f2 x z] at q'; cases q'
  · obtain ⟨o', q'⟩ := a.there x o h
    exact b.own x o' q' (a.own x o h hn)
  · obtain ⟨o', q'⟩ := a.there x o h
    exact b.there x o' q'
theorem Lat.free (a : Lat O ph H O1 ph1 H1) {x : Addr} (h : H1 x = none) : H x = none := by
  cases q : H x with
  | none => rfl
  | some o =>
    obtain ⟨o', q'⟩ := a.there x o q
    rw [h] at q'; cases q'
theorem Lat.rd (e : Lat O ph H O2 ph2 H2) {a : Addr} {u : HO} (h : Rd H a u) (hn : a ∉ ph) (ho : ¬ O a) : Rd H2 a u := by
  rcases h with h | ⟨o, h⟩
  · exact .inl (e.step _ _ h hn ho)
  · exact .inr ⟨o, e.step _ _ h hn ho⟩
theorem Lat.sqt (e : Lat O ph H O2 ph2 H2) {a : Addr} {vs : List V} (h : SqT K H a vs) : SqT K H2 a vs := by
  rcases h with h | h
  · refine .inl (e.rd h (fun hm => (e.isl a hm).noTup h) fun hm => ?_)
    · obtain ⟨ws, q⟩ := e.iso a hm
      rcases h with h | ⟨o, h⟩
      · rw [q] at h; cases h
      · rw [q] at h; cases h
  · exact .inr h
mutual
theorem Rep.lat (e : Lat O ph H O2 ph2 H2) : ∀ (d : D) (v : V), Rep K H O ph d v → Rep K H2 O2 ph2 d v
  | .non, v, h => h
  | .bl b, v, h => h
  | .int i, v, h => h
  | .str s, v, h => h
  | .tup ds, v, h => by
    simp only [Rep] at h ⊢
    obtain ⟨a, vs, rfl, q, r⟩ := h
    exact ⟨a, vs, rfl, e.sqt q, Reps.lat e ds vs r⟩
  | .lst ds, v, h => by
    simp only [Rep] at h ⊢
    obtain ⟨a, vs, rfl, q, no, ni, r⟩ := h
    exact ⟨a, vs, rfl, e.step _ _ q ni no, e.own a _ q no, e.notin q ni, Reps.lat e ds vs r⟩
  | .rol ds, v, h => by
    simp only [Rep] at h ⊢
    obtain ⟨a, vs, rfl, q, r⟩ := h
    refine ⟨a, vs, rfl, ?_, Reps.lat e ds vs r⟩
    rcases q with ⟨q, no, ni⟩ | q
    · refine .inl ⟨e.rd q ni no, ?_, ?_⟩
      · rcases q with q | ⟨o, q⟩
        · exact e.own a _ q no
        · exact e.own a _ q no
      · rcases q with q | ⟨o, q⟩
        · exact e.notin q ni
        · exact e.notin q ni
    · exact .inr q
  | .ref n, v, h => by
    simp only [Rep] at h ⊢
    obtain ⟨a, rfl, q⟩ := h
    obtain ⟨new, e1, _⟩ := e.grow
    exact ⟨a, rfl, by rw [e1, List.getElem?_append_left (List.getElem?_eq_some_iff.mp q).1]; exact q⟩
theorem Reps.lat (e : Lat O ph H O2 ph2 H2) : ∀ (ds : List D) (vs : List V), Reps K H O ph ds vs → Reps K H2 O2 ph2 ds vs
  | [], vs, h => h
  | d :: ds, vs, h => by
    simp only [Reps] at h ⊢
    obtain ⟨v, r, rfl, h1, h2⟩ := h
    exact ⟨v, r, rfl, Rep.lat e d v h1, Reps.lat e ds r h2⟩
end
theorem RepK.lat {κ : Type} (e : Lat O ph H O2 ph2 H2) : ∀ (l : List (κ × D)) (xs : List (κ × V)), RepK K H O ph l xs → RepK K H2 O2 ph2 l xs
  | [], xs, h => h
  | (k, d) :: r, xs, h => by
    obtain ⟨v, ys, rfl, h1, h2⟩ := h
    exact ⟨v, ys, rfl, Rep.lat e d v h1, RepK.lat e r ys h2⟩
theorem ObOk.lat (e : Lat O ph H O2 ph2 H2) {b : Ob} {o : HO} (h : ObOk K H O ph b o) : ObOk K H2 O2 ph2 b o := by
  cases b with
  | lst ds =>
    obtain ⟨vs, e1, q⟩ := h
    exact ⟨vs, e1, Reps.lat e ds vs q⟩
  | dic kvs =>
    obtain ⟨vs, e1, q⟩ := h
    exact ⟨vs, e1, RepK.lat e kvs vs q⟩
  | ins c fs =>
    obtain ⟨dx, vs, e1, q⟩ := h
    exact ⟨dx, vs, e1, RepK.lat e fs vs q⟩
/-- the store, from one moment to a later one at which no thing of the store has changed -/
theorem RSt.lat (s : RSt K H O ph st) (e : Lat O ph H O2 ph H2) (hs : ∀ a ∈ ph, H2 a = H a) : RSt K H2 O2 ph st :=
  ⟨s.len, s.nd, fun n ds h => by
    obtain ⟨a, ws, e1, no, e2, q⟩ := s.ob n ds h
    exact ⟨a, ws, e1, e.own a _ e2 no, by rw [hs a (List.mem_of_getElem? e1)]; exact e2, q.lat e⟩⟩
/-- a new thing that is the frame's own -/
theorem RSt.newO (s : RSt K H O ph st) (od : ∀ a, O a → ∃ vs, H a = some (.lst vs)) {p : Addr} (hp : H p = none) (o : HO) :
    RSt K (upd H p o) (fun x => O x ∨ x = p) ph st ∧ ∀ ds vs, Reps K H O ph ds vs → Reps K (upd H p o) (fun x => O x ∨ x = p) ph ds vs := by
  have ne : ∀ a u, H a = some u → a ≠ p := fun a u h e => by rw [e, hp] at h; cases h
  have e : Lat O ph H (fun x => O x ∨ x = p) ph (upd H p o) := ⟨fun a u h _ _ => by rw [upd_ne (ne a u h)]; exact h, ⟨[], by simp, by simp⟩, fun a u h n z => z.elim n (ne a u h), s.isl, od, fun a u h => ⟨u, by rw [upd_ne (ne a u h)]; exact h⟩⟩
  refine ⟨s.lat e fun a ha => ?_, fun ds vs h => Reps.lat e ds vs h⟩
  obtain ⟨o, q, _⟩ := s.isl a ha
  rw [upd_ne (ne a _ q)]
end
/-- a list that nobody else holds: not before H, not in the store now, not in itself -/
def FrV (K : PySem.W.Frag) (b : Bool) (H : Hp) (O : Addr → Prop) (ph' : List Addr) (H' : Hp) (st : Store) (d : D) (v : V) : Prop :=
  b = true → ∀ ds, d = .lst ds → ∃ a vs, v = .ref a ∧ H a = none ∧ H' a = some (.lst vs) ∧ RSt K H' (fun x => O x ∨ x = a) ph' st ∧ Reps K H' (fun x => O x ∨ x = a) ph' ds vs
section
variable (K : PySem.W.Frag) (xr : Xc → Value → Option Addr → Hp → Prop) (W : WX) (cl : Nat → List D → Store → Res D) (ro : Nat → Bool)
/-- the reading t keeps what the evaluator says of e -/
def SemE (t : TE) (e : E) : Prop := ∀ H O ph r σ st (Q : VK), Pre K H O ph r σ st → Un (esc e) r →
  wpR (evE cl e r st) (fun d s => ∀ v H' ph', Ext ph H ph' H' → RSt K H' O ph' s → Rep K H' O ph' d v → FrV K (fresh ro e) H O ph' H' s d v → Q v H') (XW K xr W O ph H σ) → t σ H Q
/-- .. where its value is only looked at -/
def SemB (t : TE) (e : E) : Prop := ∀ H O ph r σ st (Q : VK), Pre K H O ph r σ st → Un (escB e) r →
  wpR (evE cl e r st) (fun d s => ∀ v H' ph', Ext ph H ph' H' → RSt K H' O ph' s → RepB K H' O ph' d v → Q v H') (XW K xr W O ph H σ) → t σ H Q
def SemEs (t : TA) (es : Es) : Prop := ∀ H O ph r σ st (Q : List V → Hp → Prop), Pre K H O ph r σ st → Un (escs es) r →
  wpR (evEs cl es r st) (fun ds s => ∀ vs H' ph', Ext ph H ph' H' → RSt K H' O ph' s → Reps K H' O ph' ds vs → Q vs H') (XW K xr W O ph H σ) → t σ H Q
inductive RepBs (K : PySem.W.Frag) (H : Hp) (O : Addr → Prop) (ph : List Addr) : List D → List V → Prop
  | nil : RepBs K H O ph [] []
  | cons {d : D} {v : V} {ds : List D} {vs : List V} : RepB K H O ph d v → RepBs K H O ph ds vs → RepBs K H O ph (d :: ds) (v :: vs)
def SemBs (t : TA) (es : Es) : Prop := ∀ H O ph r σ st (Q : List V → Hp → Prop), Pre K H O ph r σ st → Un (escBs es) r →
  wpR (evEs cl es r st) (fun ds s => ∀ vs H' ph', Ext ph H ph' H' → RSt K H' O ph' s → RepBs K H' O ph' ds vs → Q vs H') (XW K xr W O ph H σ) → t σ H Q
def SemT (t : TT) (e : T) : Prop := ∀ H O ph r σ st (Q : Bool → Hp → Prop), Pre K H O ph r σ st → Un (escT e) r →
  wpR (evT cl e r st) (fun b s => ∀ H' ph', Ext ph H ph' H' → RSt K H' O ph' s → Q b H') (XW K xr W O ph H σ) → t σ H Q
def SemO (t : TO) (e : Eo) : Prop := ∀ H O ph r σ st (Q : Option Int → Hp → Prop), Pre K H O ph r σ st → Un (escO e) r →
  wpR (evO cl e r st) (fun b s => ∀ H' ph', Ext ph H ph' H' → RSt K H' O ph' s → Q b H') (XW K xr W O ph H σ) → t σ H Q
end
section
variable {K : PySem.W.Frag} {xr : Xc → Value → Option Addr → Hp → Prop} {W : WX} {cl : Nat → List D → Store → Res D} {ro : Nat → Bool} {t ta tb tc : TE} {e a b c : E}
theorem SemE.toB (h : SemE K xr W cl ro t e) (he : esc e = escB e) : SemB K xr W cl t e := fun H O ph r σ st Q p u w =>
  h H O ph r σ st Q p (by rw [he]; exact u) (wpR_mono w (fun d s k v H' ph' x y z _ => k v H' ph' x y z.toB) fun _ _ z => z)
theorem semE_var (i : Nat) : SemE K xr W cl ro (tVar i) (.var i) := fun H O ph r σ st Q p u w => by
  have un : ¬ isOwn (getS r i) := u i (by simp [esc, topv])
  simp only [evE] at w
  split at w
  · rename_i d hd
    obtain ⟨v, e1, _, rp⟩ := p.var (.inl hd)
    exact ⟨v, e1, w v H ph p.ext0 p.st_ (rp un) (fun z => Bool.noConfusion z)⟩
  · rename_i d hd
    obtain ⟨v, e1, _, rp⟩ := p.var (.inr hd)
    exact ⟨v, e1, w v H ph p.ext0 p.st_ (rp un) (fun z => Bool.noConfusion z)⟩
  · exact w.elim
theorem semB_var (i : Nat) : SemB K xr W cl (tVar i) (.var i) := fun H O ph r σ st Q p u w => by
  simp only [evE] at w
  split at w
  · rename_i d hd
    obtain ⟨v, e1, rp, _⟩ := p.var (.inl hd)
    exact ⟨v, e1, w v H ph p.ext0 p.st_ rp⟩
  · rename_i d hd
    obtain ⟨v, e1, rp, _⟩ := p.var (.inr hd)
    exact ⟨v, e1, w v H ph p.ext0 p.st_ rp⟩
  · exact w.elim
/-- what is wanted of a value's operation: new things at most -/
def VP (K : PySem.W.Frag) (O : Addr → Prop) (ph : List Addr) (st : Store) (H : Hp) (d : D) (Q : VK) : Prop := ∀ z H', Ext ph H ph H' → RSt K H' O ph st → Rep K H' O ph d z → FrV K true H O ph H' st d z → Q z H'
theorem VP.here {K : PySem.W.Frag} {O : Addr → Prop} {ph : List Addr} {st : Store} {H : Hp} {d : D} {Q : VK} (k : VP K O ph st H d Q) (s : RSt K H O ph st) {z : V} (h : Rep K H O ph d z) (hn : ∀ ds, d ≠ .lst ds := by intro _ z; cases z) : Q z H := k z H (Ext.refl s.isl) s h fun _ ds e => absurd e (hn ds)
theorem VP.new {K : PySem.W.Frag} {O : Addr → Prop} {ph : List Addr} {st : Store} {H : Hp} {d : D} {Q : VK} (k : VP K O ph st H d Q) (s : RSt K H O ph st) {p : Addr} {o : HO} (hp : H p = none) (h : Rep K (upd H p o) O ph d (.ref p)) (f : FrV K true H O ph (upd H p o) st d (.ref p)) : Q (.ref p) (upd H p o) :=
  k _ _ (Ext.new s.isl hp o) (s.new hp o) h f
/-- a new tuple, a new list -/
theorem VP.tup {K : PySem.W.Frag} {O : Addr → Prop} {ph : List Addr} {st : Store} {H : Hp} {ds : List D} {vs : List V} {Q : VK} (k : VP K O ph st H (.tup ds) Q) (s : RSt K H O ph st) (h : Reps K H O ph ds vs) : ∀ p, H p = none → Q (.ref p) (upd H p (.tup vs)) := fun p hp => by
  refine k.new s hp ?_ fun _ _ z => by cases z
  simp only [Rep]
  exact ⟨p, vs, rfl, SqT.of upd_same, h.next (Ext.new s.isl hp _)⟩
theorem VP.lst {K : PySem.W.Frag} {O : Addr → Prop} {ph : List Addr} {st : Store} {H : Hp} {ds : List D} {vs : List V} {Q : VK} (k : VP K O ph st H (.lst ds) Q) (s : RSt K H O ph st) (od : ∀ a, O a → ∃ vs, H a = some (.lst vs)) (h : Reps K H O ph ds vs) : ∀ p, H p = none → Q (.ref p) (upd H p (.lst vs)) := fun p hp => by
  refine k.new s hp ?_ fun _ es z => by
    cases z
    obtain ⟨h1, h2⟩ := s.newO od hp (.lst vs)
    exact ⟨p, vs, rfl, hp, upd_same, h1, h2 _ _ h⟩
  simp only [Rep]
  refine ⟨p, vs, rfl, upd_same, fun z => ?_, fun z => ?_, h.next (Ext.new s.isl hp _)⟩
  · obtain ⟨o, q⟩ := od p z
    rw [hp] at q; cases q
  · obtain ⟨o, q, _⟩ := s.isl p z
    rw [hp] at q; cases q
end

/-! ### operators by values -/
def opOf : B → Operator
  | .add => .Add | .sub => .Sub | .mul => .Mult | .fdiv => .FloorDiv | .mod => .Mod | .pow => .Pow
def rStr : R2 := fun x y H Q => ∃ i j, x = .str i ∧ y = .str j ∧ i.length + j.length ≤ sizeLine ∧ Q (.str (i ++ j)) H
def rMulS : R2 := fun x y H Q => ∃ (z : List Nat) (k : Int), x = .str ⟨z.toArray⟩ ∧ y = .int k ∧ 0 ≤ k ∧ k ≤ 1000000 ∧ z.length * k.toNat ≤ 1000000 ∧ Q (.str ⟨(List.replicate k.toNat z).flatten.toArray⟩) H
theorem foldl_arr (z : List Nat) : ∀ (n : Nat) (acc : List Nat), (List.replicate n z.toArray).foldl (· ++ ·) acc.toArray = (acc ++ (List.replicate n z).flatten).toArray
  | 0, acc => by simp
  | n + 1, acc => by
    rw [List.replicate_succ, List.foldl_cons, show acc.toArray ++ z.toArray = (acc ++ z).toArray by simp, foldl_arr z n (acc ++ z), List.replicate_succ, List.flatten_cons, List.append_assoc]
theorem txt_mul (z : List Nat) (k : Int) (h : 0 ≤ k) : Txt.mul ⟨z.toArray⟩ k = ⟨(List.replicate k.toNat z).flatten.toArray⟩ := by
  unfold Txt.mul
  split
  · have : k.toNat = 0 := by omega
    rw [this]
    rfl
  · split
    · rename_i h1 h2
      simp only [Bool.or_eq_true, beq_iff_eq] at h2
      rcases h2 with rfl | h2
      · simp
      · have : z = [] := by
          have e : (⟨z.toArray⟩ : Str).length = z.length := by simp [Str.length]
          rw [e] at h2
          exact List.length_eq_zero_iff.mp h2
        subst this
        simp
    · have := foldl_arr z k.toNat []
      rw [List.nil_append] at this
      exact congrArg Str.mk this
theorem op_mulS {X : Cx} : OpR X (binaryOp .Mult) rMulS := by
  intro pins s σ H x y v u Q I rx ry h
  obtain ⟨z, k, rfl, rfl, h1, h2, h3, q⟩ := h
  obtain ⟨t, rfl⟩ := rx
  obtain ⟨t', rfl⟩ := ry
  have e : (⟨z.toArray⟩ : Str).length = z.length := by simp [Str.length]
  refine SB.mul ⟨?_, fun _ _ => ?_, fun _ _ => ?_⟩ fun t2 k2 => ?_
  · simp only [Bool.or_eq_false_iff, decide_eq_false_iff_not]
    omega
  · rw [e]
    intro hh
    have hk : 0 < k := by omega
    have h5 : (z.length : Int) * k ≤ ((1000000 : Nat) : Int) := by
      have : ((z.length * k.toNat : Nat) : Int) ≤ ((1000000 : Nat) : Int) := Int.ofNat_le.mpr h3
      rwa [Int.natCast_mul, Int.toNat_of_nonneg h1] at this
    have h7 : ((2 : Int) ^ 63 - 1) / k + 1 ≤ z.length := by omega
    have h8 : (((2 : Int) ^ 63 - 1) / k + 1) * k ≤ z.length * k := Int.mul_le_mul_of_nonneg_right h7 h1
    have h9 : ((2 : Int) ^ 63 - 1) < (((2 : Int) ^ 63 - 1) / k + 1) * k := Int.lt_ediv_add_one_mul_self _ hk
    have h10 : ((2 : Int) ^ 63 - 1) < ((1000000 : Nat) : Int) := Int.lt_of_lt_of_le h9 (Int.le_trans h8 h5)
    exact absurd h10 (by decide)
  · rw [e]
    show decide _ = false
    rw [decide_eq_false_iff_not]
    intro hh
    exact absurd hh (Nat.not_lt.mpr (Nat.le_trans h3 (by decide)))
  · rw [txt_mul z k h1]
    exact ⟨.str _, H, I.tok _, ⟨_, rfl⟩, q⟩
def rBin (K : PySem.W.Frag) : B → R2
  | .add => fun x y H Q => (rI0 fun i j => .int (i + j)) x y H Q ∨ (rStr x y H Q ∨ (rCatA K x y H Q ∨ rCat x y H Q))
  | .sub => rI0 fun i j => .int (i - j)
  | .mul => fun x y H Q => ((rI CMul fun i j => .int (i * j)) x y H Q ∨ (rI CMulW fun i j => .int (i * j)) x y H Q) ∨ (rMulS x y H Q ∨ rRep x y H Q)
  | .fdiv => fun x y H Q => (rI CDiv fun i j => .int (i / j)) x y H Q ∨ (rI CDivW fun i j => .int (i / j)) x y H Q
  | .mod => rI (fun _ j => 0 < j) fun i j => .int (i % j)
  | .pow => rI CPow fun i j => .int (i ^ j.toNat)
theorem op_bin {X : Cx} : ∀ o, OpR X (binaryOp (opOf o)) (rBin X.K o)
  | .add => OpR.or op_add (OpR.or op_add_str (OpR.or op_catA op_cat))
  | .sub => op_sub
  | .mul => OpR.or (OpR.or op_mul op_mulW) (OpR.or op_mulS op_rep)
  | .fdiv => OpR.or op_fdiv op_fdivW
  | .mod => op_mod
  | .pow => op_pow
section
variable {K : PySem.W.Frag} {H : Hp} {O : Addr → Prop} {ph : List Addr} {st : Store}
theorem sz_ok {n : Nat} (h : n ≤ SZ) : n ≤ sizeLine := by rw [sizeLine_eq]; exact h
theorem str_len (s : List Nat) : (⟨s.toArray⟩ : Str).length = s.length := by simp [Str.length]
theorem str_app (s t : List Nat) : (⟨s.toArray⟩ : Str) ++ ⟨t.toArray⟩ = ⟨(s ++ t).toArray⟩ := by
  show Str.append _ _ = _
  simp [Str.append]
theorem small64_ok {i : Int} (h : small64 i = true) : -(2 ^ 64) < i ∧ i < 2 ^ 64 := by
  simpa [small64] using h
theorem rep_int {i : Int} : Rep K H O ph (.int i) (.int i) := by simp only [Rep]
theorem rep_bl {i : Bool} : Rep K H O ph (.bl i) (.bl i) := by simp only [Rep]
theorem rep_non : Rep K H O ph .non .non := by simp only [Rep]
theorem rep_str {s : List Nat} : Rep K H O ph (.str s) (.str ⟨s.toArray⟩) := by simp only [Rep]
theorem RepB.int {i : Int} {v : V} (h : RepB K H O ph (.int i) v) : v = .int i := by simpa only [RepB, Rep] using h
theorem RepB.bl {i : Bool} {v : V} (h : RepB K H O ph (.bl i) v) : v = .bl i := by simpa only [RepB, Rep] using h
theorem RepB.non {v : V} (h : RepB K H O ph .non v) : v = .non := by simpa only [RepB, Rep] using h
theorem RepB.str {i : List Nat} {v : V} (h : RepB K H O ph (.str i) v) : v = .str ⟨i.toArray⟩ := by simpa only [RepB, Rep] using h
theorem RepB.tup {ds : List D} {v : V} (h : RepB K H O ph (.tup ds) v) : ∃ a vs, v = .ref a ∧ SqT K H a vs ∧ Reps K H O ph ds vs := by simpa only [RepB, Rep] using h
theorem RepB.lst {ds : List D} {v : V} (h : RepB K H O ph (.lst ds) v) : ∃ a vs, v = .ref a ∧ H a = some (.lst vs) ∧ a ∉ ph ∧ Reps K H O ph ds vs := h
theorem RepB.rol {ds : List D} {v : V} (h : RepB K H O ph (.rol ds) v) : ∃ a vs, v = .ref a ∧ SqL K H a vs ∧ Reps K H O ph ds vs := by
  simp only [RepB, Rep] at h
  obtain ⟨a, vs, e, q, r⟩ := h
  refine ⟨a, vs, e, ?_, r⟩
  rcases q with q | q
  · exact .inl q.1
  · exact .inr q
theorem RepB.ref {n : Nat} {v : V} (h : RepB K H O ph (.ref n) v) : ∃ a, v = .ref a ∧ ph[n]? = some a := by simpa only [RepB, Rep] using h
theorem Reps.rep {ds : List D} {vs : List V} (n : Nat) (h : Reps K H O ph ds vs) : Reps K H O ph (List.replicate n ds).flatten (List.replicate n vs).flatten := by
  induction n with
  | zero => exact Reps.nil
  | succ n ih =>
    rw [List.replicate_succ, List.replicate_succ, List.flatten_cons, List.flatten_cons]
    exact h.append ih
theorem bin_ok {o : B} {x y d : D} {v w : V} {Q : VK} (s : RSt K H O ph st) (od : ∀ a, O a → ∃ vs, H a = some (.lst vs)) (h : binD o x y = some d) (rx : RepB K H O ph x v) (ry : RepB K H O ph y w) (k : VP K O ph st H d Q) : rBin K o v w H Q := by
  unfold binD at h
  split at h
  · rename_i i j
    rw [rx.int, ry.int]
    cases h
    exact .inl ⟨i, j, rfl, rfl, k.here s rep_int⟩
  · rename_i x y
    rw [rx.str, ry.str]
    split at h
    · rename_i hl
      cases h
      refine .inr (.inl ⟨_, _, rfl, rfl, by rw [str_len, str_len]; exact sz_ok hl, ?_⟩)
      rw [str_app]
      exact k.here s rep_str
    · cases h
  · rename_i x y
    obtain ⟨a, vs, rfl, qa, ra⟩ := rx.tup
    obtain ⟨b, ws, rfl, qb, rb⟩ := ry.tup
    split at h
    · rename_i hl
      cases h
      refine .inr (.inr (.inl ⟨a, b, vs, ws, rfl, rfl, qa, qb, by rw [← ra.length, ← rb.length]; exact sz_ok hl, fun e => ?_, fun _ e => ?_, fun _ _ => k.tup s (ra.append rb)⟩))
      · subst e
        have ex : x = [] := List.length_eq_zero_iff.mp (by rw [ra.length]; rfl)
        subst ex
        exact k.here s (by simp only [Rep]; exact ⟨b, ws, rfl, qb, rb⟩)
      · subst e
        have ey : y = [] := List.length_eq_zero_iff.mp (by rw [rb.length]; rfl)
        subst ey
        exact k.here s (by simp only [Rep]; exact ⟨a, vs, rfl, qa, by rw [List.append_nil]; exact ra⟩)
    · cases h
  · rename_i x y
    obtain ⟨a, vs, rfl, qa, _, ra⟩ := rx.lst
    obtain ⟨b, ws, rfl, qb, _, rb⟩ := ry.lst
    split at h
    · rename_i hl
      cases h
      exact .inr (.inr (.inr ⟨a, b, vs, ws, rfl, rfl, qa, qb, by rw [← ra.length, ← rb.length]; exact sz_ok hl, k.lst s od (ra.append rb)⟩))
    · cases h
  · rename_i i j
    rw [rx.int, ry.int]
    cases h
    exact ⟨i, j, rfl, rfl, k.here s rep_int⟩
  · rename_i i j
    rw [rx.int, ry.int]
    split at h
    · rename_i hm
      cases h
      simp only [mulOk, Bool.or_eq_true, decide_eq_true_eq] at hm
      rcases hm with (hm | hm) | hm
      · exact .inl (.inl ⟨i, j, rfl, rfl, .inl (small64_ok hm), k.here s rep_int⟩)
      · exact .inl (.inl ⟨i, j, rfl, rfl, .inr (small64_ok hm), k.here s rep_int⟩)
      · exact .inl (.inr ⟨i, j, rfl, rfl, hm, k.here s rep_int⟩)
    · cases h
  · rename_i x j
    rw [rx.str, ry.int]
    split at h
    · rename_i hm
      cases h
      exact .inr (.inl ⟨x, j, rfl, rfl, hm.1, hm.2.1, hm.2.2, k.here s rep_str⟩)
    · cases h
  · rename_i x j
    obtain ⟨a, vs, rfl, qa, _, ra⟩ := rx.lst
    rw [ry.int]
    split at h
    · rename_i hm
      cases h
      refine .inr (.inr ⟨a, j, vs, rfl, rfl, qa, by omega, by omega, by rw [← ra.length]; exact sz_ok hm.2.2, k.lst s od (Reps.rep _ ra)⟩)
    · cases h
  · rename_i i j
    rw [rx.int, ry.int]
    split at h
    · rename_i hm
      cases h
      simp only [divOk, Bool.and_eq_true, Bool.or_eq_true, decide_eq_true_eq] at hm
      rcases hm with ⟨hm, hn | hn⟩
      · exact .inl ⟨i, j, rfl, rfl, ⟨hm, hn⟩, k.here s rep_int⟩
      · exact .inr ⟨i, j, rfl, rfl, ⟨hm, hn⟩, k.here s rep_int⟩
    · cases h
  · rename_i i j
    rw [rx.int, ry.int]
    split at h
    · rename_i hm
      cases h
      exact ⟨i, j, rfl, rfl, hm, k.here s rep_int⟩
    · cases h
  · rename_i i j
    rw [rx.int, ry.int]
    split at h
    · rename_i hm
      cases h
      exact ⟨i, j, rfl, rfl, hm, k.here s rep_int⟩
    · cases h
  · cases h
end
end PyE

/-! Comparisons, items, slices, truth, built-in functions, by values. -/
namespace PyE
open PySem PySem.Spec PyProof.Rows L2
section
variable {K : PySem.W.Frag} {H : Hp} {O : Addr → Prop} {ph : List Addr} {st : Store}
mutual
def toP : D → PyData
  | .non => .none
  | .bl b => .bool b
  | .int i => .int i
  | .str s => .str ⟨s.toArray⟩
  | .tup ds => .tuple (toPs ds)
  | .lst ds => .list (toPs ds)
  | .rol _ => .none
  | .ref _ => .none
def toPs : List D → List PyData
  | [] => []
  | d :: ds => toP d :: toPs ds
end
theorem str_beq (s t : List Nat) : ((⟨s.toArray⟩ : Str) == ⟨t.toArray⟩) = (s == t) := by
  rw [Bool.eq_iff_iff]
  simp
mutual
theorem eqv_toP : ∀ x y : D, plainD x = true → plainD y = true → PyData.eqv (toP x) (toP y) = eqD x y := by
  intro x y hx hy
  cases x <;> cases y <;> simp only [plainD, Bool.false_eq_true] at hx hy <;> simp only [toP, PyData.eqv, eqD]
  · exact str_beq _ _
  · exact eqv_toPs _ _ hx hy
  · exact eqv_toPs _ _ hx hy
theorem eqv_toPs : ∀ xs ys : List D, plainDs xs = true → plainDs ys = true → PyData.eqvAll (toPs xs) (toPs ys) = eqDs xs ys := by
  intro xs ys hx hy
  cases xs <;> cases ys <;> simp only [toPs, PyData.eqvAll, eqDs]
  simp only [plainDs, Bool.and_eq_true] at hx hy
  rw [eqv_toP _ _ hx.1 hy.1, eqv_toPs _ _ hx.2 hy.2]
end
mutual
theorem dep_toP : ∀ x : D, (toP x).depth ≤ dep x := by
  intro x
  cases x <;> simp only [toP, PyData.depth, dep, Nat.le_refl, Nat.zero_le]
  · exact Nat.succ_le_succ (dep_toPs _)
  · exact Nat.succ_le_succ (dep_toPs _)
theorem dep_toPs : ∀ xs : List D, PyData.depthAll (toPs xs) ≤ deps xs := by
  intro xs
  cases xs <;> simp only [toPs, PyData.depthAll, deps, Nat.le_refl]
  have h1 := dep_toP ‹D›
  have h2 := dep_toPs ‹List D›
  omega
end
mutual
theorem lay_toP : ∀ x : D, plainD x = true → (toP x).canLay0 = true := by
  intro x h
  cases x <;> simp only [plainD, Bool.false_eq_true] at h <;> simp only [toP, PyData.canLay0]
  · simpa [PyData.strOk] using h
  · exact lay_toPs _ h
  · exact lay_toPs _ h
theorem lay_toPs : ∀ xs : List D, plainDs xs = true → PyData.canLayAll0 (toPs xs) = true := by
  intro xs h
  cases xs <;> simp only [toPs, PyData.canLayAll0]
  simp only [plainDs, Bool.and_eq_true] at h
  rw [lay_toP _ h.1, lay_toPs _ h.2]
  rfl
end
theorem shaped_toP {x : D} (h : plainD x = true) (hd : dep x ≤ 64) : SeqAt.shaped (toP x) = true := by
  simp only [SeqAt.shaped, Bool.and_eq_true, decide_eq_true_eq]
  exact ⟨lay_toP x h, Nat.le_trans (dep_toP x) hd⟩
mutual
theorem dp_of : ∀ (x : D) (v : V), plainD x = true → Rep K H O ph x v → Dp K H v (toP x) := by
  intro x v h r
  cases x <;> simp only [plainD, Bool.false_eq_true] at h <;> simp only [Rep] at r <;> simp only [toP]
  · subst r; exact .non
  · subst r; exact .bl _
  · subst r; exact .int _
  · subst r; exact .str _
  · obtain ⟨a, vs, rfl, q, r⟩ := r
    exact .tup q (dps_of _ _ h r)
  · obtain ⟨a, vs, rfl, q, _, _, r⟩ := r
    exact .lst (SqL.of q) (dps_of _ _ h r)
theorem dps_of : ∀ (xs : List D) (vs : List V), plainDs xs = true → Reps K H O ph xs vs → DpAll K H vs (toPs xs) := by
  intro xs vs h r
  cases xs <;> simp only [Reps] at r <;> simp only [toPs]
  · subst r; exact .nil
  · obtain ⟨v, w, rfl, r1, r2⟩ := r
    simp only [plainDs, Bool.and_eq_true] at h
    exact .cons (dp_of _ _ h.1 r1) (dps_of _ _ h.2 r2)
end
theorem dp_ofB {x : D} {v : V} (h : plainD x = true) (r : RepB K H O ph x v) : Dp K H v (toP x) := by
  cases x with
  | lst ds =>
    obtain ⟨a, vs, rfl, q, _, r⟩ := r
    exact .lst (SqL.of q) (dps_of _ _ (by simpa only [plainD] using h) r)
  | _ => exact dp_of (O := O) (ph := ph) _ v h r
/-! ### comparisons -/
def cpOf : C → CmpOp
  | .eq => .Eq | .ne => .NotEq | .lt => .Lt | .le => .LtE | .gt => .Gt | .ge => .GtE | .is => .Is | .isnot => .IsNot | .inn => .In | .notin => .NotIn
def rSign (neg : Bool) : R2 := fun x y H Q => ∃ (c : Nat) (z : Str), x = .str ⟨#[c]⟩ ∧ y = .str z ∧ Q (.bl (if neg then !decide (c ∈ z.cps.toList) else decide (c ∈ z.cps.toList))) H
def rText (neg : Bool) : R2 := fun x y H Q => ∃ i j, x = .str i ∧ y = .str j ∧ Q (.bl (if neg then !(!(Builtin.Str.occurrences j i 0 j.length 1).isEmpty) else !(Builtin.Str.occurrences j i 0 j.length 1).isEmpty)) H
def rCmp (K : PySem.W.Frag) : C → R2
  | .lt => rI0 fun i j => .bl (decide (i < j))
  | .le => rI0 fun i j => .bl (decide (i ≤ j))
  | .gt => rI0 fun i j => .bl (decide (j < i))
  | .ge => rI0 fun i j => .bl (decide (j ≤ i))
  | .eq => fun x y H Q => rEq x y H Q ∨ rEqD K x y H Q
  | .ne => fun x y H Q => rNe x y H Q ∨ rNeD K x y H Q
  | .is => fun x y H Q => y = .non ∧ Q (.bl (decide (x = .non))) H
  | .isnot => fun x y H Q => y = .non ∧ Q (.bl (!decide (x = .non))) H
  | .inn => fun x y H Q => rIn K false x y H Q ∨ (rSign false x y H Q ∨ rText false x y H Q)
  | .notin => fun x y H Q => rIn K true x y H Q ∨ (rSign true x y H Q ∨ rText true x y H Q)
theorem op_cmp {X : Cx} (hu : X.A.units + 64 < cLine) : ∀ o, OpR X (compareOp (cpOf o)) (rCmp X.K o)
  | .lt => op_lt
  | .le => op_le
  | .gt => op_gt
  | .ge => op_ge
  | .eq => OpR.or op_eq (op_eqD hu)
  | .ne => OpR.or op_ne (op_neD hu)
  | .is => op_isN
  | .isnot => op_notN
  | .inn => OpR.or op_in_seq (OpR.or op_in_sign op_in_str)
  | .notin => OpR.or op_notIn_seq (OpR.or op_notIn_sign op_notin_str)
theorem flat_eq {x : D} {v : V} (h : flat x = true) (r : RepB K H O ph x v) : flatV v = true := by
  cases x <;> simp only [flat, Bool.false_eq_true] at h <;> simp only [RepB, Rep] at r <;> subst r <;> rfl
theorem flat_eqV {x y : D} {v w : V} (hx : flat x = true) (hy : flat y = true) (rx : RepB K H O ph x v) (ry : RepB K H O ph y w) : eqV v w = eqD x y := by
  cases x <;> simp only [flat, Bool.false_eq_true] at hx <;> simp only [RepB, Rep] at rx <;> subst rx <;> cases y <;> simp only [flat, Bool.false_eq_true] at hy <;> simp only [RepB, Rep] at ry <;> subst ry <;> simp only [eqV, eqD]
  exact str_beq _ _
theorem flats_eq : ∀ {xs : List D} {vs : List V}, xs.all flat = true → Reps K H O ph xs vs → vs.all flatV = true
  | [], vs, h, r => by
    simp only [Reps] at r
    subst r
    rfl
  | x :: xs, vs, h, r => by
    simp only [Reps] at r
    obtain ⟨v, w, rfl, r1, r2⟩ := r
    simp only [List.all_cons, Bool.and_eq_true] at h ⊢
    exact ⟨flat_eq h.1 r1.toB, flats_eq h.2 r2⟩
theorem any_eq {x : D} {v : V} (hx : flat x = true) (rx : RepB K H O ph x v) : ∀ {xs : List D} {vs : List V}, xs.all flat = true → Reps K H O ph xs vs → inV v vs = xs.any fun z => eqD z x
  | [], vs, h, r => by
    simp only [Reps] at r
    subst r
    rfl
  | y :: ys, vs, h, r => by
    simp only [Reps] at r
    obtain ⟨w, ws, rfl, r1, r2⟩ := r
    simp only [List.all_cons, Bool.and_eq_true] at h
    have ih := any_eq hx rx h.2 r2
    simp only [inV, List.any_cons] at ih ⊢
    rw [ih, flat_eqV h.1 hx r1.toB rx]
theorem scal_eq {x y : D} {v w : V} (h : scalD x y = true) (rx : RepB K H O ph x v) (ry : RepB K H O ph y w) : scal v w = true ∧ decide (v = w) = eqD x y := by
  unfold scalD at h
  split at h <;> first
    | (exact absurd h Bool.false_ne_true)
    | (have e1 := rx
       have e2 := ry
       simp only [RepB, Rep] at e1 e2
       subst e1
       subst e2
       refine ⟨rfl, ?_⟩
       simp only [eqD]
       first
         | rfl
         | (rw [Bool.eq_iff_iff]; simp; done)
         | (simp; done))
theorem eqO_ok {x y : D} {v w : V} {b : Bool} (h : eqO x y = some b) (rx : RepB K H O ph x v) (ry : RepB K H O ph y w) :
    (scal v w = true ∧ decide (v = w) = b) ∨ ∃ d e, Dp K H v d ∧ Dp K H w e ∧ SeqAt.shaped d = true ∧ SeqAt.shaped e = true ∧ PyData.eqv d e = b := by
  unfold eqO at h
  split at h
  · rename_i hs
    cases h
    exact .inl (scal_eq hs rx ry)
  · split at h
    · rename_i hp
      cases h
      simp only [Bool.and_eq_true, decide_eq_true_eq] at hp
      obtain ⟨⟨⟨p1, p2⟩, d1⟩, d2⟩ := hp
      exact .inr ⟨toP x, toP y, dp_ofB p1 rx, dp_ofB p2 ry, shaped_toP p1 d1, shaped_toP p2 d2, eqv_toP x y p1 p2⟩
    · cases h
theorem isNon_eq {x : D} {v : V} (rx : RepB K H O ph x v) : decide (v = .non) = isNon x := by
  cases x with
  | non => rw [rx.non]; rfl
  | bl _ => rw [rx.bl]; rfl
  | int _ => rw [rx.int]; rfl
  | str _ => rw [rx.str]; rfl
  | tup _ => obtain ⟨a, vs, rfl, _⟩ := rx.tup; rfl
  | lst _ => obtain ⟨a, vs, rfl, _⟩ := rx.lst; rfl
  | rol _ => obtain ⟨a, vs, rfl, _⟩ := rx.rol; rfl
  | ref _ => obtain ⟨a, rfl, _⟩ := rx.ref; rfl
theorem strIn_ok {x y : List Nat} {Q : VK} {neg : Bool} (q : Q (.bl (if neg then !strIn x y else strIn x y)) H) : rSign neg (.str ⟨x.toArray⟩) (.str ⟨y.toArray⟩) H Q ∨ rText neg (.str ⟨x.toArray⟩) (.str ⟨y.toArray⟩) H Q := by
  rcases x with _ | ⟨c, _ | ⟨c2, r⟩⟩
  · refine .inr ⟨_, _, rfl, rfl, ?_⟩
    rw [str_len]
    exact q
  · exact .inl ⟨c, ⟨y.toArray⟩, rfl, rfl, by simpa [strIn] using q⟩
  · refine .inr ⟨_, _, rfl, rfl, ?_⟩
    rw [str_len]
    exact q
theorem cmp_ok {o : C} {x y : D} {b : Bool} {v w : V} {Q : VK} (h : cmpD o x y = some b) (rx : RepB K H O ph x v) (ry : RepB K H O ph y w) (q : Q (.bl b) H) : rCmp K o v w H Q := by
  unfold cmpD at h
  split at h
  · rw [rx.int, ry.int]; cases h; exact ⟨_, _, rfl, rfl, q⟩
  · rw [rx.int, ry.int]; cases h; exact ⟨_, _, rfl, rfl, q⟩
  · rw [rx.int, ry.int]; cases h; exact ⟨_, _, rfl, rfl, q⟩
  · rw [rx.int, ry.int]; cases h; exact ⟨_, _, rfl, rfl, q⟩
  · rcases eqO_ok h rx ry with ⟨e1, e2⟩ | ⟨d, e, h1, h2, h3, h4, h5⟩
    · exact .inl ⟨e1, by rw [e2]; exact q⟩
    · exact .inr ⟨d, e, h1, h2, h3, h4, by rw [h5]; exact q⟩
  · cases e : eqO x y with
    | none => rw [e] at h; cases h
    | some c =>
      rw [e] at h
      cases h
      rcases eqO_ok e rx ry with ⟨e1, e2⟩ | ⟨d, e, h1, h2, h3, h4, h5⟩
      · exact .inl ⟨e1, by rw [e2]; exact q⟩
      · exact .inr ⟨d, e, h1, h2, h3, h4, by rw [h5]; exact q⟩
  · cases h
    rw [ry.non]
    exact ⟨rfl, by rw [isNon_eq rx]; exact q⟩
  · cases h
    rw [ry.non]
    exact ⟨rfl, by rw [isNon_eq rx]; exact q⟩
  · unfold inO at h
    split at h
    · rename_i y
      split at h
      · cases h
        rw [rx.str, ry.str]
        exact .inr (strIn_ok (neg := false) q)
      · cases h
    · rename_i ds
      split at h
      · rename_i hf
        simp only [Bool.and_eq_true] at hf
        cases h
        obtain ⟨a, vs, rfl, qa, _, r⟩ := ry.lst
        exact .inl ⟨a, vs, rfl, .inl (SqL.of qa), flat_eq hf.1 rx, flats_eq hf.2 r, by rw [any_eq hf.1 rx hf.2 r]; exact q⟩
      · cases h
    · rename_i ds
      split at h
      · rename_i hf
        simp only [Bool.and_eq_true] at hf
        cases h
        obtain ⟨a, vs, rfl, qa, r⟩ := ry.tup
        exact .inl ⟨a, vs, rfl, .inr qa, flat_eq hf.1 rx, flats_eq hf.2 r, by rw [any_eq hf.1 rx hf.2 r]; exact q⟩
      · cases h
    · cases h
  · cases e : inO x y with
    | none => rw [e] at h; cases h
    | some c =>
      rw [e] at h
      cases h
      unfold inO at e
      split at e
      · rename_i y
        split at e
        · cases e
          rw [rx.str, ry.str]
          exact .inr (strIn_ok (neg := true) q)
        · cases e
      · rename_i ds
        split at e
        · rename_i hf
          simp only [Bool.and_eq_true] at hf
          cases e
          obtain ⟨a, vs, rfl, qa, _, r⟩ := ry.lst
          exact .inl ⟨a, vs, rfl, .inl (SqL.of qa), flat_eq hf.1 rx, flats_eq hf.2 r, by rw [any_eq hf.1 rx hf.2 r]; exact q⟩
        · cases e
      · rename_i ds
        split at e
        · rename_i hf
          simp only [Bool.and_eq_true] at hf
          cases e
          obtain ⟨a, vs, rfl, qa, r⟩ := ry.tup
          exact .inl ⟨a, vs, rfl, .inr qa, flat_eq hf.1 rx, flats_eq hf.2 r, by rw [any_eq hf.1 rx hf.2 r]; exact q⟩
        · cases e
      · cases e
  · cases h
/-! ### items, slices -/
theorem atI_rep {ds : List D} {vs : List V} {i : Int} {d : D} (r : Reps K H O ph ds vs) (h : atI ds i = some d) : ∃ v, atI vs i = some v ∧ Rep K H O ph d v := by
  unfold atI at h ⊢
  rw [r.length] at h
  cases e : ixN vs.length i with
  | none => rw [e] at h; cases h
  | some j =>
    rw [e] at h
    obtain ⟨v, q, s⟩ := r.get (show ds[j]? = some d from h)
    exact ⟨v, q, s⟩
theorem idx_ok {x y d : D} {v w : V} {Q : VK} (s : RSt K H O ph st) (h : idxD st x y = some d) (rx : RepB K H O ph x v) (ry : RepB K H O ph y w) (k : ∀ z, Rep K H O ph d z → Q z H) : rIx K v w H Q := by
  unfold idxD at h
  split at h
  · rw [ry.int]
    obtain ⟨a, vs, rfl, qa, r⟩ := rx.tup
    obtain ⟨z, e, rz⟩ := atI_rep r h
    exact .inr (.inl ⟨a, vs, _, z, rfl, rfl, qa, e, k z rz⟩)
  · rw [ry.int]
    obtain ⟨a, vs, rfl, qa, _, r⟩ := rx.lst
    obtain ⟨z, e, rz⟩ := atI_rep r h
    exact .inl ⟨a, vs, _, z, rfl, rfl, SqL.of qa, e, k z rz⟩
  · rw [ry.int]
    obtain ⟨a, vs, rfl, qa, r⟩ := rx.rol
    obtain ⟨z, e, rz⟩ := atI_rep r h
    exact .inl ⟨a, vs, _, z, rfl, rfl, qa, e, k z rz⟩
  · rename_i z i
    rw [ry.int, rx.str]
    split at h
    · rename_i hl
      cases e : atI z i with
      | none => rw [show atD z i = none from e] at h; cases h
      | some c =>
        rw [show atD z i = some c from e] at h
        cases h
        exact .inr (.inr ⟨⟨z.toArray⟩, i, c, rfl, rfl, by rw [str_len]; exact sz_ok hl, by simpa using e, k _ rep_str⟩)
    · cases h
  · rename_i n i
    rw [ry.int]
    obtain ⟨a, rfl, ea⟩ := rx.ref
    split at h
    · rename_i ds hd
      obtain ⟨b, vs, eb, _, hb, r⟩ := s.obj n ds hd
      rw [ea] at eb
      cases eb
      obtain ⟨z, e, rz⟩ := atI_rep r h
      exact .inl ⟨a, vs, _, z, rfl, rfl, SqL.of hb, e, k z rz⟩
    · cases h
  · cases h
theorem reps_cut {ds : List D} {vs : List V} {lo hi : Option Int} (r : Reps K H O ph ds vs) : Reps K H O ph (cut ds lo hi) (cutV vs lo hi) := by
  unfold cut cutV
  rw [r.length]
  exact Reps.take _ (Reps.drop _ r)
def rSlc (K : PySem.W.Frag) : V → Option Int → Option Int → Hp → VK → Prop := fun x lo hi H Q => rSlL K x lo hi H Q ∨ (rSlA K x lo hi H Q ∨ rSlS x lo hi H Q)
theorem sl_all {X : Cx} : SlR X (rSlc X.K) := SlR.or sl_list (SlR.or sl_tupA sl_str)
theorem cut_all {a : Type} {xs : List a} {lo hi : Option Int} (h : HT.sIx xs.length 0 lo = 0 ∧ HT.sIx xs.length xs.length hi = xs.length) : cut xs lo hi = xs := by
  unfold cut
  rw [h.1, h.2]
  simp
theorem slc_ok {x d : D} {v : V} {lo hi : Option Int} {Q : VK} (s : RSt K H O ph st) (od : ∀ a, O a → ∃ vs, H a = some (.lst vs)) (h : slcD x lo hi = some d) (rx : RepB K H O ph x v) (k : VP K O ph st H d Q) : rSlc K v lo hi H Q := by
  unfold slcD at h
  split at h
  · rename_i ds
    cases h
    obtain ⟨a, vs, rfl, qa, r⟩ := rx.tup
    refine .inr (.inl ⟨a, vs, rfl, qa, fun e => ?_, fun _ => k.tup s (reps_cut r)⟩)
    refine k.here s ?_
    rw [← r.length] at e
    rw [cut_all e]
    simp only [Rep]
    exact ⟨a, vs, rfl, qa, r⟩
  · rename_i ds
    cases h
    obtain ⟨a, vs, rfl, qa, _, r⟩ := rx.lst
    exact .inl ⟨a, vs, rfl, SqL.of qa, k.lst s od (reps_cut r)⟩
  · rename_i ds
    cases h
    obtain ⟨a, vs, rfl, qa, r⟩ := rx.rol
    exact .inl ⟨a, vs, rfl, qa, k.lst s od (reps_cut r)⟩
  · rename_i z
    rw [rx.str]
    split at h
    · rename_i hl
      cases h
      refine .inr (.inr ⟨_, rfl, by rw [str_len]; exact sz_ok hl, ?_⟩)
      have e : cutS ⟨z.toArray⟩ lo hi = ⟨(cut z lo hi).toArray⟩ := by
        unfold cutS cut
        rw [str_len]
      rw [e]
      exact k.here s rep_str
    · cases h
  · cases h
/-! ### truth -/
theorem isEmpty_rep {ds : List D} {vs : List V} (r : Reps K H O ph ds vs) : vs.isEmpty = ds.isEmpty := by
  have := r.length
  cases ds <;> cases vs <;> simp_all
theorem tru_ok {x : D} {v : V} {b : Bool} (h : truD st x = some b) (rx : RepB K H O ph x v) : TruV K v H b := by
  unfold truD at h
  split at h
  · rw [rx.non]; cases h; rfl
  · rw [rx.bl]; cases h; rfl
  · rw [rx.int]; cases h; rfl
  · rename_i s
    rw [rx.str]
    split at h
    · rename_i hl
      cases h
      refine ⟨by rw [str_len]; exact sz_ok hl, ?_⟩
      rw [str_len]
      cases s with
      | nil => rfl
      | cons c r =>
        have : (((c :: r).length : Int) != 0) = true := by
          simp only [bne_iff_ne, ne_eq, List.length_cons]
          omega
        rw [this]
        rfl
    · cases h
  · cases h
    obtain ⟨a, vs, rfl, qa, r⟩ := rx.tup
    exact .inr (.inl ⟨vs, qa, by rw [isEmpty_rep r]⟩)
  · cases h
    obtain ⟨a, vs, rfl, qa, _, r⟩ := rx.lst
    exact .inl ⟨vs, SqL.of qa, by rw [isEmpty_rep r]⟩
  · cases h
end
end PyE

/-! Built-in functions by values; each expression's reading against the evaluator. -/
namespace PyE
open PySem PySem.Spec PyProof.Rows L2

/-! ### built-in functions -/
def fVal : F → Value
  | .len => .builtin "len" | .sum => .builtin "sum" | .min1 => .builtin "min" | .max1 => .builtin "max" | .min2 => .builtin "min" | .max2 => .builtin "max" | .abs => .builtin "abs" | .int => .type "int"
  | .str => .type "str" | .tuple => .type "tuple" | .list => .type "list" | .sorted => .builtin "sorted" | .all => .builtin "all" | .any => .builtin "any"
def rBlt (K : PySem.W.Frag) : F → List V → Hp → VK → Prop
  | .len => fun xs H Q => ∃ x n, xs = [x] ∧ LenV K x H n ∧ Q (.int n) H
  | .sum => rSum K
  | .min2 => fun xs H Q => ∃ i j, xs = [.int i, .int j] ∧ Q (.int (if j < i then j else i)) H
  | .max2 => fun xs H Q => ∃ i j, xs = [.int i, .int j] ∧ Q (.int (if j > i then j else i)) H
  | .abs => fun xs H Q => ∃ i, xs = [.int i] ∧ Q (.int (if i < 0 then -i else i)) H
  | .int => fun xs H Q => ((∃ i, xs = [.int i] ∧ Q (.int i) H) ∨ ∃ k, xs = [.bl k] ∧ Q (.int (if k then 1 else 0)) H) ∨ ∃ a n, xs = [.str a] ∧ PySem.intText? a = some n ∧ a.length ≤ 640 ∧ Q (.int n) H
  | .str => fun xs H Q => ∃ i, xs = [.int i] ∧ i.natAbs.log2 < 1920 ∧ Q (.str (toString i)) H
  | .tuple => fun xs H Q => ∃ p ys, xs = [.ref p] ∧ ((SqL K H p ys ∧ ∀ l, H l = none → Q (.ref l) (upd H l (.tup ys))) ∨ (SqT K H p ys ∧ Q (.ref p) H))
  | .list => fun xs H Q => ∃ p ys, xs = [.ref p] ∧ (SqL K H p ys ∨ SqT K H p ys) ∧ ∀ l, H l = none → Q (.ref l) (upd H l (.lst ys))
  | .all => rAll K
  | .any => rAny K
  | _ => fun _ _ _ => False
theorem CallR.or {X : Cx} {v : Value} {r r' : List V → Hp → VK → Prop} (h : CallR X v r) (h' : CallR X v r') : CallR X v fun xs H Q => r xs H Q ∨ r' xs H Q := fun a b c d e f g i j q => q.elim (fun q => h a b c d e f g i j q) fun q => h' a b c d e f g i j q
theorem cr_blt {X : Cx} (hc : X.calm = true) : ∀ f, CallR X (fVal f) (rBlt X.K f)
  | .len => call_len
  | .sum => cr_sum hc
  | .min2 => call_min2 hc
  | .max2 => call_max2 hc
  | .abs => call_abs
  | .int => CallR.or call_int1 call_int_str
  | .str => call_str_int
  | .tuple => call_tuple_of
  | .list => call_list_of
  | .all => cr_all hc
  | .any => cr_any hc
  | .min1 => fun _ _ _ _ _ _ _ _ _ h => h.elim
  | .max1 => fun _ _ _ _ _ _ _ _ _ h => h.elim
  | .sorted => fun _ _ _ _ _ _ _ _ _ h => h.elim
section
variable {K : PySem.W.Frag} {H : Hp} {O : Addr → Prop} {ph : List Addr} {st : Store}
theorem ints_rep : ∀ {ds : List D} {ns : List Int} {vs : List V}, intsD ds = some ns → Reps K H O ph ds vs → vs = ns.map V.int
  | [], ns, vs, h, r => by
    simp only [Reps] at r
    cases h
    exact r
  | d :: ds, ns, vs, h, r => by
    simp only [Reps] at r
    obtain ⟨v, w, rfl, r1, r2⟩ := r
    cases d with
    | int i =>
      simp only [intsD] at h
      cases e : intsD ds with
      | none => rw [e] at h; cases h
      | some ms =>
        rw [e] at h
        cases h
        rw [ints_rep e r2]
        simp only [Rep] at r1
        subst r1
        rfl
    | _ => cases h
theorem bls_rep : ∀ {ds : List D} {ns : List Bool} {vs : List V}, blsD ds = some ns → Reps K H O ph ds vs → vs = ns.map V.bl
  | [], ns, vs, h, r => by
    simp only [Reps] at r
    cases h
    exact r
  | d :: ds, ns, vs, h, r => by
    simp only [Reps] at r
    obtain ⟨v, w, rfl, r1, r2⟩ := r
    cases d with
    | bl i =>
      simp only [blsD] at h
      cases e : blsD ds with
      | none => rw [e] at h; cases h
      | some ms =>
        rw [e] at h
        cases h
        rw [bls_rep e r2]
        simp only [Rep] at r1
        subst r1
        rfl
    | _ => cases h
theorem RepBs.one {d : D} {vs : List V} (h : RepBs K H O ph [d] vs) : ∃ v, vs = [v] ∧ RepB K H O ph d v := by
  cases h with
  | cons h1 h2 =>
    cases h2
    exact ⟨_, rfl, h1⟩
theorem RepBs.two {d e : D} {vs : List V} (h : RepBs K H O ph [d, e] vs) : ∃ v w, vs = [v, w] ∧ RepB K H O ph d v ∧ RepB K H O ph e w := by
  cases h with
  | cons h1 h2 =>
    obtain ⟨w, rfl, h3⟩ := h2.one
    exact ⟨_, w, rfl, h1, h3⟩
theorem blt_ok {f : F} {ds : List D} {d : D} {vs : List V} {Q : VK} (s : RSt K H O ph st) (od : ∀ a, O a → ∃ vs, H a = some (.lst vs)) (h : bltD st f ds = some d) (rx : RepBs K H O ph ds vs) (k : VP K O ph st H d Q) : rBlt K f vs H Q := by
  unfold bltD at h
  split at h
  · obtain ⟨v, rfl, r⟩ := rx.one
    cases h
    obtain ⟨a, ws, rfl, qa, r⟩ := r.tup
    exact ⟨_, _, rfl, .inr ⟨ws, qa, r.length⟩, k.here s rep_int⟩
  · obtain ⟨v, rfl, r⟩ := rx.one
    cases h
    obtain ⟨a, ws, rfl, qa, _, r⟩ := r.lst
    exact ⟨_, _, rfl, .inl ⟨ws, SqL.of qa, r.length⟩, k.here s rep_int⟩
  · obtain ⟨v, rfl, r⟩ := rx.one
    cases h
    obtain ⟨a, ws, rfl, qa, r⟩ := r.rol
    exact ⟨_, _, rfl, .inl ⟨ws, qa, r.length⟩, k.here s rep_int⟩
  · obtain ⟨v, rfl, r⟩ := rx.one
    split at h
    · rename_i hl
      cases h
      rw [r.str]
      exact ⟨_, _, rfl, ⟨by rw [str_len]; exact sz_ok hl, (str_len _).symm⟩, k.here s rep_int⟩
    · cases h
  · obtain ⟨v, rfl, r⟩ := rx.one
    obtain ⟨a, rfl, ea⟩ := r.ref
    split at h
    · rename_i ds hd
      cases h
      obtain ⟨b, ws, eb, _, hb, r⟩ := s.obj _ ds hd
      rw [ea] at eb
      cases eb
      exact ⟨_, _, rfl, .inl ⟨ws, SqL.of hb, r.length⟩, k.here s rep_int⟩
    · cases h
  · rename_i ds
    obtain ⟨v, rfl, r⟩ := rx.one
    obtain ⟨a, ws, rfl, qa, _, r⟩ := r.lst
    cases e : intsD ds with
    | none => rw [e] at h; cases h
    | some ns =>
      rw [e] at h
      cases h
      exact ⟨a, ns, rfl, by rw [← ints_rep e r]; exact SqL.of qa, k.here s rep_int⟩
  · obtain ⟨v, w, rfl, r1, r2⟩ := rx.two
    cases h
    rw [r1.int, r2.int]
    exact ⟨_, _, rfl, k.here s rep_int⟩
  · obtain ⟨v, w, rfl, r1, r2⟩ := rx.two
    cases h
    rw [r1.int, r2.int]
    exact ⟨_, _, rfl, k.here s rep_int⟩
  · obtain ⟨v, rfl, r⟩ := rx.one
    cases h
    rw [r.int]
    exact ⟨_, rfl, k.here s rep_int⟩
  · obtain ⟨v, rfl, r⟩ := rx.one
    cases h
    rw [r.int]
    exact .inl (.inl ⟨_, rfl, k.here s rep_int⟩)
  · obtain ⟨v, rfl, r⟩ := rx.one
    cases h
    rw [r.bl]
    exact .inl (.inr ⟨_, rfl, k.here s rep_int⟩)
  · obtain ⟨v, rfl, r⟩ := rx.one
    split at h
    · rename_i z hl
      cases e : PySem.intText? ⟨z.toArray⟩ with
      | none => rw [e] at h; cases h
      | some n =>
        rw [e] at h
        cases h
        rw [r.str]
        exact .inr ⟨_, n, rfl, e, by rw [str_len]; exact hl, k.here s rep_int⟩
    · cases h
  · obtain ⟨v, rfl, r⟩ := rx.one
    split at h
    · rename_i i hl
      cases h
      rw [r.int]
      refine ⟨_, rfl, hl, k.here s ?_⟩
      simp only [Rep]
    · cases h
  · obtain ⟨v, rfl, r⟩ := rx.one
    cases h
    obtain ⟨a, ws, rfl, qa, _, r⟩ := r.lst
    exact ⟨a, ws, rfl, .inl ⟨SqL.of qa, k.tup s r⟩⟩
  · obtain ⟨v, rfl, r⟩ := rx.one
    cases h
    obtain ⟨a, ws, rfl, qa, r⟩ := r.tup
    exact ⟨a, ws, rfl, .inr ⟨qa, k.here s (by simp only [Rep]; exact ⟨a, ws, rfl, qa, r⟩)⟩⟩
  · obtain ⟨v, rfl, r⟩ := rx.one
    cases h
    obtain ⟨a, ws, rfl, qa, _, r⟩ := r.lst
    exact ⟨a, ws, rfl, .inl (SqL.of qa), k.lst s od r⟩
  · obtain ⟨v, rfl, r⟩ := rx.one
    cases h
    obtain ⟨a, ws, rfl, qa, r⟩ := r.rol
    exact ⟨a, ws, rfl, .inl qa, k.lst s od r⟩
  · obtain ⟨v, rfl, r⟩ := rx.one
    cases h
    obtain ⟨a, ws, rfl, qa, r⟩ := r.tup
    exact ⟨a, ws, rfl, .inr qa, k.lst s od r⟩
  · rename_i ds
    obtain ⟨v, rfl, r⟩ := rx.one
    obtain ⟨a, ws, rfl, qa, _, r⟩ := r.lst
    cases e : blsD ds with
    | none => rw [e] at h; cases h
    | some ns =>
      rw [e] at h
      cases h
      exact ⟨a, ns, rfl, by rw [← bls_rep e r]; exact SqL.of qa, k.here s rep_bl⟩
  · rename_i ds
    obtain ⟨v, rfl, r⟩ := rx.one
    obtain ⟨a, ws, rfl, qa, _, r⟩ := r.lst
    cases e : blsD ds with
    | none => rw [e] at h; cases h
    | some ns =>
      rw [e] at h
      cases h
      exact ⟨a, ns, rfl, by rw [← bls_rep e r]; exact SqL.of qa, k.here s rep_bl⟩
  · cases h
/-! ### isinstance -/
def tyN : Ty → String
  | .int => "int" | .bool => "bool" | .str => "str" | .tuple => "tuple" | .list => "list"
theorem tyx_rol {ds : List D} {v : V} (r : RepB K H O ph (.rol ds) v) : ∃ T, T = Value.type "list" ∧ TyX K H v T := by
  simp only [RepB, Rep] at r
  obtain ⟨a, vs, rfl, q, _⟩ := r
  rcases q with ⟨q | ⟨o, q⟩, _, _⟩ | ⟨o, its, n, q, c, _⟩
  · exact ⟨_, rfl, .base (.lst q)⟩
  · exact ⟨_, rfl, .base (.frz q)⟩
  · exact ⟨_, rfl, .kList q c⟩
theorem tyx_tup {ds : List D} {v : V} (r : RepB K H O ph (.tup ds) v) : ∃ T, T = Value.type "tuple" ∧ TyX K H v T := by
  obtain ⟨a, vs, rfl, q, _⟩ := r.tup
  rcases q with (q | ⟨o, q⟩) | ⟨o, its, n, q, c, _⟩
  · exact ⟨_, rfl, .base (.tup q)⟩
  · exact ⟨_, rfl, .fTuple q⟩
  · exact ⟨_, rfl, .kTuple q c⟩
theorem isi_ok {x : D} {t : Ty} {b : Bool} {v : V} {Q : VK} (h : isiD x t = some b) (rx : RepB K H O ph x v) (q : Q (.bl b) H) : rIsi K [v, .ty (tyN t)] H Q := by
  unfold isiD at h
  split at h
  · rw [rx.int]; cases h
    cases t <;> exact ⟨_, _, _, _, _, rfl, .ty _, .base (.int _), kit_ty (by decide +kernel), q⟩
  · rw [rx.bl]; cases h
    cases t <;> exact ⟨_, _, _, _, _, rfl, .ty _, .base (.bl _), kit_ty (by decide +kernel), q⟩
  · rw [rx.str]; cases h
    cases t <;> exact ⟨_, _, _, _, _, rfl, .ty _, .base (.str _), kit_ty (by decide +kernel), q⟩
  · obtain ⟨T, e, y⟩ := tyx_tup rx
    subst e
    cases h
    cases t <;> exact ⟨_, _, _, _, _, rfl, .ty _, y, kit_ty (by decide +kernel), q⟩
  · cases h
    obtain ⟨a, vs, rfl, qa, _⟩ := rx.lst
    cases t <;> exact ⟨_, _, _, _, _, rfl, .ty _, .base (.lst qa), kit_ty (by decide +kernel), q⟩
  · rw [rx.non]; cases h
    cases t <;> exact ⟨_, _, _, _, _, rfl, .ty _, .base .non, kit_ty (by decide +kernel), q⟩
  · cases h
end
end PyE

/-! Each expression's reading against the evaluator. -/
namespace PyE
open PySem PySem.Spec PyProof.Rows L2
section
variable {K : PySem.W.Frag} {xr : Xc → Value → Option Addr → Hp → Prop} {W : WX} {cl : Nat → List D → Store → Res D} {ro : Nat → Bool}
/-- what a value's operation is to keep, from what the whole is to keep -/
theorem vp_of {O : Addr → Prop} {ph ph1 : List Addr} {H H1 : Hp} {s : Store} {d : D} {Q : VK} (E1 : Ext ph H ph1 H1) {b : Bool} (k : ∀ v H' ph', Ext ph H ph' H' → RSt K H' O ph' s → Rep K H' O ph' d v → FrV K b H O ph' H' s d v → Q v H') : VP K O ph1 s H1 d Q :=
  fun z H' e r h f => k z H' ph1 (E1.trans e) r h fun _ ds q => by
    obtain ⟨a, vs, ea, na, f2⟩ := f rfl ds q
    exact ⟨a, vs, ea, E1.free na, f2⟩
/-- what stands behind two expressions -/
theorem sem_two {ta tb : TE} {a b : E} (ha : SemB K xr W cl ta a) (hb : SemB K xr W cl tb b) {H : Hp} {O : Addr → Prop} {ph : List Addr} {r : Env} {σ : L2.St} {st : Store} (P : Pre K H O ph r σ st) (u : Un (escB a ++ escB b) r)
    {α : Type} {f : D → D → Store → Res α} {k : α → Store → Prop} (w : wpR ((evE cl a r st).bind fun x s1 => (evE cl b r s1).bind fun y s2 => f x y s2) k (XW K xr W O ph H σ)) {R : V → V → Hp → Prop}
    (go : ∀ x y s2 v1 v2 H2 ph2, Ext ph H ph2 H2 → Pre K H2 O ph2 r σ s2 → RepB K H2 O ph2 x v1 → RepB K H2 O ph2 y v2 → wpR (f x y s2) k (XW K xr W O ph H σ) → R v1 v2 H2) : ta σ H fun v1 H1 => tb σ H1 fun v2 H2 => R v1 v2 H2 := by
  refine ha H O ph r σ st _ P u.fst (wpR_mono (wpR_bind w) (fun x s1 w1 v1 H1 ph1 E1 S1 R1 => ?_) fun _ _ z => z)
  have P1 := P.next E1 S1
  refine hb H1 O ph1 r σ s1 _ P1 u.snd (wpR_mono (wpR_bind w1) (fun y s2 w2 v2 H2 ph2 E2 S2 R2 => ?_) fun _ _ z => z.next E1)
  exact go x y s2 v1 v2 H2 ph2 (E1.trans E2) (P1.next E2 S2) (R1.next E2) R2 w2
theorem sem_con {d : D} {v : V} (h : ∀ (H : Hp) (O : Addr → Prop) (ph : List Addr), Rep K H O ph d v) : SemE K xr W cl ro (tC v) (.con d) := fun H O ph r σ st Q P u w =>
  w v H ph P.ext0 P.st_ (h H O ph) (fun z => Bool.noConfusion z)
theorem sem_bin {ta tb : TE} {a b : E} (o : B) (ha : SemB K xr W cl ta a) (hb : SemB K xr W cl tb b) : SemE K xr W cl ro (tOp (rBin K o) ta tb) (.bin o a b) := fun H O ph r σ st Q P u w => by
  simp only [esc, topv, escB, List.nil_append] at u
  simp only [evE] at w
  refine sem_two ha hb P u w fun x y s2 v1 v2 H2 ph2 E2 P2 R1 R2 w2 => ?_
  obtain ⟨d, hd, k⟩ := wpR_ofO w2
  exact bin_ok P2.st_ P2.odom hd R1 R2 (vp_of E2 k)
theorem sem_neg {ta : TE} {a : E} (ha : SemB K xr W cl ta a) : SemE K xr W cl ro (tUn (rU fun i => .int (-i)) ta) (.neg a) := fun H O ph r σ st Q P u w => by
  simp only [esc, topv, escB, List.nil_append] at u
  simp only [evE] at w
  refine ha H O ph r σ st _ P u (wpR_mono (wpR_bind w) (fun x s1 w1 v1 H1 ph1 E1 S1 R1 => ?_) fun _ _ z => z)
  obtain ⟨d, hd, k⟩ := wpR_ofO w1
  cases x <;> simp only [asInt, Option.map_none, Option.map_some, reduceCtorEq, Option.some.injEq] at hd
  subst hd
  rw [R1.int]
  exact ⟨_, rfl, k _ H1 ph1 E1 S1 rep_int (fun _ _ z => by cases z)⟩
theorem sem_cmp {ta tb : TE} {a b : E} (o : C) (ha : SemB K xr W cl ta a) (hb : SemB K xr W cl tb b) : SemE K xr W cl ro (tOp (rCmp K o) ta tb) (.cmp o a b) := fun H O ph r σ st Q P u w => by
  simp only [esc, topv, escB, List.nil_append] at u
  simp only [evE] at w
  refine sem_two ha hb P u w fun x y s2 v1 v2 H2 ph2 E2 P2 R1 R2 w2 => ?_
  obtain ⟨d, hd, k⟩ := wpR_ofO w2
  cases e : cmpD o x y with
  | none => rw [e] at hd; cases hd
  | some c =>
    rw [e] at hd
    cases hd
    exact cmp_ok e R1 R2 (k _ H2 ph2 E2 P2.st_ rep_bl (fun _ _ z => by cases z))
theorem sem_chain {ta tb tc : TE} {a b c : E} (o p : C) (ha : SemB K xr W cl ta a) (hb : SemB K xr W cl tb b) (hc : SemB K xr W cl tc c) : SemE K xr W cl ro (tChain (rCmp K o) (rCmp K p) ta tb tc) (.chain o p a b c) := fun H O ph r σ st Q P u w => by
  simp only [esc, topv, escB, List.nil_append] at u
  simp only [evE] at w
  refine sem_two ha hb P (fun i hi => u i (by
    rcases List.mem_append.mp hi with z | z
    · exact List.mem_append_left _ z
    · exact List.mem_append_right _ (List.mem_append_left _ z))) w fun x y s2 v1 v2 H2 ph2 E2 P2 R1 R2 w2 => ?_
  have uc : Un (escB c) r := fun i hi => u i (List.mem_append_right _ (List.mem_append_right _ hi))
  cases e : cmpD o x y with
  | none => rw [e] at w2; exact w2.elim
  | some k =>
    rw [e] at w2
    refine cmp_ok e R1 R2 ⟨k, rfl, ?_⟩
    cases k with
    | false => exact w2 _ H2 ph2 E2 P2.st_ rep_bl (fun _ _ z => by cases z)
    | true =>
      refine hc H2 O ph2 r σ s2 _ P2 uc (wpR_mono (wpR_bind w2) (fun z s3 w3 v3 H3 ph3 E3 S3 R3 => ?_) fun _ _ z => z.next E2)
      obtain ⟨d, hd, q⟩ := wpR_ofO w3
      cases e' : cmpD p y z with
      | none => rw [e'] at hd; cases hd
      | some k =>
        rw [e'] at hd
        cases hd
        exact cmp_ok e' (R2.next E3) R3 (q _ H3 ph3 (E2.trans E3) S3 rep_bl (fun _ _ z => by cases z))
theorem bl_of {O : Addr → Prop} {ph : List Addr} {H : Hp} {y d : D} {v : V} (h : (asBl y).map D.bl = some d) (R : RepB K H O ph y v) : ∃ c, y = .bl c ∧ d = .bl c ∧ v = .bl c := by
  cases y <;> simp only [asBl, Option.map_none, Option.map_some, reduceCtorEq, Option.some.injEq] at h
  exact ⟨_, rfl, h.symm, R.bl⟩
theorem sem_andv {ta tb : TE} {a b : E} (ha : SemB K xr W cl ta a) (hb : SemB K xr W cl tb b) : SemE K xr W cl ro (tAndV ta tb) (.andv a b) := fun H O ph r σ st Q P u w => by
  simp only [esc, topv, escB, List.nil_append] at u
  simp only [evE] at w
  refine ha H O ph r σ st _ P u.fst (wpR_mono (wpR_bind w) (fun x s1 w1 v1 H1 ph1 E1 S1 R1 => ?_) fun _ _ z => z)
  cases x with
  | bl c =>
    rw [R1.bl]
    refine ⟨c, rfl, ?_⟩
    cases c with
    | false => exact w1 _ H1 ph1 E1 S1 rep_bl (fun _ _ z => by cases z)
    | true =>
      refine hb H1 O ph1 r σ s1 _ (P.next E1 S1) u.snd (wpR_mono (wpR_bind w1) (fun y s2 w2 v2 H2 ph2 E2 S2 R2 => ?_) fun _ _ z => z.next E1)
      obtain ⟨d, hd, k⟩ := wpR_ofO w2
      obtain ⟨c, _, rfl, rfl⟩ := bl_of hd R2
      exact k _ H2 ph2 (E1.trans E2) S2 rep_bl (fun _ _ z => by cases z)
  | _ => exact w1.elim
theorem sem_orv {ta tb : TE} {a b : E} (ha : SemB K xr W cl ta a) (hb : SemB K xr W cl tb b) : SemE K xr W cl ro (tOrV ta tb) (.orv a b) := fun H O ph r σ st Q P u w => by
  simp only [esc, topv, escB, List.nil_append] at u
  simp only [evE] at w
  refine ha H O ph r σ st _ P u.fst (wpR_mono (wpR_bind w) (fun x s1 w1 v1 H1 ph1 E1 S1 R1 => ?_) fun _ _ z => z)
  cases x with
  | bl c =>
    rw [R1.bl]
    refine ⟨c, rfl, ?_⟩
    cases c with
    | true => exact w1 _ H1 ph1 E1 S1 rep_bl (fun _ _ z => by cases z)
    | false =>
      refine hb H1 O ph1 r σ s1 _ (P.next E1 S1) u.snd (wpR_mono (wpR_bind w1) (fun y s2 w2 v2 H2 ph2 E2 S2 R2 => ?_) fun _ _ z => z.next E1)
      obtain ⟨d, hd, k⟩ := wpR_ofO w2
      obtain ⟨c, _, rfl, rfl⟩ := bl_of hd R2
      exact k _ H2 ph2 (E1.trans E2) S2 rep_bl (fun _ _ z => by cases z)
  | _ => exact w1.elim
theorem sem_notv {ta : TE} {a : E} (ha : SemB K xr W cl ta a) : SemE K xr W cl ro (tNotV ta) (.notv a) := fun H O ph r σ st Q P u w => by
  simp only [esc, topv, escB, List.nil_append] at u
  simp only [evE] at w
  refine ha H O ph r σ st _ P u (wpR_mono (wpR_bind w) (fun x s1 w1 v1 H1 ph1 E1 S1 R1 => ?_) fun _ _ z => z)
  obtain ⟨d, hd, k⟩ := wpR_ofO w1
  cases x <;> simp only [asBl, Option.map_none, Option.map_some, reduceCtorEq, Option.some.injEq] at hd
  subst hd
  rw [R1.bl]
  exact ⟨_, rfl, k _ H1 ph1 E1 S1 rep_bl (fun _ _ z => by cases z)⟩
theorem sem_ite {tc : TT} {ta tb : TE} {t : T} {a b : E} (hc : SemT K xr W cl tc t) (ha : SemE K xr W cl ro ta a) (hb : SemE K xr W cl ro tb b) : SemE K xr W cl ro (tIf tc ta tb) (.ite t a b) := fun H O ph r σ st Q P u w => by
  simp only [esc, topv, escB, List.nil_append] at u
  simp only [evE] at w
  refine hc H O ph r σ st _ P u.fst (wpR_mono (wpR_bind w) (fun c s1 w1 H1 ph1 E1 S1 => ?_) fun _ _ z => z)
  cases c with
  | true => exact ha H1 O ph1 r σ s1 _ (P.next E1 S1) u.snd.fst (wpR_mono w1 (fun y s2 k v2 H2 ph2 E2 S2 R2 _ => k _ _ _ (E1.trans E2) S2 R2 (fun z => Bool.noConfusion z)) fun _ _ z => z.next E1)
  | false => exact hb H1 O ph1 r σ s1 _ (P.next E1 S1) u.snd.snd (wpR_mono w1 (fun y s2 k v2 H2 ph2 E2 S2 R2 _ => k _ _ _ (E1.trans E2) S2 R2 (fun z => Bool.noConfusion z)) fun _ _ z => z.next E1)
theorem sem_tup {ta : TA} {es : Es} (h : SemEs K xr W cl ta es) : SemE K xr W cl ro (tTup ta) (.tup es) := fun H O ph r σ st Q P u w => by
  simp only [esc, topv, escB, List.nil_append] at u
  simp only [evE] at w
  refine h H O ph r σ st _ P u (wpR_mono (wpR_bind w) (fun ds s1 w1 vs H1 ph1 E1 S1 R1 => ?_) fun _ _ z => z)
  split at w1
  · rename_i hl
    exact ⟨by rw [← R1.length]; exact sz_ok hl, (vp_of E1 w1).tup S1 R1⟩
  · exact w1.elim
theorem sem_lst {ta : TA} {es : Es} (h : SemEs K xr W cl ta es) : SemE K xr W cl ro (tLst ta) (.lst es) := fun H O ph r σ st Q P u w => by
  simp only [esc, topv, escB, List.nil_append] at u
  simp only [evE] at w
  refine h H O ph r σ st _ P u (wpR_mono (wpR_bind w) (fun ds s1 w1 vs H1 ph1 E1 S1 R1 => ?_) fun _ _ z => z)
  split at w1
  · rename_i hl
    exact ⟨by rw [← R1.length]; exact sz_ok hl, (vp_of E1 w1).lst S1 (P.next E1 S1).odom R1⟩
  · exact w1.elim
/-- a new thing of the store -/
theorem RSt.pushB {H : Hp} {O : Addr → Prop} {ph : List Addr} {st : Store} (s : RSt K H O ph st) (od : ∀ a, O a → ∃ vs, H a = some (.lst vs)) {p : Addr} (hp : H p = none) {b : Ob} {o : HO} (R : ObOk K H O ph b o) :
    Ext ph H (ph ++ [p]) (upd H p o) ∧ RSt K (upd H p o) O (ph ++ [p]) (st ++ [b]) := by
  have hn : p ∉ ph := fun z => by
    obtain ⟨o, q, _⟩ := s.isl p z
    rw [hp] at q; cases q
  have e : Ext ph H (ph ++ [p]) (upd H p o) := by
    have e0 := Ext.new s.isl hp o
    refine ⟨e0.step, ⟨[p], rfl, fun a ha => by rw [List.mem_singleton.mp ha]; exact hp⟩, e0.isl, fun a ha => ?_⟩
    rcases List.mem_append.mp ha with z | z
    · exact e0.isl' a z
    · rw [List.mem_singleton.mp z]; exact ⟨o, upd_same, R.m⟩
  refine ⟨e, ⟨by simp [s.len], ?_, fun n es h => ?_⟩⟩
  · rw [List.nodup_append]
    refine ⟨s.nd, by simp, fun a ha b hb => ?_⟩
    rw [List.mem_singleton.mp hb]
    intro z
    rw [z] at ha
    exact hn ha
  · by_cases hlt : n < st.length
    · rw [List.getElem?_append_left hlt] at h
      obtain ⟨a, ws, e1, no, e2, q⟩ := s.ob n es h
      exact ⟨a, ws, by rw [List.getElem?_append_left (by rw [s.len]; exact hlt)]; exact e1, no, by rw [upd_ne (ne_of_none e2 hp)]; exact e2, q.next e⟩
    · rw [List.getElem?_append_right (by omega)] at h
      have hz : n - st.length = 0 := by
        cases hk : n - st.length with
        | zero => rfl
        | succ k => rw [hk] at h; simp at h
      rw [hz] at h
      have h' : b = es := by simpa using h
      cases h'
      refine ⟨p, o, ?_, fun z => ?_, upd_same, R.next e⟩
      · rw [List.getElem?_append_right (by rw [s.len]; omega), s.len, hz]
        rfl
      · obtain ⟨o, q⟩ := od p z
        rw [hp] at q; cases q
theorem RSt.push {H : Hp} {O : Addr → Prop} {ph : List Addr} {st : Store} (s : RSt K H O ph st) (od : ∀ a, O a → ∃ vs, H a = some (.lst vs)) {p : Addr} (hp : H p = none) {ds : List D} {vs : List V} (R : Reps K H O ph ds vs) :
    Ext ph H (ph ++ [p]) (upd H p (.lst vs)) ∧ RSt K (upd H p (.lst vs)) O (ph ++ [p]) (st ++ [Ob.lst ds]) := s.pushB od hp ⟨vs, rfl, R⟩
theorem sem_newl {ta : TA} {es : Es} (h : SemEs K xr W cl ta es) : SemE K xr W cl ro (tLst ta) (.newl es) := fun H O ph r σ st Q P u w => by
  simp only [esc, topv, escB, List.nil_append] at u
  simp only [evE] at w
  refine h H O ph r σ st _ P u (wpR_mono (wpR_bind w) (fun ds s1 w1 vs H1 ph1 E1 S1 R1 => ?_) fun _ _ z => z)
  split at w1
  · rename_i hl
    refine ⟨by rw [← R1.length]; exact sz_ok hl, fun p hp => ?_⟩
    obtain ⟨e, s⟩ := S1.push (P.next E1 S1).odom hp R1
    refine w1 _ _ _ (E1.trans e) s ?_ (fun _ _ z => by cases z)
    simp only [Rep]
    refine ⟨p, rfl, ?_⟩
    rw [List.getElem?_append_right (by rw [S1.len]; exact Nat.le_refl _), S1.len, Nat.sub_self]
    rfl
  · exact w1.elim
theorem sem_idx {ta tb : TE} {a b : E} (ha : SemB K xr W cl ta a) (hb : SemB K xr W cl tb b) : SemE K xr W cl ro (tOp (rIx K) ta tb) (.idx a b) := fun H O ph r σ st Q P u w => by
  simp only [esc, topv, escB, List.nil_append] at u
  simp only [evE] at w
  refine sem_two ha hb P u w fun x y s2 v1 v2 H2 ph2 E2 P2 R1 R2 w2 => ?_
  obtain ⟨d, hd, k⟩ := wpR_ofO w2
  exact idx_ok P2.st_ hd R1 R2 fun z hz => k z H2 ph2 E2 P2.st_ hz (fun z => Bool.noConfusion z)
theorem sem_none : SemO K xr W cl tNoPart .none := fun H O ph r σ st Q P u w => w H ph P.ext0 P.st_
theorem sem_some {ta : TE} {a : E} (ha : SemB K xr W cl ta a) : SemO K xr W cl (tPart ta) (.some a) := fun H O ph r σ st Q P u w => by
  simp only [escO] at u
  simp only [evO] at w
  refine ha H O ph r σ st _ P u (wpR_mono (wpR_bind w) (fun x s1 w1 v1 H1 ph1 E1 S1 R1 => ?_) fun _ _ z => z)
  obtain ⟨d, hd, k⟩ := wpR_ofO w1
  cases x <;> simp only [asInt, Option.map_none, Option.map_some, reduceCtorEq, Option.some.injEq] at hd
  subst hd
  rw [R1.int]
  exact ⟨_, rfl, k H1 ph1 E1 S1⟩
theorem sem_slc {ta : TE} {tl th : TO} {a : E} {lo hi : Eo} (ha : SemB K xr W cl ta a) (hl : SemO K xr W cl tl lo) (hh : SemO K xr W cl th hi) : SemE K xr W cl ro (tSl (rSlc K) ta tl th) (.slc a lo hi) := fun H O ph r σ st Q P u w => by
  simp only [esc, topv, escB, List.nil_append] at u
  simp only [evE] at w
  refine ha H O ph r σ st _ P u.fst (wpR_mono (wpR_bind w) (fun x s1 w1 v1 H1 ph1 E1 S1 R1 => ?_) fun _ _ z => z)
  have P1 := P.next E1 S1
  refine hl H1 O ph1 r σ s1 _ P1 u.snd.fst (wpR_mono (wpR_bind w1) (fun i s2 w2 H2 ph2 E2 S2 => ?_) fun _ _ z => z.next E1)
  have P2 := P1.next E2 S2
  refine hh H2 O ph2 r σ s2 _ P2 u.snd.snd (wpR_mono (wpR_bind w2) (fun j s3 w3 H3 ph3 E3 S3 => ?_) fun _ _ z => z.next (E1.trans E2))
  obtain ⟨d, hd, k⟩ := wpR_ofO w3
  exact slc_ok S3 (P2.next E3 S3).odom hd (R1.next (E2.trans E3)) (vp_of (E1.trans (E2.trans E3)) k)
theorem sem_rev {ta : TE} {a : E} (ha : SemB K xr W cl ta a) : SemE K xr W cl ro (tRevL K ta) (.rev a) := fun H O ph r σ st Q P u w => by
  simp only [esc, topv, escB, List.nil_append] at u
  simp only [evE] at w
  refine ha H O ph r σ st _ P u (wpR_mono (wpR_bind w) (fun x s1 w1 v1 H1 ph1 E1 S1 R1 => ?_) fun _ _ z => z)
  obtain ⟨d, hd, k⟩ := wpR_ofO w1
  cases x <;> simp only [revD, reduceCtorEq, Option.some.injEq] at hd
  subst hd
  obtain ⟨b, vs, rfl, qa, _, R⟩ := R1.lst
  exact ⟨b, vs, rfl, SqL.of qa, (vp_of E1 k).lst S1 (P.next E1 S1).odom R.reverse⟩
theorem sem_isi {ta : TE} {a : E} (t : Ty) (ha : SemB K xr W cl ta a) : SemE K xr W cl ro (tCB (rIsi K) (tCons ta (tCons (tC (.ty (tyN t))) tNil))) (.isi a t) := fun H O ph r σ st Q P u w => by
  simp only [esc, topv, escB, List.nil_append] at u
  simp only [evE] at w
  refine ha H O ph r σ st _ P u (wpR_mono (wpR_bind w) (fun x s1 w1 v1 H1 ph1 E1 S1 R1 => ?_) fun _ _ z => z)
  obtain ⟨d, hd, k⟩ := wpR_ofO w1
  cases e : isiD x t with
  | none => rw [e] at hd; cases hd
  | some c =>
    rw [e] at hd
    cases hd
    exact isi_ok e R1 (k _ H1 ph1 E1 S1 rep_bl (fun _ _ z => by cases z))
theorem sem_nil : SemEs K xr W cl tNil .nil := fun H O ph r σ st Q P u w => w [] H ph P.ext0 P.st_ Reps.nil
theorem sem_cons {ta : TE} {tr : TA} {a : E} {es : Es} (ha : SemE K xr W cl ro ta a) (hr : SemEs K xr W cl tr es) : SemEs K xr W cl (tCons ta tr) (.cons a es) := fun H O ph r σ st Q P u w => by
  simp only [escs] at u
  simp only [evEs] at w
  refine ha H O ph r σ st _ P u.fst (wpR_mono (wpR_bind w) (fun x s1 w1 v1 H1 ph1 E1 S1 R1 _ => ?_) fun _ _ z => z)
  refine hr H1 O ph1 r σ s1 _ (P.next E1 S1) u.snd (wpR_mono (wpR_bind w1) (fun xs s2 w2 vs H2 ph2 E2 S2 R2 => ?_) fun _ _ z => z.next E1)
  exact w2 _ H2 ph2 (E1.trans E2) S2 (Reps.cons (R1.next E2) R2)
theorem sem_nilB : SemBs K xr W cl tNil .nil := fun H O ph r σ st Q P u w => w [] H ph P.ext0 P.st_ .nil
theorem sem_consB {ta : TE} {tr : TA} {a : E} {es : Es} (ha : SemB K xr W cl ta a) (hr : SemBs K xr W cl tr es) : SemBs K xr W cl (tCons ta tr) (.cons a es) := fun H O ph r σ st Q P u w => by
  simp only [escBs] at u
  simp only [evEs] at w
  refine ha H O ph r σ st _ P u.fst (wpR_mono (wpR_bind w) (fun x s1 w1 v1 H1 ph1 E1 S1 R1 => ?_) fun _ _ z => z)
  refine hr H1 O ph1 r σ s1 _ (P.next E1 S1) u.snd (wpR_mono (wpR_bind w1) (fun xs s2 w2 vs H2 ph2 E2 S2 R2 => ?_) fun _ _ z => z.next E1)
  exact w2 _ H2 ph2 (E1.trans E2) S2 (.cons (R1.next E2) R2)
theorem sem_blt {ta : TA} {es : Es} (f : F) (h : SemBs K xr W cl ta es) : SemE K xr W cl ro (tCB (rBlt K f) ta) (.blt f es) := fun H O ph r σ st Q P u w => by
  simp only [esc, topv, escB, List.nil_append] at u
  simp only [evE] at w
  refine h H O ph r σ st _ P u (wpR_mono (wpR_bind w) (fun ds s1 w1 vs H1 ph1 E1 S1 R1 => ?_) fun _ _ z => z)
  obtain ⟨d, hd, k⟩ := wpR_ofO w1
  exact blt_ok S1 (P.next E1 S1).odom hd R1 (vp_of E1 k)
/-! ### tests -/
def tTr (K : PySem.W.Frag) (ta : TE) : TT := fun σ H Q => ta σ H fun x H' => ∃ k, TruV K x H' k ∧ Q k H'
theorem sem_tru {ta : TE} {a : E} (ha : SemB K xr W cl ta a) : SemT K xr W cl (tTr K ta) (.tru a) := fun H O ph r σ st Q P u w => by
  simp only [escT] at u
  simp only [evT] at w
  refine ha H O ph r σ st _ P u (wpR_mono (wpR_bind w) (fun x s1 w1 v1 H1 ph1 E1 S1 R1 => ?_) fun _ _ z => z)
  obtain ⟨c, hc, k⟩ := wpR_ofO w1
  exact ⟨c, tru_ok hc R1, k H1 ph1 E1 S1⟩
/-- a test that is a truth value already (a comparison) -/
theorem sem_truB {ta : TE} {a : E} (ha : SemB K xr W cl ta a) (hb : ∀ r s d s', evE cl a r s = .ok d s' → ∃ c, d = .bl c) : SemT K xr W cl (tTest ta) (.tru a) := fun H O ph r σ st Q P u w => by
  simp only [escT] at u
  simp only [evT] at w
  refine ha H O ph r σ st _ P u ?_
  cases e : evE cl a r st with
  | bad => rw [e] at w; exact w
  | exc x s => rw [e] at w; exact w
  | ok x s1 =>
    rw [e] at w
    obtain ⟨c, rfl⟩ := hb _ _ _ _ e
    intro v1 H1 ph1 E1 S1 R1
    rw [R1.bl]
    exact ⟨c, rfl, w H1 ph1 E1 S1⟩
theorem sem_tand {ta tb : TT} {a b : T} (ha : SemT K xr W cl ta a) (hb : SemT K xr W cl tb b) : SemT K xr W cl (tAnd ta tb) (.and a b) := fun H O ph r σ st Q P u w => by
  simp only [escT] at u
  simp only [evT] at w
  refine ha H O ph r σ st _ P u.fst (wpR_mono (wpR_bind w) (fun c s1 w1 H1 ph1 E1 S1 => ?_) fun _ _ z => z)
  cases c with
  | true => exact hb H1 O ph1 r σ s1 _ (P.next E1 S1) u.snd (wpR_mono w1 (fun y s2 k H2 ph2 E2 S2 => k _ _ (E1.trans E2) S2) fun _ _ z => z.next E1)
  | false => exact w1 H1 ph1 E1 S1
theorem sem_tor {ta tb : TT} {a b : T} (ha : SemT K xr W cl ta a) (hb : SemT K xr W cl tb b) : SemT K xr W cl (tOr ta tb) (.or a b) := fun H O ph r σ st Q P u w => by
  simp only [escT] at u
  simp only [evT] at w
  refine ha H O ph r σ st _ P u.fst (wpR_mono (wpR_bind w) (fun c s1 w1 H1 ph1 E1 S1 => ?_) fun _ _ z => z)
  cases c with
  | false => exact hb H1 O ph1 r σ s1 _ (P.next E1 S1) u.snd (wpR_mono w1 (fun y s2 k H2 ph2 E2 S2 => k _ _ (E1.trans E2) S2) fun _ _ z => z.next E1)
  | true => exact w1 H1 ph1 E1 S1
theorem sem_tnot {ta : TT} {a : T} (ha : SemT K xr W cl ta a) : SemT K xr W cl (tNot ta) (.not a) := fun H O ph r σ st Q P u w => by
  simp only [escT] at u
  simp only [evT] at w
  exact ha H O ph r σ st _ P u (wpR_mono (wpR_bind w) (fun c s1 w1 H1 ph1 E1 S1 => w1 H1 ph1 E1 S1) fun _ _ z => z)
end
end PyE

/-! What is walked; comprehensions; calls of defs. -/
namespace PyE
open PySem PySem.Spec PyProof.Rows L2
section
variable {K : PySem.W.Frag} {H H1 H2 H3 : Hp} {O O1 O2 O3 : Addr → Prop} {ph ph1 ph2 ph3 : List Addr} {st : Store}
/-- nothing, or one new thing -/
def NewOnly (H H' : Hp) : Prop := H' = H ∨ ∃ p o, H p = none ∧ H' = upd H p o
/-- J walks the data xs, from the moment (O, ph, H) on -/
def ItW (K : PySem.W.Frag) (O : Addr → Prop) (ph : List Addr) (H : Hp) (J : It) (xs : List D) : Prop :=
  ∃ (G : Hp → Prop) (Y : Nat → Hp → V → Hp → Prop), Walk J xs.length G Y ∧ (∀ O2 ph2 H2, Lat O ph H O2 ph2 H2 → G H2) ∧
    ∀ O2 ph2 H2 i v H3, Lat O ph H O2 ph2 H2 → (∀ a ∈ ph2, Mu H2 a) → i < xs.length → Y i H2 v H3 → NewOnly H2 H3 ∧ ∃ d, xs[i]? = some d ∧ Rep K H3 O2 ph2 d v
end
section
variable (K : PySem.W.Frag) (xr : Xc → Value → Option Addr → Hp → Prop) (W : WX) (cl : Nat → List D → Store → Res D)
def SemI (wi : TI) (it : I) : Prop := ∀ H O ph r σ st (R : It → Hp → Prop), Pre K H O ph r σ st → Un (escI it) r →
  wpR (evI cl it r st) (fun xs s => ∀ J H' ph', Ext ph H ph' H' → RSt K H' O ph' s → ItW K O ph' H' J xs → R J H') (XW K xr W O ph H σ) → wi σ H R
end
section
variable {K : PySem.W.Frag} {H : Hp} {O : Addr → Prop} {ph : List Addr} {st : Store}
theorem itw_tup {a : Addr} {vs : List V} {ds : List D} (q : SqT K H a vs) (r : Reps K H O ph ds vs) : ItW K O ph H (Itt K a) ds := by
  refine ⟨_, _, by rw [r.length]; exact walk_tup, fun O2 ph2 H2 e => e.sqt q, fun O2 ph2 H2 i v H3 e _ hi y => ?_⟩
  obtain ⟨rfl, hv⟩ := y
  obtain ⟨w, hw, rw_⟩ := (Reps.lat e ds vs r).get (List.getElem?_eq_getElem hi)
  rw [hv] at hw
  cases hw
  exact ⟨.inl rfl, _, List.getElem?_eq_getElem hi, rw_⟩
theorem lat_sql {O2 : Addr → Prop} {ph2 : List Addr} {H2 : Hp} {a : Addr} {vs : List V} (e : Lat O ph H O2 ph2 H2) (q : (Rd H a (.lst vs) ∧ ¬ O a ∧ a ∉ ph) ∨ KL K a vs) : SqL K H2 a vs := by
  rcases q with ⟨q, no, ni⟩ | q
  · exact .inl (e.rd q ni no)
  · exact .inr q
theorem itw_list {a : Addr} {vs : List V} {ds : List D} (q : (Rd H a (.lst vs) ∧ ¬ O a ∧ a ∉ ph) ∨ KL K a vs) (r : Reps K H O ph ds vs) : ItW K O ph H (Itl K a) ds := by
  refine ⟨_, _, by rw [r.length]; exact walk_list, fun O2 ph2 H2 e => lat_sql e q, fun O2 ph2 H2 i v H3 e _ hi y => ?_⟩
  obtain ⟨rfl, hv⟩ := y
  obtain ⟨w, hw, rw_⟩ := (Reps.lat e ds vs r).get (List.getElem?_eq_getElem hi)
  rw [hv] at hw
  cases hw
  exact ⟨.inl rfl, _, List.getElem?_eq_getElem hi, rw_⟩
theorem itw_str {s : List Nat} : ItW K O ph H (Its ⟨s.toArray⟩) (s.map fun c => D.str [c]) := by
  refine ⟨_, _, by rw [List.length_map]; exact walk_str, fun O2 ph2 H2 e => trivial, fun O2 ph2 H2 i v H3 e _ hi y => ?_⟩
  obtain ⟨rfl, c, hc, rfl⟩ := y
  refine ⟨.inl rfl, .str [c], ?_, rep_str⟩
  rw [List.getElem?_map, show s[i]? = some c by simpa using hc]
  all_goals rfl
theorem itw_rng {lo : Int} {n : Nat} {hi : Int} (hn : n = (hi - lo).toNat) : ItW K O ph H (Itr lo n) (rngD lo hi) := by
  subst hn
  refine ⟨_, _, by rw [show (rngD lo hi).length = (hi - lo).toNat by simp [rngD]]; exact walk_range, fun O2 ph2 H2 e => trivial, fun O2 ph2 H2 i v H3 e _ hi' y => ?_⟩
  obtain ⟨rfl, rfl⟩ := y
  refine ⟨.inl rfl, .int (lo + i), ?_, rep_int⟩
  have h1 : i < (hi - lo).toNat := by simpa [rngD] using hi'
  simp [rngD, h1]
theorem zipD_get : ∀ (xs ys : List D) (i : Nat) (x y : D), xs[i]? = some x → ys[i]? = some y → (zipD xs ys)[i]? = some (.tup [x, y])
  | [], ys, i, x, y, h, _ => by simp at h
  | _ :: _, [], i, x, y, _, h => by simp at h
  | a :: xs, b :: ys, 0, x, y, h, h' => by
    simp at h h'
    subst h h'
    rfl
  | a :: xs, b :: ys, i + 1, x, y, h, h' => zipD_get xs ys i x y (by simpa using h) (by simpa using h')
theorem zipD_len : ∀ xs ys : List D, (zipD xs ys).length = min xs.length ys.length
  | [], ys => by simp [zipD]
  | _ :: _, [] => by simp [zipD]
  | a :: xs, b :: ys => by
    simp only [zipD, List.length_cons, zipD_len xs ys]
    omega
theorem enumD_get : ∀ (xs : List D) (k i : Nat) (x : D), xs[i]? = some x → (enumD k xs)[i]? = some (.tup [.int ((k + i : Nat) : Int), x])
  | [], k, i, x, h => by simp at h
  | a :: xs, k, 0, x, h => by
    simp at h
    subst h
    rfl
  | a :: xs, k, i + 1, x, h => by
    have := enumD_get xs (k + 1) i x (by simpa using h)
    rw [show k + 1 + i = k + (i + 1) by omega] at this
    exact this
theorem enumD_len : ∀ (xs : List D) (k : Nat), (enumD k xs).length = xs.length
  | [], k => rfl
  | a :: xs, k => by simp [enumD, enumD_len xs (k + 1)]
/-- a new pair -/
theorem rep_pair {d e : D} {x y : V} {T : Addr} (isl : ∀ a ∈ ph, Mu H a) (hT : H T = none) (h1 : Rep K H O ph d x) (h2 : Rep K H O ph e y) : Rep K (upd H T (.tup [x, y])) O ph (.tup [d, e]) (.ref T) := by
  simp only [Rep]
  exact ⟨T, _, rfl, SqT.of upd_same, (Reps.cons h1 (Reps.cons h2 Reps.nil)).next (Ext.new isl hT _)⟩
theorem itw_zip {a b : Addr} {vs ws : List V} {ds es : List D} (q : (Rd H a (.lst vs) ∧ ¬ O a ∧ a ∉ ph) ∨ KL K a vs) (q' : (Rd H b (.lst ws) ∧ ¬ O b ∧ b ∉ ph) ∨ KL K b ws) (r : Reps K H O ph ds vs) (r' : Reps K H O ph es ws) :
    ItW K O ph H (Itz K a b) (zipD ds es) := by
  have hn : (zipD ds es).length = min vs.length ws.length := by rw [zipD_len, r.length, r'.length]
  refine ⟨_, _, walk_zip hn, fun O2 ph2 H2 e => ⟨lat_sql e q, lat_sql e q'⟩, fun O2 ph2 H2 i v H3 e isl hi y => ?_⟩
  obtain ⟨T, x, z, rfl, hT, rfl, hx, hz⟩ := y
  have h1 : i < ds.length := by rw [r.length]; omega
  have h2 : i < es.length := by rw [r'.length]; omega
  obtain ⟨w, hw, r1⟩ := (Reps.lat e ds vs r).get (List.getElem?_eq_getElem h1)
  obtain ⟨w', hw', r2⟩ := (Reps.lat e es ws r').get (List.getElem?_eq_getElem h2)
  have hx : vs[i]? = some x := hx
  have hz : ws[i]? = some z := hz
  rw [hx] at hw
  rw [hz] at hw'
  cases hw
  cases hw'
  exact ⟨.inr ⟨T, _, hT, rfl⟩, _, zipD_get ds es i _ _ (List.getElem?_eq_getElem h1) (List.getElem?_eq_getElem h2), rep_pair isl hT r1 r2⟩
theorem itw_enum {a : Addr} {vs : List V} {ds : List D} (q : (Rd H a (.lst vs) ∧ ¬ O a ∧ a ∉ ph) ∨ KL K a vs) (r : Reps K H O ph ds vs) : ItW K O ph H (Ite K a) (enumD 0 ds) := by
  refine ⟨_, _, by rw [enumD_len, r.length]; exact walk_enum, fun O2 ph2 H2 e => lat_sql e q, fun O2 ph2 H2 i v H3 e isl hi y => ?_⟩
  obtain ⟨T, x, z, rfl, hT, rfl, hx, hz⟩ := y
  have h1 : i < ds.length := by rw [enumD_len] at hi; exact hi
  obtain ⟨w, hw, r1⟩ := (Reps.lat e ds vs r).get (List.getElem?_eq_getElem h1)
  have hz : vs[i]? = some z := hz
  rw [hz] at hw
  cases hw
  cases hx
  refine ⟨.inr ⟨T, _, hT, rfl⟩, _, enumD_get ds 0 i _ (List.getElem?_eq_getElem h1), ?_⟩
  rw [Nat.zero_add]
  exact rep_pair isl hT rep_int r1
end
section
variable {K : PySem.W.Frag} {xr : Xc → Value → Option Addr → Hp → Prop} {W : WX} {cl : Nat → List D → Store → Res D} {ro : Nat → Bool}
theorem PI.or {X : Cx} {tg e : Expr} {w w' : TI} (h : PI X tg e w) (h' : PI X tg e w') : PI X tg e (fun σ H R => w σ H R ∨ w' σ H R) := ⟨fun pins s σ H R I q => q.elim (fun q => h.run pins s σ H R I q) fun q => h'.run pins s σ H R I q⟩
/-- a list, a tuple or a text that is walked -/
def iSeq (K : PySem.W.Frag) (te : TE) : TI := fun σ H R => iList K te σ H R ∨ (iTup K te σ H R ∨ iStr te σ H R)
theorem pi_seq {X : Cx} {tg e : Expr} {te : TE} (h : PE X e te) : PI X tg e (iSeq X.K te) := PI.or (pi_list h) (PI.or (pi_tup h) (pi_str h))
theorem Rep.lq {H : Hp} {O : Addr → Prop} {ph : List Addr} {ds : List D} {v : V} (h : Rep K H O ph (.lst ds) v) : ∃ a vs, v = .ref a ∧ ((Rd H a (.lst vs) ∧ ¬ O a ∧ a ∉ ph) ∨ KL K a vs) ∧ Reps K H O ph ds vs := by
  simp only [Rep] at h
  obtain ⟨a, vs, rfl, q, no, ni, r⟩ := h
  exact ⟨a, vs, rfl, .inl ⟨.inl q, no, ni⟩, r⟩
theorem Rep.rq {H : Hp} {O : Addr → Prop} {ph : List Addr} {ds : List D} {v : V} (h : Rep K H O ph (.rol ds) v) : ∃ a vs, v = .ref a ∧ ((Rd H a (.lst vs) ∧ ¬ O a ∧ a ∉ ph) ∨ KL K a vs) ∧ Reps K H O ph ds vs := by
  simpa only [Rep] using h
theorem lq_sql {H : Hp} {O : Addr → Prop} {ph : List Addr} {a : Addr} {vs : List V} (q : (Rd H a (.lst vs) ∧ ¬ O a ∧ a ∉ ph) ∨ KL K a vs) : SqL K H a vs := by
  rcases q with ⟨q, _, _⟩ | q
  · exact .inl q
  · exact .inr q
theorem sem_seq {te : TE} {e : E} (h : SemE K xr W cl ro te e) : SemI K xr W cl (iSeq K te) (.seq e) := fun H O ph r σ st R P u w => by
  simp only [escI] at u
  simp only [evI] at w
  cases ev : evE cl e r st with
  | bad => rw [ev] at w; exact w.elim
  | exc x s =>
    rw [ev] at w
    exact .inl (h H O ph r σ st _ P u (by rw [ev]; exact w))
  | ok x s1 =>
    rw [ev] at w
    obtain ⟨xs, hx, k⟩ := wpR_ofO w
    cases x with
    | lst ds =>
      cases hx
      refine .inl (h H O ph r σ st _ P u ?_)
      rw [ev]
      intro v H1 ph1 E1 S1 R1 _
      obtain ⟨a, vs, rfl, q, rr⟩ := R1.lq
      exact ⟨a, rfl, ⟨vs, lq_sql q⟩, k _ H1 ph1 E1 S1 (itw_list q rr)⟩
    | rol ds =>
      cases hx
      refine .inl (h H O ph r σ st _ P u ?_)
      rw [ev]
      intro v H1 ph1 E1 S1 R1 _
      obtain ⟨a, vs, rfl, q, rr⟩ := R1.rq
      exact ⟨a, rfl, ⟨vs, lq_sql q⟩, k _ H1 ph1 E1 S1 (itw_list q rr)⟩
    | tup ds =>
      cases hx
      refine .inr (.inl (h H O ph r σ st _ P u ?_))
      rw [ev]
      intro v H1 ph1 E1 S1 R1 _
      simp only [Rep] at R1
      obtain ⟨a, vs, rfl, q, rr⟩ := R1
      exact ⟨a, rfl, ⟨vs, q⟩, k _ H1 ph1 E1 S1 (itw_tup q rr)⟩
    | str z =>
      cases hx
      refine .inr (.inr (h H O ph r σ st _ P u ?_))
      rw [ev]
      intro v H1 ph1 E1 S1 R1 _
      simp only [Rep] at R1
      subst R1
      exact ⟨_, rfl, k _ H1 ph1 E1 S1 itw_str⟩
    | _ => cases hx
theorem rngOk_of {i : Int} (h : rngOk i = true) : -(2 ^ 62) ≤ i ∧ i < 2 ^ 62 := by simpa [rngOk] using h
theorem sem_rng1 {te : TE} {e : E} (h : SemB K xr W cl te e) : SemI K xr W cl (iRng1 (tCons te tNil)) (.rng1 e) := fun H O ph r σ st R P u w => by
  simp only [escI] at u
  simp only [evI] at w
  refine h H O ph r σ st _ P u (wpR_mono (wpR_bind w) (fun x s1 w1 v1 H1 ph1 E1 S1 R1 => ?_) fun _ _ z => z)
  cases x with
  | int j =>
    rw [R1.int]
    simp only at w1
    split at w1
    · rename_i hr
      exact ⟨j, rfl, (rngOk_of hr).1, (rngOk_of hr).2, w1 _ H1 ph1 E1 S1 (itw_rng (by simp))⟩
    · exact w1.elim
  | _ => exact w1.elim
theorem sem_rng2 {ta tb : TE} {a b : E} (ha : SemB K xr W cl ta a) (hb : SemB K xr W cl tb b) : SemI K xr W cl (iRng2 (tCons ta (tCons tb tNil))) (.rng2 a b) := fun H O ph r σ st R P u w => by
  simp only [escI] at u
  simp only [evI] at w
  refine sem_two ha hb P u w fun x y s2 v1 v2 H2 ph2 E2 P2 R1 R2 w2 => ?_
  split at w2
  · rename_i i j
    rw [R1.int, R2.int]
    split at w2
    · rename_i hr
      simp only [Bool.and_eq_true] at hr
      have h1 := rngOk_of hr.1
      have h2 := rngOk_of hr.2
      exact ⟨i, j, rfl, ⟨h1.1, h1.2, h2.1, h2.2⟩, w2 _ H2 ph2 E2 P2.st_ (itw_rng rfl)⟩
    · exact w2.elim
  · exact w2.elim
theorem sem_zip {ta tb : TE} {a b : E} (ha : SemE K xr W cl ro ta a) (hb : SemE K xr W cl ro tb b) : SemI K xr W cl (iZip K (tCons ta (tCons tb tNil))) (.zip a b) := fun H O ph r σ st R P u w => by
  simp only [escI] at u
  simp only [evI] at w
  refine ha H O ph r σ st _ P u.fst (wpR_mono (wpR_bind w) (fun x s1 w1 v1 H1 ph1 E1 S1 R1 _ => ?_) fun _ _ z => z)
  refine hb H1 O ph1 r σ s1 _ (P.next E1 S1) u.snd (wpR_mono (wpR_bind w1) (fun y s2 w2 v2 H2 ph2 E2 S2 R2 _ => ?_) fun _ _ z => z.next E1)
  split at w2
  · obtain ⟨c, vs, rfl, q, rr⟩ := (R1.next E2).lq
    obtain ⟨d, ws, rfl, q', rr'⟩ := R2.lq
    exact ⟨c, d, vs, ws, rfl, lq_sql q, lq_sql q', w2 _ H2 ph2 (E1.trans E2) S2 (itw_zip q q' rr rr')⟩
  · exact w2.elim
theorem sem_enum {ta : TE} {a : E} (ha : SemE K xr W cl ro ta a) : SemI K xr W cl (iEnum K (tCons ta tNil)) (.enum a) := fun H O ph r σ st R P u w => by
  simp only [escI] at u
  simp only [evI] at w
  refine ha H O ph r σ st _ P u (wpR_mono (wpR_bind w) (fun x s1 w1 v1 H1 ph1 E1 S1 R1 _ => ?_) fun _ _ z => z)
  cases x with
  | lst ds =>
    obtain ⟨c, vs, rfl, q, rr⟩ := R1.lq
    exact ⟨c, vs, rfl, lq_sql q, w1 _ H1 ph1 E1 S1 (itw_enum q rr)⟩
  | _ => exact w1.elim
/-! ### calls of defs -/
/-- the promise of a def: what the evaluator says of it -/
def spD (K : PySem.W.Frag) (xr : Xc → Value → Option Addr → Hp → Prop) (cl : Nat → List D → Store → Res D) (ro : Nat → Bool) (f : Nat) (np : Nat) : Sp := fun vs H Q E => ∃ ds st ph O, vs.length = np ∧ Reps K H O ph ds vs ∧ RSt K H O ph st ∧ (∀ a, O a → ∃ vs, H a = some (.lst vs)) ∧
  wpR (cl f ds st) (fun d s => ∀ v H' ph', Ext ph H ph' H' → RSt K H' O ph' s → Rep K H' O ph' d v → FrV K (ro f) H O ph' H' s d v → Q v H') (fun e s => ∀ cls od H' ph', Ext ph H ph' H' → RSt K H' O ph' s → xr e cls od H' → E cls od H')
theorem sem_call {ta : TA} {es : Es} (f np : Nat) (h : SemEs K xr W cl ta es) (hl : ∀ ds s, cl f ds s ≠ .bad → ds.length = np) (hr : ∀ ds, fresh ro (.call f ds) = ro f := by intro _; rfl) : SemE K xr W cl ro (tCallSD (spD K xr cl ro f np) [] (WE W) ta) (.call f es) := fun H O ph r σ st Q P u w => by
  simp only [esc, topv, escB, List.nil_append] at u
  simp only [evE] at w
  refine h H O ph r σ st _ P u (wpR_mono (wpR_bind w) (fun ds s1 w1 vs H1 ph1 E1 S1 R1 => ?_) fun _ _ z => z)
  refine ⟨ds, s1, ph1, O, ?_, by rw [List.append_nil]; exact R1, S1, (P.next E1 S1).odom, ?_⟩
  · rw [List.append_nil, ← R1.length]
    refine hl ds s1 fun e => ?_
    rw [e] at w1
    exact w1
  · refine wpR_mono w1 (fun d s k v H2 ph2 E2 S2 R2 fr => k v H2 ph2 (E1.trans E2) S2 R2 fun b ds e => ?_) fun e s x cls od H2 ph2 E2 S2 q => x cls od H2 ph2 (E1.trans E2) S2 q
    obtain ⟨a, vs, e1, e2, e3⟩ := fr (by rw [← hr es]; exact b) ds e
    exact ⟨a, vs, e1, E1.free e2, e3⟩
end
end PyE

/-! Instances, their fields and methods; joined texts. -/
namespace PyE
open PySem PySem.Spec PyProof.Rows L2
section
variable {X : Cx} {CX : CXT} {k : Nat} {f C : Addr} {fd : FuncData} {ps : List Str} {sp : Sp} {E : L2.St → XK} {x m : Str} {p pos apos : Pos} {e o : Expr} {es : List Expr} {ta : TE} {t : TA}
/-- f() -/
theorem pe_callSD0 (F : FnOk X.prog X.w X.K X.mg X.base CX k f fd ps sp) (hr : Room k X.A) (hg : Gl X x) (hm : X.mg x = some (.ref f)) (hk : PySem.W.keepIn X.K (.ref f) = true) (hb : Binds X.K fd ps []) (hx : ∀ σ, PassesAt CX X σ (E σ))
    (hdb : (x == ("__debug__" : Str)) = false := by decide) : PE X (.Call (.Name x p) [] [] pos) (tCallSD sp [] E tNil) := by
  refine ⟨fun pins s σ H Q I h => ?_⟩
  refine wpAny_Call_Name_kw (ld_glob I hg hm ?_ hdb)
  exact PySem.W.callWith_K0 (first := []) I.kIn hk (run_fnSD (us := []) (vs := []) F hr hb .nil (hx σ) I .nil h)
def tMethSD (C : Addr) (m : Str) (sp : Sp) (E : L2.St → XK) (ta : TE) (t : TA) : TE := fun σ H Q => ta σ H fun x H1 => ∃ a dx fs, x = .ref a ∧ H1 a = some (.ins C dx fs) ∧ fs.lookup m = none ∧ t σ H1 fun vs H2 => sp ((x :: vs) ++ []) H2 Q (E σ)
theorem pe_methSD {pl : Sem Bool} (he : PE X o ta) (c : Cls X.K C) (hm : Meth X.K C m f) (F : FnOk X.prog X.w X.K X.mg X.base CX k f fd ps sp) (hr : Room k X.A) (hb : Binds X.K fd ps []) (hx : ∀ σ, PassesAt CX X σ (E σ)) (ha : PA X (e :: es) t)
    (hst : starEach (e :: es) X.env = (false, eval e X.env) :: starEach es X.env) (hpl : (backTo pos (starEach es X.env)).any (·.1) = false)
    (ht : eval (.Call (.Attribute o m apos) (e :: es) [] pos) X.env = (do
      let ov ← eval o X.env
      standAt apos.atName
      let (f, first) ← holding [ov] (getMethod ov m pl)
      callWith pos f first (backTo pos (starEach (e :: es) X.env)) (backToKw pos (keywordEach [] X.env)))) :
    PE X (.Call (.Attribute o m apos) (e :: es) [] pos) (tMethSD C m sp E ta t) := by
  refine ⟨fun pins s σ H Q I h => ?_⟩
  refine PySem.W.methodCall_KW (pl := pl) (thn (he.run pins s σ H _ I h) fun u s1 ⟨x, H1, I1, rx, a, dx, fs, ex, ea, l, q⟩ => ?_) ht
  subst ex
  obtain rfl : u = Value.ref a := rx
  refine getmeth_ok I1 ea c hm l ?_
  refine PySem.W.callWith_K (first := [.ref a]) (h₀ := X.base) I.ok.mod.kin hm.kp (thn (ha.run pos pins s1 σ H1 _ I1 q) fun us s2 ⟨vs, H2, I2, r, q2⟩ => ⟨I2.kIn, ?_⟩) hst hpl
  exact run_fnSD (us := .ref a :: us) (vs := .ref a :: vs) F hr hb .nil (hx σ) I2 (.cons rfl r) q2
theorem pe_methSD0 {pl : Sem Bool} (he : PE X o ta) (c : Cls X.K C) (hm : Meth X.K C m f) (F : FnOk X.prog X.w X.K X.mg X.base CX k f fd ps sp) (hr : Room k X.A) (hb : Binds X.K fd ps []) (hx : ∀ σ, PassesAt CX X σ (E σ))
    (ht : eval (.Call (.Attribute o m apos) [] [] pos) X.env = (do
      let ov ← eval o X.env
      standAt apos.atName
      let (f, first) ← holding [ov] (getMethod ov m pl)
      callWith pos f first (backTo pos (starEach [] X.env)) (backToKw pos (keywordEach [] X.env)))) :
    PE X (.Call (.Attribute o m apos) [] [] pos) (tMethSD C m sp E ta tNil) := by
  refine ⟨fun pins s σ H Q I h => ?_⟩
  refine PySem.W.methodCall_KW (pl := pl) (thn (he.run pins s σ H _ I h) fun u s1 ⟨x, H1, I1, rx, a, dx, fs, ex, ea, l, q⟩ => ?_) ht
  subst ex
  obtain rfl : u = Value.ref a := rx
  refine getmeth_ok I1 ea c hm l ?_
  exact PySem.W.callWith_K0 (first := [.ref a]) I1.kIn hm.kp (run_fnSD (us := [.ref a]) (vs := [.ref a]) F hr hb .nil (hx σ) I1 (.cons rfl .nil) q)
theorem run_makeSD {pins : List (Addr × Obj)} {σ : L2.St} {H : Hp} {s : Shared} {Q : VK} {us : List Value} {vs : List V} {E : XK} (M : Mk X.K C f) (F : FnOk X.prog X.w X.K X.mg X.base CX k f fd ps sp) (hr : Room (k + 1) X.A) (hb : Binds X.K fd ps [])
    (hx : PassesAt CX X σ E) (I : Inv X pins σ H s) (r : Vals vs us)
    (h : ∀ x dx, H x = none → H dx = none → dx ≠ x → sp (.ref x :: (vs ++ [])) (upd (upd H dx (.own x)) x (.ins C dx [])) (fun v H2 => v = .non ∧ Q (.ref x) H2) E) :
    wpAny (model X.prog X.w) X.A (call (.ref C) us) (EP X pins σ Q) X.xe s := by
  simp only [List.append_nil] at h
  have hq := h (s.heap.objs.size + 1) s.heap.objs.size (I.hok.fresh (Nat.le_succ _)) (I.hok.fresh (Nat.le_refl _)) (Nat.ne_of_lt (Nat.lt_succ_self _))
  have I2 := Inv.made (C := C) I
  have r2 : Vals (V.ref (s.heap.objs.size + 1) :: vs) (Value.ref (s.heap.objs.size + 1) :: us) := .cons rfl r
  have hl : (Value.ref (s.heap.objs.size + 1) :: us).length = ps.length := by
    have e := r2.length
    rw [F.len _ _ _ _ hq] at e
    exact e.symm
  have b := hb _ (Value.ref (s.heap.objs.size + 1) :: us) I2.kIn (by rw [List.append_nil]; exact hl)
  rw [List.append_nil] at b
  refine wpAny_call (make_map (f := f) I.kIn M.makes M.init (beq_iff_eq.mp M.fn) (codeAny_mono (F.run _ X.stack _ _ ⟨Value.ref (s.heap.objs.size + 1) :: us, []⟩ (Value.ref (s.heap.objs.size + 1) :: us) _ _ E (hr.make C us [])
    (I2.env0.make C us []) b r2 hq) fun r s' hq' => ?_))
  cases r with
  | error e => exact hx pins _ _ e s' I2 hq'
  | ok fl =>
    cases fl with
    | ret u =>
      obtain ⟨v, H', I3, rv, ev, q3⟩ := I2.after hq'
      subst ev
      exact ⟨rv, ⟨V.ref (s.heap.objs.size + 1), H', I3, rfl, q3⟩⟩
    | next => exact False.elim hq'
    | brk => exact False.elim hq'
    | cont => exact False.elim hq'
def tMakeSD (C : Addr) (sp : Sp) (E : L2.St → XK) (t : TA) : TE := fun σ H Q => t σ H fun vs H1 => ∀ x dx, H1 x = none → H1 dx = none → dx ≠ x → sp (.ref x :: (vs ++ [])) (upd (upd H1 dx (.own x)) x (.ins C dx [])) (fun v H2 => v = .non ∧ Q (.ref x) H2) (E σ)
theorem pe_makeSD (M : Mk X.K C f) (F : FnOk X.prog X.w X.K X.mg X.base CX k f fd ps sp) (hr : Room (k + 1) X.A) (hg : Gl X x) (hm : X.mg x = some (.ref C)) (hb : Binds X.K fd ps []) (hx : ∀ σ, PassesAt CX X σ (E σ))
    (ha : PA X (e :: es) t) (hdb : (x == ("__debug__" : Str)) = false) (he : starEach (e :: es) X.env = (false, eval e X.env) :: starEach es X.env) (hpl : (backTo pos (starEach es X.env)).any (·.1) = false) :
    PE X (.Call (.Name x p) (e :: es) [] pos) (tMakeSD C sp E t) := by
  refine ⟨fun pins s σ H Q I h => ?_⟩
  refine wpAny_Call_Name_kw (ld_glob I hg hm ?_ hdb)
  refine PySem.W.callWith_K (h₀ := X.base) I.ok.mod.kin M.kp (thn (ha.run pos pins s σ H _ I h) fun us s1 ⟨vs, H1, I1, r, q⟩ => ⟨I1.kIn, ?_⟩) he hpl
  exact run_makeSD M F hr hb (hx σ) I1 r q
theorem pe_makeSD0 (M : Mk X.K C f) (F : FnOk X.prog X.w X.K X.mg X.base CX k f fd ps sp) (hr : Room (k + 1) X.A) (hg : Gl X x) (hm : X.mg x = some (.ref C)) (hb : Binds X.K fd ps []) (hx : ∀ σ, PassesAt CX X σ (E σ))
    (hdb : (x == ("__debug__" : Str)) = false) : PE X (.Call (.Name x p) [] [] pos) (tMakeSD C sp E tNil) := by
  refine ⟨fun pins s σ H Q I h => ?_⟩
  refine wpAny_Call_Name_kw (ld_glob I hg hm ?_ hdb)
  exact PySem.W.callWith_K0 (first := []) I.kIn M.kp (run_makeSD (us := []) M F hr hb (hx σ) I .nil h)
/-- what is never reached -/
def tNever : TE := fun _ _ _ => False
theorem pe_never {e : Expr} : PE X e tNever := ⟨fun _ _ _ _ _ _ h => h.elim⟩
end
section
variable {K : PySem.W.Frag} {H : Hp} {O : Addr → Prop} {ph : List Addr}
theorem RepK.lookup : ∀ {fs : List (Str × D)} {xs : List (Str × V)} (f : Str), RepK K H O ph fs xs → (∀ d, fs.lookup f = some d → ∃ v, xs.lookup f = some v ∧ Rep K H O ph d v) ∧ (fs.lookup f = none → xs.lookup f = none)
  | [], xs, f, h => by
    obtain rfl : xs = [] := h
    exact ⟨fun d q => (nomatch q), fun _ => rfl⟩
  | (g, e) :: r, xs, f, h => by
    obtain ⟨v, ys, rfl, h1, h2⟩ := h
    obtain ⟨i1, i2⟩ := RepK.lookup f h2
    by_cases q : (f == g) = true
    · refine ⟨fun d h => ?_, fun h => ?_⟩
      · simp only [List.lookup, q] at h ⊢
        cases h
        exact ⟨v, rfl, h1⟩
      · simp only [List.lookup, q] at h
        cases h
    · have q' : (f == g) = false := by simpa using q
      refine ⟨fun d h => ?_, fun h => ?_⟩
      · simp only [List.lookup, q'] at h ⊢
        exact i1 d h
      · simp only [List.lookup, q'] at h ⊢
        exact i2 h
theorem RSt.ins {st : Store} (s : RSt K H O ph st) {n : Nat} {c : Str} {fs : List (Str × D)} {v : V} (e : st[n]? = some (.ins c fs)) (r : Rep K H O ph (.ref n) v) : ∃ a dx xs, v = .ref a ∧ ph[n]? = some a ∧ H a = some (.ins (He.ga K c) dx xs) ∧ RepK K H O ph fs xs := by
  simp only [Rep] at r
  obtain ⟨a, rfl, ea⟩ := r
  obtain ⟨b, o, eb, _, hb, dx, xs, rfl, q⟩ := s.ob n _ e
  rw [ea] at eb
  cases eb
  exact ⟨a, dx, xs, rfl, ea, hb, q⟩
theorem fldD_ok {st : Store} {x d : D} {c f : Str} (h : fldD st x c f = some d) : ∃ n fs, x = .ref n ∧ st[n]? = some (.ins c fs) ∧ fs.lookup f = some d := by
  unfold fldD at h
  split at h
  · rename_i n
    split at h
    · rename_i c' fs e
      split at h
      · rename_i q
        subst q
        exact ⟨n, fs, rfl, e, h⟩
      · cases h
    · cases h
  · cases h
theorem insB_ok {st : Store} {x : D} {c m : Str} (h : insB st x c m = true) : ∃ n fs, x = .ref n ∧ st[n]? = some (.ins c fs) ∧ fs.lookup m = none := by
  unfold insB at h
  split at h
  · rename_i n
    split at h
    · rename_i c' fs e
      simp only [Bool.and_eq_true, decide_eq_true_eq, Option.isNone_iff_eq_none] at h
      obtain ⟨rfl, h2⟩ := h
      exact ⟨n, fs, rfl, e, h2⟩
    · cases h
  · cases h
theorem strs_rep : ∀ {ds : List D} {ys : List (List Nat)} {vs : List V}, strsD ds = some ys → Reps K H O ph ds vs → vs = (ys.map fun z => (⟨z.toArray⟩ : Str)).map V.str
  | [], ys, vs, h, r => by
    simp only [Reps] at r
    cases h
    exact r
  | d :: ds, ys, vs, h, r => by
    simp only [Reps] at r
    obtain ⟨v, w, rfl, r1, r2⟩ := r
    cases d with
    | str i =>
      simp only [strsD] at h
      cases e : strsD ds with
      | none => rw [e] at h; cases h
      | some ms =>
        rw [e] at h
        cases h
        rw [strs_rep e r2]
        simp only [Rep] at r1
        subst r1
        rfl
    | _ => cases h
end
theorem glue_fold (z : List Nat) : ∀ (ys : List (List Nat)) (acc : List Nat), (ys.map fun y => (⟨y.toArray⟩ : Str)).foldl (fun a p => a ++ (⟨z.toArray⟩ : Str).cps ++ p.cps) acc.toArray = (acc ++ (ys.map fun y => z ++ y).flatten).toArray
  | [], acc => by simp
  | y :: ys, acc => by
    rw [List.map_cons, List.foldl_cons, show acc.toArray ++ (⟨z.toArray⟩ : Str).cps ++ (⟨y.toArray⟩ : Str).cps = (acc ++ (z ++ y)).toArray by simp, glue_fold z ys]
    simp
theorem joinL_eq (z : List Nat) : ∀ (y : List Nat) (ys : List (List Nat)), joinL z (y :: ys) = y ++ (ys.map fun y => z ++ y).flatten
  | y, [] => by simp [joinL]
  | y, x :: ys => by
    simp only [joinL, joinL_eq z x ys, List.map_cons, List.flatten_cons, List.append_assoc]
theorem join_eq (z : List Nat) (ys : List (List Nat)) : Txt.join ⟨z.toArray⟩ (ys.map fun z => (⟨z.toArray⟩ : Str)) = ⟨(joinL z ys).toArray⟩ := by
  cases ys with
  | nil => rfl
  | cons y ys =>
    show Str.mk _ = _
    have := glue_fold z ys y
    rw [joinL_eq]
    exact congrArg Str.mk this
section
variable {K : PySem.W.Frag} {xr : Xc → Value → Option Addr → Hp → Prop} {W : WX} {cl : Nat → List D → Store → Res D} {ro : Nat → Bool}
theorem sem_never {t : TE} : SemE K xr W cl ro t .never := fun H O ph r σ st Q P u w => (show False from w).elim
theorem sem_fld {ta : TE} {c f : Str} {a : E} (hc : Cls K (He.ga K c)) (hn : NoAttr K (He.ga K c) f) (ha : SemB K xr W cl ta a) : SemE K xr W cl ro (tFld K ta f) (.fld c a f) := fun H O ph r σ st Q P u w => by
  simp only [esc, topv, escB, List.nil_append] at u
  simp only [evE] at w
  refine ha H O ph r σ st _ P u (wpR_mono (wpR_bind w) (fun x s1 w1 v1 H1 ph1 E1 S1 R1 => ?_) fun _ _ z => z)
  obtain ⟨d, hd, k⟩ := wpR_ofO w1
  obtain ⟨n, fs, rfl, e1, e2⟩ := fldD_ok hd
  obtain ⟨b, dx, xs, rfl, _, hb, rk⟩ := S1.ins e1 (show Rep K H1 O ph1 (.ref n) v1 from R1)
  obtain ⟨v, g1, g2⟩ := (rk.lookup f).1 d e2
  exact ⟨b, _, dx, xs, v, rfl, hb, hc, hn, g1, k v H1 ph1 E1 S1 g2 (fun z => Bool.noConfusion z)⟩
theorem sem_join {ta tb : TE} {a b : E} (ha : SemB K xr W cl ta a) (hb : SemB K xr W cl tb b) : SemE K xr W cl ro (tM1 (fun x xs H Q => ∃ a p, ∃ ys : List Str, x = .str a ∧ xs = [.ref p] ∧ (SqL K H p (ys.map V.str) ∨ SqT K H p (ys.map V.str)) ∧
      (ys.map (·.length)).sum + ys.length * a.length ≤ 16777216 ∧ Q (.str (Txt.join a ys)) H) ta tb) (.join a b) := fun H O ph r σ st Q P u w => by
  simp only [esc, topv, escB, List.nil_append] at u
  simp only [evE] at w
  refine ha H O ph r σ st _ P u.fst (wpR_mono (wpR_bind w) (fun x s1 w1 v1 H1 ph1 E1 S1 R1 => ?_) fun _ _ z => z)
  cases hx : x with
  | str z =>
    subst hx
    rw [R1.str]
    refine ⟨⟨_, rfl⟩, ?_⟩
    refine hb H1 O ph1 r σ s1 _ (P.next E1 S1) u.snd (wpR_mono (wpR_bind w1) (fun y s2 w2 v2 H2 ph2 E2 S2 R2 => ?_) fun _ _ z => z.next E1)
    obtain ⟨d, hd, k⟩ := wpR_ofO w2
    have fin : ∀ (ds : List D) (vs : List V) (p : Addr), Reps K H2 O ph2 ds vs → ((∀ us, vs = us → SqL K H2 p us) ∨ (∀ us, vs = us → SqT K H2 p us)) → ((strsD ds).bind fun ys => if (ys.map (·.length)).sum + ys.length * z.length ≤ SZ then some (D.str (joinL z ys)) else none) = some d →
        ∃ a, ∃ ys : List Str, V.str ⟨z.toArray⟩ = .str a ∧ (SqL K H2 p (ys.map V.str) ∨ SqT K H2 p (ys.map V.str)) ∧ (ys.map (·.length)).sum + ys.length * a.length ≤ 16777216 ∧ Q (.str (Txt.join a ys)) H2 := by
      intro ds vs p rr sq hd
      obtain ⟨ys, e1, e2⟩ := Option.bind_eq_some_iff.mp hd
      split at e2
      · rename_i hz
        cases e2
        have ev := strs_rep e1 rr
        refine ⟨_, ys.map fun z => (⟨z.toArray⟩ : Str), rfl, ?_, ?_, ?_⟩
        · rcases sq with sq | sq
          · exact .inl (sq _ ev)
          · exact .inr (sq _ ev)
        · rw [str_len, List.length_map, List.map_map]
          have : (ys.map ((fun x : Str => x.length) ∘ fun z => (⟨z.toArray⟩ : Str))) = ys.map (·.length) := List.map_congr_left fun y _ => str_len y
          rw [this]
          exact hz
        · rw [join_eq]
          exact k _ H2 ph2 (E1.trans E2) S2 rep_str (fun _ _ z => by cases z)
      · cases e2
    cases y with
    | lst ds =>
      obtain ⟨p, vs, rfl, q, _, rr⟩ := R2.lst
      obtain ⟨a, ys, h1, h3, h4, h5⟩ := fin ds vs p rr (.inl fun us e => by rw [← e]; exact SqL.of q) hd
      exact ⟨a, p, ys, h1, rfl, h3, h4, h5⟩
    | tup ds =>
      obtain ⟨p, vs, rfl, q, rr⟩ := R2.tup
      obtain ⟨a, ys, h1, h3, h4, h5⟩ := fin ds vs p rr (.inr fun us e => by rw [← e]; exact q) hd
      exact ⟨a, p, ys, h1, rfl, h3, h4, h5⟩
    | _ => cases hd
  | _ =>
    subst hx
    exact (show False from w1).elim
theorem sem_meth {C : Addr} {ta : TE} {t : TA} {c m : Str} {a : E} {es : Es} (f np : Nat) (hC : C = He.ga K c) (ha : SemE K xr W cl ro ta a) (h : SemEs K xr W cl t es) (hl : ∀ ds s, cl f ds s ≠ .bad → ds.length = np) :
    SemE K xr W cl ro (tMethSD C m (spD K xr cl ro f np) (WE W) ta t) (.meth c f m a es) := fun H O ph r σ st Q P u w => by
  subst hC
  simp only [esc, topv, escB, List.nil_append] at u
  simp only [evE] at w
  refine ha H O ph r σ st _ P u.fst (wpR_mono (wpR_bind w) (fun x s1 w1 v1 H1 ph1 E1 S1 R1 _ => ?_) fun _ _ z => z)
  by_cases hi : insB s1 x c m = true
  case neg =>
    rw [if_neg hi] at w1
    exact w1.elim
  rw [if_pos hi] at w1
  obtain ⟨n, fs, rfl, e1, e2⟩ := insB_ok hi
  obtain ⟨b, dx, xs, rfl, _, hb, rk⟩ := S1.ins e1 R1
  refine ⟨b, dx, xs, rfl, hb, (rk.lookup m).2 e2, ?_⟩
  refine h H1 O ph1 r σ s1 _ (P.next E1 S1) u.snd (wpR_mono (wpR_bind w1) (fun ds s2 w2 vs H2 ph2 E2 S2 R2 => ?_) fun _ _ z => z.next E1)
  refine ⟨.ref n :: ds, s2, ph2, O, ?_, by rw [List.append_nil]; exact Reps.cons (R1.next E2) R2, S2, ((P.next E1 S1).next E2 S2).odom, ?_⟩
  · rw [List.append_nil, List.length_cons, ← R2.length]
    have := hl (.ref n :: ds) s2 fun e => by
      rw [e] at w2
      exact w2
    simpa using this
  · refine wpR_mono w2 (fun d s k v H3 ph3 E3 S3 R3 fr => k v H3 ph3 ((E1.trans E2).trans E3) S3 R3 fun b ds e => ?_) fun e s x cls od H3 ph3 E3 S3 q => x cls od H3 ph3 ((E1.trans E2).trans E3) S3 q
    cases b
theorem sem_make {C : Addr} {t : TA} {c : Str} {es : Es} (f np : Nat) (hC : C = He.ga K c) (h : SemEs K xr W cl t es) (hl : ∀ ds s, cl f ds s ≠ .bad → ds.length = np) :
    SemE K xr W cl ro (tMakeSD C (spD K xr cl ro f np) (WE W) t) (.make c f es) := fun H O ph r σ st Q P u w => by
  subst hC
  simp only [esc, topv, escB, List.nil_append] at u
  simp only [evE] at w
  refine h H O ph r σ st _ P u (wpR_mono (wpR_bind w) (fun ds s1 w1 vs H1 ph1 E1 S1 R1 => ?_) fun _ _ z => z)
  intro x dx hx hdx hne
  have P1 := P.next E1 S1
  have E2 := Ext.new S1.isl hdx (.own x)
  have S2 := S1.new hdx (.own x)
  have P2 := P1.next E2 S2
  have hx2 : upd H1 dx (.own x) x = none := by rw [upd_ne (fun e => hne e.symm)]; exact hx
  obtain ⟨E3, S3⟩ := S2.pushB P2.odom hx2 (b := .ins c []) (o := .ins (He.ga K c) dx []) ⟨dx, [], rfl, rfl⟩
  have R1' := (R1.next E2).next E3
  have P3 := P2.next E3 S3
  have rx : Rep K (upd (upd H1 dx (.own x)) x (.ins (He.ga K c) dx [])) O (ph1 ++ [x]) (.ref s1.length) (.ref x) := by
    simp only [Rep]
    refine ⟨x, rfl, ?_⟩
    rw [List.getElem?_append_right (by rw [S1.len]; exact Nat.le_refl _), S1.len, Nat.sub_self]
    rfl
  refine ⟨.ref s1.length :: ds, s1 ++ [.ins c []], ph1 ++ [x], O, ?_, by rw [List.append_nil]; exact Reps.cons rx R1', S3, P3.odom, ?_⟩
  · rw [List.append_nil, List.length_cons, ← R1.length]
    have := hl (.ref s1.length :: ds) (s1 ++ [.ins c []]) fun e => by
      rw [e] at w1
      exact w1
    simpa using this
  · have E13 := (E1.trans E2).trans E3
    refine wpR_mono (wpR_bind w1) (fun d s w2 v H4 ph4 E4 S4 R4 _ => ?_) fun e s z cls od H4 ph4 E4 S4 q => z cls od H4 ph4 (E13.trans E4) S4 q
    split at w2
    · rename_i hd
      cases d with
      | non =>
        simp only [Rep] at R4
        exact ⟨R4, w2 (.ref x) H4 ph4 (E13.trans E4) S4 (rx.next E4) (fun _ _ z => by cases z)⟩
      | _ => cases hd
    · exact w2.elim
end
end PyE

/-! Targets; comprehensions. -/
namespace PyE
open PySem PySem.Spec PyProof.Rows L2
/-! ### frames -/
theorem getS_put : ∀ (r : Env) (i j : Nat) (x : Sl), getS (putS r i x) j = if i = j ∧ i < r.length then x else getS r j
  | [], i, j, x => by simp [putS, getS]
  | y :: r, 0, 0, x => by simp [putS, getS]
  | y :: r, 0, j + 1, x => by simp [putS, getS]
  | y :: r, i + 1, 0, x => by simp [putS, getS]
  | y :: r, i + 1, j + 1, x => by simp [putS, getS, getS_put r i j x]
theorem put_len : ∀ (r : Env) (i : Nat) (x : Sl), (putS r i x).length = r.length
  | [], i, x => rfl
  | y :: r, 0, x => rfl
  | y :: r, i + 1, x => by simp [putS, put_len r i x]
theorem getS_share1 : ∀ (r : Env) (i j : Nat), getS (shAt r i) j = if i = j then toSh (getS r j) else getS r j
  | [], i, j => by simp [shAt, getS, toSh]
  | y :: r, 0, 0 => by simp [shAt, getS]
  | y :: r, 0, j + 1 => by simp [shAt, getS]
  | y :: r, i + 1, 0 => by simp [shAt, getS]
  | y :: r, i + 1, j + 1 => by simp [shAt, getS, getS_share1 r i j]
theorem shAt_len : ∀ (r : Env) (i : Nat), (shAt r i).length = r.length
  | [], i => rfl
  | y :: r, 0 => rfl
  | y :: r, i + 1 => by simp [shAt, shAt_len r i]
theorem getS_ge : ∀ (r : Env) (j : Nat), r.length ≤ j → getS r j = .no
  | [], j, _ => rfl
  | y :: r, 0, h => by simp at h
  | y :: r, j + 1, h => getS_ge r j (by simpa using h)
section
variable {K : PySem.W.Frag} {H H1 H2 : Hp} {O O' : Addr → Prop} {ph ph1 ph2 : List Addr} {st st1 st2 : Store} {r : Env} {σ : L2.St}
theorem SlOk.set_ne {i j : Nat} {x : Option V} {s : Sl} (h : SlOk K H O ph σ j s) (ne : i ≠ j) : SlOk K H O ph (σ.set i x) j s := by
  have e : (σ.set i x)[j]? = σ[j]? := List.getElem?_set_ne ne
  cases s with
  | no => trivial
  | sh d => obtain ⟨v, a, b⟩ := h; exact ⟨v, by rw [e]; exact a, b⟩
  | own d =>
    cases d with
    | lst ds => obtain ⟨a, vs, h1, h2⟩ := h; exact ⟨a, vs, by rw [e]; exact h1, h2⟩
    | non => obtain ⟨v, a, b⟩ := h; exact ⟨v, by rw [e]; exact a, b⟩
    | bl _ => obtain ⟨v, a, b⟩ := h; exact ⟨v, by rw [e]; exact a, b⟩
    | int _ => obtain ⟨v, a, b⟩ := h; exact ⟨v, by rw [e]; exact a, b⟩
    | str _ => obtain ⟨v, a, b⟩ := h; exact ⟨v, by rw [e]; exact a, b⟩
    | tup _ => obtain ⟨v, a, b⟩ := h; exact ⟨v, by rw [e]; exact a, b⟩
    | rol _ => obtain ⟨v, a, b⟩ := h; exact ⟨v, by rw [e]; exact a, b⟩
    | ref _ => obtain ⟨v, a, b⟩ := h; exact ⟨v, by rw [e]; exact a, b⟩
theorem isOwn_no : ¬ isOwn .no := fun ⟨_, h⟩ => by cases h
theorem isOwn_sh {d : D} : ¬ isOwn (.sh d) := fun ⟨_, h⟩ => by cases h
/-- a slot is given a value that others may hold -/
theorem Pre.put (p : Pre K H O ph r σ st) {d : D} {v : V} (h : Rep K H O ph d v) (i : Nat) : Pre K H O ph (putS r i (.sh d)) (σ.set i (some v)) st := by
  refine ⟨p.st_, p.odom, fun j => ?_, fun j k a hj hk ej ek => ?_, by rw [put_len, List.length_set]; exact p.len⟩
  · rw [getS_put]
    split
    · rename_i c
      obtain ⟨rfl, hl⟩ := c
      exact ⟨v, List.getElem?_set_self (by rw [← p.len]; exact hl), h⟩
    · rename_i c
      by_cases e : i = j
      · subst e
        rw [getS_ge r i (by omega)]
        trivial
      · exact (p.env j).set_ne e
  · rw [getS_put] at hj hk
    split at hj
    · exact absurd hj isOwn_sh
    · rename_i c1
      split at hk
      · exact absurd hk isOwn_sh
      · rename_i c2
        have n1 : i ≠ j := fun e => by
          subst e
          rw [getS_ge r i (by omega)] at hj
          exact isOwn_no hj
        have n2 : i ≠ k := fun e => by
          subst e
          rw [getS_ge r i (by omega)] at hk
          exact isOwn_no hk
        rw [List.getElem?_set_ne n1] at ej
        rw [List.getElem?_set_ne n2] at ek
        exact p.inj j k a hj hk ej ek
/-- a slot is forgotten -/
theorem Pre.drop (p : Pre K H O ph r σ st) (i : Nat) : Pre K H O ph (putS r i .no) (σ.set i none) st := by
  refine ⟨p.st_, p.odom, fun j => ?_, fun j k a hj hk ej ek => ?_, by rw [put_len, List.length_set]; exact p.len⟩
  · rw [getS_put]
    split
    · trivial
    · rename_i c
      by_cases e : i = j
      · subst e
        rw [getS_ge r i (by omega)]
        trivial
      · exact (p.env j).set_ne e
  · rw [getS_put] at hj hk
    split at hj
    · exact absurd hj isOwn_no
    · rename_i c1
      split at hk
      · exact absurd hk isOwn_no
      · rename_i c2
        have n1 : i ≠ j := fun e => by
          subst e
          rw [getS_ge r i (by omega)] at hj
          exact isOwn_no hj
        have n2 : i ≠ k := fun e => by
          subst e
          rw [getS_ge r i (by omega)] at hk
          exact isOwn_no hk
        rw [List.getElem?_set_ne n1] at ej
        rw [List.getElem?_set_ne n2] at ek
        exact p.inj j k a hj hk ej ek
theorem wipe_set : ∀ (vs : List Nat) (σ : L2.St) (i : Nat) (x : Option V), wipe (σ.set i x) vs = if i ∈ vs then wipe σ vs else (wipe σ vs).set i x
  | [], σ, i, x => by simp [wipe]
  | v :: vs, σ, i, x => by
    simp only [wipe, List.mem_cons]
    rw [wipe_set vs σ i x]
    by_cases h : i ∈ vs
    · simp [h]
    · by_cases e : i = v
      · subst e
        simp [h]
      · simp only [h, e, if_false, or_self]
        exact List.set_comm x none e
theorem wipe_drop : ∀ (vs : List Nat) (σ : L2.St) (i : Nat), wipe (σ.set i none) vs = (wipe σ vs).set i none
  | [], σ, i => rfl
  | v :: vs, σ, i => by
    simp only [wipe]
    rw [wipe_drop vs σ i]
    by_cases e : i = v
    · subst e; rfl
    · exact List.set_comm none none e
theorem wipe_wipe (σ : L2.St) (vs : List Nat) : ∀ ws : List Nat, (∀ i ∈ ws, i ∈ vs) → L2.wipe (L2.wipe σ ws) vs = L2.wipe σ vs
  | [], _ => rfl
  | w :: ws, h => by
    simp only [L2.wipe]
    rw [wipe_set, if_pos (h w List.mem_cons_self)]
    exact wipe_wipe σ vs ws fun i hi => h i (List.mem_cons_of_mem _ hi)
theorem Pre.wipe : ∀ (vs : List Nat) (r : Env) (σ : L2.St), Pre K H O ph r σ st → Pre K H O ph (wipeE vs r) (L2.wipe σ vs) st
  | [], r, σ, p => p
  | v :: vs, r, σ, p => by
    have := Pre.wipe vs _ _ (p.drop v)
    rw [wipe_drop] at this
    exact this
end
/-! ### targets -/
def SemG (K : PySem.W.Frag) (g : TG) (tg : Tg) (sl : List Nat) : Prop := ∀ H O ph r σ st d v r2 (Q : L2.St → Hp → Prop), Pre K H O ph r σ st → Rep K H O ph d v → putTg r tg false d = some r2 →
  (∀ σ2, Pre K H O ph r2 σ2 st → (∀ vs, (∀ i ∈ sl, i ∈ vs) → wipe σ2 vs = wipe σ vs) → Q σ2 H) → g v σ H Q
theorem semG_name {K : PySem.W.Frag} (i : Nat) : SemG K (gName i) (.name i) [i] := fun H O ph r σ st d v r2 Q p h e k => by
  have e : putS r i (.sh d) = r2 := Option.some.inj e
  subst e
  exact k _ (p.put h i) fun vs hv => by rw [wipe_set, if_pos (hv i (List.mem_singleton.mpr rfl))]
/-- several names, one after another -/
def SemGs (K : PySem.W.Frag) (g : TGs) (is : List Nat) : Prop := ∀ H O ph r σ st ds vs r2 (Q : L2.St → Hp → Prop), Pre K H O ph r σ st → Reps K H O ph ds vs → putAll r is ds = some r2 →
  (∀ σ2, Pre K H O ph r2 σ2 st → (∀ ws, (∀ i ∈ is, i ∈ ws) → wipe σ2 ws = wipe σ ws) → Q σ2 H) → g vs σ H Q
theorem semGs_nil {K : PySem.W.Frag} : SemGs K gNil [] := fun H O ph r σ st ds vs r2 Q p h e k => by
  cases ds with
  | nil =>
    simp only [Reps] at h
    subst h
    have e : r = r2 := Option.some.inj e
    subst e
    exact ⟨rfl, k σ p fun _ _ => rfl⟩
  | cons d ds => cases e
theorem semGs_cons {K : PySem.W.Frag} {g : TGs} {is : List Nat} (i : Nat) (hg : SemGs K g is) : SemGs K (gCons (gName i) g) (i :: is) := fun H O ph r σ st ds vs r2 Q p h e k => by
  cases ds with
  | nil => cases e
  | cons d ds =>
    simp only [Reps] at h
    obtain ⟨v, ws, rfl, h1, h2⟩ := h
    refine ⟨v, ws, rfl, ?_⟩
    refine hg H O ph _ _ st ds ws r2 Q (p.put h1 i) h2 e fun σ2 p2 hw => k σ2 p2 fun ws hs => ?_
    rw [hw ws fun j hj => hs j (List.mem_cons_of_mem _ hj), wipe_set, if_pos (hs i List.mem_cons_self)]
theorem putAll_len : ∀ (is : List Nat) (ds : List D) (r r2 : Env), putAll r is ds = some r2 → ds.length = is.length
  | [], [], r, r2, h => rfl
  | [], d :: ds, r, r2, h => by cases h
  | i :: is, [], r, r2, h => by cases h
  | i :: is, d :: ds, r, r2, h => by
    simp only [putAll] at h
    simp [putAll_len is ds _ _ h]
theorem semG_tup {K : PySem.W.Frag} {g : TGs} {is : List Nat} (hg : SemGs K g is) : SemG K (gTup K is.length g) (.tup is) is := fun H O ph r σ st d v r2 Q p h e k => by
  cases d with
  | tup ds =>
    simp only [Rep] at h
    obtain ⟨a, vs, rfl, q, rr⟩ := h
    exact ⟨a, vs, rfl, q, by rw [← rr.length]; exact putAll_len is ds r r2 e, hg H O ph r σ st ds vs r2 Q p rr e k⟩
  | _ => cases e
/-! ### comprehensions -/
def W0 : WX := fun _ _ _ _ => False
theorem wpR_noX {a : Type} {r : Res a} {k : a → Store → Prop} {x x' : Xc → Store → Prop} (h : wpR (noX r) k x) : wpR r k x' := by
  cases r with
  | ok y s => exact h
  | exc e s => exact h.elim
  | bad => exact h
section
variable {K : PySem.W.Frag} {xr : Xc → Value → Option Addr → Hp → Prop} {W : WX} {cl : Nat → List D → Store → Res D} {ro : Nat → Bool}
def SemTo (K : PySem.W.Frag) (xr : Xc → Value → Option Addr → Hp → Prop) (W : WX) (cl : Nat → List D → Store → Res D) (t : TT) (e : To) : Prop := ∀ H O ph r σ st (Q : Bool → Hp → Prop), Pre K H O ph r σ st → Un (escTo e) r →
  wpR (evTo cl e r st) (fun b s => ∀ H' ph', Ext ph H ph' H' → RSt K H' O ph' s → Q b H') (XW K xr W O ph H σ) → t σ H Q
theorem semTo_yes : SemTo K xr W cl tYes .yes := fun H O ph r σ st Q P u w => w H ph P.ext0 P.st_
theorem semTo_one {t : TT} {e : T} (h : SemT K xr W cl t e) : SemTo K xr W cl t (.one e) := fun H O ph r σ st Q P u w => h H O ph r σ st Q P (by simpa only [escTo] using u) (by simpa only [evTo] using w)
/-- the frame, while a new list grows at D -/
theorem Pre.widen {H1 H2 : Hp} {O : Addr → Prop} {ph1 ph2 : List Addr} {r : Env} {σ : L2.St} {st1 st2 : Store} {D : Addr} {ws : List V} (p : Pre K H1 O ph1 r σ st1) (e : Ext ph1 H1 ph2 H2) (hD : H1 D = none) (s : RSt K H2 (fun a => O a ∨ a = D) ph2 st2)
    (hD2 : H2 D = some (.lst ws)) : Pre K H2 (fun a => O a ∨ a = D) ph2 r σ st2 := by
  have nd : ∀ a o, H1 a = some o → a ≠ D := fun a o h z => by rw [z, hD] at h; cases h
  have L : Lat O ph1 H1 (fun a => O a ∨ a = D) ph2 H2 := ⟨fun a o h n _ => e.step a o h n, e.grow, fun a o h n z => z.elim n (nd a o h), e.isl, p.odom, fun _ _ h => e.there h⟩
  refine ⟨s, fun a h => ?_, fun i => ?_, p.inj, p.len⟩
  · rcases h with h | rfl
    · obtain ⟨vs, q⟩ := p.odom a h
      exact ⟨vs, e.step a _ q fun z => p.st_.notO a z h⟩
    · exact ⟨ws, hD2⟩
  · have q := p.env i
    cases hs : getS r i with
    | no => trivial
    | sh d =>
      rw [hs] at q
      obtain ⟨v, a, b⟩ := q
      exact ⟨v, a, Rep.lat L d v b⟩
    | own d =>
      rw [hs] at q
      cases d with
      | lst ds =>
        obtain ⟨a, vs, h1, h2, h3, h4, h5⟩ := q
        exact ⟨a, vs, h1, .inl h2, e.step _ _ h3 h4, e.notin h3 h4, Reps.lat L _ _ h5⟩
      | non => obtain ⟨v, a, b⟩ := q; exact ⟨v, a, Rep.lat L _ v b⟩
      | bl _ => obtain ⟨v, a, b⟩ := q; exact ⟨v, a, Rep.lat L _ v b⟩
      | int _ => obtain ⟨v, a, b⟩ := q; exact ⟨v, a, Rep.lat L _ v b⟩
      | str _ => obtain ⟨v, a, b⟩ := q; exact ⟨v, a, Rep.lat L _ v b⟩
      | tup _ => obtain ⟨v, a, b⟩ := q; exact ⟨v, a, Rep.lat L _ v b⟩
      | rol _ => obtain ⟨v, a, b⟩ := q; exact ⟨v, a, Rep.lat L _ v b⟩
      | ref _ => obtain ⟨v, a, b⟩ := q; exact ⟨v, a, Rep.lat L _ v b⟩
/-- a list that a frame holds alone changes -/
theorem lat_upd {H : Hp} {O : Addr → Prop} {ph : List Addr} {st : Store} (s : RSt K H O ph st) (od : ∀ a, O a → ∃ vs, H a = some (.lst vs)) {D : Addr} (hD : O D) (vs : List V) : Lat O ph H O ph (upd H D (.lst vs)) :=
  ⟨fun a o h _ n => by rw [upd_ne (fun z => n (by rw [z]; exact hD))]; exact h, ⟨[], by simp, by simp⟩, fun _ _ _ n => n, s.isl, od, fun a o h => by
    by_cases e : a = D
    · subst e; exact ⟨_, upd_same⟩
    · exact ⟨o, by rw [upd_ne e]; exact h⟩⟩
theorem RSt.updO {H : Hp} {O : Addr → Prop} {ph : List Addr} {st : Store} (s : RSt K H O ph st) (od : ∀ a, O a → ∃ vs, H a = some (.lst vs)) {D : Addr} (hD : O D) (vs : List V) : RSt K (upd H D (.lst vs)) O ph st :=
  ⟨s.len, s.nd, fun n ds h => by
    obtain ⟨a, ws, e1, no, e2, q⟩ := s.ob n ds h
    exact ⟨a, ws, e1, no, by rw [upd_ne (fun z => no (by rw [z]; exact hD))]; exact e2, q.lat (lat_upd s od hD vs)⟩⟩
theorem NewOnly.ext {H H' : Hp} {ph : List Addr} (isl : ∀ a ∈ ph, Mu H a) (n : NewOnly H H') : Ext ph H ph H' := by
  rcases n with rfl | ⟨p, o, hp, rfl⟩
  · exact Ext.refl isl
  · exact Ext.new isl hp o
theorem RSt.newOnly {H H' : Hp} {O : Addr → Prop} {ph : List Addr} {st : Store} (s : RSt K H O ph st) (n : NewOnly H H') : RSt K H' O ph st := by
  rcases n with rfl | ⟨p, o, hp, rfl⟩
  · exact s
  · exact s.new hp o
theorem compF_len {f : D → Store → Res (Option D)} : ∀ (xs : List D) (s : Store) (ys : List D) (s' : Store), compF f xs s = .ok ys s' → ys.length ≤ xs.length
  | [], s, ys, s', h => by
    simp only [compF, Res.ok.injEq] at h
    rw [← h.1]
    exact Nat.le_refl _
  | x :: xs, s, ys, s', h => by
    simp only [compF] at h
    cases e : f x s with
    | bad => rw [e] at h; cases h
    | exc _ _ => rw [e] at h; cases h
    | ok y s1 =>
      rw [e, bind_ok] at h
      cases e2 : compF f xs s1 with
      | bad => rw [e2] at h; cases h
      | exc _ _ => rw [e2] at h; cases h
      | ok zs s2 =>
        rw [e2, bind_ok] at h
        have ih := compF_len xs s1 zs s2 e2
        cases y with
        | none =>
          simp only [Res.ok.injEq] at h
          rw [← h.1]
          exact Nat.le_succ_of_le ih
        | some d =>
          simp only [Res.ok.injEq] at h
          rw [← h.1]
          exact Nat.succ_le_succ ih
theorem un_wipe {l vs : List Nat} : ∀ {r : Env}, Un l r → Un l (wipeE vs r) := by
  induction vs with
  | nil => exact fun u => u
  | cons v vs ih =>
    intro r u
    refine ih fun i hi => ?_
    rw [getS_put]
    split
    · exact isOwn_no
    · exact u i hi
theorem un_put {l : List Nat} {r : Env} {i : Nat} {d : D} (u : Un l r) : Un l (putS r i (.sh d)) := fun j hj => by
  rw [getS_put]
  split
  · exact isOwn_sh
  · exact u j hj
theorem un_putAll {l : List Nat} : ∀ {is : List Nat} {ds : List D} {r r2 : Env}, Un l r → putAll r is ds = some r2 → Un l r2
  | [], [], r, r2, u, h => by
    have : r = r2 := Option.some.inj h
    rw [← this]; exact u
  | [], d :: ds, r, r2, u, h => by cases h
  | i :: is, [], r, r2, u, h => by cases h
  | i :: is, d :: ds, r, r2, u, h => un_putAll (is := is) (ds := ds) (un_put u) h
theorem un_putTg {l : List Nat} {tg : Tg} {d : D} {r r2 : Env} (u : Un l r) (h : putTg r tg false d = some r2) : Un l r2 := by
  cases tg with
  | name i =>
    have : putS r i (.sh d) = r2 := Option.some.inj h
    rw [← this]; exact un_put u
  | tup is =>
    cases d with
    | tup ds => exact un_putAll u h
    | _ => cases h
theorem sem_comp {wi : TI} {g : TG} {tt : TT} {te : TE} {e : E} {tg : Tg} {it : I} {t : To} {vs sl : List Nat} (hi : SemI K xr W cl wi it) (hg : SemG K g tg sl) (hs : ∀ i ∈ sl, i ∈ vs) (ht : SemTo K xr W0 cl tt t) (he : SemE K xr W0 cl ro te e) :
    SemE K xr W cl ro (tLc wi g tt te vs) (.comp e tg it t vs) := fun H O ph r σ st Q P u w => by
  simp only [esc, topv, escB, List.nil_append] at u
  simp only [evE] at w
  refine hi H O ph r σ st _ P u.snd.fst (wpR_mono (wpR_bind w) (fun xs s1 w1 J H1 ph1 E1 S1 iw => ?_) fun _ _ z => z)
  have P1 := P.next E1 S1
  intro D hD
  by_cases hlen : xs.length ≤ SZ
  case neg =>
    rw [if_neg hlen] at w1
    exact w1.elim
  rw [if_pos hlen] at w1
  have w2 := wpR_bind w1
  have w3 := wpR_noX (x' := fun _ _ => False) w2
  generalize hf : (fun (x : PyE.D) (s2 : Store) => match putTg (wipeE vs r) tg false x with
    | none => Res.bad
    | some r2 => (evTo cl t r2 s2).bind fun c s3 => if c then (evE cl e r2 s3).bind fun d s4 => .ok (some d) s4 else .ok none s3) = f at w3
  obtain ⟨G, Y, wk, hG, hY⟩ := iw
  have nD : ∀ a o, H1 a = some o → a ≠ D := fun a o h z => by rw [z, hD] at h; cases h
  have DnO : ¬ O D := fun z => by
    obtain ⟨_, q⟩ := P1.odom D z
    rw [hD] at q; cases q
  have latO : ∀ (ph2 : List Addr) (H2 : Hp), Ext ph1 H1 ph2 H2 → Lat O ph1 H1 (fun a => O a ∨ a = D) ph2 H2 := fun ph2 H2 E2 =>
    ⟨fun a o h n _ => E2.step a o h n, E2.grow, fun a o h n z => z.elim n (nD a o h), E2.isl, P1.odom, fun _ _ h => E2.there h⟩
  refine lc_it wk (fun i H2 => ∃ ph2 s2 acc ds, Ext ph1 H1 ph2 H2 ∧ RSt K H2 (fun a => O a ∨ a = D) ph2 s2 ∧ H2 D = some (.lst acc) ∧ Reps K H2 (fun a => O a ∨ a = D) ph2 ds acc ∧ ds.length ≤ i ∧
    wpR (compF f (xs.drop i) s2) (fun ys s' => wpR (Res.ok (.lst (ds ++ ys)) s') (fun d s => ∀ v H' ph', Ext ph H ph' H' → RSt K H' O ph' s → Rep K H' O ph' d v → FrV K (fresh ro (.comp e tg it t vs)) H O ph' H' s d v → Q v H') (XW K xr W O ph H σ)) fun _ _ => False) ?h0 ?hG ?hs ?hd
  case h0 =>
    have s0 := S1.new hD (.lst [])
    refine ⟨ph1, s1, [], [], Ext.new S1.isl hD _, ⟨s0.len, s0.nd, fun n ds h => ?_⟩, upd_same, Reps.nil, Nat.le_refl _, ?_⟩
    · obtain ⟨a, ws, e1, no, e2, q⟩ := s0.ob n ds h
      obtain ⟨a', ws', e1', no', e2', q'⟩ := S1.ob n ds h
      rw [e1] at e1'
      cases e1'
      refine ⟨a, ws', e1, fun z => z.elim no (nD a _ e2'), by rw [upd_ne (nD a _ e2')]; exact e2', q'.lat (latO ph1 _ (Ext.new S1.isl hD _))⟩
    · rw [List.drop_zero]
      exact wpR_mono w3 (fun ys s' k => k) fun _ _ z => z
  case hG =>
    rintro i H2 hle ⟨ph2, s2, acc, ds, E2, S2, hd2, R2, hl, w4⟩
    exact hG _ _ _ (latO ph2 H2 E2)
  case hs =>
    rintro i v H2 H3 hi ⟨ph2, s2, acc, ds, E2, S2, hd2, R2, hl, w4⟩ hy
    obtain ⟨no, d, hd, rd⟩ := hY _ _ _ i v H3 (latO ph2 H2 E2) S2.isl hi hy
    have E3 : Ext ph2 H2 ph2 H3 := no.ext S2.isl
    have S3 := S2.newOnly no
    have hd3 : H3 D = some (.lst acc) := E3.step D _ hd2 fun z => S2.notO D z (.inr rfl)
    have P3 := (P1.widen (E2.trans E3) hD S3 hd3).wipe vs
    rw [show xs.drop i = d :: xs.drop (i + 1) by
      obtain ⟨h, q⟩ := List.getElem?_eq_some_iff.mp hd
      rw [List.drop_eq_getElem_cons h, q]] at w4
    simp only [compF] at w4
    have w5 := wpR_bind w4
    rw [← hf] at w5
    simp only at w5
    cases hp : putTg (wipeE vs r) tg false d with
    | none => rw [hp] at w5; exact w5.elim
    | some r2 =>
      rw [hp] at w5
      simp only at w5
      rw [hf] at w5
      refine hg H3 _ ph2 _ _ s2 d v r2 _ P3 rd hp fun σ2 P4 hw => ?_
      have ue : Un (esc e) r2 := un_putTg (un_wipe u.fst) hp
      have ut : Un (escTo t) r2 := un_putTg (un_wipe u.snd.snd) hp
      refine ⟨(hw vs hs).trans (wipe_wipe σ vs vs fun _ z => z), ?_⟩
      refine ht H3 _ ph2 r2 σ2 s2 _ P4 ut (wpR_mono (wpR_bind w5) (fun c s3 w6 H4 ph4 E4 S4 => ?_) fun _ _ z => z.elim)
      have hd4 : H4 D = some (.lst acc) := E4.step D _ hd3 fun z => S3.notO D z (.inr rfl)
      have R4 := (R2.next E3).next E4
      have E14 := (E2.trans E3).trans E4
      cases c with
      | false =>
        refine ⟨ph4, s3, acc, ds, E14, S4, hd4, R4, Nat.le_succ_of_le hl, ?_⟩
        exact wpR_mono (wpR_bind w6) (fun ys s' k => k) fun _ _ z => z
      | true =>
        refine he H4 _ ph4 r2 σ2 s3 _ (P4.next E4 S4) ue (wpR_mono (wpR_bind w6) (fun y s5 w7 v5 H5 ph5 E5 S5 R5 _ => ?_) fun _ _ z => z.elim)
        have hd5 : H5 D = some (.lst acc) := E5.step D _ hd4 fun z => S4.notO D z (.inr rfl)
        have od5 : ∀ a, (O a ∨ a = D) → ∃ vs, H5 a = some (.lst vs) := ((P4.next E4 S4).next E5 S5).odom
        have L5 := lat_upd S5 od5 (D := D) (.inr rfl) (acc ++ [v5])
        refine ⟨acc, hd5, ?_, ph5, s5, acc ++ [v5], ds ++ [y], ?_, S5.updO od5 (.inr rfl) _, upd_same, ?_, by simp; omega, ?_⟩
        · rw [← R4.length]
          have : ds.length < xs.length := by omega
          have : sizeLine = SZ := sizeLine_eq
          omega
        · have E15 := E14.trans E5
          refine ⟨fun a o h n => by rw [upd_ne (nD a o h)]; exact E15.step a o h n, E15.grow, E15.isl, fun a ha => ?_⟩
          obtain ⟨ws, q⟩ := E15.isl' a ha
          exact ⟨ws, by rw [upd_ne (fun z => S5.notO a ha (by rw [z]; exact .inr rfl))]; exact q⟩
        · exact Reps.append (Reps.lat L5 _ _ (R4.next E5)) (Reps.cons (Rep.lat L5 _ _ R5) Reps.nil)
        · have w8 := wpR_bind w7
          refine wpR_mono w8 (fun ys s' k => ?_) fun _ _ z => z
          rw [List.append_assoc]
          exact k
  case hd =>
    rintro H2 ⟨ph2, s2, acc, ds, E2, S2, hd2, R2, hl, w4⟩
    rw [List.drop_length] at w4
    have w4 : ∀ v H' ph', Ext ph H ph' H' → RSt K H' O ph' s2 → Rep K H' O ph' (.lst (ds ++ [])) v → FrV K (fresh ro (.comp e tg it t vs)) H O ph' H' s2 (.lst (ds ++ [])) v → Q v H' := w4
    rw [List.append_nil] at w4
    have less : ∀ a, O a → (O a ∨ a = D) := fun a h => .inl h
    refine w4 (.ref D) H2 ph2 (E1.trans E2) (S2.less less) ?_ fun _ ds' q => ?_
    · simp only [Rep]
      exact ⟨D, acc, rfl, hd2, DnO, fun z => S2.notO D z (.inr rfl), Reps.ext (Ext.refl S2.isl) less _ _ R2⟩
    · cases q
      exact ⟨D, acc, rfl, E1.free hD, hd2, S2, R2⟩
end
end PyE

/-! Statements. -/
namespace PyE
open PySem PySem.Spec PyProof.Rows L2
/-- a body running: Oc the lists that the callers hold alone, H0 the entry -/
structure PreS (K : PySem.W.Frag) (Oc : Addr → Prop) (H0 H : Hp) (O : Addr → Prop) (ph : List Addr) (r : Env) (σ : L2.St) (st : Store) : Prop where
  pre : Pre K H O ph r σ st
  sub : ∀ a, Oc a → O a
  ocd : ∀ a, Oc a → ∃ o, H0 a = some o
  fr : ∀ i a, isOwn (getS r i) → σ[i]? = some (some (.ref a)) → H0 a = none
  ent : ∀ a o, H0 a = some o → ∃ o', H a = some o'
structure SLat (Oc O : Addr → Prop) (ph : List Addr) (H : Hp) (O2 : Addr → Prop) (ph2 : List Addr) (H2 : Hp) : Prop where
  lat : Lat O ph H O2 ph2 H2
  oc : ∀ a, Oc a → H2 a = H a
section
variable {K : PySem.W.Frag} {H0 H H1 H2 H3 : Hp} {Oc O O1 O2 O3 : Addr → Prop} {ph ph1 ph2 ph3 : List Addr} {st st1 : Store} {r r1 : Env} {σ : L2.St}
theorem SLat.trans (a : SLat Oc O ph H O1 ph1 H1) (b : SLat Oc O1 ph1 H1 O2 ph2 H2) : SLat Oc O ph H O2 ph2 H2 := ⟨a.lat.trans b.lat, fun x h => (b.oc x h).trans (a.oc x h)⟩
theorem PreS.refl (p : PreS K Oc H0 H O ph r σ st) : SLat Oc O ph H O ph H := ⟨Lat.of_ext p.pre.ext0 p.pre.odom, fun _ _ => rfl⟩
theorem PreS.slat (p : PreS K Oc H0 H O ph r σ st) (e : Ext ph H ph1 H1) : SLat Oc O ph H O ph1 H1 := ⟨Lat.of_ext e p.pre.odom, fun a h => by
  obtain ⟨vs, q⟩ := p.pre.odom a (p.sub a h)
  rw [q, e.step a _ q fun z => p.pre.st_.notO a z (p.sub a h)]⟩
theorem PreS.next (p : PreS K Oc H0 H O ph r σ st) (e : Ext ph H ph1 H1) (s : RSt K H1 O ph1 st1) : PreS K Oc H0 H1 O ph1 r σ st1 :=
  ⟨p.pre.next e s, p.sub, p.ocd, p.fr, fun a o h => by
    obtain ⟨o', q⟩ := p.ent a o h
    exact e.there q⟩
theorem PreS.apart (p : PreS K Oc H0 H O ph r σ st) {i : Nat} {a : Addr} (h : isOwn (getS r i)) (e : σ[i]? = some (some (.ref a))) : ¬ Oc a := fun z => by
  obtain ⟨o, q⟩ := p.ocd a z
  rw [p.fr i a h e] at q; cases q
/-- a value with an identity less -/
theorem rep_less {d : D} {v : V} (isl : ∀ a ∈ ph, Mu H a) (ho : ∀ a, O1 a → O a) (h : Rep K H O ph d v) : Rep K H O1 ph d v := Rep.ext (Ext.refl isl) ho d v h
theorem toSh_own {s : Sl} : ¬ isOwn (toSh s) := fun ⟨ds, h⟩ => by
  cases s <;> cases h
/-- one slot hands its list on -/
theorem share1 (p : PreS K Oc H0 H O ph r σ st) (i : Nat) : ∃ O1, PreS K Oc H0 H O1 ph (shAt r i) σ st ∧ SLat Oc O ph H O1 ph H := by
  by_cases hi : isOwn (getS r i)
  case neg =>
    refine ⟨O, ⟨⟨p.pre.st_, p.pre.odom, fun j => ?_, fun j k a hj hk ej ek => ?_, by rw [shAt_len]; exact p.pre.len⟩, p.sub, p.ocd, fun j a hj ej => ?_, p.ent⟩, p.refl⟩
    · rw [getS_share1]
      split
      · rename_i e
        subst e
        have q := p.pre.env i
        cases hs : getS r i with
        | no => trivial
        | sh d => rw [hs] at q; exact q
        | own d =>
          rw [hs] at q
          cases d with
          | lst ds => exact absurd ⟨ds, hs⟩ hi
          | non => exact q
          | bl _ => exact q
          | int _ => exact q
          | str _ => exact q
          | tup _ => exact q
          | rol _ => exact q
          | ref _ => exact q
      · exact p.pre.env j
    · rw [getS_share1] at hj hk
      split at hj
      · exact absurd hj toSh_own
      · split at hk
        · exact absurd hk toSh_own
        · exact p.pre.inj j k a hj hk ej ek
    · rw [getS_share1] at hj
      split at hj
      · exact absurd hj toSh_own
      · exact p.fr j a hj ej
  case pos =>
    obtain ⟨ds, hs⟩ := id hi
    have q := p.pre.env i
    rw [hs] at q
    obtain ⟨a, vs, e1, h1, h2, h3, h4⟩ := q
    have less : ∀ x, (O x ∧ x ≠ a) → O x := fun x h => h.1
    have nOc : ¬ Oc a := p.apart hi e1
    refine ⟨fun x => O x ∧ x ≠ a, ⟨⟨p.pre.st_.less less, fun x h => p.pre.odom x h.1, fun j => ?_, fun j k x hj hk ej ek => ?_, by rw [shAt_len]; exact p.pre.len⟩, fun x h => ⟨p.sub x h, fun z => nOc (by rw [← z]; exact h)⟩, p.ocd, fun j x hj ej => ?_, p.ent⟩,
      ⟨⟨fun x o h _ _ => h, ⟨[], by simp, by simp⟩, fun x o _ n z => n z.1, p.pre.st_.isl, p.pre.odom, fun x o h => ⟨o, h⟩⟩, fun _ _ => rfl⟩⟩
    · rw [getS_share1]
      split
      · rename_i e
        subst e
        rw [hs]
        refine ⟨_, e1, ?_⟩
        simp only [Rep]
        exact ⟨a, vs, rfl, h2, fun z => z.2 rfl, h3, Reps.ext (Ext.refl p.pre.st_.isl) less _ _ h4⟩
      · rename_i ne
        have q := p.pre.env j
        cases hj : getS r j with
        | no => trivial
        | sh d =>
          rw [hj] at q
          obtain ⟨v, x, y⟩ := q
          exact ⟨v, x, rep_less p.pre.st_.isl less y⟩
        | own d =>
          rw [hj] at q
          cases d with
          | lst es =>
            obtain ⟨b, ws, f1, g1, g2, g3, g4⟩ := q
            refine ⟨b, ws, f1, ⟨g1, fun z => ?_⟩, g2, g3, Reps.ext (Ext.refl p.pre.st_.isl) less _ _ g4⟩
            rw [z] at f1
            exact ne (p.pre.inj i j a hi ⟨es, hj⟩ e1 f1)
          | non => obtain ⟨v, x, y⟩ := q; exact ⟨v, x, rep_less p.pre.st_.isl less y⟩
          | bl _ => obtain ⟨v, x, y⟩ := q; exact ⟨v, x, rep_less p.pre.st_.isl less y⟩
          | int _ => obtain ⟨v, x, y⟩ := q; exact ⟨v, x, rep_less p.pre.st_.isl less y⟩
          | str _ => obtain ⟨v, x, y⟩ := q; exact ⟨v, x, rep_less p.pre.st_.isl less y⟩
          | tup _ => obtain ⟨v, x, y⟩ := q; exact ⟨v, x, rep_less p.pre.st_.isl less y⟩
          | rol _ => obtain ⟨v, x, y⟩ := q; exact ⟨v, x, rep_less p.pre.st_.isl less y⟩
          | ref _ => obtain ⟨v, x, y⟩ := q; exact ⟨v, x, rep_less p.pre.st_.isl less y⟩
    · rw [getS_share1] at hj hk
      split at hj
      · exact absurd hj toSh_own
      · split at hk
        · exact absurd hk toSh_own
        · exact p.pre.inj j k x hj hk ej ek
    · rw [getS_share1] at hj
      split at hj
      · exact absurd hj toSh_own
      · exact p.fr j x hj ej
theorem share_un1 {l : List Nat} {i : Nat} (u : Un l r) : Un l (shAt r i) := fun j hj => by
  rw [getS_share1]
  split
  · exact toSh_own
  · exact u j hj
theorem share_un : ∀ (l : List Nat) (r : Env) (l2 : List Nat), Un l2 r → Un l2 (share l r)
  | [], r, l2, u => u
  | i :: l, r, l2, u => share_un l _ l2 (share_un1 u)
theorem share_un2 : ∀ (l : List Nat) (r : Env), Un l (share l r)
  | [], r => fun i h => by simp at h
  | i :: l, r => fun j hj => by
    rcases List.mem_cons.mp hj with rfl | hj
    · exact share_un l _ [j] (fun k hk => by
        rw [List.mem_singleton.mp hk, getS_share1, if_pos rfl]
        exact toSh_own) j (List.mem_singleton.mpr rfl)
    · exact share_un2 l _ j hj
theorem shareS : ∀ (l : List Nat) {r : Env} {O : Addr → Prop}, PreS K Oc H0 H O ph r σ st → ∃ O1, PreS K Oc H0 H O1 ph (share l r) σ st ∧ SLat Oc O ph H O1 ph H
  | [], r, O, p => ⟨O, p, p.refl⟩
  | i :: l, r, O, p => by
    obtain ⟨O1, p1, e1⟩ := share1 p i
    obtain ⟨O2, p2, e2⟩ := shareS l p1
    exact ⟨O2, p2, e1.trans e2⟩
theorem PreS.put (p : PreS K Oc H0 H O ph r σ st) {d : D} {v : V} (h : Rep K H O ph d v) (i : Nat) : PreS K Oc H0 H O ph (putS r i (.sh d)) (σ.set i (some v)) st :=
  ⟨p.pre.put h i, p.sub, p.ocd, fun j a hj ej => by
    rw [getS_put] at hj
    split at hj
    · exact absurd hj isOwn_sh
    · rename_i c
      have n1 : i ≠ j := fun e => by
        subst e
        rw [getS_ge r i (by omega)] at hj
        exact isOwn_no hj
      rw [List.getElem?_set_ne n1] at ej
      exact p.fr j a hj ej, p.ent⟩
/-- the frame, a new list apart from all that it holds -/
theorem Pre.widen2 {a : Addr} {vs : List V} (p : Pre K H O ph r σ st) (e : Ext ph H ph1 H1) (ha : H a = none) (h1 : H1 a = some (.lst vs)) (s : RSt K H1 (fun x => O x ∨ x = a) ph1 st1) : Pre K H1 (fun x => O x ∨ x = a) ph1 r σ st1 := p.widen e ha s h1
theorem PreS.widen {a : Addr} {vs : List V} (p : PreS K Oc H0 H O ph r σ st) (e : Ext ph H ph1 H1) (ha : H a = none) (h1 : H1 a = some (.lst vs)) (s : RSt K H1 (fun x => O x ∨ x = a) ph1 st1) : PreS K Oc H0 H1 (fun x => O x ∨ x = a) ph1 r σ st1 :=
  ⟨p.pre.widen e ha s h1, fun x h => .inl (p.sub x h), p.ocd, p.fr, fun x o h => by
    obtain ⟨o', q⟩ := p.ent x o h
    exact e.there q⟩
theorem PreS.entFree (p : PreS K Oc H0 H O ph r σ st) {a : Addr} (h : H a = none) : H0 a = none := by
  cases q : H0 a with
  | none => rfl
  | some o =>
    obtain ⟨o', q'⟩ := p.ent a o q
    rw [h] at q'; cases q'
/-- no slot holds a -/
def Off (r : Env) (σ : L2.St) (a : Addr) : Prop := ∀ i, isOwn (getS r i) → σ[i]? ≠ some (some (.ref a))
/-- a slot is given a list of its own -/
theorem PreS.putOwn {a : Addr} {vs : List V} {ds : List D} (p : PreS K Oc H0 H O ph r σ st) (i : Nat) (ha : H a = some (.lst vs)) (hO : O a) (ni : a ∉ ph) (hr : Reps K H O ph ds vs) (h0 : H0 a = none) (off : ∀ j, j ≠ i → isOwn (getS r j) → σ[j]? ≠ some (some (.ref a))) :
    PreS K Oc H0 H O ph (putS r i (.own (.lst ds))) (σ.set i (some (.ref a))) st := by
  refine ⟨⟨p.pre.st_, p.pre.odom, fun j => ?_, fun j k x hj hk ej ek => ?_, by rw [put_len, List.length_set]; exact p.pre.len⟩, p.sub, p.ocd, fun j x hj ej => ?_, p.ent⟩
  · rw [getS_put]
    split
    · rename_i c
      obtain ⟨rfl, hl⟩ := c
      exact ⟨a, vs, List.getElem?_set_self (by rw [← p.pre.len]; exact hl), hO, ha, ni, hr⟩
    · rename_i c
      by_cases e : i = j
      · subst e
        rw [getS_ge r i (by omega)]
        trivial
      · exact (p.pre.env j).set_ne e
  · by_cases hl : i < r.length
    · by_cases e1 : i = j
      · by_cases e2 : i = k
        · rw [← e1, ← e2]
        · rw [getS_put, if_neg (fun z => e2 z.1)] at hk
          rw [← e1, List.getElem?_set_self (by rw [← p.pre.len]; exact hl)] at ej
          rw [List.getElem?_set_ne e2] at ek
          cases ej
          exact absurd ek (off k (fun z => e2 z.symm) hk)
      · rw [getS_put, if_neg (fun z => e1 z.1)] at hj
        rw [List.getElem?_set_ne e1] at ej
        by_cases e2 : i = k
        · rw [← e2, List.getElem?_set_self (by rw [← p.pre.len]; exact hl)] at ek
          cases ek
          exact absurd ej (off j (fun z => e1 z.symm) hj)
        · rw [getS_put, if_neg (fun z => e2 z.1)] at hk
          rw [List.getElem?_set_ne e2] at ek
          exact p.pre.inj j k x hj hk ej ek
    · rw [getS_put, if_neg (fun z => hl z.2)] at hj hk
      have n1 : i ≠ j := fun z => by
        rw [getS_ge r j (by omega)] at hj
        exact isOwn_no hj
      have n2 : i ≠ k := fun z => by
        rw [getS_ge r k (by omega)] at hk
        exact isOwn_no hk
      rw [List.getElem?_set_ne n1] at ej
      rw [List.getElem?_set_ne n2] at ek
      exact p.pre.inj j k x hj hk ej ek
  · rw [getS_put] at hj
    split at hj
    · rename_i c
      obtain ⟨rfl, hl⟩ := c
      rw [List.getElem?_set_self (by rw [← p.pre.len]; exact hl)] at ej
      cases ej
      exact h0
    · rename_i c
      have n1 : i ≠ j := fun z => by
        subst z
        rw [getS_ge r i (by omega)] at hj
        exact isOwn_no hj
      rw [List.getElem?_set_ne n1] at ej
      exact p.fr j x hj ej
/-- a value that is no list -/
theorem PreS.putFlat (p : PreS K Oc H0 H O ph r σ st) {d : D} {v : V} (h : Rep K H O ph d v) (hn : ∀ ds, d ≠ .lst ds) (i : Nat) : PreS K Oc H0 H O ph (putS r i (.own d)) (σ.set i (some v)) st := by
  have q := p.put h i
  have nown : ¬ isOwn (.own d) := fun ⟨ds, e⟩ => hn ds (by cases e; rfl)
  have key : ∀ j, isOwn (getS (putS r i (.own d)) j) → isOwn (getS (putS r i (.sh d)) j) := fun j hj => by
    rw [getS_put] at hj ⊢
    split
    · rename_i c
      rw [if_pos c] at hj
      exact absurd hj nown
    · rename_i c
      rw [if_neg c] at hj
      exact hj
  refine ⟨⟨q.pre.st_, q.pre.odom, fun j => ?_, fun j k x hj hk ej ek => q.pre.inj j k x (key j hj) (key k hk) ej ek, by rw [put_len, List.length_set]; exact p.pre.len⟩, q.sub, q.ocd, fun j x hj ej => q.fr j x (key j hj) ej, q.ent⟩
  have qj := q.pre.env j
  rw [getS_put] at qj ⊢
  split
  · rename_i c
    rw [if_pos c] at qj
    cases d with
    | lst ds => exact absurd rfl (hn ds)
    | non => exact qj
    | bl _ => exact qj
    | int _ => exact qj
    | str _ => exact qj
    | tup _ => exact qj
    | rol _ => exact qj
    | ref _ => exact qj
  · rename_i c
    rw [if_neg c] at qj
    exact qj
end
section
variable (K : PySem.W.Frag) (xr : Xc → Value → Option Addr → Hp → Prop) (W : WX) (cl : Nat → List D → Store → Res D) (ro : Nat → Bool)
/-- what is wanted where a statement ends -/
def EOk (Oc : Addr → Prop) (H0 : Hp) (O : Addr → Prop) (ph : List Addr) (H : Hp) (D : Ends) : Flow → Store → Prop
  | .nx r', s => ∀ σ' O' ph' H', SLat Oc O ph H O' ph' H' → PreS K Oc H0 H' O' ph' r' σ' s → D.nx σ' H'
  | .br r', s => ∀ σ' O' ph' H', SLat Oc O ph H O' ph' H' → PreS K Oc H0 H' O' ph' r' σ' s → D.bk σ' H'
  | .ct r', s => ∀ σ' O' ph' H', SLat Oc O ph H O' ph' H' → PreS K Oc H0 H' O' ph' r' σ' s → D.ct σ' H'
  | .ret own d, s => ∀ v O' ph' H', SLat Oc O ph H O' ph' H' → RSt K H' Oc ph' s → Rep K H' Oc ph' d v → FrV K own H0 Oc ph' H' s d v → D.rt v H'
def XS (Oc : Addr → Prop) (O : Addr → Prop) (ph : List Addr) (H : Hp) (e : Xc) (s : Store) : Prop :=
  ∀ cls od σ' H' O' ph', SLat Oc O ph H O' ph' H' → RSt K H' Oc ph' s → xr e cls od H' → W cls od σ' H'
def SemS (t : TS) (s : S) : Prop := ∀ Oc H0 H O ph r σ st (D : Ends), PreS K Oc H0 H O ph r σ st → wpR (evS cl ro s r st) (EOk K Oc H0 O ph H D) (XS K xr W Oc O ph H) → t D σ H
end
section
variable {K : PySem.W.Frag} {xr : Xc → Value → Option Addr → Hp → Prop} {W : WX} {cl : Nat → List D → Store → Res D} {ro : Nat → Bool} {H0 H H1 H2 : Hp} {Oc O O1 O2 : Addr → Prop} {ph ph1 ph2 : List Addr} {st st1 : Store} {r r1 : Env} {σ : L2.St}
theorem EOk.later {E : Ends} {f : Flow} {s : Store} (k : EOk K Oc H0 O ph H E f s) (a : SLat Oc O ph H O1 ph1 H1) : EOk K Oc H0 O1 ph1 H1 E f s := by
  cases f with
  | nx r => exact fun σ' O' ph' H' b => k σ' O' ph' H' (a.trans b)
  | br r => exact fun σ' O' ph' H' b => k σ' O' ph' H' (a.trans b)
  | ct r => exact fun σ' O' ph' H' b => k σ' O' ph' H' (a.trans b)
  | ret o d => exact fun v O' ph' H' b => k v O' ph' H' (a.trans b)
theorem XS.later {e : Xc} {s : Store} (k : XS K xr W Oc O ph H e s) (a : SLat Oc O ph H O1 ph1 H1) : XS K xr W Oc O1 ph1 H1 e s := fun cls od σ' H' O' ph' b => k cls od σ' H' O' ph' (a.trans b)
/-- an expression's exceptions, from the statement's -/
theorem XS.xw {e : Xc} {s : Store} (k : XS K xr W Oc O ph H e s) (p : PreS K Oc H0 H O ph r σ st) : XW K xr W O ph H σ e s := fun cls od H' ph' e r q => k cls od σ H' O ph' (p.slat e) (r.less p.sub) q
theorem semS_skip : SemS K xr W cl ro tNext .skip := fun Oc H0 H O ph r σ st E P w => w σ O ph H P.refl P
theorem semS_seq {t u : TS} {a b : S} (ha : SemS K xr W cl ro t a) (hb : SemS K xr W cl ro u b) : SemS K xr W cl ro (tSeq t u) (.seq a b) := fun Oc H0 H O ph r σ st E P w => by
  simp only [evS] at w
  refine ha Oc H0 H O ph r σ st _ P (wpR_mono (wpR_bind w) (fun f s w1 => ?_) fun _ _ z => z)
  cases f with
  | nx r1 => exact fun σ' O' ph' H' a p => hb Oc H0 H' O' ph' r1 σ' s E p (wpR_mono w1 (fun f s k => k.later a) fun e s k => k.later a)
  | br r1 => exact w1
  | ct r1 => exact w1
  | ret o d => exact w1
/-- a target of an assignment -/
def SemGS (K : PySem.W.Frag) (g : TG) (tg : Tg) : Prop := ∀ Oc H0 H O ph r σ st H' ph' st' (own : Bool) d v r2 (Q : L2.St → Hp → Prop), PreS K Oc H0 H O ph r σ st → Ext ph H ph' H' → RSt K H' O ph' st' → Rep K H' O ph' d v → FrV K own H O ph' H' st' d v → putTg r tg own d = some r2 →
  (∀ σ2 O2, SLat Oc O ph H O2 ph' H' → PreS K Oc H0 H' O2 ph' r2 σ2 st' → Q σ2 H') → g v σ H' Q
theorem semGS_name (i : Nat) : SemGS K (gName i) (.name i) := fun Oc H0 H O ph r σ st H' ph' st' own d v r2 Q P E S R F e k => by
  have e : putS r i (if own then .own d else .sh d) = r2 := Option.some.inj e
  have P' := P.next E S
  cases own with
  | false =>
    subst e
    exact k _ O (P.slat E) (P'.put R i)
  | true =>
    subst e
    cases d with
    | lst ds =>
      obtain ⟨a, vs, rfl, h0, h1, h2, h3⟩ := F rfl ds rfl
      have P2 := P.widen E h0 h1 h2
      have nd : ∀ b o, H b = some o → b ≠ a := fun b o h z => by rw [z, h0] at h; cases h
      refine k _ (fun x => O x ∨ x = a) ⟨⟨fun b o h n _ => E.step b o h n, E.grow, fun b o h n z => z.elim n (nd b o h), E.isl, P.pre.odom, fun b o h => E.there h⟩, (P.slat E).oc⟩ (P2.putOwn i h1 (.inr rfl) (fun z => h2.notO a z (.inr rfl)) h3 (P.entFree h0) fun j _ hj ej => ?_)
      obtain ⟨es, hs⟩ := hj
      have q := P.pre.env j
      rw [hs] at q
      obtain ⟨b, ws, e1, _, e2, _⟩ := q
      rw [ej] at e1
      cases e1
      exact nd _ _ e2 rfl
    | non => exact k _ O (P.slat E) (P'.putFlat R (fun _ z => by cases z) i)
    | bl _ => exact k _ O (P.slat E) (P'.putFlat R (fun _ z => by cases z) i)
    | int _ => exact k _ O (P.slat E) (P'.putFlat R (fun _ z => by cases z) i)
    | str _ => exact k _ O (P.slat E) (P'.putFlat R (fun _ z => by cases z) i)
    | tup _ => exact k _ O (P.slat E) (P'.putFlat R (fun _ z => by cases z) i)
    | rol _ => exact k _ O (P.slat E) (P'.putFlat R (fun _ z => by cases z) i)
    | ref _ => exact k _ O (P.slat E) (P'.putFlat R (fun _ z => by cases z) i)
def SemGSs (K : PySem.W.Frag) (g : TGs) (is : List Nat) : Prop := ∀ Oc H0 H O ph r σ st ds vs r2 (Q : L2.St → Hp → Prop), PreS K Oc H0 H O ph r σ st → Reps K H O ph ds vs → putAll r is ds = some r2 →
  (∀ σ2, PreS K Oc H0 H O ph r2 σ2 st → Q σ2 H) → g vs σ H Q
theorem semGSs_nil : SemGSs K gNil [] := fun Oc H0 H O ph r σ st ds vs r2 Q p h e k => by
  cases ds with
  | nil =>
    simp only [Reps] at h
    subst h
    have e : r = r2 := Option.some.inj e
    subst e
    exact ⟨rfl, k σ p⟩
  | cons d ds => cases e
theorem semGSs_cons {g : TGs} {is : List Nat} (i : Nat) (hg : SemGSs K g is) : SemGSs K (gCons (gName i) g) (i :: is) := fun Oc H0 H O ph r σ st ds vs r2 Q p h e k => by
  cases ds with
  | nil => cases e
  | cons d ds =>
    simp only [Reps] at h
    obtain ⟨v, ws, rfl, h1, h2⟩ := h
    exact ⟨v, ws, rfl, hg Oc H0 H O ph _ _ st ds ws r2 Q (p.put h1 i) h2 e k⟩
theorem semGS_tup {g : TGs} {is : List Nat} (hg : SemGSs K g is) : SemGS K (gTup K is.length g) (.tup is) := fun Oc H0 H O ph r σ st H' ph' st' own d v r2 Q P E S R F e k => by
  cases d with
  | tup ds =>
    simp only [Rep] at R
    obtain ⟨a, vs, rfl, q, rr⟩ := R
    exact ⟨a, vs, rfl, q, by rw [← rr.length]; exact putAll_len is ds r r2 e, hg Oc H0 H' O ph' r σ st' ds vs r2 Q (P.next E S) rr e fun σ2 p2 => k σ2 O (P.slat E) p2⟩
  | _ => cases e
theorem semS_asg {te : TE} {g : TG} {tg : Tg} {e : E} (he : SemE K xr W cl ro te e) (hg : SemGS K g tg) : SemS K xr W cl ro (tAsg te g) (.asg tg e) := fun Oc H0 H O ph r σ st E P w => by
  simp only [evS] at w
  obtain ⟨O1, P1, L1⟩ := shareS (esc e) P
  refine he H O1 ph _ σ st _ P1.pre (share_un2 _ _) (wpR_mono (wpR_bind w) (fun d s w1 v H1 ph1 E1 S1 R1 F1 => ?_) fun e s k => (k.later L1).xw P1)
  obtain ⟨f, hf, k⟩ := wpR_ofO w1
  cases ep : putTg (share (esc e) r) tg (fresh ro e) d with
  | none => rw [ep] at hf; cases hf
  | some r2 =>
    rw [ep] at hf
    cases hf
    exact hg Oc H0 H O1 ph _ σ st H1 ph1 s _ d v r2 _ P1 E1 S1 R1 F1 ep fun σ2 O2 L2 P2 => k σ2 O2 ph1 H1 (L1.trans L2) P2
theorem semS_par2 {ta tb : TE} {a b : E} (i j : Nat) (ha : SemE K xr W cl ro ta a) (hb : SemE K xr W cl ro tb b) : SemS K xr W cl ro (tPar i j (tCons ta (tCons tb tNil))) (.par2 i j a b) := fun Oc H0 H O ph r σ st E P w => by
  simp only [evS] at w
  obtain ⟨O1, P1, L1⟩ := shareS (esc a ++ esc b) P
  have u := share_un2 (esc a ++ esc b) r
  refine ha H O1 ph _ σ st _ P1.pre u.fst (wpR_mono (wpR_bind w) (fun x s1 w1 v H1 ph1 E1 S1 R1 _ => ?_) fun e s k => (k.later L1).xw P1)
  refine hb H1 O1 ph1 _ σ s1 _ (P1.pre.next E1 S1) u.snd (wpR_mono (wpR_bind w1) (fun y s2 w2 v2 H2 ph2 E2 S2 R2 _ => ?_) fun e s k => ((k.later L1).xw P1).next E1)
  refine ⟨v, v2, rfl, w2 _ O1 ph2 H2 (L1.trans (P1.slat (E1.trans E2))) ?_⟩
  exact ((P1.next (E1.trans E2) S2).put (R1.next E2) i).put R2 j
theorem semS_par3 {ta tb tc : TE} {a b c : E} (i j k : Nat) (ha : SemE K xr W cl ro ta a) (hb : SemE K xr W cl ro tb b) (hc : SemE K xr W cl ro tc c) : SemS K xr W cl ro (tPar3 i j k (tCons ta (tCons tb (tCons tc tNil)))) (.par3 i j k a b c) := fun Oc H0 H O ph r σ st E P w => by
  simp only [evS] at w
  obtain ⟨O1, P1, L1⟩ := shareS (esc a ++ (esc b ++ esc c)) P
  have u := share_un2 (esc a ++ (esc b ++ esc c)) r
  refine ha H O1 ph _ σ st _ P1.pre u.fst (wpR_mono (wpR_bind w) (fun x s1 w1 v H1 ph1 E1 S1 R1 _ => ?_) fun e s k => (k.later L1).xw P1)
  refine hb H1 O1 ph1 _ σ s1 _ (P1.pre.next E1 S1) u.snd.fst (wpR_mono (wpR_bind w1) (fun y s2 w2 v2 H2 ph2 E2 S2 R2 _ => ?_) fun e s k => ((k.later L1).xw P1).next E1)
  refine hc H2 O1 ph2 _ σ s2 _ (P1.pre.next (E1.trans E2) S2) u.snd.snd (wpR_mono (wpR_bind w2) (fun z s3 w3 v3 H3 ph3 E3 S3 R3 _ => ?_) fun e s k => ((k.later L1).xw P1).next (E1.trans E2))
  refine ⟨v, v2, v3, rfl, w3 _ O1 ph3 H3 (L1.trans (P1.slat (E1.trans (E2.trans E3)))) ?_⟩
  exact (((P1.next (E1.trans (E2.trans E3)) S3).put (R1.next (E2.trans E3)) i).put (R2.next E3) j).put R3 k
/-! ### x op= e -/
def rAug : B → TIp
  | .add => fun x y H Q => (rI0 fun i j => .int (i + j)) x y H Q ∨ rStr x y H Q
  | .sub => rI0 fun i j => .int (i - j)
  | .mul => rI CMul fun i j => .int (i * j)
  | .fdiv => fun x y H Q => (rI CDiv fun i j => .int (i / j)) x y H Q ∨ (rI CDivW fun i j => .int (i / j)) x y H Q
  | .mod => rI (fun _ j => 0 < j) fun i j => .int (i % j)
  | .pow => fun _ _ _ _ => False
theorem ip_aug {X : Cx} : ∀ o, PIp X (opOf o) (rAug o)
  | .add => OpR.or iop_add iop_add_str
  | .sub => iop_sub
  | .mul => iop_mul
  | .fdiv => OpR.or iop_fdiv iop_fdivW
  | .mod => iop_mod
  | .pow => fun _ _ _ _ _ _ _ _ _ _ _ _ h => h.elim
theorem aug_ok {o : B} {x y d : D} {v w : V} {Q : VK} (h : augD o x y = some d) (rx : RepB K H O ph x v) (ry : RepB K H O ph y w) (k : ∀ z, Rep K H O ph d z → Q z H) : rAug o v w H Q := by
  unfold augD at h
  split at h
  · rw [rx.int, ry.int]
    split at h
    · rename_i hm
      cases h
      simp only [Bool.or_eq_true] at hm
      rcases hm with hm | hm
      · exact ⟨_, _, rfl, rfl, .inl (small64_ok hm), k _ rep_int⟩
      · exact ⟨_, _, rfl, rfl, .inr (small64_ok hm), k _ rep_int⟩
    · cases h
  · rw [rx.int, ry.int]
    split at h
    · rename_i hm
      cases h
      simp only [divOk, Bool.and_eq_true, Bool.or_eq_true, decide_eq_true_eq] at hm
      rcases hm with ⟨hm, hn | hn⟩
      · exact .inl ⟨_, _, rfl, rfl, ⟨hm, hn⟩, k _ rep_int⟩
      · exact .inr ⟨_, _, rfl, rfl, ⟨hm, hn⟩, k _ rep_int⟩
    · cases h
  · rw [rx.int, ry.int]
    split at h
    · rename_i hm
      cases h
      exact ⟨_, _, rfl, rfl, hm, k _ rep_int⟩
    · cases h
  · rw [rx.int, ry.int]
    cases h
    exact .inl ⟨_, _, rfl, rfl, k _ rep_int⟩
  · rw [rx.int, ry.int]
    cases h
    exact ⟨_, _, rfl, rfl, k _ rep_int⟩
  · rw [rx.str, ry.str]
    split at h
    · rename_i hl
      cases h
      refine .inr ⟨_, _, rfl, rfl, by rw [str_len, str_len]; exact sz_ok hl, ?_⟩
      rw [str_app]
      exact k _ rep_str
    · cases h
  · cases h
theorem aug_flat {o : B} {x y d : D} (h : augD o x y = some d) : ∀ ds, d ≠ .lst ds := by
  intro ds e
  subst e
  unfold augD at h
  split at h
  · split at h <;> cases h
  · split at h <;> cases h
  · split at h <;> cases h
  · cases h
  · cases h
  · split at h <;> cases h
  · cases h
theorem semS_aug {te : TE} {e : E} (i : Nat) (o : B) (he : SemB K xr W cl te e) : SemS K xr W cl ro (tAug i te (rAug o)) (.aug i o e) := fun Oc H0 H O ph r σ st E P w => by
  simp only [evS] at w
  obtain ⟨O1, P1, L1⟩ := shareS (escB e) P
  cases hv : evE cl (.var i) (share (escB e) r) st with
  | bad => rw [hv] at w; exact w.elim
  | exc x s =>
    simp only [evE] at hv
    split at hv <;> cases hv
  | ok x s =>
    rw [hv] at w
    have hs : s = st := by
      simp only [evE] at hv
      split at hv
      · cases hv; rfl
      · cases hv; rfl
      · cases hv
    subst hs
    have w0 := wpR_bind w
    have w1 := wpR_bind (show wpR ((evE cl e (share (escB e) r) s).bind _) _ _ from w0)
    have hx : getS (share (escB e) r) i = .sh x ∨ getS (share (escB e) r) i = .own x := by
      simp only [evE] at hv
      split at hv
      · rename_i q; cases hv; exact .inl q
      · rename_i q; cases hv; exact .inr q
      · cases hv
    obtain ⟨v, e1, rp, _⟩ := P1.pre.var hx
    refine ⟨v, e1, he H O1 ph _ σ s _ P1.pre (share_un2 _ _) (wpR_mono w1 (fun y s2 w2 u H2 ph2 E2 S2 R2 => ?_) fun e s k => (k.later L1).xw P1)⟩
    obtain ⟨f, hf, k⟩ := wpR_ofO w2
    cases ea : augD o x y with
    | none => rw [ea] at hf; cases hf
    | some z =>
      rw [ea] at hf
      cases hf
      refine aug_ok ea (rp.next E2) R2 fun u2 hu => ?_
      exact k _ O1 ph2 H2 (L1.trans (P1.slat E2)) ((P1.next E2 S2).put hu i)
/-! ### stores into lists -/
/-- a thing of the store changes -/
theorem stepB (p : PreS K Oc H0 H O ph r σ st) {n : Nat} {b0 b : Ob} {a : Addr} {o : HO} (hn : st[n]? = some b0) (ea : ph[n]? = some a) (hr : ObOk K H O ph b o) :
    PreS K Oc H0 (upd H a o) O ph r σ (st.set n b) ∧ SLat Oc O ph H O ph (upd H a o) := by
  have hm : a ∈ ph := List.mem_of_getElem? ea
  have nO : ¬ O a := p.pre.st_.notO a hm
  have e : Ext ph H ph (upd H a o) := ⟨fun b o h hb => by rw [upd_ne (fun z => hb (by rw [z]; exact hm))]; exact h, ⟨[], by simp, by simp⟩, p.pre.st_.isl, fun b hb => by
    by_cases z : b = a
    · exact ⟨o, by rw [z]; exact upd_same, hr.m⟩
    · obtain ⟨us, q, im⟩ := p.pre.st_.isl b hb
      exact ⟨us, by rw [upd_ne z]; exact q, im⟩⟩
  refine ⟨p.next e ⟨by rw [List.length_set]; exact p.pre.st_.len, p.pre.st_.nd, fun m fs h => ?_⟩, p.slat e⟩
  by_cases z : m = n
  · subst z
    have hl : m < st.length := (List.getElem?_eq_some_iff.mp hn).1
    rw [List.getElem?_set_self hl] at h
    cases h
    exact ⟨a, o, ea, nO, upd_same, hr.next e⟩
  · rw [List.getElem?_set_ne (fun q => z q.symm)] at h
    obtain ⟨b, us, e1, no, e2, q⟩ := p.pre.st_.ob m fs h
    refine ⟨b, us, e1, no, ?_, q.next e⟩
    rw [upd_ne (fun q => z ?_)]
    · exact e2
    · subst q
      have h1 := (List.getElem?_eq_some_iff.mp e1)
      have h2 := (List.getElem?_eq_some_iff.mp ea)
      exact (List.getElem_inj p.pre.st_.nd).mp (h1.2.trans h2.2.symm)
theorem stepR (p : PreS K Oc H0 H O ph r σ st) {n : Nat} {ds es : List D} {a : Addr} {vs ws : List V} (hn : st[n]? = some (Ob.lst ds)) (ea : ph[n]? = some a) (hv : H a = some (.lst vs)) (hr : Reps K H O ph es ws) :
    PreS K Oc H0 (upd H a (.lst ws)) O ph r σ (st.set n (Ob.lst es)) ∧ SLat Oc O ph H O ph (upd H a (.lst ws)) := stepB p hn ea ⟨ws, rfl, hr⟩
/-- a list of the frame's own changes -/
theorem stepO (p : PreS K Oc H0 H O ph r σ st) {i : Nat} {ds es : List D} {a : Addr} {ws : List V} (hi : getS r i = .own (.lst ds)) (ea : σ[i]? = some (some (.ref a))) (hr : Reps K H O ph es ws) :
    PreS K Oc H0 (upd H a (.lst ws)) O ph (putS r i (.own (.lst es))) σ st ∧ SLat Oc O ph H O ph (upd H a (.lst ws)) := by
  have hw : isOwn (getS r i) := ⟨ds, hi⟩
  have q := p.pre.env i
  rw [hi] at q
  obtain ⟨b, vs, e1, hO, h2, h3, h4⟩ := q
  rw [ea] at e1
  cases e1
  have L := lat_upd p.pre.st_ p.pre.odom hO ws
  have nOc : ¬ Oc a := p.apart hw ea
  have S := p.pre.st_.updO p.pre.odom hO ws
  have same : σ.set i (some (.ref a)) = σ := by
    apply List.ext_getElem?
    intro j
    by_cases e : i = j
    · subst e
      rw [List.getElem?_set_self (List.getElem?_eq_some_iff.mp ea).1, ea]
    · rw [List.getElem?_set_ne e]
  have key : ∀ j, isOwn (getS (putS r i (.own (.lst es))) j) → isOwn (getS r j) := fun j hj => by
    rw [getS_put] at hj
    split at hj
    · rename_i c
      rw [← c.1]
      exact hw
    · exact hj
  have slat : SLat Oc O ph H O ph (upd H a (.lst ws)) := ⟨L, fun x hx => by rw [upd_ne (fun z => nOc (by rw [← z]; exact hx))]⟩
  refine ⟨⟨⟨S, fun x hx => ?_, fun j => ?_, fun j k x hj hk ej ek => p.pre.inj j k x (key j hj) (key k hk) ej ek, by rw [put_len]; exact p.pre.len⟩, p.sub, p.ocd, fun j x hj ej => p.fr j x (key j hj) ej, fun x o h => ?_⟩, slat⟩
  · by_cases z : x = a
    · exact ⟨ws, by rw [z]; exact upd_same⟩
    · obtain ⟨us, q⟩ := p.pre.odom x hx
      exact ⟨us, by rw [upd_ne z]; exact q⟩
  · rw [getS_put]
    split
    · rename_i c
      obtain ⟨rfl, hl⟩ := c
      exact ⟨a, ws, ea, hO, upd_same, h3, Reps.lat L _ _ hr⟩
    · rename_i c
      have q := p.pre.env j
      cases hj : getS r j with
      | no => trivial
      | sh d =>
        rw [hj] at q
        obtain ⟨v, x, y⟩ := q
        exact ⟨v, x, Rep.lat L d v y⟩
      | own d =>
        rw [hj] at q
        cases d with
        | lst fs =>
          obtain ⟨b, us, f1, g1, g2, g3, g4⟩ := q
          have ne : b ≠ a := fun z => by
            subst z
            have := p.pre.inj i j b hw ⟨fs, hj⟩ ea f1
            subst this
            exact c ⟨rfl, by
              cases Nat.lt_or_ge i r.length with
              | inl h => exact h
              | inr h => rw [getS_ge r i h] at hi; cases hi⟩
          exact ⟨b, us, f1, g1, by rw [upd_ne ne]; exact g2, g3, Reps.lat L _ _ g4⟩
        | non => obtain ⟨v, x, y⟩ := q; exact ⟨v, x, Rep.lat L _ v y⟩
        | bl _ => obtain ⟨v, x, y⟩ := q; exact ⟨v, x, Rep.lat L _ v y⟩
        | int _ => obtain ⟨v, x, y⟩ := q; exact ⟨v, x, Rep.lat L _ v y⟩
        | str _ => obtain ⟨v, x, y⟩ := q; exact ⟨v, x, Rep.lat L _ v y⟩
        | tup _ => obtain ⟨v, x, y⟩ := q; exact ⟨v, x, Rep.lat L _ v y⟩
        | rol _ => obtain ⟨v, x, y⟩ := q; exact ⟨v, x, Rep.lat L _ v y⟩
        | ref _ => obtain ⟨v, x, y⟩ := q; exact ⟨v, x, Rep.lat L _ v y⟩
  · obtain ⟨o', q⟩ := p.ent x o h
    by_cases z : x = a
    · exact ⟨_, by rw [z]; exact upd_same⟩
    · exact ⟨o', by rw [upd_ne z]; exact q⟩
/-- what a name's value is: in the slot -/
theorem varOf_eq {o : E} {i : Nat} (h : varOf o = some i) : o = .var i := by
  cases o <;> simp only [varOf, reduceCtorEq, Option.some.injEq] at h
  rw [h]
/-- a reading of an expression as an object: where it is a name, its slot's value -/
def SemV (K : PySem.W.Frag) (xr : Xc → Value → Option Addr → Hp → Prop) (W : WX) (cl : Nat → List D → Store → Res D) (t : TE) (e : E) : Prop := ∀ H O ph r σ st (Q : VK), Pre K H O ph r σ st → Un (escB e) r →
  wpR (evE cl e r st) (fun d s => ∀ v H' ph', Ext ph H ph' H' → RSt K H' O ph' s → RepB K H' O ph' d v → (∀ i, varOf e = some i → σ[i]? = some (some v)) → Q v H') (XW K xr W O ph H σ) → t σ H Q
theorem semV_of {t : TE} {e : E} (h : SemB K xr W cl t e) (hn : varOf e = none) : SemV K xr W cl t e := fun H O ph r σ st Q p u w =>
  h H O ph r σ st Q p u (wpR_mono w (fun d s k v H' ph' x y z => k v H' ph' x y z fun i hi => by rw [hn] at hi; cases hi) fun _ _ z => z)
theorem semV_var (i : Nat) : SemV K xr W cl (tVar i) (.var i) := fun H O ph r σ st Q p u w => by
  simp only [evE] at w
  split at w
  · rename_i d hd
    obtain ⟨v, e1, rp, _⟩ := p.var (.inl hd)
    exact ⟨v, e1, w v H ph p.ext0 p.st_ rp fun j hj => by cases hj; exact e1⟩
  · rename_i d hd
    obtain ⟨v, e1, rp, _⟩ := p.var (.inr hd)
    exact ⟨v, e1, w v H ph p.ext0 p.st_ rp fun j hj => by cases hj; exact e1⟩
  · exact w.elim
theorem semS_set {te to ti : TE} {o i e : E} (he : SemE K xr W cl ro te e) (ho : SemV K xr W cl to o) (hi : SemB K xr W cl ti i) : SemS K xr W cl ro (tAsg te (gSub to ti rSetL)) (.set o i e) := fun Oc H0 H O ph r σ st E P w => by
  simp only [evS] at w
  obtain ⟨O1, P1, L1⟩ := shareS (esc e ++ (escB o ++ escB i)) P
  have u := share_un2 (esc e ++ (escB o ++ escB i)) r
  refine he H O1 ph _ σ st _ P1.pre u.fst (wpR_mono (wpR_bind w) (fun d s1 w1 v H1 ph1 E1 S1 R1 _ => ?_) fun e s k => (k.later L1).xw P1)
  refine ho H1 O1 ph1 _ σ s1 _ (P1.pre.next E1 S1) u.snd.fst (wpR_mono (wpR_bind w1) (fun x s2 w2 v2 H2 ph2 E2 S2 R2 V2 => ?_) fun e s k => ((k.later L1).xw P1).next E1)
  refine hi H2 O1 ph2 _ σ s2 _ (P1.pre.next (E1.trans E2) S2) u.snd.snd (wpR_mono (wpR_bind w2) (fun y s3 w3 v3 H3 ph3 E3 S3 R3 => ?_) fun e s k => ((k.later L1).xw P1).next (E1.trans E2))
  have E13 := E1.trans (E2.trans E3)
  have P3 := P1.next E13 S3
  have Rd := R1.next (E2.trans E3)
  have Rx := R2.next E3
  unfold setD at w3
  split at w3
  · rename_i n k
    rw [R3.int]
    obtain ⟨a, rfl, ea⟩ := Rx.ref
    split at w3
    · rename_i ds hd
      obtain ⟨b, vs, eb, _, hb, r⟩ := S3.obj n ds hd
      rw [ea] at eb
      cases eb
      split at w3
      · rename_i j hj
        obtain ⟨p4, l4⟩ := stepR P3 hd ea hb (r.set j Rd)
        exact ⟨a, vs, k, j, rfl, rfl, hb, by rw [← r.length]; exact hj, w3 σ O1 ph3 _ (L1.trans ((P1.slat E13).trans l4)) p4⟩
      · exact w3.elim
    · exact w3.elim
  · rename_i ds k
    rw [R3.int]
    split at w3
    · rename_i i hv
      split at w3
      · rename_i es he
        split at w3
        · rename_i j hj
          have eo := varOf_eq hv
          subst eo
          obtain ⟨a, vs, rfl, ha, na, r⟩ := Rx.lst
          have ev := V2 i rfl
          obtain ⟨p4, l4⟩ := stepO P3 he ev (r.set j Rd)
          exact ⟨a, vs, k, j, rfl, rfl, ha, by rw [← r.length]; exact hj, w3 σ O1 ph3 _ (L1.trans ((P1.slat E13).trans l4)) p4⟩
        · exact w3.elim
      · exact w3.elim
    · exact w3.elim
  · exact w3.elim
theorem semS_app {te to : TE} {o e : E} (ho : SemV K xr W cl to o) (he : SemE K xr W cl ro te e) : SemS K xr W cl ro (tDrop (tBM K "list" rAppend to (tCons te tNil))) (.app o e) := fun Oc H0 H O ph r σ st E P w => by
  simp only [evS] at w
  obtain ⟨O1, P1, L1⟩ := shareS (esc e ++ escB o) P
  have u := share_un2 (esc e ++ escB o) r
  refine ho H O1 ph _ σ st _ P1.pre u.snd (wpR_mono (wpR_bind w) (fun x s1 w1 v H1 ph1 E1 S1 R1 V1 => ?_) fun e s k => (k.later L1).xw P1)
  by_cases hl : isL s1 x = true
  case neg =>
    rw [if_neg hl] at w1
    exact w1.elim
  rw [if_pos hl] at w1
  refine ⟨?_, ?_⟩
  · unfold isL at hl
    split at hl
    · split at hl
      · rename_i ds hd
        obtain ⟨a, rfl, ea⟩ := R1.ref
        obtain ⟨b, vs, eb, _, hb, r⟩ := S1.obj _ ds hd
        rw [ea] at eb
        cases eb
        exact .inl ⟨rfl, vs, SqL.of hb⟩
      · cases hl
    · obtain ⟨a, vs, rfl, ha, na, r⟩ := R1.lst
      exact .inl ⟨rfl, vs, SqL.of ha⟩
    · cases hl
  · refine he H1 O1 ph1 _ σ s1 _ (P1.pre.next E1 S1) u.fst (wpR_mono (wpR_bind w1) (fun d s2 w2 v2 H2 ph2 E2 S2 R2 _ => ?_) fun e s k => ((k.later L1).xw P1).next E1)
    have E12 := E1.trans E2
    have P2 := P1.next E12 S2
    have Rx := R1.next E2
    unfold appD at w2
    split at w2
    · rename_i n
      obtain ⟨a, rfl, ea⟩ := Rx.ref
      split at w2
      · rename_i ds hd
        obtain ⟨b, vs, eb, _, hb, r⟩ := S2.obj n ds hd
        rw [ea] at eb
        cases eb
        split at w2
        · rename_i hz
          obtain ⟨p4, l4⟩ := stepR P2 hd ea hb (r.append (Reps.cons R2 Reps.nil))
          refine ⟨a, vs, v2, rfl, rfl, hb, by rw [← r.length, sizeLine_eq]; exact hz, w2 σ O1 ph2 _ (L1.trans ((P1.slat E12).trans l4)) p4⟩
        · exact w2.elim
      · exact w2.elim
    · rename_i ds
      split at w2
      · rename_i i hv
        split at w2
        · rename_i es he
          split at w2
          · rename_i hz
            have eo := varOf_eq hv
            subst eo
            obtain ⟨a, vs, rfl, ha, na, r⟩ := Rx.lst
            have ev := V1 i rfl
            obtain ⟨p4, l4⟩ := stepO P2 he ev (r.append (Reps.cons R2 Reps.nil))
            exact ⟨a, vs, v2, rfl, rfl, ha, by rw [← r.length, sizeLine_eq]; exact hz, w2 σ O1 ph2 _ (L1.trans ((P1.slat E12).trans l4)) p4⟩
          · exact w2.elim
        · exact w2.elim
      · exact w2.elim
    · exact w2.elim
theorem semS_exp {te : TE} {e : E} (he : SemB K xr W cl te e) : SemS K xr W cl ro (tDrop te) (.exp e) := fun Oc H0 H O ph r σ st E P w => by
  simp only [evS] at w
  obtain ⟨O1, P1, L1⟩ := shareS (escB e) P
  refine he H O1 ph _ σ st _ P1.pre (share_un2 _ _) (wpR_mono (wpR_bind w) (fun x s1 w1 v H1 ph1 E1 S1 R1 => ?_) fun e s k => (k.later L1).xw P1)
  exact w1 σ O1 ph1 H1 (L1.trans (P1.slat E1)) (P1.next E1 S1)
theorem semS_ite {tc : TT} {ta tb : TS} {t : T} {a b : S} (hc : SemT K xr W cl tc t) (ha : SemS K xr W cl ro ta a) (hb : SemS K xr W cl ro tb b) : SemS K xr W cl ro (tIfS tc ta tb) (.ite t a b) := fun Oc H0 H O ph r σ st E P w => by
  simp only [evS] at w
  obtain ⟨O1, P1, L1⟩ := shareS (escT t) P
  refine hc H O1 ph _ σ st _ P1.pre (share_un2 _ _) (wpR_mono (wpR_bind w) (fun c s1 w1 H1 ph1 E1 S1 => ?_) fun e s k => (k.later L1).xw P1)
  have L2 := L1.trans (P1.slat E1)
  cases c with
  | true => exact ha Oc H0 H1 O1 ph1 _ σ s1 E (P1.next E1 S1) (wpR_mono w1 (fun f s k => k.later L2) fun e s k => k.later L2)
  | false => exact hb Oc H0 H1 O1 ph1 _ σ s1 E (P1.next E1 S1) (wpR_mono w1 (fun f s k => k.later L2) fun e s k => k.later L2)
theorem semS_while {tc : TT} {tb : TS} {t : T} {b : S} (hc : SemT K xr W cl tc t) (hb : SemS K xr W cl ro tb b) : SemS K xr W cl ro (tWhile tc tb) (.while t b) := fun Oc H0 H O ph r σ st E P w => by
  simp only [evS] at w
  refine ⟨fun m σ' H' => ∃ O' ph' r' st', SLat Oc O ph H O' ph' H' ∧ PreS K Oc H0 H' O' ph' r' σ' st' ∧ wpR (whileF (escT t) (evT cl t) (evS cl ro b) m r' st') (EOk K Oc H0 O ph H E) (XS K xr W Oc O ph H), ⟨WF, O, ph, r, st, P.refl, P, w⟩, ?_⟩
  rintro m σ' H' ⟨O', ph', r', st', L, P', w'⟩
  cases m with
  | zero => exact w'.elim
  | succ n =>
    simp only [whileF] at w'
    obtain ⟨O1, P1, L1⟩ := shareS (escT t) P'
    have L01 := L.trans L1
    refine hc H' O1 ph' _ σ' st' _ P1.pre (share_un2 _ _) (wpR_mono (wpR_bind w') (fun c s1 w1 H1 ph1 E1 S1 => ?_) fun e s k => (k.later L01).xw P1)
    have L2 := L01.trans (P1.slat E1)
    have P2 := P1.next E1 S1
    cases c with
    | false => exact w1 σ' O1 ph1 H1 L2 P2
    | true =>
      refine ⟨fun σ2 H2 => ∃ O' ph' r' st', SLat Oc O ph H O' ph' H2 ∧ PreS K Oc H0 H2 O' ph' r' σ2 st' ∧ wpR (whileF (escT t) (evT cl t) (evS cl ro b) n r' st') (EOk K Oc H0 O ph H E) (XS K xr W Oc O ph H), fun σ2 H2 q => ⟨n, Nat.lt_succ_self n, q⟩, ?_⟩
      refine hb Oc H0 H1 O1 ph1 _ σ' s1 _ P2 (wpR_mono (wpR_bind w1) (fun f s w2 => ?_) fun e s k => k.later L2)
      cases f with
      | nx r2 => exact fun σ2 O2 ph2 H2 L3 P3 => ⟨O2, ph2, r2, s, L2.trans L3, P3, w2⟩
      | ct r2 => exact fun σ2 O2 ph2 H2 L3 P3 => ⟨O2, ph2, r2, s, L2.trans L3, P3, w2⟩
      | br r2 => exact fun σ2 O2 ph2 H2 L3 P3 => w2 σ2 O2 ph2 H2 (L2.trans L3) P3
      | ret o d => exact fun v O2 ph2 H2 L3 => w2 v O2 ph2 H2 (L2.trans L3)
theorem semS_for {wi : TI} {g : TG} {tb : TS} {tg : Tg} {it : I} {b : S} (hi : SemI K xr W cl wi it) (hg : SemGS K g tg) (hb : SemS K xr W cl ro tb b) : SemS K xr W cl ro (tFor wi g tb) (.for tg it b) := fun Oc H0 H O ph r σ st E P w => by
  simp only [evS] at w
  obtain ⟨O1, P1, L1⟩ := shareS (escI it) P
  refine hi H O1 ph _ σ st _ P1.pre (share_un2 _ _) (wpR_mono (wpR_bind w) (fun xs s1 w1 J H1 ph1 E1 S1 iw => ?_) fun e s k => (k.later L1).xw P1)
  have L2 := L1.trans (P1.slat E1)
  have P2 := P1.next E1 S1
  obtain ⟨G, Y, wk, hG, hY⟩ := iw
  refine for_it wk (fun i σ' H' => ∃ O' ph' r' st', SLat Oc O ph H O' ph' H' ∧ Lat O1 ph1 H1 O' ph' H' ∧ PreS K Oc H0 H' O' ph' r' σ' st' ∧ wpR (forF tg (evS cl ro b) (xs.drop i) r' st') (EOk K Oc H0 O ph H E) (XS K xr W Oc O ph H)) ?_ ?_ ?_ ?_
  · exact ⟨O1, ph1, _, s1, L2, P2.refl.lat, P2, by rw [List.drop_zero]; exact w1⟩
  · rintro i σ' H' hle ⟨O', ph', r', st', L, La, P', w'⟩
    exact hG O' ph' H' La
  · rintro i v σ' H' H3 hi ⟨O', ph', r', st', L, La, P', w'⟩ hy
    obtain ⟨no, d, hd, rd⟩ := hY O' ph' H' i v H3 La P'.pre.st_.isl hi hy
    have E3 : Ext ph' H' ph' H3 := no.ext P'.pre.st_.isl
    have S3 := P'.pre.st_.newOnly no
    rw [show xs.drop i = d :: xs.drop (i + 1) by
      obtain ⟨h, q⟩ := List.getElem?_eq_some_iff.mp hd
      rw [List.drop_eq_getElem_cons h, q]] at w'
    simp only [forF] at w'
    cases hp : putTg r' tg false d with
    | none => rw [hp] at w'; exact w'.elim
    | some r2 =>
      rw [hp] at w'
      refine hg Oc H0 H' O' ph' r' σ' st' H3 ph' st' false d v r2 _ P' E3 S3 rd (fun z => Bool.noConfusion z) hp fun σ2 O2 L4 P4 => ?_
      have L5 := L.trans L4
      have La5 := La.trans L4.lat
      refine hb Oc H0 H3 O2 ph' r2 σ2 st' _ P4 (wpR_mono (wpR_bind w') (fun f s w2 => ?_) fun e s k => k.later L5)
      cases f with
      | nx r3 => exact fun σ3 O3 ph3 H4 L6 P6 => ⟨O3, ph3, r3, s, L5.trans L6, La5.trans L6.lat, P6, w2⟩
      | ct r3 => exact fun σ3 O3 ph3 H4 L6 P6 => ⟨O3, ph3, r3, s, L5.trans L6, La5.trans L6.lat, P6, w2⟩
      | br r3 => exact fun σ3 O3 ph3 H4 L6 P6 => w2 σ3 O3 ph3 H4 (L5.trans L6) P6
      | ret o d => exact fun v O3 ph3 H4 L6 => w2 v O3 ph3 H4 (L5.trans L6)
  · rintro σ' H' ⟨O', ph', r', st', L, La, P', w'⟩
    rw [List.drop_length] at w'
    exact w' σ' O' ph' H' L P'
/-- a value that is handed back -/
theorem ret_end {own : Bool} {d : D} {v : V} {s1 : Store} (P : PreS K Oc H0 H O ph r σ st) (E1 : Ext ph H ph1 H1) (S1 : RSt K H1 O ph1 s1) (R1 : Rep K H1 O ph1 d v) (F1 : FrV K own H O ph1 H1 s1 d v) : RSt K H1 Oc ph1 s1 ∧ Rep K H1 Oc ph1 d v ∧ FrV K own H0 Oc ph1 H1 s1 d v := by
  refine ⟨S1.less P.sub, rep_less S1.isl P.sub R1, fun b ds e => ?_⟩
  obtain ⟨a, vs, e1, e2, e3, e4, e5⟩ := F1 b ds e
  have less : ∀ x, (Oc x ∨ x = a) → (O x ∨ x = a) := fun x h => h.imp (P.sub x) id
  exact ⟨a, vs, e1, P.entFree e2, e3, e4.less less, Reps.ext (Ext.refl S1.isl) less _ _ e5⟩
theorem semS_ret {te : TE} {e : E} (he : SemE K xr W cl ro te e) (hn : varOf e = none) : SemS K xr W cl ro (tRet te) (.ret e) := fun Oc H0 H O ph r σ st E P w => by
  simp only [evS, hn] at w
  obtain ⟨O1, P1, L1⟩ := shareS (esc e) P
  refine he H O1 ph _ σ st _ P1.pre (share_un2 _ _) (wpR_mono (wpR_bind w) (fun d s1 w1 v H1 ph1 E1 S1 R1 F1 => ?_) fun e s k => (k.later L1).xw P1)
  obtain ⟨h1, h2, h3⟩ := ret_end P1 E1 S1 R1 F1
  exact w1 v O1 ph1 H1 (L1.trans (P1.slat E1)) h1 h2 h3
theorem semS_retVar (i : Nat) : SemS K xr W cl ro (tRet (tVar i)) (.ret (.var i)) := fun Oc H0 H O ph r σ st E P w => by
  simp only [evS, varOf] at w
  have shared : ∀ d v, σ[i]? = some (some v) → Rep K H O ph d v → ∀ own, (∀ ds, d ≠ .lst ds ∨ own = false) → EOk K Oc H0 O ph H E (.ret own d) st → tRet (tVar i) E σ H := fun d v e1 e2 own e3 k =>
    ⟨v, e1, k v O ph H P.refl (P.pre.st_.less P.sub) (rep_less P.pre.st_.isl P.sub e2) fun b ds e => by
      rcases e3 ds with z | z
      · exact absurd e z
      · rw [z] at b; cases b⟩
  have q := P.pre.env i
  split at w
  · rename_i d hd
    rw [hd] at q
    cases d with
    | lst ds =>
      obtain ⟨a, vs, e1, hO, h2, h3, h4⟩ := q
      have nOc : ¬ Oc a := P.apart ⟨ds, hd⟩ e1
      have less : ∀ x, (Oc x ∨ x = a) → O x := fun x h => h.elim (P.sub x) fun z => by rw [z]; exact hO
      refine ⟨_, e1, w _ O ph H P.refl (P.pre.st_.less P.sub) ?_ fun _ es e => ?_⟩
      · simp only [Rep]
        exact ⟨a, vs, rfl, h2, nOc, h3, Reps.ext (Ext.refl P.pre.st_.isl) P.sub _ _ h4⟩
      · cases e
        exact ⟨a, vs, rfl, P.fr i a ⟨ds, hd⟩ e1, h2, P.pre.st_.less less, Reps.ext (Ext.refl P.pre.st_.isl) less _ _ h4⟩
    | non => obtain ⟨v, e1, e2⟩ := q; exact shared _ v e1 e2 _ (fun ds => .inl (fun z => by cases z)) w
    | bl _ => obtain ⟨v, e1, e2⟩ := q; exact shared _ v e1 e2 _ (fun ds => .inl (fun z => by cases z)) w
    | int _ => obtain ⟨v, e1, e2⟩ := q; exact shared _ v e1 e2 _ (fun ds => .inl (fun z => by cases z)) w
    | str _ => obtain ⟨v, e1, e2⟩ := q; exact shared _ v e1 e2 _ (fun ds => .inl (fun z => by cases z)) w
    | tup _ => obtain ⟨v, e1, e2⟩ := q; exact shared _ v e1 e2 _ (fun ds => .inl (fun z => by cases z)) w
    | rol _ => obtain ⟨v, e1, e2⟩ := q; exact shared _ v e1 e2 _ (fun ds => .inl (fun z => by cases z)) w
    | ref _ => obtain ⟨v, e1, e2⟩ := q; exact shared _ v e1 e2 _ (fun ds => .inl (fun z => by cases z)) w
  · rename_i d hd
    rw [hd] at q
    obtain ⟨v, e1, e2⟩ := q
    exact shared d v e1 e2 false (fun ds => .inr rfl) w
  · exact w.elim
/-- a name that is handed back, its reading told by its slot -/
theorem semS_retV {t : TE} (i : Nat) (ht : SemV K xr W cl t (.var i)) : SemS K xr W cl ro (tRet t) (.ret (.var i)) := fun Oc H0 H O ph r σ st E P w => by
  have h := semS_retVar (K := K) (xr := xr) (W := W) (cl := cl) (ro := ro) i
  simp only [evS, varOf] at w
  cases hs : getS r i with
  | no => rw [hs] at w; exact w.elim
  | sh d =>
    refine ht H O ph r σ st E.rt P.pre (fun j hj => by simp [escB] at hj) ?_
    simp only [evE, hs]
    intro v H' ph' e s _ hv
    have P' := P.next e s
    have q := h Oc H0 H' O ph' r σ st E P' (by simp only [evS, varOf, hs]; rw [hs] at w; exact EOk.later (f := .ret false d) (show EOk K Oc H0 O ph H E (.ret false d) st from w) (P.slat e))
    obtain ⟨v', e1, q⟩ := q
    rw [hv i rfl] at e1
    cases e1
    exact q
  | own d =>
    refine ht H O ph r σ st E.rt P.pre (fun j hj => by simp [escB] at hj) ?_
    simp only [evE, hs]
    intro v H' ph' e s _ hv
    have P' := P.next e s
    have q := h Oc H0 H' O ph' r σ st E P' (by simp only [evS, varOf, hs]; rw [hs] at w; exact EOk.later (f := .ret true d) (show EOk K Oc H0 O ph H E (.ret true d) st from w) (P.slat e))
    obtain ⟨v', e1, q⟩ := q
    rw [hv i rfl] at e1
    cases e1
    exact q
theorem semS_retN : SemS K xr W cl ro tRetN .retN := fun Oc H0 H O ph r σ st E P w => w .non O ph H P.refl (P.pre.st_.less P.sub) rep_non (fun _ _ z => by cases z)
theorem semS_brk : SemS K xr W cl ro tBreak .brk := fun Oc H0 H O ph r σ st E P w => w σ O ph H P.refl P
theorem semS_cont : SemS K xr W cl ro tCont .cont := fun Oc H0 H O ph r σ st E P w => w σ O ph H P.refl P
end
end PyE

/-! Dicts whose keys are tuples of numbers and texts. -/
namespace PyE
open PySem PySem.Spec PyProof.Rows L2
section
variable {K : PySem.W.Frag} {H : Hp} {O : Addr → Prop} {ph : List Addr}
theorem keyD_v {d : D} {v : V} {k : Key} (h : keyD d = some k) (r : Rep K H O ph d v) : v = kV k := by
  cases d <;> simp only [keyD, reduceCtorEq, Option.some.injEq] at h
  · subst h
    exact r
  · subst h
    exact r
theorem keysD_v : ∀ {ds : List D} {vs : List V} {k : List Key}, keysD ds = some k → Reps K H O ph ds vs → vs = k.map kV
  | [], vs, k, h, r => by
    simp only [keysD, Option.some.injEq] at h
    subst h
    simp only [Reps] at r
    exact r
  | d :: ds, vs, k, h, r => by
    simp only [Reps] at r
    obtain ⟨v, ws, rfl, r1, r2⟩ := r
    simp only [keysD] at h
    split at h
    · rename_i j ks h1 h2
      cases h
      rw [keyD_v h1 r1, keysD_v h2 r2]
      rfl
    · cases h
theorem valD_v (k : List Key) : ∀ {kvs : List (List Key × D)} {xs : List (List Key × V)} {d : D}, valD kvs k = some d → RepK K H O ph kvs xs → ∃ v, valV xs k = some v ∧ Rep K H O ph d v
  | [], xs, d, h, r => by cases h
  | (j, e) :: l, xs, d, h, r => by
    obtain ⟨v, ys, rfl, r1, r2⟩ := r
    by_cases q : j = k
    · have : valD ((j, e) :: l) k = some e := by simp [valD, List.find?_cons, q]
      rw [this] at h
      cases h
      exact ⟨v, valV_pos q, r1⟩
    · have : valD ((j, e) :: l) k = valD l k := by simp [valD, List.find?_cons, q]
      rw [this] at h
      obtain ⟨w, h1, h2⟩ := valD_v k h r2
      exact ⟨w, by rw [valV_neg q]; exact h1, h2⟩
theorem RepK.any (k : List Key) : ∀ {kvs : List (List Key × D)} {xs : List (List Key × V)}, RepK K H O ph kvs xs → (xs.any fun kv => decide (kv.1 = k)) = (kvs.any fun kv => decide (kv.1 = k))
  | [], xs, r => by
    obtain rfl : xs = [] := r
    rfl
  | (j, e) :: l, xs, r => by
    obtain ⟨v, ys, rfl, r1, r2⟩ := r
    simp only [List.any_cons, RepK.any k r2]
theorem RepK.repl (k : List Key) {d : D} {v : V} (rd : Rep K H O ph d v) : ∀ {kvs : List (List Key × D)} {xs : List (List Key × V)}, RepK K H O ph kvs xs → RepK K H O ph (kvs.map (fun kv => if kv.1 = k then (kv.1, d) else kv)) (xs.map fun kv => if kv.1 = k then (kv.1, v) else kv)
  | [], xs, r => by
    obtain rfl : xs = [] := r
    rfl
  | (j, e) :: l, xs, r => by
    obtain ⟨w, ys, rfl, r1, r2⟩ := r
    simp only [List.map_cons]
    by_cases q : j = k
    · simp only [q, if_true]
      exact ⟨v, _, rfl, rd, RepK.repl k rd r2⟩
    · simp only [q, if_false]
      exact ⟨w, _, rfl, r1, RepK.repl k rd r2⟩
theorem RepK.snoc (k : List Key) {d : D} {v : V} (rd : Rep K H O ph d v) : ∀ {kvs : List (List Key × D)} {xs : List (List Key × V)}, RepK K H O ph kvs xs → RepK K H O ph (kvs ++ [(k, d)]) (xs ++ [(k, v)])
  | [], xs, r => by
    obtain rfl : xs = [] := r
    exact ⟨v, [], rfl, rd, rfl⟩
  | (j, e) :: l, xs, r => by
    obtain ⟨w, ys, rfl, r1, r2⟩ := r
    exact ⟨w, _, rfl, r1, RepK.snoc k rd r2⟩
theorem RepK.put (k : List Key) {d : D} {v : V} (rd : Rep K H O ph d v) {kvs : List (List Key × D)} {xs : List (List Key × V)} (r : RepK K H O ph kvs xs) : RepK K H O ph (putD kvs k d) (putK xs k v) := by
  unfold putD putK
  rw [RepK.any k r]
  split
  · exact RepK.repl k rd r
  · exact RepK.snoc k rd r
theorem RepK.length {κ : Type} : ∀ {kvs : List (κ × D)} {xs : List (κ × V)}, RepK K H O ph kvs xs → kvs.length = xs.length
  | [], xs, r => by
    obtain rfl : xs = [] := r
    rfl
  | (j, e) :: l, xs, r => by
    obtain ⟨w, ys, rfl, r1, r2⟩ := r
    simp [RepK.length r2]
end
section
variable {K : PySem.W.Frag} {xr : Xc → Value → Option Addr → Hp → Prop} {W : WX} {cl : Nat → List D → Store → Res D} {ro : Nat → Bool}
theorem sem_newd : SemE K xr W cl ro tDNewT .newd := fun H O ph r σ st Q P u w => by
  simp only [evE] at w
  intro p hp
  obtain ⟨e, s⟩ := P.st_.pushB P.odom hp (b := .dic []) (o := .dT []) ⟨[], rfl, rfl⟩
  refine w _ _ _ e s ?_ (fun _ _ z => by cases z)
  simp only [Rep]
  refine ⟨p, rfl, ?_⟩
  rw [List.getElem?_append_right (by rw [P.st_.len]; exact Nat.le_refl _), P.st_.len, Nat.sub_self]
  rfl
theorem dgtD_ok {st : Store} {x d : D} {ds : List D} (h : dgtD st x ds = some d) : ∃ n kvs k, x = .ref n ∧ st[n]? = some (.dic kvs) ∧ keysD ds = some k ∧ valD kvs k = some d := by
  unfold dgtD at h
  split at h
  · rename_i n
    split at h
    · rename_i kvs e
      obtain ⟨k, h1, h2⟩ := Option.bind_eq_some_iff.mp h
      exact ⟨n, kvs, k, rfl, e, h1, h2⟩
    · cases h
  · cases h
theorem RSt.dic {H : Hp} {O : Addr → Prop} {ph : List Addr} {st : Store} (s : RSt K H O ph st) {n : Nat} {kvs : List (List Key × D)} {v : V} (e : st[n]? = some (.dic kvs)) (r : Rep K H O ph (.ref n) v) : ∃ a xs, v = .ref a ∧ ph[n]? = some a ∧ H a = some (.dT xs) ∧ RepK K H O ph kvs xs := by
  simp only [Rep] at r
  obtain ⟨a, rfl, ea⟩ := r
  obtain ⟨b, o, eb, _, hb, xs, rfl, q⟩ := s.ob n _ e
  rw [ea] at eb
  cases eb
  exact ⟨a, xs, rfl, ea, hb, q⟩
theorem sem_dgt {ta : TE} {te : TA} {a : E} {es : Es} (ha : SemB K xr W cl ta a) (he : SemEs K xr W cl te es) : SemE K xr W cl ro (tDGet ta (tTup te)) (.dgt a es) := fun H O ph r σ st Q P u w => by
  simp only [esc, topv, escB, List.nil_append] at u
  simp only [evE] at w
  refine ha H O ph r σ st _ P u.fst (wpR_mono (wpR_bind w) (fun x s1 w1 v1 H1 ph1 E1 S1 R1 => ?_) fun _ _ z => z)
  refine he H1 O ph1 r σ s1 _ (P.next E1 S1) u.snd (wpR_mono (wpR_bind w1) (fun ds s2 w2 vs H2 ph2 E2 S2 R2 => ?_) fun _ _ z => z.next E1)
  split at w2
  · rename_i hl
    obtain ⟨d, hd, k⟩ := wpR_ofO w2
    obtain ⟨n, kvs, ks, rfl, e1, e2, e3⟩ := dgtD_ok hd
    have R1' : Rep K H2 O ph2 (.ref n) v1 := RepB.next R1 E2
    obtain ⟨b, xs, rfl, _, hb, rk⟩ := S2.dic e1 R1'
    obtain ⟨v, g1, g2⟩ := valD_v ks e3 rk
    refine ⟨by rw [← R2.length]; exact sz_ok hl, fun p hp => ⟨b, v, rfl, ?_, ?_⟩⟩
    · have q := DGet.t (H := upd H2 p (.tup vs)) (a := b) (b := p) (kvs := xs) (k := ks) (by rw [upd_ne (ne_of_none hb hp)]; exact hb) (by rw [upd_same, keysD_v e2 R2])
      rw [g1] at q
      exact q
    · have E3 := Ext.new S2.isl hp (.tup vs)
      exact k _ _ ph2 ((E1.trans E2).trans E3) (S2.new hp _) (g2.next E3) (fun z => Bool.noConfusion z)
  · exact w2.elim
theorem semS_dput {tv td : TE} {te : TA} {o e : E} {es : Es} (hv : SemE K xr W cl ro tv e) (ho : SemB K xr W cl td o) (he : SemEs K xr W cl te es) : SemS K xr W cl ro (sDPut td (tTup te) tv) (.dput o es e) := fun Oc H0 H O ph r σ st E P w => by
  simp only [evS] at w
  obtain ⟨O1, P1, L1⟩ := shareS (esc e ++ (escB o ++ escs es)) P
  have u := share_un2 (esc e ++ (escB o ++ escs es)) r
  refine hv H O1 ph _ σ st _ P1.pre u.fst (wpR_mono (wpR_bind w) (fun d s1 w1 v H1 ph1 E1 S1 R1 _ => ?_) fun e s k => (k.later L1).xw P1)
  refine ho H1 O1 ph1 _ σ s1 _ (P1.pre.next E1 S1) u.snd.fst (wpR_mono (wpR_bind w1) (fun x s2 w2 v2 H2 ph2 E2 S2 R2 => ?_) fun e s k => ((k.later L1).xw P1).next E1)
  refine he H2 O1 ph2 _ σ s2 _ (P1.pre.next (E1.trans E2) S2) u.snd.snd (wpR_mono (wpR_bind w2) (fun ds s3 w3 vs H3 ph3 E3 S3 R3 => ?_) fun e s k => ((k.later L1).xw P1).next (E1.trans E2))
  have E13 := E1.trans (E2.trans E3)
  have Rd := R1.next (E2.trans E3)
  unfold dputD at w3
  split at w3
  · rename_i n
    have Rx : Rep K H3 O1 ph3 (.ref n) v2 := RepB.next R2 E3
    split at w3
    · rename_i kvs hk
      split at w3
      · rename_i ks ek
        split at w3
        · rename_i hl
          refine ⟨by rw [← R3.length]; exact sz_ok hl.2, fun p hp => ?_⟩
          have E4 := Ext.new S3.isl hp (.tup vs)
          have S4 := S3.new hp (.tup vs)
          obtain ⟨b, xs, rfl, eb, hb, rk⟩ := S4.dic hk (Rx.next E4)
          have E14 := E13.trans E4
          have P4 := P1.next E14 S4
          obtain ⟨p5, l5⟩ := stepB P4 (b := .dic (putD kvs ks d)) (o := .dT (putK xs ks v)) hk eb ⟨_, rfl, RepK.put ks (Rd.next E4) rk⟩
          refine ⟨b, _, rfl, DPut.t hb (by rw [upd_same, keysD_v ek R3]) (by rw [← rk.length]; exact (by rw [sizeLine_eq]; exact hl.1)), w3 σ O1 ph3 _ (L1.trans ((P1.slat E14).trans l5)) p5⟩
        · exact w3.elim
      · exact w3.elim
    · exact w3.elim
  · exact w3.elim
end
end PyE

/-! Fields stored; exceptions raised and caught. -/
namespace PyE
open PySem PySem.Spec PyProof.Rows L2
/-- an exception of the class x, without a dict -/
def xrK (K : PySem.W.Frag) : Xc → Value → Option Addr → Hp → Prop := fun e cls od _ => cls = .ref (He.ga K e.cls) ∧ od = none
section
variable {K : PySem.W.Frag} {H : Hp} {O : Addr → Prop} {ph : List Addr}
theorem setF_len (f : Str) (d : D) : ∀ fs : List (Str × D), (setF f d fs).length ≤ fs.length + 1
  | [] => by simp [setF]
  | (g, e) :: r => by
    simp only [setF]
    split
    · simp
    · have := setF_len f d r
      simp only [List.length_cons]
      omega
theorem RepK.setF (f : Str) {d : D} {v : V} (rd : Rep K H O ph d v) : ∀ {fs : List (Str × D)} {xs : List (Str × V)}, RepK K H O ph fs xs → RepK K H O ph (PyE.setF f d fs) (putF f v xs)
  | [], xs, h => by
    obtain rfl : xs = [] := h
    exact ⟨v, [], rfl, rd, rfl⟩
  | (g, e) :: r, xs, h => by
    obtain ⟨w, ys, rfl, h1, h2⟩ := h
    have ih := RepK.setF f rd h2
    simp only [PyE.setF, putF]
    by_cases q : g = f
    · rw [if_pos q, if_pos q]
      exact ⟨v, ys, rfl, rd, h2⟩
    · rw [if_neg q, if_neg q]
      exact ⟨w, _, rfl, h1, ih⟩
end
section
variable {K : PySem.W.Frag} {xr : Xc → Value → Option Addr → Hp → Prop} {W : WX} {cl : Nat → List D → Store → Res D} {ro : Nat → Bool} {H0 H H1 H2 : Hp} {Oc O O1 O2 : Addr → Prop} {ph ph1 ph2 : List Addr} {st st1 : Store} {r r1 : Env} {σ : L2.St}
theorem semS_never {t : TS} : SemS K xr W cl ro t .never := fun Oc H0 H O ph r σ st E P w => (show False from w).elim
theorem fsetD_ok {r : Env} {s : Store} {x d : D} {c f : Str} {k : Flow → Store → Prop} {kx : Xc → Store → Prop} (w : wpR (fsetD r s x c f d) k kx) : ∃ n fs, x = .ref n ∧ s[n]? = some (.ins c fs) ∧ fs.length < 1000 ∧ k (.nx r) (s.set n (.ins c (setF f d fs))) := by
  unfold fsetD at w
  split at w
  · rename_i n
    split at w
    · rename_i c' fs e
      split at w
      · rename_i q
        obtain ⟨rfl, hl⟩ := q
        exact ⟨n, fs, rfl, e, hl, w⟩
      · exact w.elim
    · exact w.elim
  · exact w.elim
theorem semS_fset {te ta : TE} {c f : Str} {a e : E} (hc : Cls K (He.ga K c)) (hn : NoAttr K (He.ga K c) f) (he : SemE K xr W cl ro te e) (ha : SemB K xr W cl ta a) : SemS K xr W cl ro (sFld K ta te f) (.fset c a f e) := fun Oc H0 H O ph r σ st E P w => by
  simp only [evS] at w
  obtain ⟨O1, P1, L1⟩ := shareS (esc e ++ escB a) P
  have u := share_un2 (esc e ++ escB a) r
  refine he H O1 ph _ σ st _ P1.pre u.fst (wpR_mono (wpR_bind w) (fun d s1 w1 v H1 ph1 E1 S1 R1 _ => ?_) fun e s k => (k.later L1).xw P1)
  refine ha H1 O1 ph1 _ σ s1 _ (P1.pre.next E1 S1) u.snd (wpR_mono (wpR_bind w1) (fun x s2 w2 v2 H2 ph2 E2 S2 R2 => ?_) fun e s k => ((k.later L1).xw P1).next E1)
  obtain ⟨n, fs, rfl, e1, hl, k⟩ := fsetD_ok w2
  have E12 := E1.trans E2
  have P2 := P1.next E12 S2
  obtain ⟨b, dx, xs, rfl, eb, hb, rk⟩ := S2.ins e1 (show Rep K H2 O1 ph2 (.ref n) v2 from R2)
  obtain ⟨p4, l4⟩ := stepB P2 (b := .ins c (setF f d fs)) (o := .ins (He.ga K c) dx (putF f v xs)) e1 eb ⟨dx, _, rfl, RepK.setF f (R1.next E2) rk⟩
  exact ⟨b, _, dx, xs, rfl, hb, hc, hn, by rw [← rk.length]; exact hl, k σ O1 ph2 _ (L1.trans ((P1.slat E12).trans l4)) p4⟩
theorem in_aug {X : Cx} (o : B) : InOp X (opOf o) (rAug o) := fun pins s σ H x y u v Q I rx ry h => ip_aug o pins s σ H x y u v Q I rx ry h
theorem semS_faug {te ta : TE} {c f : Str} {a e : E} (o : B) (hc : Cls K (He.ga K c)) (hn : NoAttr K (He.ga K c) f) (he : SemB K xr W cl te e) (ha : SemB K xr W cl ta a) : SemS K xr W cl ro (sFldAug K ta te (rAug o) f) (.faug c a f o e) := fun Oc H0 H O ph r σ st E P w => by
  simp only [evS] at w
  obtain ⟨O1, P1, L1⟩ := shareS (escB e ++ escB a) P
  have u := share_un2 (escB e ++ escB a) r
  refine ha H O1 ph _ σ st _ P1.pre u.snd (wpR_mono (wpR_bind w) (fun x s1 w1 v1 H1 ph1 E1 S1 R1 => ?_) fun e s k => (k.later L1).xw P1)
  obtain ⟨v, hv, w2⟩ := wpR_ofO (wpR_bind w1)
  obtain ⟨n, fs, rfl, e1, e2⟩ := fldD_ok hv
  obtain ⟨b, dx, xs, rfl, eb, hb, rk⟩ := S1.ins e1 (show Rep K H1 O1 ph1 (.ref n) v1 from R1)
  obtain ⟨y, g1, g2⟩ := (rk.lookup f).1 v e2
  refine ⟨b, _, dx, xs, y, rfl, hb, hc, hn, g1, ?_⟩
  refine he H1 O1 ph1 _ σ s1 _ (P1.pre.next E1 S1) u.fst (wpR_mono (wpR_bind w2) (fun z s2 w3 v2 H2 ph2 E2 S2 R2 => ?_) fun e s k => ((k.later L1).xw P1).next E1)
  obtain ⟨d, hd, w4⟩ := wpR_ofO (wpR_bind w3)
  refine aug_ok hd (g2.next E2).toB R2 fun z' rz => ?_
  obtain ⟨n', fs', en, e1', hl, k⟩ := fsetD_ok w4
  cases en
  have E12 := E1.trans E2
  have P2 := P1.next E12 S2
  have Rn : Rep K H2 O1 ph2 (.ref n) (.ref b) := by
    have q : Rep K H1 O1 ph1 (.ref n) (.ref b) := R1
    exact q.next E2
  obtain ⟨b', dx', xs', eq, eb', hb', rk'⟩ := S2.ins e1' Rn
  cases eq
  obtain ⟨p4, l4⟩ := stepB P2 (b := .ins c (setF f d fs')) (o := .ins (He.ga K c) dx' (putF f z' xs')) e1' eb' ⟨dx', _, rfl, RepK.setF f rz rk'⟩
  exact ⟨dx', xs', hb', by rw [← rk'.length]; exact hl, k σ O1 ph2 _ (L1.trans ((P1.slat E12).trans l4)) p4⟩
theorem semS_raise {t : TA} {c : Str} {C : Addr} {es : Es} (hx : ∀ ds H, xr ⟨c, ds⟩ (.ref C) none H) (h : SemEs K xr W cl t es) : SemS K xr W cl ro (fun _ σ H => t σ H fun vs H1 => vs.length ≤ sizeLine ∧ W (.ref C) none σ H1) (.raise c es) := fun Oc H0 H O ph r σ st E P w => by
  simp only [evS] at w
  obtain ⟨O1, P1, L1⟩ := shareS (escs es) P
  refine h H O1 ph _ σ st _ P1.pre (share_un2 _ _) (wpR_mono (wpR_bind w) (fun ds s1 w1 vs H1 ph1 E1 S1 R1 => ?_) fun e s k => (k.later L1).xw P1)
  split at w1
  · rename_i hl
    exact ⟨by rw [← R1.length]; exact sz_ok hl, w1 (.ref C) none σ H1 O1 ph1 (L1.trans (P1.slat E1)) (S1.less P1.sub) (hx ds H1)⟩
  · exact w1.elim
/-- try: .., except c: return a constant -/
theorem semS_tryR {tb : WX → TS} {ts : Addr → Value → Option Addr → TS} {c : Str} {cv : Value} {d : D} {v : V} {b : S} (hd : ∀ (H : Hp) (O : Addr → Prop) (ph : List Addr), Rep K H O ph d v) (hl : ∀ ds, d ≠ .lst ds)
    (hx : ∀ e cls od H, xr e cls od H → e.cls = c → PySem.W.exmOne K cls cv = some true) (hts : ∀ a cls od D σ H, D.rt v H → ts a cls od D σ H) (hb : ∀ W, SemS K xr W cl ro (tb W) b) :
    SemS K xr W cl ro (fun D σ H => tb (wOnly K cv ts W D) D σ H) (.tryR b c d) := fun Oc H0 H O ph r σ st E P w => by
  simp only [evS] at w
  refine hb _ Oc H0 H O ph r σ st E P ?_
  cases hv : evS cl ro b r st with
  | bad => rw [hv] at w; exact w
  | ok f s => rw [hv] at w; exact w
  | exc x s =>
    rw [hv] at w
    simp only at w
    split at w
    · rename_i hc
      intro cls od σ' H' O' ph' L S q
      refine ⟨true, hx x cls od H' q hc, fun _ a na => hts a cls od E σ' H' ?_, fun z => Bool.noConfusion z⟩
      exact w v O' ph' H' L S (hd H' Oc ph') fun z => Bool.noConfusion z
    · exact w.elim
end
end PyE

/-! How a def's text is read into the small language. -/
namespace PyE
open PySem
/-- what a global name is: a def by its number and parameters, a constant, a built-in (no global of the module) -/
inductive Gl where
  | fn (i np : Nat) | con (d : D) | blt
  | exc | cls (i np : Nat) | fld (c f : Str) | meth (c m : Str) (i np : Nat)
/-- the key of an attribute in the table of names -/
def dot (f : Str) : Str := ⟨#[46] ++ f.cps⟩
/-- what is known where a text stands: the slots' names, the scope, names whose cells the frame made, globals, the rows on which a list display has an identity -/
structure Cc where
  N : List Str
  sc : Scope
  fnb : Option Scope
  gl : List (Str × Gl)
  nl : List Nat
def ixOf : List Str → Str → Nat → Option Nat
  | [], _, _ => none
  | y :: r, x, k => if y == x then some k else ixOf r x (k + 1)
def nameOk (x : Str) : Bool := !(x == ("__debug__" : Str)) && !(x == ("__classdict__" : Str)) && !(x == ("__name__" : Str))
def visB (sc : Scope) (x : Str) : Bool := match sc.names.lookup x with | some .local => true | some .cell => true | some .free => true | _ => false
def locB (c : Cc) (x : Str) : Bool := match c.sc.names.lookup x with
  | some .local => true
  | some .cell => match c.fnb with
    | none => true
    | some s => s.names.lookup x == some .cell
  | _ => false
def globB (sc : Scope) (x : Str) : Bool := match sc.names.lookup x with | some .globalImplicit => true | _ => false
def isComp : Expr → Bool
  | .ListComp .. => true | .SetComp .. => true | .DictComp .. => true
  | _ => false
/-- an expression whose test is its truth -/
def plainT : Expr → Bool
  | .UnaryOp .. => false | .BoolOp .. => false | .IfExp .. => false | .Compare .. => false
  | _ => true
def isSlice : Expr → Bool
  | .Slice .. => true
  | _ => false
def isSetD : Expr → Bool
  | .Set .. => true
  | _ => false
/-- an object whose method is looked up in the plain way -/
def recvOk : Expr → Bool
  | .Name .. => true | .Subscript .. => true | .Attribute .. => true | .Constant .. => true
  | _ => false
def isStar : Expr → Bool
  | .Starred .. => true
  | _ => false
def bOf : Operator → Option B
  | .Add => some .add | .Sub => some .sub | .Mult => some .mul | .FloorDiv => some .fdiv | .Mod => some .mod | .Pow => some .pow
  | _ => none
def cOf : CmpOp → Option C
  | .Eq => some .eq | .NotEq => some .ne | .Lt => some .lt | .LtE => some .le | .Gt => some .gt | .GtE => some .ge | .Is => some .is | .IsNot => some .isnot | .In => some .inn | .NotIn => some .notin
def tyOf (x : Str) : Option Ty := if x == ("int" : Str) then some .int else if x == ("bool" : Str) then some .bool else if x == ("str" : Str) then some .str else if x == ("tuple" : Str) then some .tuple else if x == ("list" : Str) then some .list else none
def fOfB (x : Str) (n : Nat) : Option F :=
  if x == ("min" : Str) then if n = 2 then some .min2 else none
  else if x == ("max" : Str) then if n = 2 then some .max2 else none
  else if x == ("str" : Str) then if n = 1 then some .str else none
  else none
def fOf (x : Str) (n : Nat) : Option F :=
  if x == ("len" : Str) then if n = 1 then some .len else none
  else if x == ("sum" : Str) then if n = 1 then some .sum else none
  else if x == ("abs" : Str) then if n = 1 then some .abs else none
  else if x == ("int" : Str) then if n = 1 then some .int else none
  else if x == ("tuple" : Str) then if n = 1 then some .tuple else none
  else if x == ("list" : Str) then if n = 1 then some .list else none
  else if x == ("all" : Str) then if n = 1 then some .all else none
  else if x == ("any" : Str) then if n = 1 then some .any else none
  else fOfB x n
def isBlt (c : Cc) (x : Str) : Bool := globB c.sc x && nameOk x && (match c.gl.lookup x with | some .blt => true | _ => false)
/-- a comprehension's own names with their slots -/
def ownOf (N : List Str) : List (Str × NameKind) → Option (List (Str × Nat))
  | [] => some []
  | (x, k) :: r => match k with
    | .local => (match ixOf N x 0 with | some i => (ownOf N r).map ((x, i) :: ·) | none => ownOf N r)
    | .cell => (match ixOf N x 0 with | some i => (ownOf N r).map ((x, i) :: ·) | none => ownOf N r)
    | _ => ownOf N r
def cTgs (c : Cc) : List Expr → Option (List Nat)
  | [] => some []
  | .Name x _ :: r => match ixOf c.N x 0 with
    | some i => if locB c x then (cTgs c r).map (i :: ·) else none
    | none => none
  | _ :: _ => none
def cTg (c : Cc) : Expr → Option Tg
  | .Name x _ => match ixOf c.N x 0 with
    | some i => if locB c x then some (.name i) else none
    | none => none
  | .Tuple es _ _ => (cTgs c es).map .tup
  | _ => none
def isTupE : Expr → Bool
  | .Tuple .. => true
  | _ => false
def slotsOf : Tg → List Nat
  | .name i => [i]
  | .tup is => is
def nodupB : List Str → Bool
  | [] => true
  | x :: r => !r.contains x && nodupB r
mutual
def cE : Nat → Cc → Expr → Option E
  | 0, _, _ => none
  | n + 1, c, e => match e with
    | .Name x _ => if nameOk x then (match ixOf c.N x 0 with
        | some i => if visB c.sc x then some (.var i) else none
        | none => if globB c.sc x then (match c.gl.lookup x with | some (.con d) => some (.con d) | _ => none) else none) else none
    | .Constant k _ _ => match k with
        | .int i => some (.con (.int i))
        | .bool b => some (.con (.bl b))
        | .none => some (.con .non)
        | .str s => some (.con (.str s.cps.toList))
        | _ => none
    | .BinOp a o b _ => match bOf o, cE n c a, cE n c b with
        | some o, some a, some b => some (.bin o a b)
        | _, _, _ => none
    | .UnaryOp o a _ => match o with
        | .USub => (cE n c a).map .neg
        | .Not => (cE n c a).map .notv
        | _ => none
    | .Compare a [o] [b] _ => if isSetD b then none else match cOf o, cE n c a, cE n c b with
        | some o, some a, some b => some (.cmp o a b)
        | _, _, _ => none
    | .Compare a [o, p] [b, d] _ => if isSetD b || isSetD d then none else match cOf o, cOf p, cE n c a, cE n c b, cE n c d with
        | some o, some p, some a, some b, some d => some (.chain o p a b d)
        | _, _, _, _, _ => none
    | .BoolOp o es _ => cV n c o es
    | .IfExp t a b _ => match cT n c t, cE n c a, cE n c b with
        | some t, some a, some b => some (.ite t a b)
        | _, _, _ => none
    | .Tuple es _ _ => (cEs n c es).map .tup
    | .List es p => (cEs n c es).map fun es => if c.nl.contains p.line then .newl es else .lst es
    | .Dict [] [] _ => some .newd
    | .Attribute a f _ => match c.gl.lookup (dot f) with
      | some (.fld cn g) => if g == f && recvOk a then (cE n c a).map fun a => .fld cn a f else none
      | _ => none
    | .Subscript a (.Tuple es _ _) _ => match cE n c a, cEs n c es with
        | some a, some es => some (.dgt a es)
        | _, _ => none
    | .Subscript a (.Slice lo hi none _) _ => match cE n c a, cO n c lo, cO n c hi with
        | some a, some lo, some hi => some (.slc a lo hi)
        | _, _, _ => none
    | .Subscript a (.Slice none none (some (.UnaryOp .USub (.Constant (.int 1) _ _) _)) _) _ => (cE n c a).map .rev
    | .Subscript a i _ => if isSlice i then none else match cE n c a, cE n c i with
        | some a, some i => some (.idx a i)
        | _, _ => none
    | .Call (.Attribute o m ap) args [] cp => if m == ("join" : Str) then (match args with
          | [e] => if !isStar e && ap.endLine == cp.line && recvOk o then (match cE n c o, cE n c e with
            | some o, some e => some (.join o e)
            | _, _ => none) else none
          | _ => none)
        else match c.gl.lookup (dot m) with
          | some (.meth cn m' i np) => if m' == m && args.length + 1 == np && recvOk o && ap.endLine == cp.line && decide (args.length < 30) then (match cE n c o, cEs n c args with
            | some o, some es => some (.meth cn i m o es)
            | _, _ => none) else none
          | _ => none
    | .Call (.Name f _) args [] _ => match args with
        | [] => if globB c.sc f && nameOk f then (match c.gl.lookup f with
          | some (.fn i np) => if np = 0 then some (.call i .nil) else none
          | some (.cls i np) => if np = 1 then some (.make f i .nil) else none
          | _ => none) else none
        | a :: rest => if globB c.sc f && nameOk f then
          match c.gl.lookup f with
          | some (.fn i np) => if args.length = np then (cEs n c (a :: rest)).map (.call i) else none
          | some (.cls i np) => if args.length + 1 = np then (cEs n c (a :: rest)).map (.make f i) else none
          | some .blt => if f == ("isinstance" : Str) then (match rest with
              | [.Name t _] => if isBlt c t && !isStar a then (match cE n c a, tyOf t with
                | some a, some t => some (.isi a t)
                | _, _ => none) else none
              | _ => none)
            else (match fOf f (a :: rest).length, cEs n c (a :: rest) with
              | some f, some es => some (.blt f es)
              | _, _ => none)
          | _ => none
        else none
    | .ListComp elt [⟨tg, iter, ifs, 0⟩] scope _ => match ownOf c.N scope.names with
      | none => none
      | some own =>
        let c2 : Cc := { N := c.N, sc := L2.relS scope c.sc, fnb := some scope, gl := c.gl, nl := [] }
        if L2.blkC c.N c.sc scope own && !isSetD iter then
          match cTg c2 tg, cI n c tg iter, cE n c2 elt with
          | some g, some it, some e => if (slotsOf g).all (fun i => (own.map (·.2)).contains i) then (match ifs with
            | [] => some (.comp e g it .yes (own.map (·.2)))
            | [t] => (cT n c2 t).map fun t => .comp e g it (.one t) (own.map (·.2))
            | _ => none) else none
          | _, _, _ => none
        else none
    | _ => none
def cEs : Nat → Cc → List Expr → Option Es
  | 0, _, _ => none
  | n + 1, c, es => match es with
    | [] => some .nil
    | e :: r => if isStar e then none else match cE n c e, cEs n c r with
      | some e, some r => some (.cons e r)
      | _, _ => none
def cV : Nat → Cc → BoolOp → List Expr → Option E
  | 0, _, _, _ => none
  | n + 1, c, o, es => match es with
    | [a] => cE n c a
    | a :: b :: r => match cE n c a, cV n c o (b :: r) with
      | some a, some b => some (match o with | .And => .andv a b | .Or => .orv a b)
      | _, _ => none
    | [] => none
def cT : Nat → Cc → Expr → Option T
  | 0, _, _ => none
  | n + 1, c, e => match e with
    | .UnaryOp .Not a _ => (cT n c a).map .not
    | .BoolOp o es _ => cW n c o es
    | .Compare a os bs p => (cE n c (.Compare a os bs p)).map .tru
    | e => if plainT e then (cE n c e).map .tru else none
def cW : Nat → Cc → BoolOp → List Expr → Option T
  | 0, _, _, _ => none
  | n + 1, c, o, es => match es with
    | [a] => cT n c a
    | a :: b :: r => match cT n c a, cW n c o (b :: r) with
      | some a, some b => some (match o with | .And => .and a b | .Or => .or a b)
      | _, _ => none
    | [] => none
def cO : Nat → Cc → Option Expr → Option Eo
  | 0, _, _ => none
  | n + 1, c, e => match e with
    | none => some .none
    | some e => (cE n c e).map .some
def cI : Nat → Cc → Expr → Expr → Option I
  | 0, _, _, _ => none
  | n + 1, c, tg, e => match e with
    | .Call (.Name f _) [a] [] _ =>
      if isBlt c f && f == ("range" : Str) && !isStar a then (cE n c a).map .rng1
      else if isBlt c f && f == ("enumerate" : Str) && isTupE tg && !isStar a then (cE n c a).map .enum
      else (cE n c e).map .seq
    | .Call (.Name f _) [a, b] [] _ =>
      if isBlt c f && f == ("range" : Str) && !isStar a && !isStar b then (match cE n c a, cE n c b with
        | some a, some b => some (.rng2 a b)
        | _, _ => none)
      else if isBlt c f && f == ("zip" : Str) && isTupE tg && !isStar a && !isStar b then (match cE n c a, cE n c b with
        | some a, some b => some (.zip a b)
        | _, _ => none)
      else (cE n c e).map .seq
    | e => (cE n c e).map .seq
end
/-! ### statements -/
/-- does CPython store these names from the right, without the pair -/
def swapNames (sc : Scope) (line : Nat) : List Expr → List Str
  | [] => []
  | .Name x p :: r => if sc.names.lookup x == some .local && p.line == line then x :: swapNames sc line r else swapNames sc line r
  | _ :: r => swapNames sc line r
def headLine : List Expr → Nat
  | [] => 0
  | t :: _ => t.pos.line
def swapDec (sc : Scope) (ts vs : List Expr) : Bool :=
  (swapNames sc (headLine ts) ts).length == ts.length && (swapNames sc (headLine ts) ts).eraseDups.length == (swapNames sc (headLine ts) ts).length && !vs.all (foldedForSure 8) && !vs.all (constantsAlone 8) && !vs.any isStar
def noSwap (ts vs : List Expr) : Bool := !(ts.length == 2 || ts.length == 3) || vs.length != ts.length || vs.all (foldedForSure 8)
/-- a constant that an except suite hands back -/
def conR : Const → Option D
  | .none => some .non
  | .bool b => some (.bl b)
  | _ => none
mutual
def cS : Nat → Cc → Stmt → Option S
  | 0, _, _ => none
  | n + 1, c, st => match st with
    | .Raise (some (.Call (.Name x _) (a :: es) [] _)) none p => if c.nl.contains (p.line + 1000000) then some .never else if globB c.sc x && nameOk x then (match c.gl.lookup x, cEs 60 c (a :: es) with
        | some .exc, some es => some (.raise x es)
        | _, _ => none) else none
    | .Try b [.ExceptHandler (some (.Name x _)) none [.Return (some (.Constant k _ _)) _] _] [] [] _ => if globB c.sc x && nameOk x then (match c.gl.lookup x, conR k, cSs n c b with
        | some .exc, some d, some b => some (.tryR b x d)
        | _, _, _ => none) else none
    | .Assign [.Attribute o f _] e _ => if isComp e then none else match c.gl.lookup (dot f), cE 60 c o, cE 60 c e with
        | some (.fld cn g), some o, some e => if g == f then some (.fset cn o f e) else none
        | _, _, _ => none
    | .AugAssign (.Attribute o f _) op e _ => match c.gl.lookup (dot f), bOf op, cE 60 c o, cE 60 c e with
        | some (.fld cn g), some op, some o, some e => if g == f then some (.faug cn o f op e) else none
        | _, _, _, _ => none
    | .Pass _ => some .skip
    | .Break _ => some .brk
    | .Continue _ => some .cont
    | .Return none _ => some .retN
    | .Return (some e) _ => (cE 60 c e).map .ret
    | .Expr (.Call (.Attribute o m ap) [e] [] cp) _ => if m == ("append" : Str) then (if !isStar e && ap.endLine == cp.line && recvOk o then (match cE 60 c o, cE 60 c e with
        | some o, some e => some (.app o e)
        | _, _ => none) else none) else (cE 60 c (.Call (.Attribute o m ap) [e] [] cp)).map .exp
    | .Expr (.Constant (.str _) _ _) _ => some .skip
    | .Expr e _ => if isComp e then none else (cE 60 c e).map .exp
    | .If t a b _ => match cT 60 c t, cSs n c a, cSs n c b with
        | some t, some a, some b => some (.ite t a b)
        | _, _, _ => none
    | .While t b [] _ => match cT 60 c t, cSs n c b with
        | some t, some b => some (.while t b)
        | _, _ => none
    | .For tg it b [] _ => if isSetD it then none else match cTg c tg, cI 60 c tg it, cSs n c b with
        | some g, some i, some b => some (.for g i b)
        | _, _, _ => none
    | .AugAssign (.Name x _) o e _ => match ixOf c.N x 0, bOf o, cE 60 c e with
        | some i, some o, some e' => if locB c x && !isComp e then some (.aug i o e') else none
        | _, _, _ => none
    | .Assign [.Name x px] e p => match ixOf c.N x 0, cE 60 c e with
        | some i, some e' => if locB c x then (match e with
          | .ListComp elt [g] scope cp =>
            let own := scope.names.any fun (n, k) => n == x && (k == .local || k == .cell)
            if c.sc.names.lookup x == some .local && px.line == cp.line && !own then some (.asg (.name i) e')
            else none
          | e => if isComp e then none else some (.asg (.name i) e')) else none
        | _, _ => none
    | .Assign [.Tuple ts k pt] e p => match e with
        | .Tuple vs k2 pt2 => if noSwap ts vs then (match cTgs c ts, cE 60 c (.Tuple vs k2 pt2) with
            | some is, some e => some (.asg (.tup is) e)
            | _, _ => none)
          else if swapDec c.sc ts vs then (match ts, vs with
            | [.Name x _, .Name y _], [a, b] => if isStar a || isStar b then none else (match ixOf c.N x 0, ixOf c.N y 0, cE 60 c a, cE 60 c b with
              | some i, some j, some a, some b => if i != j && c.sc.names.lookup x == some .local && c.sc.names.lookup y == some .local then some (.par2 i j a b) else none
              | _, _, _, _ => none)
            | [.Name x _, .Name y _, .Name z _], [a, b, d] => if isStar a || isStar b || isStar d then none else (match ixOf c.N x 0, ixOf c.N y 0, ixOf c.N z 0, cE 60 c a, cE 60 c b, cE 60 c d with
              | some i, some j, some l, some a, some b, some d => if i != j && i != l && j != l && c.sc.names.lookup x == some .local && c.sc.names.lookup y == some .local && c.sc.names.lookup z == some .local then some (.par3 i j l a b d) else none
              | _, _, _, _, _, _ => none)
            | _, _ => none)
          else none
        | e => if isComp e then none else match cTgs c ts, cE 60 c e with
          | some is, some e => some (.asg (.tup is) e)
          | _, _ => none
    | .Assign [.Subscript o (.Tuple es _ _) _] e _ => if isComp e then none else match cE 60 c o, cEs 60 c es, cE 60 c e with
        | some o, some es, some e => some (.dput o es e)
        | _, _, _ => none
    | .Assign [.Subscript o i _] e _ => if isSlice i || isComp e then none else match cE 60 c o, cE 60 c i, cE 60 c e with
        | some o, some i, some e => some (.set o i e)
        | _, _, _ => none
    | _ => none
def cSs : Nat → Cc → List Stmt → Option S
  | 0, _, _ => none
  | n + 1, c, ss => match ss with
    | [] => some .skip
    | [s] => cS n c s
    | s :: t :: r => match cS n c s, cSs n c (t :: r) with
      | some a, some b => some (.seq a b)
      | _, _ => none
end
end PyE

/-! What is read of a def's expressions is what they mean. -/
namespace PyE
open PySem PySem.Spec PyProof.Rows L2
/-- the level of a def, where instances are made from some depth on -/
def lv (n : Nat) : Nat := n + (n - MKT)
/-- the room of a body whose calls are at n -/
def rm (n : Nat) : Nat := n + (n + 1 - MKT)
theorem lv_rm (n : Nat) : lv n ≤ rm n := by
  unfold lv rm
  omega
theorem lv_succ (n : Nat) : lv (n + 1) = rm n + 1 := by
  unfold lv rm
  omega
/-- a global name is what it is said to be -/
def GlOk (xr : Xc → Value → Option Addr → Hp → Prop) (cl : Nat → List D → Store → Res D) (ro : Nat → Bool) (P : Program) (w : World) (K : PySem.W.Frag) (mg : Str → Option Value) (base : Heap) (n : Nat) (x : Str) : Gl → Prop
  | .fn i np => ∃ f fd ps, mg x = some (.ref f) ∧ PySem.W.keepIn K (.ref f) = true ∧ Binds K fd ps [] ∧ FnOk P w K mg base (L2.CX P w) (lv n) f fd ps (spD K xr cl ro i np) ∧ ∀ ds s, cl i ds s ≠ .bad → ds.length = np
  | .con d => ∃ u v, mg x = some u ∧ RelV v u ∧ ∀ H O ph, Rep K H O ph d v
  | .blt => mg x = none
  | .exc => mg x = some (.ref (He.ga K x)) ∧ PySem.W.excIn K (He.ga K x) He.veBase "ValueError.__new__" = true ∧ PySem.W.keepIn K (.ref (He.ga K x)) = true ∧ PySem.W.subIn K (.ref (He.ga K x)) (.type "BaseException") = some true ∧ PySem.W.typeIn K (.ref (He.ga K x)) = some (.type "type") ∧
      (∀ ds H, xr ⟨x, ds⟩ (.ref (He.ga K x)) none H) ∧ ∀ e cls od H, xr e cls od H → e.cls = x → PySem.W.exmOne K cls (.ref (He.ga K x)) = some true
  | .cls i np => mg x = some (.ref (He.ga K x)) ∧ ∃ f fd ps, Mk K (He.ga K x) f ∧ Binds K fd ps [] ∧ FnOk P w K mg base (L2.CX P w) (lv n) f fd ps (spD K xr cl ro i np) ∧ ∀ ds s, cl i ds s ≠ .bad → ds.length = np ∧ MKT ≤ n
  | .fld c f => Cls K (He.ga K c) ∧ NoAttr K (He.ga K c) f
  | .meth c m i np => ∃ f fd ps, Cls K (He.ga K c) ∧ Meth K (He.ga K c) m f ∧ Binds K fd ps [] ∧ FnOk P w K mg base (L2.CX P w) (lv n) f fd ps (spD K xr cl ro i np) ∧ ∀ ds s, cl i ds s ≠ .bad → ds.length = np
structure XOk (xr : Xc → Value → Option Addr → Hp → Prop) (cl : Nat → List D → Store → Res D) (ro : Nat → Bool) (X : Cx) (c : Cc) (W : WX) (n : Nat) : Prop where
  hN : X.N = c.N
  nd : X.N.Nodup
  hsc : X.env.scope = c.sc
  kind : X.env.scope.kind = .function
  calm : X.calm = true
  room : Room (rm n) X.A
  tk : Takes X W
  fnl : ∀ x, locB c x = true → X.fn x = true ∨ X.env.scope.names.lookup x = some .local
  gl : ∀ x g, c.gl.lookup x = some g → GlOk xr cl ro X.prog X.w X.K X.mg X.base n x g
section
variable {xr : Xc → Value → Option Addr → Hp → Prop} {cl : Nat → List D → Store → Res D} {ro : Nat → Bool} {X : Cx} {c : Cc} {W : WX} {n : Nat}
def GoodE (xr : Xc → Value → Option Addr → Hp → Prop) (cl : Nat → List D → Store → Res D) (ro : Nat → Bool) (X : Cx) (W : WX) (e : Expr) (ir : E) : Prop := ∃ t, PE X e t ∧ SemE X.K xr W cl ro t ir ∧ SemB X.K xr W cl t ir ∧ SemV X.K xr W cl t ir
def GoodEs (xr : Xc → Value → Option Addr → Hp → Prop) (cl : Nat → List D → Store → Res D) (ro : Nat → Bool) (X : Cx) (W : WX) (es : List Expr) (ir : Es) : Prop := ∃ t, PA X es t ∧ SemEs X.K xr W cl t ir ∧ SemBs X.K xr W cl t ir
def GoodT (xr : Xc → Value → Option Addr → Hp → Prop) (cl : Nat → List D → Store → Res D) (X : Cx) (W : WX) (e : Expr) (ir : T) : Prop := ∃ t, PT X e t ∧ SemT X.K xr W cl t ir
def GoodW (xr : Xc → Value → Option Addr → Hp → Prop) (cl : Nat → List D → Store → Res D) (X : Cx) (W : WX) (e : Expr) (ir : T) : Prop := ∃ t, PW X e t ∧ SemT X.K xr W cl t ir
def GoodO (xr : Xc → Value → Option Addr → Hp → Prop) (cl : Nat → List D → Store → Res D) (X : Cx) (W : WX) (e : Option Expr) (ir : Eo) : Prop := ∃ t, PO X e t ∧ SemO X.K xr W cl t ir
def GoodI (xr : Xc → Value → Option Addr → Hp → Prop) (cl : Nat → List D → Store → Res D) (X : Cx) (W : WX) (tg e : Expr) (ir : I) : Prop := ∃ t, PI X tg e t ∧ SemI X.K xr W cl t ir
theorem good_of {e : Expr} {ir : E} {t : TE} (h : PE X e t) (s : SemE X.K xr W cl ro t ir) (he : esc ir = escB ir := by rfl) (hv : varOf ir = none := by rfl) : GoodE xr cl ro X W e ir := ⟨t, h, s, s.toB he, semV_of (s.toB he) hv⟩
theorem ixOf_get : ∀ (N : List Str) (x : Str) (k i : Nat), ixOf N x k = some i → k ≤ i ∧ N[i - k]? = some x
  | [], x, k, i, h => by cases h
  | y :: r, x, k, i, h => by
    simp only [ixOf] at h
    split at h
    · rename_i e
      cases h
      rw [eq_of_beq e]
      simp
    · obtain ⟨h1, h2⟩ := ixOf_get r x (k + 1) i h
      refine ⟨by omega, ?_⟩
      rw [show i - k = (i - (k + 1)) + 1 by omega]
      simpa using h2
theorem ix_get {N : List Str} {x : Str} {i : Nat} (h : ixOf N x 0 = some i) : N[i]? = some x := by
  have := (ixOf_get N x 0 i h).2
  simpa using this
theorem vis_of {sc : Scope} {x : Str} (h : visB sc x = true) : Vis sc x := by
  unfold visB at h
  unfold Vis
  split at h
  · rename_i e; exact .inl e
  · rename_i e; exact .inr (.inl e)
  · rename_i e; exact .inr (.inr e)
  · cases h
theorem glob_of {x : Str} (o : XOk xr cl ro X c W n) (h : globB c.sc x = true) : L2.Gl X x := by
  unfold globB at h
  show X.env.scope.names.lookup x = _
  rw [o.hsc]
  split at h
  · assumption
  · cases h
theorem loc_of {x : Str} (o : XOk xr cl ro X c W n) (h : locB c x = true) : L2.Loc X.env.scope x := by
  unfold locB at h
  rw [o.hsc]
  unfold L2.Loc
  split at h
  · rename_i e; exact .inl e
  · rename_i e; exact .inr e
  · cases h
theorem ok_dbg {x : Str} (h : nameOk x = true) : (x == ("__debug__" : Str)) = false ∧ (x == ("__classdict__" : Str)) = false ∧ x ≠ "__name__" := by
  simp only [nameOk, Bool.and_eq_true, Bool.not_eq_true'] at h
  exact ⟨h.1.1, h.1.2, fun e => by
    have := h.2
    rw [e] at this
    simp at this⟩
theorem hu1 (o : XOk xr cl ro X c W n) : X.A.units + 1 < cLine := by
  have := o.room.un
  omega
theorem hu64 (o : XOk xr cl ro X c W n) : X.A.units + 64 < cLine := by
  have := o.room.un
  omega
theorem nostar_cons {e : Expr} {es : List Expr} {env : PySem.Env} (h : isStar e = false) : starEach (e :: es) env = (false, eval e env) :: starEach es env := by
  cases e <;> first | rfl | cases h
theorem nostar_all : ∀ (es : List Expr) (env : PySem.Env) (pos : Pos), (∀ e ∈ es, isStar e = false) → (backTo pos (starEach es env)).any (·.1) = false
  | [], env, pos, _ => rfl
  | e :: es, env, pos, h => by
    rw [nostar_cons (h e List.mem_cons_self)]
    have ih := nostar_all es env pos fun x hx => h x (List.mem_cons_of_mem _ hx)
    simp only [backTo, List.map_cons, List.any_cons, Bool.false_or] at ih ⊢
    exact ih
theorem behind_of {op : CmpOp} {b : Expr} (h : isSetD b = false) : behindInMarks op b = false := by
  cases b <;> first | rfl | cases h
theorem last_of {o p : CmpOp} {b d : Expr} (h : isSetD b = false) (h' : isSetD d = false) : lastMarks [o, p] [b, d] = false := by
  show behindInMarks p d = false
  exact behind_of h'
theorem cOf_cp {o : CmpOp} {k : C} (h : cOf o = some k) : o = cpOf k := by
  cases o <;> cases h <;> rfl
theorem bOf_op {o : Operator} {k : B} (h : bOf o = some k) : o = opOf k := by
  cases o <;> cases h <;> rfl
theorem plainIx_of {b : Expr} (h : isSlice b = false) : PlainIx b := fun o i => by
  cases b <;> first | rfl | cases h
theorem fold_of {e : Expr} {env : PySem.Env} (h : isSetD e = false) : ∀ x, foldedSetIterable e env x = Pure.pure x := fun x => by
  cases e <;> first | rfl | cases h
theorem isTrue_of {e : Expr} {env : PySem.Env} (h : plainT e = true) : ∀ whole, isTrue e env whole = (do let v ← whole; standAt e.pos; holding [v] (truthy v)) := fun whole => by
  cases e <;> first | rfl | cases h
theorem tyOf_ok {x : Str} {t : Ty} (h : tyOf x = some t) : bootBuiltins x = some (.type (tyN t)) ∧ (x == ("__debug__" : Str)) = false ∧ x ≠ "__name__" := by
  unfold tyOf at h
  repeat' split at h
  all_goals first
    | (cases h; done)
    | (rename_i e; cases h; rw [eq_of_beq e]; exact ⟨by decide +kernel, by decide +kernel, by decide +kernel⟩)
theorem fOfB_ok {x : Str} {n : Nat} {f : F} (h : fOfB x n = some f) : bootBuiltins x = some (fVal f) := by
  unfold fOfB at h
  repeat' split at h
  all_goals first
    | (cases h; done)
    | (rename_i e _; cases h; rw [eq_of_beq e]; decide +kernel)
theorem fOf_ok {x : Str} {n : Nat} {f : F} (h : fOf x n = some f) : bootBuiltins x = some (fVal f) := by
  unfold fOf at h
  repeat' split at h
  all_goals first
    | exact fOfB_ok h
    | (cases h; done)
    | (rename_i e _; cases h; rw [eq_of_beq e]; decide +kernel)

theorem GoodE.toT {e : Expr} {ir : E} (h : GoodE xr cl ro X W e ir) (hp : plainT e = true) : GoodT xr cl X W e (.tru ir) := by
  obtain ⟨t, h1, _, h3, _⟩ := h
  exact ⟨_, pt_truth h1 (isTrue_of hp), sem_tru h3⟩
/-- all that is read with n steps at hand is good, wherever it stands -/
structure Snd (xr : Xc → Value → Option Addr → Hp → Prop) (cl : Nat → List D → Store → Res D) (ro : Nat → Bool) (k n : Nat) : Prop where
  e : ∀ X c W e ir, XOk xr cl ro X c W k → cE n c e = some ir → GoodE xr cl ro X W e ir
  es : ∀ X c W es ir, XOk xr cl ro X c W k → cEs n c es = some ir → GoodEs xr cl ro X W es ir ∧ ∀ e ∈ es, isStar e = false
  v : ∀ X c W o es ir pos, XOk xr cl ro X c W k → cV n c o es = some ir → GoodE xr cl ro X W (.BoolOp o es pos) ir
  t : ∀ X c W e ir, XOk xr cl ro X c W k → cT n c e = some ir → GoodT xr cl X W e ir
  w : ∀ X c W o es ir pos, XOk xr cl ro X c W k → cW n c o es = some ir → GoodW xr cl X W (.BoolOp o es pos) ir
  o : ∀ X c W e ir, XOk xr cl ro X c W k → cO n c e = some ir → GoodO xr cl X W e ir
  i : ∀ X c W tg e ir, XOk xr cl ro X c W k → cI n c tg e = some ir → GoodI xr cl X W tg e ir
  c : ∀ X c W a os bs p ir, XOk xr cl ro X c W k → cE n c (.Compare a os bs p) = some ir → GoodT xr cl X W (.Compare a os bs p) (.tru ir)
theorem tgs_ok (o : XOk xr cl ro X c W n) : ∀ (es : List Expr) (is : List Nat), cTgs c es = some is → ∃ g, PGs X es g ∧ SemGs X.K g is ∧ SemGSs X.K g is ∧ es.length = is.length ∧ (assignEach es X.env).findIdx? (·.1) = none ∧ (assignEach es X.env).length = es.length
  | [], is, h => by
    cases h
    exact ⟨_, pgs_nil, semGs_nil, semGSs_nil, rfl, rfl, rfl⟩
  | e :: r, is, h => by
    cases e with
    | Name x p =>
      simp only [cTgs] at h
      split at h
      · rename_i i hi
        split at h
        · rename_i hl
          cases er : cTgs c r with
          | none => rw [er] at h; cases h
          | some js =>
            rw [er] at h
            cases h
            obtain ⟨g, h1, h2, h3, h4, h5, h6⟩ := tgs_ok o r js er
            refine ⟨_, pgs_cons (pg_name (i := i) o.nd (by rw [o.hN]; exact ix_get hi) (loc_of o hl) (o.fnl x hl)) h1, semGs_cons i h2, semGSs_cons i h3, by simp [h4], ?_, ?_⟩
            · show List.findIdx? (·.1) ((false, assign (.Name x p) X.env) :: assignEach r X.env) = none
              rw [List.findIdx?_cons, h5]
              rfl
            · show ((false, assign (.Name x p) X.env) :: assignEach r X.env).length = _
              simp [h6]
        · cases h
      · cases h
    | _ => cases h
theorem tg_ok (o : XOk xr cl ro X c W n) {tg : Expr} {g : Tg} (h : cTg c tg = some g) : ∃ t, PG X tg t ∧ SemG X.K t g (slotsOf g) ∧ SemGS X.K t g := by
  cases tg with
  | Name x p =>
    simp only [cTg] at h
    split at h
    · rename_i i hi
      split at h
      · rename_i hl
        cases h
        exact ⟨_, pg_name (i := i) o.nd (by rw [o.hN]; exact ix_get hi) (loc_of o hl) (o.fnl x hl), semG_name i, semGS_name i⟩
      · cases h
    · cases h
  | Tuple es k p =>
    simp only [cTg] at h
    cases e : cTgs c es with
    | none => rw [e] at h; cases h
    | some is =>
      rw [e] at h
      cases h
      obtain ⟨t, h1, h2, h3, h4, h5, h6⟩ := tgs_ok o es is e
      exact ⟨_, pg_tup o.calm h1 (by rw [h6, h4]) h5, semG_tup h2, semGS_tup h3⟩
  | _ => cases h
theorem mem_ownOf {N : List Str} : ∀ (l : List (Str × NameKind)) (own : List (Str × Nat)), ownOf N l = some own → True := fun _ _ _ => trivial
/-- a comprehension's block -/
theorem XOk.blk (o : XOk xr cl ro X c W n) {scope : Scope} {own : List (Str × Nat)} (hb : blkC c.N c.sc scope own = true) (s : Shared) (H : Hp) (C : Addr) (cl' : List (Str × Addr)) (fp : List Addr) :
    XOk xr cl ro (X.blk s H scope (compEnvC scope cl' C X.env) fp) { N := c.N, sc := relS scope c.sc, fnb := some scope, gl := c.gl, nl := [] } W0 n := by
  have hs : (X.blk s H scope (compEnvC scope cl' C X.env) fp).env.scope = relS scope c.sc := by
    rw [← o.hsc]
    rfl
  refine ⟨o.hN, o.nd, hs, ?_, o.calm, o.room, takes0, fun x h => ?_, o.gl⟩
  · rw [hs]
    have := (blkOk_by hb).kind
    exact this
  · unfold locB at h
    rw [hs]
    split at h
    · rename_i e; exact .inr e
    · exact .inl h
    · cases h
end
end PyE

/-! All that is read of expressions is good. -/
namespace PyE
open PySem PySem.Spec PyProof.Rows L2
section
variable {xr : Xc → Value → Option Addr → Hp → Prop} {cl : Nat → List D → Store → Res D} {ro : Nat → Bool} {k n : Nat}
theorem str_toList (s : Str) : (⟨s.cps.toList.toArray⟩ : Str) = s := by
  cases s
  rfl
theorem isBlt_ok {X : Cx} {c : Cc} {W : WX} {x : Str} (o : XOk xr cl ro X c W k) (h : isBlt c x = true) : L2.Gl X x ∧ X.mg x = none ∧ (x == ("__debug__" : Str)) = false ∧ x ≠ "__name__" := by
  simp only [isBlt, Bool.and_eq_true] at h
  obtain ⟨⟨h1, h2⟩, h3⟩ := h
  have := ok_dbg h2
  refine ⟨glob_of o h1, ?_, this.1, this.2.2⟩
  split at h3
  · rename_i e
    exact o.gl x _ e
  · cases h3
theorem good_call {X : Cx} {c : Cc} {W : WX} (o : XOk xr cl ro X c W k) {f : Str} {p pos : Pos} {a : Expr} {rest : List Expr} {i np : Nat} {es : Es} (hg : globB c.sc f = true) (hn : nameOk f = true) (hl : c.gl.lookup f = some (.fn i np))
    (h : GoodEs xr cl ro X W (a :: rest) es ∧ ∀ e ∈ a :: rest, isStar e = false) : GoodE xr cl ro X W (.Call (.Name f p) (a :: rest) [] pos) (.call i es) := by
  obtain ⟨⟨t, h1, h2, h3⟩, hs⟩ := h
  obtain ⟨fa, fd, ps, e1, e2, e3, e4, e5⟩ := o.gl f _ hl
  exact good_of (pe_callSD e4 (o.room.mono (lv_rm k)) (glob_of o hg) e1 e2 e3 .nil (fun σ => passAt o.tk σ) h1 (ok_dbg hn).1 (nostar_cons (hs a List.mem_cons_self)) (nostar_all rest _ _ fun e he => hs e (List.mem_cons_of_mem _ he))) (sem_call i np h2 e5)
theorem base_of {o : Expr} {m : Str} {env : PySem.Env} {wh : Sem Value} (h : recvOk o = true) : attributeBase o m env wh = wh := by
  cases o <;> first | rfl | cases h
theorem good_call0 {X : Cx} {c : Cc} {W : WX} (o : XOk xr cl ro X c W k) {f : Str} {p pos : Pos} {i : Nat} (hg : globB c.sc f = true) (hn : nameOk f = true) (hl : c.gl.lookup f = some (.fn i 0)) : GoodE xr cl ro X W (.Call (.Name f p) [] [] pos) (.call i .nil) := by
  obtain ⟨fa, fd, ps, e1, e2, e3, e4, e5⟩ := o.gl f _ hl
  exact good_of (pe_callSD0 e4 (o.room.mono (lv_rm k)) (glob_of o hg) e1 e2 e3 (fun σ => passAt o.tk σ) (ok_dbg hn).1) (sem_call i 0 sem_nil e5)
/-- an instance is made: where the def is not out of reach, there is room -/
theorem room_mk {X : Cx} {c : Cc} {W : WX} (o : XOk xr cl ro X c W k) (h : MKT ≤ k) : Room (lv k + 1) X.A := o.room.mono (by
  unfold lv rm
  omega)
/-- the arguments alone, what follows is never reached -/
theorem pe_args {X : Cx} {C : Addr} {x : Str} {p pos : Pos} {e : Expr} {es : List Expr} {t : TA} (hk : PySem.W.keepIn X.K (.ref C) = true) (hg : L2.Gl X x) (hm : X.mg x = some (.ref C))
    (ha : PA X (e :: es) t) (hdb : (x == ("__debug__" : Str)) = false) (he : starEach (e :: es) X.env = (false, eval e X.env) :: starEach es X.env) (hpl : (backTo pos (starEach es X.env)).any (·.1) = false) :
    PE X (.Call (.Name x p) (e :: es) [] pos) (fun σ H _ => t σ H fun _ _ => False) := by
  refine ⟨fun pins s σ H Q I h => ?_⟩
  refine wpAny_Call_Name_kw (ld_glob I hg hm ?_ hdb)
  exact PySem.W.callWith_K (h₀ := X.base) I.ok.mod.kin hk (thn (ha.run pos pins s σ H _ I h) fun us s1 ⟨vs, H1, I1, r, q⟩ => q.elim) he hpl
theorem good_make {X : Cx} {c : Cc} {W : WX} (o : XOk xr cl ro X c W k) {f : Str} {p pos : Pos} {a : Expr} {rest : List Expr} {i np : Nat} {es : Es} (hg : globB c.sc f = true) (hn : nameOk f = true) (hl : c.gl.lookup f = some (.cls i np))
    (h : GoodEs xr cl ro X W (a :: rest) es ∧ ∀ e ∈ a :: rest, isStar e = false) : GoodE xr cl ro X W (.Call (.Name f p) (a :: rest) [] pos) (.make f i es) := by
  obtain ⟨⟨t, h1, h2, h3⟩, hs⟩ := h
  obtain ⟨e1, fa, fd, ps, e2, e3, e4, e5⟩ := o.gl f _ hl
  have st1 : starEach (a :: rest) X.env = (false, eval a X.env) :: starEach rest X.env := nostar_cons (hs a List.mem_cons_self)
  have st2 := nostar_all rest X.env pos fun e he => hs e (List.mem_cons_of_mem _ he)
  by_cases hk : MKT ≤ k
  · exact good_of (pe_makeSD e2 e4 (room_mk o hk) (glob_of o hg) e1 e3 (fun σ => passAt o.tk σ) h1 (ok_dbg hn).1 st1 st2) (sem_make i np rfl h2 fun ds s hb => (e5 ds s hb).1)
  · refine good_of (pe_args e2.kp (glob_of o hg) e1 h1 (ok_dbg hn).1 st1 st2) fun H O ph r σ st Q P u w => ?_
    simp only [esc, topv, escB, List.nil_append] at u
    simp only [evE] at w
    refine h2 H O ph r σ st _ P u (wpR_mono (wpR_bind w) (fun ds s1 w1 vs H1 ph1 E1 S1 R1 => ?_) fun _ _ z => z)
    cases q : cl i (.ref s1.length :: ds) (s1 ++ [.ins f []]) with
    | bad => rw [q] at w1; exact w1
    | ok d s => exact absurd (e5 _ _ (by rw [q]; intro z; cases z)).2 hk
    | exc x s => exact absurd (e5 _ _ (by rw [q]; intro z; cases z)).2 hk
theorem good_make0 {X : Cx} {c : Cc} {W : WX} (o : XOk xr cl ro X c W k) {f : Str} {p pos : Pos} {i : Nat} (hg : globB c.sc f = true) (hn : nameOk f = true) (hl : c.gl.lookup f = some (.cls i 1)) : GoodE xr cl ro X W (.Call (.Name f p) [] [] pos) (.make f i .nil) := by
  obtain ⟨e1, fa, fd, ps, e2, e3, e4, e5⟩ := o.gl f _ hl
  by_cases hk : MKT ≤ k
  · exact good_of (pe_makeSD0 e2 e4 (room_mk o hk) (glob_of o hg) e1 e3 (fun σ => passAt o.tk σ) (ok_dbg hn).1) (sem_make i 1 rfl sem_nil fun ds s hb => (e5 ds s hb).1)
  · refine good_of (t := tNever) pe_never fun H O ph r σ st Q P u w => ?_
    simp only [evE, evEs] at w
    have w1 : wpR ((cl i [.ref st.length] (st ++ [.ins f []])).bind _) _ _ := w
    cases q : cl i [.ref st.length] (st ++ [.ins f []]) with
    | bad => rw [q] at w1; exact w1
    | ok d s => exact absurd (e5 _ _ (by rw [q]; intro z; cases z)).2 hk
    | exc x s => exact absurd (e5 _ _ (by rw [q]; intro z; cases z)).2 hk
def esLen : Es → Nat
  | .nil => 0
  | .cons _ r => esLen r + 1
theorem cEs_nil {n : Nat} {c : Cc} {es : Es} (h : cEs n c [] = some es) : esLen es = 0 := by
  cases n with
  | zero => cases h
  | succ n => cases h; rfl
def plainSem (o : Expr) (env : PySem.Env) : Sem Bool := do return (← importBound o env).getD true
theorem meth_eq {o : Expr} {m : Str} {ap cp : Pos} {args : List Expr} {env : PySem.Env} (hr : recvOk o = true) (hs : (backTo cp (starEach args env)).all (fun x => !x.1) = true) (hn : args.length < 30) (hl : (ap.endLine == cp.line) = true) :
    eval (.Call (.Attribute o m ap) args [] cp) env = (do
      let ov ← eval o env
      standAt ap.atName
      let (f, first) ← holding [ov] (getMethod ov m (plainSem o env))
      callWith cp f first (backTo cp (starEach args env)) (backToKw cp (keywordEach [] env))) := by
  have few : methodCallForm (args.length + ([] : List Keyword).length) (backTo cp (starEach args env)) (backToKw cp (keywordEach [] env)) = true := by
    unfold methodCallForm
    rw [hs]
    show (true && true && decide (args.length + 0 + 0 < 30)) = true
    simpa using hn
  show (do let ov ← attributeBase o m env (eval o env); standAt ap.atName; methodCall o m ap cp env ov (args.length + ([] : List Keyword).length) (backTo cp (starEach args env)) (backToKw cp (keywordEach [] env))) = _
  rw [base_of hr]
  have e : ∀ ov, methodCall o m ap cp env ov (args.length + ([] : List Keyword).length) (backTo cp (starEach args env)) (backToKw cp (keywordEach [] env)) = (do
      let (f, first) ← holding [ov] (getMethod ov m (plainSem o env))
      callWith cp f first (backTo cp (starEach args env)) (backToKw cp (keywordEach [] env))) := fun ov => by
    unfold methodCall
    rw [few]
    have e2 : methodCallPos true o env ap cp = pure cp := by
      unfold methodCallPos
      rw [hl]
      rfl
    rw [e2]
    rfl
  simp only [e]
theorem nostar_all2 : ∀ (es : List Expr) (env : PySem.Env) (pos : Pos), (∀ e ∈ es, isStar e = false) → (backTo pos (starEach es env)).all (fun x => !x.1) = true
  | [], env, pos, _ => rfl
  | e :: es, env, pos, h => by
    rw [nostar_cons (h e List.mem_cons_self)]
    have ih := nostar_all2 es env pos fun x hx => h x (List.mem_cons_of_mem _ hx)
    simp only [backTo, List.map_cons, List.all_cons, Bool.not_false, Bool.true_and] at ih ⊢
    exact ih
theorem good_meth {X : Cx} {c : Cc} {W : WX} (ok : XOk xr cl ro X c W k) {o : Expr} {m cn m' : Str} {ap cp : Pos} {args : List Expr} {i np : Nat} {o' : E} {es : Es} (hl : c.gl.lookup (dot m) = some (.meth cn m' i np)) (hm : m' = m) (hr : recvOk o = true) (hln : (ap.endLine == cp.line) = true) (hn : args.length < 30)
    (ho : GoodE xr cl ro X W o o') (h : GoodEs xr cl ro X W args es ∧ ∀ e ∈ args, isStar e = false) (hes : args = [] → esLen es = 0) : GoodE xr cl ro X W (.Call (.Attribute o m ap) args [] cp) (.meth cn i m o' es) := by
  subst hm
  obtain ⟨to, g1, g2, _, _⟩ := ho
  obtain ⟨⟨t, h1, h2, h3⟩, hs⟩ := h
  obtain ⟨fa, fd, ps, e1, e2, e3, e4, e5⟩ := ok.gl _ _ hl
  cases args with
  | nil =>
    cases es with
    | nil =>
      exact good_of (pe_methSD0 (pl := plainSem o X.env) g1 e1 e2 e4 (ok.room.mono (lv_rm k)) e3 (fun σ => passAt ok.tk σ) (meth_eq hr rfl hn hln)) (sem_meth i np rfl g2 sem_nil e5)
    | cons e r => exact absurd (hes rfl) (by simp [esLen])
  | cons a rest =>
    exact good_of (pe_methSD (pl := plainSem o X.env) g1 e1 e2 e4 (ok.room.mono (lv_rm k)) e3 (fun σ => passAt ok.tk σ) h1 (nostar_cons (hs a List.mem_cons_self)) (nostar_all rest _ _ fun e he => hs e (List.mem_cons_of_mem _ he)) (meth_eq hr (nostar_all2 _ _ _ hs) hn hln)) (sem_meth i np rfl g2 h2 e5)
theorem good_blt {X : Cx} {c : Cc} {W : WX} (o : XOk xr cl ro X c W k) {f : Str} {p pos : Pos} {a : Expr} {rest : List Expr} {g : F} {es : Es} (hb : L2.Gl X f ∧ X.mg f = none ∧ (f == ("__debug__" : Str)) = false ∧ f ≠ "__name__") (hf : fOf f (a :: rest).length = some g)
    (h : GoodEs xr cl ro X W (a :: rest) es ∧ ∀ e ∈ a :: rest, isStar e = false) : GoodE xr cl ro X W (.Call (.Name f p) (a :: rest) [] pos) (.blt g es) := by
  obtain ⟨⟨t, h1, h2, h3⟩, hs⟩ := h
  have hv := fOf_ok hf
  have hc := cr_blt (X := X) o.calm g
  have he : starEach (a :: rest) X.env = (false, eval a X.env) :: starEach rest X.env := nostar_cons (hs a List.mem_cons_self)
  have hpl := nostar_all rest X.env pos fun e he => hs e (List.mem_cons_of_mem _ he)
  refine good_of (t := tCB (rBlt X.K g) t) ?_ (sem_blt g h3)
  cases g <;> first
    | exact pe_callB hc hb.1 hb.2.1 hv h1 hb.2.2.2 hb.2.2.1 he hpl
    | exact pe_callTy hc hb.1 hb.2.1 hv h1 hb.2.2.2 hb.2.2.1 he hpl
theorem good_con {X : Cx} {W : WX} {e : Expr} {v : V} {d : D} (h : PE X e (tC v)) (hr : ∀ H O ph, Rep X.K H O ph d v) : GoodE xr cl ro X W e (.con d) := good_of h (sem_con hr)
/-- blocks of a comprehension -/
abbrev Bk := Shared × Hp × Addr × List (Str × Addr) × List Addr
abbrev bkX (X : Cx) (scope : Scope) (b : Bk) : Cx := X.blk b.1 b.2.1 scope (compEnvC scope b.2.2.2.1 b.2.2.1 X.env) b.2.2.2.2
theorem good_comp {X : Cx} {W : WX} {elt tg iter : Expr} {ifs : List Expr} {scope : Scope} {own : List (Str × Nat)} {pos : Pos} {g : Tg} {it : I} {e' : E} {t : To} (calm : X.calm = true) (nd : X.N.Nodup) (hi : GoodI xr cl X W tg iter it) (hs : isSetD iter = false) (ok : BlkOk X.N X.env.scope scope own)
    (hsl : ∀ i ∈ slotsOf g, i ∈ own.map (·.2)) (hg : ∀ b, ∃ t, PG (bkX X scope b) tg t ∧ SemG X.K t g (slotsOf g)) (he : ∀ b, GoodE xr cl ro (bkX X scope b) W0 elt e') (ht : ∀ b, ∃ tt, PTs (bkX X scope b) ifs tt ∧ SemTo X.K xr W0 cl tt t) :
    GoodE xr cl ro X W (.ListComp elt [⟨tg, iter, ifs, 0⟩] scope pos) (.comp e' g it t (own.map (·.2))) := by
  obtain ⟨wi, i1, i2⟩ := hi
  have hG := fun b => Classical.choose_spec (hg b)
  have hE := fun b => Classical.choose_spec (he b)
  have hT := fun b => Classical.choose_spec (ht b)
  refine good_of (pe_lc (g := fun v σ H Q => ∀ b, Classical.choose (hg b) v σ H Q) (tt := fun σ H Q => ∀ b, Classical.choose (ht b) σ H Q) (te := fun σ H Q => ∀ b, Classical.choose (he b) σ H Q) calm nd i1 ok (fun s H C cl' fp => ⟨fun pins s' σ H' v u Q I r q => (hG (s, H, C, cl', fp)).1.run pins s' σ H' v u Q I r (q (s, H, C, cl', fp))⟩)
    (fun s H C cl' fp => ⟨fun pins s' σ H' Q I q => (hT (s, H, C, cl', fp)).1.run pins s' σ H' Q I (q (s, H, C, cl', fp))⟩) (fun s H C cl' fp => ⟨fun pins s' σ H' Q I q => (hE (s, H, C, cl', fp)).1.run pins s' σ H' Q I (q (s, H, C, cl', fp))⟩) (fold_of hs)) ?_
  exact sem_comp i2 (fun H O ph r σ st d v r2 Q p h e k b => (hG b).2 H O ph r σ st d v r2 Q p h e k) hsl (fun H O ph r σ st Q P u w b => (hT b).2 H O ph r σ st Q P u w) fun H O ph r σ st Q P u w b => (hE b).2.1 H O ph r σ st Q P u w
theorem contains_mem {l : List Nat} {i : Nat} (h : l.contains i = true) : i ∈ l := by simpa using h
theorem comp_async {c : Cc} {elt tg iter : Expr} {ifs : List Expr} {as : Int} {scope : Scope} {pos : Pos} {ir : E} (h : cE (n + 1) c (.ListComp elt [⟨tg, iter, ifs, as⟩] scope pos) = some ir) : as = 0 := by
  simp only [cE] at h
  split at h
  all_goals first
    | (rename_i e; cases e; done)
    | (rename_i e; cases e; rfl)
    | (cases h; done)
    | (rename_i e _; cases e; done)
    | (rename_i e _ _; cases e; done)
    | (rename_i e _ _ _; cases e; done)
theorem comp_parts (ih : Snd xr cl ro k n) {X : Cx} {c : Cc} {W : WX} {elt tg iter : Expr} {ifs : List Expr} {scope : Scope} {pos : Pos} {ir : E} (o : XOk xr cl ro X c W k) (h : cE (n + 1) c (.ListComp elt [⟨tg, iter, ifs, 0⟩] scope pos) = some ir) :
    ∃ (own : List (Str × Nat)) (g : Tg) (it : I) (e' : E) (t : To), ir = .comp e' g it t (own.map (·.2)) ∧ GoodI xr cl X W tg iter it ∧ isSetD iter = false ∧ BlkOk X.N X.env.scope scope own ∧ (∀ i ∈ slotsOf g, i ∈ own.map (·.2)) ∧
      (∀ b, ∃ t, PG (bkX X scope b) tg t ∧ SemG X.K t g (slotsOf g)) ∧ (∀ b, GoodE xr cl ro (bkX X scope b) W0 elt e') ∧ ∀ b, ∃ tt, PTs (bkX X scope b) ifs tt ∧ SemTo X.K xr W0 cl tt t := by
  simp only [cE] at h
  split at h
  · cases h
  rename_i own hown
  split at h
  case isFalse => cases h
  rename_i hbs
  simp only [Bool.and_eq_true, Bool.not_eq_true'] at hbs
  split at h
  case h_2 => cases h
  rename_i g it e' hg hit he'
  split at h
  case isFalse => cases h
  rename_i hsl
  have ok := blkOk_by hbs.1
  have ok' : BlkOk X.N X.env.scope scope own := by rw [o.hN, o.hsc]; exact ok
  have hit' := ih.i X c W tg iter it o hit
  have ob : ∀ b : Bk, XOk xr cl ro (bkX X scope b) { N := c.N, sc := relS scope c.sc, fnb := some scope, gl := c.gl, nl := [] } W0 k := fun b => o.blk hbs.1 b.1 b.2.1 b.2.2.1 b.2.2.2.1 b.2.2.2.2
  have hsub : ∀ i ∈ slotsOf g, i ∈ own.map (·.2) := fun i hi => contains_mem (List.all_eq_true.mp hsl i hi)
  have hG : ∀ b, ∃ t, PG (bkX X scope b) tg t ∧ SemG X.K t g (slotsOf g) := fun b => by
    obtain ⟨t, t1, t2, _⟩ := tg_ok (ob b) hg
    exact ⟨t, t1, t2⟩
  have hE : ∀ b, GoodE xr cl ro (bkX X scope b) W0 elt e' := fun b => ih.e _ _ _ elt e' (ob b) he'
  split at h
  · cases h
    exact ⟨own, g, it, e', _, rfl, hit', hbs.2, ok', hsub, hG, hE, fun b => ⟨_, pts_nil, semTo_yes⟩⟩
  · rename_i t
    cases htt : cT n { N := c.N, sc := relS scope c.sc, fnb := some scope, gl := c.gl, nl := [] } t with
    | none => rw [htt] at h; cases h
    | some t' =>
      rw [htt] at h
      cases h
      refine ⟨own, g, it, e', _, rfl, hit', hbs.2, ok', hsub, hG, hE, fun b => ?_⟩
      obtain ⟨tt, t1, t2⟩ := ih.t _ _ _ t t' (ob b) htt
      exact ⟨tt, pts_one t1, semTo_one t2⟩
  · cases h
theorem snd_e (ih : Snd xr cl ro k n) : ∀ X c W e ir, XOk xr cl ro X c W k → cE (n + 1) c e = some ir → GoodE xr cl ro X W e ir := by
  intro X c W e ir o h
  simp only [cE] at h
  split at h
  · rename_i x p
    split at h
    case isFalse => cases h
    rename_i hn
    split at h
    · rename_i i hi
      split at h
      · rename_i hv
        cases h
        refine ⟨_, pe_var (i := i) (by rw [o.hN]; exact ix_get hi) (by rw [o.hsc]; exact vis_of hv) (ok_dbg hn).1 (ok_dbg hn).2.1, semE_var i, semB_var i, semV_var i⟩
      · cases h
    · split at h
      · rename_i hg
        split at h
        · rename_i d hl
          cases h
          obtain ⟨u, v, e1, e2, e3⟩ := o.gl x _ hl
          exact good_con (pe_glob (glob_of o hg) e1 e2 (ok_dbg hn).1) e3
        · cases h
      · cases h
  · split at h
    · cases h; exact good_con pe_int fun _ _ _ => rep_int
    · cases h; exact good_con pe_bl fun _ _ _ => rep_bl
    · cases h; exact good_con pe_non fun _ _ _ => rep_non
    · cases h
      exact good_con pe_str fun _ _ _ => by simp only [Rep]
    · cases h
  · rename_i a op b p
    split at h
    · rename_i o' a' b' ho ha hb
      cases h
      obtain ⟨ta, h1, _, h3, _⟩ := ih.e X c W a a' o ha
      obtain ⟨tb, g1, _, g3, _⟩ := ih.e X c W b b' o hb
      rw [bOf_op ho]
      exact good_of (pe_op (op_bin o') h1 g1) (sem_bin o' h3 g3)
    · cases h
  · rename_i op a p
    split at h
    · cases ha : cE n c a with
      | none => rw [ha] at h; cases h
      | some a' =>
        rw [ha] at h
        cases h
        obtain ⟨ta, h1, _, h3, _⟩ := ih.e X c W a a' o ha
        exact good_of (pe_un un_neg h1) (sem_neg h3)
    · cases ha : cE n c a with
      | none => rw [ha] at h; cases h
      | some a' =>
        rw [ha] at h
        cases h
        obtain ⟨ta, h1, _, h3, _⟩ := ih.e X c W a a' o ha
        exact good_of (pe_not h1) (sem_notv h3)
    · cases h
  · rename_i a op b p
    split at h
    · cases h
    rename_i hsd
    split at h
    · rename_i o' a' b' ho ha hb
      cases h
      obtain ⟨ta, h1, _, h3, _⟩ := ih.e X c W a a' o ha
      obtain ⟨tb, g1, _, g3, _⟩ := ih.e X c W b b' o hb
      rw [cOf_cp ho]
      exact good_of (pe_cmpR (op_cmp (hu64 o) o') h1 g1 (behind_of (by simpa using hsd))) (sem_cmp o' h3 g3)
    · cases h
  · rename_i a op1 op2 b d p
    split at h
    · cases h
    rename_i hsd
    simp only [Bool.or_eq_true, not_or, Bool.not_eq_true] at hsd
    split at h
    · rename_i o1 o2 a' b' d' ho1 ho2 ha hb hd
      cases h
      obtain ⟨ta, h1, _, h3, _⟩ := ih.e X c W a a' o ha
      obtain ⟨tb, g1, _, g3, _⟩ := ih.e X c W b b' o hb
      obtain ⟨td, f1, _, f3, _⟩ := ih.e X c W d d' o hd
      rw [cOf_cp ho1, cOf_cp ho2]
      exact good_of (pe_chain (op_cmp (hu64 o) o1) (op_cmp (hu64 o) o2) h1 g1 f1 (last_of hsd.1 hsd.2)) (sem_chain o1 o2 h3 g3 f3)
    · cases h
  · exact ih.v X c W _ _ ir _ o h
  · rename_i t a b p
    split at h
    · rename_i t' a' b' ht ha hb
      cases h
      obtain ⟨ta, h1, h2, _, _⟩ := ih.e X c W a a' o ha
      obtain ⟨tb, g1, g2, _, _⟩ := ih.e X c W b b' o hb
      obtain ⟨tt, f1, f2⟩ := ih.t X c W t t' o ht
      exact good_of (pe_ifExp f1 h1 g1) (sem_ite f2 h2 g2)
    · cases h
  · rename_i es kk p
    cases he : cEs n c es with
    | none => rw [he] at h; cases h
    | some es' =>
      rw [he] at h
      cases h
      obtain ⟨⟨t, h1, h2, _⟩, _⟩ := ih.es X c W es es' o he
      exact good_of (pe_tup h1) (sem_tup h2)
  · rename_i es p
    cases he : cEs n c es with
    | none => rw [he] at h; cases h
    | some es' =>
      rw [he] at h
      simp only [Option.map_some, Option.some.injEq] at h
      obtain ⟨⟨t, h1, h2, _⟩, _⟩ := ih.es X c W es es' o he
      split at h
      · cases h
        exact good_of (pe_lst h1) (sem_newl h2)
      · cases h
        exact good_of (pe_lst h1) (sem_lst h2)
  · cases h
    exact good_of pe_dnewT sem_newd
  · rename_i a f p
    split at h
    · rename_i cn g hl
      split at h
      case isFalse => cases h
      rename_i hb
      simp only [Bool.and_eq_true] at hb
      have hg := eq_of_beq hb.1
      subst hg
      cases ha : cE n c a with
      | none => rw [ha] at h; cases h
      | some a' =>
        rw [ha] at h
        cases h
        obtain ⟨ta, h1, _, h3, _⟩ := ih.e X c W a a' o ha
        have z := o.gl _ _ hl
        exact good_of (pe_fld h1 (base_of hb.2)) (sem_fld z.1 z.2 h3)
    · cases h
  · rename_i a es p1 p2 p3
    split at h
    · rename_i a' es' ha he
      cases h
      obtain ⟨ta, h1, _, h3, _⟩ := ih.e X c W a a' o ha
      obtain ⟨⟨t, g1, g2, _⟩, _⟩ := ih.es X c W es es' o he
      exact good_of (pe_dget (hu1 o) h1 (pe_tup g1) (fun _ _ => rfl)) (sem_dgt h3 g2)
    · cases h
  · rename_i a lo hi p1 p2
    split at h
    · rename_i a' lo' hi' ha hl hh
      cases h
      obtain ⟨ta, h1, _, h3, _⟩ := ih.e X c W a a' o ha
      obtain ⟨tl, g1, g2⟩ := ih.o X c W lo lo' o hl
      obtain ⟨th, f1, f2⟩ := ih.o X c W hi hi' o hh
      exact good_of (pe_slice sl_all h1 g1 f1) (sem_slc h3 g2 f2)
    · cases h
  · rename_i a p1 p2 p3 p4 p5
    cases ha : cE n c a with
    | none => rw [ha] at h; cases h
    | some a' =>
      rw [ha] at h
      cases h
      obtain ⟨ta, h1, _, h3, _⟩ := ih.e X c W a a' o ha
      exact good_of (pe_revL h1) (sem_rev h3)
  · rename_i a i p _ _ _
    split at h
    · cases h
    rename_i hs
    split at h
    · rename_i a' i' ha hi
      cases h
      obtain ⟨ta, h1, _, h3, _⟩ := ih.e X c W a a' o ha
      obtain ⟨ti, g1, _, g3, _⟩ := ih.e X c W i i' o hi
      exact good_of (pe_ix ix_seq h1 g1 (plainIx_of (by simpa using hs))) (sem_idx h3 g3)
    · cases h
  · rename_i ob m ap args cp
    split at h
    · rename_i hm
      have hm' := eq_of_beq hm
      subst hm'
      split at h
      · rename_i e
        split at h
        case isFalse => cases h
        rename_i hb
        simp only [Bool.and_eq_true, Bool.not_eq_true'] at hb
        split at h
        · rename_i o' e' ho he
          cases h
          obtain ⟨ta, h1, _, h3, _⟩ := ih.e X c W ob o' o ho
          obtain ⟨tb, g1, _, g3, _⟩ := ih.e X c W e e' o he
          exact good_of (pe_join h1 g1 (nostar_cons hb.1.1) (base_of hb.2) hb.1.2) (sem_join h3 g3)
        · cases h
      · cases h
    · split at h
      · rename_i cn m' i np hl
        split at h
        case isFalse => cases h
        rename_i hb
        simp only [Bool.and_eq_true, decide_eq_true_eq] at hb
        split at h
        · rename_i o' es' ho he
          cases h
          exact good_meth o hl (eq_of_beq hb.1.1.1.1) hb.1.1.2 hb.1.2 hb.2 (ih.e X c W ob o' o ho) (ih.es X c W _ es' o he) (fun e => by subst e; exact cEs_nil he)
        · cases h
      · cases h
  · rename_i f p args pos
    split at h
    · split at h
      case isFalse => cases h
      rename_i hgn
      simp only [Bool.and_eq_true] at hgn
      split at h
      · rename_i i np hl
        split at h
        · rename_i e
          cases h
          subst e
          exact good_call0 o hgn.1 hgn.2 hl
        · cases h
      · rename_i i np hl
        split at h
        · rename_i e
          cases h
          subst e
          exact good_make0 o hgn.1 hgn.2 hl
        · cases h
      · cases h
    rename_i a rest
    split at h
    case isFalse => cases h
    rename_i hgn
    simp only [Bool.and_eq_true] at hgn
    split at h
    · rename_i i np hl
      split at h
      case isFalse => cases h
      cases he : cEs n c (a :: rest) with
      | none => rw [he] at h; cases h
      | some es' =>
        rw [he] at h
        cases h
        exact good_call o hgn.1 hgn.2 hl (ih.es X c W _ es' o he)
    · rename_i i np hl
      split at h
      case isFalse => cases h
      cases he : cEs n c (a :: rest) with
      | none => rw [he] at h; cases h
      | some es' =>
        rw [he] at h
        cases h
        exact good_make o hgn.1 hgn.2 hl (ih.es X c W _ es' o he)
    · rename_i hl
      have hb : L2.Gl X f ∧ X.mg f = none ∧ (f == ("__debug__" : Str)) = false ∧ f ≠ "__name__" := ⟨glob_of o hgn.1, o.gl f _ hl, (ok_dbg hgn.2).1, (ok_dbg hgn.2).2.2⟩
      split at h
      · rename_i hf
        split at h
        · rename_i t tp
          split at h
          case isFalse => cases h
          rename_i hbt
          simp only [Bool.and_eq_true, Bool.not_eq_true'] at hbt
          split at h
          · rename_i a' t' ha ht
            cases h
            obtain ⟨ta, h1, _, h3, _⟩ := ih.e X c W a a' o ha
            have ht1 := isBlt_ok o hbt.1
            have ht2 := tyOf_ok ht
            have hv : bootBuiltins f = some (.builtin "isinstance") := by
              rw [eq_of_beq hf]
              decide +kernel
            exact good_of (pe_callB call_isi hb.1 hb.2.1 hv (pa_cons h1 (pa_cons (pe_bltn ht1.1 ht1.2.1 ht2.1 (v := .ty (tyN t')) rfl ht2.2.2 ht2.2.1) pa_nil) (nostar_cons hbt.2)) hb.2.2.2 hb.2.2.1 (nostar_cons hbt.2) rfl) (sem_isi t' h3)
          · cases h
        · cases h
      · split at h
        · rename_i g es' hf he
          cases h
          exact good_blt o hb hf (ih.es X c W _ es' o he)
        · cases h
    · cases h
  · rename_i elt tg iter ifs scope pos
    have hc : cE (n + 1) c (.ListComp elt [⟨tg, iter, ifs, 0⟩] scope pos) = some ir := by simp only [cE]; exact h
    obtain ⟨own, g, it, e', t, rfl, h1, h2, h3, h4, h5, h6, h7⟩ := comp_parts ih o hc
    exact good_comp o.calm o.nd h1 h2 h3 h4 h5 h6 h7
  · cases h
theorem cmp_bl {a b : E} {o : C} : ∀ r s d s', evE cl (.cmp o a b) r s = .ok d s' → ∃ c, d = .bl c := by
  intro r s d s' h
  simp only [evE] at h
  cases e1 : evE cl a r s with
  | bad => rw [e1] at h; cases h
  | exc _ _ => rw [e1] at h; cases h
  | ok x s1 =>
    rw [e1, bind_ok] at h
    cases e2 : evE cl b r s1 with
    | bad => rw [e2] at h; cases h
    | exc _ _ => rw [e2] at h; cases h
    | ok y s2 =>
      rw [e2, bind_ok] at h
      cases e3 : cmpD o x y with
      | none => rw [e3] at h; cases h
      | some c =>
        rw [e3] at h
        cases h
        exact ⟨c, rfl⟩
theorem chain_bl {a b d : E} {o p : C} : ∀ r s z s', evE cl (.chain o p a b d) r s = .ok z s' → ∃ c, z = .bl c := by
  intro r s z s' h
  simp only [evE] at h
  cases e1 : evE cl a r s with
  | bad => rw [e1] at h; cases h
  | exc _ _ => rw [e1] at h; cases h
  | ok x s1 =>
    rw [e1, bind_ok] at h
    cases e2 : evE cl b r s1 with
    | bad => rw [e2] at h; cases h
    | exc _ _ => rw [e2] at h; cases h
    | ok y s2 =>
      rw [e2, bind_ok] at h
      cases e3 : cmpD o x y with
      | none => rw [e3] at h; cases h
      | some c =>
        rw [e3] at h
        cases c with
        | false => cases h; exact ⟨_, rfl⟩
        | true =>
          simp only at h
          cases e4 : evE cl d r s2 with
          | bad => rw [e4] at h; cases h
          | exc _ _ => rw [e4] at h; cases h
          | ok w s3 =>
            rw [e4, bind_ok] at h
            cases e5 : cmpD p y w with
            | none => rw [e5] at h; cases h
            | some c =>
              rw [e5] at h
              cases h
              exact ⟨c, rfl⟩
theorem snd_c (ih : Snd xr cl ro k n) : ∀ X c W a os bs p ir, XOk xr cl ro X c W k → cE (n + 1) c (.Compare a os bs p) = some ir → GoodT xr cl X W (.Compare a os bs p) (.tru ir) := by
  intro X c W a os bs p ir o h
  simp only [cE] at h
  split at h
  all_goals first
    | (rename_i e _ _; cases e; done)
    | skip
  · rename_i e; cases e
  · rename_i e; cases e
  · rename_i e; cases e
  · rename_i e; cases e
  · rename_i a1 op b p1 e
    cases e
    split at h
    · cases h
    rename_i hsd
    split at h
    · rename_i o' a' b' ho ha hb
      cases h
      obtain ⟨ta, h1, _, h3, _⟩ := ih.e X c W a a' o ha
      obtain ⟨tb, g1, _, g3, _⟩ := ih.e X c W b b' o hb
      rw [cOf_cp ho]
      exact ⟨_, pt_cmpR (op_cmp (hu64 o) o') h1 g1 (behind_of (by simpa using hsd)), sem_truB ((sem_cmp o' h3 g3).toB (ro := ro) rfl) cmp_bl⟩
    · cases h
  · rename_i a1 op1 op2 b d p1 e
    cases e
    split at h
    · cases h
    rename_i hsd
    simp only [Bool.or_eq_true, not_or, Bool.not_eq_true] at hsd
    split at h
    · rename_i o1 o2 a' b' d' ho1 ho2 ha hb hd
      cases h
      obtain ⟨ta, h1, _, h3, _⟩ := ih.e X c W a a' o ha
      obtain ⟨tb, g1, _, g3, _⟩ := ih.e X c W b b' o hb
      obtain ⟨td, f1, _, f3, _⟩ := ih.e X c W d d' o hd
      rw [cOf_cp ho1, cOf_cp ho2]
      exact ⟨_, pt_chain (op_cmp (hu64 o) o1) (op_cmp (hu64 o) o2) h1 g1 f1 (last_of hsd.1 hsd.2), sem_truB ((sem_chain o1 o2 h3 g3 f3).toB (ro := ro) rfl) chain_bl⟩
    · cases h
  all_goals first
    | (cases h; done)
    | (rename_i e; cases e)
theorem snd_rest (ih : Snd xr cl ro k n) : Snd xr cl ro k (n + 1) where
  e := snd_e ih
  c := snd_c ih
  es := fun X c W es ir o h => by
    simp only [cEs] at h
    split at h
    · cases h
      exact ⟨⟨_, pa_nil, sem_nil, sem_nilB⟩, fun e he => by simp at he⟩
    · rename_i e r
      split at h
      · cases h
      rename_i hs
      split at h
      · rename_i e' r' he hr
        cases h
        obtain ⟨t, h1, h2, h3, _⟩ := ih.e X c W e e' o he
        obtain ⟨⟨u, g1, g2, g3⟩, hall⟩ := ih.es X c W r r' o hr
        have hs' : isStar e = false := by simpa using hs
        refine ⟨⟨_, pa_cons h1 g1 (nostar_cons hs'), sem_cons h2 g2, sem_consB h3 g3⟩, fun x hx => ?_⟩
        rcases List.mem_cons.mp hx with rfl | hx
        · exact hs'
        · exact hall x hx
      · cases h
  v := fun X c W op es ir pos o h => by
    simp only [cV] at h
    split at h
    · rename_i a
      obtain ⟨t, h1, h2, h3, h4⟩ := ih.e X c W a ir o h
      exact ⟨t, pe_one h1, h2, h3, h4⟩
    · rename_i a b r
      split at h
      · rename_i a' b' ha hb
        obtain ⟨t, h1, h2, h3, _⟩ := ih.e X c W a a' o ha
        obtain ⟨u, g1, g2, g3, _⟩ := ih.v X c W op (b :: r) b' pos o hb
        cases op with
        | And => cases h; exact good_of (pe_and h1 g1) (sem_andv h3 g3)
        | Or => cases h; exact good_of (pe_or h1 g1) (sem_orv h3 g3)
      · cases h
    · cases h
  t := fun X c W e ir o h => by
    simp only [cT] at h
    split at h
    · rename_i a p
      cases ha : cT n c a with
      | none => rw [ha] at h; cases h
      | some a' =>
        rw [ha] at h
        cases h
        obtain ⟨t, h1, h2⟩ := ih.t X c W a a' o ha
        exact ⟨_, pt_not h1, sem_tnot h2⟩
    · rename_i op es p
      obtain ⟨t, h1, h2⟩ := ih.w X c W op es ir p o h
      exact ⟨t, h1.pt, h2⟩
    · rename_i a os bs p
      cases hc : cE n c (.Compare a os bs p) with
      | none => rw [hc] at h; cases h
      | some e' =>
        rw [hc] at h
        cases h
        exact ih.c X c W a os bs p e' o hc
    · split at h
      · rename_i hp
        cases he : cE n c e with
        | none => rw [he] at h; cases h
        | some e' =>
          rw [he] at h
          cases h
          exact (ih.e X c W e e' o he).toT hp
      · cases h
  w := fun X c W op es ir pos o h => by
    simp only [cW] at h
    split at h
    · rename_i a
      obtain ⟨t, h1, h2⟩ := ih.t X c W a ir o h
      cases op with
      | And => exact ⟨t, pw_and1 h1, h2⟩
      | Or => exact ⟨t, pw_or1 h1, h2⟩
    · rename_i a b r
      split at h
      · rename_i a' b' ha hb
        obtain ⟨t, h1, h2⟩ := ih.t X c W a a' o ha
        obtain ⟨u, g1, g2⟩ := ih.w X c W op (b :: r) b' pos o hb
        cases op with
        | And => cases h; exact ⟨_, pw_and h1 g1, sem_tand h2 g2⟩
        | Or => cases h; exact ⟨_, pw_or h1 g1, sem_tor h2 g2⟩
      · cases h
    · cases h
  o := fun X c W e ir o h => by
    simp only [cO] at h
    split at h
    · cases h; exact ⟨_, po_none, sem_none⟩
    · rename_i e
      cases he : cE n c e with
      | none => rw [he] at h; cases h
      | some e' =>
        rw [he] at h
        cases h
        obtain ⟨t, h1, _, h3, _⟩ := ih.e X c W e e' o he
        exact ⟨_, po_some h1, sem_some h3⟩
  i := fun X c W tg e ir o h => by
    have seq : ∀ ir, (cE n c e).map I.seq = some ir → GoodI xr cl X W tg e ir := fun ir h => by
      cases he : cE n c e with
      | none => rw [he] at h; cases h
      | some e' =>
        rw [he] at h
        cases h
        obtain ⟨t, h1, h2, _, _⟩ := ih.e X c W e e' o he
        exact ⟨_, pi_seq h1, sem_seq h2⟩
    simp only [cI] at h
    split at h
    · rename_i f p a pos
      split at h
      · rename_i hb
        simp only [Bool.and_eq_true, Bool.not_eq_true'] at hb
        have hk := isBlt_ok o hb.1.1
        have hf := eq_of_beq hb.1.2
        cases ha : cE n c a with
        | none => rw [ha] at h; cases h
        | some a' =>
          rw [ha] at h
          cases h
          obtain ⟨t, h1, _, h3, _⟩ := ih.e X c W a a' o ha
          subst hf
          have hs1 : starEach [a] X.env = [(false, eval a X.env)] := nostar_cons hb.2
          exact ⟨_, pi_range1 hk.1 hk.2.1 (pa_cons h1 pa_nil hs1) hs1, sem_rng1 h3⟩
      · split at h
        · rename_i hb
          simp only [Bool.and_eq_true, Bool.not_eq_true'] at hb
          have hk := isBlt_ok o hb.1.1.1
          have hf := eq_of_beq hb.1.1.2
          cases ha : cE n c a with
          | none => rw [ha] at h; cases h
          | some a' =>
            rw [ha] at h
            cases h
            obtain ⟨t, h1, h2, _, _⟩ := ih.e X c W a a' o ha
            subst hf
            have hs1 : starEach [a] X.env = [(false, eval a X.env)] := nostar_cons hb.2
            cases tg with
            | Tuple elts kk tp => exact ⟨_, pi_enum hk.1 hk.2.1 (pa_cons h1 pa_nil hs1) hs1, sem_enum h2⟩
            | _ => exact absurd hb.1.2 (by simp [isTupE])
        · exact seq ir h
    · rename_i f p a b pos
      split at h
      · rename_i hb
        simp only [Bool.and_eq_true, Bool.not_eq_true'] at hb
        have hk := isBlt_ok o hb.1.1.1
        have hf := eq_of_beq hb.1.1.2
        split at h
        · rename_i a' b' ha hb'
          cases h
          obtain ⟨t, h1, _, h3, _⟩ := ih.e X c W a a' o ha
          obtain ⟨u, g1, _, g3, _⟩ := ih.e X c W b b' o hb'
          subst hf
          have s2 : starEach [b] X.env = [(false, eval b X.env)] := nostar_cons hb.2
          have s1 : starEach [a, b] X.env = [(false, eval a X.env), (false, eval b X.env)] := by rw [nostar_cons hb.1.2, s2]
          exact ⟨_, pi_range2 hk.1 hk.2.1 (pa_cons h1 (pa_cons g1 pa_nil s2) (nostar_cons hb.1.2)) s1 s2, sem_rng2 h3 g3⟩
        · cases h
      · split at h
        · rename_i hb
          simp only [Bool.and_eq_true, Bool.not_eq_true'] at hb
          have hk := isBlt_ok o hb.1.1.1.1
          have hf := eq_of_beq hb.1.1.1.2
          split at h
          · rename_i a' b' ha hb'
            cases h
            obtain ⟨t, h1, h2, _, _⟩ := ih.e X c W a a' o ha
            obtain ⟨u, g1, g2, _, _⟩ := ih.e X c W b b' o hb'
            subst hf
            have s2 : starEach [b] X.env = [(false, eval b X.env)] := nostar_cons hb.2
            cases tg with
            | Tuple elts kk tp => exact ⟨_, pi_zip hk.1 hk.2.1 (pa_cons h1 (pa_cons g1 pa_nil s2) (nostar_cons hb.1.2)) (nostar_cons hb.1.2) (nostar_all [b] _ _ fun e he => by rw [List.mem_singleton.mp he]; exact hb.2), sem_zip h2 g2⟩
            | _ => exact absurd hb.1.1.2 (by simp [isTupE])
          · cases h
        · exact seq ir h
    · exact seq ir h
theorem snd_all : ∀ n, Snd xr cl ro k n
  | 0 => by
    constructor
    all_goals
      intros
      rename_i h
      cases h
  | n + 1 => snd_rest (snd_all n)
end
end PyE

/-! All that is read of statements is good. -/
namespace PyE
open PySem PySem.Spec PyProof.Rows L2
section
variable {xr : Xc → Value → Option Addr → Hp → Prop} {cl : Nat → List D → Store → Res D} {ro : Nat → Bool} {k n : Nat} {X : Cx} {c : Cc} {W : WX}
def GoodS (xr : Xc → Value → Option Addr → Hp → Prop) (cl : Nat → List D → Store → Res D) (ro : Nat → Bool) (X : Cx) (W : WX) (s : Stmt) (ir : S) : Prop := ∃ t, PS X s t ∧ SemS X.K xr W cl ro t ir
def GoodSs (xr : Xc → Value → Option Addr → Hp → Prop) (cl : Nat → List D → Store → Res D) (ro : Nat → Bool) (X : Cx) (W : WX) (s : List Stmt) (ir : S) : Prop := ∃ t, PSs X s t ∧ SemS X.K xr W cl ro t ir
theorem swap_no {e : Expr} {l : Nat} {env : PySem.Env} (h : isComp e = false) : swapsWith e none l env = Pure.pure false := by
  cases e <;> first | rfl | cases h
theorem swap_name {e t : Expr} {l : Nat} {env : PySem.Env} (h : isComp e = false) : swapsWith e (some t) l env = Pure.pure false := by
  cases e <;> first | rfl | cases h
theorem swap_sub {e o i : Expr} {p : Pos} {l : Nat} {env : PySem.Env} (h : isComp e = false) : swapsWithSole [.Subscript o i p] e l env = Pure.pure false := by
  cases e <;> first | rfl | cases h
theorem swap_sub1 {e o i : Expr} {p : Pos} {l : Nat} {env : PySem.Env} (h : isComp e = false) : swapsWith e (some (.Subscript o i p)) l env = Pure.pure false := by
  cases e <;> first | rfl | cases h
theorem swap_tup {e : Expr} {ts : List Expr} {kk l : Nat} {p : Pos} {env : PySem.Env} (h : isComp e = false) : swapsWithSole [.Tuple ts kk p] e l env = Pure.pure false := by
  cases e <;> first | rfl | cases h
theorem stores_sub {e o i : Expr} {p : Pos} {env : PySem.Env} : swappedStores [.Subscript o i p] e env = Pure.pure none := rfl
theorem stores_tup {e : Expr} {ts : List Expr} {kk : Nat} {p : Pos} {env : PySem.Env} (h : isTupE e = false) : swappedStores [.Tuple ts kk p] e env = Pure.pure none := by
  cases e <;> first | rfl | cases h
theorem star_any {vs : List Expr} : (vs.any fun e => match e with | .Starred .. => true | _ => false) = vs.any isStar := by
  congr 1
theorem names_eq {sc : Scope} {env : PySem.Env} (hsc : env.scope = sc) (line : Nat) : ∀ ts : List Expr, (ts.filterMap fun
    | .Name id pos => if env.kindOf id == some .local && pos.line == line then some id else none
    | _ => none) = swapNames sc line ts
  | [] => rfl
  | t :: r => by
    have ih := names_eq hsc line r
    rw [List.filterMap_cons]
    cases t with
    | Name x p =>
      simp only [swapNames]
      have e : env.kindOf x = sc.names.lookup x := by rw [← hsc]; rfl
      rw [e]
      by_cases h : (sc.names.lookup x == some .local && p.line == line) = true
      · simp only [h, if_true]
        rw [← ih]
      · simp only [h]
        rw [← ih]
        all_goals rfl
    | _ =>
      simp only [swapNames]
      exact ih
theorem blockKind_of {env : PySem.Env} (hk : env.scope.kind = .function) : env.blockKind = .function := by
  unfold Env.blockKind
  rw [hk]
  rfl
theorem stores_no {ts vs : List Expr} {kk k2 : Nat} {p p2 : Pos} {env : PySem.Env} (hk : env.scope.kind = .function) (h : noSwap ts vs = true) : swappedStores [.Tuple ts kk p] (.Tuple vs k2 p2) env = Pure.pure none := by
  have hb := blockKind_of hk
  simp only [noSwap, Bool.or_eq_true] at h
  unfold swappedStores
  simp only [hb]
  by_cases h1 : (!(ts.length == 2 || ts.length == 3) || vs.length != ts.length) = true
  · simp only [h1, Bool.true_or, if_true]
  · have h3 : vs.all (foldedForSure 8) = true := by
      rcases h with h | h
      · exact absurd (by simpa using h) h1
      · exact h
    simp only [Bool.not_eq_true] at h1
    simp only [h1, Bool.false_or, h3, if_true]
    split
    · rfl
    · split
      · rfl
      · split
        · rfl
        · rfl
theorem stores_yes {ts vs : List Expr} {kk k2 : Nat} {p p2 : Pos} {sc : Scope} {env : PySem.Env} (hk : env.scope.kind = .function) (hsc : env.scope = sc) (h : noSwap ts vs = false) (hd : swapDec sc ts vs = true) :
    swappedStores [.Tuple ts kk p] (.Tuple vs k2 p2) env = Pure.pure (some (swapNames sc (headLine ts) ts)) := by
  have hb := blockKind_of hk
  simp only [noSwap, Bool.or_eq_false_iff] at h
  simp only [swapDec, Bool.and_eq_true, Bool.not_eq_true'] at hd
  obtain ⟨⟨⟨⟨d1, d2⟩, d3⟩, d4⟩, d5⟩ := hd
  have hl : ((ts.head?.map (·.pos.line)).getD 0) = headLine ts := by
    cases ts <;> rfl
  have hn := names_eq hsc (headLine ts) ts
  have e1 : (swapNames sc (headLine ts) ts).length = ts.length := by simpa using d1
  have e2 : (swapNames sc (headLine ts) ts).eraseDups.length = (swapNames sc (headLine ts) ts).length := by simpa using d2
  unfold swappedStores
  simp only [hb, h.1.1, h.1.2, hl]
  simp only [Bool.false_or]
  generalize hs : vs.any _ = b
  have hs' : b = false := hs.symm.trans (star_any.trans d5)
  subst hs'
  generalize hq : List.filterMap _ ts = q
  have hq' : q = swapNames sc (headLine ts) ts := hq.symm.trans hn
  rw [hq']
  simp only [e1, e2, bne_self_eq_false, Bool.or_self, d3, d4]
  rfl
theorem swapNames_len (sc : Scope) (l : Nat) : ∀ ts : List Expr, (swapNames sc l ts).length ≤ ts.length
  | [] => Nat.le_refl _
  | t :: r => by
    have ih := swapNames_len sc l r
    cases t <;> simp only [swapNames] <;> first | (split <;> simp only [List.length_cons] <;> omega) | (simp only [List.length_cons]; omega)
theorem swapNames_cons {sc : Scope} {l : Nat} {x : Str} {p : Pos} {r : List Expr} (h : (swapNames sc l (.Name x p :: r)).length = r.length + 1) : swapNames sc l (.Name x p :: r) = x :: swapNames sc l r ∧ (swapNames sc l r).length = r.length := by
  have := swapNames_len sc l r
  simp only [swapNames] at h ⊢
  split at h
  · rename_i c
    rw [if_pos c]
    exact ⟨rfl, by simpa using h⟩
  · omega
theorem swapNames2 {sc : Scope} {x y : Str} {p1 p2 : Pos} {vs : List Expr} (h : swapDec sc [.Name x p1, .Name y p2] vs = true) : swapNames sc (headLine [.Name x p1, .Name y p2]) [.Name x p1, .Name y p2] = [x, y] := by
  simp only [swapDec, Bool.and_eq_true, beq_iff_eq] at h
  obtain ⟨e1, h1⟩ := swapNames_cons h.1.1.1.1
  obtain ⟨e2, h2⟩ := swapNames_cons h1
  rw [e1, e2]
  rfl
theorem swapNames3 {sc : Scope} {x y z : Str} {p1 p2 p3 : Pos} {vs : List Expr} (h : swapDec sc [.Name x p1, .Name y p2, .Name z p3] vs = true) : swapNames sc (headLine [.Name x p1, .Name y p2, .Name z p3]) [.Name x p1, .Name y p2, .Name z p3] = [x, y, z] := by
  simp only [swapDec, Bool.and_eq_true, beq_iff_eq] at h
  obtain ⟨e1, h1⟩ := swapNames_cons h.1.1.1.1
  obtain ⟨e2, h2⟩ := swapNames_cons h1
  obtain ⟨e3, h3⟩ := swapNames_cons h2
  rw [e1, e2, e3]
  rfl
theorem good_append {o e : Expr} {m : Str} {ap cp p : Pos} {o' e' : E} (ok : XOk xr cl ro X c W k) (hm : m = ("append" : Str)) (hs : isStar e = false) (hl : (ap.endLine == cp.line) = true) (hr : recvOk o = true) (ho : GoodE xr cl ro X W o o') (he : GoodE xr cl ro X W e e') :
    GoodS xr cl ro X W (.Expr (.Call (.Attribute o m ap) [e] [] cp) p) (.app o' e') := by
  subst hm
  obtain ⟨t, _, _, _, h4⟩ := id ho
  obtain ⟨to, h1, h2, h3, h4⟩ := ho
  obtain ⟨te, g1, g2, g3, g4⟩ := he
  have s1 : starEach [e] X.env = [(false, eval e X.env)] := nostar_cons hs
  refine ⟨_, ps_expr (pe_bm PySem.F.plainAttrs_list PySem.F.slot_list_append PySem.F.type_list_append mt_append h1 (pa_cons g1 pa_nil s1) (base_of hr) (by rw [s1]; rfl) hl s1 rfl) rfl, semS_app h4 g2⟩
theorem good_setComp {x : Str} {px spos : Pos} {i : Nat} {elt tg iter : Expr} {ifs : List Expr} {scope : Scope} {own : List (Str × Nat)} {pos : Pos} {g : Tg} {it : I} {e' : E} {t : To} (calm : X.calm = true) (nd : X.N.Nodup) (hN : X.N[i]? = some x) (hyl : X.env.scope.names.lookup x = some .local)
    (hsw : swapsWith (.ListComp elt [⟨tg, iter, ifs, 0⟩] scope pos) (some (.Name x px)) spos.line X.env = Pure.pure true) (hi : GoodI xr cl X W tg iter it) (hs : isSetD iter = false) (ok : BlkOk X.N X.env.scope scope own)
    (hsl : ∀ i ∈ slotsOf g, i ∈ own.map (·.2)) (hg : ∀ b, ∃ t, PG (bkX X scope b) tg t ∧ SemG X.K t g (slotsOf g)) (he : ∀ b, GoodE xr cl ro (bkX X scope b) W0 elt e') (ht : ∀ b, ∃ tt, PTs (bkX X scope b) ifs tt ∧ SemTo X.K xr W0 cl tt t) :
    GoodS xr cl ro X W (.Assign [.Name x px] (.ListComp elt [⟨tg, iter, ifs, 0⟩] scope pos) spos) (.asg (.name i) (.comp e' g it t (own.map (·.2)))) := by
  obtain ⟨wi, i1, i2⟩ := hi
  have hG := fun b => Classical.choose_spec (hg b)
  have hE := fun b => Classical.choose_spec (he b)
  have hT := fun b => Classical.choose_spec (ht b)
  refine ⟨_, ps_setLc (i := i) (g := fun v σ H Q => ∀ b, Classical.choose (hg b) v σ H Q) (tt := fun σ H Q => ∀ b, Classical.choose (ht b) σ H Q) (te := fun σ H Q => ∀ b, Classical.choose (he b) σ H Q) calm nd hN hyl hsw i1 ok (fun s H C cl' fp => ⟨fun pins s' σ H' v u Q I r q => (hG (s, H, C, cl', fp)).1.run pins s' σ H' v u Q I r (q (s, H, C, cl', fp))⟩)
    (fun s H C cl' fp => ⟨fun pins s' σ H' Q I q => (hT (s, H, C, cl', fp)).1.run pins s' σ H' Q I (q (s, H, C, cl', fp))⟩) (fun s H C cl' fp => ⟨fun pins s' σ H' Q I q => (hE (s, H, C, cl', fp)).1.run pins s' σ H' Q I (q (s, H, C, cl', fp))⟩) (fold_of hs), ?_⟩
  refine semS_asg (sem_comp i2 (fun H O ph r σ st d v r2 Q p h e k b => (hG b).2 H O ph r σ st d v r2 Q p h e k) hsl (fun H O ph r σ st Q P u w b => (hT b).2 H O ph r σ st Q P u w) fun H O ph r σ st Q P u w b => (hE b).2.1 H O ph r σ st Q P u w) (semGS_name i)
theorem lookup_loc {x : Str} (o : XOk xr cl ro X c W k) (h : (c.sc.names.lookup x == some .local) = true) : X.env.scope.names.lookup x = some .local := by
  rw [o.hsc]
  simpa using h
theorem ps_never {s : Stmt} : PS X s (fun _ _ _ => False) := ⟨fun _ _ _ _ _ _ h => h.elim⟩
theorem conR_ok {kk : Const} {d : D} (h : conR kk = some d) : ∃ v : V, (∀ (X : Cx) (j : Nat) (p : Pos), PE X (.Constant kk j p) (tC v)) ∧ (∀ (K : PySem.W.Frag) (H : Hp) (O : Addr → Prop) (ph : List Addr), Rep K H O ph d v) ∧ ∀ ds, d ≠ .lst ds := by
  cases kk with
  | none =>
    cases h
    exact ⟨.non, fun _ _ _ => pe_non, fun _ _ _ _ => rep_non, fun _ z => by cases z⟩
  | bool b =>
    cases h
    exact ⟨.bl b, fun _ _ _ => pe_bl, fun _ _ _ _ => rep_bl, fun _ z => by cases z⟩
  | _ => cases h
theorem snd_s : ∀ (n : Nat) (X : Cx) (c : Cc) (W : WX), PassesOwn (model X.prog X.w) X.A X.env X.xe → XOk xr cl ro X c W k → X.stack = X.env :: X.outer → X.env.frame = some X.env.locals →
    (∀ s ir, cS n c s = some ir → GoodS xr cl ro X W s ir) ∧ (∀ s ir, cSs n c s = some ir → GoodSs xr cl ro X W s ir)
  | 0, X, c, W, po, o, hst, hfr => ⟨fun _ _ h => (by cases h), fun _ _ h => (by cases h)⟩
  | n + 1, X, c, W, po, o, hst, hfr => by
    obtain ⟨ihS, ihB⟩ := snd_s n X c W po o hst hfr
    have E := snd_all (xr := xr) (cl := cl) (ro := ro) (k := k) 60
    refine ⟨fun s ir h => ?_, fun ss ir h => ?_⟩
    · simp only [cS] at h
      split at h
      · rename_i x px a es pc p
        split at h
        · cases h
          exact ⟨_, ps_never, semS_never⟩
        · split at h
          case isFalse => cases h
          rename_i hgn
          simp only [Bool.and_eq_true] at hgn
          split at h
          · rename_i es' hl he
            cases h
            obtain ⟨⟨t, h1, h2, _⟩, hs⟩ := E.es X c W _ es' o he
            obtain ⟨e1, e2, e3, e4, e5, e6, e7⟩ := o.gl _ _ hl
            exact ⟨_, ps_raise o.calm o.tk (pmk_ownA PySem.F.excBase_ValueError e2 e1 e3 (raises_own e4 e5) (glob_of o hgn.1) h1 (ok_dbg hgn.2).1 (nostar_cons (hs a List.mem_cons_self)) (nostar_all es _ _ fun e he => hs e (List.mem_cons_of_mem _ he))), semS_raise e6 h2⟩
          · cases h
      · rename_i b x px kk j pk pr ph_ p
        split at h
        case isFalse => cases h
        rename_i hgn
        simp only [Bool.and_eq_true] at hgn
        split at h
        · rename_i d b' hl hk hb
          cases h
          obtain ⟨e1, e2, e3, e4, e5, e6, e7⟩ := o.gl _ _ hl
          obtain ⟨v, v1, v2, v3⟩ := conR_ok hk
          have hB : ∀ (W' : WX) (q : {q : List (Addr × Obj) × (Value → Shared → Prop) // Takes (X.tr q.1 q.2) W' ∧ PassesOwn (model X.prog X.w) X.A X.env q.2}), GoodSs xr cl ro (X.tr q.1.1 q.1.2) W' b b' := fun W' q =>
            (snd_s n (X.tr q.1.1 q.1.2) c W' q.2.2 ⟨o.hN, o.nd, o.hsc, o.kind, o.calm, o.room, q.2.1, o.fnl, o.gl⟩ hst hfr).2 b b' hb
          have hC := fun W' q => Classical.choose_spec (hB W' q)
          refine ⟨_, ps_try_only (tb := fun W' D σ H => ∀ q, Classical.choose (hB W' q) D σ H) (ts := fun _ _ _ => tRet (tC v)) hst hfr ⟨glob_of o hgn.1, (ok_dbg hgn.2).1, .inl e1⟩ o.tk (fun W' pn xe tk po' => ?_) (fun _ _ _ _ _ _ _ => pss_one (ps_ret (v1 _ _ _))),
            semS_tryR (v2 X.K) v3 e7 (fun _ _ _ _ _ _ z => z) fun W' Oc H0 H O ph r σ st D P w q => (hC W' q).2 Oc H0 H O ph r σ st D P w⟩
          exact ⟨fun pins s σ H D I h => (hC W' ⟨(pn, xe), tk, po'⟩).1.run pins s σ H D I (h ⟨(pn, xe), tk, po'⟩)⟩
        · cases h
      · rename_i ob f q1 e p
        split at h
        · cases h
        rename_i hc
        simp only [Bool.not_eq_true] at hc
        split at h
        · rename_i cn g o' e' hl ho he
          split at h
          case isFalse => cases h
          rename_i hg
          have hg := eq_of_beq hg
          subst hg
          cases h
          obtain ⟨t, h1, h2, h3, h4⟩ := E.e X c W _ e' o he
          obtain ⟨u, g1, g2, g3, g4⟩ := E.e X c W _ o' o ho
          have z := o.gl _ _ hl
          refine ⟨_, ps_fld g1 h1 ?_, semS_fset z.1 z.2 h2 g3⟩
          cases e <;> first | rfl | cases hc
        · cases h
      · rename_i ob f q1 op e p
        split at h
        · rename_i cn g op' o' e' hl hop ho he
          split at h
          case isFalse => cases h
          rename_i hg
          have hg := eq_of_beq hg
          subst hg
          cases h
          obtain ⟨t, h1, h2, h3, h4⟩ := E.e X c W _ e' o he
          obtain ⟨u, g1, g2, g3, g4⟩ := E.e X c W _ o' o ho
          have z := o.gl _ _ hl
          rw [bOf_op hop]
          exact ⟨_, ps_fldaug g1 h1 (in_aug op'), semS_faug op' z.1 z.2 h3 g3⟩
        · cases h
      · cases h; exact ⟨_, ps_pass, semS_skip⟩
      · cases h; exact ⟨_, ps_break, semS_brk⟩
      · cases h; exact ⟨_, ps_continue, semS_cont⟩
      · cases h; exact ⟨_, ps_retN, semS_retN⟩
      · rename_i e p
        cases he : cE 60 c e with
        | none => rw [he] at h; cases h
        | some e' =>
          rw [he] at h
          cases h
          obtain ⟨t, h1, h2, h3, h4⟩ := E.e X c W e e' o he
          cases hv : varOf e' with
          | none => exact ⟨_, ps_ret h1, semS_ret h2 hv⟩
          | some i =>
            have := varOf_eq hv
            subst this
            exact ⟨_, ps_ret h1, semS_retV i h4⟩
      · rename_i ob m ap e cp p
        split at h
        · rename_i hm
          split at h
          case isFalse => cases h
          rename_i hc
          simp only [Bool.and_eq_true, Bool.not_eq_true'] at hc
          split at h
          · rename_i o' e' ho he
            cases h
            exact good_append o (eq_of_beq hm) hc.1.1 hc.1.2 hc.2 (E.e X c W ob o' o ho) (E.e X c W e e' o he)
          · cases h
        · cases he : cE 60 c (.Call (.Attribute ob m ap) [e] [] cp) with
          | none => rw [he] at h; cases h
          | some e' =>
            rw [he] at h
            cases h
            obtain ⟨t, h1, h2, h3, h4⟩ := E.e X c W _ e' o he
            exact ⟨_, ps_expr h1 (swap_no rfl), semS_exp h3⟩
      · cases h; exact ⟨_, ps_doc, semS_skip⟩
      · rename_i e p _ _
        split at h
        · cases h
        rename_i hc
        cases he : cE 60 c e with
        | none => rw [he] at h; cases h
        | some e' =>
          rw [he] at h
          cases h
          obtain ⟨t, h1, h2, h3, h4⟩ := E.e X c W e e' o he
          exact ⟨_, ps_expr h1 (swap_no (by simpa using hc)), semS_exp h3⟩
      · rename_i t a b p
        split at h
        · rename_i t' a' b' ht ha hb
          cases h
          obtain ⟨tt, h1, h2⟩ := E.t X c W t t' o ht
          obtain ⟨ta, g1, g2⟩ := ihB a a' ha
          obtain ⟨tb, f1, f2⟩ := ihB b b' hb
          exact ⟨_, ps_if h1 g1 f1, semS_ite h2 g2 f2⟩
        · cases h
      · rename_i t b p
        split at h
        · rename_i t' b' ht hb
          cases h
          obtain ⟨tt, h1, h2⟩ := E.t X c W t t' o ht
          obtain ⟨tb, f1, f2⟩ := ihB b b' hb
          exact ⟨_, ps_while po h1 f1, semS_while h2 f2⟩
        · cases h
      · rename_i tg it b p
        split at h
        · cases h
        rename_i hsd
        split at h
        · rename_i g' i' b' hg hi hb
          cases h
          obtain ⟨tgt, h1, h2, h3⟩ := tg_ok o hg
          obtain ⟨wi, i1, i2⟩ := E.i X c W tg it i' o hi
          obtain ⟨tb, f1, f2⟩ := ihB b b' hb
          exact ⟨_, ps_for po o.calm i1 h1 f1 (fold_of (by simpa using hsd)), semS_for i2 h3 f2⟩
        · cases h
      · rename_i x px op e p
        split at h
        · rename_i i op' e' hi hop he
          split at h
          case isFalse => cases h
          rename_i hc
          simp only [Bool.and_eq_true, Bool.not_eq_true'] at hc
          cases h
          obtain ⟨t, h1, h2, h3, h4⟩ := E.e X c W e e' o he
          rw [bOf_op hop]
          exact ⟨_, ps_aug o.nd (by rw [o.hN]; exact ix_get hi) (loc_of o hc.1) h1 (ip_aug op') (o.fnl x hc.1), semS_aug i op' h3⟩
        · cases h
      · rename_i x px e p
        split at h
        case h_2 => cases h
        rename_i i e' hi he
        split at h
        case isFalse => cases h
        rename_i hl
        have hN : X.N[i]? = some x := by rw [o.hN]; exact ix_get hi
        split at h
        · rename_i elt g scope cp
          split at h
          case isFalse => cases h
          rename_i hc
          cases h
          simp only [Bool.and_eq_true, Bool.not_eq_true'] at hc
          obtain ⟨tg, iter, ifs, as⟩ := g
          have h0 : as = 0 := comp_async (n := 59) he
          subst h0
          obtain ⟨own, g, it, e2, t, rfl, h1, h2, h3, h4, h5, h6, h7⟩ := comp_parts (snd_all 59) o he
          exact good_setComp o.calm o.nd hN (lookup_loc o hc.1.1) (sw_true o.kind (lookup_loc o hc.1.1) hc.1.2 hc.2) h1 h2 h3 h4 h5 h6 h7
        · rename_i e0 _
          split at h
          · cases h
          rename_i hc
          cases h
          obtain ⟨t, h1, h2, h3, h4⟩ := E.e X c W _ e' o he
          exact ⟨_, ps_set o.nd hN (loc_of o hl) h1 (swap_name (by simpa using hc)) (o.fnl x hl), semS_asg h2 (semGS_name i)⟩
      · rename_i ts kk pt e p
        split at h
        · rename_i vs k2 pt2
          split at h
          · rename_i hns
            split at h
            · rename_i is e' hts he
              cases h
              obtain ⟨t, h1, h2, h3, h4⟩ := E.e X c W _ e' o he
              obtain ⟨g, g1, g2, g3, g4, g5, g6⟩ := tgs_ok o ts is hts
              exact ⟨_, ps_asg h1 (pg_tup o.calm g1 (by rw [g6, g4]) g5) (swap_tup rfl) (stores_no o.kind hns) rfl, semS_asg h2 (semGS_tup g3)⟩
            · cases h
          · rename_i hns
            split at h
            case isFalse => cases h
            rename_i hsd
            have hw := stores_yes (kk := kk) (k2 := k2) (p := pt) (p2 := pt2) o.kind o.hsc (by simpa using hns) hsd
            split at h
            · rename_i x p1 y p2 a b
              split at h
              · cases h
              rename_i hst
              simp only [Bool.or_eq_true, not_or, Bool.not_eq_true] at hst
              split at h
              case h_2 => cases h
              rename_i i j a' b' hi hj ha hb
              split at h
              case isFalse => cases h
              rename_i hc
              cases h
              simp only [Bool.and_eq_true, bne_iff_ne, ne_eq] at hc
              obtain ⟨ta, h1, h2, _, _⟩ := E.e X c W a a' o ha
              obtain ⟨tb, g1, g2, _, _⟩ := E.e X c W b b' o hb
              have s2 : starEach [b] X.env = [(false, eval b X.env)] := nostar_cons hst.2
              refine ⟨_, ps_par o.calm o.nd (by rw [o.hN]; exact ix_get hi) (by rw [o.hN]; exact ix_get hj) hc.1.1 (lookup_loc o hc.1.2) (lookup_loc o hc.2) (pa_cons h1 (pa_cons g1 pa_nil s2) (nostar_cons hst.1)) ?_ rfl, semS_par2 i j h2 g2⟩
              rw [hw]
              exact congrArg (fun z => Pure.pure (some z)) (swapNames2 hsd)
            · rename_i x p1 y p2 z p3 a b d
              split at h
              · cases h
              rename_i hst
              simp only [Bool.or_eq_true, not_or, Bool.not_eq_true] at hst
              split at h
              case h_2 => cases h
              rename_i i j l a' b' d' hi hj hl ha hb hd
              split at h
              case isFalse => cases h
              rename_i hc
              cases h
              simp only [Bool.and_eq_true, bne_iff_ne, ne_eq] at hc
              obtain ⟨ta, h1, h2, _, _⟩ := E.e X c W a a' o ha
              obtain ⟨tb, g1, g2, _, _⟩ := E.e X c W b b' o hb
              obtain ⟨td, f1, f2, _, _⟩ := E.e X c W d d' o hd
              have s3 : starEach [d] X.env = [(false, eval d X.env)] := nostar_cons hst.2
              refine ⟨_, ps_par3 o.calm o.nd (by rw [o.hN]; exact ix_get hi) (by rw [o.hN]; exact ix_get hj) (by rw [o.hN]; exact ix_get hl) hc.1.1.1.1.1 hc.1.1.1.1.2 hc.1.1.1.2 (lookup_loc o hc.1.1.2) (lookup_loc o hc.1.2) (lookup_loc o hc.2)
                (pa_cons h1 (pa_cons g1 (pa_cons f1 pa_nil s3) (nostar_cons hst.1.2)) (nostar_cons hst.1.1)) ?_ rfl, semS_par3 i j l h2 g2 f2⟩
              rw [hw]
              exact congrArg (fun z => Pure.pure (some z)) (swapNames3 hsd)
            · cases h
        · rename_i e0 hne
          split at h
          · cases h
          rename_i hc
          split at h
          · rename_i is e' hts he
            cases h
            obtain ⟨t, h1, h2, h3, h4⟩ := E.e X c W _ e' o he
            obtain ⟨g, g1, g2, g3, g4, g5, g6⟩ := tgs_ok o ts is hts
            refine ⟨_, ps_asg h1 (pg_tup o.calm g1 (by rw [g6, g4]) g5) (swap_tup (by simpa using hc)) (stores_tup ?_) rfl, semS_asg h2 (semGS_tup g3)⟩
            cases e with
            | Tuple vs k2 p2 => exact (hne vs k2 p2 rfl).elim
            | _ => rfl
          · cases h
      · rename_i ob es q1 q2 p e p2
        split at h
        · cases h
        rename_i hc
        simp only [Bool.not_eq_true] at hc
        split at h
        · rename_i o' es' e' ho hi he
          cases h
          obtain ⟨t, h1, h2, h3, h4⟩ := E.e X c W _ e' o he
          obtain ⟨u, g1, g2, g3, g4⟩ := E.e X c W _ o' o ho
          obtain ⟨⟨v, f1, f2, _⟩, _⟩ := E.es X c W es es' o hi
          exact ⟨_, ps_dput (hu1 o) g1 (pe_tup f1) h1 (swap_sub1 hc), semS_dput h2 g3 f2⟩
        · cases h
      · rename_i ob i p e p2 _
        split at h
        · cases h
        rename_i hc
        simp only [Bool.or_eq_true, not_or, Bool.not_eq_true] at hc
        split at h
        · rename_i o' i' e' ho hi he
          cases h
          obtain ⟨t, h1, h2, h3, h4⟩ := E.e X c W _ e' o he
          obtain ⟨u, g1, g2, g3, g4⟩ := E.e X c W _ o' o ho
          obtain ⟨v, f1, f2, f3, f4⟩ := E.e X c W _ i' o hi
          refine ⟨_, ps_asg h1 (pg_sub g1 f1 set_list ?_) (swap_sub hc.2) stores_sub rfl, semS_set h2 g4 f3⟩
          intro v
          cases i <;> first | rfl | exact absurd hc.1 (by simp [isSlice])
        · cases h
      · cases h
    · simp only [cSs] at h
      split at h
      · cases h; exact ⟨_, pss_nil, semS_skip⟩
      · rename_i s
        obtain ⟨t, h1, h2⟩ := ihS s ir h
        exact ⟨_, pss_one h1, h2⟩
      · rename_i s t r
        split at h
        · rename_i a b ha hb
          cases h
          obtain ⟨u, h1, h2⟩ := ihS s a ha
          obtain ⟨v, g1, g2⟩ := ihB _ b hb
          exact ⟨_, pss_cons h1 g1, semS_seq h2 g2⟩
        · cases h
end
end PyE

/-! Each def keeps what the evaluator says of it. -/
namespace PyE
open PySem PySem.Spec PyProof.Rows L2
/-- a def as it is to be read: its text, its name and qualified name, the slots' names, the parameters, the globals that it names, the rows whose list displays have an identity, does it hand back lists of its own -/
structure Dn where
  key : Str × Option Str
  st : Stmt
  x : Str
  qual : Str
  N : List Str
  ps : List Str
  gl : List (Str × Gl)
  nl : List Nat := []
  ro : Bool := false
  ini : Bool := false
def scB (N ps : List Str) (sc : Scope) : Bool :=
  (match sc.kind with | .function => true | _ => false) && (!sc.isCoroutine && (!sc.isGenerator && (nodupB N && (decide (N.take ps.length = ps) && (ps.all (fun x => match sc.names.lookup x with | some .local => true | some .cell => true | _ => false) && sc.names.all fun y => match y.2 with | .free => false | _ => true)))))
theorem nodupB_ok : ∀ {l : List Str}, nodupB l = true → l.Nodup
  | [], _ => List.nodup_nil
  | x :: r, h => by
    simp only [nodupB, Bool.and_eq_true, Bool.not_eq_true', List.contains_eq_mem, decide_eq_false_iff_not] at h
    exact List.nodup_cons.mpr ⟨h.1, nodupB_ok h.2⟩
theorem scB_ok {N ps : List Str} {sc : Scope} (h : scB N ps sc = true) : FnScope N ps sc := by
  simp only [scB, Bool.and_eq_true, Bool.not_eq_true', decide_eq_true_eq, List.all_eq_true] at h
  obtain ⟨h1, h2, h3, h4, h5, h6, h7⟩ := h
  refine ⟨?_, h2, h3, nodupB_ok h4, h5, fun x hx => ?_, fun y hy e => ?_⟩
  · split at h1
    · assumption
    · cases h1
  · have := h6 x hx
    split at this
    · rename_i e; exact .inl e
    · rename_i e; exact .inr e
    · cases this
  · have := h7 y hy
    rw [e] at this
    cases this
def readFn (d : Dn) : Option Fn := if scB d.N d.ps (defScope d.st) then (cSs 60 ⟨d.N, defScope d.st, none, d.gl, d.nl⟩ (defBody d.st)).map fun b => ⟨d.ps.length, d.N.length, d.ro, d.ini, b⟩ else none
section
variable {xr : Xc → Value → Option Addr → Hp → Prop} {P : Program} {w : World} {K : PySem.W.Frag} {mg : Str → Option Value} {base : Heap}
theorem getS_app_rep : ∀ (ds : List D) (n i : Nat), getS (ds.map Sl.sh ++ List.replicate n Sl.no) i = (match ds[i]? with | some d => Sl.sh d | none => Sl.no)
  | [], n, i => by
    show getS (List.replicate n Sl.no) i = Sl.no
    induction n generalizing i with
    | zero => rfl
    | succ n ih =>
      cases i with
      | zero => rfl
      | succ i => exact ih i
  | d :: ds, n, 0 => rfl
  | d :: ds, n, i + 1 => getS_app_rep ds n i
theorem fn_ok {fs : List Fn} {d : Dn} {fn : Fn} {i n : Nat} {f : Addr} {fd : FuncData} (hfs : fs[i]? = some fn) (hr : readFn d = some fn) (F : FunD K d.x d.qual (defArgs d.st) (defBody d.st) (defScope d.st) [] [] f fd)
    (hg : ∀ x g, d.gl.lookup x = some g → GlOk xr (callF fs n) (roOf fs) P w K mg base n x g) : FnOk P w K mg base (L2.CX P w) (lv (n + 1)) f fd d.ps (spD K xr (callF fs (n + 1)) (roOf fs) i d.ps.length) := by
  rw [lv_succ]
  unfold readFn at hr
  split at hr
  case isFalse => cases hr
  rename_i hs
  have S := scB_ok hs
  cases hb : cSs 60 ⟨d.N, defScope d.st, none, d.gl, d.nl⟩ (defBody d.st) with
  | none => rw [hb] at hr; cases hr
  | some body =>
    rw [hb] at hr
    cases hr
    refine F.ok S (fun vs H Q E h => ?_) (fun cdv A outer s H vs Q E room h => ?_)
    · obtain ⟨ds, st, ph, O, hl, _⟩ := h
      exact hl
    · obtain ⟨ds, st, ph, O, hl, R, St, od, w0⟩ := h
      have xok : XOk xr (callF fs n) (roOf fs) (cxOf (L2.CX P w) P w K mg base d.N d.qual (defScope d.st) f cdv A outer s H E) ⟨d.N, defScope d.st, none, d.gl, d.nl⟩ (fun cls od _ H => E cls od H) n :=
        ⟨rfl, S.nd, rfl, S.kind, rfl, room, takes_of rfl rfl rfl rfl, fun _ _ => .inl rfl, hg⟩
      obtain ⟨t, h1, h2⟩ := (snd_s 60 _ _ _ (passes_of rfl) xok rfl rfl).2 _ _ hb
      refine ⟨t, h1, ?_⟩
      have hdl : ds.length = d.ps.length := by rw [R.length]; exact hl
      simp only [callF, hfs] at w0
      have hini : ds.length = d.ps.length ∧ (d.ini = false ∨ MKT < n) := by
        by_cases q : ds.length = d.ps.length ∧ (d.ini = false ∨ MKT < n)
        · exact q
        · rw [if_neg q] at w0
          exact w0.elim
      rw [if_pos hini] at w0
      have hNp : d.ps.length ≤ d.N.length := by
        have := congrArg List.length S.pre
        rw [List.length_take] at this
        omega
      have P0 : PreS K O H H O ph (ds.map Sl.sh ++ List.replicate (d.N.length - d.ps.length) Sl.no) (L2.start d.N vs) st := by
        refine ⟨⟨St, od, fun j => ?_, fun j k a hj _ _ _ => ?_, ?_⟩, fun _ z => z, fun a z => ?_, fun j a hj _ => ?_, fun a o h => ⟨o, h⟩⟩
        · rw [getS_app_rep]
          cases e : ds[j]? with
          | none => trivial
          | some dj =>
            obtain ⟨v, e1, e2⟩ := R.get e
            refine ⟨v, ?_, e2⟩
            unfold L2.start
            have hj : j < vs.length := (List.getElem?_eq_some_iff.mp e1).1
            rw [List.getElem?_append_left (by simpa using hj), List.getElem?_map, e1]
            all_goals rfl
        · rw [getS_app_rep] at hj
          split at hj
          · exact absurd hj isOwn_sh
          · exact absurd hj isOwn_no
        · unfold L2.start
          rw [List.length_append, List.length_map, List.length_replicate, List.length_append, List.length_map, List.length_replicate, ← R.length, hdl]
        · obtain ⟨vs, q⟩ := od a z
          exact ⟨_, q⟩
        · rw [getS_app_rep] at hj
          split at hj
          · exact absurd hj isOwn_sh
          · exact absurd hj isOwn_no
      have ext : ∀ {O' : Addr → Prop} {ph' : List Addr} {H' : Hp} {s' : Store}, SLat O O ph H O' ph' H' → RSt K H' O ph' s' → Ext ph H ph' H' := fun {O' ph' H' s'} L S' =>
        ⟨fun a o h hn => by
          by_cases z : O a
          · rw [L.oc a z]; exact h
          · exact L.lat.step a o h hn z, L.lat.grow, L.lat.isl, S'.isl⟩
      have hro : roOf fs i = d.ro := by
        unfold roOf
        rw [hfs]
      refine h2 O H H O ph _ (L2.start d.N vs) st _ P0 (wpR_mono (wpR_bind w0) (fun fl s1 k => ?_) fun e s1 x cls od σ' H' O' ph' L S' q => x cls od H' ph' (ext L S') S' q)
      cases fl with
      | nx r' =>
        intro σ' O' ph' H' L P'
        simp only at k
        split at k
        · exact k.elim
        · rename_i hn
          have S' := P'.pre.st_.less P'.sub
          exact k .non H' ph' (ext L S') S' rep_non (fun z => by rw [hro] at z; exact absurd z hn)
      | br r' => exact k.elim
      | ct r' => exact k.elim
      | ret o dd =>
        intro v O' ph' H' L S' Rv Fv
        simp only at k
        split at k
        · exact k.elim
        · rename_i hn
          refine k v H' ph' (ext L S') S' Rv fun z => Fv ?_
          rw [hro] at z
          cases ho : o with
          | true => rfl
          | false => exact absurd (by rw [z, ho]; rfl) hn
/-! ### the whole table -/
/-- a global name, as the table says -/
def GlF (K : PySem.W.Frag) (mg : Str → Option Value) (fa : Nat → Addr) (defs : List Dn) (x : Str) : Gl → Prop
  | .fn j np => mg x = some (.ref (fa j)) ∧ PySem.W.keepIn K (.ref (fa j)) = true ∧ ∃ d, defs[j]? = some d ∧ d.ps.length = np
  | .con d => ∃ u v, mg x = some u ∧ RelV v u ∧ ∀ H O ph, Rep K H O ph d v
  | .blt => mg x = none
  | .exc => mg x = some (.ref (He.ga K x)) ∧ PySem.W.excIn K (He.ga K x) He.veBase "ValueError.__new__" = true ∧ PySem.W.keepIn K (.ref (He.ga K x)) = true ∧ PySem.W.subIn K (.ref (He.ga K x)) (.type "BaseException") = some true ∧ PySem.W.typeIn K (.ref (He.ga K x)) = some (.type "type") ∧
      PySem.W.exmOne K (.ref (He.ga K x)) (.ref (He.ga K x)) = some true
  | .cls j np => mg x = some (.ref (He.ga K x)) ∧ Mk K (He.ga K x) (fa j) ∧ ∃ d, defs[j]? = some d ∧ d.ps.length = np ∧ d.ini = true
  | .fld c f => Cls K (He.ga K c) ∧ NoAttr K (He.ga K c) f
  | .meth c m j np => Cls K (He.ga K c) ∧ Meth K (He.ga K c) m (fa j) ∧ ∃ d, defs[j]? = some d ∧ d.ps.length = np
theorem callF_len {fs : List Fn} {n i : Nat} {fn : Fn} (h : fs[i]? = some fn) {ds : List D} {s : Store} (hb : callF fs n i ds s ≠ .bad) : ds.length = fn.np := by
  cases n with
  | zero => exact absurd rfl hb
  | succ n =>
    simp only [callF, h] at hb
    split at hb
    · rename_i q
      exact q.1
    · exact absurd rfl hb
theorem callF_ini {fs : List Fn} {n i : Nat} {fn : Fn} (h : fs[i]? = some fn) {ds : List D} {s : Store} (hi : fn.ini = true) (hb : callF fs n i ds s ≠ .bad) : MKT ≤ n := by
  cases n with
  | zero => exact absurd rfl hb
  | succ n =>
    simp only [callF, h] at hb
    split at hb
    · rename_i q
      rcases q.2 with z | z
      · rw [hi] at z; cases z
      · omega
    · exact absurd rfl hb
theorem readFn_np {d : Dn} {fn : Fn} (h : readFn d = some fn) : fn.np = d.ps.length ∧ fn.ini = d.ini := by
  unfold readFn at h
  split at h
  · cases hc : cSs 60 ⟨d.N, defScope d.st, none, d.gl, d.nl⟩ (defBody d.st) with
    | none => rw [hc] at h; cases h
    | some b =>
      rw [hc] at h
      cases h
      exact ⟨rfl, rfl⟩
  · cases h
theorem table_ok {defs : List Dn} {fs : List Fn} {fa : Nat → Addr} {fdn : Nat → FuncData} (hr : defs.map readFn = fs.map some)
    (hF : ∀ (i : Nat) (d : Dn), defs[i]? = some d → FunD K d.x d.qual (defArgs d.st) (defBody d.st) (defScope d.st) [] [] (fa i) (fdn i)) (hB : ∀ (i : Nat) (d : Dn), defs[i]? = some d → Binds K (fdn i) d.ps [])
    (hG : ∀ (i : Nat) (d : Dn), defs[i]? = some d → ∀ x g, d.gl.lookup x = some g → GlF K mg fa defs x g) : ∀ (n i : Nat) (d : Dn), defs[i]? = some d → FnOk P w K mg base (L2.CX P w) (lv n) (fa i) (fdn i) d.ps (spD K (xrK K) (callF fs n) (roOf fs) i d.ps.length) := by
  have hfn : ∀ (i : Nat) (d : Dn), defs[i]? = some d → ∃ fn, fs[i]? = some fn ∧ readFn d = some fn := fun i d h => by
    have e : (defs.map readFn)[i]? = (fs.map some)[i]? := by rw [hr]
    rw [List.getElem?_map, List.getElem?_map, h] at e
    cases q : fs[i]? with
    | none => rw [q] at e; cases e
    | some fn =>
      rw [q] at e
      exact ⟨fn, rfl, Option.some.inj e⟩
  intro n
  induction n with
  | zero =>
    intro i d h
    have no : ∀ vs H Q E, ¬ spD K (xrK K) (callF fs 0) (roOf fs) i d.ps.length vs H Q E := fun vs H Q E z => by
      obtain ⟨ds, st, ph, O, _, _, _, _, w0⟩ := z
      exact w0
    exact ⟨fun vs H Q E z => absurd z (no vs H Q E), fun A outer s H args us vs Q E _ _ _ _ z => absurd z (no vs H Q E)⟩
  | succ n ih =>
    intro i d h
    obtain ⟨fn, h1, h2⟩ := hfn i d h
    refine fn_ok h1 h2 (hF i d h) fun x g hg => ?_
    have q := hG i d h x g hg
    have len : ∀ (j np : Nat) (dj : Dn), defs[j]? = some dj → dj.ps.length = np → ∀ ds s, callF fs n j ds s ≠ .bad → ds.length = np := fun j np dj e3 e4 ds s hb => by
      obtain ⟨fnj, g1, g2⟩ := hfn j dj e3
      rw [callF_len g1 hb, (readFn_np g2).1, e4]
    cases g with
    | fn j np =>
      obtain ⟨e1, e2, dj, e3, e4⟩ := q
      refine ⟨fa j, fdn j, dj.ps, e1, e2, hB j dj e3, ?_, len j np dj e3 e4⟩
      rw [← e4]
      exact ih j dj e3
    | con d => exact q
    | blt => exact q
    | exc =>
      obtain ⟨e1, e2, e3, e4, e5, e6⟩ := q
      refine ⟨e1, e2, e3, e4, e5, fun _ _ => ⟨rfl, rfl⟩, fun e cls od H z hc => ?_⟩
      obtain ⟨z1, _⟩ := z
      rw [z1, hc]
      exact e6
    | cls j np =>
      obtain ⟨e1, e2, dj, e3, e4, e5⟩ := q
      refine ⟨e1, fa j, fdn j, dj.ps, e2, hB j dj e3, ?_, fun ds s hb => ⟨len j np dj e3 e4 ds s hb, ?_⟩⟩
      · rw [← e4]
        exact ih j dj e3
      · obtain ⟨fnj, g1, g2⟩ := hfn j dj e3
        exact callF_ini g1 (by rw [(readFn_np g2).2]; exact e5) hb
    | fld c f => exact q
    | meth c m j np =>
      obtain ⟨e1, e2, dj, e3, e4⟩ := q
      refine ⟨fa j, fdn j, dj.ps, e1, e2, hB j dj e3, ?_, len j np dj e3 e4⟩
      rw [← e4]
      exact ih j dj e3
end
end PyE

/-! A law's end: what the head's Hook tells of the table, and the promise of the law's def. -/
namespace PyE
open PySem PySem.Spec PyProof.Rows L2
mutual
/-- u is the constant d -/
def conV (K : PySem.W.Frag) : D → Value → Bool
  | .non, .none => true
  | .bl b, .bool c => b == c
  | .int i, .int j _ => decide (i = j)
  | .str s, .str y _ => decide (Str.mk s.toArray = y)
  | .tup ds, .ref a => (match K.lookup a with
    | some ⟨.type c, _, .seq its _, _⟩ => decide (c = "tuple") && (decide (its.size ≤ sizeLine) && conVs K ds its.toList)
    | _ => false)
  | .rol ds, .ref a => (match K.lookup a with
    | some ⟨.type c, none, .seq its _, _⟩ => decide (c = "list") && (decide (its.size ≤ sizeLine) && conVs K ds its.toList)
    | _ => false)
  | _, _ => false
def conVs (K : PySem.W.Frag) : List D → List Value → Bool
  | [], [] => true
  | d :: ds, u :: us => conV K d u && conVs K ds us
  | _, _ => false
end
section
variable {K : PySem.W.Frag}
mutual
theorem conV_ok : ∀ (d : D) (u : Value), conV K d u = true → ∃ v, RelV v u ∧ ∀ H O ph, Rep K H O ph d v
  | .non, u, h => by
    cases u with
    | none => exact ⟨.non, rfl, fun _ _ _ => rfl⟩
    | _ => exact absurd h (by simp [conV])
  | .bl b, u, h => by
    cases u with
    | bool c =>
      have e : b = c := eq_of_beq (show (b == c) = true by simpa [conV] using h)
      exact ⟨.bl b, by rw [e]; rfl, fun _ _ _ => rfl⟩
    | _ => exact absurd h (by simp [conV])
  | .int i, u, h => by
    cases u with
    | int j t =>
      have e : i = j := by simpa [conV] using h
      exact ⟨.int i, ⟨t, by rw [e]⟩, fun _ _ _ => rfl⟩
    | _ => exact absurd h (by simp [conV])
  | .str s, u, h => by
    cases u with
    | str y t =>
      have e : Str.mk s.toArray = y := by simpa [conV] using h
      exact ⟨.str ⟨s.toArray⟩, ⟨t, by rw [e]⟩, fun _ _ _ => rfl⟩
    | _ => exact absurd h (by simp [conV])
  | .tup ds, u, h => by
    cases u with
    | ref a =>
      unfold conV at h
      cases q : K.lookup a with
      | none => rw [q] at h; cases h
      | some o =>
        obtain ⟨oc, od, dt, osl⟩ := o
        rw [q] at h
        cases oc with
        | type c =>
          cases dt with
          | seq its n =>
            obtain ⟨h1, h2⟩ := He.ba (show (decide (c = "tuple") && (decide (its.size ≤ sizeLine) && conVs K ds its.toList)) = true from h)
            obtain ⟨h3, h4⟩ := He.ba h2
            obtain ⟨vs, r1, r2⟩ := conVs_ok ds _ h4
            exact ⟨.ref a, rfl, fun H O ph => ⟨a, vs, rfl, .inr ⟨_, its, n, q, congrArg Value.type (of_decide_eq_true h1), rfl, of_decide_eq_true h3, r1⟩, r2 H O ph⟩⟩
          | _ => cases h
        | _ => cases dt <;> cases h
    | _ => exact absurd h (by simp [conV])
  | .rol ds, u, h => by
    cases u with
    | ref a =>
      unfold conV at h
      cases q : K.lookup a with
      | none => rw [q] at h; cases h
      | some o =>
        obtain ⟨oc, od, dt, osl⟩ := o
        rw [q] at h
        cases oc with
        | type c =>
          cases od with
          | none =>
            cases dt with
            | seq its n =>
              obtain ⟨h1, h2⟩ := He.ba (show (decide (c = "list") && (decide (its.size ≤ sizeLine) && conVs K ds its.toList)) = true from h)
              obtain ⟨h3, h4⟩ := He.ba h2
              obtain ⟨vs, r1, r2⟩ := conVs_ok ds _ h4
              exact ⟨.ref a, rfl, fun H O ph => ⟨a, vs, rfl, .inr ⟨_, its, n, q, congrArg Value.type (of_decide_eq_true h1), rfl, rfl, of_decide_eq_true h3, r1⟩, r2 H O ph⟩⟩
            | _ => cases h
          | some z => cases dt <;> cases h
        | _ => cases od <;> cases dt <;> cases h
    | _ => exact absurd h (by simp [conV])
  | .lst ds, u, h => by cases u <;> exact absurd h (by simp [conV])
  | .ref n, u, h => by cases u <;> exact absurd h (by simp [conV])
theorem conVs_ok : ∀ (ds : List D) (us : List Value), conVs K ds us = true → ∃ vs, Vals vs us ∧ ∀ H O ph, Reps K H O ph ds vs
  | [], [], _ => ⟨[], .nil, fun _ _ _ => rfl⟩
  | [], u :: us, h => by exact absurd h (by simp [conVs])
  | d :: ds, [], h => by exact absurd h (by simp [conVs])
  | d :: ds, u :: us, h => by
    obtain ⟨h1, h2⟩ := He.ba (show (conV K d u && conVs K ds us) = true by simpa only [conVs] using h)
    obtain ⟨v, r1, r2⟩ := conV_ok d u h1
    obtain ⟨vs, q1, q2⟩ := conVs_ok ds us h2
    exact ⟨v :: vs, .cons r1 q1, fun H O ph => ⟨v, vs, rfl, r2 H O ph, q2 H O ph⟩⟩
end
end
/-- what the head must show of the table's global names -/
def glEx (defs : List Dn) (gl : List (Str × Gl)) (K : PySem.W.Frag) : Bool := gl.all fun q => match q.2 with
  | .fn j np => (match defs[j]? with
    | some dj => decide (dj.ps.length = np) && (He.eqO (PySem.W.nsIn K mainGlobals q.1) (some (some (.ref (He.fAd K dj.key)))))
    | none => false)
  | .con d => (match PySem.W.nsIn K mainGlobals q.1 with
    | some (some u) => conV K d u
    | _ => false)
  | .blt => He.eqO (PySem.W.nsIn K mainGlobals q.1) (some none)
  | .exc => He.eqO (PySem.W.nsIn K mainGlobals q.1) (some (some (.ref (He.ga K q.1)))) && ((He.Fa.exc q.1).ok K && decide (PySem.W.exmOne K (.ref (He.ga K q.1)) (.ref (He.ga K q.1)) = some true))
  | .cls j np => He.eqO (PySem.W.nsIn K mainGlobals q.1) (some (some (.ref (He.ga K q.1)))) && ((He.Fa.mkr q.1).ok K && (match defs[j]? with
    | some dj => decide (dj.ps.length = np) && (dj.ini && decide (dj.key = (q.1, some ("__init__" : Str))))
    | none => false))
  | .fld c f => (He.Fa.cls c).ok K && (He.Fa.noat c f).ok K
  | .meth c m j np => (He.Fa.cls c).ok K && ((He.Fa.meth c m).ok K && (match defs[j]? with
    | some dj => decide (dj.ps.length = np) && decide (dj.key = (c, some m))
    | none => false))
def Dn.de (d : Dn) : He.DefD := ⟨d.key, d.x, d.qual, defArgs d.st, defBody d.st, defScope d.st, [], []⟩
/-- what the binder makes of arguments given by place -/
def BindOk (params : Arguments) (ps : List Str) : Prop := ∀ (x qual : Str) (body : List Stmt) (scope : Scope) (kV doc pm : Value) (an : Option Addr) (cdv ct : Value) (us : List Value), us.length = ps.length → bindArgs (PySem.W.fnOf x qual params body scope .none kV doc pm an cdv ct) ⟨us, []⟩ = Pure.pure (ps.zip us)
section
variable {P : Program} {w : World} {K : PySem.W.Frag} {mg : Str → Option Value} {h : Heap}
theorem lookup_mem' {a : Str} {o : Gl} : ∀ {l : List (Str × Gl)}, l.lookup a = some o → (a, o) ∈ l
  | [], h => by cases h
  | (b, u) :: r, h => by
    have h2 : (match a == b with | true => some u | false => r.lookup a) = some o := h
    cases q : (a == b) with
    | true =>
      rw [q] at h2
      have e : u = o := Option.some.inj h2
      rw [eq_of_beq q, e]
      exact List.mem_cons_self
    | false =>
      rw [q] at h2
      exact List.mem_cons_of_mem _ (lookup_mem' h2)
/-- the whole table, by the head's word -/
theorem table_head {defs : List Dn} {fs : List Fn} {gl : List (Str × Gl)} (hr : defs.map readFn = fs.map some) (hgl : ∀ d ∈ defs, d.gl = gl) (hb : ∀ d ∈ defs, BindOk (defArgs d.st) d.ps)
    (X : K.In h) (G : h.Ns mainGlobals mg) (c : He.SaysD [] (defs.map Dn.de) K) (ex : glEx defs gl K = true) :
    ∃ fdn : Nat → FuncData, ∀ (i : Nat) (d : Dn), defs[i]? = some d → (∀ (s : Shared) (us : List Value), us.length = d.ps.length → BindsTo s (fdn i) ⟨us, []⟩ (d.ps.zip us)) ∧
      ∀ (base : Heap) (n : Nat), FnOk P w K mg base (L2.CX P w) (lv n) (He.fAd K d.key) (fdn i) d.ps (spD K (xrK K) (callF fs n) (roOf fs) i d.ps.length) := by
  have hF0 : ∀ i : Nat, ∃ fd : FuncData, ∀ d, defs[i]? = some d → FunD K d.x d.qual (defArgs d.st) (defBody d.st) (defScope d.st) [] [] (He.fAd K d.key) fd := fun i => by
    cases e : defs[i]? with
    | none => exact ⟨default, fun d h => by cases h⟩
    | some d =>
      obtain ⟨fd, F⟩ := c.defs (d := d.de) (List.mem_map.mpr ⟨d, List.mem_of_getElem? e, rfl⟩)
      exact ⟨fd, fun d' h => by cases h; exact F⟩
  refine ⟨fun i => Classical.choose (hF0 i), fun i d hd => ?_⟩
  have hF := fun i => Classical.choose_spec (hF0 i)
  refine ⟨fun s us hl => FunD.bindsA (hF i d hd) (fun _ _ _ _ _ _ us hl => hb d (List.mem_of_getElem? hd) _ _ _ _ _ _ _ _ _ _ us hl) s us hl, fun base n => ?_⟩
  obtain ⟨fa, efa⟩ : ∃ fa : Nat → Addr, ∀ i d, defs[i]? = some d → fa i = He.fAd K d.key := ⟨fun i => match defs[i]? with | some d => He.fAd K d.key | none => 0, fun i d e => by simp only [e]⟩
  have A1 : ∀ (i : Nat) (d : Dn), defs[i]? = some d → FunD K d.x d.qual (defArgs d.st) (defBody d.st) (defScope d.st) [] [] (fa i) (Classical.choose (hF0 i)) := fun i d e => by
    rw [efa i d e]
    exact hF i d e
  have A2 : ∀ (i : Nat) (d : Dn), defs[i]? = some d → Binds K (Classical.choose (hF0 i)) d.ps [] := fun i d e => FunD.bindsN (hF i d e) fun _ _ _ _ _ _ us hl => hb d (List.mem_of_getElem? e) _ _ _ _ _ _ _ _ _ _ us hl
  have A3 : ∀ (i : Nat) (d : Dn), defs[i]? = some d → ∀ x g, d.gl.lookup x = some g → GlF K mg fa defs x g := fun i d e x g hg => by
    rw [hgl d (List.mem_of_getElem? e)] at hg
    have q := List.all_eq_true.mp ex _ (lookup_mem' hg)
    cases g with
    | fn j np =>
      simp only at q
      cases ej : defs[j]? with
      | none => rw [ej] at q; cases q
      | some dj =>
        rw [ej] at q
        obtain ⟨q1, q2⟩ := He.ba q
        refine ⟨?_, ?_, dj, ej, of_decide_eq_true q1⟩
        · rw [efa j dj ej]
          exact PySem.W.mg_of X G (He.eqO_ok q2)
        · rw [efa j dj ej]
          exact (hF j dj ej).kp
    | con d =>
      simp only at q
      split at q
      · rename_i u e
        obtain ⟨v, r1, r2⟩ := conV_ok d u q
        exact ⟨u, v, PySem.W.mg_of X G e, r1, r2⟩
      · cases q
    | blt => exact PySem.W.mg_none_of X G (He.eqO_ok q)
    | exc =>
      obtain ⟨q1, q2⟩ := He.ba q
      obtain ⟨q2, q3⟩ := He.ba q2
      obtain ⟨k1, k2, k3, k4⟩ := He.exc_ok q2
      exact ⟨PySem.W.mg_of X G (He.eqO_ok q1), k1, k2, k3, k4, of_decide_eq_true q3⟩
    | cls j np =>
      obtain ⟨q1, q2⟩ := He.ba q
      obtain ⟨q2, q3⟩ := He.ba q2
      cases ej : defs[j]? with
      | none => rw [ej] at q3; cases q3
      | some dj =>
        rw [ej] at q3
        obtain ⟨q3, q4⟩ := He.ba q3
        obtain ⟨q4, q5⟩ := He.ba q4
        have ek : dj.key = (x, some ("__init__" : Str)) := of_decide_eq_true q5
        refine ⟨PySem.W.mg_of X G (He.eqO_ok q1), ?_, dj, ej, of_decide_eq_true q3, q4⟩
        rw [efa j dj ej, ek]
        exact He.mkr_ok q2
    | fld c f =>
      obtain ⟨q1, q2⟩ := He.ba q
      exact ⟨He.cls_ok q1, He.noat_ok q2⟩
    | meth c m j np =>
      obtain ⟨q1, q2⟩ := He.ba q
      obtain ⟨q2, q3⟩ := He.ba q2
      cases ej : defs[j]? with
      | none => rw [ej] at q3; cases q3
      | some dj =>
        rw [ej] at q3
        obtain ⟨q3, q4⟩ := He.ba q3
        have ek : dj.key = (c, some m) := of_decide_eq_true q4
        refine ⟨He.cls_ok q1, ?_, dj, ej, of_decide_eq_true q3⟩
        rw [efa j dj ej, ek]
        exact He.meth_ok q2
  have z := table_ok (P := P) (w := w) (K := K) (mg := mg) (base := base) hr A1 A2 A3 n i d hd
  rw [efa i d hd] at z
  exact z
theorem gl_fn {defs : List Dn} {gl : List (Str × Gl)} (X : K.In h) (G : h.Ns mainGlobals mg) (ex : glEx defs gl K = true) {x : Str} {j np : Nat} {d : Dn} (hg : gl.lookup x = some (.fn j np)) (hd : defs[j]? = some d) : mg x = some (.ref (He.fAd K d.key)) := by
  have q := List.all_eq_true.mp ex _ (lookup_mem' hg)
  simp only [hd] at q
  exact PySem.W.mg_of X G (He.eqO_ok (He.ba q).2)
theorem cx_out {H : Hp} {s s' : Shared} {e : Value} (z : L2.CX P w [] H s (fun _ _ _ => False) e s') : False := by
  obtain ⟨_, _, _, _, _, _, _, _, _, _, _, _, z⟩ := z
  exact z
/-- the law's promise from what the evaluator says -/
theorem law_sp {fs : List Fn} {i n : Nat} {xr : Xc → Value → Option Addr → Hp → Prop} {H : Hp} {a : Addr} {ns : List Int} (hS : SqL K H a (ns.map V.int)) (he : ∃ s, callF fs n i [.rol (ns.map D.int)] [] = .ok (.bl true) s) :
    spD K xr (callF fs n) (roOf fs) i 1 [.ref a] H (fun v _ => v = .bl true) fun _ _ _ => False := by
  have hR : ∀ l : List Int, Reps K H (fun _ => False) [] (l.map D.int) (l.map V.int) := fun l => by
    induction l with
    | nil => rfl
    | cons x r ih => exact ⟨_, _, rfl, rfl, ih⟩
  refine ⟨[.rol (ns.map D.int)], [], [], fun _ => False, rfl, ⟨_, _, rfl, ⟨a, _, rfl, ?_, hR ns⟩, rfl⟩, ⟨rfl, List.nodup_nil, fun n ds e => ?_⟩, fun _ z => z.elim, ?_⟩
  · rcases hS with z | z
    · exact .inl ⟨z, id, by simp⟩
    · exact .inr z
  · simp at e
  · obtain ⟨s, e⟩ := he
    rw [e]
    intro v H' ph' _ _ hv _
    exact hv
/-- THE LAW from the table and the plain law -/
theorem law_at {l : PySem.W.OpenLaw} {defs : List Dn} {fs : List Fn} {gl : List (Str × Gl)} {i n : Nat} {d : Dn} {fa : Addr} (hr : defs.map readFn = fs.map some) (hgl : ∀ d ∈ defs, d.gl = gl) (hb : ∀ d ∈ defs, BindOk (defArgs d.st) d.ps)
    (X : K.In h) (G : h.Ns mainGlobals mg) (c : He.SaysX [] (defs.map Dn.de) [] [] (glEx defs gl) w h K) (hl : gl.lookup ("law" : Str) = some (.fn i 1)) (hd : defs[i]? = some d) (hps : d.ps = [("script" : Str)]) (hm : mg "law" = some (.ref fa))
    (plain : ∀ ns : List Int, ns.length ≤ 63 → ∃ s, callF fs n i [.rol (ns.map D.int)] [] = .ok (.bl true) s) : LamX.LawAtS l w K (L2.CX l.prog w) (lv n) 63 "script" mg fa h := by
  obtain ⟨fdn, T⟩ := table_head (P := l.prog) (w := w) hr hgl hb X G c.t.d c.more
  obtain ⟨b, F⟩ := T i d hd
  have e := hm.symm.trans (gl_fn X G c.more hl hd)
  have e2 : fa = He.fAd K d.key := by
    cases e
    rfl
  subst e2
  refine ⟨fdn i, [], spD K (xrK K) (callF fs n) (roOf fs) i d.ps.length, by simp, by simp, by simp, fun s u => ?_, fun H a ns hn _ _ hS => ?_, fun base _ _ _ => ?_⟩
  · have z := b s [u] (by rw [hps]; rfl)
    rw [hps] at z
    exact z
  · rw [hps]
    exact law_sp hS (plain ns hn)
  · have z := F base n
    rw [hps] at z ⊢
    exact z
/-- no exception leaves -/
def xr0 : Xc → Value → Option Addr → Hp → Prop := fun _ _ _ _ => False
end
end PyE

/-! The evaluator step by step. -/
namespace PyX
open PyE
@[simp 3000] theorem bind_ok2 {a b : Type} (x : a) (s : Store) (f : a → Store → Res b) : (Res.ok x s).bind f = f x s := id rfl
@[simp 3000] theorem bind_exc2 {a b : Type} (x : Xc) (s : Store) (f : a → Store → Res b) : (Res.exc x s).bind f = .exc x s := id rfl
@[simp 3000] theorem bind_bad2 {a b : Type} (f : a → Store → Res b) : (Res.bad : Res a).bind f = .bad := id rfl
@[simp 3000] theorem ofO_some2 {a : Type} (x : a) (s : Store) : ofO (some x) s = .ok x s := id rfl
@[simp 3000] theorem ofO_none2 {a : Type} (s : Store) : (ofO none s : Res a) = .bad := id rfl
def tupR (ds : List D) (s : Store) : Res D := if ds.length ≤ SZ then .ok (.tup ds) s else .bad
def lstR (ds : List D) (s : Store) : Res D := if ds.length ≤ SZ then .ok (.lst ds) s else .bad
def newR (ds : List D) (s : Store) : Res D := if ds.length ≤ SZ then .ok (.ref s.length) (s ++ [.lst ds]) else .bad
def rng1R (x : D) (s : Store) : Res (List D) := match x with
    | .int j => if rngOk j then .ok (rngD 0 j) s else .bad
    | _ => .bad
def rng2R (x y : D) (s : Store) : Res (List D) := match x, y with
    | .int i, .int j => if rngOk i && rngOk j then .ok (rngD i j) s else .bad
    | _, _ => .bad
@[simp] theorem le_SZ {n : Nat} (h : n ≤ 16777216) : n ≤ SZ := h
@[simp] theorem tupR_ok {ds : List D} {s : Store} (h : ds.length ≤ SZ) : tupR ds s = .ok (.tup ds) s := if_pos h
@[simp] theorem lstR_ok {ds : List D} {s : Store} (h : ds.length ≤ SZ) : lstR ds s = .ok (.lst ds) s := if_pos h
@[simp] theorem newR_ok {ds : List D} {s : Store} (h : ds.length ≤ SZ) : newR ds s = .ok (.ref s.length) (s ++ [.lst ds]) := if_pos h
@[simp] theorem rng1R_ok {j : Int} {s : Store} (h : rngOk j = true) : rng1R (.int j) s = .ok (rngD 0 j) s := if_pos h
@[simp] theorem rng2R_ok {i j : Int} {s : Store} (h : rngOk i = true) (h2 : rngOk j = true) : rng2R (.int i) (.int j) s = .ok (rngD i j) s := if_pos (by rw [h, h2] <;> rfl)
def compR (f : D → Store → Res (Option D)) (xs : List D) (s : Store) : Res D := if xs.length ≤ SZ then (noX (compF f xs s)).bind fun ds s2 => .ok (.lst ds) s2 else .bad
theorem compR_ok {f : D → Store → Res (Option D)} {xs ds : List D} {s s2 : Store} (h : xs.length ≤ SZ) (h2 : compF f xs s = .ok ds s2) : compR f xs s = .ok (.lst ds) s2 := by
  unfold compR
  rw [if_pos h, h2]
  rfl
/-- one turn of a comprehension -/
def turnF (cl : Nat → List D → Store → Res D) (e : E) (tg : Tg) (t : To) (r : Env) (x : D) (s : Store) : Res (Option D) := match putTg r tg false x with
        | none => .bad
        | some r2 => (evTo cl t r2 s).bind fun c s3 => if c then (evE cl e r2 s3).bind fun d s4 => .ok (some d) s4 else .ok none s3
theorem turn_eq {cl : Nat → List D → Store → Res D} {e : E} {tg : Tg} {t : To} {r r2 : Env} {x : D} {s : Store} (h : putTg r tg false x = some r2) : turnF cl e tg t r x s = (evTo cl t r2 s).bind fun c s3 => if c then (evE cl e r2 s3).bind fun d s4 => .ok (some d) s4 else .ok none s3 := by
  unfold turnF
  rw [h]
section
variable {cl : Nat → List D → Store → Res D} {ro : Nat → Bool} {r : Env} {s : Store}
@[simp] theorem x_var (i : Nat) : evE cl (.var i) r s = (match getS r i with | .sh d => .ok d s | .own d => .ok d s | .no => .bad) := id rfl
@[simp] theorem x_con (d : D) : evE cl (.con d) r s = .ok d s := id rfl
@[simp] theorem x_bin (o : B) (a b : E) : evE cl (.bin o a b) r s = (evE cl a r s).bind fun x s1 => (evE cl b r s1).bind fun y s2 => ofO (binD o x y) s2 := id rfl
@[simp] theorem x_neg (a : E) : evE cl (.neg a) r s = (evE cl a r s).bind fun x s1 => ofO ((asInt x).map fun i => .int (-i)) s1 := id rfl
@[simp] theorem x_cmp (o : C) (a b : E) : evE cl (.cmp o a b) r s = (evE cl a r s).bind fun x s1 => (evE cl b r s1).bind fun y s2 => ofO ((cmpD o x y).map .bl) s2 := id rfl
@[simp] theorem x_chain (o p : C) (a b c : E) : evE cl (.chain o p a b c) r s = (evE cl a r s).bind fun x s1 => (evE cl b r s1).bind fun y s2 => match cmpD o x y with
    | some true => (evE cl c r s2).bind fun z s3 => ofO ((cmpD p y z).map .bl) s3
    | some false => .ok (.bl false) s2
    | none => .bad := id rfl
@[simp] theorem x_andv (a b : E) : evE cl (.andv a b) r s = (evE cl a r s).bind fun x s1 => match x with
    | .bl true => (evE cl b r s1).bind fun y s2 => ofO ((asBl y).map .bl) s2
    | .bl false => .ok (.bl false) s1
    | _ => .bad := id rfl
@[simp] theorem x_orv (a b : E) : evE cl (.orv a b) r s = (evE cl a r s).bind fun x s1 => match x with
    | .bl true => .ok (.bl true) s1
    | .bl false => (evE cl b r s1).bind fun y s2 => ofO ((asBl y).map .bl) s2
    | _ => .bad := id rfl
@[simp] theorem x_ite (t : T) (a b : E) : evE cl (.ite t a b) r s = (evT cl t r s).bind fun c s1 => if c then evE cl a r s1 else evE cl b r s1 := id rfl
@[simp] theorem x_tup (es : Es) : evE cl (.tup es) r s = (evEs cl es r s).bind tupR := id rfl
@[simp] theorem x_lst (es : Es) : evE cl (.lst es) r s = (evEs cl es r s).bind lstR := id rfl
@[simp] theorem x_newl (es : Es) : evE cl (.newl es) r s = (evEs cl es r s).bind newR := id rfl
@[simp] theorem x_idx (a i : E) : evE cl (.idx a i) r s = (evE cl a r s).bind fun x s1 => (evE cl i r s1).bind fun y s2 => ofO (idxD s2 x y) s2 := id rfl
@[simp] theorem x_slc (a : E) (lo hi : Eo) : evE cl (.slc a lo hi) r s = (evE cl a r s).bind fun x s1 => (evO cl lo r s1).bind fun l s2 => (evO cl hi r s2).bind fun h s3 => ofO (slcD x l h) s3 := id rfl
@[simp] theorem x_rev (a : E) : evE cl (.rev a) r s = (evE cl a r s).bind fun x s1 => ofO (revD x) s1 := id rfl
@[simp] theorem x_call (f : Nat) (es : Es) : evE cl (.call f es) r s = (evEs cl es r s).bind fun ds s1 => cl f ds s1 := id rfl
@[simp] theorem x_blt (f : F) (es : Es) : evE cl (.blt f es) r s = (evEs cl es r s).bind fun ds s1 => ofO (bltD s1 f ds) s1 := id rfl
@[simp] theorem x_isi (a : E) (t : Ty) : evE cl (.isi a t) r s = (evE cl a r s).bind fun x s1 => ofO ((isiD x t).map .bl) s1 := id rfl
@[simp] theorem x_never : evE cl .never r s = .bad := id rfl
@[simp] theorem x_fld (c f : PySem.Str) (a : E) : evE cl (.fld c a f) r s = (evE cl a r s).bind fun x s1 => ofO (fldD s1 x c f) s1 := id rfl
@[simp] theorem x_meth (c m : PySem.Str) (f : Nat) (a : E) (es : Es) : evE cl (.meth c f m a es) r s = (evE cl a r s).bind fun x s1 => if insB s1 x c m then (evEs cl es r s1).bind fun ds s2 => cl f (x :: ds) s2 else .bad := id rfl
@[simp] theorem x_make (c : PySem.Str) (f : Nat) (es : Es) : evE cl (.make c f es) r s = (evEs cl es r s).bind fun ds s1 => (cl f (.ref s1.length :: ds) (s1 ++ [.ins c []])).bind fun d s2 => if isNon d then .ok (.ref s1.length) s2 else .bad := id rfl
@[simp] theorem x_join (a e : E) : evE cl (.join a e) r s = (evE cl a r s).bind fun x s1 => match x with
    | .str z => (evE cl e r s1).bind fun y s2 => ofO (joinD (.str z) y) s2
    | _ => .bad := id rfl
@[simp] theorem x_newd : evE cl .newd r s = .ok (.ref s.length) (s ++ [.dic []]) := id rfl
@[simp] theorem x_dgt (a : E) (es : Es) : evE cl (.dgt a es) r s = (evE cl a r s).bind fun x s1 => (evEs cl es r s1).bind fun ds s2 => if ds.length ≤ SZ then ofO (dgtD s2 x ds) s2 else .bad := id rfl
theorem x_comp (e : E) (tg : Tg) (it : I) (t : To) (vs : List Nat) : evE cl (.comp e tg it t vs) r s = (evI cl it r s).bind fun xs s1 => compR (turnF cl e tg t (wipeE vs r)) xs s1 := id rfl
@[simp] theorem x_nil : evEs cl .nil r s = .ok [] s := id rfl
@[simp] theorem x_cons (e : E) (es : Es) : evEs cl (.cons e es) r s = (evE cl e r s).bind fun x s1 => (evEs cl es r s1).bind fun xs s2 => .ok (x :: xs) s2 := id rfl
@[simp] theorem x_onone : evO cl .none r s = .ok none s := id rfl
@[simp] theorem x_osome (e : E) : evO cl (.some e) r s = (evE cl e r s).bind fun x s1 => ofO ((asInt x).map some) s1 := id rfl
@[simp] theorem x_tru (e : E) : evT cl (.tru e) r s = (evE cl e r s).bind fun x s1 => ofO (truD s1 x) s1 := id rfl
@[simp] theorem x_and (a b : T) : evT cl (.and a b) r s = (evT cl a r s).bind fun c s1 => if c then evT cl b r s1 else .ok false s1 := id rfl
@[simp] theorem x_or (a b : T) : evT cl (.or a b) r s = (evT cl a r s).bind fun c s1 => if c then .ok true s1 else evT cl b r s1 := id rfl
@[simp] theorem x_not (a : T) : evT cl (.not a) r s = (evT cl a r s).bind fun c s1 => .ok (!c) s1 := id rfl
@[simp] theorem x_yes : evTo cl .yes r s = .ok true s := id rfl
@[simp] theorem x_one (t : T) : evTo cl (.one t) r s = evT cl t r s := id rfl
@[simp] theorem x_seq (e : E) : evI cl (.seq e) r s = (evE cl e r s).bind fun x s1 => ofO (itemsD x) s1 := id rfl
@[simp] theorem x_rng1 (e : E) : evI cl (.rng1 e) r s = (evE cl e r s).bind rng1R := id rfl
@[simp] theorem x_rng2 (a b : E) : evI cl (.rng2 a b) r s = (evE cl a r s).bind fun x s1 => (evE cl b r s1).bind fun y s2 => rng2R x y s2 := id rfl
@[simp] theorem x_zip (a b : E) : evI cl (.zip a b) r s = (evE cl a r s).bind fun x s1 => (evE cl b r s1).bind fun y s2 => match x, y with
    | .lst xs, .lst ys => .ok (zipD xs ys) s2
    | _, _ => .bad := id rfl
@[simp] theorem x_enum (a : E) : evI cl (.enum a) r s = (evE cl a r s).bind fun x s1 => match x with
    | .lst xs => .ok (enumD 0 xs) s1
    | _ => .bad := id rfl
@[simp] theorem y_skip : evS cl ro .skip r s = .ok (.nx r) s := id rfl
@[simp] theorem y_seq (a b : S) : evS cl ro (.seq a b) r s = (evS cl ro a r s).bind fun f s1 => match f with
    | .nx r1 => evS cl ro b r1 s1
    | f => .ok f s1 := id rfl
@[simp] theorem y_asg (tg : Tg) (e : E) : evS cl ro (.asg tg e) r s = (evE cl e (share (esc e) r) s).bind fun d s1 => ofO ((putTg (share (esc e) r) tg (fresh ro e) d).map .nx) s1 := id rfl
@[simp] theorem y_par2 (i j : Nat) (a b : E) : evS cl ro (.par2 i j a b) r s = (evE cl a (share (esc a ++ esc b) r) s).bind fun x s1 => (evE cl b (share (esc a ++ esc b) r) s1).bind fun y s2 => .ok (.nx (putS (putS (share (esc a ++ esc b) r) i (.sh x)) j (.sh y))) s2 := id rfl
@[simp] theorem y_par3 (i j k : Nat) (a b c : E) : evS cl ro (.par3 i j k a b c) r s = (evE cl a (share (esc a ++ (esc b ++ esc c)) r) s).bind fun x s1 => (evE cl b (share (esc a ++ (esc b ++ esc c)) r) s1).bind fun y s2 => (evE cl c (share (esc a ++ (esc b ++ esc c)) r) s2).bind fun z s3 => .ok (.nx (putS (putS (putS (share (esc a ++ (esc b ++ esc c)) r) i (.sh x)) j (.sh y)) k (.sh z))) s3 := id rfl
@[simp] theorem y_aug (i : Nat) (o : B) (e : E) : evS cl ro (.aug i o e) r s = (evE cl (.var i) (share (escB e) r) s).bind fun x s1 => (evE cl e (share (escB e) r) s1).bind fun y s2 => ofO ((augD o x y).map fun z => .nx (putS (share (escB e) r) i (.sh z))) s2 := id rfl
@[simp] theorem y_set (o i e : E) : evS cl ro (.set o i e) r s = (evE cl e (share (esc e ++ (escB o ++ escB i)) r) s).bind fun d s1 => (evE cl o (share (esc e ++ (escB o ++ escB i)) r) s1).bind fun x s2 => (evE cl i (share (esc e ++ (escB o ++ escB i)) r) s2).bind fun y s3 => setD (share (esc e ++ (escB o ++ escB i)) r) s3 o x y d := id rfl
@[simp] theorem y_dput (o : E) (es : Es) (e : E) : evS cl ro (.dput o es e) r s = (evE cl e (share (esc e ++ (escB o ++ escs es)) r) s).bind fun d s1 => (evE cl o (share (esc e ++ (escB o ++ escs es)) r) s1).bind fun x s2 => (evEs cl es (share (esc e ++ (escB o ++ escs es)) r) s2).bind fun ds s3 => dputD (share (esc e ++ (escB o ++ escs es)) r) s3 x ds d := id rfl
@[simp] theorem y_app (o e : E) : evS cl ro (.app o e) r s = (evE cl o (share (esc e ++ escB o) r) s).bind fun x s1 => if isL s1 x then (evE cl e (share (esc e ++ escB o) r) s1).bind fun d s2 => appD (share (esc e ++ escB o) r) s2 o x d else .bad := id rfl
@[simp] theorem y_exp (e : E) : evS cl ro (.exp e) r s = (evE cl e (share (escB e) r) s).bind fun _ s1 => .ok (.nx (share (escB e) r)) s1 := id rfl
@[simp] theorem y_ite (t : T) (a b : S) : evS cl ro (.ite t a b) r s = (evT cl t (share (escT t) r) s).bind fun c s1 => if c then evS cl ro a (share (escT t) r) s1 else evS cl ro b (share (escT t) r) s1 := id rfl
theorem y_while (t : T) (b : S) : evS cl ro (.while t b) r s = whileF (escT t) (evT cl t) (evS cl ro b) WF r s := rfl
theorem y_for (tg : Tg) (it : I) (b : S) : evS cl ro (.for tg it b) r s = (evI cl it (share (escI it) r) s).bind fun xs s1 => forF tg (evS cl ro b) xs (share (escI it) r) s1 := rfl
@[simp] theorem y_ret (e : E) : evS cl ro (.ret e) r s = (match varOf e with
    | some i => match getS r i with
      | .own d => .ok (.ret true d) s
      | .sh d => .ok (.ret false d) s
      | .no => .bad
    | none => (evE cl e (share (esc e) r) s).bind fun d s1 => .ok (.ret (fresh ro e) d) s1) := id rfl
@[simp] theorem y_never : evS cl ro .never r s = .bad := id rfl
@[simp] theorem y_fset (c f : PySem.Str) (a e : E) : evS cl ro (.fset c a f e) r s = (evE cl e (share (esc e ++ escB a) r) s).bind fun d s1 => (evE cl a (share (esc e ++ escB a) r) s1).bind fun x s2 => fsetD (share (esc e ++ escB a) r) s2 x c f d := id rfl
@[simp] theorem y_faug (c f : PySem.Str) (a e : E) (o : B) : evS cl ro (.faug c a f o e) r s = (evE cl a (share (escB e ++ escB a) r) s).bind fun x s1 => (ofO (fldD s1 x c f) s1).bind fun v s2 => (evE cl e (share (escB e ++ escB a) r) s2).bind fun y s3 => (ofO (augD o v y) s3).bind fun z s4 => fsetD (share (escB e ++ escB a) r) s4 x c f z := id rfl
def raiR (c : PySem.Str) (ds : List D) (s : Store) : Res Flow := if ds.length ≤ SZ then .exc ⟨c, ds⟩ s else .bad
@[simp] theorem raiR_ok {c : PySem.Str} {ds : List D} {s : Store} (h : ds.length ≤ SZ) : raiR c ds s = .exc ⟨c, ds⟩ s := if_pos h
@[simp] theorem y_raise (c : PySem.Str) (es : Es) : evS cl ro (.raise c es) r s = (evEs cl es (share (escs es) r) s).bind (raiR c) := id rfl
theorem y_tryR (b : S) (c : PySem.Str) (d : D) : evS cl ro (.tryR b c d) r s = (match evS cl ro b r s with
    | .exc x s1 => if x.cls = c then .ok (.ret false d) s1 else .bad
    | .ok f s1 => .ok f s1
    | .bad => .bad) := id rfl
@[simp] theorem y_retN : evS cl ro .retN r s = .ok (.ret false .non) s := id rfl
@[simp] theorem y_brk : evS cl ro .brk r s = .ok (.br r) s := id rfl
@[simp] theorem y_cont : evS cl ro .cont r s = .ok (.ct r) s := id rfl
end
@[simp] theorem g_0 (x : Sl) (r : Env) : getS (x :: r) 0 = x := id rfl
@[simp] theorem g_s (x : Sl) (r : Env) (n : Nat) : getS (x :: r) (n + 1) = getS r n := id rfl
@[simp] theorem p_0 (x y : Sl) (r : Env) : putS (x :: r) 0 y = y :: r := id rfl
@[simp] theorem p_s (x y : Sl) (r : Env) (n : Nat) : putS (x :: r) (n + 1) y = x :: putS r n y := id rfl
@[simp] theorem sh_0 (x : Sl) (r : Env) : shAt (x :: r) 0 = toSh x :: r := id rfl
@[simp] theorem sh_s (x : Sl) (r : Env) (n : Nat) : shAt (x :: r) (n + 1) = x :: shAt r n := id rfl
@[simp] theorem ts_no : toSh .no = .no := id rfl
@[simp] theorem ts_sh (d : D) : toSh (.sh d) = .sh d := id rfl
@[simp] theorem ts_own (d : D) : toSh (.own d) = .sh d := id rfl
@[simp] theorem share_nil (r : Env) : share [] r = r := id rfl
@[simp] theorem share_cons (i : Nat) (l : List Nat) (r : Env) : share (i :: l) r = share l (shAt r i) := id rfl
@[simp] theorem w_nil (r : Env) : wipeE [] r = r := id rfl
@[simp] theorem w_cons (i : Nat) (l : List Nat) (r : Env) : wipeE (i :: l) r = wipeE l (putS r i .no) := id rfl
@[simp] theorem pt_name (r : Env) (i : Nat) (own : Bool) (d : D) : putTg r (.name i) own d = some (putS r i (if own then .own d else .sh d)) := id rfl
@[simp] theorem pt_tup (r : Env) (is : List Nat) (own : Bool) (ds : List D) : putTg r (.tup is) own (.tup ds) = putAll r is ds := id rfl
@[simp] theorem pa_nil (r : Env) : putAll r [] [] = some r := id rfl
@[simp] theorem pa_cons (r : Env) (i : Nat) (is : List Nat) (d : D) (ds : List D) : putAll r (i :: is) (d :: ds) = putAll (putS r i (.sh d)) is ds := id rfl
/-! which slots -/
section
variable (a b c i e : E) (t u : T) (es : Es) (it : I) (o p : C) (bo : B) (n : Nat) (l h : Eo) (d : D) (tg : Tg) (q : To) (vs : List Nat) (f : F) (ty : Ty) (sc sf : PySem.Str)
@[simp] theorem e_esc : esc e = topv e ++ escB e := id rfl
@[simp] theorem tv_var : topv (.var n) = [n] := id rfl
@[simp] theorem tv_con : topv (.con d) = [] := id rfl
@[simp] theorem tv_bin : topv (.bin bo a b) = [] := id rfl
@[simp] theorem tv_neg : topv (.neg a) = [] := id rfl
@[simp] theorem tv_cmp : topv (.cmp o a b) = [] := id rfl
@[simp] theorem tv_chain : topv (.chain o p a b c) = [] := id rfl
@[simp] theorem tv_andv : topv (.andv a b) = [] := id rfl
@[simp] theorem tv_orv : topv (.orv a b) = [] := id rfl
@[simp] theorem tv_ite : topv (.ite t a b) = [] := id rfl
@[simp] theorem tv_tup : topv (.tup es) = [] := id rfl
@[simp] theorem tv_lst : topv (.lst es) = [] := id rfl
@[simp] theorem tv_newl : topv (.newl es) = [] := id rfl
@[simp] theorem tv_never : topv .never = [] := id rfl
@[simp] theorem eb_never : escB .never = [] := id rfl
@[simp] theorem vo_never : varOf .never = none := id rfl
@[simp] theorem tv_fld : topv (.fld sc a sf) = [] := id rfl
@[simp] theorem eb_fld : escB (.fld sc a sf) = escB a := id rfl
@[simp] theorem vo_fld : varOf (.fld sc a sf) = none := id rfl
@[simp] theorem tv_meth : topv (.meth sc n sf a es) = [] := id rfl
@[simp] theorem eb_meth : escB (.meth sc n sf a es) = (topv a ++ escB a) ++ escs es := id rfl
@[simp] theorem vo_meth : varOf (.meth sc n sf a es) = none := id rfl
@[simp] theorem tv_make : topv (.make sc n es) = [] := id rfl
@[simp] theorem eb_make : escB (.make sc n es) = escs es := id rfl
@[simp] theorem vo_make : varOf (.make sc n es) = none := id rfl
@[simp] theorem tv_join : topv (.join a b) = [] := id rfl
@[simp] theorem eb_join : escB (.join a b) = escB a ++ escB b := id rfl
@[simp] theorem vo_join : varOf (.join a b) = none := id rfl
@[simp] theorem tv_newd : topv .newd = [] := id rfl
@[simp] theorem tv_dgt : topv (.dgt a es) = [] := id rfl
@[simp] theorem eb_newd : escB .newd = [] := id rfl
@[simp] theorem eb_dgt : escB (.dgt a es) = escB a ++ escs es := id rfl
@[simp] theorem vo_newd : varOf .newd = none := id rfl
@[simp] theorem vo_dgt : varOf (.dgt a es) = none := id rfl
@[simp] theorem tv_idx : topv (.idx a b) = [] := id rfl
@[simp] theorem tv_slc : topv (.slc a l h) = [] := id rfl
@[simp] theorem tv_rev : topv (.rev a) = [] := id rfl
@[simp] theorem tv_call : topv (.call n es) = [] := id rfl
@[simp] theorem tv_blt : topv (.blt f es) = [] := id rfl
@[simp] theorem tv_isi : topv (.isi a ty) = [] := id rfl
@[simp] theorem tv_comp : topv (.comp e tg it q vs) = [] := id rfl
@[simp] theorem tv_notv : topv (.notv a) = [] := id rfl
@[simp] theorem eb_var : escB (.var n) = [] := id rfl
@[simp] theorem eb_con : escB (.con d) = [] := id rfl
@[simp] theorem eb_bin : escB (.bin bo a b) = escB a ++ escB b := id rfl
@[simp] theorem eb_neg : escB (.neg a) = escB a := id rfl
@[simp] theorem eb_cmp : escB (.cmp o a b) = escB a ++ escB b := id rfl
@[simp] theorem eb_chain : escB (.chain o p a b c) = escB a ++ (escB b ++ escB c) := id rfl
@[simp] theorem eb_andv : escB (.andv a b) = escB a ++ escB b := id rfl
@[simp] theorem eb_orv : escB (.orv a b) = escB a ++ escB b := id rfl
@[simp] theorem eb_notv : escB (.notv a) = escB a := id rfl
@[simp] theorem eb_ite : escB (.ite t a b) = escT t ++ ((topv a ++ escB a) ++ (topv b ++ escB b)) := id rfl
@[simp] theorem eb_tup : escB (.tup es) = escs es := id rfl
@[simp] theorem eb_lst : escB (.lst es) = escs es := id rfl
@[simp] theorem eb_newl : escB (.newl es) = escs es := id rfl
@[simp] theorem eb_idx : escB (.idx a i) = escB a ++ escB i := id rfl
@[simp] theorem eb_slc : escB (.slc a l h) = escB a ++ (escO l ++ escO h) := id rfl
@[simp] theorem eb_rev : escB (.rev a) = escB a := id rfl
@[simp] theorem eb_call : escB (.call n es) = escs es := id rfl
@[simp] theorem eb_blt : escB (.blt f es) = escBs es := id rfl
@[simp] theorem eb_isi : escB (.isi a ty) = escB a := id rfl
@[simp] theorem eb_comp : escB (.comp e tg it q vs) = (topv e ++ escB e) ++ (escI it ++ escTo q) := id rfl
@[simp] theorem es_nil : escs .nil = [] := id rfl
@[simp] theorem es_cons : escs (.cons e es) = (topv e ++ escB e) ++ escs es := id rfl
@[simp] theorem ebs_nil : escBs .nil = [] := id rfl
@[simp] theorem ebs_cons : escBs (.cons e es) = escB e ++ escBs es := id rfl
@[simp] theorem eo_none : escO .none = [] := id rfl
@[simp] theorem eo_some : escO (.some e) = escB e := id rfl
@[simp] theorem et_tru : escT (.tru e) = escB e := id rfl
@[simp] theorem et_and : escT (.and t u) = escT t ++ escT u := id rfl
@[simp] theorem et_or : escT (.or t u) = escT t ++ escT u := id rfl
@[simp] theorem et_not : escT (.not t) = escT t := id rfl
@[simp] theorem eto_yes : escTo .yes = [] := id rfl
@[simp] theorem eto_one : escTo (.one t) = escT t := id rfl
@[simp] theorem ei_seq : escI (.seq e) = (topv e ++ escB e) := id rfl
@[simp] theorem ei_rng1 : escI (.rng1 e) = escB e := id rfl
@[simp] theorem ei_rng2 : escI (.rng2 a b) = escB a ++ escB b := id rfl
@[simp] theorem ei_zip : escI (.zip a b) = (topv a ++ escB a) ++ (topv b ++ escB b) := id rfl
@[simp] theorem ei_enum : escI (.enum a) = (topv a ++ escB a) := id rfl
@[simp] theorem vo_var : varOf (.var n) = some n := id rfl
@[simp] theorem vo_con : varOf (.con d) = none := id rfl
@[simp] theorem vo_bin : varOf (.bin bo a b) = none := id rfl
@[simp] theorem vo_neg : varOf (.neg a) = none := id rfl
@[simp] theorem vo_cmp : varOf (.cmp o a b) = none := id rfl
@[simp] theorem vo_chain : varOf (.chain o p a b c) = none := id rfl
@[simp] theorem vo_andv : varOf (.andv a b) = none := id rfl
@[simp] theorem vo_orv : varOf (.orv a b) = none := id rfl
@[simp] theorem vo_ite : varOf (.ite t a b) = none := id rfl
@[simp] theorem vo_tup : varOf (.tup es) = none := id rfl
@[simp] theorem vo_lst : varOf (.lst es) = none := id rfl
@[simp] theorem vo_newl : varOf (.newl es) = none := id rfl
@[simp] theorem vo_idx : varOf (.idx a b) = none := id rfl
@[simp] theorem vo_slc : varOf (.slc a l h) = none := id rfl
@[simp] theorem vo_rev : varOf (.rev a) = none := id rfl
@[simp] theorem vo_call : varOf (.call n es) = none := id rfl
@[simp] theorem vo_blt : varOf (.blt f es) = none := id rfl
@[simp] theorem vo_isi : varOf (.isi a ty) = none := id rfl
@[simp] theorem vo_comp : varOf (.comp e tg it q vs) = none := id rfl
@[simp] theorem vo_notv : varOf (.notv a) = none := id rfl
end
section
variable (ro : Nat → Bool) (a b c i e : E) (t : T) (es : Es) (it : I) (o p : C) (n : Nat) (l h : Eo) (d : D) (tg : Tg) (q : To) (vs : List Nat) (ty : Ty) (sc sf : PySem.Str)
@[simp] theorem f_never : fresh ro .never = false := id rfl
@[simp] theorem f_fld : fresh ro (.fld sc a sf) = false := id rfl
@[simp] theorem f_meth : fresh ro (.meth sc n sf a es) = false := id rfl
@[simp] theorem f_make : fresh ro (.make sc n es) = false := id rfl
@[simp] theorem f_join : fresh ro (.join a b) = false := id rfl
@[simp] theorem f_str : fresh ro (.blt .str es) = false := id rfl
@[simp] theorem f_var : fresh ro (.var n) = false := id rfl
@[simp] theorem f_con : fresh ro (.con d) = false := id rfl
@[simp] theorem f_add : fresh ro (.bin .add a b) = true := id rfl
@[simp] theorem f_sub : fresh ro (.bin .sub a b) = false := id rfl
@[simp] theorem f_mul : fresh ro (.bin .mul a b) = false := id rfl
@[simp] theorem f_fdiv : fresh ro (.bin .fdiv a b) = false := id rfl
@[simp] theorem f_mod : fresh ro (.bin .mod a b) = false := id rfl
@[simp] theorem f_pow : fresh ro (.bin .pow a b) = false := id rfl
@[simp] theorem f_neg : fresh ro (.neg a) = false := id rfl
@[simp] theorem f_cmp : fresh ro (.cmp o a b) = false := id rfl
@[simp] theorem f_chain : fresh ro (.chain o p a b c) = false := id rfl
@[simp] theorem f_andv : fresh ro (.andv a b) = false := id rfl
@[simp] theorem f_orv : fresh ro (.orv a b) = false := id rfl
@[simp] theorem f_notv : fresh ro (.notv a) = false := id rfl
@[simp] theorem f_ite : fresh ro (.ite t a b) = false := id rfl
@[simp] theorem f_tup : fresh ro (.tup es) = false := id rfl
@[simp] theorem f_lst : fresh ro (.lst es) = true := id rfl
@[simp] theorem f_newl : fresh ro (.newl es) = false := id rfl
@[simp] theorem f_newd : fresh ro .newd = false := id rfl
@[simp] theorem f_dgt : fresh ro (.dgt a es) = false := id rfl
@[simp] theorem f_idx : fresh ro (.idx a b) = false := id rfl
@[simp] theorem f_slc : fresh ro (.slc a l h) = true := id rfl
@[simp] theorem f_rev : fresh ro (.rev a) = true := id rfl
@[simp] theorem f_call : fresh ro (.call n es) = ro n := id rfl
@[simp] theorem f_isi : fresh ro (.isi a ty) = false := id rfl
@[simp] theorem f_comp : fresh ro (.comp e tg it q vs) = true := id rfl
@[simp] theorem f_len : fresh ro (.blt .len es) = false := id rfl
@[simp] theorem f_sum : fresh ro (.blt .sum es) = false := id rfl
@[simp] theorem f_int : fresh ro (.blt .int es) = false := id rfl
@[simp] theorem f_abs : fresh ro (.blt .abs es) = false := id rfl
@[simp] theorem f_min2 : fresh ro (.blt .min2 es) = false := id rfl
@[simp] theorem f_max2 : fresh ro (.blt .max2 es) = false := id rfl
@[simp] theorem f_tuple : fresh ro (.blt .tuple es) = false := id rfl
@[simp] theorem f_list : fresh ro (.blt .list es) = true := id rfl
@[simp] theorem f_all : fresh ro (.blt .all es) = false := id rfl
@[simp] theorem f_any : fresh ro (.blt .any es) = false := id rfl
end
/-! operations -/
section
variable (i j : Int) (x y : D) (ds es : List D) (s : Store) (n : Nat) (b c : Bool)
@[simp] theorem b_add : binD .add (.int i) (.int j) = some (.int (i + j)) := id rfl
@[simp] theorem b_sub : binD .sub (.int i) (.int j) = some (.int (i - j)) := id rfl
@[simp] theorem b_mul (h : mulOk i j = true) : binD .mul (.int i) (.int j) = some (.int (i * j)) := if_pos h
@[simp] theorem b_fdiv (h : divOk j = true) : binD .fdiv (.int i) (.int j) = some (.int (i / j)) := if_pos h
@[simp] theorem b_mod (h : 0 < j) : binD .mod (.int i) (.int j) = some (.int (i % j)) := if_pos h
@[simp] theorem u_mul (h : (small64 i || small64 j) = true) : augD .mul (.int i) (.int j) = some (.int (i * j)) := if_pos h
@[simp] theorem u_fdiv (h : divOk j = true) : augD .fdiv (.int i) (.int j) = some (.int (i / j)) := if_pos h
@[simp] theorem u_mod (h : 0 < j) : augD .mod (.int i) (.int j) = some (.int (i % j)) := if_pos h
@[simp] theorem u_add : augD .add (.int i) (.int j) = some (.int (i + j)) := id rfl
@[simp] theorem u_sub : augD .sub (.int i) (.int j) = some (.int (i - j)) := id rfl
@[simp] theorem c_lt : cmpD .lt (.int i) (.int j) = some (decide (i < j)) := id rfl
@[simp] theorem c_le : cmpD .le (.int i) (.int j) = some (decide (i ≤ j)) := id rfl
@[simp] theorem c_gt : cmpD .gt (.int i) (.int j) = some (decide (j < i)) := id rfl
@[simp] theorem c_ge : cmpD .ge (.int i) (.int j) = some (decide (j ≤ i)) := id rfl
@[simp] theorem c_eqi : cmpD .eq (.int i) (.int j) = some (i == j) := id rfl
@[simp] theorem c_nei : cmpD .ne (.int i) (.int j) = some (!(i == j)) := id rfl
@[simp] theorem c_eqb : cmpD .eq (.bl b) (.bl c) = some (b == c) := by
  cases b <;> cases c <;> rfl
@[simp] theorem c_neb : cmpD .ne (.bl b) (.bl c) = some (!(b == c)) := by
  cases b <;> cases c <;> rfl
@[simp] theorem c_is : cmpD .is x .non = some (isNon x) := id rfl
@[simp] theorem c_isnot : cmpD .isnot x .non = some (!isNon x) := id rfl
@[simp] theorem t_non : truD s .non = some false := id rfl
@[simp] theorem t_bl : truD s (.bl b) = some b := id rfl
@[simp] theorem t_int : truD s (.int i) = some (i != 0) := id rfl
@[simp] theorem t_tup : truD s (.tup ds) = some (!ds.isEmpty) := id rfl
@[simp] theorem t_lst : truD s (.lst ds) = some (!ds.isEmpty) := id rfl
@[simp] theorem i_tup : idxD s (.tup ds) (.int i) = atD ds i := id rfl
@[simp] theorem i_lst : idxD s (.lst ds) (.int i) = atD ds i := id rfl
@[simp] theorem i_rol : idxD s (.rol ds) (.int i) = atD ds i := id rfl
@[simp] theorem i_ref : idxD s (.ref n) (.int i) = (match s[n]? with | some (.lst ds) => atD ds i | _ => none) := id rfl
@[simp] theorem l_tup : bltD s .len [.tup ds] = some (.int ds.length) := id rfl
@[simp] theorem l_lst : bltD s .len [.lst ds] = some (.int ds.length) := id rfl
@[simp] theorem l_rol : bltD s .len [.rol ds] = some (.int ds.length) := id rfl
@[simp] theorem l_min : bltD s .min2 [.int i, .int j] = some (.int (minI i j)) := id rfl
@[simp] theorem l_max : bltD s .max2 [.int i, .int j] = some (.int (maxI i j)) := id rfl
@[simp] theorem l_abs : bltD s .abs [.int i] = some (.int (if i < 0 then -i else i)) := id rfl
@[simp] theorem l_int : bltD s .int [.int i] = some (.int i) := id rfl
@[simp] theorem l_intb : bltD s .int [.bl b] = some (.int (if b then 1 else 0)) := id rfl
@[simp] theorem l_tuple : bltD s .tuple [.lst ds] = some (.tup ds) := id rfl
@[simp] theorem l_tuplet : bltD s .tuple [.tup ds] = some (.tup ds) := id rfl
@[simp] theorem l_list : bltD s .list [.lst ds] = some (.lst ds) := id rfl
@[simp] theorem l_listr : bltD s .list [.rol ds] = some (.lst ds) := id rfl
@[simp] theorem l_listt : bltD s .list [.tup ds] = some (.lst ds) := id rfl
@[simp] theorem l_sum : bltD s .sum [.lst ds] = (intsD ds).map fun ns => .int ns.sum := id rfl
@[simp] theorem l_all : bltD s .all [.lst ds] = (blsD ds).map fun bs => .bl (bs.all id) := id rfl
@[simp] theorem l_any : bltD s .any [.lst ds] = (blsD ds).map fun bs => .bl (bs.any id) := id rfl
@[simp] theorem it_rol : itemsD (.rol ds) = some ds := id rfl
@[simp] theorem it_tup : itemsD (.tup ds) = some ds := id rfl
@[simp] theorem it_lst : itemsD (.lst ds) = some ds := id rfl
@[simp] theorem it_str (z : List Nat) : itemsD (.str z) = some (z.map fun c => .str [c]) := id rfl
@[simp] theorem as_int : asInt (.int i) = some i := id rfl
@[simp] theorem as_bl : asBl (.bl b) = some b := id rfl
@[simp] theorem n_non : isNon .non = true := id rfl
@[simp] theorem n_bl : isNon (.bl b) = false := id rfl
@[simp] theorem n_int : isNon (.int i) = false := id rfl
@[simp] theorem n_str (z : List Nat) : isNon (.str z) = false := id rfl
@[simp] theorem n_tup : isNon (.tup ds) = false := id rfl
@[simp] theorem n_lst : isNon (.lst ds) = false := id rfl
end
@[simp] theorem at_0 {a : Type} (x : a) (l : List a) : atD (x :: l) 0 = some x := by
  simp [atD, L2.atI, L2.ixN]
@[simp] theorem at_1 {a : Type} (x y : a) (l : List a) : atD (x :: y :: l) 1 = some y := by
  have : (1 : Int) < ((l.length : Int) + 1 + 1) := by omega
  simp [atD, L2.atI, L2.ixN, this]
@[simp] theorem at_2 {a : Type} (x y z : a) (l : List a) : atD (x :: y :: z :: l) 2 = some z := by
  have : (2 : Int) < ((l.length : Int) + 1 + 1 + 1) := by omega
  simp [atD, L2.atI, L2.ixN, this]
@[simp] theorem at_3 {a : Type} (x y z u : a) (l : List a) : atD (x :: y :: z :: u :: l) 3 = some u := by
  have : (3 : Int) < ((l.length : Int) + 1 + 1 + 1 + 1) := by omega
  simp [atD, L2.atI, L2.ixN, this]
@[simp] theorem at_4 {a : Type} (x y z u v : a) (l : List a) : atD (x :: y :: z :: u :: v :: l) 4 = some v := by
  have : (4 : Int) < ((l.length : Int) + 1 + 1 + 1 + 1 + 1) := by omega
  simp [atD, L2.atI, L2.ixN, this]
theorem at_nat {a : Type} {l : List a} {i : Int} {k : Nat} (h : i = k) : atD l i = l[k]? := by
  subst h
  simp only [atD, L2.atI, L2.ixN]
  split
  · split
    · simp
    · rename_i h1 h2
      rw [List.getElem?_eq_none (by omega)]
      rfl
  · rename_i h
    exact absurd (Int.natCast_nonneg k) h
theorem mulOk_l {i j : Int} (h : small64 i = true) : mulOk i j = true := by simp [mulOk, h]
theorem mulOk_r {i j : Int} (h : small64 j = true) : mulOk i j = true := by simp [mulOk, h]
theorem small_of {i : Int} (h : -18446744073709551616 < i) (h2 : i < 18446744073709551616) : small64 i = true := by
  simp only [small64, Bool.and_eq_true, decide_eq_true_eq]
  exact ⟨by simpa using h, by simpa using h2⟩
theorem divOk_of {j : Int} (h : 0 < j) (h2 : j < 1073741824) : divOk j = true := by
  simp [divOk, h, h2]
theorem rngOk_in {i : Int} (h : -4611686018427387904 ≤ i) (h2 : i < 4611686018427387904) : rngOk i = true := by
  simp only [rngOk, Bool.and_eq_true, decide_eq_true_eq]
  exact ⟨by simpa using h, by simpa using h2⟩
/-! ### loops -/
theorem whileF_run {l : List Nat} {c : Env → Store → Res Bool} {b : Env → Store → Res Flow} {Q : Res Flow → Prop} (I : Env → Store → Nat → Prop)
    (step : ∀ r s m, I r s m → (∃ s1, c (share l r) s = .ok false s1 ∧ Q (.ok (.nx (share l r)) s1)) ∨
      (∃ s1, c (share l r) s = .ok true s1 ∧ ((∃ r' s2 m', (b (share l r) s1 = .ok (.nx r') s2 ∨ b (share l r) s1 = .ok (.ct r') s2) ∧ m' < m ∧ I r' s2 m') ∨
        (∃ r' s2, b (share l r) s1 = .ok (.br r') s2 ∧ Q (.ok (.nx r') s2)) ∨ ∃ o d s2, b (share l r) s1 = .ok (.ret o d) s2 ∧ Q (.ok (.ret o d) s2)))) :
    ∀ (n : Nat) (r : Env) (s : Store) (m : Nat), m < n → I r s m → Q (whileF l c b n r s)
  | 0, _, _, _, h, _ => absurd h (Nat.not_lt_zero _)
  | n + 1, r, s, m, h, i => by
    rcases step r s m i with ⟨s1, e, q⟩ | ⟨s1, e, q⟩
    · simp only [whileF, e, bind_ok]
      simpa using q
    · rcases q with ⟨r', s2, m', e2, h2, i2⟩ | ⟨r', s2, e2, q⟩ | ⟨o, d, s2, e2, q⟩
      · have ih := whileF_run I step n r' s2 m' (by omega) i2
        rcases e2 with e2 | e2 <;> simpa only [whileF, e, bind_ok, e2, if_true] using ih
      · simpa only [whileF, e, bind_ok, e2, if_true] using q
      · simpa only [whileF, e, bind_ok, e2, if_true] using q
theorem forF_run {tg : Tg} {b : Env → Store → Res Flow} {Q : Res Flow → Prop} (I : List D → Env → Store → Prop) (done : ∀ r s, I [] r s → Q (.ok (.nx r) s))
    (step : ∀ x xs r s, I (x :: xs) r s → ∃ r1, putTg r tg false x = some r1 ∧ ((∃ r' s2, (b r1 s = .ok (.nx r') s2 ∨ b r1 s = .ok (.ct r') s2) ∧ I xs r' s2) ∨ (∃ r' s2, b r1 s = .ok (.br r') s2 ∧ Q (.ok (.nx r') s2)) ∨ ∃ o d s2, b r1 s = .ok (.ret o d) s2 ∧ Q (.ok (.ret o d) s2))) :
    ∀ (xs : List D) (r : Env) (s : Store), I xs r s → Q (forF tg b xs r s)
  | [], r, s, i => done r s i
  | x :: xs, r, s, i => by
    obtain ⟨r1, e1, q⟩ := step x xs r s i
    rcases q with ⟨r', s2, e2, i2⟩ | ⟨r', s2, e2, q⟩ | ⟨o, d, s2, e2, q⟩
    · have ih := forF_run I done step xs r' s2 i2
      rcases e2 with e2 | e2 <;> simpa only [forF, e1, bind_ok, e2] using ih
    · simpa only [forF, e1, bind_ok, e2] using q
    · simpa only [forF, e1, bind_ok, e2] using q
@[simp] theorem forF_nil (tg : Tg) (b : Env → Store → Res Flow) (r : Env) (s : Store) : forF tg b [] r s = .ok (.nx r) s := id rfl
theorem forF_cons (tg : Tg) (b : Env → Store → Res Flow) (x : D) (xs : List D) (r : Env) (s : Store) : forF tg b (x :: xs) r s = (match putTg r tg false x with
    | none => .bad
    | some r1 => (b r1 s).bind fun f s2 => match f with
      | .nx r' => forF tg b xs r' s2
      | .ct r' => forF tg b xs r' s2
      | .br r' => .ok (.nx r') s2
      | .ret o d => .ok (.ret o d) s2) := rfl
/-- a call, its body's end -/
def endR (ro : Bool) (x : Res Flow) : Res D := x.bind fun fl s1 => match fl with
  | .ret o d => if ro && !o then .bad else .ok d s1
  | .nx _ => if ro then .bad else .ok .non s1
  | _ => .bad
theorem call_ini {fs : List Fn} {n f : Nat} {fn : Fn} {args : List D} {s : Store} (h : fs[f]? = some fn) (ha : args.length = fn.np) (hi : fn.ini = false ∨ MKT < n) : callF fs (n + 1) f args s = endR fn.ro (evS (callF fs n) (roOf fs) fn.body (args.map Sl.sh ++ List.replicate (fn.ns - fn.np) Sl.no) s) := by
  simp only [callF, h]
  rw [if_pos ⟨ha, hi⟩]
  rfl
theorem call_eq {fs : List Fn} {n f : Nat} {fn : Fn} {args : List D} {s : Store} (h : fs[f]? = some fn) (ha : args.length = fn.np) (hi : fn.ini = false := by rfl) : callF fs (n + 1) f args s = endR fn.ro (evS (callF fs n) (roOf fs) fn.body (args.map Sl.sh ++ List.replicate (fn.ns - fn.np) Sl.no) s) := call_ini h ha (.inl hi)
@[simp] theorem end_ret (o : Bool) (d : D) (s : Store) : endR false (.ok (.ret o d) s) = .ok d s := id rfl
@[simp] theorem end_own (d : D) (s : Store) : endR true (.ok (.ret true d) s) = .ok d s := id rfl
@[simp] theorem end_nx (r : Env) (s : Store) : endR false (.ok (.nx r) s) = .ok .non s := id rfl
end PyX

/-! What all laws share: the pool, the draws, the comparison. -/
namespace PyX
open PyE
@[simp] theorem small_31 : small64 31 = true := by decide
@[simp] theorem small_a : small64 48271 = true := by decide
@[simp] theorem small_b : small64 2147483647 = true := by decide
@[simp] theorem small_c : small64 69621 = true := by decide
@[simp] theorem small_d : small64 16807 = true := by decide
@[simp] theorem SZ_pos : (4 : Nat) ≤ SZ ∧ (5 : Nat) ≤ SZ := by decide
theorem rng_succ (k : Nat) (n : Nat) : rngD k (k + n + 1 : Nat) = .int k :: rngD (k + 1 : Nat) (k + n + 1 : Nat) := by
  have e1 : (((k + n + 1 : Nat) : Int) - (k : Int)).toNat = n + 1 := by omega
  have e2 : (((k + n + 1 : Nat) : Int) - ((k + 1 : Nat) : Int)).toNat = n := by omega
  simp only [rngD, e1, e2, List.range_succ_eq_map, List.map_cons, List.map_map]
  refine congr (congrArg _ ?_) (List.map_congr_left fun j _ => ?_)
  · simp
  · simp only [Function.comp]
    congr 1
    push_cast
    omega
theorem rng_nil (k : Int) : rngD k k = [] := by
  simp [rngD]
theorem rng_4 : rngD 0 4 = [.int 0, .int 1, .int 2, .int 3] := rfl
def spreadB : S := (.seq (.asg (.name 1) (.bin .mod (.blt .int (.cons (.var 0) .nil)) (.con (.int 2147483647))))
  (.seq (.asg (.name 2) (.con (.int 1)))
  (.seq (.for (.name 3) (.rng1 (.con (.int 4))) (.seq (.asg (.name 1) (.bin .mod (.blt .int (.cons (.bin .add (.bin .add (.bin .mul (.var 1) (.con (.int 48271))) (.con (.int 12345))) (.var 3)) .nil)) (.con (.int 2147483647))))
  (.asg (.name 2) (.bin .add (.bin .mul (.var 2) (.con (.int 2147483647))) (.var 1)))))
  (.ret (.var 2)))))
def mulR (i j : Int) : Option D := if mulOk i j then some (.int (i * j)) else none
theorem spread_ok {fs : List Fn} {i n : Nat} (h : fs[i]? = some ⟨1, 4, false, false, spreadB⟩) (c : Int) (s : Store) : ∃ v, callF fs (n + 1) i [.int c] s = .ok (.int v) s := by
  rw [call_eq h rfl]
  simp [spreadB, y_for, rng_4, forF_cons, rngOk_in, mulOk_r]
def drawB (sp : Nat) : S := (.seq (.ite (.and (.tru (.cmp .le (.idx (.var 0) (.con (.int 2))) (.con (.int 0)))) (.tru (.cmp .lt (.idx (.var 0) (.con (.int 1))) (.blt .len (.cons (.idx (.var 0) (.con (.int 0))) .nil))))) (.seq (.asg (.name 3) (.idx (.idx (.var 0) (.con (.int 0))) (.idx (.var 0) (.con (.int 1)))))
  (.seq (.set (.var 0) (.con (.int 1)) (.bin .add (.idx (.var 0) (.con (.int 1))) (.con (.int 1))))
  (.seq (.set (.var 0) (.con (.int 2)) (.var 3))
  (.ite (.tru (.cmp .lt (.var 3) (.con (.int 1000000000000000000)))) (.set (.var 0) (.con (.int 2)) (.call sp (.cons (.var 3) .nil))) .skip)))) .skip)
  (.seq (.set (.var 0) (.con (.int 3)) (.bin .add (.idx (.var 0) (.con (.int 3))) (.con (.int 1))))
  (.seq (.ite (.tru (.cmp .le (.idx (.var 0) (.con (.int 2))) (.con (.int 0)))) (.seq (.asg (.name 4) (.bin .mod (.blt .int (.cons (.bin .add (.bin .add (.bin .mul (.idx (.var 0) (.con (.int 4))) (.con (.int 48271))) (.bin .mul (.idx (.var 0) (.con (.int 3))) (.con (.int 69621)))) (.con (.int 1))) .nil)) (.con (.int 2147483647))))
  (.seq (.asg (.name 4) (.bin .mod (.blt .int (.cons (.bin .add (.bin .mul (.var 4) (.con (.int 16807))) (.idx (.var 0) (.con (.int 3)))) .nil)) (.con (.int 2147483629))))
  (.ret (.bin .mod (.bin .fdiv (.var 4) (.con (.int 5))) (.var 1))))) .skip)
  (.seq (.asg (.name 2) (.bin .mod (.blt .int (.cons (.idx (.var 0) (.con (.int 2))) .nil)) (.var 1)))
  (.seq (.set (.var 0) (.con (.int 2)) (.bin .fdiv (.idx (.var 0) (.con (.int 2))) (.var 1)))
  (.ret (.var 2)))))))
/-- the pool stands at the store's head -/
def pl (xs : List Int) (a b c d : Int) : List D := [.lst (xs.map D.int), .int a, .int b, .int c, .int d]
def Pool (rest s : Store) : Prop := ∃ xs a b c d, s = Ob.lst (pl xs a b c d) :: rest ∧ 0 ≤ a
section
variable (r : Env) (s : Store) (o : E) (x y z u v w d : D) (rest : Store)
@[simp] theorem sd_1 : setD r (Ob.lst [x, y, z, u, v] :: rest) o (.ref 0) (.int 1) d = .ok (.nx r) (Ob.lst [x, d, z, u, v] :: rest) := id rfl
@[simp] theorem sd_2 : setD r (Ob.lst [x, y, z, u, v] :: rest) o (.ref 0) (.int 2) d = .ok (.nx r) (Ob.lst [x, y, d, u, v] :: rest) := id rfl
@[simp] theorem sd_3 : setD r (Ob.lst [x, y, z, u, v] :: rest) o (.ref 0) (.int 3) d = .ok (.nx r) (Ob.lst [x, y, z, d, v] :: rest) := id rfl
end
theorem ok_bind_ite {a : Type} {c : Prop} [Decidable c] (x y : Res a) {b : Type} (f : a → Store → Res b) : (if c then x else y).bind f = if c then x.bind f else y.bind f := by
  split <;> rfl
theorem draw_tail {fs : List Fn} {n : Nat} {sp : Nat} (cl : Nat → List D → Store → Res D) (ro : Nat → Bool) (e3 : Sl) (xs : List Int) (a b c d many : Int) (rest : Store) (ha : 0 ≤ a) (hm : 0 < many) (hm2 : many < 1073741824) :
    ∃ v s', endR false (evS cl ro (match drawB sp with | .seq _ t => t | x => x) [.sh (.ref 0), .sh (.int many), .no, e3, .no] (Ob.lst (pl xs a b c d) :: rest)) = .ok (.int v) s' ∧ 0 ≤ v ∧ v < many ∧ Pool rest s' := by
  by_cases hb : b ≤ 0
  · refine ⟨(((d * 48271 + (c + 1) * 69621 + 1) % 2147483647 * 16807 + (c + 1)) % 2147483629) / 5 % many, _, ?_, Int.emod_nonneg _ (by omega), Int.emod_lt_of_pos _ hm, xs, a, b, c + 1, d, rfl, ha⟩
    · simp [drawB, pl, hb, mulOk_r, divOk_of, hm]
  · refine ⟨b % many, _, ?_, Int.emod_nonneg _ (by omega), Int.emod_lt_of_pos _ hm, xs, a, b / many, c + 1, d, rfl, ha⟩
    simp [drawB, pl, hb, mulOk_r, divOk_of, hm, hm2]
theorem draw_ok {fs : List Fn} {i sp n : Nat} (h : fs[i]? = some ⟨2, 5, false, false, drawB sp⟩) (hs : fs[sp]? = some ⟨1, 4, false, false, spreadB⟩) {rest s : Store} {many : Int} (hm : 0 < many) (hm2 : many < 1073741824) (hp : Pool rest s) :
    ∃ v s', callF fs (n + 2) i [.ref 0, .int many] s = .ok (.int v) s' ∧ 0 ≤ v ∧ v < many ∧ Pool rest s' := by
  obtain ⟨xs, a, b, c, d, rfl, ha⟩ := hp
  rw [call_eq h rfl]
  by_cases hc : b ≤ 0 ∧ a < xs.length
  · obtain ⟨k, rfl⟩ : ∃ k : Nat, a = k := ⟨a.toNat, by omega⟩
    have hk : k < xs.length := by omega
    have e1 : atD (xs.map D.int) (k : Int) = some (.int xs[k]) := by
      rw [at_nat rfl]
      simp [hk]
    obtain ⟨w, hw⟩ := spread_ok (n := n) hs xs[k] (Ob.lst (pl xs (k + 1) xs[k] c d) :: rest)
    by_cases hx : xs[k] < 1000000000000000000
    · obtain ⟨v, s', h1, h2⟩ := draw_tail (fs := fs) (n := n) (sp := sp) (callF fs (n + 1)) (roOf fs) (.sh (.int xs[k])) xs (k + 1) w c d many rest (by omega) hm hm2
      refine ⟨v, s', ?_, h2⟩
      rw [← h1]
      simp only [pl] at hw
      simp [drawB, pl, hc, e1, hx, hw]
    · obtain ⟨v, s', h1, h2⟩ := draw_tail (fs := fs) (n := n) (sp := sp) (callF fs (n + 1)) (roOf fs) (.sh (.int xs[k])) xs (k + 1) xs[k] c d many rest (by omega) hm hm2
      refine ⟨v, s', ?_, h2⟩
      rw [← h1]
      simp [drawB, pl, hc, e1, hx]
  · obtain ⟨v, s', h1, h2⟩ := draw_tail (fs := fs) (n := n) (sp := sp) (callF fs (n + 1)) (roOf fs) .no xs a b c d many rest ha hm hm2
    refine ⟨v, s', ?_, h2⟩
    rw [← h1]
    by_cases hb : b ≤ 0
    · have hq : ¬ a < xs.length := fun q => hc ⟨hb, q⟩
      simp [drawB, pl, hb, hq]
    · simp [drawB, pl, hb]
/-! ### the pool -/
def poolB : S := (.seq (.asg (.name 1) (.con (.int 7)))
  (.seq (.for (.name 2) (.seq (.slc (.var 0) .none (.some (.con (.int 63))))) (.asg (.name 1) (.bin .mod (.blt .int (.cons (.bin .add (.bin .mul (.var 1) (.con (.int 31))) (.var 2)) .nil)) (.con (.int 1000003)))))
  (.ret (.newl (.cons (.blt .list (.cons (.var 0) .nil)) (.cons (.con (.int 0)) (.cons (.con (.int 0)) (.cons (.con (.int 0)) (.cons (.var 1) .nil)))))))))
theorem cut_map {a b : Type} (f : a → b) (l : List a) (lo hi : Option Int) : cut (l.map f) lo hi = (cut l lo hi).map f := by
  simp [cut, List.map_take, List.map_drop]
theorem pool_ok {fs : List Fn} {i n : Nat} (h : fs[i]? = some ⟨1, 3, false, false, poolB⟩) (ns : List Int) : ∃ s, callF fs (n + 1) i [.rol (ns.map D.int)] [] = .ok (.ref 0) s ∧ Pool [] s := by
  rw [call_eq h rfl]
  have key : ∀ (zs : List Int) (k : Int) (x : Sl), ∃ k' x', forF (.name 2) (evS (callF fs n) (roOf fs) (.asg (.name 1) (.bin .mod (.blt .int (.cons (.bin .add (.bin .mul (.var 1) (.con (.int 31))) (.var 2)) .nil)) (.con (.int 1000003))))) (zs.map D.int) [.sh (.rol (ns.map D.int)), .sh (.int k), x] [] = .ok (.nx [.sh (.rol (ns.map D.int)), .sh (.int k'), x']) [] := by
    intro zs
    induction zs with
    | nil => exact fun k x => ⟨k, x, rfl⟩
    | cons z r ih =>
      intro k x
      obtain ⟨k', x', e⟩ := ih ((k * 31 + z) % 1000003) (.sh (.int z))
      refine ⟨k', x', ?_⟩
      rw [← e]
      simp [forF_cons, mulOk_r]
  obtain ⟨k', x', e⟩ := key (cut ns none (some 63)) 7 .no
  have hz : (5 : Nat) ≤ SZ := by decide
  refine ⟨[Ob.lst (pl ns 0 0 0 k')], ?_, ns, 0, 0, 0, k', rfl, Int.le_refl _⟩
  simp [poolB, y_for, slcD, cut_map, e, pl, hz]
/-! ### the comparison -/
def sameB (me : Nat) : S := (.seq (.ite (.or (.tru (.isi (.var 1) .tuple)) (.tru (.isi (.var 1) .list))) (.seq (.ite (.or (.tru (.cmp .ne (.isi (.var 1) .tuple) (.isi (.var 0) .tuple))) (.or (.tru (.cmp .ne (.isi (.var 1) .list) (.isi (.var 0) .list))) (.tru (.cmp .ne (.blt .len (.cons (.var 0) .nil)) (.blt .len (.cons (.var 1) .nil)))))) (.ret (.con (.bl false))) .skip)
  (.ret (.cmp .eq (.blt .len (.cons (.comp (.var 2) (.name 2) (.rng1 (.blt .len (.cons (.var 1) .nil))) (.one (.not (.tru (.call me (.cons (.idx (.var 0) (.var 2)) (.cons (.idx (.var 1) (.var 2)) .nil)))))) [2]) .nil)) (.con (.int 0))))) .skip)
  (.seq (.ite (.tru (.cmp .is (.var 1) (.con .non))) (.ret (.cmp .is (.var 0) (.con .non))) .skip)
  (.seq (.ite (.or (.tru (.isi (.var 1) .bool)) (.tru (.isi (.var 0) .bool))) (.ret (.andv (.isi (.var 1) .bool) (.andv (.isi (.var 0) .bool) (.cmp .eq (.var 0) (.var 1))))) .skip)
  (.seq (.ite (.tru (.isi (.var 1) .int)) (.ret (.andv (.isi (.var 0) .int) (.cmp .eq (.var 0) (.var 1)))) .skip)
  (.ret (.andv (.isi (.var 0) .str) (.andv (.isi (.var 1) .str) (.cmp .eq (.var 0) (.var 1)))))))))
/-- data of a depth, as comparison takes them -/
def sim : Nat → D → Bool
  | n, .non => true
  | n, .bl _ => true
  | n, .int _ => true
  | n, .str _ => true
  | n + 1, .tup ds => decide (ds.length ≤ SZ) && ds.all (sim n)
  | n + 1, .lst ds => decide (ds.length ≤ SZ) && ds.all (sim n)
  | _, _ => false
theorem compF_none {f : D → Store → Res (Option D)} {s : Store} : ∀ {xs : List D}, (∀ x ∈ xs, f x s = .ok none s) → compF f xs s = .ok [] s
  | [], _ => rfl
  | x :: xs, h => by
    simp only [compF, h x List.mem_cons_self, bind_ok, compF_none fun y hy => h y (List.mem_cons_of_mem _ hy)]
section
variable (b : Bool) (i : Int) (z : List Nat) (ds : List D)
@[simp] theorem is_int (t : Ty) : isiD (.int i) t = some (t == .int) := id rfl
@[simp] theorem is_bl (t : Ty) : isiD (.bl b) t = some (t == .int || t == .bool) := id rfl
@[simp] theorem is_str (t : Ty) : isiD (.str z) t = some (t == .str) := id rfl
@[simp] theorem is_tup (t : Ty) : isiD (.tup ds) t = some (t == .tuple) := id rfl
@[simp] theorem is_lst (t : Ty) : isiD (.lst ds) t = some (t == .list) := id rfl
@[simp] theorem is_non (t : Ty) : isiD .non t = some false := id rfl
@[simp] theorem c_eqs (x y : List Nat) : cmpD .eq (.str x) (.str y) = some (x == y) := id rfl
@[simp] theorem ty_1 : (Ty.tuple == Ty.tuple) = true := id rfl
@[simp] theorem ty_2 : (Ty.list == Ty.tuple) = false := id rfl
@[simp] theorem ty_3 : (Ty.tuple == Ty.list) = false := id rfl
@[simp] theorem ty_4 : (Ty.list == Ty.list) = true := id rfl
@[simp] theorem ty_5 : (Ty.bool == Ty.bool) = true := id rfl
@[simp] theorem ty_6 : (Ty.int == Ty.int) = true := id rfl
@[simp] theorem ty_7 : (Ty.str == Ty.str) = true := id rfl
@[simp] theorem ty_8 : (Ty.tuple == Ty.int) = false := id rfl
@[simp] theorem ty_9 : (Ty.tuple == Ty.bool) = false := id rfl
@[simp] theorem ty_a : (Ty.tuple == Ty.str) = false := id rfl
@[simp] theorem ty_b : (Ty.list == Ty.int) = false := id rfl
@[simp] theorem ty_c : (Ty.list == Ty.bool) = false := id rfl
@[simp] theorem ty_d : (Ty.list == Ty.str) = false := id rfl
@[simp] theorem ty_e : (Ty.bool == Ty.int) = false := id rfl
@[simp] theorem ty_f : (Ty.bool == Ty.str) = false := id rfl
@[simp] theorem ty_g : (Ty.bool == Ty.tuple) = false := id rfl
@[simp] theorem ty_h : (Ty.bool == Ty.list) = false := id rfl
@[simp] theorem ty_i : (Ty.int == Ty.bool) = false := id rfl
@[simp] theorem ty_j : (Ty.int == Ty.str) = false := id rfl
@[simp] theorem ty_k : (Ty.int == Ty.tuple) = false := id rfl
@[simp] theorem ty_l : (Ty.int == Ty.list) = false := id rfl
@[simp] theorem ty_m : (Ty.str == Ty.bool) = false := id rfl
@[simp] theorem ty_n : (Ty.str == Ty.int) = false := id rfl
@[simp] theorem ty_o : (Ty.str == Ty.tuple) = false := id rfl
@[simp] theorem ty_p : (Ty.str == Ty.list) = false := id rfl
end
theorem rng_len (j : Nat) : (rngD 0 j).length = j := by
  simp [rngD]
theorem mem_rng {x : D} {j : Nat} (h : x ∈ rngD 0 j) : ∃ k, k < j ∧ x = .int (k : Nat) := by
  simp only [rngD, List.mem_map, List.mem_range] at h
  obtain ⟨k, hk, rfl⟩ := h
  exact ⟨k, by omega, by simp⟩
theorem rngOk_len {j : Nat} (h : j ≤ SZ) : rngOk j = true := by
  have : (16777216 : Nat) = SZ := rfl
  exact rngOk_in (by omega) (by omega)
theorem same_flat {fs : List Fn} {me : Nat} (h : fs[me]? = some ⟨2, 3, false, false, sameB me⟩) (s : Store) (n : Nat) (d : D) (hf : flat d = true) : callF fs (n + 1) me [d, d] s = .ok (.bl true) s := by
  rw [call_eq h rfl]
  cases d <;> first | exact absurd hf Bool.false_ne_true | simp [sameB]
theorem same_tup {fs : List Fn} {me : Nat} (h : fs[me]? = some ⟨2, 3, false, false, sameB me⟩) (s : Store) (k n : Nat) (ds : List D) (ih : ∀ (n : Nat) (d : D), sim k d = true → callF fs (n + k + 1) me [d, d] s = .ok (.bl true) s) (q : sim (k + 1) (.tup ds) = true) : callF fs (n + k + 1 + 1) me [.tup ds, .tup ds] s = .ok (.bl true) s := by
  simp only [sim, Bool.and_eq_true, decide_eq_true_eq, List.all_eq_true] at q
  obtain ⟨q1, q2⟩ := q
  rw [call_eq h rfl]
  have ro := rngOk_len q1
  have rl : (rngD 0 (ds.length : Int)).length ≤ SZ := Nat.le_trans (Nat.le_of_eq (rng_len ds.length)) q1
  have ei : evI (callF fs (n + k + 1)) (.rng1 (.blt .len (.cons (.var 1) .nil))) [Sl.sh (.tup ds), Sl.sh (.tup ds), Sl.no] s = .ok (rngD 0 (ds.length : Int)) s := by
    simp [ro]
  have ec : evE (callF fs (n + k + 1)) (.comp (.var 2) (.name 2) (.rng1 (.blt .len (.cons (.var 1) .nil))) (.one (.not (.tru (.call me (.cons (.idx (.var 0) (.var 2)) (.cons (.idx (.var 1) (.var 2)) .nil)))))) [2]) [Sl.sh (.tup ds), Sl.sh (.tup ds), Sl.no] s = .ok (.lst []) s := by
    rw [x_comp, ei, bind_ok]
    refine compR_ok rl (compF_none fun x hx => ?_)
    obtain ⟨j, hj, rfl⟩ := mem_rng hx
    have e1 : atD ds (j : Int) = some ds[j] := (at_nat rfl).trans (List.getElem?_eq_getElem hj)
    have ih := ih n ds[j] (q2 _ (List.getElem_mem hj))
    rw [turn_eq rfl]
    simp [e1, ih]
  simp [sameB, ec]
theorem same_lst {fs : List Fn} {me : Nat} (h : fs[me]? = some ⟨2, 3, false, false, sameB me⟩) (s : Store) (k n : Nat) (ds : List D) (ih : ∀ (n : Nat) (d : D), sim k d = true → callF fs (n + k + 1) me [d, d] s = .ok (.bl true) s) (q : sim (k + 1) (.lst ds) = true) : callF fs (n + k + 1 + 1) me [.lst ds, .lst ds] s = .ok (.bl true) s := by
  simp only [sim, Bool.and_eq_true, decide_eq_true_eq, List.all_eq_true] at q
  obtain ⟨q1, q2⟩ := q
  rw [call_eq h rfl]
  have ro := rngOk_len q1
  have rl : (rngD 0 (ds.length : Int)).length ≤ SZ := Nat.le_trans (Nat.le_of_eq (rng_len ds.length)) q1
  have ei : evI (callF fs (n + k + 1)) (.rng1 (.blt .len (.cons (.var 1) .nil))) [Sl.sh (.lst ds), Sl.sh (.lst ds), Sl.no] s = .ok (rngD 0 (ds.length : Int)) s := by
    simp [ro]
  have ec : evE (callF fs (n + k + 1)) (.comp (.var 2) (.name 2) (.rng1 (.blt .len (.cons (.var 1) .nil))) (.one (.not (.tru (.call me (.cons (.idx (.var 0) (.var 2)) (.cons (.idx (.var 1) (.var 2)) .nil)))))) [2]) [Sl.sh (.lst ds), Sl.sh (.lst ds), Sl.no] s = .ok (.lst []) s := by
    rw [x_comp, ei, bind_ok]
    refine compR_ok rl (compF_none fun x hx => ?_)
    obtain ⟨j, hj, rfl⟩ := mem_rng hx
    have e1 : atD ds (j : Int) = some ds[j] := (at_nat rfl).trans (List.getElem?_eq_getElem hj)
    have ih := ih n ds[j] (q2 _ (List.getElem_mem hj))
    rw [turn_eq rfl]
    simp [e1, ih]
  simp [sameB, ec]
theorem same_ok {fs : List Fn} {me : Nat} (h : fs[me]? = some ⟨2, 3, false, false, sameB me⟩) (s : Store) (k : Nat) : ∀ (n : Nat) (d : D), sim k d = true → callF fs (n + k + 1) me [d, d] s = .ok (.bl true) s := by
  induction k with
  | zero =>
    intro n d q
    cases d with
    | tup ds => cases q
    | lst ds => cases q
    | rol ds => cases q
    | ref ds => cases q
    | _ => exact same_flat h s _ _ rfl
  | succ k ih =>
    intro n d q
    cases d with
    | tup ds => exact same_tup h s k n ds ih q
    | lst ds => exact same_lst h s k n ds ih q
    | rol ds => cases q
    | ref ds => cases q
    | _ => exact same_flat h s _ _ rfl
end PyX

namespace PyL
open PySem PySem.Spec PyProof.Rows L2 PyE
def row (i : Nat) : Stmt := PySem.Challenge.pw_everynumeral_k95_faulty_texts_of_numeral.main.body.getD i (.Pass ⟨0, 0, 0, 0⟩)
def meth (i j : Nat) : Stmt := match row i with
  | .ClassDef (body := b) .. => b.getD j (.Pass ⟨0, 0, 0, 0⟩)
  | s => s
def gl0 : List (Str × Gl) := [("_law_pool", .fn 9 1), ("range", .blt), ("_law_value_text", .fn 15 1), ("_law_value", .fn 14 2), ("_law_same", .fn 8 2), ("_law_told", .fn 20 1), ("_law_read", .fn 19 1), ("_law_garbled", .fn 13 3), ("_law_draw", .fn 11 2), ("_law_pick", .fn 12 2), ("len", .blt), ("int", .blt), ("_law_spread", .fn 10 1), ("_law_taken", .fn 18 3), ("_law_letter", .fn 16 1), ("_law_whole_text", .fn 17 1), ("BadText", .exc), ("read_numeral", .fn 7 1), ("MOST_SIGNS", .con (.int 100000)), ("NumeralReader", .cls 0 2), (".value", .meth "NumeralReader" "value" 6 2), ("DEEPEST", .con (.int 80)), (".at", .fld "NumeralReader" "at"), (".next_sign", .meth "NumeralReader" "next_sign" 1 1), (".parts", .meth "NumeralReader" "parts" 5 2)]
def gl1 : List (Str × Gl) := [(".run_of", .meth "NumeralReader" "run_of" 2 2), ("SIGNS", .con (.str [97, 98, 99, 100, 101, 102, 103, 104, 105, 106, 107, 108, 109, 110, 111, 112, 113, 114, 115, 116, 117, 118, 119, 120, 121, 122, 65, 66, 67, 68, 69, 70, 71, 72, 73, 74, 75, 76, 77, 78, 79, 80, 81, 82, 83, 84, 85, 86, 87, 88, 89, 90, 32])), (".must_take", .meth "NumeralReader" "must_take" 3 2), (".number", .meth "NumeralReader" "number" 4 1), (".text", .fld "NumeralReader" "text"), ("DIGITS", .con (.str [48, 49, 50, 51, 52, 53, 54, 55, 56, 57])), ("MOST_DIGITS", .con (.int 60)), ("tuple", .blt), ("isinstance", .blt), ("list", .blt), ("bool", .blt), ("str", .blt), ("law", .fn 21 1)]
def gl : List (Str × Gl) := gl0 ++ gl1
def d0 : Dn := ⟨("NumeralReader", some "__init__"), meth 9 0, "__init__", "NumeralReader.__init__", ["self", "text"], ["self", "text"], gl, [], false, true⟩
def d1 : Dn := ⟨("NumeralReader", some "next_sign"), meth 9 1, "next_sign", "NumeralReader.next_sign", ["self"], ["self"], gl, [], false, false⟩
def d2 : Dn := ⟨("NumeralReader", some "run_of"), meth 9 2, "run_of", "NumeralReader.run_of", ["self", "signs", "begin"], ["self", "signs"], gl, [], false, false⟩
def d3 : Dn := ⟨("NumeralReader", some "must_take"), meth 9 3, "must_take", "NumeralReader.must_take", ["self", "sign"], ["self", "sign"], gl, [], false, false⟩
def d4 : Dn := ⟨("NumeralReader", some "number"), meth 9 4, "number", "NumeralReader.number", ["self", "sign", "digits"], ["self"], gl, [], false, false⟩
def d5 : Dn := ⟨("NumeralReader", some "parts"), meth 9 5, "parts", "NumeralReader.parts", ["self", "deep", "found"], ["self", "deep"], gl, [], false, false⟩
def d6 : Dn := ⟨("NumeralReader", some "value"), meth 9 6, "value", "NumeralReader.value", ["self", "deep", "sign", "found"], ["self", "deep"], gl, [], false, false⟩
def d7 : Dn := ⟨("read_numeral", none), row 10, "read_numeral", "read_numeral", ["text", "reader", "found"], ["text"], gl, [], false, false⟩
def d8 : Dn := ⟨("_law_same", none), row 12, "_law_same", "_law_same", ["actual", "due", "k"], ["actual", "due"], gl, [], false, false⟩
def d9 : Dn := ⟨("_law_pool", none), row 13, "_law_pool", "_law_pool", ["script", "salt", "cell"], ["script"], gl, [90], false, false⟩
def d10 : Dn := ⟨("_law_spread", none), row 14, "_law_spread", "_law_spread", ["cell", "mixed", "total", "k"], ["cell"], gl, [], false, false⟩
def d11 : Dn := ⟨("_law_draw", none), row 15, "_law_draw", "_law_draw", ["pool", "many", "value", "cell", "mixed"], ["pool", "many"], gl, [], false, false⟩
def d12 : Dn := ⟨("_law_pick", none), row 16, "_law_pick", "_law_pick", ["pool", "items"], ["pool", "items"], gl, [], false, false⟩
def d13 : Dn := ⟨("_law_garbled", none), row 17, "_law_garbled", "_law_garbled", ["pool", "text", "signs", "at", "turn", "sign"], ["pool", "text", "signs"], gl, [], false, false⟩
def d14 : Dn := ⟨("_law_value", none), row 18, "_law_value", "_law_value", ["pool", "deep", "turn", "k"], ["pool", "deep"], gl, [], false, false⟩
def d15 : Dn := ⟨("_law_value_text", none), row 19, "_law_value_text", "_law_value_text", ["value", "one"], ["value"], gl, [], false, false⟩
def d16 : Dn := ⟨("_law_letter", none), row 20, "_law_letter", "_law_letter", ["sign"], ["sign"], gl, [], false, false⟩
def d17 : Dn := ⟨("_law_whole_text", none), row 21, "_law_whole_text", "_law_whole_text", ["token", "body", "one"], ["token"], gl, [], false, false⟩
def d18 : Dn := ⟨("_law_taken", none), row 22, "_law_taken", "_law_taken", ["text", "at", "deep", "found", "here", "end", "part"], ["text", "at", "deep"], gl, [], false, false⟩
def d19 : Dn := ⟨("_law_read", none), row 23, "_law_read", "_law_read", ["text", "part"], ["text"], gl, [], false, false⟩
def d20 : Dn := ⟨("_law_told", none), row 24, "_law_told", "_law_told", ["text"], ["text"], gl, [], false, false⟩
def d21 : Dn := ⟨("law", none), row 25, "law", "law", ["script", "pool", "tried", "k", "text", "j"], ["script"], gl, [], false, false⟩
def defs : List Dn := [d0, d1, d2, d3, d4, d5, d6, d7, d8, d9, d10, d11, d12, d13, d14, d15, d16, d17, d18, d19, d20, d21]
def b0 : S := (.seq (.fset "NumeralReader" (.var 0) "text" (.var 1))
  (.fset "NumeralReader" (.var 0) "at" (.con (.int 0))))
def f0 : Fn := ⟨2, 2, false, true, b0⟩
def b1 : S := (.ret (.slc (.fld "NumeralReader" (.var 0) "text") (.some (.fld "NumeralReader" (.var 0) "at")) (.some (.bin .add (.fld "NumeralReader" (.var 0) "at") (.con (.int 1))))))
def f1 : Fn := ⟨1, 1, false, false, b1⟩
def b2 : S := (.seq (.asg (.name 2) (.fld "NumeralReader" (.var 0) "at"))
  (.seq (.while (.and (.tru (.cmp .ne (.meth "NumeralReader" 1 "next_sign" (.var 0) .nil) (.con (.str [])))) (.tru (.cmp .inn (.meth "NumeralReader" 1 "next_sign" (.var 0) .nil) (.var 1)))) (.faug "NumeralReader" (.var 0) "at" .add (.con (.int 1))))
  (.ret (.slc (.fld "NumeralReader" (.var 0) "text") (.some (.var 2)) (.some (.fld "NumeralReader" (.var 0) "at"))))))
def f2 : Fn := ⟨2, 3, false, false, b2⟩
def b3 : S := (.seq (.ite (.tru (.cmp .ne (.meth "NumeralReader" 1 "next_sign" (.var 0) .nil) (.var 1))) (.raise "BadText" (.cons (.fld "NumeralReader" (.var 0) "text") .nil)) .skip)
  (.faug "NumeralReader" (.var 0) "at" .add (.con (.int 1))))
def f3 : Fn := ⟨2, 2, false, false, b3⟩
def b4 : S := (.seq (.asg (.name 1) (.meth "NumeralReader" 1 "next_sign" (.var 0) .nil))
  (.seq (.ite (.tru (.cmp .eq (.var 1) (.con (.str [45])))) (.faug "NumeralReader" (.var 0) "at" .add (.con (.int 1))) .skip)
  (.seq (.asg (.name 2) (.meth "NumeralReader" 2 "run_of" (.var 0) (.cons (.con (.str [48, 49, 50, 51, 52, 53, 54, 55, 56, 57])) .nil)))
  (.seq (.ite (.or (.not (.tru (.chain .le .le (.con (.int 1)) (.blt .len (.cons (.var 2) .nil)) (.con (.int 60))))) (.and (.tru (.cmp .eq (.idx (.var 2) (.con (.int 0))) (.con (.str [48])))) (.or (.tru (.cmp .gt (.blt .len (.cons (.var 2) .nil)) (.con (.int 1)))) (.tru (.cmp .eq (.var 1) (.con (.str [45]))))))) (.raise "BadText" (.cons (.fld "NumeralReader" (.var 0) "text") .nil)) .skip)
  (.ret (.ite (.tru (.cmp .eq (.var 1) (.con (.str [45])))) (.neg (.blt .int (.cons (.var 2) .nil))) (.blt .int (.cons (.var 2) .nil))))))))
def f4 : Fn := ⟨1, 3, false, false, b4⟩
def b5 : S := (.seq (.ite (.tru (.cmp .eq (.meth "NumeralReader" 1 "next_sign" (.var 0) .nil) (.con (.str [93])))) (.seq (.faug "NumeralReader" (.var 0) "at" .add (.con (.int 1)))
  (.ret (.tup .nil))) .skip)
  (.seq (.asg (.name 2) (.lst (.cons (.meth "NumeralReader" 6 "value" (.var 0) (.cons (.bin .sub (.var 1) (.con (.int 1))) .nil)) .nil)))
  (.seq (.while (.tru (.cmp .eq (.meth "NumeralReader" 1 "next_sign" (.var 0) .nil) (.con (.str [32])))) (.seq (.faug "NumeralReader" (.var 0) "at" .add (.con (.int 1)))
  (.app (.var 2) (.meth "NumeralReader" 6 "value" (.var 0) (.cons (.bin .sub (.var 1) (.con (.int 1))) .nil)))))
  (.seq (.exp (.meth "NumeralReader" 3 "must_take" (.var 0) (.cons (.con (.str [93])) .nil)))
  (.ret (.blt .tuple (.cons (.var 2) .nil)))))))
def f5 : Fn := ⟨2, 3, false, false, b5⟩
def b6 : S := (.seq (.asg (.name 2) (.meth "NumeralReader" 1 "next_sign" (.var 0) .nil))
  (.seq (.ite (.tru (.cmp .eq (.var 2) (.con (.str [34])))) (.seq (.faug "NumeralReader" (.var 0) "at" .add (.con (.int 1)))
  (.seq (.asg (.name 3) (.meth "NumeralReader" 2 "run_of" (.var 0) (.cons (.con (.str [97, 98, 99, 100, 101, 102, 103, 104, 105, 106, 107, 108, 109, 110, 111, 112, 113, 114, 115, 116, 117, 118, 119, 120, 121, 122, 65, 66, 67, 68, 69, 70, 71, 72, 73, 74, 75, 76, 77, 78, 79, 80, 81, 82, 83, 84, 85, 86, 87, 88, 89, 90, 32])) .nil)))
  (.seq (.exp (.meth "NumeralReader" 3 "must_take" (.var 0) (.cons (.con (.str [34])) .nil)))
  (.ret (.var 3))))) .skip)
  (.seq (.ite (.tru (.cmp .ne (.var 2) (.con (.str [91])))) (.ret (.meth "NumeralReader" 4 "number" (.var 0) .nil)) .skip)
  (.seq (.ite (.tru (.cmp .eq (.var 1) (.con (.int 0)))) (.raise "BadText" (.cons (.fld "NumeralReader" (.var 0) "text") .nil)) .skip)
  (.seq (.faug "NumeralReader" (.var 0) "at" .add (.con (.int 1)))
  (.ret (.meth "NumeralReader" 5 "parts" (.var 0) (.cons (.var 1) .nil))))))))
def f6 : Fn := ⟨2, 4, false, false, b6⟩
def b7 : S := (.seq (.ite (.tru (.cmp .gt (.blt .len (.cons (.var 0) .nil)) (.con (.int 100000)))) (.raise "BadText" (.cons (.var 0) .nil)) .skip)
  (.seq (.asg (.name 1) (.make "NumeralReader" 0 (.cons (.var 0) .nil)))
  (.seq (.asg (.name 2) (.meth "NumeralReader" 6 "value" (.var 1) (.cons (.con (.int 80)) .nil)))
  (.seq (.ite (.tru (.cmp .lt (.fld "NumeralReader" (.var 1) "at") (.blt .len (.cons (.var 0) .nil)))) (.raise "BadText" (.cons (.var 0) .nil)) .skip)
  (.ret (.var 2))))))
def f7 : Fn := ⟨1, 3, false, false, b7⟩
def b8 : S := (.seq (.ite (.or (.tru (.isi (.var 1) .tuple)) (.tru (.isi (.var 1) .list))) (.seq (.ite (.or (.tru (.cmp .ne (.isi (.var 1) .tuple) (.isi (.var 0) .tuple))) (.or (.tru (.cmp .ne (.isi (.var 1) .list) (.isi (.var 0) .list))) (.tru (.cmp .ne (.blt .len (.cons (.var 0) .nil)) (.blt .len (.cons (.var 1) .nil)))))) (.ret (.con (.bl false))) .skip)
  (.ret (.cmp .eq (.blt .len (.cons (.comp (.var 2) (.name 2) (.rng1 (.blt .len (.cons (.var 1) .nil))) (.one (.not (.tru (.call 8 (.cons (.idx (.var 0) (.var 2)) (.cons (.idx (.var 1) (.var 2)) .nil)))))) [2]) .nil)) (.con (.int 0))))) .skip)
  (.seq (.ite (.tru (.cmp .is (.var 1) (.con .non))) (.ret (.cmp .is (.var 0) (.con .non))) .skip)
  (.seq (.ite (.or (.tru (.isi (.var 1) .bool)) (.tru (.isi (.var 0) .bool))) (.ret (.andv (.isi (.var 1) .bool) (.andv (.isi (.var 0) .bool) (.cmp .eq (.var 0) (.var 1))))) .skip)
  (.seq (.ite (.tru (.isi (.var 1) .int)) (.ret (.andv (.isi (.var 0) .int) (.cmp .eq (.var 0) (.var 1)))) .skip)
  (.ret (.andv (.isi (.var 0) .str) (.andv (.isi (.var 1) .str) (.cmp .eq (.var 0) (.var 1)))))))))
def f8 : Fn := ⟨2, 3, false, false, b8⟩
def b9 : S := (.seq (.asg (.name 1) (.con (.int 7)))
  (.seq (.for (.name 2) (.seq (.slc (.var 0) .none (.some (.con (.int 63))))) (.asg (.name 1) (.bin .mod (.blt .int (.cons (.bin .add (.bin .mul (.var 1) (.con (.int 31))) (.var 2)) .nil)) (.con (.int 1000003)))))
  (.ret (.newl (.cons (.blt .list (.cons (.var 0) .nil)) (.cons (.con (.int 0)) (.cons (.con (.int 0)) (.cons (.con (.int 0)) (.cons (.var 1) .nil)))))))))
def f9 : Fn := ⟨1, 3, false, false, b9⟩
def b10 : S := (.seq (.asg (.name 1) (.bin .mod (.blt .int (.cons (.var 0) .nil)) (.con (.int 2147483647))))
  (.seq (.asg (.name 2) (.con (.int 1)))
  (.seq (.for (.name 3) (.rng1 (.con (.int 4))) (.seq (.asg (.name 1) (.bin .mod (.blt .int (.cons (.bin .add (.bin .add (.bin .mul (.var 1) (.con (.int 48271))) (.con (.int 12345))) (.var 3)) .nil)) (.con (.int 2147483647))))
  (.asg (.name 2) (.bin .add (.bin .mul (.var 2) (.con (.int 2147483647))) (.var 1)))))
  (.ret (.var 2)))))
def f10 : Fn := ⟨1, 4, false, false, b10⟩
def b11 : S := (.seq (.ite (.and (.tru (.cmp .le (.idx (.var 0) (.con (.int 2))) (.con (.int 0)))) (.tru (.cmp .lt (.idx (.var 0) (.con (.int 1))) (.blt .len (.cons (.idx (.var 0) (.con (.int 0))) .nil))))) (.seq (.asg (.name 3) (.idx (.idx (.var 0) (.con (.int 0))) (.idx (.var 0) (.con (.int 1)))))
  (.seq (.set (.var 0) (.con (.int 1)) (.bin .add (.idx (.var 0) (.con (.int 1))) (.con (.int 1))))
  (.seq (.set (.var 0) (.con (.int 2)) (.var 3))
  (.ite (.tru (.cmp .lt (.var 3) (.con (.int 1000000000000000000)))) (.set (.var 0) (.con (.int 2)) (.call 10 (.cons (.var 3) .nil))) .skip)))) .skip)
  (.seq (.set (.var 0) (.con (.int 3)) (.bin .add (.idx (.var 0) (.con (.int 3))) (.con (.int 1))))
  (.seq (.ite (.tru (.cmp .le (.idx (.var 0) (.con (.int 2))) (.con (.int 0)))) (.seq (.asg (.name 4) (.bin .mod (.blt .int (.cons (.bin .add (.bin .add (.bin .mul (.idx (.var 0) (.con (.int 4))) (.con (.int 48271))) (.bin .mul (.idx (.var 0) (.con (.int 3))) (.con (.int 69621)))) (.con (.int 1))) .nil)) (.con (.int 2147483647))))
  (.seq (.asg (.name 4) (.bin .mod (.blt .int (.cons (.bin .add (.bin .mul (.var 4) (.con (.int 16807))) (.idx (.var 0) (.con (.int 3)))) .nil)) (.con (.int 2147483629))))
  (.ret (.bin .mod (.bin .fdiv (.var 4) (.con (.int 5))) (.var 1))))) .skip)
  (.seq (.asg (.name 2) (.bin .mod (.blt .int (.cons (.idx (.var 0) (.con (.int 2))) .nil)) (.var 1)))
  (.seq (.set (.var 0) (.con (.int 2)) (.bin .fdiv (.idx (.var 0) (.con (.int 2))) (.var 1)))
  (.ret (.var 2)))))))
def f11 : Fn := ⟨2, 5, false, false, b11⟩
def b12 : S := (.ret (.idx (.var 1) (.call 11 (.cons (.var 0) (.cons (.blt .len (.cons (.var 1) .nil)) .nil)))))
def f12 : Fn := ⟨2, 2, false, false, b12⟩
def b13 : S := (.seq (.asg (.name 3) (.call 11 (.cons (.var 0) (.cons (.bin .add (.blt .len (.cons (.var 1) .nil)) (.con (.int 1))) .nil))))
  (.seq (.asg (.name 4) (.call 11 (.cons (.var 0) (.cons (.con (.int 4)) .nil))))
  (.seq (.asg (.name 5) (.call 12 (.cons (.var 0) (.cons (.var 2) .nil))))
  (.seq (.ite (.tru (.cmp .eq (.var 4) (.con (.int 0)))) (.ret (.bin .add (.bin .add (.slc (.var 1) .none (.some (.var 3))) (.var 5)) (.slc (.var 1) (.some (.var 3)) .none))) .skip)
  (.seq (.ite (.tru (.cmp .eq (.var 4) (.con (.int 1)))) (.ret (.bin .add (.slc (.var 1) .none (.some (.var 3))) (.slc (.var 1) (.some (.bin .add (.var 3) (.con (.int 1)))) .none))) .skip)
  (.seq (.ite (.tru (.cmp .eq (.var 4) (.con (.int 2)))) (.ret (.bin .add (.bin .add (.slc (.var 1) .none (.some (.var 3))) (.var 5)) (.slc (.var 1) (.some (.bin .add (.var 3) (.con (.int 1)))) .none))) .skip)
  (.ret (.bin .add (.bin .add (.slc (.var 1) .none (.some (.var 3))) (.slc (.var 1) (.some (.var 3)) (.some (.bin .add (.var 3) (.con (.int 1)))))) (.slc (.var 1) (.some (.var 3)) .none)))))))))
def f13 : Fn := ⟨3, 6, false, false, b13⟩
def b14 : S := (.seq (.asg (.name 2) (.call 11 (.cons (.var 0) (.cons (.con (.int 5)) .nil))))
  (.seq (.ite (.or (.tru (.cmp .lt (.var 2) (.con (.int 2)))) (.tru (.cmp .eq (.var 1) (.con (.int 0))))) (.ret (.idx (.tup (.cons (.bin .sub (.call 11 (.cons (.var 0) (.cons (.con (.int 21)) .nil))) (.con (.int 10))) (.cons (.bin .sub (.call 11 (.cons (.var 0) (.cons (.con (.int 2000000)) .nil))) (.con (.int 1000000))) (.cons (.bin .sub (.bin .pow (.con (.int 10)) (.con (.int 60))) (.con (.int 1))) (.cons (.bin .sub (.con (.int 1)) (.bin .pow (.con (.int 10)) (.con (.int 60)))) (.cons (.neg (.bin .pow (.con (.int 10)) (.con (.int 20)))) .nil)))))) (.call 11 (.cons (.var 0) (.cons (.con (.int 5)) .nil))))) .skip)
  (.seq (.ite (.tru (.cmp .eq (.var 2) (.con (.int 2)))) (.ret (.call 12 (.cons (.var 0) (.cons (.tup (.cons (.con (.str [88, 73, 86])) (.cons (.con (.str [120])) (.cons (.con (.str [])) (.cons (.con (.str [111, 110, 101, 32, 104, 117, 110, 100, 114, 101, 100])) (.cons (.con (.str [32])) (.cons (.con (.str [97, 90])) .nil))))))) .nil)))) .skip)
  (.ret (.blt .tuple (.cons (.comp (.call 14 (.cons (.var 0) (.cons (.bin .sub (.var 1) (.con (.int 1))) .nil))) (.name 3) (.rng1 (.call 11 (.cons (.var 0) (.cons (.con (.int 4)) .nil)))) .yes [3]) .nil))))))
def f14 : Fn := ⟨2, 4, false, false, b14⟩
def b15 : S := (.seq (.ite (.tru (.isi (.var 0) .tuple)) (.ret (.bin .add (.bin .add (.con (.str [91])) (.join (.con (.str [32])) (.comp (.call 15 (.cons (.var 1) .nil)) (.name 1) (.seq (.var 0)) .yes [1]))) (.con (.str [93])))) .skip)
  (.ret (.ite (.tru (.isi (.var 0) .str)) (.bin .add (.bin .add (.con (.str [34])) (.var 0)) (.con (.str [34]))) (.blt .str (.cons (.var 0) .nil)))))
def f15 : Fn := ⟨1, 2, false, false, b15⟩
def b16 : S := (.ret (.cmp .inn (.var 0) (.con (.str [97, 98, 99, 100, 101, 102, 103, 104, 105, 106, 107, 108, 109, 110, 111, 112, 113, 114, 115, 116, 117, 118, 119, 120, 121, 122, 65, 66, 67, 68, 69, 70, 71, 72, 73, 74, 75, 76, 77, 78, 79, 80, 81, 82, 83, 84, 85, 86, 87, 88, 89, 90, 32]))))
def f16 : Fn := ⟨1, 1, false, false, b16⟩
def b17 : S := (.seq (.asg (.name 1) (.ite (.tru (.cmp .eq (.slc (.var 0) .none (.some (.con (.int 1)))) (.con (.str [45])))) (.slc (.var 0) (.some (.con (.int 1))) .none) (.var 0)))
  (.seq (.ite (.or (.tru (.cmp .eq (.var 1) (.con (.str [])))) (.or (.tru (.cmp .gt (.blt .len (.cons (.var 1) .nil)) (.con (.int 60)))) (.tru (.cmp .gt (.blt .len (.cons (.comp (.var 2) (.name 2) (.seq (.var 1)) (.one (.tru (.cmp .notin (.var 2) (.con (.str [48, 49, 50, 51, 52, 53, 54, 55, 56, 57]))))) [2]) .nil)) (.con (.int 0)))))) (.ret (.con (.bl false))) .skip)
  (.ret (.orv (.andv (.cmp .eq (.var 1) (.con (.str [48]))) (.cmp .eq (.var 0) (.con (.str [48])))) (.cmp .ne (.idx (.var 1) (.con (.int 0))) (.con (.str [48])))))))
def f17 : Fn := ⟨1, 3, false, false, b17⟩
def b18 : S := (.seq (.ite (.tru (.cmp .ge (.var 1) (.blt .len (.cons (.var 0) .nil)))) (.ret (.con .non)) .skip)
  (.seq (.ite (.tru (.cmp .eq (.idx (.var 0) (.var 1)) (.con (.str [34])))) (.seq (.asg (.name 5) (.bin .add (.var 1) (.con (.int 1))))
  (.seq (.while (.and (.tru (.cmp .lt (.var 5) (.blt .len (.cons (.var 0) .nil)))) (.tru (.call 16 (.cons (.idx (.var 0) (.var 5)) .nil)))) (.asg (.name 5) (.bin .add (.var 5) (.con (.int 1)))))
  (.ret (.ite (.and (.tru (.cmp .lt (.var 5) (.blt .len (.cons (.var 0) .nil)))) (.tru (.cmp .eq (.idx (.var 0) (.var 5)) (.con (.str [34]))))) (.tup (.cons (.slc (.var 0) (.some (.bin .add (.var 1) (.con (.int 1)))) (.some (.var 5))) (.cons (.bin .add (.var 5) (.con (.int 1))) .nil))) (.con .non))))) .skip)
  (.seq (.ite (.tru (.cmp .ne (.idx (.var 0) (.var 1)) (.con (.str [91])))) (.seq (.asg (.name 5) (.bin .add (.var 1) (.con (.int 1))))
  (.seq (.while (.and (.tru (.cmp .lt (.var 5) (.blt .len (.cons (.var 0) .nil)))) (.tru (.cmp .inn (.idx (.var 0) (.var 5)) (.con (.str [48, 49, 50, 51, 52, 53, 54, 55, 56, 57]))))) (.asg (.name 5) (.bin .add (.var 5) (.con (.int 1)))))
  (.ret (.ite (.tru (.call 17 (.cons (.slc (.var 0) (.some (.var 1)) (.some (.var 5))) .nil))) (.tup (.cons (.blt .int (.cons (.slc (.var 0) (.some (.var 1)) (.some (.var 5))) .nil)) (.cons (.var 5) .nil))) (.con .non))))) .skip)
  (.seq (.ite (.tru (.cmp .eq (.var 2) (.con (.int 0)))) (.ret (.con .non)) .skip)
  (.seq (.ite (.tru (.cmp .eq (.slc (.var 0) (.some (.bin .add (.var 1) (.con (.int 1)))) (.some (.bin .add (.var 1) (.con (.int 2))))) (.con (.str [93])))) (.ret (.tup (.cons (.tup .nil) (.cons (.bin .add (.var 1) (.con (.int 2))) .nil)))) .skip)
  (.seq (.asg (.name 3) (.tup .nil))
  (.seq (.asg (.name 4) (.bin .add (.var 1) (.con (.int 1))))
  (.while (.tru (.con (.bl true))) (.seq (.asg (.name 6) (.call 18 (.cons (.var 0) (.cons (.var 4) (.cons (.bin .sub (.var 2) (.con (.int 1))) .nil)))))
  (.seq (.ite (.tru (.cmp .is (.var 6) (.con .non))) (.ret (.con .non)) .skip)
  (.seq (.asg (.name 3) (.bin .add (.var 3) (.tup (.cons (.idx (.var 6) (.con (.int 0))) .nil))))
  (.seq (.asg (.name 4) (.idx (.var 6) (.con (.int 1))))
  (.seq (.ite (.tru (.cmp .eq (.slc (.var 0) (.some (.var 4)) (.some (.bin .add (.var 4) (.con (.int 1))))) (.con (.str [93])))) (.ret (.tup (.cons (.var 3) (.cons (.bin .add (.var 4) (.con (.int 1))) .nil)))) .skip)
  (.seq (.ite (.tru (.cmp .ne (.slc (.var 0) (.some (.var 4)) (.some (.bin .add (.var 4) (.con (.int 1))))) (.con (.str [32])))) (.ret (.con .non)) .skip)
  (.asg (.name 4) (.bin .add (.var 4) (.con (.int 1))))))))))))))))))
def f18 : Fn := ⟨3, 7, false, false, b18⟩
def b19 : S := (.seq (.asg (.name 1) (.call 18 (.cons (.var 0) (.cons (.con (.int 0)) (.cons (.con (.int 80)) .nil)))))
  (.ret (.ite (.and (.tru (.cmp .isnot (.var 1) (.con .non))) (.tru (.cmp .eq (.idx (.var 1) (.con (.int 1))) (.blt .len (.cons (.var 0) .nil))))) (.lst (.cons (.idx (.var 1) (.con (.int 0))) .nil)) (.con .non))))
def f19 : Fn := ⟨1, 2, false, false, b19⟩
def b20 : S := (.tryR (.ret (.lst (.cons (.call 7 (.cons (.var 0) .nil)) .nil))) "BadText" .non)
def f20 : Fn := ⟨1, 1, false, false, b20⟩
def b21 : S := (.seq (.asg (.name 1) (.call 9 (.cons (.var 0) .nil)))
  (.seq (.asg (.name 2) (.lst (.cons (.con (.str [])) (.cons (.con (.str [32])) (.cons (.con (.str [91])) (.cons (.con (.str [93])) (.cons (.con (.str [91, 93])) (.cons (.con (.str [91, 32, 93])) (.cons (.con (.str [91, 49, 32, 93])) (.cons (.con (.str [91, 32, 49, 93])) (.cons (.con (.str [91, 49, 32, 32, 50, 93])) (.cons (.con (.str [91, 49, 32, 50])) (.cons (.con (.str [49, 32, 50])) (.cons (.con (.str [91, 49, 93, 32])) (.cons (.con (.str [32, 91, 49, 93])) (.cons (.con (.str [91, 49, 93, 91, 50, 93])) (.cons (.con (.str [91, 91, 93])) (.cons (.con (.str [91, 93, 93])) (.cons (.con (.str [45])) (.cons (.con (.str [45, 48])) (.cons (.con (.str [48, 48])) (.cons (.con (.str [48, 49])) (.cons (.con (.str [45, 48, 49])) (.cons (.bin .mul (.con (.str [57])) (.con (.int 60))) .nil))))))))))))))))))))))))
  (.seq (.asg (.name 2) (.bin .add (.var 2) (.lst (.cons (.bin .mul (.con (.str [57])) (.con (.int 61))) (.cons (.bin .add (.con (.str [45])) (.bin .mul (.con (.str [49])) (.con (.int 60)))) (.cons (.con (.str [97])) (.cons (.con (.str [34])) (.cons (.con (.str [34, 97])) (.cons (.con (.str [97, 34])) (.cons (.con (.str [34, 97, 49, 34])) (.cons (.con (.str [34, 34])) (.cons (.con (.str [34, 97, 34, 32, 34, 98, 34])) (.cons (.con (.str [91, 97, 93])) (.cons (.con (.str [91, 49, 44, 50, 93])) (.cons (.con (.str [45, 45, 49])) (.cons (.con (.str [43, 49])) (.cons (.con (.str [91, 49, 91, 50, 93, 93])) (.cons (.con (.str [91, 91, 49, 93, 50, 93])) (.cons (.con (.str [91, 34, 97, 34, 34, 98, 34, 93])) (.cons (.con (.str [91, 34, 97, 34, 49, 93])) (.cons (.con (.str [91, 49, 32, 45, 93])) .nil)))))))))))))))))))))
  (.seq (.asg (.name 2) (.bin .add (.var 2) (.lst (.cons (.bin .add (.bin .mul (.con (.str [91])) (.con (.int 80))) (.bin .mul (.con (.str [93])) (.con (.int 80)))) (.cons (.bin .add (.bin .mul (.con (.str [91])) (.con (.int 81))) (.bin .mul (.con (.str [93])) (.con (.int 81)))) (.cons (.bin .mul (.con (.str [91])) (.con (.int 500))) (.cons (.bin .add (.bin .add (.bin .mul (.con (.str [91])) (.con (.int 79))) (.con (.str [49]))) (.bin .mul (.con (.str [93])) (.con (.int 79)))) .nil)))))))
  (.seq (.for (.name 3) (.rng1 (.con (.int 10))) (.seq (.asg (.name 4) (.call 15 (.cons (.call 14 (.cons (.var 1) (.cons (.con (.int 4)) .nil))) .nil)))
  (.asg (.name 2) (.bin .add (.bin .add (.var 2) (.comp (.call 13 (.cons (.var 1) (.cons (.var 4) (.cons (.con (.str [91, 93, 48, 32, 49, 45, 34, 97, 88])) .nil)))) (.name 5) (.rng1 (.con (.int 3))) .yes [5])) (.lst (.cons (.bin .add (.var 4) (.con (.str [93]))) (.cons (.bin .add (.bin .add (.con (.str [91])) (.var 4)) (.con (.str [93]))) (.cons (.bin .add (.var 4) (.con (.str [32, 49]))) (.cons (.bin .add (.bin .add (.con (.str [91])) (.var 4)) (.con (.str [32, 34, 120, 34, 93]))) .nil)))))))))
  (.seq (.for (.name 4) (.seq (.var 2)) (.ite (.not (.tru (.call 8 (.cons (.call 20 (.cons (.var 4) .nil)) (.cons (.call 19 (.cons (.var 4) .nil)) .nil))))) (.ret (.con (.bl false))) .skip))
  (.ret (.con (.bl true)))))))))
def f21 : Fn := ⟨1, 6, false, false, b21⟩
def fs : List Fn := [f0, f1, f2, f3, f4, f5, f6, f7, f8, f9, f10, f11, f12, f13, f14, f15, f16, f17, f18, f19, f20, f21]
theorem r0 : readFn d0 = some f0 := by
  kernel_rfl
theorem r1 : readFn d1 = some f1 := by
  kernel_rfl
theorem r2 : readFn d2 = some f2 := by
  kernel_rfl
theorem r3 : readFn d3 = some f3 := by
  kernel_rfl
theorem r4 : readFn d4 = some f4 := by
  kernel_rfl
theorem r5 : readFn d5 = some f5 := by
  kernel_rfl
theorem r6 : readFn d6 = some f6 := by
  kernel_rfl
theorem r7 : readFn d7 = some f7 := by
  kernel_rfl
theorem r8 : readFn d8 = some f8 := by
  kernel_rfl
theorem r9 : readFn d9 = some f9 := by
  kernel_rfl
theorem r10 : readFn d10 = some f10 := by
  kernel_rfl
theorem r11 : readFn d11 = some f11 := by
  kernel_rfl
theorem r12 : readFn d12 = some f12 := by
  kernel_rfl
theorem r13 : readFn d13 = some f13 := by
  kernel_rfl
theorem r14 : readFn d14 = some f14 := by
  kernel_rfl
theorem r15 : readFn d15 = some f15 := by
  kernel_rfl
theorem r16 : readFn d16 = some f16 := by
  kernel_rfl
theorem r17 : readFn d17 = some f17 := by
  kernel_rfl
theorem r18 : readFn d18 = some f18 := by
  kernel_rfl
theorem r19 : readFn d19 = some f19 := by
  kernel_rfl
theorem r20 : readFn d20 = some f20 := by
  kernel_rfl
theorem r21 : readFn d21 = some f21 := by
  kernel_rfl
theorem read_ok : defs.map readFn = fs.map some := by
  simp only [defs, fs, List.map, r0, r1, r2, r3, r4, r5, r6, r7, r8, r9, r10, r11, r12, r13, r14, r15, r16, r17, r18, r19, r20, r21]
end PyL

namespace PyL
open PySem PySem.Spec PyProof.Rows L2 PyE
theorem bo0 : BindOk (defArgs d0.st) d0.ps := fun _ _ _ _ _ _ _ _ _ _ us hl => match us, hl with
  | [_, _], _ => rfl
theorem bo1 : BindOk (defArgs d1.st) d1.ps := fun _ _ _ _ _ _ _ _ _ _ us hl => match us, hl with
  | [_], _ => rfl
theorem bo2 : BindOk (defArgs d2.st) d2.ps := fun _ _ _ _ _ _ _ _ _ _ us hl => match us, hl with
  | [_, _], _ => rfl
theorem bo3 : BindOk (defArgs d3.st) d3.ps := fun _ _ _ _ _ _ _ _ _ _ us hl => match us, hl with
  | [_, _], _ => rfl
theorem bo4 : BindOk (defArgs d4.st) d4.ps := fun _ _ _ _ _ _ _ _ _ _ us hl => match us, hl with
  | [_], _ => rfl
theorem bo5 : BindOk (defArgs d5.st) d5.ps := fun _ _ _ _ _ _ _ _ _ _ us hl => match us, hl with
  | [_, _], _ => rfl
theorem bo6 : BindOk (defArgs d6.st) d6.ps := fun _ _ _ _ _ _ _ _ _ _ us hl => match us, hl with
  | [_, _], _ => rfl
theorem bo7 : BindOk (defArgs d7.st) d7.ps := fun _ _ _ _ _ _ _ _ _ _ us hl => match us, hl with
  | [_], _ => rfl
theorem bo8 : BindOk (defArgs d8.st) d8.ps := fun _ _ _ _ _ _ _ _ _ _ us hl => match us, hl with
  | [_, _], _ => rfl
theorem bo9 : BindOk (defArgs d9.st) d9.ps := fun _ _ _ _ _ _ _ _ _ _ us hl => match us, hl with
  | [_], _ => rfl
theorem bo10 : BindOk (defArgs d10.st) d10.ps := fun _ _ _ _ _ _ _ _ _ _ us hl => match us, hl with
  | [_], _ => rfl
theorem bo11 : BindOk (defArgs d11.st) d11.ps := fun _ _ _ _ _ _ _ _ _ _ us hl => match us, hl with
  | [_, _], _ => rfl
theorem bo12 : BindOk (defArgs d12.st) d12.ps := fun _ _ _ _ _ _ _ _ _ _ us hl => match us, hl with
  | [_, _], _ => rfl
theorem bo13 : BindOk (defArgs d13.st) d13.ps := fun _ _ _ _ _ _ _ _ _ _ us hl => match us, hl with
  | [_, _, _], _ => rfl
theorem bo14 : BindOk (defArgs d14.st) d14.ps := fun _ _ _ _ _ _ _ _ _ _ us hl => match us, hl with
  | [_, _], _ => rfl
theorem bo15 : BindOk (defArgs d15.st) d15.ps := fun _ _ _ _ _ _ _ _ _ _ us hl => match us, hl with
  | [_], _ => rfl
theorem bo16 : BindOk (defArgs d16.st) d16.ps := fun _ _ _ _ _ _ _ _ _ _ us hl => match us, hl with
  | [_], _ => rfl
theorem bo17 : BindOk (defArgs d17.st) d17.ps := fun _ _ _ _ _ _ _ _ _ _ us hl => match us, hl with
  | [_], _ => rfl
theorem bo18 : BindOk (defArgs d18.st) d18.ps := fun _ _ _ _ _ _ _ _ _ _ us hl => match us, hl with
  | [_, _, _], _ => rfl
theorem bo19 : BindOk (defArgs d19.st) d19.ps := fun _ _ _ _ _ _ _ _ _ _ us hl => match us, hl with
  | [_], _ => rfl
theorem bo20 : BindOk (defArgs d20.st) d20.ps := fun _ _ _ _ _ _ _ _ _ _ us hl => match us, hl with
  | [_], _ => rfl
theorem bo21 : BindOk (defArgs d21.st) d21.ps := fun _ _ _ _ _ _ _ _ _ _ us hl => match us, hl with
  | [_], _ => rfl
theorem gl_all : ∀ d ∈ defs, d.gl = gl := by
  intro d hd
  simp only [defs, List.mem_cons, List.not_mem_nil, or_false] at hd
  rcases hd with rfl | rfl | rfl | rfl | rfl | rfl | rfl | rfl | rfl | rfl | rfl | rfl | rfl | rfl | rfl | rfl | rfl | rfl | rfl | rfl | rfl | rfl <;> rfl
theorem bo_all : ∀ d ∈ defs, BindOk (defArgs d.st) d.ps := by
  intro d hd
  simp only [defs, List.mem_cons, List.not_mem_nil, or_false] at hd
  rcases hd with rfl | rfl | rfl | rfl | rfl | rfl | rfl | rfl | rfl | rfl | rfl | rfl | rfl | rfl | rfl | rfl | rfl | rfl | rfl | rfl | rfl | rfl
  · exact bo0
  · exact bo1
  · exact bo2
  · exact bo3
  · exact bo4
  · exact bo5
  · exact bo6
  · exact bo7
  · exact bo8
  · exact bo9
  · exact bo10
  · exact bo11
  · exact bo12
  · exact bo13
  · exact bo14
  · exact bo15
  · exact bo16
  · exact bo17
  · exact bo18
  · exact bo19
  · exact bo20
  · exact bo21
abbrev R : PySem.W.OpenRow := PySem.W.OpenLaw.row PySem.Challenge.rw_everynumeral_k95_faulty_texts_of_numeral
abbrev hk : PySem.W.Hook := He.hookX 4 [] (defs.map Dn.de) [] [] (glEx defs gl)
def ob (s : PySem.W.SharedT) : He.AlX := He.obsX 4 [] (defs.map Dn.de) [] [] (glEx defs gl) (HandSHeadRun.getT s)
theorem ob_eq (s : PySem.W.SharedT) : ob s = hk.obs s.abs := He.obsX_eq (HandSHeadRun.getT_eq s)
def loose0 : List Str := ["NumeralError", "BadText", "DIGITS", "SIGNS", "DEEPEST", "MOST_SIGNS", "MOST_DIGITS", "NumeralReader", "read_numeral", "_law_same", "_law_pool", "_law_spread", "_law_draw", "_law_pick", "_law_garbled", "_law_value", "_law_value_text", "_law_letter", "_law_whole_text", "_law_taken", "_law_read", "_law_told"]
def loose : List Str := loose0
theorem run (w : World) : HandSHeadRun.RunEq R (PySem.W.view R.prog [25]) hk ob 4000 loose w := by
  intro os
  kernel_rfl
end PyL

/-! The reader of numerals, in plain words. -/
namespace K95
open PyE PyX
abbrev Txt := List Nat
def nx (z : Txt) (i : Nat) : Txt := (z.drop i).take 1
def isDig (c : Nat) : Bool := decide (c ∈ [48, 49, 50, 51, 52, 53, 54, 55, 56, 57])
abbrev sg : Txt := [97, 98, 99, 100, 101, 102, 103, 104, 105, 106, 107, 108, 109, 110, 111, 112, 113, 114, 115, 116, 117, 118, 119, 120, 121, 122, 65, 66, 67, 68, 69, 70, 71, 72, 73, 74, 75, 76, 77, 78, 79, 80, 81, 82, 83, 84, 85, 86, 87, 88, 89, 90, 32]
abbrev dg : Txt := [48, 49, 50, 51, 52, 53, 54, 55, 56, 57]
/-- the run of signs of w from i -/
def runL (w z : Txt) (i : Nat) : Txt := (z.drop i).takeWhile fun c => decide (c ∈ w)
def dv (ds : Txt) : Int := ((PySem.NumText.digitsVal ds : Nat) : Int)
def numQ (neg : Bool) (b : Nat) (ds : Txt) : Option (D × Nat) :=
  if 1 ≤ ds.length ∧ ds.length ≤ 60 ∧ ¬ (ds.head? = some 48 ∧ (1 < ds.length ∨ neg = true)) then some (.int (if neg = true then - dv ds else dv ds), b + ds.length) else none
def numP (z : Txt) (i : Nat) : Option (D × Nat) := if nx z i = [45] then numQ true (i + 1) (runL dg z (i + 1)) else numQ false i (runL dg z i)
theorem numQ_some {neg : Bool} {b : Nat} {ds : Txt} {d : D} {j : Nat} (h : numQ neg b ds = some (d, j)) : 1 ≤ ds.length ∧ j = b + ds.length ∧ d = .int (if neg = true then - dv ds else dv ds) := by
  by_cases q : 1 ≤ ds.length ∧ ds.length ≤ 60 ∧ ¬ (ds.head? = some 48 ∧ (1 < ds.length ∨ neg = true))
  · rw [numQ, if_pos q] at h
    cases h
    exact ⟨q.1, rfl, rfl⟩
  · rw [numQ, if_neg q] at h
    cases h
def strP (z : Txt) (i : Nat) : Option (D × Nat) :=
  let ds := runL sg z (i + 1)
  if nx z (i + 1 + ds.length) = [34] then some (.str ds, i + 1 + ds.length + 1) else none
def ploop (f : Nat → Option (D × Nat)) (z : Txt) : Nat → Nat → List D → Option (D × Nat)
  | 0, _, _ => none
  | n + 1, j, acc => if nx z j = [93] then some (.tup acc, j + 1) else if nx z j = [32] then (match f (j + 1) with
    | none => none
    | some (d, j2) => ploop f z n j2 (acc ++ [d])) else none
def parP (f : Nat → Option (D × Nat)) (z : Txt) (i : Nat) : Option (D × Nat) :=
  if nx z i = [93] then some (.tup [], i + 1) else match f i with
    | none => none
    | some (d, j) => ploop f z (z.length + 1) j [d]
def pv (z : Txt) : Nat → Nat → Option (D × Nat)
  | 0, i => if nx z i = [34] then strP z i else if nx z i = [91] then none else numP z i
  | k + 1, i => if nx z i = [34] then strP z i else if nx z i = [91] then parP (pv z k) z (i + 1) else numP z i
/-! ### where a reading ends -/
theorem nx_lt {z : Txt} {i c : Nat} (h : nx z i = [c]) : i < z.length := by
  have e := congrArg List.length h
  simp only [nx, List.length_take, List.length_drop, List.length_cons, List.length_nil] at e
  omega
theorem nx_drop {z : Txt} {i c : Nat} {t : Txt} (h : z.drop i = c :: t) : nx z i = [c] := by
  simp [nx, h]
theorem nx_nil {z : Txt} {i : Nat} (h : z.drop i = []) : nx z i = [] := by
  simp [nx, h]
theorem run_le (w z : Txt) (i : Nat) : (runL w z i).length ≤ z.length - i := by
  have := (List.takeWhile_sublist (l := z.drop i) fun c => decide (c ∈ w)).length_le
  simpa [runL] using this
def Step (z : Txt) (f : Nat → Option (D × Nat)) : Prop := ∀ i d j, f i = some (d, j) → i < j ∧ j ≤ z.length
theorem num_step (z : Txt) : Step z (numP z) := by
  intro i d j h
  simp only [numP] at h
  split at h
  · rename_i e
    obtain ⟨h1, h2, _⟩ := numQ_some h
    have := run_le dg z (i + 1)
    omega
  · obtain ⟨h1, h2, _⟩ := numQ_some h
    have := run_le dg z i
    omega
theorem str_step (z : Txt) (i : Nat) (d : D) (j : Nat) (h : strP z i = some (d, j)) : i < j ∧ j ≤ z.length := by
  simp only [strP] at h
  split at h
  · rename_i q
    cases h
    have := nx_lt q
    omega
  · cases h
theorem ploop_step {z : Txt} {f : Nat → Option (D × Nat)} (hf : Step z f) : ∀ (n j : Nat) (acc : List D) (d : D) (e : Nat), ploop f z n j acc = some (d, e) → j < e ∧ e ≤ z.length
  | 0, _, _, _, _, h => by cases h
  | n + 1, j, acc, d, e, h => by
    simp only [ploop] at h
    split at h
    · rename_i q
      cases h
      have := nx_lt q
      omega
    · split at h
      · split at h
        · cases h
        · rename_i d2 j2 q
          have a := hf _ _ _ q
          have b := ploop_step hf n j2 _ d e h
          omega
      · cases h
theorem par_step {z : Txt} {f : Nat → Option (D × Nat)} (hf : Step z f) : Step z (parP f z) := by
  intro i d j h
  simp only [parP] at h
  split at h
  · rename_i q
    cases h
    have := nx_lt q
    omega
  · split at h
    · cases h
    · rename_i d2 j2 q
      have a := hf _ _ _ q
      have b := ploop_step hf _ _ _ _ _ h
      omega
theorem pv_step (z : Txt) : ∀ k, Step z (pv z k)
  | 0, i, d, j, h => by
    simp only [pv] at h
    split at h
    · exact str_step z i d j h
    · split at h
      · cases h
      · exact num_step z i d j h
  | k + 1, i, d, j, h => by
    simp only [pv] at h
    split at h
    · exact str_step z i d j h
    · split at h
      · have := par_step (pv_step z k) _ _ _ h
        omega
      · exact num_step z i d j h
/-! ### what is read is data of a depth -/
theorem ploop_sim {z : Txt} {f : Nat → Option (D × Nat)} {k : Nat} (hf : Step z f) (hs : ∀ i d j, f i = some (d, j) → sim k d = true) (hz : z.length + 1 ≤ SZ) : ∀ (n j : Nat) (acc : List D) (d : D) (e : Nat), acc.length ≤ j → acc.all (sim k) = true → ploop f z n j acc = some (d, e) → sim (k + 1) d = true
  | 0, _, _, _, _, _, _, h => by cases h
  | n + 1, j, acc, d, e, hl, ha, h => by
    simp only [ploop] at h
    split at h
    · rename_i q
      cases h
      have := nx_lt q
      simp only [sim, Bool.and_eq_true, decide_eq_true_eq]
      exact ⟨by omega, ha⟩
    · split at h
      · split at h
        · cases h
        · rename_i d2 j2 q
          have a := hf _ _ _ q
          refine ploop_sim hf hs hz n j2 _ d e ?_ ?_ h
          · simp only [List.length_append, List.length_cons, List.length_nil]
            omega
          · simp only [List.all_append, ha, List.all_cons, List.all_nil, hs _ _ _ q]
            rfl
      · cases h
theorem num_sim {z : Txt} {i : Nat} {d : D} {j k : Nat} (h : numP z i = some (d, j)) : sim k d = true := by
  simp only [numP] at h
  split at h
  all_goals
    obtain ⟨_, _, h3⟩ := numQ_some h
    rw [h3]
    cases k <;> rfl
theorem str_sim {z : Txt} {i : Nat} {d : D} {j k : Nat} (h : strP z i = some (d, j)) : sim k d = true := by
  simp only [strP] at h
  split at h
  · cases h
    cases k <;> rfl
  · cases h
theorem pv_sim {z : Txt} (hz : z.length + 1 ≤ SZ) : ∀ k i d j, pv z k i = some (d, j) → sim k d = true
  | 0, i, d, j, h => by
    simp only [pv] at h
    split at h
    · exact str_sim h
    · split at h
      · cases h
      · exact num_sim h
  | k + 1, i, d, j, h => by
    simp only [pv] at h
    split at h
    · exact str_sim h
    · split at h
      · simp only [parP] at h
        split at h
        · cases h
          rfl
        · split at h
          · cases h
          · rename_i d2 j2 q
            have a := pv_step z k _ _ _ q
            refine ploop_sim (pv_step z k) (pv_sim hz k) hz _ _ _ _ _ ?_ ?_ h
            · simp only [List.length_cons, List.length_nil]
              omega
            · simp only [List.all_cons, List.all_nil, pv_sim hz k _ _ _ q]
              rfl
      · exact num_sim h
/-! ### slices -/
theorem cut_nat (z : Txt) (i j : Nat) : cut z (some (i : Int)) (some (j : Int)) = (z.drop i).take (j - i) := by
  simp only [cut, HT.sIx_nat]
  by_cases h : i ≤ z.length
  · rw [Nat.min_eq_left h]
    by_cases h2 : j ≤ z.length
    · rw [Nat.min_eq_left h2]
    · rw [Nat.min_eq_right (Nat.le_of_not_le h2), List.take_of_length_le (by simp), List.take_of_length_le (by simp; omega)]
  · rw [Nat.min_eq_right (Nat.le_of_not_le h), List.drop_of_length_le (Nat.le_refl _), List.drop_of_length_le (Nat.le_of_not_le h)]
    simp
theorem cut_one (z : Txt) (i : Nat) : cut z (some (i : Int)) (some ((i : Int) + 1)) = nx z i := by
  have := cut_nat z i (i + 1)
  rw [show ((i + 1 : Nat) : Int) = (i : Int) + 1 from rfl] at this
  rw [this, Nat.add_sub_cancel_left]
  rfl
theorem cut_run (w z : Txt) (i : Nat) : cut z (some (i : Int)) (some ((i + (runL w z i).length : Nat) : Int)) = runL w z i := by
  rw [cut_nat, Nat.add_sub_cancel_left]
  exact (List.prefix_iff_eq_take.mp (List.takeWhile_prefix _)).symm
end K95

/-! The reader's methods: what they compute. -/
namespace K95
open PyE PyX PyL
def rd (z : Txt) (i : Nat) : Ob := .ins "NumeralReader" [("text", .str z), ("at", .int i)]
def St (pre : Store) (z : Txt) (i : Nat) : Store := pre ++ [rd z i]
section
variable (pre : Store) (z : Txt) (i : Nat)
theorem st_get : (St pre z i)[pre.length]? = some (rd z i) := by simp [St]
theorem lk_text (a b : D) : List.lookup ("text" : PySem.Str) [(("text" : PySem.Str), a), (("at" : PySem.Str), b)] = some a := by kernel_rfl
theorem lk_at (a b : D) : List.lookup ("at" : PySem.Str) [(("text" : PySem.Str), a), (("at" : PySem.Str), b)] = some b := by kernel_rfl
@[simp] theorem fld_text : fldD (St pre z i) (.ref pre.length) "NumeralReader" "text" = some (.str z) := by
  simp only [fldD, st_get, rd, if_true, lk_text]
@[simp] theorem fld_at : fldD (St pre z i) (.ref pre.length) "NumeralReader" "at" = some (.int i) := by
  simp only [fldD, st_get, rd, if_true, lk_at]
theorem ins_of (m : PySem.Str) (h : ∀ a b : D, (List.lookup m [(("text" : PySem.Str), a), (("at" : PySem.Str), b)]).isNone = true) : insB (St pre z i) (.ref pre.length) "NumeralReader" m = true := by
  simp only [insB, st_get, rd, h, decide_true, Bool.and_self]
@[simp] theorem ins_next : insB (St pre z i) (.ref pre.length) "NumeralReader" "next_sign" = true := ins_of _ _ _ _ fun a b => by kernel_rfl
@[simp] theorem ins_run : insB (St pre z i) (.ref pre.length) "NumeralReader" "run_of" = true := ins_of _ _ _ _ fun a b => by kernel_rfl
@[simp] theorem ins_must : insB (St pre z i) (.ref pre.length) "NumeralReader" "must_take" = true := ins_of _ _ _ _ fun a b => by kernel_rfl
@[simp] theorem ins_number : insB (St pre z i) (.ref pre.length) "NumeralReader" "number" = true := ins_of _ _ _ _ fun a b => by kernel_rfl
@[simp] theorem ins_parts : insB (St pre z i) (.ref pre.length) "NumeralReader" "parts" = true := ins_of _ _ _ _ fun a b => by kernel_rfl
@[simp] theorem ins_value : insB (St pre z i) (.ref pre.length) "NumeralReader" "value" = true := ins_of _ _ _ _ fun a b => by kernel_rfl
theorem setF_at (a : D) (x y : D) : setF "at" x [(("text" : PySem.Str), a), (("at" : PySem.Str), y)] = [(("text" : PySem.Str), a), (("at" : PySem.Str), x)] := by kernel_rfl
theorem st_set (x : Ob) : (St pre z i).set pre.length x = pre ++ [x] := by
  simp [St]
@[simp] theorem fset_at (r : Env) (x : Int) (j : Nat) (h : x = j) : fsetD r (St pre z i) (.ref pre.length) "NumeralReader" "at" (.int x) = .ok (.nx r) (St pre z j) := by
  subst h
  have e : (("NumeralReader" : PySem.Str) = "NumeralReader") ∧ ([(("text" : PySem.Str), D.str z), ("at", .int i)] : List (PySem.Str × D)).length < 1000 := ⟨rfl, by simp⟩
  simp only [fsetD, st_get, rd, if_pos e, setF_at, st_set]
  rfl
@[simp] theorem fset_at1 (r : Env) : fsetD r (St pre z i) (.ref pre.length) "NumeralReader" "at" (.int ((i : Int) + 1)) = .ok (.nx r) (St pre z (i + 1)) := fset_at pre z i r _ (i + 1) rfl
end
@[simp] theorem c_nes (x y : List Nat) : cmpD .ne (.str x) (.str y) = some (!(x == y)) := id rfl
@[simp] theorem c_in1 (c : Nat) (y : List Nat) : cmpD .inn (.str [c]) (.str y) = some (decide (c ∈ y)) := id rfl
theorem sl_str {z : Txt} (hz : z.length ≤ SZ) (a b : Option Int) : slcD (.str z) a b = some (.str (cut z a b)) := if_pos hz
theorem ln_str {z : Txt} (hz : z.length ≤ SZ) (s : Store) : bltD s .len [.str z] = some (.int z.length) := if_pos hz
section
variable {pre : Store} {z : Txt} (hz : z.length ≤ SZ)
include hz
theorem next_ok (m i : Nat) : callF fs (m + 1) 1 [.ref pre.length] (St pre z i) = .ok (.str (nx z i)) (St pre z i) := by
  rw [call_eq (fn := f1) rfl rfl]
  show endR false (evS (callF fs m) (roOf fs) b1 [.sh (.ref pre.length)] (St pre z i)) = _
  simp [b1, sl_str hz, cut_one]
theorem must_ok (m i c : Nat) : callF fs (m + 2) 3 [.ref pre.length, .str [c]] (St pre z i) = if nx z i = [c] then .ok .non (St pre z (i + 1)) else .exc ⟨"BadText", [.str z]⟩ (St pre z i) := by
  rw [call_eq (fn := f3) rfl rfl]
  show endR false (evS (callF fs (m + 1)) (roOf fs) b3 [.sh (.ref pre.length), .sh (.str [c])] (St pre z i)) = _
  have e := next_ok (pre := pre) hz m i
  have one : ([D.str z] : List D).length ≤ SZ := by show 1 ≤ SZ; decide
  generalize callF fs (m + 1) = cl at *
  by_cases h : nx z i = [c]
  · simp [b3, e, h]
  · simp [b3, e, h, one]
    rfl
theorem run_loop (cl : Nat → List D → Store → Res D) (ro : Nat → Bool) (hn : ∀ i, cl 1 [.ref pre.length] (St pre z i) = .ok (.str (nx z i)) (St pre z i)) (w : Txt) (x2 : D) : ∀ (t : Txt) (i n : Nat), z.drop i = t → t.length < n →
    whileF [0, 0] (evT cl (.and (.tru (.cmp .ne (.meth "NumeralReader" 1 "next_sign" (.var 0) .nil) (.con (.str [])))) (.tru (.cmp .inn (.meth "NumeralReader" 1 "next_sign" (.var 0) .nil) (.var 1))))) (evS cl ro (.faug "NumeralReader" (.var 0) "at" .add (.con (.int 1)))) n [.sh (.ref pre.length), .sh (.str w), .sh x2] (St pre z i)
      = .ok (.nx [.sh (.ref pre.length), .sh (.str w), .sh x2]) (St pre z (i + (t.takeWhile fun c => decide (c ∈ w)).length))
  | [], i, n + 1, h, _ => by
    simp [whileF, hn, nx_nil h]
  | c :: t, i, n + 1, h, hl => by
    have e : z.drop (i + 1) = t := by
      rw [← List.drop_drop, h]
      rfl
    have ih := run_loop cl ro hn w x2 t (i + 1) n e (by simpa using hl)
    by_cases q : c ∈ w
    · have e2 : i + 1 + (t.takeWhile fun c => decide (c ∈ w)).length = i + ((c :: t).takeWhile fun c => decide (c ∈ w)).length := by
        rw [List.takeWhile_cons_of_pos (by simpa using q), List.length_cons]
        omega
      rw [e2] at ih
      rw [← ih]
      have f := fset_at pre z i [.sh (.ref pre.length), .sh (.str w), .sh x2] ((i : Int) + 1) (i + 1) rfl
      simp [whileF, hn, nx_drop h, q, f]
    · have e2 : (c :: t).takeWhile (fun c => decide (c ∈ w)) = [] := List.takeWhile_cons_of_neg (by simpa using q)
      rw [e2]
      simp [whileF, hn, nx_drop h, q]
theorem run_ok (m i : Nat) (w : Txt) (hz2 : z.length < WF) : callF fs (m + 2) 2 [.ref pre.length, .str w] (St pre z i) = .ok (.str (runL w z i)) (St pre z (i + (runL w z i).length)) := by
  rw [call_eq (fn := f2) rfl rfl]
  show endR false (evS (callF fs (m + 1)) (roOf fs) b2 [.sh (.ref pre.length), .sh (.str w), .no] (St pre z i)) = _
  have e := fun i => next_ok (pre := pre) hz m i
  have l := run_loop hz (callF fs (m + 1)) (roOf fs) e w (.int i) (z.drop i) i WF rfl (by simp; omega)
  have c := cut_run w z i
  rw [show ((i + (runL w z i).length : Nat) : Int) = (i : Int) + ((runL w z i).length : Int) from rfl] at c
  change _ = Res.ok _ (St pre z (i + (runL w z i).length)) at l
  generalize callF fs (m + 1) = cl at *
  simp only [b2, y_seq, y_while]
  simp [l, sl_str hz, c]
end
end K95

/-! The reader's number, parts and value. -/
namespace K95
open PyE PyX PyL
def Ans (pre : Store) (z : Txt) (res : Res D) : Option (D × Nat) → Prop
  | some (d, j) => res = .ok d (St pre z j)
  | none => ∃ j, res = .exc ⟨"BadText", [.str z]⟩ (St pre z j)
theorem one_SZ (z : Txt) : ([D.str z] : List D).length ≤ SZ := by
  show 1 ≤ SZ
  decide
theorem mem_tw {p : Nat → Bool} {c : Nat} : ∀ {l : Txt}, c ∈ l.takeWhile p → p c = true
  | [], h => by cases h
  | x :: l, h => by
    by_cases q : p x = true
    · rw [List.takeWhile_cons_of_pos q] at h
      rcases List.mem_cons.mp h with e | h
      · rw [e]; exact q
      · exact mem_tw h
    · rw [List.takeWhile_cons_of_neg q] at h
      cases h
theorem run_digs (z : Txt) (i : Nat) : PySem.NumText.AllDigits (runL dg z i) := by
  intro c hc
  have := mem_tw hc
  simp only [decide_eq_true_eq, List.mem_cons, List.not_mem_nil, or_false] at this
  omega
theorem int_run {ds : Txt} (h : PySem.NumText.AllDigits ds) (h1 : 1 ≤ ds.length) (h2 : ds.length ≤ 60) (s : Store) : bltD s .int [.str ds] = some (.int (dv ds)) := by
  have e : PySem.intText? ⟨ds.toArray⟩ = some (dv ds) := by
    have := PySem.intText_digits (x := ⟨ds.toArray⟩) (by simpa using h) (by simp; intro e; rw [e] at h1; simp at h1) (by show ds.toArray.size ≤ 4300; simp; omega)
    simpa [dv] using this
  show (if ds.length ≤ 640 then (PySem.intText? ⟨ds.toArray⟩).map D.int else none) = _
  rw [if_pos (by omega), e]
  rfl
abbrev ncond : PyE.T := (.or (.not (.tru (.chain .le .le (.con (.int 1)) (.blt .len (.cons (.var 2) .nil)) (.con (.int 60))))) (.and (.tru (.cmp .eq (.idx (.var 2) (.con (.int 0))) (.con (.str [48])))) (.or (.tru (.cmp .gt (.blt .len (.cons (.var 2) .nil)) (.con (.int 1)))) (.tru (.cmp .eq (.var 1) (.con (.str [45])))))))
theorem ncond_ok (cl : Nat → List D → Store → Res D) (x0 : Sl) (sign : Txt) (neg : Bool) (hs : (sign == [45]) = neg) (ds : Txt) (hd : ds.length ≤ SZ) (s : Store) :
    evT cl ncond [x0, .sh (.str sign), .sh (.str ds)] s = .ok (!decide (1 ≤ ds.length ∧ ds.length ≤ 60 ∧ ¬ (ds.head? = some 48 ∧ (1 < ds.length ∨ neg = true)))) s := by
  cases ds with
  | nil => simp [ncond, ln_str hd]
  | cons c t =>
    have e1 : idxD s (.str (c :: t)) (.int 0) = some (.str [c]) := by
      show (if (c :: t).length ≤ SZ then (atD (c :: t) 0).map fun c => D.str [c] else none) = _
      rw [if_pos hd, at_0]
      rfl
    by_cases h1 : t.length + 1 ≤ 60
    · have h1' : ((t.length : Int) + 1 ≤ 60) := by omega
      have l0 := ln_str hd s
      by_cases hc : c = 48
      · subst hc
        by_cases ht : 0 < t.length
        · have : (1 : Int) < (t.length : Int) + 1 := by omega
          have : (1 : Int) ≤ (t.length : Int) + 1 := by omega
          simp [ncond, l0, e1, h1, h1', ht, *]
        · have : ¬ (1 : Int) < (t.length : Int) + 1 := by omega
          have : (1 : Int) ≤ (t.length : Int) + 1 := by omega
          cases neg <;> simp [ncond, l0, e1, h1, h1', ht, *]
      · have : (1 : Int) ≤ (t.length : Int) + 1 := by omega
        simp [ncond, l0, e1, h1, h1', hc, *]
    · have h1' : ¬ ((t.length : Int) + 1 ≤ 60) := by omega
      have : (1 : Int) ≤ (t.length : Int) + 1 := by omega
      simp [ncond, ln_str hd, h1, h1', *]
section
variable {pre : Store} {z : Txt} (hz : z.length + 1 ≤ SZ)
include hz
theorem num_tail (cl : Nat → List D → Store → Res D) (ro : Nat → Bool) (b : Nat) (hr : cl 2 [.ref pre.length, .str dg] (St pre z b) = .ok (.str (runL dg z b)) (St pre z (b + (runL dg z b).length))) (sign : Txt) (neg : Bool) (hs : (sign == [45]) = neg) :
    Ans pre z (endR false (evS cl ro (.seq (.asg (.name 2) (.meth "NumeralReader" 2 "run_of" (.var 0) (.cons (.con (.str [48, 49, 50, 51, 52, 53, 54, 55, 56, 57])) .nil)))
  (.seq (.ite ncond (.raise "BadText" (.cons (.fld "NumeralReader" (.var 0) "text") .nil)) .skip)
  (.ret (.ite (.tru (.cmp .eq (.var 1) (.con (.str [45])))) (.neg (.blt .int (.cons (.var 2) .nil))) (.blt .int (.cons (.var 2) .nil)))))) [.sh (.ref pre.length), .sh (.str sign), .no] (St pre z b))) (numQ neg b (runL dg z b)) := by
  have hd : (runL dg z b).length ≤ SZ := by
    have := run_le dg z b
    omega
  have hc := ncond_ok cl (.sh (.ref pre.length)) sign neg hs (runL dg z b) hd (St pre z (b + (runL dg z b).length))
  have hdd := run_digs z b
  have et : escT ncond = [] := rfl
  generalize runL dg z b = ds at *
  by_cases q : 1 ≤ ds.length ∧ ds.length ≤ 60 ∧ ¬ (ds.head? = some 48 ∧ (1 < ds.length ∨ neg = true))
  · rw [numQ, if_pos q]
    rw [decide_eq_true q] at hc
    have hi := int_run hdd q.1 q.2.1 (St pre z (b + ds.length))
    generalize ncond = nc at *
    cases neg with
    | true => simp [Ans, hr, hc, hi, hs, et]
    | false => simp [Ans, hr, hc, hi, hs, et]
  · rw [numQ, if_neg q]
    rw [decide_eq_false q] at hc
    generalize ncond = nc at *
    refine ⟨b + ds.length, ?_⟩
    simp [hr, hc, et, one_SZ]
    rfl
theorem number_ok (hz2 : z.length < WF) (m i : Nat) : Ans pre z (callF fs (m + 3) 4 [.ref pre.length] (St pre z i)) (numP z i) := by
  have hz1 : z.length ≤ SZ := by omega
  rw [call_eq (fn := f4) rfl rfl]
  show Ans pre z (endR false (evS (callF fs (m + 2)) (roOf fs) b4 [.sh (.ref pre.length), .no, .no] (St pre z i))) _
  have e := next_ok (pre := pre) hz1 (m + 1) i
  have r := fun b => run_ok (pre := pre) hz1 m b dg hz2
  by_cases h : nx z i = [45]
  · have t := num_tail (pre := pre) hz (callF fs (m + 2)) (roOf fs) (i + 1) (r (i + 1)) [45] true rfl
    rw [numP, if_pos h]
    generalize callF fs (m + 2) = cl at *
    rw [h] at e
    simp only [b4, y_seq, y_asg, y_ite, x_meth, x_var, x_nil] at t ⊢
    simpa [e] using t
  · have t := num_tail (pre := pre) hz (callF fs (m + 2)) (roOf fs) i (r i) (nx z i) false (by simpa using h)
    rw [numP, if_neg h]
    generalize callF fs (m + 2) = cl at *
    simpa [b4, e, h] using t
end
end K95

/-! The reader's parts and value, and the reading of a whole text. -/
namespace K95
open PyE PyX PyL
@[simp] theorem end_exc (b : Bool) (x : Xc) (s : Store) : endR b (.exc x s) = .exc x s := id rfl
def seqR (cl : Nat → List D → Store → Res D) (ro : Nat → Bool) (K : S) (x : Res Flow) : Res Flow := x.bind fun f s1 => match f with
    | .nx r1 => evS cl ro K r1 s1
    | f => .ok f s1
abbrev ptst : PyE.T := .tru (.cmp .eq (.meth "NumeralReader" 1 "next_sign" (.var 0) .nil) (.con (.str [32])))
abbrev pbdy : S := (.seq (.faug "NumeralReader" (.var 0) "at" .add (.con (.int 1)))
  (.app (.var 2) (.meth "NumeralReader" 6 "value" (.var 0) (.cons (.bin .sub (.var 1) (.con (.int 1))) .nil))))
abbrev pend : S := (.seq (.exp (.meth "NumeralReader" 3 "must_take" (.var 0) (.cons (.con (.str [93])) .nil)))
  (.ret (.blt .tuple (.cons (.var 2) .nil))))
section
variable {pre : Store} {z : Txt} (hz : z.length + 1 ≤ SZ)
include hz
theorem par_loop (cl : Nat → List D → Store → Res D) (ro : Nat → Bool) (k : Nat) (f : Nat → Option (D × Nat)) (hn : ∀ i, cl 1 [.ref pre.length] (St pre z i) = .ok (.str (nx z i)) (St pre z i))
    (hm : ∀ i c, cl 3 [.ref pre.length, .str [c]] (St pre z i) = if nx z i = [c] then .ok .non (St pre z (i + 1)) else .exc ⟨"BadText", [.str z]⟩ (St pre z i))
    (hv : ∀ i, Ans pre z (cl 6 [.ref pre.length, .int k] (St pre z i)) (f i)) (hf : Step z f) : ∀ (n j : Nat) (acc : List D) (N : Nat), j ≤ z.length → z.length < j + n → n ≤ N → acc.length ≤ j →
      Ans pre z (endR false (seqR cl ro pend (whileF [0] (evT cl ptst) (evS cl ro pbdy) N [.sh (.ref pre.length), .sh (.int (k + 1 : Nat)), .own (.lst acc)] (St pre z j)))) (ploop f z n j acc)
  | 0, j, acc, N, h1, h2, _, _ => absurd h2 (by omega)
  | n + 1, j, acc, 0, _, _, h3, _ => absurd h3 (by omega)
  | n + 1, j, acc, N + 1, h1, h2, h3, h4 => by
    by_cases q : nx z j = [32]
    · have ne : ¬ (nx z j = [93]) := by rw [q]; decide
      have hj := nx_lt q
      have hl : acc.length < SZ := by omega
      have hvj := hv (j + 1)
      simp only [ploop, if_neg ne, if_pos q]
      cases e : f (j + 1) with
      | none =>
        rw [e] at hvj
        obtain ⟨j', e2⟩ := hvj
        refine ⟨j', ?_⟩
        simp [whileF, seqR, hn, q, isL, e2]
      | some dj =>
        obtain ⟨d, j2⟩ := dj
        rw [e] at hvj
        change _ = _ at hvj
        have a := hf _ _ _ e
        have ih := par_loop cl ro k f hn hm hv hf n j2 (acc ++ [d]) N a.2 (by omega) (by omega) (by simp; omega)
        have ap : appD [.sh (.ref pre.length), .sh (.int (k + 1 : Nat)), .own (.lst acc)] (St pre z j2) (.var 2) (.lst acc) d = .ok (.nx [.sh (.ref pre.length), .sh (.int (k + 1 : Nat)), .own (.lst (acc ++ [d]))]) (St pre z j2) := if_pos hl
        simp only [Int.natCast_add, Int.cast_ofNat_Int] at ap ih ⊢
        simpa [whileF, hn, q, isL, hvj, ap] using ih
    · have hmj := hm j 93
      by_cases q2 : nx z j = [93]
      · rw [if_pos q2] at hmj
        simp only [ploop, if_pos q2]
        show _ = _
        simp [whileF, seqR, hn, q, q2, hmj, pend]
      · rw [if_neg q2] at hmj
        simp only [ploop, if_neg q2, if_neg q]
        refine ⟨j, ?_⟩
        simp [whileF, seqR, hn, q, hmj, pend]
theorem parts_ok (cl : Nat → List D → Store → Res D) (ro : Nat → Bool) (k : Nat) (f : Nat → Option (D × Nat)) (hn : ∀ i, cl 1 [.ref pre.length] (St pre z i) = .ok (.str (nx z i)) (St pre z i))
    (hm : ∀ i c, cl 3 [.ref pre.length, .str [c]] (St pre z i) = if nx z i = [c] then .ok .non (St pre z (i + 1)) else .exc ⟨"BadText", [.str z]⟩ (St pre z i))
    (hv : ∀ i, Ans pre z (cl 6 [.ref pre.length, .int k] (St pre z i)) (f i)) (hf : Step z f) (hw : z.length + 1 ≤ WF) (i : Nat) :
      Ans pre z (endR false (evS cl ro b5 [.sh (.ref pre.length), .sh (.int (k + 1 : Nat)), .no] (St pre z i))) (parP f z i) := by
  by_cases q : nx z i = [93]
  · simp only [parP, if_pos q]
    show _ = _
    simp [b5, hn, q]
  · simp only [parP, if_neg q]
    have hvi := hv i
    cases e : f i with
    | none =>
      rw [e] at hvi
      obtain ⟨j', e2⟩ := hvi
      refine ⟨j', ?_⟩
      simp [b5, hn, q, e2]
    | some dj =>
      obtain ⟨d, j⟩ := dj
      rw [e] at hvi
      change _ = _ at hvi
      have a := hf _ _ _ e
      have l := par_loop (pre := pre) hz cl ro k f hn hm hv hf (z.length + 1) j [d] WF a.2 (by omega) hw (by simp; omega)
      have o1 : ([d] : List D).length ≤ SZ := by show 1 ≤ SZ; decide
      simp only [Int.natCast_add, Int.cast_ofNat_Int] at l ⊢
      have e3 : evS cl ro b5 [.sh (.ref pre.length), .sh (.int ((k : Int) + 1)), .no] (St pre z i) = seqR cl ro pend (whileF [0] (evT cl ptst) (evS cl ro pbdy) WF [.sh (.ref pre.length), .sh (.int ((k : Int) + 1)), .own (.lst [d])] (St pre z j)) := by
        simp only [b5, y_seq, y_while]
        simp [hn, q, hvi, lstR_ok o1]
        rfl
      rw [e3]
      exact l
theorem val_body (cl : Nat → List D → Store → Res D) (ro : Nat → Bool) (k : Nat) (i : Nat) (hn : ∀ i, cl 1 [.ref pre.length] (St pre z i) = .ok (.str (nx z i)) (St pre z i))
    (hm : ∀ i c, cl 3 [.ref pre.length, .str [c]] (St pre z i) = if nx z i = [c] then .ok .non (St pre z (i + 1)) else .exc ⟨"BadText", [.str z]⟩ (St pre z i))
    (hr : ∀ i, cl 2 [.ref pre.length, .str sg] (St pre z i) = .ok (.str (runL sg z i)) (St pre z (i + (runL sg z i).length)))
    (hu : Ans pre z (cl 4 [.ref pre.length] (St pre z i)) (numP z i))
    (hp : ∀ k', k = k' + 1 → ∀ i, Ans pre z (cl 5 [.ref pre.length, .int k] (St pre z i)) (parP (pv z k') z i)) :
      Ans pre z (endR false (evS cl ro b6 [.sh (.ref pre.length), .sh (.int k), .no, .no] (St pre z i))) (pv z k i) := by
  have r0 : nx z i = [34] → Ans pre z (endR false (evS cl ro b6 [.sh (.ref pre.length), .sh (.int k), .no, .no] (St pre z i))) (strP z i) := fun q => by
    have r1 := hr (i + 1)
    have m1 := hm (i + 1 + (runL sg z (i + 1)).length) 34
    simp only [strP]
    by_cases q2 : nx z (i + 1 + (runL sg z (i + 1)).length) = [34]
    · rw [if_pos q2] at m1 ⊢
      show _ = _
      simp [b6, hn, q, r1, m1]
    · rw [if_neg q2] at m1 ⊢
      refine ⟨i + 1 + (runL sg z (i + 1)).length, ?_⟩
      simp [b6, hn, q, r1, m1]
  have r2 : ¬ nx z i = [34] → ¬ nx z i = [91] → Ans pre z (endR false (evS cl ro b6 [.sh (.ref pre.length), .sh (.int k), .no, .no] (St pre z i))) (numP z i) := fun q q2 => by
    cases e : numP z i with
    | none =>
      rw [e] at hu
      obtain ⟨j, e2⟩ := hu
      refine ⟨j, ?_⟩
      simp [b6, hn, q, q2, e2]
    | some dj =>
      obtain ⟨d, j⟩ := dj
      rw [e] at hu
      change _ = _ at hu
      show _ = _
      simp [b6, hn, q, q2, hu]
  have ne : ∀ (a b : Nat), a ≠ b → nx z i = [a] → ¬ nx z i = [b] := fun a b h e e2 => by
    rw [e] at e2
    exact h (by simpa using e2)
  cases k with
  | zero =>
    by_cases q : nx z i = [34]
    · rw [pv, if_pos q]
      exact r0 q
    · by_cases q2 : nx z i = [91]
      · rw [pv, if_neg q, if_pos q2]
        refine ⟨i, ?_⟩
        simp [b6, hn, q, q2, one_SZ]
      · rw [pv, if_neg q, if_neg q2]
        exact r2 q q2
  | succ k =>
    by_cases q : nx z i = [34]
    · rw [pv, if_pos q]
      exact r0 q
    · by_cases q2 : nx z i = [91]
      · rw [pv, if_neg q, if_pos q2]
        have p := hp k rfl (i + 1)
        have k0 : ¬ ((k : Int) + 1 = 0) := by omega
        cases e : parP (pv z k) z (i + 1) with
        | none =>
          rw [e] at p
          obtain ⟨j, e2⟩ := p
          simp only [Int.natCast_add, Int.cast_ofNat_Int] at e2 ⊢
          refine ⟨j, ?_⟩
          simp [b6, hn, q, q2, e2, k0]
        | some dj =>
          obtain ⟨d, j⟩ := dj
          rw [e] at p
          change _ = _ at p
          simp only [Int.natCast_add, Int.cast_ofNat_Int] at p ⊢
          show _ = _
          simp [b6, hn, q, q2, p, k0]
      · rw [pv, if_neg q, if_neg q2]
        exact r2 q q2
theorem val_ok (hw : z.length + 1 ≤ WF) (m : Nat) : ∀ (k i : Nat), Ans pre z (callF fs (m + 2 * k + 5) 6 [.ref pre.length, .int k] (St pre z i)) (pv z k i)
  | k, i => by
    have hz1 : z.length ≤ SZ := by omega
    rw [call_eq (fn := f6) rfl rfl]
    show Ans pre z (endR false (evS (callF fs (m + 2 * k + 4)) (roOf fs) b6 [.sh (.ref pre.length), .sh (.int k), .no, .no] (St pre z i))) _
    refine val_body hz _ _ k i (fun i => next_ok (pre := pre) hz1 (m + 2 * k + 3) i) (fun i c => must_ok (pre := pre) hz1 (m + 2 * k + 2) i c) (fun i => run_ok (pre := pre) hz1 (m + 2 * k + 2) i sg (by omega)) (number_ok (pre := pre) hz (by omega) (m + 2 * k + 1) i) fun k' e i => ?_
    subst e
    rw [show m + 2 * (k' + 1) + 4 = (m + 2 * k' + 5) + 1 by omega, call_eq (fn := f5) rfl rfl]
    exact parts_ok hz _ _ k' (pv z k') (fun i => next_ok (pre := pre) hz1 (m + 2 * k' + 4) i) (fun i c => must_ok (pre := pre) hz1 (m + 2 * k' + 3) i c) (fun i => val_ok hw m k' i) (pv_step z k') hw i
end
/-! ### a whole text -/
/-- what a whole text says -/
def told (z : Txt) : D := match pv z 80 0 with
  | some (d, j) => if j = z.length then .lst [d] else .non
  | none => .non
theorem read_ok (z : Txt) (hz : z.length ≤ 100000) (pre : Store) (m : Nat) : ∃ x, (callF fs (m + 166) 7 [.str z] pre = (match pv z 80 0 with
    | some (d, j) => if j = z.length then .ok d (pre ++ [x]) else .exc ⟨"BadText", [.str z]⟩ (pre ++ [x])
    | none => .exc ⟨"BadText", [.str z]⟩ (pre ++ [x]))) := by
  have big : 100001 ≤ SZ ∧ 100001 ≤ WF := by decide
  have hz1 : z.length ≤ SZ := by omega
  have ini : callF fs (m + 165) 0 [.ref pre.length, .str z] (pre ++ [.ins "NumeralReader" []]) = .ok .non (St pre z 0) := by
    rw [call_ini (fn := f0) rfl rfl (.inr (by show 130 < m + 164; omega))]
    show endR false (evS (callF fs (m + 164)) (roOf fs) b0 [.sh (.ref pre.length), .sh (.str z)] (pre ++ [.ins "NumeralReader" []])) = _
    have s1 : ∀ r, fsetD r (pre ++ [.ins "NumeralReader" []]) (.ref pre.length) "NumeralReader" "text" (.str z) = .ok (.nx r) (pre ++ [.ins "NumeralReader" [("text", .str z)]]) := fun r => by
      simp [fsetD, setF]
    have s2 : ∀ r, fsetD r (pre ++ [.ins "NumeralReader" [("text", .str z)]]) (.ref pre.length) "NumeralReader" "at" (.int 0) = .ok (.nx r) (St pre z 0) := fun r => by
      have e : setF "at" (.int 0) [(("text" : PySem.Str), D.str z)] = [(("text" : PySem.Str), D.str z), (("at" : PySem.Str), D.int 0)] := by kernel_rfl
      simp [fsetD, e, St, rd]
    simp [b0, s1, s2]
  have v := val_ok (pre := pre) (z := z) (by omega) (by omega) m 80 0
  rw [show m + 2 * 80 + 5 = m + 165 by omega] at v
  rw [call_eq (fn := f7) rfl rfl]
  show ∃ x, endR false (evS (callF fs (m + 165)) (roOf fs) b7 [.sh (.str z), .no, .no] pre) = _
  generalize callF fs (m + 165) = cl at *
  have hl : ¬ (100000 : Int) < (z.length : Int) := by omega
  cases e : pv z 80 0 with
  | none =>
    rw [e] at v
    obtain ⟨j, e2⟩ := v
    refine ⟨rd z j, ?_⟩
    simp only [Int.cast_ofNat_Int] at e2
    simp [b7, ln_str hz1, hl, ini, e2]
    rfl
  | some dj =>
    obtain ⟨d, j⟩ := dj
    rw [e] at v
    have v : cl 6 [.ref pre.length, .int 80] (St pre z 0) = .ok d (St pre z j) := v
    have hj := (pv_step z 80 _ _ _ e).2
    refine ⟨rd z j, ?_⟩
    by_cases q : j = z.length
    · have : ¬ ((j : Int) < (z.length : Int)) := by omega
      simp [b7, ln_str hz1, hl, ini, v, q, this]
      rfl
    · have : ((j : Int) < (z.length : Int)) := by omega
      simp [b7, ln_str hz1, hl, ini, v, q, this, one_SZ]
      rfl
theorem told_ok (z : Txt) (hz : z.length ≤ 100000) (pre : Store) (m : Nat) : ∃ x, callF fs (m + 167) 20 [.str z] pre = .ok (told z) (pre ++ [x]) := by
  obtain ⟨x, e⟩ := read_ok z hz pre m
  refine ⟨x, ?_⟩
  rw [call_eq (fn := f20) rfl rfl]
  show endR false (evS (callF fs (m + 166)) (roOf fs) b20 [.sh (.str z)] pre) = _
  have o1 : ∀ d : D, ([d] : List D).length ≤ SZ := fun d => by show 1 ≤ SZ; decide
  generalize callF fs (m + 166) = cl at *
  unfold told
  cases q : pv z 80 0 with
  | none =>
    rw [q] at e
    simp [b20, y_tryR, e]
  | some dj =>
    obtain ⟨d, j⟩ := dj
    rw [q] at e
    by_cases q2 : j = z.length
    · simp [q2] at e
      simp [b20, y_tryR, e, q2, lstR_ok (o1 d)]
    · simp [q2] at e
      simp [b20, y_tryR, e, q2]
end K95

/-! The law's own reading. -/
namespace K95
open PyE PyX PyL
def tkD : Option (D × Nat) → D
  | some (d, j) => .tup [d, .int j]
  | none => .non
theorem idx_str {z : Txt} (hz : z.length ≤ SZ) {e c : Nat} {t : Txt} (h : z.drop e = c :: t) (s : Store) : idxD s (.str z) (.int e) = some (.str [c]) := by
  have g : z[e]? = some c := by
    have := congrArg List.head? h
    simpa using this
  show (if z.length ≤ SZ then (atD z (e : Int)).map fun c => D.str [c] else none) = _
  rw [if_pos hz, at_nat rfl, g]
  rfl
theorem drop_lt {z : Txt} {e c : Nat} {t : Txt} (h : z.drop e = c :: t) : e < z.length := by
  have := congrArg List.length h
  simp only [List.length_drop, List.length_cons] at this
  omega
theorem drop_ge {z : Txt} {e : Nat} (h : z.drop e = []) : z.length ≤ e := by
  have := congrArg List.length h
  simp only [List.length_drop, List.length_nil] at this
  omega
theorem drop_next {z : Txt} {e c : Nat} {t : Txt} (h : z.drop e = c :: t) : z.drop (e + 1) = t := by
  rw [← List.drop_drop, h]
  rfl
theorem seq_ok {cl : Nat → List D → Store → Res D} {ro : Nat → Bool} {a b : PyE.S} {r r1 : Env} {s s1 : Store} (h : evS cl ro a r s = .ok (.nx r1) s1) : evS cl ro (.seq a b) r s = evS cl ro b r1 s1 := by
  rw [y_seq, h, bind_ok2]
theorem letter_ok (m : Nat) (c : Nat) (s : Store) : callF fs (m + 1) 16 [.str [c]] s = .ok (.bl (decide (c ∈ sg))) s := by
  rw [call_eq (fn := f16) rfl rfl]
  show endR false (evS (callF fs m) (roOf fs) b16 [.sh (.str [c])] s) = _
  simp only [b16, y_ret, x_cmp, x_var, x_con, g_0, share_nil, e_esc, eb_cmp, eb_var, eb_con, tv_cmp, List.nil_append, vo_cmp, bind_ok2, c_in1, Option.map, ofO_some2, f_cmp, end_ret]
theorem end_loop (cl : Nat → List D → Store → Res D) (ro : Nat → Bool) (l : List Nat) (tst : PyE.T) (w : Txt) (s : Store) (z : Txt) (x1 x2 : D) (hl : ∀ e : Nat, share l [.sh (.str z), .sh x1, .sh x2, .no, .no, .own (.int e), .no] = [.sh (.str z), .sh x1, .sh x2, .no, .no, .own (.int e), .no])
    (ht0 : ∀ e : Nat, z.drop e = [] → evT cl tst [.sh (.str z), .sh x1, .sh x2, .no, .no, .own (.int e), .no] s = .ok false s)
    (ht : ∀ (e c : Nat) (t : Txt), z.drop e = c :: t → evT cl tst [.sh (.str z), .sh x1, .sh x2, .no, .no, .own (.int e), .no] s = .ok (decide (c ∈ w)) s) : ∀ (t : Txt) (e n : Nat), z.drop e = t → t.length < n →
    whileF l (evT cl tst) (evS cl ro (.asg (.name 5) (.bin .add (.var 5) (.con (.int 1))))) n [.sh (.str z), .sh x1, .sh x2, .no, .no, .own (.int e), .no] s
      = .ok (.nx [.sh (.str z), .sh x1, .sh x2, .no, .no, .own (.int (e + (t.takeWhile fun c => decide (c ∈ w)).length : Nat)), .no]) s
  | [], e, n + 1, h, _ => by
    simp [whileF, hl, ht0 e h]
  | c :: t, e, n + 1, h, hn => by
    have h2 := drop_next h
    have ih := end_loop cl ro l tst w s z x1 x2 hl ht0 ht t (e + 1) n h2 (by simpa using hn)
    by_cases q : c ∈ w
    · have e2 : e + 1 + (t.takeWhile fun c => decide (c ∈ w)).length = e + ((c :: t).takeWhile fun c => decide (c ∈ w)).length := by
        rw [List.takeWhile_cons_of_pos (by simpa using q), List.length_cons]
        omega
      rw [e2] at ih
      rw [← ih]
      have q' : decide (c ∈ w) = true := decide_eq_true q
      simp only [whileF, hl, ht e c t h, q', bind_ok2, if_true]
      simp
    · have e2 : (c :: t).takeWhile (fun c => decide (c ∈ w)) = [] := List.takeWhile_cons_of_neg (by simpa using q)
      rw [e2]
      have q' : decide (c ∈ w) = false := decide_eq_false q
      simp [whileF, hl, ht e c t h, q']
/-! whole texts of numbers -/
def bodyOf (tok : Txt) : Txt := if nx tok 0 = [45] then tok.drop 1 else tok
def bads (b : Txt) : Nat := (b.filter fun c => !decide (c ∈ dg)).length
def wh (tok : Txt) : Bool := !((bodyOf tok == []) || (decide (60 < (bodyOf tok).length) || decide (0 < bads (bodyOf tok)))) && (((bodyOf tok == [48]) && (tok == [48])) || !((bodyOf tok).take 1 == [48]))
theorem comp_bad (cl : Nat → List D → Store → Res D) (x0 x1 : Sl) (s : Store) : ∀ b : Txt, compF (turnF cl (.var 2) (.name 2) (.one (.tru (.cmp .notin (.var 2) (.con (.str dg))))) [x0, x1, .no]) (b.map fun c => .str [c]) s = .ok ((b.filter fun c => !decide (c ∈ dg)).map fun c => .str [c]) s
  | [] => rfl
  | c :: b => by
    have n1 : cmpD .notin (.str [c]) (.str dg) = some (!decide (c ∈ dg)) := rfl
    have ih := comp_bad cl x0 x1 s b
    simp only [List.map_cons, compF]
    rw [turn_eq rfl]
    by_cases q : c ∈ dg
    · have q' : decide (c ∈ dg) = true := decide_eq_true q
      rw [List.filter_cons_of_neg (by rw [q']; decide)]
      simp only [x_one, x_tru, x_cmp, x_var, x_con, p_s, p_0, g_s, g_0, bind_ok2, n1, q', Option.map, ofO_some2, t_bl, Bool.not_true, Bool.false_eq_true, if_false, ih]
    · have q' : decide (c ∈ dg) = false := decide_eq_false q
      rw [List.filter_cons_of_pos (by rw [q']; decide)]
      simp only [x_one, x_tru, x_cmp, x_var, x_con, p_s, p_0, g_s, g_0, bind_ok2, n1, q', Option.map, ofO_some2, t_bl, Bool.not_false, if_true, Bool.false_eq_true, if_false, ih]
      rfl
theorem cut_tail (z : Txt) : cut z (some 1) none = z.drop 1 := by
  simp only [cut, show ((1 : Int)) = ((1 : Nat) : Int) from rfl, HT.sIx_nat, HT.sIx_none]
  cases z with
  | nil => rfl
  | cons c t => simp
theorem cut_head (z : Txt) : cut z none (some 1) = nx z 0 := by
  simp only [cut, show ((1 : Int)) = ((1 : Nat) : Int) from rfl, HT.sIx_nat, HT.sIx_none]
  cases z with
  | nil => rfl
  | cons c t => simp [nx]
theorem whole_ok (m : Nat) (tok : Txt) (hz : tok.length ≤ SZ) (s : Store) : callF fs (m + 1) 17 [.str tok] s = .ok (.bl (wh tok)) s := by
  rw [call_eq (fn := f17) rfl rfl]
  show endR false (evS (callF fs m) (roOf fs) b17 [.sh (.str tok), .no, .no] s) = _
  generalize callF fs m = cl
  have hb : (bodyOf tok).length ≤ SZ := by
    unfold bodyOf
    split
    · rw [List.length_drop]; omega
    · exact hz
  have st : evS cl (roOf fs) (.asg (.name 1) (.ite (.tru (.cmp .eq (.slc (.var 0) .none (.some (.con (.int 1)))) (.con (.str [45])))) (.slc (.var 0) (.some (.con (.int 1))) .none) (.var 0))) [.sh (.str tok), .no, .no] s = .ok (.nx [.sh (.str tok), .sh (.str (bodyOf tok)), .no]) s := by
    by_cases q : nx tok 0 = [45]
    · simp [sl_str hz, cut_head, cut_tail, q, bodyOf]
    · simp [sl_str hz, cut_head, cut_tail, q, bodyOf]
  obtain ⟨bl, hbl, cp⟩ : ∃ bl : List D, bl.length = bads (bodyOf tok) ∧ evE cl (.comp (.var 2) (.name 2) (.seq (.var 1)) (.one (.tru (.cmp .notin (.var 2) (.con (.str dg))))) [2]) [.sh (.str tok), .sh (.str (bodyOf tok)), .no] s = .ok (.lst bl) s := by
    refine ⟨((bodyOf tok).filter fun c => !decide (c ∈ dg)).map fun c => .str [c], by simp only [List.length_map, bads], ?_⟩
    rw [x_comp]
    simp only [x_seq, x_var, g_s, g_0, bind_ok2, it_str, ofO_some2, w_cons, w_nil, p_s, p_0]
    exact compR_ok (by simpa using hb) (comp_bad cl _ _ s _)
  rw [b17, seq_ok st]
  clear st
  have l1 := ln_str hb s
  have one : ∀ c t, bodyOf tok = c :: t → idxD s (.str (bodyOf tok)) (.int 0) = some (.str [c]) := fun c t e => idx_str hb (e := 0) (t := t) (by simpa using e) s
  unfold wh
  generalize bodyOf tok = b at *
  generalize bads b = bb at *
  have ct : evT cl (.or (.tru (.cmp .eq (.var 1) (.con (.str [])))) (.or (.tru (.cmp .gt (.blt .len (.cons (.var 1) .nil)) (.con (.int 60)))) (.tru (.cmp .gt (.blt .len (.cons (.comp (.var 2) (.name 2) (.seq (.var 1)) (.one (.tru (.cmp .notin (.var 2) (.con (.str dg))))) [2]) .nil)) (.con (.int 0)))))) [.sh (.str tok), .sh (.str b), .no] s = .ok ((b == []) || (decide (60 < b.length) || decide (0 < bb))) s := by
    generalize (E.comp (.var 2) (.name 2) (.seq (.var 1)) (.one (.tru (.cmp .notin (.var 2) (.con (.str dg))))) [2]) = ce at *
    cases b with
    | nil => simp
    | cons c t =>
      by_cases h1 : 60 < t.length + 1
      · have h1' : ((60 : Int) < (t.length : Int) + 1) := by omega
        simp [l1, h1, h1']
      · have h1' : ¬ ((60 : Int) < (t.length : Int) + 1) := by omega
        simp [l1, h1, h1', cp, hbl]
  have et : escT (.or (.tru (.cmp .eq (.var 1) (.con (.str [])))) (.or (.tru (.cmp .gt (.blt .len (.cons (.var 1) .nil)) (.con (.int 60)))) (.tru (.cmp .gt (.blt .len (.cons (.comp (.var 2) (.name 2) (.seq (.var 1)) (.one (.tru (.cmp .notin (.var 2) (.con (.str dg))))) [2]) .nil)) (.con (.int 0)))))) = [2, 1] := rfl
  simp only [dg] at ct et ⊢
  generalize (T.or (.tru (.cmp .eq (.var 1) (.con (.str [])))) (.or (.tru (.cmp .gt (.blt .len (.cons (.var 1) .nil)) (.con (.int 60)))) (.tru (.cmp .gt (.blt .len (.cons (.comp (.var 2) (.name 2) (.seq (.var 1)) (.one (.tru (.cmp .notin (.var 2) (.con (.str [48, 49, 50, 51, 52, 53, 54, 55, 56, 57]))))) [2]) .nil)) (.con (.int 0)))))) = tt at *
  cases q : ((b == []) || (decide (60 < b.length) || decide (0 < bb))) with
  | true =>
    rw [q] at ct
    simp [ct, et]
  | false =>
    rw [q] at ct
    cases b with
    | nil => simp at q
    | cons c t =>
      have i1 := one c t rfl
      cases q2 : (((c :: t) == [48]) && (tok == [48])) with
      | true =>
        have q3 : ((c :: t) == [48]) = true := by
          cases e : ((c :: t) == [48]) with
          | true => rfl
          | false => rw [e] at q2; cases q2
        have q4 : (tok == [48]) = true := by
          rw [q3] at q2
          exact q2
        simp only [y_seq, y_ite, y_ret, et, ct, share_cons, share_nil, sh_s, sh_0, ts_sh, ts_no, bind_ok2, y_skip, vo_orv, e_esc, tv_orv, eb_orv, eb_andv, eb_cmp, eb_var, eb_con, List.nil_append, List.append_nil, tv_var, x_orv, x_andv, x_cmp, x_var, x_con, g_s, g_0, c_eqs, Option.map, ofO_some2, q3, q4, as_bl, Bool.false_eq_true, if_false, f_orv, end_ret, eb_idx]
        rfl
      | false =>
        cases q3 : ((c :: t) == [48]) with
        | false =>
          simp only [y_seq, y_ite, y_ret, et, ct, share_cons, share_nil, sh_s, sh_0, ts_sh, ts_no, bind_ok2, y_skip, vo_orv, e_esc, tv_orv, eb_orv, eb_andv, eb_cmp, eb_var, eb_con, List.nil_append, List.append_nil, tv_var, x_orv, x_andv, x_cmp, x_var, x_con, g_s, g_0, c_eqs, c_nes, x_idx, i1, Option.map, ofO_some2, q3, as_bl, Bool.false_eq_true, if_false, f_orv, end_ret, eb_idx]
          simp
        | true =>
          have q4 : (tok == [48]) = false := by
            rw [q3] at q2
            exact q2
          simp only [y_seq, y_ite, y_ret, et, ct, share_cons, share_nil, sh_s, sh_0, ts_sh, ts_no, bind_ok2, y_skip, vo_orv, e_esc, tv_orv, eb_orv, eb_andv, eb_cmp, eb_var, eb_con, List.nil_append, List.append_nil, tv_var, x_orv, x_andv, x_cmp, x_var, x_con, g_s, g_0, c_eqs, c_nes, x_idx, i1, Option.map, ofO_some2, q3, q4, as_bl, Bool.false_eq_true, if_false, f_orv, end_ret, eb_idx]
          simp
end K95

/-! The law's own reading, whole. -/
namespace K95
open PyE PyX PyL
theorem tw_digs (t : Txt) : PySem.NumText.AllDigits (t.takeWhile fun c => decide (c ∈ dg)) := by
  intro c hc
  have := mem_tw hc
  simp only [decide_eq_true_eq, List.mem_cons, List.not_mem_nil, or_false] at this
  omega
theorem bads_zero {b : Txt} (h : ∀ c ∈ b, c ∈ dg) : bads b = 0 := by
  unfold bads
  rw [List.length_eq_zero_iff, List.filter_eq_nil_iff]
  intro c hc
  rw [decide_eq_true (h c hc)]
  decide
theorem int_neg {ds : Txt} (h : PySem.NumText.AllDigits ds) (h1 : 1 ≤ ds.length) (h2 : ds.length ≤ 60) (s : Store) : bltD s .int [.str (45 :: ds)] = some (.int (-dv ds)) := by
  have e : PySem.intText? ⟨(45 :: ds).toArray⟩ = some (-dv ds) := by
    have := PySem.intText_neg (x := ⟨(45 :: ds).toArray⟩) (cs := ds) (by simp) h (by intro e; rw [e] at h1; simp at h1) (by show (45 :: ds).toArray.size ≤ 4300; simp; omega)
    simpa [dv] using this
  show (if (45 :: ds).length ≤ 640 then (PySem.intText? ⟨(45 :: ds).toArray⟩).map D.int else none) = _
  rw [if_pos (by simp; omega), e]
  rfl
theorem num_law {z : Txt} {i c : Nat} {t : Txt} (h : z.drop i = c :: t) (s : Store) :
    (wh (c :: t.takeWhile fun c => decide (c ∈ dg)) = true ∧ ∃ v, numP z i = some (.int v, i + 1 + (t.takeWhile fun c => decide (c ∈ dg)).length) ∧ bltD s .int [.str (c :: t.takeWhile fun c => decide (c ∈ dg))] = some (.int v)) ∨
    (wh (c :: t.takeWhile fun c => decide (c ∈ dg)) = false ∧ numP z i = none) := by
  have hd := tw_digs t
  have hall : ∀ x ∈ t.takeWhile fun c => decide (c ∈ dg), x ∈ dg := fun x hx => by simpa using mem_tw hx
  have r1 : runL dg z (i + 1) = t.takeWhile fun c => decide (c ∈ dg) := by rw [runL, drop_next h]
  have r0 : runL dg z i = (c :: t).takeWhile fun c => decide (c ∈ dg) := by rw [runL, h]
  generalize e : (t.takeWhile fun c => decide (c ∈ dg)) = ds at *
  by_cases hc : c = 45
  · subst hc
    have b : bodyOf (45 :: ds) = ds := rfl
    rw [numP, if_pos (nx_drop h), r1]
    unfold wh
    rw [b, bads_zero hall]
    by_cases q : 1 ≤ ds.length ∧ ds.length ≤ 60 ∧ ¬ (ds.head? = some 48 ∧ (1 < ds.length ∨ true = true))
    · refine .inl ⟨?_, -dv ds, ?_, int_neg hd q.1 q.2.1 s⟩
      · cases ds with
        | nil => exact absurd q.1 (by simp)
        | cons x r =>
          have q2 : ¬ 60 < (x :: r).length := by have := q.2.1; omega
          have q3 : ¬ x = 48 := fun e => q.2.2 ⟨by rw [e]; rfl, .inr rfl⟩
          simp [q2, q3]
          have := q.2.1
          simp at this
          omega
      · rw [numQ, if_pos q]
        rfl
    · refine .inr ⟨?_, by rw [numQ, if_neg q]⟩
      cases ds with
      | nil => rfl
      | cons x r =>
        by_cases q2 : 60 < (x :: r).length
        · simp [q2]
          intro z1
          simp at q2
          omega
        · have q3 : x = 48 := by
            by_cases e : x = 48
            · exact e
            · exact absurd ⟨by simp, by omega, fun z => e (by simpa using z.1)⟩ q
          subst q3
          simp
  · by_cases hg : c ∈ dg
    · have r : (c :: t).takeWhile (fun c => decide (c ∈ dg)) = c :: ds := by
        rw [List.takeWhile_cons_of_pos (by simpa using hg), e]
      rw [r] at r0
      have b : bodyOf (c :: ds) = c :: ds := by
        rw [bodyOf, if_neg]
        simpa [nx] using hc
      have hall2 : ∀ x ∈ c :: ds, x ∈ dg := fun x hx => by
        rcases List.mem_cons.mp hx with e | hx
        · rw [e]; exact hg
        · exact hall x hx
      have ne : ¬ nx z i = [45] := by
        rw [nx_drop h]
        simpa using hc
      rw [numP, if_neg ne, r0]
      unfold wh
      rw [b, bads_zero hall2]
      have hd2 : PySem.NumText.AllDigits (c :: ds) := fun x hx => by
        have := hall2 x hx
        simp only [List.mem_cons, List.not_mem_nil, or_false] at this
        omega
      by_cases q : 1 ≤ (c :: ds).length ∧ (c :: ds).length ≤ 60 ∧ ¬ ((c :: ds).head? = some 48 ∧ (1 < (c :: ds).length ∨ false = true))
      · refine .inl ⟨?_, dv (c :: ds), ?_, int_run hd2 q.1 q.2.1 s⟩
        · have q2 : ¬ 60 < (c :: ds).length := by have := q.2.1; omega
          have q4 : ((c :: ds) == []) = false := rfl
          rw [q4, decide_eq_false q2]
          by_cases e : c = 48
          · subst e
            have q3 : ds = [] := by
              cases ds with
              | nil => rfl
              | cons x r => exact absurd ⟨rfl, .inl (by simp)⟩ q.2.2
            subst q3
            rfl
          · simp [e]
        · rw [numQ, if_pos q]
          refine congrArg some (congrArg (Prod.mk _) ?_)
          rw [List.length_cons]
          omega
      · refine .inr ⟨?_, by rw [numQ, if_neg q]⟩
        by_cases q2 : 60 < (c :: ds).length
        · rw [decide_eq_true q2, Bool.true_or, Bool.or_true]
          rfl
        · have q3 : c = 48 ∧ 1 < (c :: ds).length := by
            by_cases e : c = 48
            · refine ⟨e, ?_⟩
              by_cases e2 : 1 < (c :: ds).length
              · exact e2
              · exact absurd ⟨by simp, by omega, fun z => z.2.elim e2 (fun z => by cases z)⟩ q
            · exact absurd ⟨by simp, by omega, fun z => e (by simpa using z.1)⟩ q
          obtain ⟨q3, q4⟩ := q3
          subst q3
          cases ds with
          | nil => simp at q4
          | cons x r => simp
    · have r : (c :: t).takeWhile (fun c => decide (c ∈ dg)) = [] := List.takeWhile_cons_of_neg (by simpa using hg)
      rw [r] at r0
      have b : bodyOf (c :: ds) = c :: ds := by
        rw [bodyOf, if_neg]
        simpa [nx] using hc
      have ne : ¬ nx z i = [45] := by
        rw [nx_drop h]
        simpa using hc
      have hb : 0 < bads (c :: ds) := by
        unfold bads
        rw [List.filter_cons_of_pos (by rw [decide_eq_false hg]; rfl)]
        simp
      refine .inr ⟨?_, ?_⟩
      · unfold wh
        rw [b, decide_eq_true hb, Bool.or_true, Bool.or_true]
        rfl
      · rw [numP, if_neg ne, r0]
        rfl
end K95

/-! The law's own reading answers as the reader does. -/
namespace K95
open PyE PyX PyL
abbrev t1 : PyE.T := (.and (.tru (.cmp .lt (.var 5) (.blt .len (.cons (.var 0) .nil)))) (.tru (.call 16 (.cons (.idx (.var 0) (.var 5)) .nil))))
abbrev t2 : PyE.T := (.and (.tru (.cmp .lt (.var 5) (.blt .len (.cons (.var 0) .nil)))) (.tru (.cmp .inn (.idx (.var 0) (.var 5)) (.con (.str [48, 49, 50, 51, 52, 53, 54, 55, 56, 57])))))
abbrev bump : S := (.asg (.name 5) (.bin .add (.var 5) (.con (.int 1))))
abbrev strB : S := (.seq (.asg (.name 5) (.bin .add (.var 1) (.con (.int 1))))
  (.seq (.while t1 bump)
  (.ret (.ite (.and (.tru (.cmp .lt (.var 5) (.blt .len (.cons (.var 0) .nil)))) (.tru (.cmp .eq (.idx (.var 0) (.var 5)) (.con (.str [34]))))) (.tup (.cons (.slc (.var 0) (.some (.bin .add (.var 1) (.con (.int 1)))) (.some (.var 5))) (.cons (.bin .add (.var 5) (.con (.int 1))) .nil))) (.con .non)))))
abbrev numB : S := (.seq (.asg (.name 5) (.bin .add (.var 1) (.con (.int 1))))
  (.seq (.while t2 bump)
  (.ret (.ite (.tru (.call 17 (.cons (.slc (.var 0) (.some (.var 1)) (.some (.var 5))) .nil))) (.tup (.cons (.blt .int (.cons (.slc (.var 0) (.some (.var 1)) (.some (.var 5))) .nil)) (.cons (.var 5) .nil))) (.con .non)))))
abbrev loopB : S := (.seq (.asg (.name 6) (.call 18 (.cons (.var 0) (.cons (.var 4) (.cons (.bin .sub (.var 2) (.con (.int 1))) .nil)))))
  (.seq (.ite (.tru (.cmp .is (.var 6) (.con .non))) (.ret (.con .non)) .skip)
  (.seq (.asg (.name 3) (.bin .add (.var 3) (.tup (.cons (.idx (.var 6) (.con (.int 0))) .nil))))
  (.seq (.asg (.name 4) (.idx (.var 6) (.con (.int 1))))
  (.seq (.ite (.tru (.cmp .eq (.slc (.var 0) (.some (.var 4)) (.some (.bin .add (.var 4) (.con (.int 1))))) (.con (.str [93])))) (.ret (.tup (.cons (.var 3) (.cons (.bin .add (.var 4) (.con (.int 1))) .nil)))) .skip)
  (.seq (.ite (.tru (.cmp .ne (.slc (.var 0) (.some (.var 4)) (.some (.bin .add (.var 4) (.con (.int 1))))) (.con (.str [32])))) (.ret (.con .non)) .skip)
  (.asg (.name 4) (.bin .add (.var 4) (.con (.int 1))))))))))
theorem b18_eq : b18 = (.seq (.ite (.tru (.cmp .ge (.var 1) (.blt .len (.cons (.var 0) .nil)))) (.ret (.con .non)) .skip)
  (.seq (.ite (.tru (.cmp .eq (.idx (.var 0) (.var 1)) (.con (.str [34])))) strB .skip)
  (.seq (.ite (.tru (.cmp .ne (.idx (.var 0) (.var 1)) (.con (.str [91])))) numB .skip)
  (.seq (.ite (.tru (.cmp .eq (.var 2) (.con (.int 0)))) (.ret (.con .non)) .skip)
  (.seq (.ite (.tru (.cmp .eq (.slc (.var 0) (.some (.bin .add (.var 1) (.con (.int 1)))) (.some (.bin .add (.var 1) (.con (.int 2))))) (.con (.str [93])))) (.ret (.tup (.cons (.tup .nil) (.cons (.bin .add (.var 1) (.con (.int 2))) .nil)))) .skip)
  (.seq (.asg (.name 3) (.tup .nil))
  (.seq (.asg (.name 4) (.bin .add (.var 1) (.con (.int 1))))
  (.while (.tru (.con (.bl true))) loopB)))))))) := rfl
theorem cut_two (z : Txt) (i : Nat) : cut z (some ((i : Int) + 1)) (some ((i : Int) + 2)) = nx z (i + 1) := by
  have := cut_nat z (i + 1) (i + 2)
  rw [show ((i + 1 : Nat) : Int) = (i : Int) + 1 from rfl, show ((i + 2 : Nat) : Int) = (i : Int) + 2 from rfl] at this
  rw [this, show i + 2 - (i + 1) = 1 by omega]
  rfl
section
variable {z : Txt} (hz : z.length + 1 ≤ SZ) (cl : Nat → List D → Store → Res D) (ro : Nat → Bool) (s : Store)
include hz
theorem law_str (hl : ∀ c, cl 16 [.str [c]] s = .ok (.bl (decide (c ∈ sg))) s) (x2 : D) (i : Nat) (hw : z.length < WF) :
    evS cl ro strB [.sh (.str z), .sh (.int i), .sh x2, .no, .no, .no, .no] s = .ok (.ret false (tkD (strP z i))) s := by
  have hz1 : z.length ≤ SZ := by omega
  have l := end_loop cl ro [] t1 sg s z (.int i) x2 (fun _ => rfl) (fun e h => by
      have : ¬ ((e : Int) < (z.length : Int)) := by have := drop_ge h; omega
      simp [t1, ln_str hz1, this]) (fun e c t h => by
      have : ((e : Int) < (z.length : Int)) := by have := drop_lt h; omega
      simp only [t1, x_and, x_tru, x_cmp, x_var, x_blt, x_cons, x_nil, g_s, g_0, bind_ok2, ln_str hz1, ofO_some2, c_lt, this, Option.map, t_bl, decide_true, if_true, x_call, x_idx, idx_str hz1 h, hl]) (z.drop (i + 1)) (i + 1) WF rfl (by simp; omega)
  have c := cut_run sg z (i + 1)
  change _ = Res.ok (Flow.nx [_, _, _, _, _, Sl.own (D.int (i + 1 + (runL sg z (i + 1)).length : Nat)), _]) _ at l
  simp only [strP]
  generalize (runL sg z (i + 1)).length = n at *
  generalize e : i + 1 + n = en at *
  have l' := l
  rw [show ((i + 1 : Nat) : Int) = (i : Int) + 1 from rfl] at l' c
  cases d : z.drop en with
  | nil =>
    have ge := drop_ge d
    have ne : ¬ nx z en = [34] := by rw [nx_nil d]; decide
    have : ¬ ((en : Int) < (z.length : Int)) := by omega
    rw [if_neg ne]
    simp only [strB, y_seq, y_while]
    simp [l', ln_str hz1, this, tkD]
  | cons x t =>
    have lt := drop_lt d
    have : ((en : Int) < (z.length : Int)) := by omega
    have ix := idx_str hz1 d s
    rw [nx_drop d]
    have two : ∀ a b : D, ([a, b] : List D).length ≤ SZ := fun a b => by show 2 ≤ SZ; decide
    by_cases q : x = 34
    · subst q
      rw [if_pos rfl]
      simp only [strB, y_seq, y_while]
      simp [l', ln_str hz1, this, ix, sl_str hz1, c, tkD, tupR_ok (two _ _)]
    · rw [if_neg (by simpa using q)]
      simp only [strB, y_seq, y_while]
      simp [l', ln_str hz1, this, ix, q, tkD]
theorem law_num (hl : ∀ tok : Txt, tok.length ≤ SZ → cl 17 [.str tok] s = .ok (.bl (wh tok)) s) (x2 : D) (i c : Nat) (t : Txt) (h : z.drop i = c :: t) (hw : z.length < WF) :
    evS cl ro numB [.sh (.str z), .sh (.int i), .sh x2, .no, .no, .no, .no] s = .ok (.ret false (tkD (numP z i))) s := by
  have hz1 : z.length ≤ SZ := by omega
  have l := end_loop cl ro [] t2 dg s z (.int i) x2 (fun _ => rfl) (fun e h => by
      have : ¬ ((e : Int) < (z.length : Int)) := by have := drop_ge h; omega
      simp [t2, ln_str hz1, this]) (fun e c t h => by
      have : ((e : Int) < (z.length : Int)) := by have := drop_lt h; omega
      simp only [t2, x_and, x_tru, x_cmp, x_var, x_con, x_blt, x_cons, x_nil, g_s, g_0, bind_ok2, ln_str hz1, ofO_some2, c_lt, this, Option.map, t_bl, decide_true, if_true, x_idx, idx_str hz1 h, c_in1]) t (i + 1) WF (drop_next h) (by have := drop_lt h; have e := congrArg List.length h; simp at e; omega)
  have nl := num_law h s
  have tl : (t.takeWhile fun c => decide (c ∈ dg)).length ≤ t.length := (List.takeWhile_sublist _).length_le
  have tp := List.prefix_iff_eq_take.mp (List.takeWhile_prefix (l := t) fun c => decide (c ∈ dg))
  have lt := congrArg List.length h
  simp only [List.length_drop, List.length_cons] at lt
  generalize (t.takeWhile fun c => decide (c ∈ dg)) = ds at *
  have c1 : cut z (some (i : Int)) (some ((i + 1 + ds.length : Nat) : Int)) = c :: ds := by
    rw [cut_nat, h, show i + 1 + ds.length - i = ds.length + 1 by omega, List.take_succ_cons, ← tp]
  have tkl : (c :: ds).length ≤ SZ := by
    rw [List.length_cons]
    omega
  have w := hl (c :: ds) tkl
  have two : ∀ a b : D, ([a, b] : List D).length ≤ SZ := fun a b => by show 2 ≤ SZ; decide
  generalize e : i + 1 + ds.length = en at *
  have l' := l
  rw [show ((i + 1 : Nat) : Int) = (i : Int) + 1 from rfl] at l'
  rcases nl with ⟨n1, v, n2, n3⟩ | ⟨n1, n2⟩
  · rw [n1] at w
    rw [n2]
    simp only [numB, y_seq, y_while]
    simp [l', sl_str hz1, c1, w, n3, tkD, tupR_ok (two _ _)]
  · rw [n1] at w
    rw [n2]
    simp only [numB, y_seq, y_while]
    simp [l', sl_str hz1, c1, w, tkD]
theorem law_loop (r18 : ro 18 = false) (k : Nat) (f : Nat → Option (D × Nat)) (hv : ∀ i : Nat, cl 18 [.str z, .int i, .int k] s = .ok (tkD (f i)) s) (hf : Step z f) (x1 : D) : ∀ (n here : Nat) (acc : List D) (x6 : Sl) (N : Nat), here ≤ z.length → z.length < here + n → n ≤ N → acc.length ≤ here → (x6 = .no ∨ ∃ d, x6 = .sh d) → ∀ x4 : Sl, (x4 = .sh (.int here) ∨ x4 = .own (.int here)) → ∀ x3 : Sl, (x3 = .sh (.tup acc) ∨ x3 = .own (.tup acc)) →
      whileF [] (evT cl (.tru (.con (.bl true)))) (evS cl ro loopB) N [.sh (.str z), .sh x1, .sh (.int (k + 1 : Nat)), x3, x4, .no, x6] s = .ok (.ret false (tkD (match f here with
        | none => none
        | some (d, j) => ploop f z n j (acc ++ [d])))) s
  | 0, here, acc, x6, N, h1, h2, _, _, _, _, _, _, _ => absurd h2 (by omega)
  | n + 1, here, acc, x6, 0, _, _, h3, _, _, _, _, _, _ => absurd h3 (by omega)
  | n + 1, here, acc, x6, N + 1, h1, h2, h3, h4, h6, x4, hx4, x3, hx3 => by
    have hz1 : z.length ≤ SZ := by omega
    have hvj := hv here
    cases e : f here with
    | none =>
      rw [e] at hvj
      rcases hx4 with rfl | rfl <;> rcases hx3 with rfl | rfl <;> rcases h6 with rfl | ⟨d6, rfl⟩ <;> simp [whileF, loopB, hvj, tkD, r18]
    | some dj =>
      obtain ⟨d, j⟩ := dj
      rw [e] at hvj
      change _ = Res.ok (D.tup [d, .int j]) s at hvj
      have a := hf _ _ _ e
      have o1 : ([d] : List D).length ≤ SZ := by show 1 ≤ SZ; decide
      have two : ∀ a b : D, ([a, b] : List D).length ≤ SZ := fun a b => by show 2 ≤ SZ; decide
      have ad : binD .add (.tup acc) (.tup [d]) = some (.tup (acc ++ [d])) := if_pos (by show acc.length + 1 ≤ SZ; omega)
      have body : ∀ (y3 y4 y6 : Sl), (y3 = .sh (.tup acc) ∨ y3 = .own (.tup acc)) → (y4 = .sh (.int here) ∨ y4 = .own (.int here)) → (y6 = .no ∨ ∃ d, y6 = .sh d) →
        evS cl ro loopB [.sh (.str z), .sh x1, .sh (.int (k + 1 : Nat)), y3, y4, .no, y6] s = if nx z j = [93] then .ok (.ret false (.tup [.tup (acc ++ [d]), .int (j + 1 : Nat)])) s else if nx z j = [32] then .ok (.nx [.sh (.str z), .sh x1, .sh (.int (k + 1 : Nat)), .own (.tup (acc ++ [d])), .own (.int (j + 1 : Nat)), .no, .sh (.tup [d, .int j])]) s else .ok (.ret false .non) s := fun y3 y4 y6 k3 k4 k6 => by
        by_cases q : nx z j = [93]
        · rw [if_pos q]
          rcases k4 with rfl | rfl <;> rcases k3 with rfl | rfl <;> rcases k6 with rfl | ⟨d6, rfl⟩ <;> simp [loopB, r18, hvj, tupR_ok o1, ad, sl_str hz1, cut_one, q, tupR_ok (two _ _)]
        · rw [if_neg q]
          by_cases q2 : nx z j = [32]
          · rw [if_pos q2]
            rcases k4 with rfl | rfl <;> rcases k3 with rfl | rfl <;> rcases k6 with rfl | ⟨d6, rfl⟩ <;> simp [loopB, r18, hvj, tupR_ok o1, ad, sl_str hz1, cut_one, q2]
          · rw [if_neg q2]
            rcases k4 with rfl | rfl <;> rcases k3 with rfl | rfl <;> rcases k6 with rfl | ⟨d6, rfl⟩ <;> simp [loopB, r18, hvj, tupR_ok o1, ad, sl_str hz1, cut_one, q, q2]
      have b := body x3 x4 x6 hx3 hx4 h6
      by_cases q : nx z j = [93]
      · rw [if_pos q] at b
        simp only [whileF, share_nil, x_tru, x_con, bind_ok2, t_bl, ofO_some2, if_true, b, ploop, if_pos q, tkD]
      · rw [if_neg q] at b
        by_cases q2 : nx z j = [32]
        · rw [if_pos q2] at b
          have hj := nx_lt q2
          have ih := law_loop r18 k f hv hf x1 n (j + 1) (acc ++ [d]) (.sh (.tup [d, .int j])) N (by omega) (by omega) (by omega) (by simp; omega) (.inr ⟨_, rfl⟩) (.own (.int (j + 1 : Nat))) (.inr rfl) (.own (.tup (acc ++ [d]))) (.inr rfl)
          simp only [whileF, share_nil, x_tru, x_con, bind_ok2, t_bl, ofO_some2, if_true, b, ploop, if_neg q, if_pos q2, ih]
          try rfl
        · rw [if_neg q2] at b
          simp only [whileF, share_nil, x_tru, x_con, bind_ok2, t_bl, ofO_some2, if_true, b, ploop, if_neg q, if_neg q2, tkD]
end
end K95

/-! Both readings of a text agree. -/
namespace K95
open PyE PyX PyL
theorem pv_end {z : Txt} {i : Nat} (h : z.drop i = []) (k : Nat) : pv z k i = none := by
  have n : nx z i = [] := nx_nil h
  have u : numP z i = none := by
    rw [numP, n, if_neg (by decide), runL, h]
    rfl
  cases k <;> rw [pv, n, if_neg (by decide), if_neg (by decide), u]
section
variable {z : Txt} (hz : z.length + 1 ≤ SZ) (hw : z.length + 1 ≤ WF) (s : Store)
include hz hw
theorem taken_body (cl : Nat → List D → Store → Res D) (ro : Nat → Bool) (r18 : ro 18 = false) (k : Nat) (h16 : ∀ c, cl 16 [.str [c]] s = .ok (.bl (decide (c ∈ sg))) s) (h17 : ∀ tok : Txt, tok.length ≤ SZ → cl 17 [.str tok] s = .ok (.bl (wh tok)) s)
    (hv : ∀ k', k = k' + 1 → ∀ i : Nat, cl 18 [.str z, .int i, .int k'] s = .ok (tkD (pv z k' i)) s) (i : Nat) :
    endR false (evS cl ro b18 [.sh (.str z), .sh (.int i), .sh (.int k), .no, .no, .no, .no] s) = .ok (tkD (pv z k i)) s := by
  have hz1 : z.length ≤ SZ := by omega
  have two : ∀ a b : D, ([a, b] : List D).length ≤ SZ := fun a b => by show 2 ≤ SZ; decide
  have nil0 : ([] : List D).length ≤ SZ := by show 0 ≤ SZ; decide
  rw [b18_eq]
  cases d : z.drop i with
  | nil =>
    have ge := drop_ge d
    have : ((z.length : Int) ≤ (i : Int)) := by omega
    rw [pv_end d]
    simp [ln_str hz1, this, tkD]
  | cons c t =>
    have lt := drop_lt d
    have n1 : ¬ ((z.length : Int) ≤ (i : Int)) := by omega
    have ix := idx_str hz1 d s
    have nxe := nx_drop d
    by_cases q : c = 34
    · subst q
      have l := law_str hz cl ro s h16 (.int k) i (by omega)
      have e : pv z k i = strP z i := by cases k <;> rw [pv, nxe, if_pos rfl]
      rw [e]
      generalize strB = sb at *
      simp [ln_str hz1, n1, ix, l]
    · by_cases q2 : c = 91
      · subst q2
        cases k with
        | zero =>
          have e : pv z 0 i = none := by rw [pv, nxe, if_neg (by decide), if_pos rfl]
          rw [e]
          simp [ln_str hz1, n1, ix, tkD]
        | succ k =>
          have e : pv z (k + 1) i = parP (pv z k) z (i + 1) := by rw [pv, nxe, if_neg (by decide), if_pos rfl]
          rw [e]
          have k0 : ¬ ((k : Int) + 1 = 0) := by omega
          by_cases q3 : nx z (i + 1) = [93]
          · rw [parP, if_pos q3]
            simp only [Int.natCast_add, Int.cast_ofNat_Int]
            simp [ln_str hz1, n1, ix, k0, sl_str hz1, cut_two, q3, tkD, tupR_ok (two _ _), tupR_ok nil0]
            omega
          · rw [parP, if_neg q3]
            have l := law_loop hz cl ro s r18 k (pv z k) (hv k rfl) (pv_step z k) (.int i) (z.length + 1) (i + 1) [] .no WF (by omega) (by omega) hw (by simp) (.inl rfl) (.own (.int (i + 1 : Nat))) (.inr rfl) (.sh (.tup [])) (.inl rfl)
            simp only [Int.natCast_add, Int.cast_ofNat_Int] at l ⊢
            simp only [y_seq, y_while]
            simp [ln_str hz1, n1, ix, k0, sl_str hz1, cut_two, q3, tupR_ok nil0]
            rw [l]
            cases pv z k (i + 1) <;> rfl
      · have l := law_num hz cl ro s h17 (.int k) i c t d (by omega)
        have e : pv z k i = numP z i := by cases k <;> rw [pv, nxe, if_neg (by simpa using q), if_neg (by simpa using q2)]
        rw [e]
        generalize numB = sb at *
        simp [ln_str hz1, n1, ix, q, q2, l]
theorem taken_ok (m : Nat) : ∀ (k i : Nat), callF fs (m + k + 2) 18 [.str z, .int i, .int k] s = .ok (tkD (pv z k i)) s
  | k, i => by
    rw [call_eq (fn := f18) rfl rfl]
    show endR false (evS (callF fs (m + k + 1)) (roOf fs) b18 [.sh (.str z), .sh (.int i), .sh (.int k), .no, .no, .no, .no] s) = _
    refine taken_body hz hw s _ _ rfl k (fun c => letter_ok (m + k) c s) (fun tok h => whole_ok (m + k) tok h s) (fun k' e i => ?_) i
    subst e
    exact taken_ok m k' i
end
theorem lread_ok (z : Txt) (hz : z.length ≤ 100000) (s : Store) (m : Nat) : callF fs (m + 83) 19 [.str z] s = .ok (told z) s := by
  have big : 100001 ≤ SZ ∧ 100001 ≤ WF := by decide
  have hz1 : z.length ≤ SZ := by omega
  have e := taken_ok (z := z) (by omega) (by omega) s m 80 0
  rw [call_eq (fn := f19) rfl rfl]
  show endR false (evS (callF fs (m + 82)) (roOf fs) b19 [.sh (.str z), .no] s) = _
  have e : callF fs (m + 82) 18 [.str z, .int 0, .int 80] s = .ok (tkD (pv z 80 0)) s := e
  have r18 : roOf fs 18 = false := rfl
  have o1 : ∀ d : D, ([d] : List D).length ≤ SZ := fun d => by show 1 ≤ SZ; decide
  generalize callF fs (m + 82) = cl at *
  unfold told
  cases q : pv z 80 0 with
  | none =>
    rw [q] at e
    simp [b19, e, tkD, r18]
  | some dj =>
    obtain ⟨d, j⟩ := dj
    rw [q] at e
    by_cases q2 : j = z.length
    · have : ((j : Int) == (z.length : Int)) = true := by simp [q2]
      simp [b19, e, tkD, r18, ln_str hz1, q2, lstR_ok (o1 d)]
    · have h : ¬ ((j : Int) = (z.length : Int)) := by omega
      simp [b19, e, tkD, r18, ln_str hz1, q2, h]
theorem told_sim (z : Txt) (hz : z.length ≤ 100000) : sim 81 (told z) = true := by
  have big : 100001 ≤ SZ ∧ 100001 ≤ WF := by decide
  unfold told
  cases q : pv z 80 0 with
  | none => rfl
  | some dj =>
    obtain ⟨d, j⟩ := dj
    show sim 81 (if j = z.length then D.lst [d] else D.non) = true
    split
    · have := pv_sim (z := z) (by omega) 80 0 d j q
      simp only [sim, Bool.and_eq_true, decide_eq_true_eq]
      exact ⟨by show 1 ≤ SZ; decide, by simp [this]⟩
    · rfl
end K95

/-! The texts that the law makes. -/
namespace K95
open PyE PyX PyL
theorem compF_inv {f : D → Store → Res (Option D)} {P : D → Prop} {I : Store → Prop} : ∀ {xs : List D}, (∀ x ∈ xs, ∀ s, I s → ∃ d s', f x s = .ok (some d) s' ∧ P d ∧ I s') → ∀ {s : Store}, I s → ∃ ds s', compF f xs s = .ok ds s' ∧ ds.length = xs.length ∧ (∀ d ∈ ds, P d) ∧ I s'
  | [], _, s, i => ⟨[], s, rfl, rfl, fun _ h => absurd h (by simp), i⟩
  | x :: xs, h, s, i => by
    obtain ⟨d, s1, e1, p, i1⟩ := h x List.mem_cons_self s i
    obtain ⟨ds, s2, e2, l, ps, i2⟩ := compF_inv (fun y hy => h y (List.mem_cons_of_mem _ hy)) i1
    refine ⟨d :: ds, s2, ?_, by simp [l], fun y hy => ?_, i2⟩
    · simp only [compF, e1, bind_ok2, e2]
    · rcases List.mem_cons.mp hy with rfl | hy
      · exact p
      · exact ps y hy
theorem dr (m : Nat) {rest s : Store} {many : Int} (hm : 0 < many) (hm2 : many < 1073741824) (hp : Pool rest s) : ∃ v s', callF fs (m + 2) 11 [.ref 0, .int many] s = .ok (.int v) s' ∧ 0 ≤ v ∧ v < many ∧ Pool rest s' :=
  draw_ok (fs := fs) (i := 11) (sp := 10) rfl rfl hm hm2 hp
/-! numbers as texts -/
theorem str_len (x : String) : (PySem.Str.ofString x).cps.toList.length = x.toList.length := by
  rw [PySem.Str.ofString_eq_toList]
  simp
theorem int_text (i : Int) (h : i.natAbs < 10 ^ 61) (s : Store) : ∃ z, bltD s .str [.int i] = some (.str z) ∧ z.length ≤ 62 := by
  have l : i.natAbs.log2 < 1920 := by
    by_cases h0 : i.natAbs = 0
    · rw [h0]
      decide
    · rw [Nat.log2_lt h0]
      exact Nat.lt_of_lt_of_le (Nat.lt_trans h (show 10 ^ 61 < 2 ^ 203 by decide)) (Nat.pow_le_pow_right (by decide) (by decide))
  refine ⟨(PySem.Str.ofString (toString i)).cps.toList, if_pos l, ?_⟩
  cases i with
  | ofNat n =>
    have e := TL.tl_num n
    have := TL.numL_len (n := n) (k := 61) (by decide) h
    change ((PySem.Str.ofString (toString ((n : Nat) : Int))).cps.toList).length ≤ 62
    have e2 : (PySem.Str.ofString (toString ((n : Nat) : Int))).cps.toList = TL.numL n := e
    rw [e2]
    omega
  | negSucc n =>
    have := TL.numL_len (n := n + 1) (k := 61) (by decide) h
    rw [str_len]
    change (("-" ++ Nat.repr (n + 1)) : String).toList.length ≤ 62
    rw [String.toList_append, List.length_append]
    have e : (Nat.repr (n + 1)).toList = Nat.toDigits 10 (n + 1) := by
      simp [Nat.repr]
    rw [e]
    simp only [TL.numL, List.length_map] at this
    change 1 + _ ≤ _
    omega
/-- what the law's values are -/
def VD : Nat → D → Prop
  | _, .int v => v.natAbs < 10 ^ 61
  | _, .str z => z.length ≤ 11
  | n + 1, .tup ds => ds.length ≤ 3 ∧ ∀ d ∈ ds, VD n d
  | _, _ => False
theorem VD_int {n : Nat} {v : Int} (h : v.natAbs < 10 ^ 61) : VD n (.int v) := by
  cases n <;> exact h
theorem VD_str {n : Nat} {z : Txt} (h : z.length ≤ 11) : VD n (.str z) := by
  cases n <;> exact h
abbrev words : List D := [.str [88, 73, 86], .str [120], .str [], .str [111, 110, 101, 32, 104, 117, 110, 100, 114, 101, 100], .str [32], .str [97, 90]]
theorem pick_words (m : Nat) {s : Store} (hp : Pool [] s) : ∃ z s', callF fs (m + 3) 12 [.ref 0, .tup words] s = .ok (.str z) s' ∧ z.length ≤ 11 ∧ Pool [] s' := by
  obtain ⟨v, s', e, h0, h1, hp'⟩ := dr m (many := 6) (by decide) (by decide) hp
  have hk : ∃ z, atD words v = some (.str z) ∧ z.length ≤ 11 := by
    have : v = 0 ∨ v = 1 ∨ v = 2 ∨ v = 3 ∨ v = 4 ∨ v = 5 := by omega
    rcases this with rfl | rfl | rfl | rfl | rfl | rfl
    · exact ⟨_, rfl, by decide⟩
    · exact ⟨_, rfl, by decide⟩
    · exact ⟨_, rfl, by decide⟩
    · exact ⟨_, rfl, by decide⟩
    · exact ⟨_, rfl, by decide⟩
    · exact ⟨_, rfl, by decide⟩
  obtain ⟨z, hk, hz⟩ := hk
  refine ⟨z, s', ?_, hz, hp'⟩
  rw [call_eq (fn := f12) rfl rfl]
  show endR false (evS (callF fs (m + 2)) (roOf fs) b12 [.sh (.ref 0), .sh (.tup words)] s) = _
  generalize callF fs (m + 2) = cl at *
  simp only [b12, y_ret, vo_idx, e_esc, tv_idx, eb_idx, eb_var, eb_call, es_cons, es_nil, tv_var, tv_blt, eb_blt, ebs_cons, ebs_nil, List.nil_append, List.append_nil, share_cons, share_nil, sh_0, sh_s, ts_sh, x_idx, x_var, g_s, g_0, bind_ok2, x_call, x_cons, x_nil, x_blt, l_tup, ofO_some2, f_idx]
  have e' : cl 11 [.ref 0, .int (words.length : Int)] s = .ok (.int v) s' := e
  simp only [e', bind_ok2, i_tup, hk, ofO_some2, end_ret]
theorem tup_draw (v1 v2 v3 : Int) (h1 : 0 ≤ v1) (h1' : v1 < 21) (h2 : 0 ≤ v2) (h2' : v2 < 2000000) (h3 : 0 ≤ v3) (h3' : v3 < 5) : ∃ v : Int, atD [D.int (v1 - 10), .int (v2 - 1000000), .int (10 ^ 60 - 1), .int (1 - 10 ^ 60), .int (-(10 ^ 20))] v3 = some (.int v) ∧ v.natAbs < 10 ^ 61 := by
  have : v3 = 0 ∨ v3 = 1 ∨ v3 = 2 ∨ v3 = 3 ∨ v3 = 4 := by omega
  rcases this with rfl | rfl | rfl | rfl | rfl
  · exact ⟨_, rfl, by omega⟩
  · exact ⟨_, rfl, by omega⟩
  · exact ⟨_, rfl, by decide⟩
  · exact ⟨_, rfl, by decide⟩
  · exact ⟨_, rfl, by decide⟩
abbrev vleaf : S := .ret (.idx (.tup (.cons (.bin .sub (.call 11 (.cons (.var 0) (.cons (.con (.int 21)) .nil))) (.con (.int 10))) (.cons (.bin .sub (.call 11 (.cons (.var 0) (.cons (.con (.int 2000000)) .nil))) (.con (.int 1000000))) (.cons (.bin .sub (.bin .pow (.con (.int 10)) (.con (.int 60))) (.con (.int 1))) (.cons (.bin .sub (.con (.int 1)) (.bin .pow (.con (.int 10)) (.con (.int 60)))) (.cons (.neg (.bin .pow (.con (.int 10)) (.con (.int 20)))) .nil)))))) (.call 11 (.cons (.var 0) (.cons (.con (.int 5)) .nil))))
theorem leaf_ok (m : Nat) (ro : Nat → Bool) {s : Store} (hp : Pool [] s) (x1 x2 x3 : Sl) : ∃ v s', evS (callF fs (m + 2)) ro vleaf [.sh (.ref 0), x1, x2, x3] s = .ok (.ret false (.int v)) s' ∧ v.natAbs < 10 ^ 61 ∧ Pool [] s' := by
  obtain ⟨v1, s1, e1, a1, b1, p1⟩ := dr m (many := 21) (by decide) (by decide) hp
  obtain ⟨v2, s2, e2, a2, b2, p2⟩ := dr m (many := 2000000) (by decide) (by decide) p1
  obtain ⟨v3, s3, e3, a3, b3, p3⟩ := dr m (many := 5) (by decide) (by decide) p2
  obtain ⟨v, e, h⟩ := tup_draw v1 v2 v3 a1 b1 a2 b2 a3 b3
  refine ⟨v, s3, ?_, h, p3⟩
  generalize callF fs (m + 2) = cl at *
  have w1 : binD .pow (.int 10) (.int 60) = some (.int (10 ^ 60)) := by kernel_rfl
  have w2 : binD .pow (.int 10) (.int 20) = some (.int (10 ^ 20)) := by kernel_rfl
  have five : ∀ a b c d e : D, ([a, b, c, d, e] : List D).length ≤ SZ := fun _ _ _ _ _ => by show 5 ≤ SZ; decide
  simp only [vleaf, y_ret, vo_idx, e_esc, tv_idx, eb_idx, eb_var, eb_call, eb_tup, eb_bin, eb_neg, eb_con, es_cons, es_nil, tv_var, tv_con, tv_bin, tv_neg, tv_call, List.nil_append, List.append_nil, List.cons_append, share_cons, share_nil, sh_0, sh_s, ts_sh, x_idx, x_tup, x_var, x_con, x_bin, x_neg, g_s, g_0, bind_ok2, x_call, x_cons, x_nil, e1, e2, e3, b_sub, ofO_some2, w1, w2, as_int, Option.map, tupR_ok (five _ _ _ _ _), i_tup, e, f_idx]
theorem value_ok : ∀ (n m : Nat) (s : Store), Pool [] s → ∃ d s', callF fs (m + n + 4) 14 [.ref 0, .int n] s = .ok d s' ∧ VD n d ∧ Pool [] s'
  | n, m, s, hp => by
    rw [call_eq (fn := f14) rfl rfl]
    show ∃ d s', endR false (evS (callF fs (m + n + 3)) (roOf fs) b14 [.sh (.ref 0), .sh (.int n), .no, .no] s) = .ok d s' ∧ _
    obtain ⟨v1, s1, e1, a1, c1, p1⟩ := dr (m + n + 1) (many := 5) (by decide) (by decide) hp
    have r11 : roOf fs 11 = false := rfl
    have r12 : roOf fs 12 = false := rfl
    by_cases q : v1 < 2 ∨ n = 0
    · obtain ⟨v, s2, e2, h2, p2⟩ := leaf_ok (m + n + 1) (roOf fs) p1 (.sh (.int n)) (.sh (.int v1)) .no
      refine ⟨.int v, s2, ?_, VD_int h2, p2⟩
      simp only [vleaf] at e2
      rw [b14]
      generalize (S.ret (.idx (.tup (.cons (.bin .sub (.call 11 (.cons (.var 0) (.cons (.con (.int 21)) .nil))) (.con (.int 10))) (.cons (.bin .sub (.call 11 (.cons (.var 0) (.cons (.con (.int 2000000)) .nil))) (.con (.int 1000000))) (.cons (.bin .sub (.bin .pow (.con (.int 10)) (.con (.int 60))) (.con (.int 1))) (.cons (.bin .sub (.con (.int 1)) (.bin .pow (.con (.int 10)) (.con (.int 60)))) (.cons (.neg (.bin .pow (.con (.int 10)) (.con (.int 20)))) .nil)))))) (.call 11 (.cons (.var 0) (.cons (.con (.int 5)) .nil))))) = lf at *
      generalize callF fs (m + n + 3) = cl at *
      by_cases q1 : v1 < 2
      · simp [e1, r11, q1, e2]
      · have q2 : n = 0 := by omega
        subst q2
        simp only [Int.cast_ofNat_Int] at e2 ⊢
        simp [e1, r11, q1, e2]
    · have q1 : ¬ v1 < 2 := fun h => q (.inl h)
      have qn : ¬ n = 0 := fun h => q (.inr h)
      have q2 : ¬ ((n : Int) = 0) := fun h => q (.inr (by omega))
      by_cases q3 : v1 = 2
      · obtain ⟨z, s2, e2, hz, p2⟩ := pick_words (m + n) p1
        refine ⟨.str z, s2, ?_, VD_str hz, p2⟩
        subst q3
        have six : words.length ≤ SZ := by show 6 ≤ SZ; decide
        have tw := tupR_ok (s := s1) six
        generalize callF fs (m + n + 3) = cl at *
        simp [b14, e1, r11, r12, q2, qn, e2, tw]
      · obtain ⟨k, rfl⟩ : ∃ k, n = k + 1 := ⟨n - 1, by omega⟩
        obtain ⟨v2, s2, e2, a2, c2, p2⟩ := dr (m + (k + 1) + 1) (many := 4) (by decide) (by decide) p1
        obtain ⟨j, rfl⟩ : ∃ j : Nat, v2 = j := ⟨v2.toNat, by omega⟩
        have hr : rngOk (j : Int) = true := rngOk_in (by omega) (by omega)
        have f := compF_inv (f := turnF (callF fs (m + (k + 1) + 3)) (.call 14 (.cons (.var 0) (.cons (.bin .sub (.var 1) (.con (.int 1))) .nil))) (.name 3) .yes [.sh (.ref 0), .sh (.int (k + 1 : Nat)), .sh (.int v1), .no]) (P := VD k) (I := Pool []) (xs := rngD 0 (j : Int)) (fun x hx s hs => by
          obtain ⟨d, s', e, hd, hp'⟩ := value_ok k m s hs
          refine ⟨d, s', ?_, hd, hp'⟩
          rw [turn_eq rfl]
          have e' : callF fs (m + (k + 1) + 3) 14 [.ref 0, .int k] s = .ok d s' := e
          generalize callF fs (m + (k + 1) + 3) = cl at *
          simp only [Int.natCast_add, Int.cast_ofNat_Int]
          simp [e']) p2
        obtain ⟨ds, s3, e3, l3, h3, p3⟩ := f
        have l3' : ds.length = j := by rw [l3, rng_len]
        have c3 : evE (callF fs (m + (k + 1) + 3)) (.comp (.call 14 (.cons (.var 0) (.cons (.bin .sub (.var 1) (.con (.int 1))) .nil))) (.name 3) (.rng1 (.call 11 (.cons (.var 0) (.cons (.con (.int 4)) .nil)))) .yes [3]) [.sh (.ref 0), .sh (.int (k + 1 : Nat)), .sh (.int v1), .no] s1 = .ok (.lst ds) s3 := by
          rw [x_comp]
          simp only [x_rng1, x_call, x_cons, x_nil, x_var, x_con, g_s, g_0, bind_ok2, e2, rng1R_ok hr, w_cons, w_nil, p_s, p_0]
          exact compR_ok (Nat.le_trans (Nat.le_of_eq (rng_len j)) (le_SZ (by omega))) e3
        refine ⟨.tup ds, s3, ?_, ⟨by omega, h3⟩, p3⟩
        generalize callF fs (m + (k + 1) + 3) = cl at *
        simp only [Int.natCast_add, Int.cast_ofNat_Int] at c3 q2 ⊢
        simp [b14, e1, r11, q1, q2, q3, c3]
end K95

/-! The texts that the law makes: values as texts, garbled texts. -/
namespace K95
open PyE PyX PyL
def TL1 : Nat → Nat
  | 0 => 62
  | n + 1 => 3 * (TL1 n + 1) + 62
theorem TL1_ge (n : Nat) : 62 ≤ TL1 n := by
  cases n
  · exact Nat.le_refl _
  · simp only [TL1]
    omega
theorem strs_of {n : Nat} : ∀ {ds : List D}, (∀ d ∈ ds, ∃ z, d = .str z ∧ z.length ≤ n) → ∃ zs, strsD ds = some zs ∧ zs.length = ds.length ∧ ∀ z ∈ zs, z.length ≤ n
  | [], _ => ⟨[], rfl, rfl, fun _ h => absurd h (by simp)⟩
  | d :: ds, h => by
    obtain ⟨z, rfl, hz⟩ := h d List.mem_cons_self
    obtain ⟨zs, e, l, q⟩ := strs_of fun y hy => h y (List.mem_cons_of_mem _ hy)
    refine ⟨z :: zs, by simp only [strsD, e, Option.map], by simp [l], fun y hy => ?_⟩
    rcases List.mem_cons.mp hy with rfl | hy
    · exact hz
    · exact q y hy
theorem sum_le {n : Nat} : ∀ {zs : List Txt}, (∀ z ∈ zs, z.length ≤ n) → (zs.map (·.length)).sum ≤ zs.length * n
  | [], _ => by simp
  | z :: zs, h => by
    have a := h z List.mem_cons_self
    have b := sum_le fun y hy => h y (List.mem_cons_of_mem _ hy)
    simp only [List.map_cons, List.sum_cons, List.length_cons, Nat.succ_mul]
    omega
theorem join_le (y : Txt) : ∀ zs : List Txt, (joinL y zs).length ≤ (zs.map (·.length)).sum + zs.length * y.length
  | [] => by simp [joinL]
  | [x] => by simp [joinL]
  | x :: x2 :: r => by
    have ih := join_le y (x2 :: r)
    simp only [joinL, List.length_append, List.map_cons, List.sum_cons, List.length_cons, Nat.succ_mul] at ih ⊢
    omega
theorem bstr {x y : Txt} (h : x.length + y.length ≤ SZ) : binD .add (.str x) (.str y) = some (.str (x ++ y)) := if_pos h
theorem TL1_le : ∀ n, n ≤ 4 → TL1 n ≤ 8000 := by decide
theorem TL1_mono (n : Nat) : TL1 n ≤ TL1 (n + 1) := by
  simp only [TL1]
  omega
theorem vtext_ok : ∀ (n m : Nat) (d : D) (s : Store), n ≤ 4 → VD n d → ∃ z, callF fs (m + n + 1) 15 [d] s = .ok (.str z) s ∧ z.length ≤ TL1 n
  | n, m, d, s, hn, h => by
    rw [call_eq (fn := f15) rfl rfl]
    show ∃ z, endR false (evS (callF fs (m + n)) (roOf fs) b15 [.sh d, .no] s) = .ok (.str z) s ∧ _
    have big : (16777216 : Nat) = SZ := rfl
    have ge := TL1_ge n
    cases d with
    | int v =>
      have h : v.natAbs < 10 ^ 61 := by cases n <;> exact h
      obtain ⟨z, e, l⟩ := int_text v h s
      refine ⟨z, ?_, by omega⟩
      simp [b15, e]
    | str z =>
      have h : z.length ≤ 11 := by cases n <;> exact h
      have e1 := bstr (x := [34]) (y := z) (by simp; omega)
      have e2 := bstr (x := [34] ++ z) (y := [34]) (by simp; omega)
      refine ⟨[34] ++ z ++ [34], ?_, by simp; omega⟩
      simp only [List.cons_append, List.nil_append] at e1 e2
      simp [b15, e1, e2]
    | tup ds =>
      cases n with
      | zero => exact h.elim
      | succ n =>
        obtain ⟨hl, hd⟩ := h
        have f := compF_inv (f := turnF (callF fs (m + (n + 1))) (.call 15 (.cons (.var 1) .nil)) (.name 1) .yes [.sh (.tup ds), .no]) (P := fun d => ∃ z, d = .str z ∧ z.length ≤ TL1 n) (I := fun s' => s' = s) (xs := ds) (fun x hx s1 hs => by
          subst hs
          obtain ⟨z, e, l⟩ := vtext_ok n m x s1 (by omega) (hd x hx)
          refine ⟨.str z, s1, ?_, ⟨z, rfl, l⟩, rfl⟩
          rw [turn_eq rfl]
          have e : callF fs (m + (n + 1)) 15 [x] s1 = .ok (.str z) s1 := e
          generalize callF fs (m + (n + 1)) = cl at *
          simp [e]) (s := s) rfl
        obtain ⟨es, s1, e1, l1, h1, hs⟩ := f
        subst hs
        obtain ⟨zs, e2, l2, h2⟩ := strs_of h1
        have sl := sum_le h2
        have jl := join_le [32] zs
        have z3 : zs.length ≤ 3 := by omega
        have m1 : zs.length * TL1 n ≤ 3 * TL1 n := Nat.mul_le_mul_right _ z3
        have t8 := TL1_le n (by omega)
        simp only [List.length_cons, List.length_nil] at jl
        have c3 : evE (callF fs (m + (n + 1))) (.comp (.call 15 (.cons (.var 1) .nil)) (.name 1) (.seq (.var 0)) .yes [1]) [.sh (.tup ds), .no] s1 = .ok (.lst es) s1 := by
          rw [x_comp]
          simp only [x_seq, x_var, g_0, bind_ok2, it_tup, ofO_some2, w_cons, w_nil, p_s, p_0]
          exact compR_ok (by omega) e1
        have cond : (zs.map (·.length)).sum + zs.length * ([32] : Txt).length ≤ SZ := Nat.le_trans (Nat.add_le_add_right sl _) (by simp only [List.length_cons, List.length_nil]; omega)
        have jd : joinD (.str [32]) (.lst es) = some (.str (joinL [32] zs)) := by
          simp only [joinD, e2, Option.bind_some]
          exact if_pos cond
        have e3 := bstr (x := [91]) (y := joinL [32] zs) (by simp only [List.length_cons, List.length_nil]; omega)
        have e4 := bstr (x := 91 :: joinL [32] zs) (y := [93]) (by simp only [List.length_cons, List.length_nil]; omega)
        refine ⟨91 :: joinL [32] zs ++ [93], ?_, ?_⟩
        · generalize callF fs (m + (n + 1)) = cl at *
          simp only [List.cons_append, List.nil_append] at e3 e4
          simp [b15, c3, jd, e3, e4]
        · simp only [List.length_append, List.length_cons, List.length_nil, TL1]
          omega
    | non => cases n <;> exact h.elim
    | bl b => cases n <;> exact h.elim
    | lst ds => cases n <;> exact h.elim
    | rol ds => cases n <;> exact h.elim
    | ref a => cases n <;> exact h.elim
theorem cut_len (z : Txt) (a b : Option Int) : (cut z a b).length ≤ z.length := by
  simp only [cut, List.length_take, List.length_drop]
  omega
abbrev gs : Txt := [91, 93, 48, 32, 49, 45, 34, 97, 88]
theorem pick_sign (m : Nat) {s : Store} (hp : Pool [] s) : ∃ c s', callF fs (m + 3) 12 [.ref 0, .str gs] s = .ok (.str [c]) s' ∧ Pool [] s' := by
  obtain ⟨v, s', e, h0, h1, hp'⟩ := dr m (many := 9) (by decide) (by decide) hp
  obtain ⟨k, rfl⟩ : ∃ k : Nat, v = k := ⟨v.toNat, by omega⟩
  have hk : k < gs.length := by show k < 9; omega
  have ix : idxD s' (.str gs) (.int (k : Nat)) = some (.str [gs[k]]) := by
    show (if gs.length ≤ SZ then (atD gs (k : Int)).map fun c => D.str [c] else none) = _
    rw [if_pos (by show 9 ≤ SZ; decide), at_nat rfl, List.getElem?_eq_getElem hk]
    rfl
  refine ⟨gs[k], s', ?_, hp'⟩
  rw [call_eq (fn := f12) rfl rfl]
  show endR false (evS (callF fs (m + 2)) (roOf fs) b12 [.sh (.ref 0), .sh (.str gs)] s) = _
  have ln : bltD s .len [.str gs] = some (.int 9) := ln_str (z := gs) (by show 9 ≤ SZ; decide) s
  generalize callF fs (m + 2) = cl at *
  simp only [b12, y_ret, vo_idx, e_esc, tv_idx, eb_idx, eb_var, eb_call, es_cons, es_nil, tv_var, tv_blt, eb_blt, ebs_cons, ebs_nil, List.nil_append, List.append_nil, share_cons, share_nil, sh_0, sh_s, ts_sh, x_idx, x_var, g_s, g_0, bind_ok2, x_call, x_cons, x_nil, x_blt, ln, ofO_some2, f_idx, e, ix, end_ret]
theorem garb_ok (m : Nat) (z : Txt) (hz : z.length ≤ 8000) (s : Store) (hp : Pool [] s) : ∃ z' s', callF fs (m + 4) 13 [.ref 0, .str z, .str gs] s = .ok (.str z') s' ∧ z'.length ≤ 30000 ∧ Pool [] s' := by
  have big : (16777216 : Nat) = SZ := rfl
  have hz1 : z.length ≤ SZ := by omega
  obtain ⟨v1, s1, e1, a1, c1, p1⟩ := dr (m + 1) (many := (z.length : Int) + 1) (by omega) (by omega) hp
  obtain ⟨v2, s2, e2, a2, c2, p2⟩ := dr (m + 1) (many := 4) (by decide) (by decide) p1
  obtain ⟨c, s3, e3, p3⟩ := pick_sign m p2
  rw [call_eq (fn := f13) rfl rfl]
  show ∃ z' s', endR false (evS (callF fs (m + 3)) (roOf fs) b13 [.sh (.ref 0), .sh (.str z), .sh (.str gs), .no, .no, .no] s) = .ok (.str z') s' ∧ _
  have r11 : roOf fs 11 = false := rfl
  have r12 : roOf fs 12 = false := rfl
  have L := cut_len z
  have l1 := L none (some v1)
  have l2 := L (some v1) none
  have l3 := L (some (v1 + 1)) none
  have l4 := L (some v1) (some (v1 + 1))
  generalize callF fs (m + 3) = cl at *
  have g : v2 = 0 ∨ v2 = 1 ∨ v2 = 2 ∨ v2 = 3 := by omega
  rcases g with rfl | rfl | rfl | rfl
  · have b1 := bstr (x := cut z none (some v1)) (y := [c]) (by simp only [List.length_cons, List.length_nil]; omega)
    have b2 := bstr (x := cut z none (some v1) ++ [c]) (y := cut z (some v1) none) (by simp only [List.length_append, List.length_cons, List.length_nil]; omega)
    refine ⟨cut z none (some v1) ++ [c] ++ cut z (some v1) none, s3, ?_, ?_, p3⟩
    · simp [b13, ln_str hz1, e1, e2, e3, r11, r12, sl_str hz1, b1, b2]
    · simp only [List.length_append, List.length_cons, List.length_nil]
      omega
  · have b2 := bstr (x := cut z none (some v1)) (y := cut z (some (v1 + 1)) none) (by omega)
    refine ⟨cut z none (some v1) ++ cut z (some (v1 + 1)) none, s3, ?_, ?_, p3⟩
    · simp [b13, ln_str hz1, e1, e2, e3, r11, r12, sl_str hz1, b2]
    · simp only [List.length_append, List.length_cons, List.length_nil]
      omega
  · have b1 := bstr (x := cut z none (some v1)) (y := [c]) (by simp only [List.length_cons, List.length_nil]; omega)
    have b2 := bstr (x := cut z none (some v1) ++ [c]) (y := cut z (some (v1 + 1)) none) (by simp only [List.length_append, List.length_cons, List.length_nil]; omega)
    refine ⟨cut z none (some v1) ++ [c] ++ cut z (some (v1 + 1)) none, s3, ?_, ?_, p3⟩
    · simp [b13, ln_str hz1, e1, e2, e3, r11, r12, sl_str hz1, b1, b2]
    · simp only [List.length_append, List.length_cons, List.length_nil]
      omega
  · have b1 := bstr (x := cut z none (some v1)) (y := cut z (some v1) (some (v1 + 1))) (by omega)
    have b2 := bstr (x := cut z none (some v1) ++ cut z (some v1) (some (v1 + 1))) (y := cut z (some v1) none) (by simp only [List.length_append]; omega)
    refine ⟨cut z none (some v1) ++ cut z (some v1) (some (v1 + 1)) ++ cut z (some v1) none, s3, ?_, ?_, p3⟩
    · simp [b13, ln_str hz1, e1, e2, e3, r11, r12, sl_str hz1, b1, b2]
    · simp only [List.length_append, List.length_cons, List.length_nil]
      omega
end K95

/-! The law. -/
namespace K95
open PyE PyX PyL
def TX (d : D) : Prop := ∃ z : Txt, d = .str z ∧ z.length ≤ 100000
def partS (n : Nat) : S → S
  | .seq a b => match n with
    | 0 => a
    | n + 1 => partS n b
  | a => a
def restS (n : Nat) : S → S
  | .seq a b => match n with
    | 0 => .seq a b
    | n + 1 => restS n b
  | a => a
abbrev A1 : S := partS 1 b21
abbrev A2 : S := partS 2 b21
abbrev A3 : S := partS 3 b21
def cl0 : Nat → List D → Store → Res D := fun _ _ _ => .bad
def ownL : Res Flow → List D
  | .ok (.nx [_, _, .own (.lst l), _, _, _]) _ => l
  | _ => []
def L1 : List D := ownL (evS cl0 (fun _ => false) A1 [.no, .no, .no, .no, .no, .no] [])
def L2 : List D := ownL (evS cl0 (fun _ => false) A2 [.no, .no, .own (.lst L1), .no, .no, .no] [])
def L3 : List D := ownL (evS cl0 (fun _ => false) A3 [.no, .no, .own (.lst L2), .no, .no, .no] [])
theorem a1_ok (cl : Nat → List D → Store → Res D) (ro : Nat → Bool) (x0 x1 : Sl) (s : Store) : evS cl ro A1 [x0, x1, .no, .no, .no, .no] s = .ok (.nx [x0, x1, .own (.lst L1), .no, .no, .no]) s := by kernel_rfl
theorem a2_ok (cl : Nat → List D → Store → Res D) (ro : Nat → Bool) (x0 x1 : Sl) (s : Store) : evS cl ro A2 [x0, x1, .own (.lst L1), .no, .no, .no] s = .ok (.nx [x0, x1, .own (.lst L2), .no, .no, .no]) s := by kernel_rfl
theorem a3_ok (cl : Nat → List D → Store → Res D) (ro : Nat → Bool) (x0 x1 : Sl) (s : Store) : evS cl ro A3 [x0, x1, .own (.lst L2), .no, .no, .no] s = .ok (.nx [x0, x1, .own (.lst L3), .no, .no, .no]) s := by kernel_rfl
def txB : D → Bool
  | .str z => decide (z.length ≤ 100000)
  | _ => false
theorem txB_ok {d : D} (h : txB d = true) : TX d := by
  cases d with
  | str z => exact ⟨z, rfl, of_decide_eq_true h⟩
  | _ => cases h
theorem L3_ok : ∀ d ∈ L3, TX d := by
  have h : L3.all txB = true := by kernel_rfl
  exact fun d hd => txB_ok (List.all_eq_true.mp h d hd)
theorem L3_len : L3.length = 44 := by kernel_rfl
abbrev body1 : S := (.seq (.asg (.name 4) (.call 15 (.cons (.call 14 (.cons (.var 1) (.cons (.con (.int 4)) .nil))) .nil)))
  (.asg (.name 2) (.bin .add (.bin .add (.var 2) (.comp (.call 13 (.cons (.var 1) (.cons (.var 4) (.cons (.con (.str [91, 93, 48, 32, 49, 45, 34, 97, 88])) .nil)))) (.name 5) (.rng1 (.con (.int 3))) .yes [5])) (.lst (.cons (.bin .add (.var 4) (.con (.str [93]))) (.cons (.bin .add (.bin .add (.con (.str [91])) (.var 4)) (.con (.str [93]))) (.cons (.bin .add (.var 4) (.con (.str [32, 49]))) (.cons (.bin .add (.bin .add (.con (.str [91])) (.var 4)) (.con (.str [32, 34, 120, 34, 93]))) .nil))))))))
abbrev body2 : S := (.ite (.not (.tru (.call 8 (.cons (.call 20 (.cons (.var 4) .nil)) (.cons (.call 19 (.cons (.var 4) .nil)) .nil))))) (.ret (.con (.bl false))) .skip)
theorem b21_eq : b21 = .seq (.asg (.name 1) (.call 9 (.cons (.var 0) .nil))) (.seq A1 (.seq A2 (.seq A3 (.seq (.for (.name 3) (.rng1 (.con (.int 10))) body1) (.seq (.for (.name 4) (.seq (.var 2)) body2) (.ret (.con (.bl true)))))))) := rfl
theorem blst {x y : List D} (h : x.length + y.length ≤ SZ) : binD .add (.lst x) (.lst y) = some (.lst (x ++ y)) := if_pos h
theorem turn1 (x0 : D) (l : List D) (hl : l.length ≤ 1000) (ht : ∀ d ∈ l, TX d) (k : D) (x4 x5 : Sl) (s : Store) (hp : Pool [] s) : ∃ l' z s', evS (callF fs 167) (roOf fs) body1 [.sh x0, .sh (.ref 0), .own (.lst l), .sh k, x4, x5] s = .ok (.nx [.sh x0, .sh (.ref 0), .own (.lst l'), .sh k, .sh (.str z), x5]) s' ∧ l'.length = l.length + 7 ∧ (∀ d ∈ l', TX d) ∧ Pool [] s' := by
  have big : (16777216 : Nat) = SZ := rfl
  obtain ⟨d, s1, e1, hd, p1⟩ := value_ok 4 159 s hp
  obtain ⟨z, e2, hz⟩ := vtext_ok 4 162 d s1 (by decide) hd
  have hz8 : z.length ≤ 8000 := Nat.le_trans hz (TL1_le 4 (by decide))
  have e1 : callF fs 167 14 [.ref 0, .int 4] s = .ok d s1 := e1
  have e2 : callF fs 167 15 [d] s1 = .ok (.str z) s1 := e2
  have f := compF_inv (f := turnF (callF fs 167) (.call 13 (.cons (.var 1) (.cons (.var 4) (.cons (.con (.str [91, 93, 48, 32, 49, 45, 34, 97, 88])) .nil)))) (.name 5) .yes [.sh x0, .sh (.ref 0), .own (.lst l), .sh k, .sh (.str z), .no]) (P := TX) (I := Pool []) (xs := rngD 0 3) (fun x hx s hs => by
    obtain ⟨z', s', e, hd, hp'⟩ := garb_ok 163 z hz8 s hs
    refine ⟨.str z', s', ?_, ⟨z', rfl, by omega⟩, hp'⟩
    rw [turn_eq rfl]
    have e : callF fs 167 13 [.ref 0, .str z, .str gs] s = .ok (.str z') s' := e
    generalize callF fs 167 = cl at *
    simp [e]) p1
  obtain ⟨gl, s2, e3, l3, h3, p2⟩ := f
  have l3' : gl.length = 3 := l3
  have c3 : evE (callF fs 167) (.comp (.call 13 (.cons (.var 1) (.cons (.var 4) (.cons (.con (.str [91, 93, 48, 32, 49, 45, 34, 97, 88])) .nil)))) (.name 5) (.rng1 (.con (.int 3))) .yes [5]) [.sh x0, .sh (.ref 0), .own (.lst l), .sh k, .sh (.str z), x5] s1 = .ok (.lst gl) s2 := by
    rw [x_comp]
    have hr : rngOk (3 : Int) = true := rngOk_in (by decide) (by decide)
    simp only [x_rng1, x_con, bind_ok2, rng1R_ok hr, w_cons, w_nil, p_s, p_0]
    exact compR_ok (by show 3 ≤ SZ; decide) e3
  have b1 := bstr (x := z) (y := [93]) (by simp only [List.length_cons, List.length_nil]; omega)
  have b2 := bstr (x := [91]) (y := z) (by simp only [List.length_cons, List.length_nil]; omega)
  have b3 := bstr (x := [91] ++ z) (y := [93]) (by simp only [List.length_append, List.length_cons, List.length_nil]; omega)
  have b4 := bstr (x := z) (y := [32, 49]) (by simp only [List.length_cons, List.length_nil]; omega)
  have b5 := bstr (x := [91] ++ z) (y := [32, 34, 120, 34, 93]) (by simp only [List.length_append, List.length_cons, List.length_nil]; omega)
  have four : ∀ a b c d : D, ([a, b, c, d] : List D).length ≤ SZ := fun _ _ _ _ => by show 4 ≤ SZ; decide
  have q1 := blst (x := l) (y := gl) (by omega)
  have q2 := blst (x := l ++ gl) (y := [.str (z ++ [93]), .str ([91] ++ z ++ [93]), .str (z ++ [32, 49]), .str ([91] ++ z ++ [32, 34, 120, 34, 93])]) (by simp only [List.length_append, List.length_cons, List.length_nil]; omega)
  refine ⟨l ++ gl ++ [.str (z ++ [93]), .str ([91] ++ z ++ [93]), .str (z ++ [32, 49]), .str ([91] ++ z ++ [32, 34, 120, 34, 93])], z, s2, ?_, ?_, ?_, p2⟩
  · have r15 : roOf fs 15 = false := rfl
    generalize callF fs 167 = cl at *
    simp only [List.cons_append, List.nil_append] at b2 b3 b5 q2 ⊢
    have st : evS cl (roOf fs) (.asg (.name 4) (.call 15 (.cons (.call 14 (.cons (.var 1) (.cons (.con (.int 4)) .nil))) .nil))) [.sh x0, .sh (.ref 0), .own (.lst l), .sh k, x4, x5] s = .ok (.nx [.sh x0, .sh (.ref 0), .own (.lst l), .sh k, .sh (.str z), x5]) s1 := by
      simp [e1, e2, r15]
    rw [seq_ok st]
    simp [c3, q1, b1, b2, b3, b4, b5, lstR_ok (four _ _ _ _), q2]
  · simp only [List.length_append, List.length_cons, List.length_nil]
    omega
  · intro y hy
    simp only [List.mem_append, List.mem_cons, List.not_mem_nil, or_false] at hy
    rcases hy with (hy | hy) | rfl | rfl | rfl | rfl
    · exact ht y hy
    · exact h3 y hy
    all_goals exact ⟨_, rfl, by simp only [List.length_append, List.length_cons, List.length_nil]; omega⟩
theorem for1_ok (x0 : D) : ∀ (ks : List D) (l : List D) (x3 x4 x5 : Sl) (s : Store), l.length + 7 * ks.length ≤ 1000 → (∀ d ∈ l, TX d) → Pool [] s → ∃ l' x3' x4' s', forF (.name 3) (evS (callF fs 167) (roOf fs) body1) ks [.sh x0, .sh (.ref 0), .own (.lst l), x3, x4, x5] s = .ok (.nx [.sh x0, .sh (.ref 0), .own (.lst l'), x3', x4', x5]) s' ∧ l'.length ≤ 1000 ∧ (∀ d ∈ l', TX d)
  | [], l, x3, x4, x5, s, hl, ht, hp => ⟨l, x3, x4, s, rfl, by simpa using hl, ht⟩
  | k :: ks, l, x3, x4, x5, s, hl, ht, hp => by
    simp only [List.length_cons] at hl
    obtain ⟨l1, z, s1, e1, n1, t1, p1⟩ := turn1 x0 l (by omega) ht k x4 x5 s hp
    obtain ⟨l', x3', x4', s', e2, n2, t2⟩ := for1_ok x0 ks l1 (.sh k) (.sh (.str z)) x5 s1 (by omega) t1 p1
    refine ⟨l', x3', x4', s', ?_, n2, t2⟩
    rw [forF_cons]
    simp only [pt_name, p_s, p_0, Bool.false_eq_true, if_false]
    rw [e1, bind_ok2]
    exact e2
theorem turn2 (x0 x2 : D) (x3 x5 : Sl) (z : Txt) (hz : z.length ≤ 100000) (s : Store) : ∃ s', evS (callF fs 167) (roOf fs) body2 [.sh x0, .sh (.ref 0), .sh x2, x3, .sh (.str z), x5] s = .ok (.nx [.sh x0, .sh (.ref 0), .sh x2, x3, .sh (.str z), x5]) s' := by
  obtain ⟨x, e1⟩ := told_ok z hz s 0
  have e2 := lread_ok z hz (s ++ [x]) 84
  have e3 := same_ok (fs := fs) (me := 8) rfl (s ++ [x]) 81 85 (told z) (told_sim z hz)
  have e1 : callF fs 167 20 [.str z] s = .ok (told z) (s ++ [x]) := e1
  have e2 : callF fs 167 19 [.str z] (s ++ [x]) = .ok (told z) (s ++ [x]) := e2
  have e3 : callF fs 167 8 [told z, told z] (s ++ [x]) = .ok (.bl true) (s ++ [x]) := e3
  refine ⟨s ++ [x], ?_⟩
  generalize callF fs 167 = cl at *
  simp [e1, e2, e3]
theorem for2_ok (x0 x2 : D) (x3 x5 : Sl) : ∀ (l : List D) (x4 : Sl) (s : Store), (∀ d ∈ l, TX d) → ∃ x4' s', forF (.name 4) (evS (callF fs 167) (roOf fs) body2) l [.sh x0, .sh (.ref 0), .sh x2, x3, x4, x5] s = .ok (.nx [.sh x0, .sh (.ref 0), .sh x2, x3, x4', x5]) s'
  | [], x4, s, _ => ⟨x4, s, rfl⟩
  | d :: l, x4, s, h => by
    obtain ⟨z, rfl, hz⟩ := h d List.mem_cons_self
    obtain ⟨s1, e1⟩ := turn2 x0 x2 x3 x5 z hz s
    obtain ⟨x4', s', e2⟩ := for2_ok x0 x2 x3 x5 l (.sh (.str z)) s1 fun y hy => h y (List.mem_cons_of_mem _ hy)
    refine ⟨x4', s', ?_⟩
    rw [forF_cons]
    simp only [pt_name, p_s, p_0, Bool.false_eq_true, if_false]
    rw [e1, bind_ok2]
    exact e2
end K95
namespace PyL
open PyE PyX K95
theorem plain (ns : List Int) (hn : ns.length ≤ 63) : ∃ s, callF fs 168 21 [.rol (ns.map .int)] [] = .ok (.bl true) s := by
  obtain ⟨s1, e1, p1⟩ := pool_ok (fs := fs) (i := 9) (n := 166) rfl ns
  have e1 : callF fs 167 9 [.rol (ns.map .int)] [] = .ok (.ref 0) s1 := e1
  obtain ⟨l, x3, x4, s2, e2, n2, t2⟩ := for1_ok (.rol (ns.map .int)) (rngD 0 10) L3 .no .no .no s1 (by rw [L3_len]; decide) L3_ok p1
  obtain ⟨x4', s3, e3⟩ := for2_ok (.rol (ns.map .int)) (.lst l) x3 .no l x4 s2 t2
  refine ⟨s3, ?_⟩
  rw [call_eq (fn := f21) rfl rfl]
  show endR false (evS (callF fs 167) (roOf fs) b21 [.sh (.rol (ns.map .int)), .no, .no, .no, .no, .no] []) = _
  have st1 : evS (callF fs 167) (roOf fs) (.asg (.name 1) (.call 9 (.cons (.var 0) .nil))) [.sh (.rol (ns.map .int)), .no, .no, .no, .no, .no] [] = .ok (.nx [.sh (.rol (ns.map .int)), .sh (.ref 0), .no, .no, .no, .no]) s1 := by
    have r9 : roOf fs 9 = false := rfl
    generalize callF fs 167 = cl at *
    simp [e1, r9]
  have hr : rngOk (10 : Int) = true := rngOk_in (by decide) (by decide)
  have st2 : evS (callF fs 167) (roOf fs) (.for (.name 3) (.rng1 (.con (.int 10))) body1) [.sh (.rol (ns.map .int)), .sh (.ref 0), .own (.lst L3), .no, .no, .no] s1 = .ok (.nx [.sh (.rol (ns.map .int)), .sh (.ref 0), .own (.lst l), x3, x4, .no]) s2 := by
    rw [y_for]
    simp only [ei_rng1, eb_con, share_nil, x_rng1, x_con, bind_ok2, rng1R_ok hr]
    exact e2
  have st3 : evS (callF fs 167) (roOf fs) (.for (.name 4) (.seq (.var 2)) body2) [.sh (.rol (ns.map .int)), .sh (.ref 0), .own (.lst l), x3, x4, .no] s2 = .ok (.nx [.sh (.rol (ns.map .int)), .sh (.ref 0), .sh (.lst l), x3, x4', .no]) s3 := by
    rw [y_for]
    simp only [ei_seq, tv_var, eb_var, List.append_nil, share_cons, share_nil, sh_s, sh_0, ts_own, x_seq, x_var, g_s, g_0, bind_ok2, it_lst, ofO_some2]
    exact e3
  rw [b21_eq, K95.seq_ok st1, K95.seq_ok (a1_ok _ _ _ _ _), K95.seq_ok (a2_ok _ _ _ _ _), K95.seq_ok (a3_ok _ _ _ _ _), K95.seq_ok st2, K95.seq_ok st3]
  rfl
end PyL

open PySem PySem.W PySem.Calls PyProof.Rows
theorem PySem.Challenge.cw_everynumeral_k95_faulty_texts_of_numeral_holds : PySem.Challenge.rw_everynumeral_k95_faulty_texts_of_numeral.Holds := by
  w_on; o_law
  refine HandSHeadRun.head_any (r := PyL.R) (q := view PyL.R.prog [25]) (H := PyL.hk) (ob := PyL.ob) (M := 4000) (loose := PyL.loose) (d := HandSHeadRun.topDef PyL.R.prog 25) (kwd := []) PyL.ob_eq
    (by kernel_rfl) (fun s => by kernel_rfl) PyL.run (by kernel_rfl) (by kernel_rfl) (by kernel_rfl) (by rfl) (by first | assumption | decide +kernel) (by decide +kernel) ⟨rfl, rfl, rfl, rfl, rfl, by decide +kernel⟩ ?hw ?hc
  case hw => w_witness2
  case hc =>
    refine LamX.walk_ofTsE (l := PySem.Challenge.rw_everynumeral_k95_faulty_texts_of_numeral) (n := 63) (k := PyE.lv 168) (x := "script") (CX := fun w => L2.CX PyL.R.prog w) rfl (by decide) (by kernel_rfl) ⟨rfl, by decide, by decide⟩ ?F (fun w H s e s' z => PyE.cx_out z)
    intro w mg fa h Y G hmg0
    obtain ⟨K, KX, c⟩ := Y
    have hmg : mg ("law" : PySem.Str) = some (.ref fa) := by
      have e : (HandSHeadRun.topDef PyL.R.prog 25).name = ("law" : PySem.Str) := by kernel_rfl
      rw [← e]
      exact hmg0
    exact ⟨K, KX, PyE.law_at (l := PySem.Challenge.rw_everynumeral_k95_faulty_texts_of_numeral) (i := 21) (n := 168) PyL.read_ok PyL.gl_all PyL.bo_all KX G c (by rfl) (by rfl) (by rfl) hmg PyL.plain⟩

