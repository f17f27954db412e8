import PyProof.Rows.All
import Wide.All
import OpenK.AllK
import Wide.FinOn
import HandS.ForMost
import HandS.ForExc
import HandS.Flow
import HandS.TryOnly
import HandS.TryMany
import HandS.TryElse
import HandS.SuiteRaise
import HandS.IsInst
import HandS.Wide
import HandS.ExcIs
import HandS.ExcField
import HandS.ExcInit
import HandS.Dict
import HandS.More
import HandS.Style
import HandS.Text
import HandS.StrMore
import HandS.Codes
import HandS.Defaults
import HandS.HeadEnd
import HandS.Head2
import HandS.HeadHook1
import HandS.HeadHook2
import HandS.HeadHook3
import HandS.RaiseMore
import KE.GoesRaise
import KE.KEqNest
import PySem.Challenge.RW_reelcut_k23_tracks_told
set_option Elab.async false
set_option linter.all false
set_option maxRecDepth 100000
set_option maxHeartbeats 4000000

/-! VP: the value layer's plain part: data, environments, results, combinators. -/
namespace VL
open PySem

abbrev Ky := Sum Int Str
def vmax : Nat := 1000000

inductive D where
  | non | bl (b : Bool) | int (i : Int) | str (s : Str) | tup (ds : List D) | lst (ds : List D) | dct (ks : List Ky) (ds : List D)
deriving Inhabited

mutual
/-- no list, no dict within -/
def D.flat : D → Bool
  | .lst _ => false
  | .dct _ _ => false
  | .tup ds => D.flats ds
  | .non => true
  | .bl _ => true
  | .int _ => true
  | .str _ => true
def D.flats : List D → Bool
  | [] => true
  | d :: ds => d.flat && D.flats ds
end
mutual
/-- == of Python -/
def D.deq : D → D → Bool
  | .non, .non => true
  | .bl a, .bl b => a == b
  | .bl a, .int j => (if a then 1 else 0) == j
  | .int i, .bl b => i == (if b then 1 else 0)
  | .int i, .int j => decide (i = j)
  | .str x, .str y => decide (x = y)
  | .lst xs, .lst ys => D.deqs xs ys
  | .tup xs, .tup ys => D.deqs xs ys
  | _, _ => false
def D.deqs : List D → List D → Bool
  | [], [] => true
  | x :: xs, y :: ys => D.deq x y && D.deqs xs ys
  | _, _ => false
end
/-- a text of signs that there are -/
def strS (s : Str) : Bool := s.cps.all (· < 0x110000)
mutual
/-- no dict within, nested at most n deep -/
def D.eqok (n : Nat) : D → Bool
  | .non => true
  | .bl _ => true
  | .int _ => true
  | .str s => strS s
  | .dct _ _ => false
  | .tup ds => match n with
    | 0 => false
    | n + 1 => D.eqoks n ds
  | .lst ds => match n with
    | 0 => false
    | n + 1 => D.eqoks n ds
def D.eqoks (n : Nat) : List D → Bool
  | [] => true
  | d :: ds => D.eqok n d && D.eqoks n ds
end

/-- an exception: its class's name, its own field -/
structure Xc where
  cls : Str
  val : Option (Str × Int)

/-- an own thing: a list, a dict, a list handed in to be changed (pinned) -/
inductive Kd where
  | l | d | p (n : Nat)
deriving DecidableEq, Inhabited
/-- the shape of an own tree: what is shared; own lists, tuples, own dicts of such -/
inductive Sh where
  | s | l (x : Sh) | t (xs : List Sh) | d (x : Sh)
deriving Inhabited
def Kd.isL : Kd → Bool
  | .d => false
  | _ => true
/-- a slot: nothing, a value, a list of one's own (b: a dict, which stands alone in ds), a token, an own tree -/
inductive Sl where
  | no | sh (d : D) | ow (b : Kd) (ds : List D) | tk (n : Nat) | tr (s : Sh) (d : D)
deriving Inhabited
abbrev Env := List Sl
/-- what an own thing is, seen from outside -/
def outD : Kd → List D → D
  | .l, ds => .lst ds
  | .p _, ds => .lst ds
  | .d, [d] => d
  | .d, _ => .non

inductive Res (α : Type) where
  | ok (a : α) (e : Env) | err (x : Xc) (e : Env) | bot
def Res.bind {α β : Type} (r : Res α) (f : α → Env → Res β) : Res β := match r with
  | .ok a e => f a e
  | .err x e => .err x e
  | .bot => .bot
/-- a def's end -/
inductive FR where
  | ok (d : D) | err (x : Xc) | bot
/-- a statement's end -/
inductive RS where
  | nx (e : Env) | rt (d : D) (e : Env) | bk (e : Env) | ct (e : Env) | err (x : Xc) (e : Env) | bot

abbrev ME := Env → Res D
abbrev MA := Env → Res (List D)
abbrev MB := Env → Res Bool
abbrev MS := Env → RS

/-- from an option -/
def Res.of {α : Type} (o : Option α) (e : Env) : Res α := match o with
  | some a => .ok a e
  | none => .bot

/-! ### expressions -/
def vC (d : D) : ME := fun e => .ok d e
def slD : Option Sl → Option D
  | some (.sh d) => some d
  | some (.ow b ds) => some (outD b ds)
  | some (.tr _ d) => some d
  | _ => none
/-- a name: an owned list is handed out, and owned no more -/
def vVar (i : Nat) : ME := fun e => match e[i]? with
  | some (.sh d) => .ok d e
  | some (.ow b ds) => .ok (outD b ds) (e.set i (.sh (outD b ds)))
  | some (.tr _ d) => .ok d (e.set i (.sh d))
  | _ => .bot
def vUn (op : D → Option D) (a : ME) : ME := fun e => (a e).bind fun x e1 => .of (op x) e1
def vOp (op : D → D → Option D) (a b : ME) : ME := fun e => (a e).bind fun x e1 => (b e1).bind fun y e2 => .of (op x y) e2
def vNil : MA := fun e => .ok [] e
def vCons (a : ME) (r : MA) : MA := fun e => (a e).bind fun x e1 => (r e1).bind fun xs e2 => .ok (x :: xs) e2
def vTup (a : MA) : ME := fun e => (a e).bind fun xs e1 => .ok (.tup xs) e1
/-- a new list: not yet anybody's -/
def vLstF (a : MA) : MA := a
/-- .. handed out -/
def vOf (a : MA) : ME := fun e => (a e).bind fun xs e1 => .ok (.lst xs) e1
def vCall (fn : List D → FR) (a : MA) : ME := fun e => (a e).bind fun xs e1 => match fn xs with
  | .ok d => .ok d e1
  | .err x => .err x e1
  | .bot => .bot
/-- a def that hands back a new list -/
def vCallF (fn : List D → FR) (a : MA) : MA := fun e => (a e).bind fun xs e1 => match fn xs with
  | .ok (.lst ds) => .ok ds e1
  | .ok _ => .bot
  | .err x => .err x e1
  | .bot => .bot
/-- a builtin function of plain values -/
def vBf (f : List D → Option D) (a : MA) : ME := fun e => (a e).bind fun xs e1 => .of (f xs) e1
def vBl (f : List D → Option (List D)) (a : MA) : MA := fun e => (a e).bind fun xs e1 => .of (f xs) e1

def frz (e : Env) : Env := e.map fun s => match s with
  | .ow b ds => .sh (outD b ds)
  | .tr _ d => .sh d
  | s => s
/-- look at owned lists, keep nothing of them -/
def vBor (a : ME) : ME := fun e => match a (frz e) with
  | .ok d _ => if d.flat then .ok d e else .bot
  | .err x _ => .err x e
  | .bot => .bot
def vBorF (a : MA) : MA := fun e => match a (frz e) with
  | .ok ds _ => if D.flats ds then .ok ds e else .bot
  | .err x _ => .err x e
  | .bot => .bot
def vBorT (a : MB) : MB := fun e => match a (frz e) with
  | .ok b _ => .ok b e
  | .err x _ => .err x e
  | .bot => .bot
/-- xs.pop() of an owned list -/
def vPop (i : Nat) : ME := fun e => match e[i]? with
  | some (.ow k ds) => if k.isL = true then (match ds.getLast? with
    | some d => .ok d (e.set i (.ow k ds.dropLast))
    | none => .bot) else .bot
  | _ => .bot

/-- where an index points -/
def ixD (n : Nat) (i : Int) : Option Nat := if 0 ≤ i then (if i < n then some i.toNat else none) else if -(n : Int) ≤ i then some (i + n).toNat else none
/-! ### operators on data -/
def opAdd : D → D → Option D
  | .int i, .int j => some (.int (i + j))
  | .str x, .str y => if x.length + y.length ≤ vmax then some (.str (x ++ y)) else none
  | .tup (x :: xs), .tup (y :: ys) => if xs.length + ys.length + 2 ≤ vmax then some (.tup (x :: xs ++ y :: ys)) else none
  | .lst xs, .lst ys => if xs.length + ys.length ≤ vmax then some (.lst (xs ++ ys)) else none
  | _, _ => none
def opSub : D → D → Option D
  | .int i, .int j => some (.int (i - j))
  | _, _ => none
/-- the product is not too great to be reckoned -/
def mulOk (i j : Int) : Bool := decide (i.natAbs < 2 ^ 64) || decide (j.natAbs < 2 ^ 64) || decide (i.natAbs.log2 + j.natAbs.log2 < 1000000)
def opMul : D → D → Option D
  | .int i, .int j => if mulOk i j then some (.int (i * j)) else none
  | .lst xs, .int j => if -(2 ^ 62) ≤ j ∧ j < 2 ^ 62 ∧ xs.length * j.toNat ≤ vmax then some (.lst (List.replicate j.toNat xs).flatten) else none
  | _, _ => none
def divOk (j : Int) : Bool := decide (j ≠ 0) && decide (j.natAbs.log2 < 9000)
def opFdiv : D → D → Option D
  | .int i, .int j => if divOk j then some (.int (i.fdiv j)) else none
  | _, _ => none
def opMod : D → D → Option D
  | .int i, .int j => if j ≠ 0 then some (.int (i.fmod j)) else none
  | _, _ => none
def opPow : D → D → Option D
  | .int i, .int j => if 0 ≤ j ∧ j ≤ 1000 ∧ i.natAbs ≤ 1000 then some (.int (i ^ j.toNat)) else none
  | _, _ => none
def opNeg : D → Option D
  | .int i => some (.int (-i))
  | _ => none
def opLt : D → D → Option D
  | .int i, .int j => some (.bl (decide (i < j)))
  | _, _ => none
def opLe : D → D → Option D
  | .int i, .int j => some (.bl (decide (i ≤ j)))
  | _, _ => none
def opGt : D → D → Option D
  | .int i, .int j => some (.bl (decide (j < i)))
  | _, _ => none
def opGe : D → D → Option D
  | .int i, .int j => some (.bl (decide (j ≤ i)))
  | _, _ => none
def dctGet (ks : List Ky) (ds : List D) (k : Ky) : Option D := ((ks.zip ds).find? fun p => decide (p.1 = k)).map (·.2)
/-- each entry stands in the other dict -/
def hitsD (ls : List Ky) (es : List D) : List Ky → List D → Bool
  | k :: ks, d :: ds => match dctGet ls es k with
    | some e => D.deq d e && hitsD ls es ks ds
    | none => false
  | _, _ => true
/-- == of dicts (n: != ) -/
def opEqK (n : Bool) : D → D → Option D
  | .dct ks ds, .dct ls es => if D.eqoks 20 ds && D.eqoks 20 es then some (.bl (n ^^ (ks.length == ls.length && hitsD ls es ks ds))) else none
  | _, _ => none
def opEq (a b : D) : Option D := if a.eqok 20 && b.eqok 20 then some (.bl (D.deq a b)) else opEqK false a b
def opNe (a b : D) : Option D := if a.eqok 20 && b.eqok 20 then some (.bl (!D.deq a b)) else opEqK true a b
def D.isNon : D → Bool
  | .non => true
  | _ => false
/-- is, is not: None, a truth -/
def opIs : D → D → Option D
  | x, .non => some (.bl x.isNon)
  | .bl a, .bl b => some (.bl (a == b))
  | _, _ => none
def opIsNot : D → D → Option D
  | x, .non => some (.bl (!x.isNon))
  | .bl a, .bl b => some (.bl (!(a == b)))
  | _, _ => none
def D.atom : D → Bool
  | .non => true
  | .bl _ => true
  | .int _ => true
  | .str _ => true
  | _ => false
def keyD : D → Option Ky
  | .int i => some (.inl i)
  | .str s => some (.inr s)
  | _ => none
def opIn : D → D → Option D
  | x, .tup xs => if x.atom && xs.all D.atom then some (.bl (xs.any fun y => D.deq y x)) else none
  | x, .lst xs => if x.atom && xs.all D.atom then some (.bl (xs.any fun y => D.deq y x)) else none
  | x, .dct ks ds => (keyD x).map fun k => .bl (dctGet ks ds k).isSome
  | _, _ => none
def opNotIn (x y : D) : Option D := match opIn x y with
  | some (.bl b) => some (.bl (!b))
  | _ => none
def atD (xs : List D) (i : Int) : Option D := (ixD xs.length i).bind fun j => xs[j]?
def opIx : D → D → Option D
  | .tup xs, .int i => atD xs i
  | .lst xs, .int i => atD xs i
  | .str z, .int i => if z.length ≤ vmax then (ixD z.cps.toList.length i).bind fun j => (z.cps.toList[j]?).map fun c => .str ⟨#[c]⟩ else none
  | .dct ks ds, k => (keyD k).bind fun k => dctGet ks ds k
  | _, _ => none
/-- len -/
def bfLen : List D → Option D
  | [.tup xs] => some (.int xs.length)
  | [.lst xs] => some (.int xs.length)
  | [.str z] => if z.length ≤ vmax then some (.int z.length) else none
  | [.dct ks _] => some (.int ks.length)
  | _ => none
def bfAbs : List D → Option D
  | [.int i] => some (.int (if i < 0 then -i else i))
  | _ => none
def bfMin : List D → Option D
  | [.int i, .int j] => some (.int (if j < i then j else i))
  | _ => none
def bfMax : List D → Option D
  | [.int i, .int j] => some (.int (if j > i then j else i))
  | _ => none
def D.isT : String → D → Bool
  | t, .non => t == "NoneType"
  | t, .bl _ => t == "bool" || t == "int"
  | t, .int _ => t == "int"
  | t, .str _ => t == "str"
  | t, .tup _ => t == "tuple"
  | t, .lst _ => t == "list"
  | t, .dct _ _ => t == "dict"
def opIsi (t : String) (x : D) : Option D := some (.bl (x.isT t))

/-- a slice's bound as a place among n (d where it is left out) -/
def sIxD (n d : Nat) : Option Int → Nat
  | none => d
  | some v => if v < 0 then (v + (n : Int)).toNat else min v.toNat n
def cutD (xs : List D) (lo hi : Option Int) : List D := (xs.drop (sIxD xs.length 0 lo)).take (sIxD xs.length xs.length hi - sIxD xs.length 0 lo)
/-- xs[lo:hi] of a list -/
def slL (lo hi : Option Int) : D → Option (List D)
  | .lst xs => some (cutD xs lo hi)
  | _ => none
/-- z[lo:hi] of a text -/
def cutSD (z : Str) (lo hi : Option Int) : Str := ⟨((z.cps.toList.drop (sIxD z.length 0 lo)).take (sIxD z.length z.length hi - sIxD z.length 0 lo)).toArray⟩
/-- .. of a tuple (not the whole), a list, a text -/
def slT (lo hi : Option Int) : D → Option D
  | .tup xs => if sIxD xs.length 0 lo = 0 ∧ sIxD xs.length xs.length hi = xs.length then none else some (.tup (cutD xs lo hi))
  | .lst xs => some (.lst (cutD xs lo hi))
  | .str z => if z.length ≤ vmax then some (.str (cutSD z lo hi)) else none
  | _ => none
abbrev MO := Env → Res (Option Int)
def vNoPart : MO := fun e => .ok none e
def asI : D → Option (Option Int)
  | .int i => some (some i)
  | _ => none
def vPart (a : ME) : MO := fun e => (a e).bind fun x e1 => .of (asI x) e1
def vSl (a : ME) (lo hi : MO) : ME := fun e => (a e).bind fun x e1 => (lo e1).bind fun l e2 => (hi e2).bind fun h e3 => .of (slT l h x) e3
def vSlF (a : ME) (lo hi : MO) : MA := fun e => (a e).bind fun x e1 => (lo e1).bind fun l e2 => (hi e2).bind fun h e3 => .of (slL l h x) e3
def revL : D → Option (List D)
  | .lst xs => some xs.reverse
  | _ => none
def vRevF (a : ME) : MA := fun e => (a e).bind fun x e1 => .of (revL x) e1
/-- list(x) -/
def bfList : List D → Option (List D)
  | [.lst xs] => some xs
  | [.tup xs] => some xs
  | _ => none
def intsD : List D → Option (List Int)
  | [] => some []
  | .int i :: r => (intsD r).map (i :: ·)
  | _ :: _ => none
def boolsD : List D → Option (List Bool)
  | [] => some []
  | .bl i :: r => (boolsD r).map (i :: ·)
  | _ :: _ => none
def bfSum : List D → Option D
  | [.lst xs] => (intsD xs).map fun ns => .int ns.sum
  | _ => none
def bfAll : List D → Option D
  | [.lst xs] => (boolsD xs).map fun ns => .bl (ns.all id)
  | _ => none
def bfAny : List D → Option D
  | [.lst xs] => (boolsD xs).map fun ns => .bl (ns.any id)
  | _ => none
def vIsi (t : String) (a : ME) : ME := vUn (opIsi t) a

/-! ### tests -/
def asB : D → Option Bool
  | .bl b => some b
  | _ => none
def vTest (a : ME) : MB := fun e => (a e).bind fun x e1 => .of (asB x) e1
def vAnd (a b : MB) : MB := fun e => (a e).bind fun x e1 => if x = true then b e1 else .ok false e1
def vOr (a b : MB) : MB := fun e => (a e).bind fun x e1 => if x = true then .ok true e1 else b e1
def vNot (a : MB) : MB := fun e => (a e).bind fun x e1 => .ok (!x) e1
def vB (a : MB) : ME := fun e => (a e).bind fun x e1 => .ok (.bl x) e1
def vChain (op op' : D → D → Option D) (a b c : ME) : ME := fun e => (a e).bind fun x e1 => (b e1).bind fun y e2 =>
  match op x y with
  | some (.bl true) => (c e2).bind fun z e3 => .of (op' y z) e3
  | some (.bl false) => .ok (.bl false) e2
  | _ => .bot

/-- as values -/
def vAndV (a b : ME) : ME := fun e => (a e).bind fun x e1 => match x with
  | .bl true => b e1
  | .bl false => .ok (.bl false) e1
  | _ => .bot
def vOrV (a b : ME) : ME := fun e => (a e).bind fun x e1 => match x with
  | .bl false => b e1
  | .bl true => .ok (.bl true) e1
  | _ => .bot
def vNotV (a : ME) : ME := vUn (fun d => match d with
  | .bl c => some (.bl (!c))
  | _ => none) a
def vTupD (ms : MA) : ME := fun e => (ms e).bind fun xs e1 => if xs.length ≤ vmax then .ok (.tup xs) e1 else .bot
def vLstD (ms : MA) : MA := fun e => (ms e).bind fun xs e1 => if xs.length ≤ vmax then .ok xs e1 else .bot
/-! ### statements -/
def vNext : MS := fun e => .nx e
def vSeq (a b : MS) : MS := fun e => match a e with
  | .nx e1 => b e1
  | r => r
def Res.thenS {α : Type} (r : Res α) (f : α → Env → RS) : RS := match r with
  | .ok a e => f a e
  | .err x e => .err x e
  | .bot => .bot
def vIf (c : MB) (a b : MS) : MS := fun e => (c e).thenS fun x e1 => if x = true then a e1 else b e1
def vRet (a : ME) : MS := fun e => (a e).thenS fun d e1 => .rt d e1
def vRetF (a : MA) : MS := fun e => (a e).thenS fun ds e1 => .rt (.lst ds) e1
/-- return of an owned name -/
def vOwn (i : Nat) : MA := fun e => match e[i]? with
  | some (.ow .l ds) => .ok ds (e.set i .no)
  | _ => .bot
def vRetN : MS := fun e => .rt .non e
def vDrop (a : ME) : MS := fun e => (a e).thenS fun _ e1 => .nx e1
/-- raise X(..) -/
def vRaise (x : Str) : MS := fun e => .err ⟨x, none⟩ e
def vAsg (a : ME) (g : D → Env → Option Env) : MS := fun e => (a e).thenS fun d e1 => match g d e1 with
  | some e2 => .nx e2
  | none => .bot
/-- x = a new list: owned from now on -/
def vAsgF (i : Nat) (a : MA) : MS := fun e => (a e).thenS fun ds e1 => if i < e1.length then .nx (e1.set i (.ow .l ds)) else .bot
def gNam (i : Nat) : D → Env → Option Env := fun d e => if i < e.length then some (e.set i (.sh d)) else none
def gNil' : List D → Env → Option Env := fun ds e => match ds with
  | [] => some e
  | _ => none
def gCon (g : D → Env → Option Env) (r : List D → Env → Option Env) : List D → Env → Option Env := fun ds e => match ds with
  | d :: ds => match g d e with
    | some e1 => r ds e1
    | none => none
  | [] => none
def gTup' (r : List D → Env → Option Env) : D → Env → Option Env := fun d e => match d with
  | .tup ds => r ds e
  | .lst ds => r ds e
  | _ => none
/-- a, b = e1, e2 -/
def vPar (i j : Nat) (a b : ME) : MS := fun e => (a e).thenS fun x e1 => (b e1).thenS fun y e2 => if i < e2.length ∧ j < e2.length then .nx ((e2.set i (.sh x)).set j (.sh y)) else .bot
def vApp (i : Nat) (a : ME) : MS := fun e => match e[i]? with
  | some (.ow .l _) => (a e).thenS fun d e1 => match e1[i]? with
    | some (.ow .l ds) => if ds.length < vmax then .nx (e1.set i (.ow .l (ds ++ [d]))) else .bot
    | _ => .bot
  | _ => .bot
def vExt (i : Nat) (a : ME) : MS := fun e => match e[i]? with
  | some (.ow .l _) => (a e).thenS fun d e1 => match e1[i]? with
    | some (.ow .l ds) => match d with
      | .lst xs => if ds.length + xs.length < vmax then .nx (e1.set i (.ow .l (ds ++ xs))) else .bot
      | _ => .bot
    | _ => .bot
  | _ => .bot
def vAug (i : Nat) (op : D → D → Option D) (m : ME) : MS := fun e => match e[i]? with
  | some (.sh x) => (m e).thenS fun y e1 => match op x y with
    | some z => if i < e1.length then .nx (e1.set i (.sh z)) else .bot
    | none => .bot
  | _ => .bot
def vSet (i : Nat) (ix a : ME) : MS := fun e => (a e).thenS fun d e1 => match e1[i]? with
  | some (.ow .l _) => (ix e1).thenS fun k e2 => match e2[i]? with
    | some (.ow .l ds) => match k with
      | .int k => match ixD ds.length k with
        | some j => .nx (e2.set i (.ow .l (ds.set j d)))
        | none => .bot
      | _ => .bot
    | _ => .bot
  | _ => .bot
def vPass : MS := fun e => .nx e
def vBreak : MS := fun e => .bk e
def vCont : MS := fun e => .ct e
/-- a loop over items that stand -/
def forL (g : D → Env → Option Env) (b : MS) : List D → Env → RS
  | [], e => .nx e
  | d :: ds, e => match g d e with
    | none => .bot
    | some e1 => match b e1 with
      | .nx e2 => forL g b ds e2
      | .ct e2 => forL g b ds e2
      | .bk e2 => .nx e2
      | .rt d e2 => .rt d e2
      | .err x e2 => .err x e2
      | .bot => .bot
def vFor (it : MA) (g : D → Env → Option Env) (b : MS) : MS := fun e => (it e).thenS fun ds e1 => forL g b ds e1
def iterW (c : MB) (b : MS) : Nat → Env → Option RS
  | 0, _ => none
  | n + 1, e => match c e with
    | .ok false e1 => some (.nx e1)
    | .ok true e1 => match b e1 with
      | .nx e2 => iterW c b n e2
      | .ct e2 => iterW c b n e2
      | .bk e2 => some (.nx e2)
      | .rt d e2 => some (.rt d e2)
      | .err x e2 => some (.err x e2)
      | .bot => some .bot
    | .err x e1 => some (.err x e1)
    | .bot => some .bot
open Classical in
noncomputable def vWhile (c : MB) (b : MS) : MS := fun e => if h : ∃ n r, iterW c b n e = some r then (Classical.choose_spec h).choose else .bot

theorem iterW_more {c : MB} {b : MS} : ∀ {n : Nat} {e : Env} {r : RS}, iterW c b n e = some r → iterW c b (n + 1) e = some r
  | 0, e, r, h => by cases h
  | n + 1, e, r, h => by
    rw [iterW] at h ⊢
    cases hc : c e with
    | ok x e1 =>
      rw [hc] at h
      cases x with
      | false => exact h
      | true =>
        cases hb : b e1 with
        | nx e2 => simp only [hb] at h ⊢; exact iterW_more h
        | ct e2 => simp only [hb] at h ⊢; exact iterW_more h
        | bk e2 => simp only [hb] at h ⊢; exact h
        | rt d e2 => simp only [hb] at h ⊢; exact h
        | err x e2 => simp only [hb] at h ⊢; exact h
        | bot => simp only [hb] at h ⊢; exact h
    | err x e1 => rw [hc] at h; exact h
    | bot => rw [hc] at h; exact h
theorem iterW_le {c : MB} {b : MS} {n m : Nat} {e : Env} {r : RS} (h : n ≤ m) (q : iterW c b n e = some r) : iterW c b m e = some r := by
  induction h with
  | refl => exact q
  | step _ ih => exact iterW_more ih
theorem iterW_one {c : MB} {b : MS} {n m : Nat} {e : Env} {r r' : RS} (h : iterW c b n e = some r) (h' : iterW c b m e = some r') : r = r' := by
  have a := iterW_le (Nat.le_max_left n m) h
  have b := iterW_le (Nat.le_max_right n m) h'
  exact Option.some.inj (a.symm.trans b)
theorem vWhile_of {c : MB} {b : MS} {n : Nat} {e : Env} {r : RS} (h : iterW c b n e = some r) : vWhile c b e = r := by
  unfold vWhile
  have hx : ∃ n r, iterW c b n e = some r := ⟨n, r, h⟩
  rw [dif_pos hx]
  exact iterW_one (Classical.choose_spec (Classical.choose_spec hx)) h
theorem vWhile_some {c : MB} {b : MS} {e : Env} (h : vWhile c b e ≠ .bot) : ∃ n, iterW c b n e = some (vWhile c b e) := by
  by_cases hx : ∃ n r, iterW c b n e = some r
  · obtain ⟨n, r, q⟩ := hx
    exact ⟨n, by rw [vWhile_of q]; exact q⟩
  · unfold vWhile at h
    rw [dif_neg hx] at h
    exact absurd rfl h
/-- one turn -/
theorem vWhile_eq (c : MB) (b : MS) (e : Env) : vWhile c b e = (c e).thenS fun x e1 => if x = true then (match b e1 with
      | .nx e2 => vWhile c b e2
      | .ct e2 => vWhile c b e2
      | .bk e2 => .nx e2
      | .rt d e2 => .rt d e2
      | .err x e2 => .err x e2
      | .bot => .bot) else .nx e1 := by
  have back : ∀ {e2 : Env}, (∀ n r, iterW c b (n + 1) e = some r → iterW c b n e2 = some r) → (∀ n r, iterW c b n e2 = some r → iterW c b (n + 1) e = some r) → vWhile c b e = vWhile c b e2 := fun {e2} h1 h2 => by
    by_cases hx : ∃ n r, iterW c b n e2 = some r
    · obtain ⟨n, r, q⟩ := hx
      rw [vWhile_of q, vWhile_of (h2 n r q)]
    · have hy : ¬ ∃ n r, iterW c b n e = some r := fun ⟨n, r, q⟩ => by
        cases n with
        | zero => cases q
        | succ n => exact hx ⟨n, r, h1 n r q⟩
      unfold vWhile
      rw [dif_neg hx, dif_neg hy]
  cases hc : c e with
  | ok x e1 =>
    cases x with
    | false => exact vWhile_of (n := 1) (by unfold iterW; simp only [hc]; rfl)
    | true =>
      show _ = (match b e1 with
      | .nx e2 => vWhile c b e2
      | .ct e2 => vWhile c b e2
      | .bk e2 => .nx e2
      | .rt d e2 => .rt d e2
      | .err x e2 => .err x e2
      | .bot => .bot)
      cases hb : b e1 with
      | nx e2 => exact back (fun n r q => by unfold iterW at q; simp only [hc, hb] at q; exact q) fun n r q => by unfold iterW; simp only [hc, hb]; exact q
      | ct e2 => exact back (fun n r q => by unfold iterW at q; simp only [hc, hb] at q; exact q) fun n r q => by unfold iterW; simp only [hc, hb]; exact q
      | bk e2 => exact vWhile_of (n := 1) (by unfold iterW; simp only [hc, hb])
      | rt d e2 => exact vWhile_of (n := 1) (by unfold iterW; simp only [hc, hb])
      | err x e2 => exact vWhile_of (n := 1) (by unfold iterW; simp only [hc, hb])
      | bot => exact vWhile_of (n := 1) (by unfold iterW; simp only [hc, hb])
  | err x e1 => exact vWhile_of (n := 1) (by unfold iterW; simp only [hc]; rfl)
  | bot => exact vWhile_of (n := 1) (by unfold iterW; simp only [hc]; rfl)

/-! ### comprehensions: slots own are the block's own names -/
def wipeE (e : Env) : List Nat → Env
  | [] => e
  | v :: vs => (wipeE e vs).set v .no
/-- nothing may be raised here -/
def Res.bindN {α β : Type} (r : Res α) (f : α → Env → Res β) : Res β := match r with
  | .ok a e => f a e
  | _ => .bot
/-- the items kept, in order -/
def lcL (g : D → Env → Option Env) (t : MB) (el : ME) (own : List Nat) : List D → List D → Env → Res (List D)
  | [], acc, e => .ok acc (wipeE e own)
  | d :: ds, acc, e => match g d e with
    | none => .bot
    | some e1 => (t e1).bindN fun k e2 => if k = true then (el e2).bindN fun x e3 => if acc.length < vmax then lcL g t el own ds (acc ++ [x]) (wipeE e3 own) else .bot
      else lcL g t el own ds acc (wipeE e2 own)
def vLc (it : MA) (g : D → Env → Option Env) (t : MB) (el : ME) (own : List Nat) : MA := fun e => (it e).bind fun ds e1 => lcL g t el own ds [] (wipeE e1 own)
def vYes : MB := fun e => .ok true e

/-! ### what a loop walks -/
def seqD : D → Option (List D)
  | .lst ds => some ds
  | .tup ds => some ds
  | .str x => some (x.cps.toList.map fun c => .str ⟨#[c]⟩)
  | _ => none
def vSeqI (m : ME) : MA := fun e => (m e).bind fun d e1 => .of (seqD d) e1
def rngD : List D → Option (List D)
  | [.int j] => if -(2 ^ 62) ≤ j ∧ j < 2 ^ 62 then some ((List.range j.toNat).map fun (i : Nat) => .int (0 + (i : Int))) else none
  | [.int i, .int j] => if -(2 ^ 62) ≤ i ∧ i < 2 ^ 62 ∧ -(2 ^ 62) ≤ j ∧ j < 2 ^ 62 then some ((List.range (j - i).toNat).map fun (n : Nat) => .int (i + (n : Int))) else none
  | _ => none
def vRng1 (m : MA) : MA := fun e => (m e).bind fun ds e1 => match ds with
  | [_] => .of (rngD ds) e1
  | _ => .bot
def vRng2 (m : MA) : MA := fun e => (m e).bind fun ds e1 => match ds with
  | [_, _] => .of (rngD ds) e1
  | _ => .bot
def enumD : List D → Option (List D)
  | [.lst ds] => some (ds.zipIdx.map fun p => .tup [.int ((p.2 : Nat) : Int), p.1])
  | _ => none
def vEnum (m : MA) : MA := fun e => (m e).bind fun ds e1 => .of (enumD ds) e1

/-! ### try -/
/-- which clause takes an exception; the suite's state -/
def vTry (b : MS) (h : Xc → Env → Option MS) (el : MS) : MS := fun e => match b e with
  | .nx e1 => el e1
  | .err x e1 => match h x e1 with
    | some s => s e1
    | none => .err x e1
  | r => r

/-! ### a def -/
def runB (np n : Nat) (b : MS) (ds : List D) : FR := if ds.length = np then (match b (ds.map Sl.sh ++ List.replicate (n - np) .no) with
  | .nx _ => .ok .non
  | .rt d _ => .ok d
  | .err x _ => .err x
  | _ => .bot) else .bot

/-! ### tokens: a slot that holds what is told elsewhere -/
def clrTk (n : Nat) : Sl → Sl
  | .tk m => if m = n then .no else .tk m
  | s => s
def clrE (n : Nat) (e : Env) : Env := e.map (clrTk n)
/-- behind a token's time: slot i gets s -/
def RS.post (n i : Nat) (s : Sl) : RS → RS
  | .nx e => .nx ((clrE n e).set i s)
  | .rt d e => .rt d ((clrE n e).set i s)
  | .bk e => .bk ((clrE n e).set i s)
  | .ct e => .ct ((clrE n e).set i s)
  | .err _ _ => .bot
  | .bot => .bot
/-- try: body; except y as slot i -/
def vTryAs (names : List Str) (anc : Str → Str → Bool) (y : Str) (i : Nat) (b : MS) (h : Str → MS) : MS := fun e => match b e with
  | .err x e1 => match x.val with
    | none => if x.cls ∈ names then (if anc x.cls y = true then RS.post 0 i .no (h x.cls ((clrE 0 e1).set i (.tk 0))) else .err x e1) else .bot
    | some _ => .bot
  | r => r
/-- .. without a name -/
def vTryOnly (names : List Str) (anc : Str → Str → Bool) (y : Str) (b : MS) (h : MS) : MS := fun e => match b e with
  | .err x e1 => if x.cls ∈ names then (if anc x.cls y = true then (match h e1 with
      | .err _ _ => .bot
      | r => r) else .err x e1) else .bot
  | r => r
/-- isinstance(e, ..) of the caught one -/
def vIsE (i : Nat) (b : Bool) : ME := fun e => match e[i]? with
  | some (.tk 0) => .ok (.bl b) e
  | _ => .bot
/-- a loop over an own list, which the body leaves alone -/
def vForO (n i : Nat) (g : D → Env → Option Env) (b : MS) : MS := fun e => match e[i]? with
  | some (.ow .l ds) => match forL g b ds ((clrE n e).set i (.tk n)) with
    | .nx e1 => match e1[i]? with
      | some (.tk m) => if m = n then .nx ((clrE n e1).set i (.ow .l ds)) else .bot
      | _ => .bot
    | .rt d e1 => .rt d (clrE n e1)
    | .err x e1 => .err x (clrE n e1)
    | _ => .bot
  | _ => .bot
/-- which class is which one's, by a table -/
def ancOf (l : List (Str × List Str)) (x y : Str) : Bool := match l.find? fun p => decide (p.1 = x) with
  | some p => p.2.any fun z => decide (z = y)
  | none => false
/-! ### text of a number; displays of dicts -/
def bfStr : List D → Option D
  | [.int i] => if i.natAbs.log2 < 1920 then some (.str (toString i)) else none
  | _ => none
def keysD : List D → Option (List Ky)
  | [] => some []
  | d :: ds => match keyD d with
    | some k => (keysD ds).map (k :: ·)
    | none => none
def dispD (ps : List (D × D)) : Option D := match keysD (ps.map (·.1)) with
  | some ks => if ks.Nodup ∧ ks.length ≤ 15 then some (.dct ks (ps.map (·.2))) else none
  | none => none
abbrev MQ := Env → Res (List (D × D))
def vPN : MQ := fun e => .ok [] e
def vPC (k v : ME) (r : MQ) : MQ := fun e => (k e).bind fun x e1 => (v e1).bind fun y e2 => (r e2).bind fun ps e3 => .ok ((x, y) :: ps) e3
def vDisp (r : MQ) : ME := fun e => (r e).bind fun ps e1 => .of (dispD ps) e1
/-- z.strip(signs) and the like: a method of a text with one plain value handed in -/
def vM1 (op : Str → D → Option D) (a b : ME) : ME := fun e => (a e).bind fun x e1 => match x with
  | .str z => (b e1).bind fun y e2 => .of (op z y) e2
  | _ => .bot
def opStrip : Str → D → Option D
  | z, .str w => if z.length ≤ vmax then some (.str (Txt.stripChars z w)) else none
  | _, _ => none
/-! ### dicts of one's own -/
abbrev MK := Env → Res (List Ky × List D)
/-- in its place, or at the end -/
def putD (ks : List Ky) (ds : List D) (k : Ky) (d : D) : List Ky × List D := if (ks.any fun j => decide (j = k)) = true then (ks, (ks.zip ds).map fun p => if p.1 = k then d else p.2) else (ks ++ [k], ds ++ [d])
/-- x[k] = v of an own dict -/
def vSetK (i : Nat) (ix a : ME) : MS := fun e => (a e).thenS fun d e1 => match e1[i]? with
  | some (.ow .d _) => (ix e1).thenS fun k e2 => match e2[i]? with
    | some (.ow .d [.dct ks ds]) => match keyD k with
      | some k => if ks.length < vmax then .nx (e2.set i (.ow .d [.dct (putD ks ds k d).1 (putD ks ds k d).2])) else .bot
      | none => .bot
    | _ => .bot
  | _ => .bot
/-- x = a new dict -/
def vAsgK (i : Nat) (a : MK) : MS := fun e => (a e).thenS fun kd e1 => if i < e1.length then .nx (e1.set i (.ow .d [.dct kd.1 kd.2])) else .bot
/-- the empty one -/
def vK0 : MK := fun e => .ok ([], []) e
def dispK (ps : List (D × D)) : Option (List Ky × List D) := match keysD (ps.map (·.1)) with
  | some ks => if ks.Nodup ∧ ks.length ≤ 15 then some (ks, ps.map (·.2)) else none
  | none => none
def vKD (r : MQ) : MK := fun e => (r e).bind fun ps e1 => .of (dispK ps) e1
/-- dict(x) -/
def copyK : List D → Option (List Ky × List D)
  | [.dct ks ds] => some (ks, ds)
  | _ => none
def vKC (a : MA) : MK := fun e => (a e).bind fun xs e1 => .of (copyK xs) e1
/-- handed out -/
def vOfK (a : MK) : ME := fun e => (a e).bind fun kd e1 => .ok (.dct kd.1 kd.2) e1
def vBorK (a : MK) : MK := fun e => match a (frz e) with
  | .ok kd _ => if D.flats kd.2 then .ok kd e else .bot
  | .err x _ => .err x e
  | .bot => .bot
/-- a table of the module: its plain values by key -/
abbrev Tb := List (Str × D)
def tbGet (t : Tb) (z : Str) : Option D := (t.find? fun p => decide (p.1 = z)).map (·.2)
/-- asked -/
def tabIn (t : Tb) : D → Option D
  | .str z => some (.bl (tbGet t z).isSome)
  | _ => none
def tabNotIn (t : Tb) : D → Option D
  | .str z => some (.bl (!(tbGet t z).isSome))
  | _ => none
def tabIx (t : Tb) : D → Option D
  | .str z => tbGet t z
  | _ => none
/-! errors with a number of their own -/
/-- raise x(m), whose __init__ keeps the number as its field f -/
def vRaiseI (x f : Str) (m : ME) : MS := fun e => match m e with
  | .ok (.int n) e1 => .err ⟨x, some (f, n)⟩ e1
  | .err y e1 => .err y e1
  | _ => .bot
def noX : RS → RS
  | .err _ _ => .bot
  | r => r
/-- an except clause: the class, the name's slot, the suite -/
abbrev Cl := Str × Option Nat × (Xc → MS)
def vHandle (anc : Str → Str → Bool) : List Cl → Xc → Env → RS
  | [], x, e => .err x e
  | (y, none, h) :: r, x, e => if anc x.cls y = true then noX (h x e) else vHandle anc r x e
  | (y, some i, h) :: r, x, e => if anc x.cls y = true then (h x ((clrE 0 e).set i (.tk 0))).post 0 i .no else vHandle anc r x e
def vTryM (names : List Str) (anc : Str → Str → Bool) (cl : List Cl) (b : MS) : MS := fun e => match b e with
  | .err x e1 => if x.cls ∈ names then vHandle anc cl x e1 else .bot
  | r => r
/-- e.f of the caught one -/
def vXf (i : Nat) (f : Str) (x : Xc) : ME := fun e => match e[i]? with
  | some (.tk 0) => (match x.val with
    | some (g, n) => if g = f then .ok (.int n) e else .bot
    | none => .bot)
  | _ => .bot
/-- a + b, a new list -/
def catL : D → D → Option (List D)
  | .lst xs, .lst ys => if xs.length + ys.length ≤ vmax then some (xs ++ ys) else none
  | _, _ => none
def vCatF (a b : ME) : MA := fun e => (a e).bind fun x e1 => (b e1).bind fun y e2 => .of (catL x y) e2
/-! int(x), list(d), xs.index(y) -/
def bfInt : List D → Option D
  | [.int i] => some (.int i)
  | [.bl b] => some (.int (if b then 1 else 0))
  | _ => none
def kyD : Ky → D
  | .inl i => .int i
  | .inr z => .str z
def bfListK : List D → Option (List D)
  | [.dct ks ds] => if ks.length = ds.length then some (ks.map kyD) else none
  | xs => bfList xs
def bfSortL : List D → Option (List D)
  | [.lst ds] => (intsD ds).bind fun ns => if ns.length < 64 then some ((ns.mergeSort (fun a b => decide (a ≤ b))).map D.int) else none
  | _ => none
def boolAt (c : Bool) : List D → Option Nat
  | .bl b :: r => if b = c then some 0 else (boolAt c r).map (· + 1)
  | _ => none
def allB : List D → Bool
  | [] => true
  | .bl _ :: r => allB r
  | _ => false
def opIndex : D → D → Option D
  | .lst xs, .bl c => if allB xs then (boolAt c xs).map fun j => .int (j : Nat) else none
  | _, _ => none
/-- o.m(e), o a list that is read -/
def vBm1 (op : D → D → Option D) (a b : ME) : ME := fun e => (a e).bind fun x e1 => match x with
  | .lst xs => (b e1).bind fun y e2 => .of (op (.lst xs) y) e2
  | _ => .bot
/-! ### texts: more of their methods -/
def opStarts : Str → D → Option D
  | z, .str w => some (.bl (Txt.startswith z w))
  | _, _ => none
def opParti : Str → D → Option D
  | z, .str w => if w.length ≠ 0 ∧ z.length ≤ vmax then some (.tup [.str (Txt.partition z w).1, .str (Txt.partition z w).2.1, .str (Txt.partition z w).2.2]) else none
  | _, _ => none
def opSplit : Str → D → Option (List D)
  | z, .str w => if w.length ≠ 0 ∧ z.length + 2 ≤ vmax then some ((Txt.split z w).map D.str) else none
  | _, _ => none
/-- z.split(sign): a new list -/
def vMF1 (op : Str → D → Option (List D)) (a b : ME) : MA := fun e => (a e).bind fun x e1 => match x with
  | .str z => (b e1).bind fun y e2 => .of (op z y) e2
  | _ => .bot
def opNotInS : D → D → Option D
  | .str i, .str j => some (.bl (Builtin.Str.occurrences j i 0 j.length 1).isEmpty)
  | _, _ => none
def bfIntS : List D → Option D
  | [.int i] => some (.int i)
  | [.bl b] => some (.int (if b then 1 else 0))
  | [.str z] => if z.length ≤ 640 then (PySem.intText? z).map D.int else none
  | _ => none
def opMulS : D → D → Option D
  | .str z, .int n => if z.length ≤ 1000 ∧ -1000 ≤ n ∧ n ≤ 1000 then some (.str (Txt.mul z n)) else none
  | _, _ => none
/-! ### texts: join, in, str of a text -/
def strsD : List D → Option (List Str)
  | [] => some []
  | .str z :: r => (strsD r).map (z :: ·)
  | _ => none
def opJoin : Str → D → Option D
  | z, .lst ds => match strsD ds with
    | some ys => if (ys.map (·.length)).sum + ys.length * z.length ≤ 16777216 then some (.str (Txt.join z ys)) else none
    | none => none
  | _, _ => none
def opInS : D → D → Option D
  | .str i, .str j => some (.bl (!(Builtin.Str.occurrences j i 0 j.length 1).isEmpty))
  | _, _ => none
def bfStrS : List D → Option D
  | [.int i] => if i.natAbs.log2 < 1920 then some (.str (toString i)) else none
  | [.str z] => some (.str z)
  | _ => none
/-! ### comprehensions whose element may raise -/
def lcLX (g : D → Env → Option Env) (t : MB) (el : ME) (own : List Nat) : List D → List D → Env → Res (List D)
  | [], acc, e => .ok acc (wipeE e own)
  | d :: ds, acc, e => match g d e with
    | none => .bot
    | some e1 => (t e1).bindN fun k e2 => if k = true then (match el e2 with
        | .ok x e3 => if acc.length < vmax then lcLX g t el own ds (acc ++ [x]) (wipeE e3 own) else .bot
        | .err x e3 => .err x (wipeE (wipeE e3 own) own)
        | .bot => .bot)
      else lcLX g t el own ds acc (wipeE e2 own)
def vLcX (it : MA) (g : D → Env → Option Env) (t : MB) (el : ME) (own : List Nat) : MA := fun e => (it e).bind fun ds e1 => lcLX g t el own ds [] (wipeE e1 own)
/-! ### loops over dicts -/
def dKeys : D → Option (List D)
  | .dct ks ds => if ks.length = ds.length then some (ks.map kyD) else none
  | _ => none
def dItems : D → Option (List D)
  | .dct ks ds => if ks.length = ds.length then some ((ks.zip ds).map fun p => .tup [kyD p.1, p.2]) else none
  | _ => none
/-- over the dict in slot i -/
def vForD (f : D → Option (List D)) (i : Nat) (g : D → Env → Option Env) (b : MS) : MS := fun e => match e[i]? with
  | some (.sh d) => match f d with
    | some ds => forL g b ds e
    | none => .bot
  | _ => .bot
/-- xs.extend(a new list) -/
def vExtF (i : Nat) (m : MA) : MS := fun e => match e[i]? with
  | some (.ow .l _) => (m e).thenS fun ys e1 => match e1[i]? with
    | some (.ow .l ds) => if ds.length + ys.length ≤ vmax then .nx (e1.set i (.ow .l (ds ++ ys))) else .bot
    | _ => .bot
  | _ => .bot
/-! ### a list handed in to be changed -/
def insL {α : Type} : Nat → α → List α → List α
  | 0, a, l => a :: l
  | n + 1, a, b :: l => b :: insL n a l
  | _ + 1, a, [] => [a]
/-- what a def gives, what the list holds then -/
inductive FRI where
  | ok (d : D) (es : List D) | err (x : Xc) (es : List D) | bot
def FRI.of (j : Nat) (e : Env) (f : List D → FRI) : FRI := match e[j]? with
  | some (.ow (.p 0) es) => f es
  | _ => .bot
/-- parameter j is the list -/
def runI (np n j : Nat) (b : MS) (ds es : List D) : FRI := if ds.length + 1 = np ∧ j ≤ ds.length then (match b (insL j (.ow (.p 0) es) (ds.map Sl.sh) ++ List.replicate (n - np) .no) with
  | .nx e => .of j e (.ok .non)
  | .rt d e => .of j e (.ok d)
  | .err x e => .of j e (.err x)
  | _ => .bot) else .bot
abbrev FI := List D → List D → FRI
/-- the other arguments; slot i has the list -/
def vArgI (i : Nat) (m : MA) : MA := fun e => match e[i]? with
  | some (.ow _ _) => m e
  | _ => .bot
/-- back into its slot -/
def putI {α : Type} (i : Nat) (k : Kd) (e : Env) (r : FRI) (f : D → Option α) : Res α := match r with
  | .ok d es => .of (f d) (e.set i (.ow k es))
  | .err x es => .err x (e.set i (.ow k es))
  | .bot => .bot
def vCallI (i : Nat) (fn : FI) (m : MA) : ME := fun e => (m e).bind fun ds e1 => match e1[i]? with
  | some (.ow k es) => if k.isL = true then putI i k e1 (fn ds es) some else .bot
  | _ => .bot
def asL : D → Option (List D)
  | .lst ds => some ds
  | _ => none
/-- .. of a def that hands back a new list -/
def vCallIF (i : Nat) (fn : FI) (m : MA) : MA := fun e => (m e).bind fun ds e1 => match e1[i]? with
  | some (.ow k es) => if k.isL = true then putI i k e1 (fn ds es) asL else .bot
  | _ => .bot
/-- the list is new, and nobody's behind -/
def vCallT (fn : FI) (a m : MA) : ME := fun e => (a e).bind fun es e1 => (m e1).bind fun ds e2 => match fn ds es with
  | .ok d _ => .ok d e2
  | .err x _ => .err x e2
  | .bot => .bot
/-- try: .. except y: .. else: .. -/
def vTryElse (names : List Str) (anc : Str → Str → Bool) (y : Str) (b h el : MS) : MS := fun e => match b e with
  | .nx e1 => el e1
  | .err x e1 => if x.cls ∈ names then (if anc x.cls y = true then (match h e1 with
      | .err _ _ => .bot
      | r => r) else .err x e1) else .bot
  | r => r
/-- xs.insert(k, e) -/
def vIns (i : Nat) (ix a : ME) : MS := fun e => match e[i]? with
  | some (.ow .l _) => (ix e).thenS fun k e1 => (a e1).thenS fun d e2 => match e2[i]? with
    | some (.ow .l ds) => match k with
      | .int n => if 0 ≤ n ∧ n < 2 ^ 62 ∧ ds.length < vmax then .nx (e2.set i (.ow .l (ds.take n.toNat ++ [d] ++ ds.drop n.toNat))) else .bot
      | _ => .bot
    | _ => .bot
  | _ => .bot
/-! ### own trees -/
mutual
def Sh.eqb : Sh → Sh → Bool
  | .s, .s => true
  | .l x, .l y => Sh.eqb x y
  | .d x, .d y => Sh.eqb x y
  | .t xs, .t ys => Sh.eqbs xs ys
  | _, _ => false
def Sh.eqbs : List Sh → List Sh → Bool
  | [], [] => true
  | x :: xs, y :: ys => Sh.eqb x y && Sh.eqbs xs ys
  | _, _ => false
end
def D.kids : D → List D
  | .lst ds => ds
  | .tup ds => ds
  | .dct _ ds => ds
  | _ => []
def D.setK : D → Nat → D → D
  | .lst ds, j, x => .lst (ds.set j x)
  | .tup ds, j, x => .tup (ds.set j x)
  | .dct ks ds, j, x => .dct ks (ds.set j x)
  | d, _, _ => d
/-- what stands at a path -/
def getP : List Nat → D → Option D
  | [], d => some d
  | j :: π, d => (d.kids[j]?).bind (getP π)
def setP : List Nat → D → D → D
  | [], _, x => x
  | j :: π, d, x => match d.kids[j]? with
    | some k => d.setK j (setP π k x)
    | none => d
def Sh.kid : Sh → Nat → Option Sh
  | .l x, _ => some x
  | .d x, _ => some x
  | .t xs, j => xs[j]?
  | .s, _ => none
def shP : List Nat → Sh → Option Sh
  | [], s => some s
  | j :: π, s => (s.kid j).bind (shP π)
/-- x = a tree (or what is flat) -/
def vAsgT (i : Nat) (s : Sh) (m : ME) : MS := fun e => (m e).thenS fun d e1 => if i < e1.length then .nx (e1.set i (if d.flat = true then .sh d else .tr s d)) else .bot
/-- the tree of slot i is nobody's behind -/
def vOwnT (i : Nat) (s : Sh) : ME := fun e => match e[i]? with
  | some (.tr s' d) => if Sh.eqb s s' = true then .ok d (e.set i .no) else .bot
  | _ => .bot
/-- .. or what is flat -/
def vOwnTf (i : Nat) (s : Sh) : ME := fun e => match e[i]? with
  | some (.tr s' d) => if Sh.eqb s s' = true then .ok d (e.set i .no) else .bot
  | some (.sh d) => if d.flat = true then .ok d e else .bot
  | _ => .bot
/-- what is flat -/
def vFl (m : ME) : ME := fun e => (m e).bind fun d e1 => if d.flat = true then .ok d e1 else .bot
/-- paths into the tree of slot i -/
abbrev MP := Env → Res (List Nat)
def vP0 (i : Nat) : MP := fun e => match e[i]? with
  | some (.tr _ _) => .ok [] e
  | _ => .bot
def pathIx (π : List Nat) (d : D) (k : D) : Option Nat := match getP π d, k with
  | some (.lst ds), .int n => ixD ds.length n
  | some (.tup ds), .int n => ixD ds.length n
  | _, _ => none
def vPS (i : Nat) (m : MP) (ix : ME) : MP := fun e => (m e).bind fun π e1 => match e1[i]? with
  | some (.tr s d) => (ix (e1.set i .no)).bind fun k e2 => match pathIx π d k with
    | some j => if (shP (π ++ [j]) s).isSome then .ok (π ++ [j]) (e2.set i (.tr s d)) else .bot
    | none => .bot
  | _ => .bot
/-- the list at π, its items of shape x -/
def lstAt (x : Sh) (π : List Nat) (s : Sh) (d : D) : Option (List D) := match shP π s, getP π d with
  | some (.l y), some (.lst ds) => if Sh.eqb x y = true then some ds else none
  | _, _ => none
/-- P.append(e) -/
def vAppT (i : Nat) (mp : MP) (x : Sh) (me : ME) : MS := fun e => (mp e).thenS fun π e1 => match e1[i]? with
  | some (.tr s d) => match lstAt x π s d with
    | some ds => (me (e1.set i .no)).thenS fun a e2 => if ds.length < vmax then .nx (e2.set i (.tr s (setP π d (.lst (ds ++ [a]))))) else .bot
    | none => .bot
  | _ => .bot
/-- P.clear() -/
def vClrT (i : Nat) (mp : MP) (x : Sh) : MS := fun e => (mp e).thenS fun π e1 => match e1[i]? with
  | some (.tr s d) => match lstAt x π s d with
    | some _ => .nx (e1.set i (.tr s (setP π d (.lst []))))
    | none => .bot
  | _ => .bot
/-- P[k] = e of a list -/
def vSetT (i : Nat) (mp : MP) (x : Sh) (ix me : ME) : MS := fun e => (me e).thenS fun a e0 => (mp e0).thenS fun π e1 => match e1[i]? with
  | some (.tr s d) => match lstAt x π s d with
    | some ds => (ix (e1.set i .no)).thenS fun k e2 => match k with
      | .int n => match ixD ds.length n with
        | some j => .nx (e2.set i (.tr s (setP π d (.lst (ds.set j a)))))
        | none => .bot
      | _ => .bot
    | none => .bot
  | _ => .bot
/-- tokens and pins of a time forgotten -/
def clrMs (n : Nat) : Sl → Sl
  | .tk m => if m = n then .no else .tk m
  | .ow (.p m) ds => if m = n then .no else .ow (.p m) ds
  | s => s
def clrM (n : Nat) (e : Env) : Env := e.map (clrMs n)
/-- the turns: slot j has the k-th list, slot i is hidden; m more of them -/
def forM (n i j : Nat) (π : List Nat) (s : Sh) (b : MS) : Nat → Nat → D → Env → RS
  | 0, _, d, e => .nx (e.set i (.tr s d))
  | m + 1, k, d, e => match getP (π ++ [k]) d with
    | some (.lst es) => match b ((e.set j (.ow (.p n) es)).set i (.tk n)) with
      | .nx e1 => match e1[i]?, e1[j]? with
        | some (.tk a), some (.ow (.p c) es') => if a = n ∧ c = n then forM n i j π s b m (k + 1) (setP (π ++ [k]) d (.lst es')) (clrM n e1) else .bot
        | _, _ => .bot
      | .ct e1 => match e1[i]?, e1[j]? with
        | some (.tk a), some (.ow (.p c) es') => if a = n ∧ c = n then forM n i j π s b m (k + 1) (setP (π ++ [k]) d (.lst es')) (clrM n e1) else .bot
        | _, _ => .bot
      | .rt r e1 => .rt r (clrM n e1)
      | .err x e1 => .err x (clrM n e1)
      | _ => .bot
    | _ => .bot
/-- for y in P: the lists of a tree's list, each one's own for its turn -/
def vForM (n i j : Nat) (mp : MP) (b : MS) : MS := fun e => (mp e).thenS fun π e1 => match e1[i]? with
  | some (.tr s d) => match lstAt (.l .s) π s d with
    | some ds => if j < e1.length then forM n i j π s b ds.length 0 d (clrM n (e1.set i .no)) else .bot
    | none => .bot
  | _ => .bot
/-- xs.append(e), xs[k] = e of a list handed in, or of a turn's list -/
def vAppI (i : Nat) (a : ME) : MS := fun e => match e[i]? with
  | some (.ow (.p _) _) => (a e).thenS fun d e1 => match e1[i]? with
    | some (.ow (.p n) ds) => if ds.length < vmax then .nx (e1.set i (.ow (.p n) (ds ++ [d]))) else .bot
    | _ => .bot
  | _ => .bot
def vSetI (i : Nat) (ix a : ME) : MS := fun e => (a e).thenS fun d e1 => match e1[i]? with
  | some (.ow (.p _) _) => (ix e1).thenS fun k e2 => match e2[i]? with
    | some (.ow (.p n) ds) => match k with
      | .int k => match ixD ds.length k with
        | some j => .nx (e2.set i (.ow (.p n) (ds.set j d)))
        | none => .bot
      | _ => .bot
    | _ => .bot
  | _ => .bot
/-- what is shared in a tree is flat -/
def flatAt : Sh → D → Bool
  | .s, d => d.flat
  | .l .s, .lst ds => D.flats ds
  | .l (.l .s), .lst ds => ds.all fun d => match d with
    | .lst es => D.flats es
    | _ => false
  | .t [.l (.l .s), .l .s], .tup [.lst ds, .lst ts] => (ds.all fun d => match d with
    | .lst es => D.flats es
    | _ => false) && D.flats ts
  | _, _ => false
/-- a tree told while own things are looked at -/
def vBorX (s : Sh) (a : ME) : ME := fun e => match a (frz e) with
  | .ok d _ => if d.flat || flatAt s d then .ok d e else .bot
  | .err x _ => .err x e
  | .bot => .bot
/-! a tree handed in for good -/
/-- what the callee's slot holds then -/
def movS (s : Sh) (d : D) : Sl := if d.flat = true then .sh d else .tr s d
abbrev FM := List D → D → FR
/-- parameter j is the tree -/
def runM (np n j : Nat) (s : Sh) (b : MS) : FM := fun ds d => if ds.length + 1 = np ∧ j ≤ ds.length then (match b (insL j (movS s d) (ds.map Sl.sh) ++ List.replicate (n - np) .no) with
  | .nx _ => .ok .non
  | .rt r _ => .ok r
  | .err x _ => .err x
  | _ => .bot) else .bot
def vArgM (i : Nat) (m : MA) : MA := fun e => match e[i]? with
  | some (.tr _ _) => m e
  | some (.sh _) => m e
  | _ => .bot
def vCallM (i : Nat) (s : Sh) (fn : FM) (m : MA) : ME := fun e => (m e).bind fun ds e1 => match e1[i]? with
  | some (.tr s' d) => if Sh.eqb s s' = true ∧ d.flat = false then (match fn ds d with
    | .ok r => .ok r (e1.set i .no)
    | .err x => .err x (e1.set i .no)
    | .bot => .bot) else .bot
  | some (.sh d) => if d.flat = true then (match fn ds d with
    | .ok r => .ok r e1
    | .err x => .err x e1
    | .bot => .bot) else .bot
  | _ => .bot
/-! alike, dicts within (VL35) -/
mutual
def D.sm : D → D → Bool
  | .non, .non => true
  | .bl a, .bl b => a == b
  | .int i, .int j => decide (i = j)
  | .str x, .str y => decide (x = y)
  | .lst xs, .lst ys => D.sms xs ys
  | .tup xs, .tup ys => D.sms xs ys
  | .dct ks ds, .dct ls es => decide (ks = ls) && D.sms ds es
  | _, _ => false
def D.sms : List D → List D → Bool
  | [], [] => true
  | x :: xs, y :: ys => D.sm x y && D.sms xs ys
  | _, _ => false
end
mutual
def D.eqokN (n : Nat) : D → Bool
  | .non => true
  | .bl _ => true
  | .int _ => true
  | .str s => strS s
  | .dct ks ds => match n with
    | 0 => false
    | n + 1 => decide ks.Nodup && (decide (ks.length = ds.length) && D.eqoksN n ds)
  | .tup ds => match n with
    | 0 => false
    | n + 1 => D.eqoksN n ds
  | .lst ds => match n with
    | 0 => false
    | n + 1 => D.eqoksN n ds
def D.eqoksN (n : Nat) : List D → Bool
  | [] => true
  | d :: ds => D.eqokN n d && D.eqoksN n ds
end
/-- == of two tuples that are alike -/
def opEqN (a b : D) : Option D := match a with
  | .tup _ => if a.eqokN 20 && D.sm a b then some (.bl true) else none
  | _ => none
/-- over x[j].items(), x the tuple of slot i -/
def vForDX (f : D → Option (List D)) (i j : Nat) (g : D → Env → Option Env) (b : MS) : MS := fun e => match e[i]? with
  | some (.sh (.tup es)) => match es[j]? with
    | some d => match f d with
      | some ds => forL g b ds e
      | none => .bot
    | none => .bot
  | _ => .bot
def bfMaxL : List D → Option D
  | [.lst xs] => (intsD xs).bind fun ns => match ns with
    | [] => none
    | n :: ns => some (.int (ns.foldl (fun a b => if b > a then b else a) n))
  | _ => none
end VL

/-! VL1: the value layer's core: data over a heap (Rep), the state (Sto), readings and their meaning (Rd). -/
namespace VL
open PySem PySem.Spec PyProof.Rows L2

mutual
inductive Rep (K : PySem.W.Frag) (B : Hp) : V → D → Prop
  | non : Rep K B .non .non
  | bl (b : Bool) : Rep K B (.bl b) (.bl b)
  | int (i : Int) : Rep K B (.int i) (.int i)
  | str (x : Str) : Rep K B (.str x) (.str x)
  | tup {a : Addr} {xs : List V} {ds : List D} : SqT K B a xs → Reps K B xs ds → Rep K B (.ref a) (.tup ds)
  | lst {a : Addr} {xs : List V} {ds : List D} : SqL K B a xs → Reps K B xs ds → Rep K B (.ref a) (.lst ds)
  | dct {a : Addr} {kvs : List (Key × V)} {ks : List Ky} {ds : List D} : Rd B a (.dK kvs) → kvs.map (·.1) = ks → Reps K B (kvs.map (·.2)) ds → Rep K B (.ref a) (.dct ks ds)
inductive Reps (K : PySem.W.Frag) (B : Hp) : List V → List D → Prop
  | nil : Reps K B [] []
  | cons {v : V} {vs : List V} {d : D} {ds : List D} : Rep K B v d → Reps K B vs ds → Reps K B (v :: vs) (d :: ds)
end
section
variable {K : PySem.W.Frag} {B B' H H' : Hp}
theorem same_rd {a : Addr} {u : HO} (s : Same B B') (h : Rd B a u) : Rd B' a u := by
  rcases h with h | ⟨o, h⟩
  · exact .inl (s _ _ h)
  · exact .inr ⟨o, s _ _ h⟩
theorem same_sqT {a : Addr} {xs : List V} (s : Same B B') (h : SqT K B a xs) : SqT K B' a xs := by
  rcases h with h | h
  · exact .inl (same_rd s h)
  · exact .inr h
theorem same_sqL {a : Addr} {xs : List V} (s : Same B B') (h : SqL K B a xs) : SqL K B' a xs := s.seq h
mutual
theorem Rep.mono (s : Same B B') : ∀ {v : V} {d : D}, Rep K B v d → Rep K B' v d
  | _, _, .non => .non
  | _, _, .bl b => .bl b
  | _, _, .int i => .int i
  | _, _, .str x => .str x
  | _, _, .tup h r => .tup (same_sqT s h) (Reps.mono s r)
  | _, _, .lst h r => .lst (same_sqL s h) (Reps.mono s r)
  | _, _, .dct h e r => .dct (same_rd s h) e (Reps.mono s r)
theorem Reps.mono (s : Same B B') : ∀ {v : List V} {d : List D}, Reps K B v d → Reps K B' v d
  | _, _, .nil => .nil
  | _, _, .cons h r => .cons (Rep.mono s h) (Reps.mono s r)
end
theorem Reps.length : ∀ {vs : List V} {ds : List D}, Reps K B vs ds → vs.length = ds.length
  | _, _, .nil => rfl
  | _, _, .cons _ r => congrArg (· + 1) r.length
theorem Reps.get : ∀ {vs : List V} {ds : List D} {i : Nat} {d : D}, Reps K B vs ds → ds[i]? = some d → ∃ v, vs[i]? = some v ∧ Rep K B v d
  | _, _, _, _, .nil, h => by simp at h
  | _, _, 0, _, .cons r _, h => by simp at h; subst h; exact ⟨_, rfl, r⟩
  | _, _, i + 1, _, .cons _ t, h => by
    obtain ⟨v, e, r⟩ := Reps.get (i := i) t (by simpa using h)
    exact ⟨v, by simpa using e, r⟩
theorem Reps.append : ∀ {vs ws : List V} {ds es : List D}, Reps K B vs ds → Reps K B ws es → Reps K B (vs ++ ws) (ds ++ es)
  | _, _, _, _, .nil, s => s
  | _, _, _, _, .cons r t, s => .cons r (Reps.append t s)
theorem Reps.take : ∀ (n : Nat) {vs : List V} {ds : List D}, Reps K B vs ds → Reps K B (vs.take n) (ds.take n)
  | 0, _, _, _ => .nil
  | _ + 1, _, _, .nil => .nil
  | n + 1, _, _, .cons r t => .cons r (Reps.take n t)
theorem Reps.drop : ∀ (n : Nat) {vs : List V} {ds : List D}, Reps K B vs ds → Reps K B (vs.drop n) (ds.drop n)
  | 0, _, _, r => r
  | _ + 1, _, _, .nil => .nil
  | n + 1, _, _, .cons _ t => Reps.drop n t
theorem Reps.set : ∀ (n : Nat) {vs : List V} {ds : List D} {v : V} {d : D}, Rep K B v d → Reps K B vs ds → Reps K B (vs.set n v) (ds.set n d)
  | _, _, _, _, _, _, .nil => .nil
  | 0, _, _, _, _, q, .cons _ t => .cons q t
  | n + 1, _, _, _, _, q, .cons r t => .cons r (Reps.set n q t)
theorem Reps.dropLast {vs : List V} {ds : List D} (r : Reps K B vs ds) : Reps K B vs.dropLast ds.dropLast := by
  rw [List.dropLast_eq_take, List.dropLast_eq_take, r.length]
  exact r.take _
theorem Reps.reverse : ∀ {vs : List V} {ds : List D}, Reps K B vs ds → Reps K B vs.reverse ds.reverse
  | _, _, .nil => .nil
  | _, _, .cons r t => by
    rw [List.reverse_cons, List.reverse_cons]
    exact (Reps.reverse t).append (.cons r .nil)
theorem Reps.rep {vs : List V} {ds : List D} (r : Reps K B vs ds) : ∀ n : Nat, Reps K B (List.replicate n vs).flatten (List.replicate n ds).flatten
  | 0 => .nil
  | n + 1 => by
    rw [List.replicate_succ, List.replicate_succ, List.flatten_cons, List.flatten_cons]
    exact r.append (Reps.rep r n)
theorem Rep.ints : ∀ {ns : List Int}, Reps K B (ns.map V.int) (ns.map D.int)
  | [] => .nil
  | n :: ns => .cons (.int n) Rep.ints
/-- flat data leans on tuples alone -/
def Tups (B B' : Hp) : Prop := ∀ a xs, Rd B a (.tup xs) → Rd B' a (.tup xs)
mutual
theorem Rep.flat (s : Tups B B') : ∀ {v : V} {d : D}, d.flat = true → Rep K B v d → Rep K B' v d
  | _, _, _, .non => .non
  | _, _, _, .bl b => .bl b
  | _, _, _, .int i => .int i
  | _, _, _, .str x => .str x
  | _, _, f, .tup h r => by
    unfold D.flat at f
    refine .tup ?_ (Reps.flat s f r)
    rcases h with h | h
    · exact .inl (s _ _ h)
    · exact .inr h
  | _, _, f, .lst h r => by cases f
  | _, _, f, .dct h e r => by cases f
theorem Reps.flat (s : Tups B B') : ∀ {v : List V} {d : List D}, D.flats d = true → Reps K B v d → Reps K B' v d
  | _, _, _, .nil => .nil
  | _, _, f, .cons h r => by
    unfold D.flats at f
    rw [Bool.and_eq_true] at f
    exact .cons (Rep.flat s f.1 h) (Reps.flat s f.2 r)
end
end

/-- the entry of a def: its heap, what may be read of it, the lists that are its to change -/
structure Gr where
  H : Hp
  B : Hp
  io : List Addr
  tok : Nat → Addr
  pin : Nat → Addr

/-- what an own thing's object holds -/
inductive OwR (K : PySem.W.Frag) (B : Hp) : Kd → HO → List D → Prop
  | lst {vs : List V} {ds : List D} : Reps K B vs ds → OwR K B .l (.lst vs) ds
  | pin {n : Nat} {vs : List V} {ds : List D} : Reps K B vs ds → OwR K B (.p n) (.lst vs) ds
  | dct {kvs : List (Key × V)} {ks : List Ky} {es : List D} : kvs.map (·.1) = ks → Reps K B (kvs.map (·.2)) es → OwR K B .d (.dK kvs) [.dct ks es]
theorem OwR.mono {K : PySem.W.Frag} {B B' : Hp} (s : Same B B') {b : Kd} {o : HO} {ds : List D} (h : OwR K B b o ds) : OwR K B' b o ds := by
  cases h with
  | lst r => exact .lst (r.mono s)
  | pin r => exact .pin (r.mono s)
  | dct e r => exact .dct e (r.mono s)
theorem OwR.rep {K : PySem.W.Frag} {B : Hp} {p : Addr} {b : Kd} {o : HO} {ds : List D} (h : OwR K B b o ds) (e : B p = some o) : Rep K B (.ref p) (outD b ds) := by
  cases h with
  | lst r => exact .lst (SqL.of e) r
  | pin r => exact .lst (SqL.of e) r
  | dct e2 r => exact .dct (.inl e) e2 r
/-- no tuple, no errors' fields -/
theorem OwR.kind {K : PySem.W.Frag} {B : Hp} {b : Kd} {o : HO} {ds : List D} (h : OwR K B b o ds) : (∃ vs, o = .lst vs) ∨ ∃ kvs, o = .dK kvs := by
  cases h with
  | lst r => exact .inl ⟨_, rfl⟩
  | pin r => exact .inl ⟨_, rfl⟩
  | dct e2 r => exact .inr ⟨_, rfl⟩
/-- what a shape asks of an object: its kids -/
def kids : Sh → HO → Option (List (Sh × V))
  | .l x, .lst vs => some (vs.map fun v => (x, v))
  | .t xs, .tup vs => if xs.length = vs.length then some (xs.zip vs) else none
  | .d x, .dK kvs => some (kvs.map fun q => (x, q.2))
  | _, _ => none
/-- .. the data of the kids, where they fit the object -/
def kidsD : Sh → HO → D → Option (List D)
  | .l _, .lst _, .lst ds => some ds
  | .t _, .tup _, .tup ds => some ds
  | .d _, .dK kvs, .dct ks ds => if kvs.map (·.1) = ks then some ds else none
  | _, _, _ => none
def Sh.own : Sh → Bool
  | .l _ => true
  | .d _ => true
  | _ => false
/-- what is reached as own -/
inductive Reach (H : Hp) : Sh → V → Addr → Prop
  | r0 {s : Sh} {p : Addr} : s.own = true → Reach H s (.ref p) p
  | r1 {s x : Sh} {p a : Addr} {o : HO} {cs : List (Sh × V)} {v : V} : H p = some o → kids s o = some cs → (x, v) ∈ cs → Reach H x v a → Reach H s (.ref p) a
/-- an own tree: its own objects in H, its tuples and all that is shared in B -/
inductive Tr (K : PySem.W.Frag) (B H : Hp) : Sh → V → D → Prop
  | s {v : V} {d : D} : Rep K B v d → Tr K B H .s v d
  | nd {s : Sh} {p : Addr} {o : HO} {cs : List (Sh × V)} {d : D} {ds : List D} : H p = some o → (s.own = false → B p = some o) → kids s o = some cs → kidsD s o d = some ds → cs.length = ds.length →
      (∀ (i : Nat) (x : Sh) (v : V) (d : D), cs[i]? = some (x, v) → ds[i]? = some d → Tr K B H x v d) → (s.own = true → ∀ (i : Nat) (x : Sh) (v : V), cs[i]? = some (x, v) → ¬ Reach H x v p) →
      (∀ (i j : Nat) (x y : Sh) (v w : V) (a : Addr), cs[i]? = some (x, v) → cs[j]? = some (y, w) → Reach H x v a → Reach H y w a → i = j) → Tr K B H s (.ref p) d
section
variable {K : PySem.W.Frag} {B B' H H' : Hp} {s : Sh} {v : V} {d : D} {a : Addr}
theorem Reach.s_no (h : Reach H .s v a) : False := by
  generalize hs : Sh.s = s at h
  cases h with
  | r0 e => subst hs; cases e
  | r1 _ e _ _ => subst hs; cases e
theorem nd_tup {s : Sh} {o : HO} {cs : List (Sh × V)} (z : s.own = false) (e3 : kids s o = some cs) : ∃ vs, o = .tup vs := by
  cases s with
  | s => cases e3
  | l _ => cases z
  | d _ => cases z
  | t xs => cases o with
    | tup vs => exact ⟨vs, rfl⟩
    | _ => cases e3
/-- tuples stay -/
def TupsIn (B H : Hp) : Prop := ∀ p vs, B p = some (.tup vs) → H p = some (.tup vs)
theorem Reach.frame2 (sub : TupsIn B H') (t : Tr K B H s v d) (h : ∀ a, Reach H s v a → H' a = H a) : ∀ {a}, Reach H' s v a → Reach H s v a := by
  induction t with
  | s r => exact fun q => q.s_no.elim
  | @nd s p o cs d ds e1 e2 e3 e4 e5 e6 e7 e8 ih =>
    intro a q
    cases q with
    | r0 w => exact .r0 w
    | @r1 _ x _ _ o' cs' v' w1 w2 w3 w4 =>
      have ho : H' p = some o := by
        cases z : s.own with
        | true => rw [h p (.r0 z)]; exact e1
        | false =>
          obtain ⟨vs, rfl⟩ := nd_tup z e3
          exact sub _ _ (e2 z)
      rw [ho] at w1
      cases w1
      rw [e3] at w2
      cases w2
      obtain ⟨i, hi⟩ := List.mem_iff_getElem?.mp w3
      have hl : i < ds.length := by rw [← e5]; exact (List.getElem?_eq_some_iff.mp hi).1
      exact .r1 e1 e3 w3 (ih i x v' ds[i] hi (List.getElem?_eq_getElem hl) (fun a r => h a (.r1 e1 e3 w3 r)) w4)
theorem Tr.frame2 (sb : TupsIn B B') (sx : TupsIn B H') (hr : ∀ v d, Rep K B v d → Rep K B' v d) (t : Tr K B H s v d) (h : ∀ a, Reach H s v a → H' a = H a) : Tr K B' H' s v d := by
  induction t with
  | s r => exact .s (hr _ _ r)
  | @nd s p o cs d ds e1 e2 e3 e4 e5 e6 e7 e8 ih =>
    have kid : ∀ {i x v}, cs[i]? = some (x, v) → ∃ d, ds[i]? = some d ∧ (∀ a, Reach H x v a → H' a = H a) := fun {i x v} hi => by
      have hl : i < ds.length := by rw [← e5]; exact (List.getElem?_eq_some_iff.mp hi).1
      exact ⟨_, List.getElem?_eq_getElem hl, fun a r => h a (.r1 e1 e3 (List.mem_iff_getElem?.mpr ⟨i, hi⟩) r)⟩
    have back : ∀ {i x v a}, cs[i]? = some (x, v) → Reach H' x v a → Reach H x v a := fun {i x v a} hi r => by
      obtain ⟨d, hd, hk⟩ := kid hi
      exact Reach.frame2 sx (e6 i x v d hi hd) hk r
    have tp : s.own = false → ∀ {Y : Hp}, TupsIn B Y → Y p = some o := fun z Y q => by
      obtain ⟨vs, rfl⟩ := nd_tup z e3
      exact q _ _ (e2 z)
    refine .nd ?_ (fun z => tp z sb) e3 e4 e5 (fun i x v d hi hd => ?_) (fun z i x v hi r => e7 z i x v hi (back hi r)) fun i j x y v w a hi hj r1 r2 => e8 i j x y v w a hi hj (back hi r1) (back hj r2)
    · cases z : s.own with
      | true => rw [h p (.r0 z)]; exact e1
      | false => exact tp z sx
    · obtain ⟨_, _, hk⟩ := kid hi
      exact ih i x v d hi hd hk
theorem Reach.frame (sub : Same B H) (sub' : Same B H') (t : Tr K B H s v d) (h : ∀ a, Reach H s v a → H' a = H a) : ∀ {a}, Reach H' s v a → Reach H s v a := Reach.frame2 (fun _ _ q => sub' _ _ q) t h
theorem Tr.frame (sub : Same B H) (sub' : Same B' H') (sB : Same B B') (t : Tr K B H s v d) (h : ∀ a, Reach H s v a → H' a = H a) : Tr K B' H' s v d := Tr.frame2 (fun _ _ q => sB _ _ q) (fun _ _ q => sub' _ _ (sB _ _ q)) (fun _ _ r => r.mono sB) t h
theorem Tr.live (t : Tr K B H s v d) (r : Reach H s v a) : H a ≠ none := by
  induction t with
  | s _ => exact r.s_no.elim
  | @nd s p o cs d ds e1 e2 e3 e4 e5 e6 e7 e8 ih =>
    cases r with
    | r0 w => rw [e1]; simp
    | @r1 _ x _ _ o' cs' v' w1 w2 w3 w4 =>
      rw [e1] at w1
      cases w1
      rw [e3] at w2
      cases w2
      obtain ⟨i, hi⟩ := List.mem_iff_getElem?.mp w3
      have hl : i < ds.length := by rw [← e5]; exact (List.getElem?_eq_some_iff.mp hi).1
      exact ih i x v' _ hi (List.getElem?_eq_getElem hl) w4
/-- own things are lists and dicts -/
theorem Tr.kind (t : Tr K B H s v d) (r : Reach H s v a) : (∃ vs, H a = some (.lst vs)) ∨ ∃ kvs, H a = some (.dK kvs) := by
  induction t with
  | s _ => exact r.s_no.elim
  | @nd s p o cs d ds e1 e2 e3 e4 e5 e6 e7 e8 ih =>
    cases r with
    | r0 w =>
      cases s with
      | s => cases w
      | t _ => cases w
      | l x => cases o with
        | lst vs => exact .inl ⟨vs, e1⟩
        | _ => cases e3
      | d x => cases o with
        | dK kvs => exact .inr ⟨kvs, e1⟩
        | _ => cases e3
    | @r1 _ x _ _ o' cs' v' w1 w2 w3 w4 =>
      rw [e1] at w1
      cases w1
      rw [e3] at w2
      cases w2
      obtain ⟨i, hi⟩ := List.mem_iff_getElem?.mp w3
      have hl : i < ds.length := by rw [← e5]; exact (List.getElem?_eq_some_iff.mp hi).1
      exact ih i x v' _ hi (List.getElem?_eq_getElem hl) w4
theorem reps_of {B : Hp} : ∀ {vs : List V} {ds : List D}, vs.length = ds.length → (∀ (i : Nat) (v : V) (d : D), vs[i]? = some v → ds[i]? = some d → Rep K B v d) → Reps K B vs ds
  | [], [], _, _ => .nil
  | [], _ :: _, h, _ => by cases h
  | _ :: _, [], h, _ => by cases h
  | v :: vs, d :: ds, h, k => .cons (k 0 v d rfl rfl) (reps_of (by simpa using h) fun i v d h1 h2 => k (i + 1) v d (by simpa using h1) (by simpa using h2))
/-- told as it stands, where its own objects are readable -/
theorem Tr.rep (sB : Same B B') (t : Tr K B H s v d) (h : ∀ a, Reach H s v a → B' a = H a) : Rep K B' v d := by
  induction t with
  | s r => exact r.mono sB
  | @nd s p o cs d ds e1 e2 e3 e4 e5 e6 e7 e8 ih =>
    have hp : B' p = some o := by
      cases z : s.own with
      | true => rw [h p (.r0 z)]; exact e1
      | false => exact sB _ _ (e2 z)
    have kid : ∀ (i : Nat) (x : Sh) (v : V) (d : D), cs[i]? = some (x, v) → ds[i]? = some d → Rep K B' v d := fun i x v d hi hd => ih i x v d hi hd fun a r => h a (.r1 e1 e3 (List.mem_iff_getElem?.mpr ⟨i, hi⟩) r)
    cases s with
    | s => cases e3
    | l x => cases o with
      | lst vs => cases d with
        | lst es =>
          cases e3; cases e4
          exact .lst (SqL.of hp) (reps_of (by simpa using e5) fun i v d h1 h2 => kid i x v d (by rw [List.getElem?_map, h1]; rfl) h2)
        | _ => cases e4
      | _ => cases e3
    | t xs => cases o with
      | tup vs => cases d with
        | tup es =>
          have e3 : (if xs.length = vs.length then some (xs.zip vs) else none) = some cs := e3
          split at e3
          · rename_i hl
            cases e3; cases e4
            refine .tup (SqT.of hp) (reps_of (by rw [List.length_zip, hl] at e5; simpa using e5) fun i v d h1 h2 => ?_)
            have hi : i < xs.length := by rw [hl]; exact (List.getElem?_eq_some_iff.mp h1).1
            exact kid i xs[i] v d (List.getElem?_zip_eq_some.mpr ⟨List.getElem?_eq_getElem hi, h1⟩) h2
          · cases e3
        | _ => cases e4
      | _ => cases e3
    | d x => cases o with
      | dK kvs => cases d with
        | dct ks es =>
          cases e3
          have e4 : (if kvs.map (·.1) = ks then some es else none) = some ds := e4
          split at e4
          · rename_i hk
            cases e4
            refine .dct (.inl hp) hk (reps_of (by simpa using e5) fun i v d h1 h2 => ?_)
            rw [List.getElem?_map] at h1
            cases w : kvs[i]? with
            | none => rw [w] at h1; cases h1
            | some q =>
              rw [w] at h1; cases h1
              exact kid i x q.2 d (by rw [List.getElem?_map, w]; rfl) h2
          · cases e4
        | _ => cases e4
      | _ => cases e3
end
inductive SlOk (K : PySem.W.Frag) (G : Gr) (B H : Hp) : Option V → Sl → Prop
  | no {v : Option V} : SlOk K G B H v .no
  | sh {v : V} {d : D} : Rep K B v d → SlOk K G B H (some v) (.sh d)
  | ow {b : Kd} {p : Addr} {o : HO} {ds : List D} : B p = none → G.H p = none → H p = some o → OwR K B b o ds → (∀ n, b = .p n → p = G.pin n) → SlOk K G B H (some (.ref p)) (.ow b ds)
  | tk {n : Nat} : SlOk K G B H (some (.ref (G.tok n))) (.tk n)
  | tr {v : V} {s : Sh} {d : D} : Tr K B H s v d → (∀ a, Reach H s v a → B a = none ∧ G.H a = none) → SlOk K G B H (some v) (.tr s d)
/-- what a slot owns -/
def OwnS (H : Hp) (v : Option V) : Sl → Addr → Prop
  | .ow _ _, a => v = some (.ref a)
  | .tr s _, a => ∃ w, v = some w ∧ Reach H s w a
  | _, _ => False
/-- what is owned there -/
def Owned (H : Hp) (σ : L2.St) (e : Env) (a : Addr) : Prop := ∃ (i : Nat) (s : Sl) (v : Option V), e[i]? = some s ∧ σ[i]? = some v ∧ OwnS H v s a

structure Sto (K : PySem.W.Frag) (G : Gr) (B H : Hp) (σ : L2.St) (e : Env) : Prop where
  len : σ.length = e.length
  sl : ∀ (i : Nat) (s : Sl), e[i]? = some s → ∃ v, σ[i]? = some v ∧ SlOk K G B H v s
  dis : ∀ (i j : Nat) (s t : Sl) (v w : Option V) (a : Addr), e[i]? = some s → e[j]? = some t → σ[i]? = some v → σ[j]? = some w → OwnS H v s a → OwnS H w t a → i = j
  sub : Same B H
  b0 : Same G.B B
  keep : ∀ a o, G.H a = some o → a ∉ G.io → H a = some o
  dom : ∀ a, G.H a ≠ none → H a ≠ none
  new : ∀ a, B a ≠ none → G.B a ≠ none ∨ G.H a = none
  iom : ∀ a, a ∈ G.io → G.H a ≠ none

section
variable {K : PySem.W.Frag} {G G' : Gr} {B B' H H' : Hp} {σ : L2.St} {e : Env}
theorem same_none (s : Same B H) {p : Addr} (h : H p = none) : B p = none := s.free h
theorem same_upd' {p : Addr} {o : HO} (h : H p = none) : Same H (upd H p o) := fun b x q => by
  rw [upd_ne (ne_of_none q h)]
  exact q
theorem same_upd2 (s : Same B H) {p : Addr} {o : HO} : Same (upd B p o) (upd H p o) := fun b x q => by
  unfold upd at q ⊢
  split
  · rename_i z; rw [if_pos z] at q; exact q
  · rename_i z; rw [if_neg z] at q; exact s _ _ q
/-- what a slot owns lies apart -/
theorem SlOk.apart {v : Option V} {s : Sl} (ok : SlOk K G B H v s) {a : Addr} (h : OwnS H v s a) : B a = none ∧ G.H a = none ∧ H a ≠ none := by
  cases ok with
  | no => exact h.elim
  | sh _ => exact h.elim
  | tk => exact h.elim
  | ow h1 h2 h3 _ _ =>
    have e : _ = some (V.ref a) := h
    cases e
    exact ⟨h1, h2, by rw [h3]; simp⟩
  | tr t f =>
    obtain ⟨w, hw, r⟩ := h
    cases hw
    exact ⟨(f a r).1, (f a r).2, t.live r⟩
theorem SlOk.kind {v : Option V} {s : Sl} (ok : SlOk K G B H v s) {a : Addr} (h : OwnS H v s a) : (∃ vs, H a = some (.lst vs)) ∨ ∃ kvs, H a = some (.dK kvs) := by
  cases ok with
  | no => exact h.elim
  | sh _ => exact h.elim
  | tk => exact h.elim
  | ow h1 h2 h3 h4 _ =>
    have e : _ = some (V.ref a) := h
    cases e
    rw [h3]
    rcases h4.kind with ⟨vs, rfl⟩ | ⟨kvs, rfl⟩
    · exact .inl ⟨vs, rfl⟩
    · exact .inr ⟨kvs, rfl⟩
  | tr t f =>
    obtain ⟨w, hw, r⟩ := h
    cases hw
    exact t.kind r
theorem OwnS.frame {v : Option V} {s : Sl} (ok : SlOk K G B H v s) (sub : Same B H) (sub' : Same B H') (h : ∀ a, OwnS H v s a → H' a = H a) {a : Addr} (q : OwnS H' v s a) : OwnS H v s a := by
  cases ok with
  | no => exact q.elim
  | sh _ => exact q.elim
  | tk => exact q.elim
  | ow h1 h2 h3 _ _ => exact q
  | tr t f =>
    obtain ⟨w, hw, r⟩ := q
    cases hw
    exact ⟨_, rfl, Reach.frame sub sub' t (fun a r => h a ⟨_, rfl, r⟩) r⟩
/-- a slot's truth elsewhere -/
theorem SlOk.mv {v : Option V} {s : Sl} (ok : SlOk K G B H v s) (sub : Same B H) (sB : Same B B') (sub' : Same B' H') (hH : ∀ a, OwnS H v s a → H' a = H a) (hB : ∀ a, OwnS H v s a → B' a = none) (hG : ∀ a, OwnS H v s a → G'.H a = none) (ht : G'.tok = G.tok) (hp : G'.pin = G.pin) : SlOk K G' B' H' v s := by
  cases ok with
  | no => exact .no
  | sh r => exact .sh (r.mono sB)
  | @tk n =>
    have e : G'.tok n = G.tok n := by rw [ht]
    exact Eq.subst (motive := fun z => SlOk K G' B' H' (some (.ref z)) (.tk n)) e .tk
  | @ow b p o ds h1 h2 h3 h4 h5 => exact .ow (hB p rfl) (hG p rfl) (by rw [hH p rfl]; exact h3) (h4.mono sB) (fun n q => by rw [hp]; exact h5 n q)
  | tr t f => exact .tr (t.frame sub sub' sB fun a r => hH a ⟨_, rfl, r⟩) fun a r =>
      have r := Reach.frame sub (sB.trans sub') t (fun a r => hH a ⟨_, rfl, r⟩) r
      ⟨hB a ⟨_, rfl, r⟩, hG a ⟨_, rfl, r⟩⟩
theorem Sto.apart (S : Sto K G B H σ e) {a : Addr} (h : Owned H σ e a) : B a = none ∧ G.H a = none ∧ H a ≠ none := by
  obtain ⟨i, s, v, h1, h2, h3⟩ := h
  obtain ⟨w, e1, ok⟩ := S.sl i s h1
  rw [h2] at e1
  cases e1
  exact ok.apart h3
/-- of two slots with own lists -/
theorem Sto.dis' (S : Sto K G B H σ e) (i j : Nat) (p : Addr) (b b' : Kd) (ds ds' : List D) (h1 : e[i]? = some (.ow b ds)) (h2 : e[j]? = some (.ow b' ds')) (h3 : σ[i]? = some (some (.ref p))) (h4 : σ[j]? = some (some (.ref p))) : i = j := S.dis i j _ _ _ _ p h1 h2 h3 h4 rfl rfl
theorem Owned.at {i : Nat} {s : Sl} {v : Option V} {a : Addr} (h1 : e[i]? = some s) (h2 : σ[i]? = some v) (h3 : OwnS H v s a) : Owned H σ e a := ⟨i, s, v, h1, h2, h3⟩
/-- what is owned is owned where it stays -/
theorem Sto.own_frame (S : Sto K G B H σ e) (sub' : Same B H') (h : ∀ a, Owned H σ e a → H' a = H a) {a : Addr} (q : Owned H' σ e a) : Owned H σ e a := by
  obtain ⟨i, s, v, h1, h2, h3⟩ := q
  obtain ⟨v', e1, ok⟩ := S.sl i s h1
  rw [h2] at e1
  cases e1
  exact .at h1 h2 (h3.frame ok S.sub sub' fun a q => h a (.at h1 h2 q))
theorem Sto.own_new (S : Sto K G B H σ e) {p : Addr} {o : HO} (hp : H p = none) {a : Addr} (q : Owned (upd H p o) σ e a) : Owned H σ e a :=
  S.own_frame (S.sub.trans (same_upd' hp)) (fun a q => upd_ne fun z => (S.apart q).2.2 (z ▸ hp)) q
/-- the state elsewhere: what is owned stays -/
theorem Sto.mv (S : Sto K G B H σ e) (ht : G'.tok = G.tok) (hp : G'.pin = G.pin) (sB : Same B B') (sub' : Same B' H') (hH : ∀ a, Owned H σ e a → H' a = H a) (hB : ∀ a, Owned H σ e a → B' a = none) (hG : ∀ a, Owned H σ e a → G'.H a = none) (b0 : Same G'.B B')
    (keep : ∀ a o, G'.H a = some o → a ∉ G'.io → H' a = some o) (dom : ∀ a, G'.H a ≠ none → H' a ≠ none) (new : ∀ a, B' a ≠ none → G'.B a ≠ none ∨ G'.H a = none) (iom : ∀ a, a ∈ G'.io → G'.H a ≠ none) : Sto K G' B' H' σ e where
  len := S.len
  sl := fun i s h => by
    obtain ⟨v, e1, ok⟩ := S.sl i s h
    exact ⟨v, e1, ok.mv S.sub sB sub' (fun a q => hH a (.at h e1 q)) (fun a q => hB a (.at h e1 q)) (fun a q => hG a (.at h e1 q)) ht hp⟩
  dis := fun i j s t v w a h1 h2 h3 h4 h5 h6 => by
    obtain ⟨v', e1, ok1⟩ := S.sl i s h1
    obtain ⟨w', e2, ok2⟩ := S.sl j t h2
    rw [h3] at e1; cases e1
    rw [h4] at e2; cases e2
    exact S.dis i j s t v w a h1 h2 h3 h4 (h5.frame ok1 S.sub (sB.trans sub') fun a q => hH a (.at h1 h3 q)) (h6.frame ok2 S.sub (sB.trans sub') fun a q => hH a (.at h2 h4 q))
  sub := sub'
  b0 := b0
  keep := keep
  dom := dom
  new := new
  iom := iom
/-- .. for the same entry -/
theorem Sto.mv' (S : Sto K G B H σ e) (sB : Same B B') (sub' : Same B' H') (hH : ∀ a, Owned H σ e a → H' a = H a) (hB : ∀ a, Owned H σ e a → B' a = none)
    (keep : ∀ a o, G.H a = some o → a ∉ G.io → H' a = some o) (dom : ∀ a, G.H a ≠ none → H' a ≠ none) (new : ∀ a, B' a ≠ none → G.B a ≠ none ∨ G.H a = none) : Sto K G B' H' σ e :=
  S.mv rfl rfl sB sub' hH hB (fun a q => (S.apart q).2.1) (S.b0.trans sB) keep dom new S.iom
/-- G-fresh -/
theorem Sto.fresh (S : Sto K G B H σ e) {p : Addr} (hp : H p = none) : G.H p = none := by
  cases z : G.H p with
  | none => rfl
  | some x => exact absurd hp (S.dom p (by rw [z]; simp))
/-- a new object, readable from now on -/
theorem Sto.alloc (S : Sto K G B H σ e) {p : Addr} {o : HO} (hp : H p = none) : Sto K G (upd B p o) (upd H p o) σ e := by
  have ne : ∀ {a}, Owned H σ e a → a ≠ p := fun q z => (S.apart q).2.2 (z ▸ hp)
  refine S.mv' (same_upd' (same_none S.sub hp)) (same_upd2 S.sub) (fun a q => upd_ne (ne q)) (fun a q => by rw [upd_ne (ne q)]; exact (S.apart q).1) (fun a x h1 h2 => ?_) (fun a h => ?_) fun a h => ?_
  · have h3 := S.keep a x h1 h2
    rw [upd_ne (ne_of_none h3 hp)]
    exact h3
  · by_cases q : a = p
    · rw [q, upd_same]; simp
    · rw [upd_ne q]; exact S.dom a h
  · by_cases q : a = p
    · exact .inr (q ▸ S.fresh hp)
    · rw [upd_ne q] at h; exact S.new a h
/-- a new object that is nobody's yet -/
theorem Sto.loose (S : Sto K G B H σ e) {p : Addr} {o : HO} (hp : H p = none) : Sto K G B (upd H p o) σ e := by
  have ne : ∀ {a}, Owned H σ e a → a ≠ p := fun q z => (S.apart q).2.2 (z ▸ hp)
  refine S.mv' (Same.refl B) (S.sub.trans (same_upd' hp)) (fun a q => upd_ne (ne q)) (fun a q => (S.apart q).1) (fun a x h1 h2 => ?_) (fun a h => ?_) S.new
  · have h3 := S.keep a x h1 h2
    rw [upd_ne (ne_of_none h3 hp)]
    exact h3
  · by_cases q : a = p
    · rw [q, upd_same]; simp
    · rw [upd_ne q]; exact S.dom a h
/-- a list that nobody has, put into B -/
theorem Sto.take (S : Sto K G B H σ e) {p : Addr} {o : HO} (hp : H p = some o) (hb : B p = none) (hg : G.H p = none) (ho : ¬ Owned H σ e p) : Sto K G (upd B p o) H σ e := by
  have ne : ∀ {a}, Owned H σ e a → a ≠ p := fun q z => ho (z ▸ q)
  refine S.mv' (same_upd' hb) (fun b x q => ?_) (fun a q => rfl) (fun a q => by rw [upd_ne (ne q)]; exact (S.apart q).1) S.keep S.dom fun a h => ?_
  · by_cases z : b = p
    · rw [z, upd_same] at q; rw [z, hp]; exact q
    · rw [upd_ne z] at q; exact S.sub _ _ q
  · by_cases q : a = p
    · exact .inr (q ▸ hg)
    · rw [upd_ne q] at h; exact S.new a h
/-- a slot forgotten -/
theorem Sto.drop (S : Sto K G B H σ e) (i : Nat) (v : Option V) : Sto K G B H (σ.set i v) (e.set i .no) where
  len := by rw [List.length_set, List.length_set]; exact S.len
  sl := fun j s h => by
    by_cases q : i = j
    · subst q
      have hl : i < e.length := by
        have := (List.getElem?_eq_some_iff.mp h).1
        rw [List.length_set] at this; exact this
      rw [List.getElem?_set_self hl] at h
      cases h
      exact ⟨v, List.getElem?_set_self (by rw [S.len]; exact hl), .no⟩
    · rw [List.getElem?_set_ne q] at h
      rw [List.getElem?_set_ne q]
      exact S.sl j s h
  dis := fun j k s t v w a h1 h2 h3 h4 h5 h6 => by
    have nj : ∀ {j s v}, (e.set i .no)[j]? = some s → OwnS H v s a → i ≠ j := fun {j s v} h1 h5 q => by
      subst q
      have hl := (List.getElem?_eq_some_iff.mp h1).1
      rw [List.length_set] at hl
      rw [List.getElem?_set_self hl] at h1
      cases h1
      exact h5
    have n1 := nj h1 h5
    have n2 := nj h2 h6
    rw [List.getElem?_set_ne n1] at h1 h3
    rw [List.getElem?_set_ne n2] at h2 h4
    exact S.dis j k s t _ _ a h1 h2 h3 h4 h5 h6
  sub := S.sub
  b0 := S.b0
  keep := S.keep
  dom := S.dom
  new := S.new
  iom := S.iom
/-- a slot forgotten, its place as it was -/
theorem Sto.lose (S : Sto K G B H σ e) (i : Nat) : Sto K G B H σ (e.set i .no) := by
  by_cases hl : i < σ.length
  · have q := S.drop i σ[i]
    have z : σ.set i σ[i] = σ := List.set_getElem_self hl
    rw [z] at q
    exact q
  · have z : e.set i .no = e := List.set_eq_of_length_le (by have := S.len; omega)
    rw [z]
    exact S
theorem Owned.lose {i : Nat} {a : Addr} (h : Owned H σ (e.set i .no) a) : ∃ (j : Nat) (s : Sl) (v : Option V), j ≠ i ∧ e[j]? = some s ∧ σ[j]? = some v ∧ OwnS H v s a := by
  obtain ⟨j, s, v, h1, h2, h3⟩ := h
  have n : i ≠ j := fun q => by
    subst q
    have hl := (List.getElem?_eq_some_iff.mp h1).1
    rw [List.length_set] at hl
    rw [List.getElem?_set_self hl] at h1
    cases h1
    exact h3
  rw [List.getElem?_set_ne n] at h1
  exact ⟨j, s, v, Ne.symm n, h1, h2, h3⟩
theorem Owned.of_lose {i : Nat} {a : Addr} (h : Owned H σ (e.set i .no) a) : Owned H σ e a := by
  obtain ⟨j, s, v, _, h1, h2, h3⟩ := h.lose
  exact ⟨j, s, v, h1, h2, h3⟩
/-- what slot i owned is nobody's behind -/
theorem Sto.lost (S : Sto K G B H σ e) {i : Nat} {s : Sl} {v : Option V} {a : Addr} (h1 : e[i]? = some s) (h2 : σ[i]? = some v) (h3 : OwnS H v s a) : ¬ Owned H σ (e.set i .no) a := fun q => by
  obtain ⟨j, t, w, n, q1, q2, q3⟩ := q.lose
  exact n (S.dis j i t s w v a q1 h1 q2 h2 q3 h3)
/-- a value stored -/
theorem Sto.put (S : Sto K G B H σ e) (i : Nat) {v : V} {s : Sl} (hs : SlOk K G B H (some v) s) (ho : ∀ a, OwnS H (some v) s a → ¬ Owned H σ (e.set i .no) a) : Sto K G B H (σ.set i (some v)) (e.set i s) where
  len := by rw [List.length_set, List.length_set]; exact S.len
  sl := fun j s' h => by
    by_cases q : i = j
    · subst q
      have hl : i < e.length := by
        have := (List.getElem?_eq_some_iff.mp h).1
        rw [List.length_set] at this; exact this
      rw [List.getElem?_set_self hl] at h
      cases h
      exact ⟨_, List.getElem?_set_self (by rw [S.len]; exact hl), hs⟩
    · rw [List.getElem?_set_ne q] at h
      rw [List.getElem?_set_ne q]
      exact S.sl j s' h
  dis := fun j k s1 s2 v1 v2 a h1 h2 h3 h4 h5 h6 => by
    have low : ∀ {j : Nat} {s' : Sl}, (e.set i s)[j]? = some s' → j < e.length := fun {j s'} h => by
      have hl := (List.getElem?_eq_some_iff.mp h).1
      rw [List.length_set] at hl
      exact hl
    have one : ∀ {k : Nat} {s2 : Sl} {v2 : Option V}, i ≠ k → OwnS H (some v) s a → (e.set i s)[k]? = some s2 → (σ.set i (some v))[k]? = some v2 → OwnS H v2 s2 a → False := fun {k s2 v2} n h5 h2 h4 h6 => by
      rw [List.getElem?_set_ne n] at h2 h4
      exact ho a h5 ⟨k, s2, v2, by rw [List.getElem?_set_ne n]; exact h2, h4, h6⟩
    by_cases qj : i = j
    · subst qj
      have hl := low h1
      rw [List.getElem?_set_self hl] at h1
      rw [List.getElem?_set_self (by rw [S.len]; exact hl)] at h3
      cases h1; cases h3
      by_cases qk : i = k
      · exact qk
      · exact (one qk h5 h2 h4 h6).elim
    · by_cases qk : i = k
      · subst qk
        have hl := low h2
        rw [List.getElem?_set_self hl] at h2
        rw [List.getElem?_set_self (by rw [S.len]; exact hl)] at h4
        cases h2; cases h4
        exact (one qj h6 h1 h3 h5).elim
      · rw [List.getElem?_set_ne qj] at h1 h3
        rw [List.getElem?_set_ne qk] at h2 h4
        exact S.dis j k s1 s2 v1 v2 a h1 h2 h3 h4 h5 h6
  sub := S.sub
  b0 := S.b0
  keep := S.keep
  dom := S.dom
  new := S.new
  iom := S.iom
theorem own_sh {v : Option V} {d : D} : ∀ a, OwnS H v (.sh d) a → ¬ Owned H σ e a := fun _ h => h.elim
/-- slot i holds another thing, what it owns changed -/
theorem Sto.swap (S : Sto K G B H σ e) {i : Nat} {s : Sl} {v : V} (hi : i < e.length) (hσ : σ[i]? = some (some v)) (hs : SlOk K G B H (some v) s) (ho : ∀ a, OwnS H (some v) s a → ¬ Owned H σ (e.set i .no) a) : Sto K G B H σ (e.set i s) := by
  have q := S.put i hs ho
  have hl' : i < σ.length := by rw [S.len]; exact hi
  have z : σ.set i (some v) = σ := by
    have q : σ[i] = some v := by
      rw [List.getElem?_eq_getElem hl'] at hσ; exact Option.some.inj hσ
    rw [← q]; exact List.set_getElem_self hl'
  rw [z] at q
  exact q
/-- what nobody has is written -/
theorem Sto.poke (S : Sto K G B H σ e) {p : Addr} {o : HO} (hb : B p = none) (hg : G.H p = none) (ho : ¬ Owned H σ e p) : Sto K G B (upd H p o) σ e := by
  have ne : ∀ {a}, Owned H σ e a → a ≠ p := fun q z => ho (z ▸ q)
  refine S.mv' (Same.refl B) (fun b x q => ?_) (fun a q => upd_ne (ne q)) (fun a q => (S.apart q).1) (fun a x h1 h2 => ?_) (fun a h => ?_) S.new
  · rw [upd_ne (ne_of_none q hb)]
    exact S.sub _ _ q
  · rw [upd_ne (ne_of_none h1 hg)]
    exact S.keep a x h1 h2
  · by_cases q : a = p
    · rw [q, upd_same]; simp
    · rw [upd_ne q]; exact S.dom a h
theorem Sto.poke_no (S : Sto K G B H σ e) {p : Addr} {o : HO} (hb : B p = none) (ho : ¬ Owned H σ e p) : ¬ Owned (upd H p o) σ e p := fun q =>
  ho (S.own_frame (fun b x q => by rw [upd_ne (ne_of_none q hb)]; exact S.sub _ _ q) (fun a q => upd_ne fun z => ho (by rw [← z]; exact q)) q)
theorem Sto.sameAt {i : Nat} {b : Kd} {p : Addr} {ds : List D} (S : Sto K G B H σ e) (he : e[i]? = some (.ow b ds)) (hσ : σ[i]? = some (some (.ref p))) : ∃ o, B p = none ∧ G.H p = none ∧ H p = some o ∧ OwR K B b o ds ∧ ∀ n, b = .p n → p = G.pin n := by
  obtain ⟨v, e1, ok⟩ := S.sl i _ he
  rw [hσ] at e1
  cases e1
  cases ok with
  | ow hb hg hh hr hpin => exact ⟨_, hb, hg, hh, hr, hpin⟩
/-- an owned list is written -/
theorem Sto.write (S : Sto K G B H σ e) {i : Nat} {b : Kd} {p : Addr} {ds ds' : List D} {o' : HO} (he : e[i]? = some (.ow b ds)) (hσ : σ[i]? = some (some (.ref p))) (r : OwR K B b o' ds') : Sto K G B (upd H p o') σ (e.set i (.ow b ds')) := by
  obtain ⟨o, hb, hg, hh, hr, hpin⟩ := S.sameAt he hσ
  have hi : i < e.length := (List.getElem?_eq_some_iff.mp he).1
  have S1 := (S.lose i).poke (o := o') hb hg (S.lost he hσ rfl)
  have q := S1.swap (i := i) (s := .ow b ds') (v := .ref p) (by rw [List.length_set]; exact hi) hσ (.ow hb hg upd_same r hpin) fun a h => by
    have h : some (V.ref p) = some (V.ref a) := h
    cases h
    rw [List.set_set]
    intro ⟨j, s, v, h1, h2, h3⟩
    refine S.lost he hσ rfl ⟨j, s, v, h1, h2, ?_⟩
    obtain ⟨v', e1, ok⟩ := (S.lose i).sl j s h1
    rw [h2] at e1
    cases e1
    exact h3.frame ok S.sub S1.sub fun a q => upd_ne fun z => S.lost he hσ rfl (z ▸ .at h1 h2 q)
  rw [List.set_set] at q
  exact q
/-- an owned list handed out -/
theorem Sto.hand (S : Sto K G B H σ e) {i : Nat} {b : Kd} {p : Addr} {ds : List D} {o : HO} (he : e[i]? = some (.ow b ds)) (hσ : σ[i]? = some (some (.ref p))) (hh : H p = some o) (hr : OwR K B b o ds) (hb : B p = none) (hg : G.H p = none) :
    Sto K G (upd B p o) H σ (e.set i (.sh (outD b ds))) := by
  have hi : i < e.length := (List.getElem?_eq_some_iff.mp he).1
  have S2 := (S.lose i).take hh hb hg (S.lost he hσ rfl)
  have sb : Same B (upd B p o) := same_upd' hb
  have q := S2.swap (i := i) (s := .sh (outD b ds)) (by rw [List.length_set]; exact hi) hσ (.sh ((hr.mono sb).rep upd_same)) own_sh
  rw [List.set_set] at q
  exact q
open Classical in
/-- B and what P tells of H -/
noncomputable def withH (B H : Hp) (P : Addr → Prop) : Hp := fun a => match B a with
  | some o => some o
  | none => if P a then H a else none
theorem withH_same {P : Addr → Prop} : Same B (withH B H P) := fun a o h => by unfold withH; rw [h]
theorem withH_at {P : Addr → Prop} {a : Addr} (hb : B a = none) (hp : P a) : withH B H P a = H a := by unfold withH; rw [hb]; exact if_pos hp
theorem withH_no {P : Addr → Prop} {a : Addr} (hb : B a = none) (hp : ¬ P a) : withH B H P a = none := by unfold withH; rw [hb]; exact if_neg hp
theorem withH_sub {P : Addr → Prop} (s : Same B H) : Same (withH B H P) H := fun a o h => by
  unfold withH at h
  split at h
  · rename_i o' h'; exact (s _ _ h').trans h
  · split at h
    · exact h
    · cases h
/-- a set of objects that nobody has, put into B -/
theorem Sto.takes (S : Sto K G B H σ e) {P : Addr → Prop} (h : ∀ a, P a → B a = none ∧ G.H a = none) (ho : ∀ a, P a → ¬ Owned H σ e a) : Sto K G (withH B H P) H σ e := by
  refine S.mv' withH_same (withH_sub S.sub) (fun a q => rfl) (fun a q => withH_no (S.apart q).1 fun z => ho a z q) S.keep S.dom fun a q => ?_
  cases z : B a with
  | some o => exact S.new a (by rw [z]; simp)
  | none =>
    by_cases w : P a
    · exact .inr (h a w).2
    · rw [withH_no z w] at q; exact absurd rfl q
/-- an own tree handed out -/
theorem Sto.handT (S : Sto K G B H σ e) {i : Nat} {v : V} {s : Sh} {d : D} (he : e[i]? = some (.tr s d)) (hσ : σ[i]? = some (some v)) : Rep K (withH B H (Reach H s v)) v d ∧ Sto K G (withH B H (Reach H s v)) H σ (e.set i (.sh d)) := by
  have hi : i < e.length := (List.getElem?_eq_some_iff.mp he).1
  obtain ⟨v', e1, ok⟩ := S.sl i _ he
  rw [hσ] at e1
  cases e1
  cases ok with
  | tr t f =>
    have S2 := (S.lose i).takes (P := Reach H s v) f fun a r => S.lost he hσ ⟨v, rfl, r⟩
    have r : Rep K (withH B H (Reach H s v)) v d := t.rep withH_same fun a r => withH_at (f a r).1 r
    have q := S2.swap (i := i) (s := .sh d) (by rw [List.length_set]; exact hi) hσ (.sh r) own_sh
    rw [List.set_set] at q
    exact ⟨r, q⟩
end

/-- B and all owned lists -/
noncomputable def full (B H : Hp) (σ : L2.St) (e : Env) : Hp := withH B H (Owned H σ e)
/-- owned by a name of the frame -/
abbrev OwnF (H : Hp) (σ : L2.St) (e : Env) (a : Addr) : Prop := Owned H σ e a
open Classical in
noncomputable def reb (G : Gr) (B H : Hp) (σ : L2.St) (e : Env) : Gr := ⟨fun a => if OwnF H σ e a then none else H a, B, G.io, G.tok, G.pin⟩
/-- the n-th token tells p -/
def GT (G : Gr) (n : Nat) (p : Addr) : Gr := { G with tok := fun m => if m = n then p else G.tok m }
/-- the n-th pin is p -/
def GP (G : Gr) (n : Nat) (p : Addr) : Gr := { G with pin := fun m => if m = n then p else G.pin m }
/-- what stands at d put otherwise -/
def lkH (d : Addr) (f : HO) (h : Hp) : Hp := fun a => if a = d then (h a).map fun _ => f else h a
def lkG (d : Addr) (f : HO) (G : Gr) : Gr := { G with H := lkH d f G.H, B := lkH d f G.B }
/-- what surrounds: the wish for exceptions, what is known of the entry -/
structure Am (K : PySem.W.Frag) where
  w : WX
  g : Gr → Prop
  full : ∀ (G : Gr) (B H : Hp) (σ : L2.St) (e : Env), g G → Sto K G B H σ e → g ⟨H, full B H σ e, [], G.tok, G.pin⟩
  reb : ∀ (G : Gr) (B H : Hp) (σ : L2.St) (e : Env), g G → Sto K G B H σ e → g (reb G B H σ e)
  gtk : ∀ (G : Gr) (n : Nat) (p : Addr), n ≠ 0 → g G → g (GT G n p)
  lk : ∀ (G : Gr) (d : Addr) (f : HO), (∀ o, G.B d = some o → (∃ kvs, o = .dK kvs) ∨ ∃ x kvs, o = .frz x (.dK kvs)) → g G → g (lkG d f G)
  gpn : ∀ (G : Gr) (n : Nat) (p : Addr), g G → g (GP G n p)
def Am.of (K : PySem.W.Frag) (w : WX) : Am K := ⟨w, fun _ => True, fun _ _ _ _ _ _ _ => trivial, fun _ _ _ _ _ _ _ => trivial, fun _ _ _ _ _ => trivial, fun _ _ _ _ _ => trivial, fun _ _ _ _ => trivial⟩
/-- another wish -/
def Am.to {K : PySem.W.Frag} (W : Am K) (w : WX) : Am K := ⟨w, W.g, W.full, W.reb, W.gtk, W.lk, W.gpn⟩
/-- an exception that flies -/
def XRep (K : PySem.W.Frag) (mg : Str → Option Value) (B : Hp) (cls : Value) (dd : Option Addr) (x : Xc) : Prop :=
  ∃ C, mg x.cls = some (.ref C) ∧ cls = .ref C ∧ match x.val with
    | none => dd = none
    | some (f, n) => ∃ a, dd = some a ∧ B a = some (.xd [(f, .int n)])

/-- what is due of a result -/
abbrev RP (α β : Type) := Gr → Hp → Hp → L2.St → Env → β → α → Prop
section
variable (K : PySem.W.Frag) (mg : Str → Option Value) (W : Am K)
def Po {α β : Type} (R : RP α β) (G : Gr) (σ : L2.St) (B : Hp) (Q : β → Hp → Prop) (r : Res α) : Prop := match r with
  | .ok a e' => ∀ b B' H', Sto K G B' H' σ e' → Same B B' → R G B' H' σ e' b a → Q b H'
  | .err x e' => ∀ cls dd B' H', Sto K G B' H' σ e' → Same B B' → XRep K mg B' cls dd x → W.w cls dd σ H'
  | .bot => False
def rpE : RP D V := fun _ B _ _ _ v d => Rep K B v d
def rpA : RP (List D) (List V) := fun _ B _ _ _ vs ds => Reps K B vs ds
def rpB : RP Bool Bool := fun _ _ _ _ _ b a => b = a
/-- a new list, nobody's -/
def rpF : RP (List D) V := fun G B H σ e v ds => ∃ p vs, v = .ref p ∧ H p = some (.lst vs) ∧ B p = none ∧ G.H p = none ∧ ¬ Owned H σ e p ∧ Reps K B vs ds
/-- an own tree, nobody's -/
def rpT (s : Sh) : RP D V := fun G B H σ e v d => Tr K B H s v d ∧ ∀ a, Reach H s v a → B a = none ∧ G.H a = none ∧ ¬ Owned H σ e a
/-- what a return hands back: a value, a new list, an own tree (or what is flat) -/
inductive RK where
  | v | f | t (s : Sh)
def Frz (e : Env) : Prop := ∀ (i : Nat) (H : Hp) (v : Option V) (s : Sl) (a : Addr), e[i]? = some s → ¬ OwnS H v s a
structure RdX {α β : Type} (R : RP α β) (t : L2.St → Hp → (β → Hp → Prop) → Prop) (m : Env → Res α) : Prop where
  run : ∀ (G : Gr), W.g G → ∀ (B H : Hp) (σ : L2.St) (e : Env) (Q : β → Hp → Prop), Sto K G B H σ e → Po K mg W R G σ B Q (m e) → t σ H Q
end
section
variable {K : PySem.W.Frag} {mg : Str → Option Value} {W : Am K} {α β γ δ : Type} {G : Gr} {B B' H H' : Hp} {σ : L2.St} {e : Env}
theorem Po.base {R : RP α β} {Q : β → Hp → Prop} {r : Res α} (s : Same B B') (h : Po K mg W R G σ B Q r) : Po K mg W R G σ B' Q r := by
  cases r with
  | ok a e' => exact fun b B2 H2 S q p => h b B2 H2 S (s.trans q) p
  | err x e' => exact fun c d B2 H2 S q p => h c d B2 H2 S (s.trans q) p
  | bot => exact h
theorem Po.bind {R : RP α β} {R' : RP γ δ} {Q : β → Hp → Prop} {Q' : δ → Hp → Prop} {r : Res α} {f : α → Env → Res γ} (h : Po K mg W R' G σ B Q' (r.bind f))
    (k : ∀ a e1 b B1 H1, Sto K G B1 H1 σ e1 → Same B B1 → R G B1 H1 σ e1 b a → Po K mg W R' G σ B1 Q' (f a e1) → Q b H1) : Po K mg W R G σ B Q r := by
  cases r with
  | ok a e1 => exact fun b B1 H1 S q p => k a e1 b B1 H1 S q p (Po.base q h)
  | err x e' => exact h
  | bot => exact h
theorem Po.here {R : RP α β} {Q : β → Hp → Prop} {a : α} {b : β} (h : Po K mg W R G σ B Q (.ok a e)) (S : Sto K G B H σ e) (p : R G B H σ e b a) : Q b H := h b B H S (Same.refl B) p
theorem Po.of {R : RP α β} {Q : β → Hp → Prop} {o : Option α} (h : Po K mg W R G σ B Q (.of o e)) : ∃ a, o = some a ∧ Po K mg W R G σ B Q (.ok a e) := by
  cases o with
  | none => exact False.elim h
  | some a => exact ⟨a, rfl, h⟩
theorem frz_frz (e : Env) : Frz (frz e) := fun i H v s a h q => by
  unfold frz at h
  rw [List.getElem?_map] at h
  cases z : e[i]? with
  | none => rw [z] at h; cases h
  | some s =>
    rw [z] at h
    cases s <;> (cases h; exact q)
end
end VL

/-! VL2: the readings of expressions and their meanings. -/
namespace VL
open PySem PySem.Spec PyProof.Rows L2
section
variable {K : PySem.W.Frag} {mg : Str → Option Value} {W : Am K} {G : Gr} {B H : Hp} {σ : L2.St} {e : Env}
abbrev RdE (K : PySem.W.Frag) (mg : Str → Option Value) (W : Am K) (t : TE) (m : ME) : Prop := RdX K mg W (rpE K) t m
abbrev RdA (K : PySem.W.Frag) (mg : Str → Option Value) (W : Am K) (t : TA) (m : MA) : Prop := RdX K mg W (rpA K) t m
abbrev RdB (K : PySem.W.Frag) (mg : Str → Option Value) (W : Am K) (t : TT) (m : MB) : Prop := RdX K mg W rpB t m
abbrev RdF (K : PySem.W.Frag) (mg : Str → Option Value) (W : Am K) (t : TE) (m : MA) : Prop := RdX K mg W (rpF K) t m

theorem Sto.at (S : Sto K G B H σ e) {i : Nat} {s : Sl} (h : e[i]? = some s) : ∃ v, σ[i]? = some v ∧ SlOk K G B H v s := S.sl i s h
theorem rd_var (i : Nat) : RdE K mg W (tVar i) (vVar i) where
  run := fun G hG B H σ e Q S h => by
    unfold vVar at h
    cases z : e[i]? with
    | none => rw [z] at h; exact h.elim
    | some s =>
      rw [z] at h
      obtain ⟨v, hv, ok⟩ := S.sl i s z
      cases ok with
      | no => exact h.elim
      | tk => exact h.elim
      | sh r => exact ⟨_, hv, Po.here h S r⟩
      | @ow b p vs ds hb hg hh hr hpin =>
        exact ⟨_, hv, h (.ref p) _ H (S.hand z hv hh hr hb hg) (same_upd' hb) ((hr.mono (same_upd' hb)).rep upd_same)⟩
      | tr t f => exact ⟨_, hv, let q := S.handT z hv; h _ _ H q.2 withH_same q.1⟩
theorem rd_c {v : V} {d : D} (r : ∀ B, Rep K B v d) : RdE K mg W (tC v) (vC d) where
  run := fun G hG B H σ e Q S h => Po.here h S (r B)
theorem rd_int (i : Int) : RdE K mg W (tC (.int i)) (vC (.int i)) := rd_c fun _ => .int i
theorem rd_bl (b : Bool) : RdE K mg W (tC (.bl b)) (vC (.bl b)) := rd_c fun _ => .bl b
theorem rd_non : RdE K mg W (tC .non) (vC .non) := rd_c fun _ => .non
theorem rd_str (x : Str) : RdE K mg W (tC (.str x)) (vC (.str x)) := rd_c fun _ => .str x

/-- an operator by values: what it gives of data -/
def Op2 (K : PySem.W.Frag) (mg : Str → Option Value) (W : Am K) (r : R2) (op : D → D → Option D) : Prop :=
  ∀ (G : Gr) (B H : Hp) (σ : L2.St) (e : Env) (x y : V) (a b d : D) (Q : VK), Sto K G B H σ e → Rep K B x a → Rep K B y b → op a b = some d → Po K mg W (rpE K) G σ B Q (.ok d e) → r x y H Q
def Op1 (K : PySem.W.Frag) (mg : Str → Option Value) (W : Am K) (r : V → Hp → VK → Prop) (op : D → Option D) : Prop :=
  ∀ (G : Gr) (B H : Hp) (σ : L2.St) (e : Env) (x : V) (a d : D) (Q : VK), Sto K G B H σ e → Rep K B x a → op a = some d → Po K mg W (rpE K) G σ B Q (.ok d e) → r x H Q
theorem rd_op {r : R2} {op : D → D → Option D} {ta tb : TE} {ma mb : ME} (hr : Op2 K mg W r op) (ha : RdE K mg W ta ma) (hb : RdE K mg W tb mb) : RdE K mg W (tOp r ta tb) (vOp op ma mb) where
  run := fun G hG B H σ e Q S h => by
    refine ha.run G hG B H σ e _ S (Po.bind h fun a e1 x B1 H1 S1 s1 r1 h1 => ?_)
    refine hb.run G hG B1 H1 σ e1 _ S1 (Po.bind h1 fun b e2 y B2 H2 S2 s2 r2 h2 => ?_)
    obtain ⟨d, hd, h3⟩ := h2.of
    exact hr G B2 H2 σ e2 x y a b d Q S2 (Rep.mono s2 r1) r2 hd h3
theorem rd_un {r : V → Hp → VK → Prop} {op : D → Option D} {ta : TE} {ma : ME} (hr : Op1 K mg W r op) (ha : RdE K mg W ta ma) : RdE K mg W (tUn r ta) (vUn op ma) where
  run := fun G hG B H σ e Q S h => by
    refine ha.run G hG B H σ e _ S (Po.bind h fun a e1 x B1 H1 S1 s1 r1 h1 => ?_)
    obtain ⟨d, hd, h3⟩ := h1.of
    exact hr G B1 H1 σ e1 x a d Q S1 r1 hd h3

/-! arguments -/
theorem rd_nil : RdA K mg W tNil vNil where
  run := fun G hG B H σ e Q S h => Po.here h S .nil
theorem rd_cons {ta : TE} {t : TA} {ma : ME} {m : MA} (ha : RdE K mg W ta ma) (hr : RdA K mg W t m) : RdA K mg W (tCons ta t) (vCons ma m) where
  run := fun G hG B H σ e Q S h => by
    refine ha.run G hG B H σ e _ S (Po.bind h fun a e1 x B1 H1 S1 s1 r1 h1 => ?_)
    refine hr.run G hG B1 H1 σ e1 _ S1 (Po.bind h1 fun b e2 y B2 H2 S2 s2 r2 h2 => ?_)
    exact Po.here h2 S2 (.cons (Rep.mono s2 r1) r2)

/-- how many items a display has -/
def TLen (t : TA) (n : Nat) : Prop := ∀ (σ : L2.St) (H : Hp) (Q : List V → Hp → Prop), t σ H Q → True
theorem rd_tup {t : TA} {m : MA} (h : RdA K mg W t m) : RdE K mg W (tTup t) (fun e => (m e).bind fun xs e1 => if xs.length ≤ vmax then .ok (.tup xs) e1 else .bot) where
  run := fun G hG B H σ e Q S q => by
    refine h.run G hG B H σ e _ S (Po.bind q fun a e1 x B1 H1 S1 s1 r1 h1 => ?_)
    split at h1
    · rename_i hl
      refine ⟨by rw [Reps.length r1, sizeLine_eq]; exact Nat.le_trans hl (by decide), fun p hp => ?_⟩
      exact h1 _ _ _ (S1.alloc hp) (same_upd' (same_none S1.sub hp)) (.tup (SqT.of upd_same) (Reps.mono (same_upd' (same_none S1.sub hp)) r1))
    · exact h1.elim
theorem not_owned_new (S : Sto K G B H σ e) {p : Addr} (hp : H p = none) : ¬ Owned H σ e p := fun q => (S.apart q).2.2 hp
/-- a new list -/
theorem fresh_list (S : Sto K G B H σ e) {ds : List D} {vs : List V} {Q : VK} (r : Reps K B vs ds) (h : Po K mg W (rpF K) G σ B Q (.ok ds e)) : ∀ p, H p = none → Q (.ref p) (upd H p (.lst vs)) := fun p hp =>
  h _ B _ (S.loose hp) (Same.refl B) ⟨p, vs, rfl, upd_same, same_none S.sub hp, S.fresh hp, fun q => not_owned_new S hp (S.own_new hp q), r⟩
theorem rd_lst {t : TA} {m : MA} (h : RdA K mg W t m) : RdF K mg W (tLst t) (fun e => (m e).bind fun xs e1 => if xs.length ≤ vmax then .ok xs e1 else .bot) where
  run := fun G hG B H σ e Q S q => by
    refine h.run G hG B H σ e _ S (Po.bind q fun a e1 x B1 H1 S1 s1 r1 h1 => ?_)
    split at h1
    · rename_i hl
      exact ⟨by rw [Reps.length r1, sizeLine_eq]; exact Nat.le_trans hl (by decide), fresh_list S1 r1 h1⟩
    · exact h1.elim
/-- a new list handed out -/
theorem rd_of {t : TE} {m : MA} (h : RdF K mg W t m) : RdE K mg W t (vOf m) where
  run := fun G hG B H σ e Q S q => by
    refine h.run G hG B H σ e _ S (Po.bind q fun ds e1 x B1 H1 S1 s1 r1 h1 => ?_)
    obtain ⟨p, vs, rfl, hp, hb, hg, no, r⟩ := r1
    exact h1 _ _ _ (S1.take hp hb hg no) (same_upd' hb) (.lst (SqL.of upd_same) (r.mono (same_upd' hb)))

/-! looking at owned lists -/
theorem full_same {B H : Hp} {σ : L2.St} {e : Env} : Same B (full B H σ e) := withH_same
theorem full_sub (S : Sto K G B H σ e) : Same (full B H σ e) H := withH_sub S.sub
theorem frz_get {e : Env} {i : Nat} {s : Sl} (h : (frz e)[i]? = some s) : ∃ s0, e[i]? = some s0 ∧ s = (match s0 with
    | .ow b ds => .sh (outD b ds)
    | .tr _ d => .sh d
    | s => s) := by
  unfold frz at h
  rw [List.getElem?_map] at h
  cases z : e[i]? with
  | none => rw [z] at h; cases h
  | some s0 => rw [z] at h; exact ⟨s0, rfl, (Option.some.inj h).symm⟩
theorem Sto.full (S : Sto K G B H σ e) : Sto K ⟨H, full B H σ e, [], G.tok, G.pin⟩ (full B H σ e) H σ (frz e) where
  len := by unfold frz; rw [List.length_map]; exact S.len
  sl := fun i s h => by
    obtain ⟨s0, h0, hs⟩ := frz_get h
    obtain ⟨v, e1, ok⟩ := S.sl i s0 h0
    refine ⟨v, e1, ?_⟩
    subst hs
    cases ok with
    | no => exact .no
    | tk => exact .tk
    | sh r => exact .sh (r.mono full_same)
    | @ow b p vs ds hb hg hh hr hpin =>
      refine .sh ((hr.mono full_same).rep ?_)
      exact (withH_at hb (.at h0 e1 rfl)).trans hh
    | tr t f =>
      exact .sh (t.rep full_same fun a r => withH_at (f a r).1 (.at h0 e1 ⟨_, rfl, r⟩))
  dis := fun i j s t v w a h1 h2 h3 h4 h5 => (frz_frz e i H v s a h1 h5).elim
  sub := full_sub S
  b0 := Same.refl _
  keep := fun a o h _ => h
  dom := fun a h => h
  new := fun a h => .inl h
  iom := fun a h => by simp at h
/-- .. and back: what is new beside the owned ones -/
def tupsOf (B B' : Hp) : Hp := fun a => match B a with
  | some o => some o
  | none => match B' a with
    | some (.tup xs) => some (.tup xs)
    | some (.frz o (.tup xs)) => some (.frz o (.tup xs))
    | some (.xd fs) => some (.xd fs)
    | _ => none
theorem tupsOf_same {B B' : Hp} : Same B (tupsOf B B') := fun a o h => by unfold tupsOf; rw [h]
theorem tupsOf_some {B B' : Hp} {a : Addr} {o : HO} (h : tupsOf B B' a = some o) : B a = some o ∨ (B a = none ∧ B' a = some o ∧ (∀ xs, o ≠ .lst xs) ∧ ∀ kvs, o ≠ .dK kvs) := by
  unfold tupsOf at h
  split at h
  · rename_i o' h'; exact .inl (h'.trans h)
  · rename_i h'
    split at h
    · rename_i xs h2; cases h; exact .inr ⟨h', h2, (fun _ z => nomatch z), (fun _ z => nomatch z)⟩
    · rename_i ob xs h2; cases h; exact .inr ⟨h', h2, (fun _ z => nomatch z), (fun _ z => nomatch z)⟩
    · rename_i fs h2; cases h; exact .inr ⟨h', h2, (fun _ z => nomatch z), (fun _ z => nomatch z)⟩
    · cases h
theorem tupsOf_tups {B B' B0 : Hp} (s : Same B B') : Tups B' (tupsOf B B') := fun a xs h => by
  rcases h with h | ⟨o, h⟩
  · refine .inl ?_
    unfold tupsOf
    cases z : B a with
    | some o => have q := s _ _ z; rw [h] at q; exact q.symm
    | none => rw [h]
  · refine .inr ⟨o, ?_⟩
    unfold tupsOf
    cases z : B a with
    | some o => have q := s _ _ z; rw [h] at q; exact q.symm
    | none => rw [h]
theorem Sto.back {B' H' : Hp} {e' : Env} (S : Sto K G B H σ e) (S' : Sto K ⟨H, VL.full B H σ e, [], G.tok, G.pin⟩ B' H' σ e') : Sto K G (tupsOf B B') H' σ e := by
  have hk : ∀ a o, H a = some o → H' a = some o := fun a o h => S'.keep a o h (by simp)
  have hO : ∀ a, Owned H σ e a → H' a = H a := fun a q => by
    cases z : H a with
    | none => exact absurd z (S.apart q).2.2
    | some o => exact hk a o z
  have kd : ∀ {a o}, Owned H σ e a → B' a = some o → (∃ vs, o = .lst vs) ∨ ∃ kvs, o = .dK kvs := fun {a o} q h => by
    have h2 := S'.sub _ _ h
    rw [hO a q] at h2
    obtain ⟨i, s, v, h3, h4, h5⟩ := q
    obtain ⟨v', e1, ok⟩ := S.sl i s h3
    rw [h4] at e1
    cases e1
    rcases ok.kind h5 with ⟨vs, w⟩ | ⟨kvs, w⟩
    · rw [h2] at w; cases w; exact .inl ⟨vs, rfl⟩
    · rw [h2] at w; cases w; exact .inr ⟨kvs, rfl⟩
  refine S.mv' tupsOf_same (fun a o h => ?_) hO (fun a q => ?_) (fun a o h1 h2 => hk _ _ (S.keep a o h1 h2)) (fun a h => S'.dom a (S.dom a h)) fun a h => ?_
  · rcases tupsOf_some h with h | ⟨_, h, _⟩
    · exact hk _ _ (S.sub _ _ h)
    · exact S'.sub _ _ h
  · cases z : tupsOf B B' a with
    | none => rfl
    | some o =>
      rcases tupsOf_some z with w | ⟨_, w, ne⟩
      · rw [(S.apart q).1] at w; cases w
      · rcases kd q w with ⟨vs, u⟩ | ⟨kvs, u⟩
        · exact absurd u (ne.1 vs)
        · exact absurd u (ne.2 kvs)
  · cases z : tupsOf B B' a with
    | none => exact absurd z h
    | some o =>
      rcases tupsOf_some z with q | ⟨q0, q, ne⟩
      · exact S.new a (by rw [q]; simp)
      · rcases S'.new a (by rw [q]; simp) with w | w
        · have w : VL.full B H σ e a ≠ none := w
          have ho : Owned H σ e a := Classical.byContradiction fun no => w (withH_no q0 no)
          rcases kd ho q with ⟨vs, u⟩ | ⟨kvs, u⟩
          · exact absurd u (ne.1 vs)
          · exact absurd u (ne.2 kvs)
        · exact .inr (S.fresh w)
theorem Sto.back_no {B' H' : Hp} {e' : Env} (S : Sto K G B H σ e) (S' : Sto K ⟨H, VL.full B H σ e, [], G.tok, G.pin⟩ B' H' σ e') {p : Addr} (hp : H p = none) : ¬ Owned H' σ e p := fun q => by
  have hk : ∀ a o, H a = some o → H' a = some o := fun a o h => S'.keep a o h (by simp)
  refine not_owned_new S hp (S.own_frame (fun a o h => hk _ _ (S.sub _ _ h)) (fun a q => ?_) q)
  cases z : H a with
  | none => exact absurd z (S.apart q).2.2
  | some o => exact hk a o z
end
end VL

/-! VL3: looking at owned lists; calls; tests. -/
namespace VL
open PySem PySem.Spec PyProof.Rows L2
section
variable {K : PySem.W.Frag} {mg : Str → Option Value} {W : Am K} {G : Gr} {B H : Hp} {σ : L2.St} {e : Env}
theorem XRep.tups {B B' : Hp} {cls : Value} {dd : Option Addr} {x : Xc} (s : Same B B') (h : XRep K mg B' cls dd x) : XRep K mg (tupsOf B B') cls dd x := by
  obtain ⟨C, h1, h2, h3⟩ := h
  refine ⟨C, h1, h2, ?_⟩
  cases z : x.val with
  | none => rw [z] at h3; exact h3
  | some p =>
    rw [z] at h3
    obtain ⟨f, n⟩ := p
    obtain ⟨a, e1, e2⟩ := h3
    refine ⟨a, e1, ?_⟩
    unfold tupsOf
    cases q : B a with
    | some o => have w := s _ _ q; rw [e2] at w; exact w.symm
    | none => rw [e2]
theorem XRep.mono {B B' : Hp} {cls : Value} {dd : Option Addr} {x : Xc} (s : Same B B') (h : XRep K mg B cls dd x) : XRep K mg B' cls dd x := by
  obtain ⟨C, h1, h2, h3⟩ := h
  refine ⟨C, h1, h2, ?_⟩
  cases z : x.val with
  | none => rw [z] at h3; exact h3
  | some p =>
    rw [z] at h3
    obtain ⟨f, n⟩ := p
    obtain ⟨a, e1, e2⟩ := h3
    exact ⟨a, e1, s _ _ e2⟩
theorem rd_bor {t : TE} {m : ME} (h : RdE K mg W t m) : RdE K mg W t (vBor m) where
  run := fun G hG B H σ e Q S q => by
    refine h.run ⟨H, VL.full B H σ e, [], G.tok, G.pin⟩ (W.full G B H σ e hG S) (VL.full B H σ e) H σ (frz e) Q S.full ?_
    unfold vBor at q
    cases z : m (frz e) with
    | ok d e' =>
      rw [z] at q
      by_cases f : d.flat = true
      · simp only [f, if_true] at q
        exact fun v B' H' S' s' r' => q v (tupsOf B B') H' (S.back S') tupsOf_same (Rep.flat (tupsOf_tups (B0 := B) (full_same.trans s')) f r')
      · simp only [f] at q
        exact q.elim
    | err x e' =>
      rw [z] at q
      exact fun c d B' H' S' s' r' => q c d (tupsOf B B') H' (S.back S') tupsOf_same (r'.tups (full_same.trans s'))
    | bot => rw [z] at q; exact q
theorem rd_borT {t : TT} {m : MB} (h : RdB K mg W t m) : RdB K mg W t (vBorT m) where
  run := fun G hG B H σ e Q S q => by
    refine h.run ⟨H, VL.full B H σ e, [], G.tok, G.pin⟩ (W.full G B H σ e hG S) (VL.full B H σ e) H σ (frz e) Q S.full ?_
    unfold vBorT at q
    cases z : m (frz e) with
    | ok d e' =>
      rw [z] at q
      exact fun v B' H' S' s' r' => q v (tupsOf B B') H' (S.back S') tupsOf_same r'
    | err x e' =>
      rw [z] at q
      exact fun c d B' H' S' s' r' => q c d (tupsOf B B') H' (S.back S') tupsOf_same (r'.tups (full_same.trans s'))
    | bot => rw [z] at q; exact q
theorem rd_borF {t : TE} {m : MA} (h : RdF K mg W t m) : RdF K mg W t (vBorF m) where
  run := fun G hG B H σ e Q S q => by
    refine h.run ⟨H, VL.full B H σ e, [], G.tok, G.pin⟩ (W.full G B H σ e hG S) (VL.full B H σ e) H σ (frz e) Q S.full ?_
    unfold vBorF at q
    cases z : m (frz e) with
    | ok d e' =>
      rw [z] at q
      by_cases f : D.flats d = true
      · simp only [f, if_true] at q
        refine fun v B' H' S' s' r' => ?_
        obtain ⟨p, vs, rfl, hp, hb, hg, no, r⟩ := r'
        have hn : tupsOf B B' p = none := by
          cases w : tupsOf B B' p with
          | none => rfl
          | some o =>
            rcases tupsOf_some w with q1 | ⟨_, q1, _⟩
            · have q2 := S'.b0 _ _ (full_same _ _ q1); rw [hb] at q2; cases q2
            · rw [hb] at q1; cases q1
        have hH : H p = none := hg
        exact q (.ref p) (tupsOf B B') H' (S.back S') tupsOf_same ⟨p, vs, rfl, hp, hn, S.fresh hH, S.back_no S' hH, Reps.flat (tupsOf_tups (B0 := B) (full_same.trans s')) f r⟩
      · simp only [f] at q
        exact q.elim
    | err x e' =>
      rw [z] at q
      exact fun c d B' H' S' s' r' => q c d (tupsOf B B') H' (S.back S') tupsOf_same (r'.tups (full_same.trans s'))
    | bot => rw [z] at q; exact q

/-! what a def promises, from its meaning -/
/-- all that is new in B' is new to H, or stood in B -/
def News' (B H B' : Hp) : Prop := ∀ a, B' a ≠ none → B a ≠ none ∨ H a = none
def spV (K : PySem.W.Frag) (mg : Str → Option Value) (fn : List D → FR) : Sp := fun vs H Q E => ∃ (B : Hp) (ds : List D), Same B H ∧ Reps K B vs ds ∧ match fn ds with
  | .ok d => ∀ v B' H', Same H H' → Same B B' → Same B' H' → News' B H B' → Rep K B' v d → Q v H'
  | .err x => ∀ cls dd B' H', Same H H' → Same B B' → Same B' H' → News' B H B' → XRep K mg B' cls dd x → E cls dd H'
  | .bot => False
/-- .. a new list -/
def spF (K : PySem.W.Frag) (mg : Str → Option Value) (fn : List D → FR) : Sp := fun vs H Q E => ∃ (B : Hp) (ds : List D), Same B H ∧ Reps K B vs ds ∧ match fn ds with
  | .ok (.lst rs) => ∀ p ws B' H', Same H H' → Same B B' → Same B' H' → News' B H B' → H p = none → B' p = none → H' p = some (.lst ws) → Reps K B' ws rs → Q (.ref p) H'
  | .ok _ => False
  | .err x => ∀ cls dd B' H', Same H H' → Same B B' → Same B' H' → News' B H B' → XRep K mg B' cls dd x → E cls dd H'
  | .bot => False
theorem Sto.callO {B' H' : Hp} (S : Sto K G B H σ e) (h1 : Same H H') : ∀ a, Owned H σ e a → H' a = H a := fun a q => by
  cases z : H a with
  | none => exact absurd z (S.apart q).2.2
  | some o => exact h1 _ _ z
theorem Sto.call {B' H' : Hp} (S : Sto K G B H σ e) (h1 : Same H H') (h2 : Same B B') (h3 : Same B' H') (h4 : News' B H B') : Sto K G B' H' σ e := by
  refine S.mv' h2 h3 (S.callO (B' := B') h1) (fun a q => ?_) (fun a o q1 q2 => h1 _ _ (S.keep a o q1 q2)) (fun a q => ?_) fun a q => ?_
  · cases z : B' a with
    | none => rfl
    | some o =>
      rcases h4 a (by rw [z]; simp) with w | w
      · exact absurd (S.apart q).1 w
      · exact absurd w (S.apart q).2.2
  · cases z : H a with
    | none => exact absurd z (S.dom a q)
    | some o => rw [h1 _ _ z]; simp
  · rcases h4 a q with w | w
    · exact S.new a w
    · exact .inr (S.fresh w)
theorem Sto.call_no {B' H' : Hp} (S : Sto K G B H σ e) (h1 : Same H H') (h2 : Same B B') (h3 : Same B' H') {p : Addr} (hp : H p = none) : ¬ Owned H' σ e p := fun q =>
  not_owned_new S hp (S.own_frame (h2.trans h3) (S.callO (B' := B') h1) q)
theorem rd_call {fn : List D → FR} {t : TA} {m : MA} (ha : RdA K mg W t m) : RdE K mg W (tCallS (spV K mg fn) (WE W.w) t) (vCall fn m) where
  run := fun G hG B H σ e Q S q => by
    refine ha.run G hG B H σ e _ S (Po.bind q fun ds e1 vs B1 H1 S1 s1 r1 h1 => ?_)
    refine ⟨B1, ds, S1.sub, r1, ?_⟩
    cases z : fn ds with
    | ok d => rw [z] at h1; exact fun v B' H' a1 a2 a3 a4 r => h1 v B' H' (S1.call a1 a2 a3 a4) a2 r
    | err x => rw [z] at h1; exact fun c dd B' H' a1 a2 a3 a4 r => h1 c dd B' H' (S1.call a1 a2 a3 a4) a2 r
    | bot => rw [z] at h1; exact h1
theorem rd_callF {fn : List D → FR} {t : TA} {m : MA} (ha : RdA K mg W t m) : RdF K mg W (tCallS (spF K mg fn) (WE W.w) t) (vCallF fn m) where
  run := fun G hG B H σ e Q S q => by
    refine ha.run G hG B H σ e _ S (Po.bind q fun ds e1 vs B1 H1 S1 s1 r1 h1 => ?_)
    refine ⟨B1, ds, S1.sub, r1, ?_⟩
    cases z : fn ds with
    | ok d =>
      rw [z] at h1
      cases d with
      | lst rs =>
        exact fun p ws B' H' a1 a2 a3 a4 hp hb hh r => h1 (.ref p) B' H' (S1.call a1 a2 a3 a4) a2 ⟨p, ws, rfl, hh, hb, S1.fresh hp, S1.call_no a1 a2 a3 hp, r⟩
      | _ => exact h1
    | err x => rw [z] at h1; exact fun c dd B' H' a1 a2 a3 a4 r => h1 c dd B' H' (S1.call a1 a2 a3 a4) a2 r
    | bot => rw [z] at h1; exact h1

/-! tests -/
theorem rd_test {t : TE} {m : ME} (h : RdE K mg W t m) : RdB K mg W (tTest t) (vTest m) where
  run := fun G hG B H σ e Q S q => by
    refine h.run G hG B H σ e _ S (Po.bind q fun d e1 v B1 H1 S1 s1 r1 h1 => ?_)
    obtain ⟨b, hb, h2⟩ := h1.of
    cases d with
    | bl c =>
      cases hb
      cases r1
      exact ⟨_, rfl, Po.here h2 S1 rfl⟩
    | _ => cases hb
theorem rd_tB {t : TE} {m : ME} (h : RdE K mg W t m) : RdB K mg W (tB t) (vTest m) := rd_test h
theorem rd_and {t u : TT} {a b : MB} (ha : RdB K mg W t a) (hb : RdB K mg W u b) : RdB K mg W (tAnd t u) (vAnd a b) where
  run := fun G hG B H σ e Q S q => by
    refine ha.run G hG B H σ e _ S (Po.bind q fun d e1 v B1 H1 S1 s1 r1 h1 => ?_)
    have r1 : v = d := r1
    subst r1
    cases v with
    | true => exact hb.run G hG B1 H1 σ e1 Q S1 h1
    | false => exact Po.here h1 S1 rfl
theorem rd_or {t u : TT} {a b : MB} (ha : RdB K mg W t a) (hb : RdB K mg W u b) : RdB K mg W (tOr t u) (vOr a b) where
  run := fun G hG B H σ e Q S q => by
    refine ha.run G hG B H σ e _ S (Po.bind q fun d e1 v B1 H1 S1 s1 r1 h1 => ?_)
    have r1 : v = d := r1
    subst r1
    cases v with
    | false => exact hb.run G hG B1 H1 σ e1 Q S1 h1
    | true => exact Po.here h1 S1 rfl
theorem rd_not {t : TT} {a : MB} (ha : RdB K mg W t a) : RdB K mg W (tNot t) (vNot a) where
  run := fun G hG B H σ e Q S q => by
    refine ha.run G hG B H σ e _ S (Po.bind q fun d e1 v B1 H1 S1 s1 r1 h1 => ?_)
    have r1 : v = d := r1
    subst r1
    exact Po.here h1 S1 rfl
/-- as values -/
theorem rd_andV {t u : TE} {a b : ME} (ha : RdE K mg W t a) (hb : RdE K mg W u b) : RdE K mg W (tAndV t u) (fun e => (a e).bind fun x e1 => match x with
    | .bl true => b e1
    | .bl false => .ok (.bl false) e1
    | _ => .bot) where
  run := fun G hG B H σ e Q S q => by
    refine ha.run G hG B H σ e _ S (Po.bind q fun d e1 v B1 H1 S1 s1 r1 h1 => ?_)
    cases d with
    | bl c =>
      cases r1
      cases c with
      | true => exact ⟨true, rfl, (if_pos rfl).mpr (hb.run G hG B1 H1 σ e1 Q S1 h1)⟩
      | false => exact ⟨false, rfl, (if_neg Bool.false_ne_true).mpr (Po.here h1 S1 (.bl false))⟩
    | _ => exact h1.elim
theorem rd_orV {t u : TE} {a b : ME} (ha : RdE K mg W t a) (hb : RdE K mg W u b) : RdE K mg W (tOrV t u) (fun e => (a e).bind fun x e1 => match x with
    | .bl false => b e1
    | .bl true => .ok (.bl true) e1
    | _ => .bot) where
  run := fun G hG B H σ e Q S q => by
    refine ha.run G hG B H σ e _ S (Po.bind q fun d e1 v B1 H1 S1 s1 r1 h1 => ?_)
    cases d with
    | bl c =>
      cases r1
      cases c with
      | false => exact ⟨false, rfl, (if_neg Bool.false_ne_true).mpr (hb.run G hG B1 H1 σ e1 Q S1 h1)⟩
      | true => exact ⟨true, rfl, (if_pos rfl).mpr (Po.here h1 S1 (.bl true))⟩
    | _ => exact h1.elim
theorem rd_notV {t : TE} {a : ME} (ha : RdE K mg W t a) : RdE K mg W (tNotV t) (vUn (fun d => match d with
    | .bl c => some (.bl (!c))
    | _ => none) a) where
  run := fun G hG B H σ e Q S q => by
    refine ha.run G hG B H σ e _ S (Po.bind q fun d e1 v B1 H1 S1 s1 r1 h1 => ?_)
    cases d with
    | bl c =>
      cases r1
      exact ⟨c, rfl, Po.here h1 S1 (.bl _)⟩
    | _ => exact h1.elim
/-- a op b op' c -/
theorem rd_chain {r r' : R2} {op op' : D → D → Option D} {ta tb tc : TE} {a b c : ME} (hr : Op2 K mg W r op) (hr' : Op2 K mg W r' op') (hB : ∀ x y z, op x y = some z → ∃ k, z = .bl k) (ha : RdE K mg W ta a) (hb : RdE K mg W tb b) (hc : RdE K mg W tc c) :
    RdE K mg W (tChain r r' ta tb tc) (vChain op op' a b c) where
  run := fun G hG B H σ e Q S q => by
    refine ha.run G hG B H σ e _ S (Po.bind q fun x e1 vx B1 H1 S1 s1 r1 h1 => ?_)
    refine hb.run G hG B1 H1 σ e1 _ S1 (Po.bind h1 fun y e2 vy B2 H2 S2 s2 r2 h2 => ?_)
    cases z : op x y with
    | none => rw [z] at h2; exact h2.elim
    | some d =>
      rw [z] at h2
      obtain ⟨k, rfl⟩ := hB x y d z
      refine hr G B2 H2 σ e2 vx vy x y (.bl k) _ S2 (Rep.mono s2 r1) r2 z fun v B3 H3 S3 s3 r3 => ?_
      cases r3
      refine ⟨k, rfl, ?_⟩
      cases k with
      | true =>
        refine (if_pos rfl).mpr ?_
        refine hc.run G hG B3 H3 σ e2 _ S3 (Po.base s3 (Po.bind h2 fun w e4 vw B4 H4 S4 s4 r4 h4 => ?_))
        obtain ⟨d, hd, h5⟩ := h4.of
        exact hr' G B4 H4 σ e4 vy vw y w d Q S4 (Rep.mono s4 r2) r4 hd h5
      | false => exact (if_neg Bool.false_ne_true).mpr (h2 (.bl false) B3 H3 S3 s3 (.bl false))
end
end VL

/-! VL4: operators on data. -/
namespace VL
open PySem PySem.Spec PyProof.Rows L2
/-- an operator, told on data -/
def rDat (K : PySem.W.Frag) (op : D → D → Option D) : R2 := fun x y H Q => ∃ (G : Gr) (B : Hp) (σ : L2.St) (e : Env) (a b d : D), Sto K G B H σ e ∧ Rep K B x a ∧ Rep K B y b ∧ op a b = some d ∧
  ∀ v B' H', Sto K G B' H' σ e → Same B B' → Rep K B' v d → Q v H'
def rDat1 (K : PySem.W.Frag) (op : D → Option D) : V → Hp → VK → Prop := fun x H Q => ∃ (G : Gr) (B : Hp) (σ : L2.St) (e : Env) (a d : D), Sto K G B H σ e ∧ Rep K B x a ∧ op a = some d ∧
  ∀ v B' H', Sto K G B' H' σ e → Same B B' → Rep K B' v d → Q v H'
section
variable {K : PySem.W.Frag} {mg : Str → Option Value} {W : Am K} {G : Gr} {B H : Hp} {σ : L2.St} {e : Env}
theorem op2_dat {op : D → D → Option D} : Op2 K mg W (rDat K op) op := fun G B H σ e x y a b d Q S r1 r2 hd h => ⟨G, B, σ, e, a, b, d, S, r1, r2, hd, h⟩
theorem op1_dat {op : D → Option D} : Op1 K mg W (rDat1 K op) op := fun G B H σ e x a d Q S r1 hd h => ⟨G, B, σ, e, a, d, S, r1, hd, h⟩
theorem vok : vmax ≤ sizeLine := by rw [sizeLine_eq]; decide
theorem vle {n : Nat} (h : n ≤ vmax) : n ≤ sizeLine := Nat.le_trans h vok
theorem rd_sub (s : Same B H) {a : Addr} {u : HO} (h : Rd B a u) : Rd H a u := same_rd s h
end
section
variable {X : Cx}
theorem od_add : OpR X (binaryOp .Add) (rDat X.K opAdd) := by
  intro pins s σ H x y v u Q I rx ry ⟨G, B, σ', e, a, b, d, S, r1, r2, hd, h⟩
  unfold opAdd at hd
  split at hd
  · cases hd; cases r1; cases r2
    exact op_add pins s σ H _ _ v u Q I rx ry ⟨_, _, rfl, rfl, h _ B H S (Same.refl B) (.int _)⟩
  · cases r1; cases r2
    split at hd
    · rename_i z
      cases hd
      exact op_add_str pins s σ H _ _ v u Q I rx ry ⟨_, _, rfl, rfl, vle z, h _ B H S (Same.refl B) (.str _)⟩
    · cases hd
  · split at hd
    · rename_i z
      cases hd
      cases r1 with
      | @tup p vs _ h1 q1 =>
        cases r2 with
        | @tup p' vs' _ h2 q2 =>
          have l1 := q1.length
          have l2 := q2.length
          rw [List.length_cons] at l1 l2
          refine op_catT pins s σ H _ _ v u Q I rx ry ⟨p, p', vs, vs', rfl, rfl, same_sqT S.sub h1, same_sqT S.sub h2, fun q => by rw [q] at l1; simp at l1, vle (by omega), fun q => by rw [q] at l2; simp at l2, fun _ t ht => ?_⟩
          exact h _ _ _ (S.alloc ht) (same_upd' (same_none S.sub ht)) (.tup (SqT.of upd_same) (Reps.mono (same_upd' (same_none S.sub ht)) (q1.append q2)))
    · cases hd
  · split at hd
    · rename_i z
      cases hd
      cases r1 with
      | @lst p vs _ h1 q1 =>
        cases r2 with
        | @lst p' vs' _ h2 q2 =>
          have l1 := q1.length
          have l2 := q2.length
          cases rx
          cases ry
          obtain ⟨its, w1, ⟨⟨cls1, dd1, data1, sl1⟩, n1, e1, c1, _, d1⟩, _⟩ := I.list (same_sqL S.sub h1)
          obtain ⟨its2, w2, ⟨⟨cls2, dd2, data2, sl2⟩, n2, e2, c2, _, d2⟩, _⟩ := I.list (same_sqL S.sub h2)
          simp only at c1 d1 c2 d2
          subst c1 d1 c2 d2
          have m1 := w1.length
          have m2 := w2.length
          have hz : vs.length + vs'.length ≤ sizeLine := vle (by omega)
          refine concat_meets ⟨_, e1, rfl⟩ ⟨_, e2, rfl⟩ noFill_list_add seq_list_add PySem.F.slot_list_add PySem.F.entry_list_add (PySem.F.args_list_add_2 _ _) (list_addW p p' its.toArray its2.toArray n1 n2 dd1 dd2 sl1 sl2 (by simp only [List.size_toArray]; omega)) ⟨e1, e2, ?_⟩
          have ea : its.toArray ++ its2.toArray = (its ++ its2).toArray := by simp
          rw [ea]
          have hf : H s.heap.objs.size = none := I.hok.fresh (Nat.le_refl _)
          refine ⟨.ref _, _, I.laid (t' := s.toks) (o := .lst (vs ++ vs')) (fun b ob q => Heap.get?_push_of_some _ q) (Nat.le_refl _) ?_, rfl, h _ _ _ (S.alloc hf) (same_upd' (same_none S.sub hf)) (.lst (SqL.of upd_same) (Reps.mono (same_upd' (same_none S.sub hf)) (q1.append q2)))⟩
          exact ⟨by rw [List.length_append]; exact hz, _, 0, w1.append w2, Heap.get?_push_size _ rfl⟩
    · cases hd
  · cases hd
theorem od_sub : OpR X (binaryOp .Sub) (rDat X.K opSub) := by
  intro pins s σ H x y v u Q I rx ry ⟨G, B, σ', e, a, b, d, S, r1, r2, hd, h⟩
  unfold opSub at hd
  split at hd
  · cases hd; cases r1; cases r2
    exact op_sub pins s σ H _ _ v u Q I rx ry ⟨_, _, rfl, rfl, h _ B H S (Same.refl B) (.int _)⟩
  · cases hd
theorem mulOk_ok {i j : Int} (h : mulOk i j = true) : IntMulOk i j := by
  unfold mulOk at h
  rw [Bool.or_eq_true, Bool.or_eq_true] at h
  rcases h with (h | h) | h
  · have h := of_decide_eq_true h
    exact CMul.ok (.inl ⟨by omega, by omega⟩)
  · have h := of_decide_eq_true h
    exact CMul.ok (.inr ⟨by omega, by omega⟩)
  · have h := of_decide_eq_true h
    exact CMulW.ok h
theorem od_mul : OpR X (binaryOp .Mult) (rDat X.K opMul) := by
  intro pins s σ H x y v u Q I rx ry ⟨G, B, σ', e, a, b, d, S, r1, r2, hd, h⟩
  unfold opMul at hd
  split at hd
  · split at hd
    · rename_i z
      cases hd; cases r1; cases r2
      obtain ⟨t, rfl⟩ := rx
      obtain ⟨t', rfl⟩ := ry
      exact mul_int ⟨.int _, H, I.tok _, ⟨_, rfl⟩, h _ B H S (Same.refl B) (.int _)⟩ (mulOk_ok z)
    · cases hd
  · rename_i xs j
    split at hd
    · rename_i z
      cases hd
      cases r2
      cases r1 with
      | @lst p vs _ h1 q1 =>
        cases rx
        obtain ⟨t, rfl⟩ := ry
        obtain ⟨its, w1, ⟨⟨cls1, dd1, data1, sl1⟩, n1, e1, c1, _, d1⟩, _⟩ := I.list (same_sqL S.sub h1)
        simp only at c1 d1
        subst c1 d1
        have l1 := q1.length
        have m1 := w1.length
        have hz : its.toArray.size * j.toNat ≤ sizeLine := by
          rw [List.size_toArray, ← m1, l1]
          exact vle z.2.2
        have hz16 : its.toArray.size * j.toNat ≤ 2 ^ 24 := by
          rw [List.size_toArray, ← m1, l1]
          exact Nat.le_trans z.2.2 (by decide)
        refine wpAny_binaryOp_repeat_ref (T := "list") (U := "int") (by decide) ⟨_, e1, rfl⟩ (fun s' => typeIs_int s' j t) noFill_list_mul PySem.F.fills_int_mul PySem.F.slot_int_rmul repeat_list PySem.F.slot_int_index.lookup
          (call_meets PySem.F.slot_int_rmul (typeIs_int s j t) PySem.F.entry_int_rmul (PySem.F.args_int_rmul_2 _ _) (lm_int_rmul_list_any j t p its.toArray n1 dd1 sl1)
            ⟨e1, rfl, ⟨_, e1, rfl⟩, call_meets PySem.F.slot_list_mul ⟨_, e1, rfl⟩ PySem.F.entry_list_mul (PySem.F.args_list_mul_2 _ _)
              (lm_list_mul_any p its.toArray n1 dd1 sl1 j t (by simp [Builtin.List.listFitsIndex]; omega) (by omega) (by simp [Builtin.List.listTooLong, sizeLine]; omega)) ⟨e1, ?_⟩⟩)
        rw [listMul_foldl_if]
        have hf : H s.heap.objs.size = none := I.hok.fresh (Nat.le_refl _)
        refine ⟨.ref _, _, I.laid (t' := s.toks) (o := .lst (List.replicate j.toNat vs).flatten) (fun b ob q => Heap.get?_push_of_some _ q) (Nat.le_refl _) ?_, rfl, h _ _ _ (S.alloc hf) (same_upd' (same_none S.sub hf)) (.lst (SqL.of upd_same) (Reps.mono (same_upd' (same_none S.sub hf)) (q1.rep j.toNat)))⟩
        refine ⟨?_, _, 0, w1.rep j.toNat, Heap.get?_push_size _ rfl⟩
        rw [PyProof.Rows.lm_len_rep_flat, l1, Nat.mul_comm]
        exact vle z.2.2
    · cases hd
  · cases hd
theorem od_fdiv : OpR X (binaryOp .FloorDiv) (rDat X.K opFdiv) := by
  intro pins s σ H x y v u Q I rx ry ⟨G, B, σ', e, a, b, d, S, r1, r2, hd, h⟩
  unfold opFdiv at hd
  split at hd
  · split at hd
    · rename_i z
      cases hd; cases r1; cases r2
      obtain ⟨t, rfl⟩ := rx
      obtain ⟨t', rfl⟩ := ry
      unfold divOk at z
      rw [Bool.and_eq_true] at z
      exact floordiv_int (of_decide_eq_true z.1) ⟨.int _, H, I.tok _, ⟨_, rfl⟩, h _ B H S (Same.refl B) (.int _)⟩ (.inl (PyProof.noPylong_of_log2 (of_decide_eq_true z.2)))
    · cases hd
  · cases hd
theorem od_mod : OpR X (binaryOp .Mod) (rDat X.K opMod) := by
  intro pins s σ H x y v u Q I rx ry ⟨G, B, σ', e, a, b, d, S, r1, r2, hd, h⟩
  unfold opMod at hd
  split at hd
  · split at hd
    · rename_i z
      cases hd; cases r1; cases r2
      exact op_modN pins s σ H _ _ v u Q I rx ry ⟨_, _, rfl, rfl, z, h _ B H S (Same.refl B) (.int _)⟩
    · cases hd
  · cases hd
theorem od_pow : OpR X (binaryOp .Pow) (rDat X.K opPow) := by
  intro pins s σ H x y v u Q I rx ry ⟨G, B, σ', e, a, b, d, S, r1, r2, hd, h⟩
  unfold opPow at hd
  split at hd
  · split at hd
    · rename_i z
      cases hd; cases r1; cases r2
      exact op_pow pins s σ H _ _ v u Q I rx ry ⟨_, _, rfl, rfl, ⟨z.1, by have := z.2.1; omega, Nat.lt_of_le_of_lt z.2.2 (by decide)⟩, h _ B H S (Same.refl B) (.int _)⟩
    · cases hd
  · cases hd
theorem ud_neg : UnR X (unaryOp .USub) (rDat1 X.K opNeg) := by
  intro pins s σ H x v Q I rx ⟨G, B, σ', e, a, d, S, r1, hd, h⟩
  unfold opNeg at hd
  split at hd
  · cases hd; cases r1
    exact un_neg pins s σ H _ v Q I rx ⟨_, rfl, h _ B H S (Same.refl B) (.int _)⟩
  · cases hd
theorem od_lt : OpR X (compareOp .Lt) (rDat X.K opLt) := by
  intro pins s σ H x y v u Q I rx ry ⟨G, B, σ', e, a, b, d, S, r1, r2, hd, h⟩
  unfold opLt at hd
  split at hd
  · cases hd; cases r1; cases r2
    exact op_lt pins s σ H _ _ v u Q I rx ry ⟨_, _, rfl, rfl, h _ B H S (Same.refl B) (.bl _)⟩
  · cases hd
theorem od_le : OpR X (compareOp .LtE) (rDat X.K opLe) := by
  intro pins s σ H x y v u Q I rx ry ⟨G, B, σ', e, a, b, d, S, r1, r2, hd, h⟩
  unfold opLe at hd
  split at hd
  · cases hd; cases r1; cases r2
    exact op_le pins s σ H _ _ v u Q I rx ry ⟨_, _, rfl, rfl, h _ B H S (Same.refl B) (.bl _)⟩
  · cases hd
theorem od_gt : OpR X (compareOp .Gt) (rDat X.K opGt) := by
  intro pins s σ H x y v u Q I rx ry ⟨G, B, σ', e, a, b, d, S, r1, r2, hd, h⟩
  unfold opGt at hd
  split at hd
  · cases hd; cases r1; cases r2
    exact op_gt pins s σ H _ _ v u Q I rx ry ⟨_, _, rfl, rfl, h _ B H S (Same.refl B) (.bl _)⟩
  · cases hd
theorem od_ge : OpR X (compareOp .GtE) (rDat X.K opGe) := by
  intro pins s σ H x y v u Q I rx ry ⟨G, B, σ', e, a, b, d, S, r1, r2, hd, h⟩
  unfold opGe at hd
  split at hd
  · cases hd; cases r1; cases r2
    exact op_ge pins s σ H _ _ v u Q I rx ry ⟨_, _, rfl, rfl, h _ B H S (Same.refl B) (.bl _)⟩
  · cases hd
end

/-! ### == -/
mutual
def D.py : D → PyData
  | .non => .none
  | .bl b => .bool b
  | .int i => .int i
  | .str s => .str s
  | .tup ds => .tuple (D.pys ds)
  | .lst ds => .list (D.pys ds)
  | .dct _ _ => .none
def D.pys : List D → List PyData
  | [] => []
  | d :: ds => d.py :: D.pys ds
end
mutual
theorem deq_py : ∀ (n m : Nat) (a b : D), a.eqok n = true → b.eqok m = true → PyData.eqv a.py b.py = D.deq a b
  | n, m, .non, b, _, h2 => by cases b <;> first | rfl | (unfold D.eqok at h2; cases h2)
  | n, m, .bl x, b, _, h2 => by cases b <;> first | rfl | (unfold D.eqok at h2; cases h2)
  | n, m, .int x, b, _, h2 => by
    cases b with
    | int y => simp [D.py, PyData.eqv, D.deq, Bool.beq_eq_decide_eq]
    | dct _ _ => unfold D.eqok at h2; cases h2
    | _ => rfl
  | n, m, .str x, b, _, h2 => by
    cases b with
    | str y => simp [D.py, PyData.eqv, D.deq, Bool.beq_eq_decide_eq]
    | dct _ _ => unfold D.eqok at h2; cases h2
    | _ => rfl
  | n, m, .dct _ _, b, h1, _ => by unfold D.eqok at h1; cases h1
  | n, m, .tup xs, b, h1, h2 => by
    cases b with
    | tup ys =>
      unfold D.eqok at h1 h2
      cases n with
      | zero => cases h1
      | succ n =>
        cases m with
        | zero => cases h2
        | succ m =>
          have q := deqs_py n m xs ys h1 h2
          simp only [D.py, PyData.eqv, D.deq]
          exact q
    | dct _ _ => unfold D.eqok at h2; cases h2
    | _ => rfl
  | n, m, .lst xs, b, h1, h2 => by
    cases b with
    | lst ys =>
      unfold D.eqok at h1 h2
      cases n with
      | zero => cases h1
      | succ n =>
        cases m with
        | zero => cases h2
        | succ m =>
          have q := deqs_py n m xs ys h1 h2
          simp only [D.py, PyData.eqv, D.deq]
          exact q
    | dct _ _ => unfold D.eqok at h2; cases h2
    | _ => rfl
theorem deqs_py : ∀ (n m : Nat) (a b : List D), D.eqoks n a = true → D.eqoks m b = true → PyData.eqvAll (D.pys a) (D.pys b) = D.deqs a b
  | n, m, [], [], _, _ => rfl
  | n, m, [], _ :: _, _, _ => rfl
  | n, m, _ :: _, [], _, _ => rfl
  | n, m, x :: xs, y :: ys, h1, h2 => by
    unfold D.eqoks at h1 h2
    rw [Bool.and_eq_true] at h1 h2
    have q1 := deq_py n m x y h1.1 h2.1
    have q2 := deqs_py n m xs ys h1.2 h2.2
    simp only [D.pys, PyData.eqvAll, D.deqs]
    rw [q1, q2]
end
mutual
theorem shaped_py : ∀ (n : Nat) (a : D), a.eqok n = true → a.py.canLay0 = true ∧ a.py.depth ≤ n + 1
  | n, .non, _ => ⟨by simp [D.py, PyData.canLay0], by simp [D.py, PyData.depth]⟩
  | n, .bl x, _ => ⟨by simp [D.py, PyData.canLay0], by simp [D.py, PyData.depth]⟩
  | n, .int x, _ => ⟨by simp [D.py, PyData.canLay0], by simp [D.py, PyData.depth]⟩
  | n, .str x, h1 => ⟨by simp only [D.py, PyData.canLay0]; unfold D.eqok at h1; exact h1, by simp [D.py, PyData.depth]⟩
  | n, .dct _ _, h1 => by unfold D.eqok at h1; cases h1
  | n, .tup xs, h1 => by
    unfold D.eqok at h1
    cases n with
    | zero => cases h1
    | succ n =>
      obtain ⟨q1, q2⟩ := shapeds_py n xs h1
      simp only [D.py, PyData.canLay0, PyData.depth]
      exact ⟨q1, by omega⟩
  | n, .lst xs, h1 => by
    unfold D.eqok at h1
    cases n with
    | zero => cases h1
    | succ n =>
      obtain ⟨q1, q2⟩ := shapeds_py n xs h1
      simp only [D.py, PyData.canLay0, PyData.depth]
      exact ⟨q1, by omega⟩
theorem shapeds_py : ∀ (n : Nat) (a : List D), D.eqoks n a = true → PyData.canLayAll0 (D.pys a) = true ∧ PyData.depthAll (D.pys a) ≤ n + 1
  | n, [], _ => ⟨by simp [D.pys, PyData.canLayAll0], by simp [D.pys, PyData.depthAll]⟩
  | n, x :: xs, h1 => by
    unfold D.eqoks at h1
    rw [Bool.and_eq_true] at h1
    obtain ⟨a1, a2⟩ := shaped_py n x h1.1
    obtain ⟨b1, b2⟩ := shapeds_py n xs h1.2
    simp only [D.pys, PyData.canLayAll0, PyData.depthAll]
    exact ⟨by rw [a1, b1]; rfl, by omega⟩
end
section
variable {K : PySem.W.Frag} {B H : Hp}
mutual
theorem Rep.dp (s : Same B H) : ∀ {n : Nat} {v : V} {d : D}, d.eqok n = true → Rep K B v d → Dp K H v d.py
  | _, _, _, _, .non => .non
  | _, _, _, _, .bl b => .bl b
  | _, _, _, _, .int i => .int i
  | _, _, _, _, .str x => .str x
  | n, _, _, f, .tup h r => by
    unfold D.eqok at f
    cases n with
    | zero => cases f
    | succ n => exact .tup (same_sqT s h) (Reps.dp s f r)
  | n, _, _, f, .lst h r => by
    unfold D.eqok at f
    cases n with
    | zero => cases f
    | succ n => exact .lst (same_sqL s h) (Reps.dp s f r)
  | _, _, _, f, .dct h e r => by unfold D.eqok at f; cases f
theorem Reps.dp (s : Same B H) : ∀ {n : Nat} {v : List V} {d : List D}, D.eqoks n d = true → Reps K B v d → DpAll K H v (D.pys d)
  | _, _, _, _, .nil => .nil
  | _, _, _, f, .cons h r => by
    unfold D.eqoks at f
    rw [Bool.and_eq_true] at f
    exact .cons (Rep.dp s f.1 h) (Reps.dp s f.2 r)
end
theorem dct_get : ∀ {kvs : List (Key × V)} {ds : List D} {k : Key} {d : D}, Reps K B (kvs.map (·.2)) ds → dctGet (kvs.map (·.1)) ds k = some d → ∃ v, valV kvs k = some v ∧ Rep K B v d
  | [], ds, k, d, _, h => by simp [dctGet] at h
  | (k0, v0) :: kvs, [], k, d, r, _ => by cases r
  | (k0, v0) :: kvs, d0 :: ds, k, d, r, h => by
    cases r with
    | cons r0 rr =>
      by_cases e : k0 = k
      · subst e
        refine ⟨v0, valV_pos rfl, ?_⟩
        simp [dctGet] at h
        subst h
        exact r0
      · have h2 : dctGet (kvs.map (·.1)) ds k = some d := by
          simp only [dctGet, List.map_cons, List.zip_cons_cons, List.find?_cons, decide_eq_false e] at h ⊢
          exact h
        obtain ⟨v, h3, h4⟩ := dct_get rr h2
        exact ⟨v, (valV_neg e).trans h3, h4⟩
theorem dct_none : ∀ {kvs : List (Key × V)} {ds : List D} {k : Key}, Reps K B (kvs.map (·.2)) ds → dctGet (kvs.map (·.1)) ds k = none → valV kvs k = none
  | [], ds, k, _, h => rfl
  | (k0, v0) :: kvs, [], k, r, _ => by cases r
  | (k0, v0) :: kvs, d0 :: ds, k, r, h => by
    cases r with
    | cons r0 rr =>
      by_cases e : k0 = k
      · subst e
        simp [dctGet] at h
      · have h2 : dctGet (kvs.map (·.1)) ds k = none := by
          simp only [dctGet, List.map_cons, List.zip_cons_cons, List.find?_cons, decide_eq_false e] at h ⊢
          exact h
        rw [valV_neg e]
        exact dct_none rr h2
theorem dct_ok {n : Nat} : ∀ {ks : List Ky} {ds : List D} {k : Ky} {d : D}, D.eqoks n ds = true → dctGet ks ds k = some d → D.eqok n d = true
  | [], ds, k, d, _, h => by simp [dctGet] at h
  | k0 :: ks, [], k, d, _, h => by simp [dctGet] at h
  | k0 :: ks, d0 :: ds, k, d, ho, h => by
    unfold D.eqoks at ho
    rw [Bool.and_eq_true] at ho
    by_cases e : k0 = k
    · subst e
      simp [dctGet] at h
      subst h
      exact ho.1
    · have h2 : dctGet ks ds k = some d := by
        simp only [dctGet, List.zip_cons_cons, List.find?_cons, decide_eq_false e] at h ⊢
        exact h
      exact dct_ok ho.2 h2
theorem shaped_of {n : Nat} (hn : n < 64) {d : D} (h : d.eqok n = true) : SeqAt.shaped d.py = true := by
  obtain ⟨q1, q2⟩ := shaped_py n d h
  unfold SeqAt.shaped
  rw [q1]
  exact decide_eq_true (by omega)
end
section
variable {X : Cx} {pins : List (Addr × Obj)} {σ : L2.St} {H B : Hp} {s : Shared}
/-- the entries of two dicts side by side -/
theorem hits_run {A : Around} (I : Inv X pins σ H s) (sb : Same B H) {lvs : List (Key × V)} {es : List D} {vb : List (Key × Value)} (hu : A.units + 63 < cLine) (rb : KV lvs vb) (re : Reps X.K B (lvs.map (·.2)) es) (he : D.eqoks 20 es = true) :
    ∀ {kvs : List (Key × V)} {ds : List D} {va : List (Key × Value)}, KV kvs va → Reps X.K B (kvs.map (·.2)) ds → D.eqoks 20 ds = true → PySem.W.KeqHits A s vb va (hitsD (lvs.map (·.1)) es (kvs.map (·.1)) ds)
  | [], ds, va, ra, rd, hd => by
    cases ra
    cases rd
    exact .nil
  | (k, v) :: kvs, ds, va, ra, rd, hd => by
    cases ra with
    | cons h t =>
      cases rd with
      | @cons _ _ d ds' r0 rr =>
        rename_i q qs
        obtain ⟨h1, h2⟩ := h
        obtain ⟨k', u⟩ := q
        have h1 : k = k' := h1
        subst h1
        unfold D.eqoks at hd
        rw [Bool.and_eq_true] at hd
        have ih := hits_run I sb hu rb re he t rr hd.2
        rw [List.map_cons]
        unfold hitsD
        cases z : dctGet (lvs.map (·.1)) es k with
        | none =>
          have q := rb.val k
          rw [dct_none re z] at q
          refine .miss ?_
          cases w : valueAt vb k with
          | none => rfl
          | some y => rw [w] at q; exact q.elim
        | some e =>
          obtain ⟨w, hw, rw'⟩ := dct_get re z
          have q := rb.val k
          rw [hw] at q
          obtain ⟨y, hy, ry⟩ := q.some_of
          have he' : D.eqok 20 e = true := dct_ok he z
          obtain ⟨as, r1⟩ := Dp.reads I d.py v u (r0.dp sb hd.1) h2
          obtain ⟨bs, r2⟩ := Dp.reads I e.py w y (rw'.dp sb he') ry
          have := SeqAt.eqAt_reads d.py e.py A s u y as bs r1 r2 (shaped_py 20 d hd.1).1 (shaped_py 20 e he').1 (by have := (shaped_py 20 d hd.1).2; omega)
          rw [deq_py 20 20 d e hd.1 he'] at this
          exact .hit hy this ih
theorem od_eq (hu : X.A.units + 64 < cLine) : OpR X (compareOp .Eq) (rDat X.K opEq) := by
  intro pins s σ H x y v u Q I rx ry ⟨G, B, σ', e, a, b, d, S, r1, r2, hd, h⟩
  unfold opEq at hd
  split at hd
  · rename_i z
    cases hd
    rw [Bool.and_eq_true] at z
    refine op_eqD hu pins s σ H x y v u Q I rx ry ⟨a.py, b.py, r1.dp S.sub z.1, r2.dp S.sub z.2, shaped_of (by decide) z.1, shaped_of (by decide) z.2, ?_⟩
    rw [deq_py 20 20 a b z.1 z.2]
    exact h _ B H S (Same.refl B) (.bl _)
  · unfold opEqK at hd
    split at hd
    · rename_i ks ds ls es
      split at hd
      · rename_i z
        cases hd
        rw [Bool.and_eq_true] at z
        cases r1 with
        | @dct p kvs _ _ a1 a2 a3 =>
          cases r2 with
          | @dct p' lvs _ _ b1 b2 b3 =>
            subst a2 b2
            obtain rfl : v = Value.ref p := rx
            obtain rfl : u = Value.ref p' := ry
            obtain ⟨_, ya, va, ra, da⟩ := dk_rd I.hok (rd_sub S.sub a1)
            obtain ⟨_, yb, vb, rb, db⟩ := dk_rd I.hok (rd_sub S.sub b1)
            refine PySem.W.keq_eq (knd := mixKind X.prog X.w) ya yb da db (by omega) (fun _ => hits_run (A := X.A.in1) I S.sub (by show X.A.units + 1 + 63 < cLine; omega) rb b3 z.2 ra a3 z.1) ?_
            rw [← ra.length, ← rb.length]
            rw [List.length_map, List.length_map, Bool.false_xor] at h
            exact ⟨.bl _, H, I, rfl, h _ B H S (Same.refl B) (.bl _)⟩
      · cases hd
    · cases hd
theorem od_ne (hu : X.A.units + 64 < cLine) : OpR X (compareOp .NotEq) (rDat X.K opNe) := by
  intro pins s σ H x y v u Q I rx ry ⟨G, B, σ', e, a, b, d, S, r1, r2, hd, h⟩
  unfold opNe at hd
  split at hd
  · rename_i z
    cases hd
    rw [Bool.and_eq_true] at z
    refine op_neD hu pins s σ H x y v u Q I rx ry ⟨a.py, b.py, r1.dp S.sub z.1, r2.dp S.sub z.2, shaped_of (by decide) z.1, shaped_of (by decide) z.2, ?_⟩
    rw [deq_py 20 20 a b z.1 z.2]
    exact h _ B H S (Same.refl B) (.bl _)
  · unfold opEqK at hd
    split at hd
    · rename_i ks ds ls es
      split at hd
      · rename_i z
        cases hd
        rw [Bool.and_eq_true] at z
        cases r1 with
        | @dct p kvs _ _ a1 a2 a3 =>
          cases r2 with
          | @dct p' lvs _ _ b1 b2 b3 =>
            subst a2 b2
            obtain rfl : v = Value.ref p := rx
            obtain rfl : u = Value.ref p' := ry
            obtain ⟨_, ya, va, ra, da⟩ := dk_rd I.hok (rd_sub S.sub a1)
            obtain ⟨_, yb, vb, rb, db⟩ := dk_rd I.hok (rd_sub S.sub b1)
            refine PySem.W.keq_ne (knd := mixKind X.prog X.w) ya yb da db (by omega) (fun _ => hits_run (A := X.A.in1) I S.sub (by show X.A.units + 1 + 63 < cLine; omega) rb b3 z.2 ra a3 z.1) ?_
            rw [← ra.length, ← rb.length]
            rw [List.length_map, List.length_map, Bool.true_xor] at h
            exact ⟨.bl _, H, I, rfl, h _ B H S (Same.refl B) (.bl _)⟩
      · cases hd
    · cases hd
end
end VL

/-! VL5: is, in, subscripts, slices, built-in functions, isinstance. -/
namespace VL
open PySem PySem.Spec PyProof.Rows L2
section
variable {K : PySem.W.Frag} {B H : Hp}
theorem Rep.isNon {v : V} {d : D} (r : Rep K B v d) : decide (v = .non) = d.isNon := by
  cases r <;> first | rfl | (rw [decide_eq_false (by intro z; cases z)]; rfl)
theorem Rep.atom {v : V} {d : D} (r : Rep K B v d) (h : d.atom = true) : flatV v = true := by
  cases r <;> first | rfl | cases h
theorem Rep.eqV {v w : V} {a b : D} (r : Rep K B v a) (q : Rep K B w b) (ha : a.atom = true) (hb : b.atom = true) : eqV v w = D.deq a b := by
  cases r <;> first
    | exact (Bool.false_ne_true ha).elim
    | (cases q <;> first
        | exact (Bool.false_ne_true hb).elim
        | rfl
        | (simp [L2.eqV, D.deq, Bool.beq_eq_decide_eq]))
theorem Reps.atoms : ∀ {vs : List V} {ds : List D}, Reps K B vs ds → ds.all D.atom = true → vs.all flatV = true
  | _, _, .nil, _ => rfl
  | _, _, .cons r t, h => by
    rw [List.all_cons, Bool.and_eq_true] at h ⊢
    exact ⟨r.atom h.1, t.atoms h.2⟩
theorem Reps.inV {v : V} {a : D} (r : Rep K B v a) (ha : a.atom = true) : ∀ {vs : List V} {ds : List D}, Reps K B vs ds → ds.all D.atom = true → inV v vs = ds.any fun y => D.deq y a
  | _, _, .nil, _ => rfl
  | _, _, .cons q t, h => by
    rw [List.all_cons, Bool.and_eq_true] at h
    have ih := Reps.inV r ha t h.2
    unfold L2.inV at ih ⊢
    rw [List.any_cons, List.any_cons, ih, q.eqV r h.1 ha]
theorem atD_at {vs : List V} {ds : List D} {i : Int} {d : D} (r : Reps K B vs ds) (h : atD ds i = some d) : ∃ v, atI vs i = some v ∧ Rep K B v d := by
  unfold atD at h
  unfold atI
  rw [r.length]
  have e : ixN ds.length i = ixD ds.length i := rfl
  rw [e]
  cases z : ixD ds.length i with
  | none => rw [z] at h; cases h
  | some j => rw [z] at h; exact r.get h
theorem keyD_V {v : V} {d : D} {k : Ky} (r : Rep K B v d) (h : keyD d = some k) : v = kV k := by
  cases r <;> cases h <;> rfl
theorem dct_at {a : Addr} {kvs : List (Key × V)} {ds : List D} {v : V} {k : Ky} (s : Same B H) (h : Rd B a (.dK kvs)) (r : Reps K B (kvs.map (·.2)) ds) (hv : v = kV k) : ∃ o, DGet H a v o ∧ o.isSome = (dctGet (kvs.map (·.1)) ds k).isSome ∧ ∀ d, dctGet (kvs.map (·.1)) ds k = some d → ∃ w, o = some w ∧ Rep K B w d := by
  refine ⟨valV kvs k, .inl ⟨kvs, k, same_rd s h, hv, rfl⟩, ?_, fun d e => dct_get r e⟩
  cases e : dctGet (kvs.map (·.1)) ds k with
  | none => rw [dct_none r e] <;> rfl
  | some d =>
    obtain ⟨w, e2, _⟩ := dct_get r e
    rw [e2] <;> rfl
end
section
variable {X : Cx}
theorem od_is : OpR X (compareOp .Is) (rDat X.K opIs) := by
  intro pins s σ H x y v u Q I rx ry ⟨G, B, σ', e, a, b, d, S, r1, r2, hd, h⟩
  unfold opIs at hd
  split at hd
  · cases hd; cases r2
    refine op_isN pins s σ H _ _ v u Q I rx ry ⟨rfl, ?_⟩
    rw [r1.isNon]
    exact h _ B H S (Same.refl B) (.bl _)
  · cases hd; cases r1; cases r2
    refine op_isBl pins s σ H _ _ v u Q I rx ry ⟨_, _, rfl, rfl, ?_⟩
    rw [← Bool.beq_eq_decide_eq]
    exact h _ B H S (Same.refl B) (.bl _)
  · cases hd
theorem od_isnot : OpR X (compareOp .IsNot) (rDat X.K opIsNot) := by
  intro pins s σ H x y v u Q I rx ry ⟨G, B, σ', e, a, b, d, S, r1, r2, hd, h⟩
  unfold opIsNot at hd
  split at hd
  · cases hd; cases r2
    refine op_notN pins s σ H _ _ v u Q I rx ry ⟨rfl, ?_⟩
    rw [r1.isNon]
    exact h _ B H S (Same.refl B) (.bl _)
  · cases hd; cases r1; cases r2
    refine op_notBl pins s σ H _ _ v u Q I rx ry ⟨_, _, rfl, rfl, ?_⟩
    rw [← Bool.beq_eq_decide_eq]
    exact h _ B H S (Same.refl B) (.bl _)
  · cases hd
theorem od_in (hu : X.A.units + 1 < cLine) : OpR X (compareOp .In) (rDat X.K opIn) := by
  intro pins s σ H x y v u Q I rx ry ⟨G, B, σ', e, a, b, d, S, r1, r2, hd, h⟩
  unfold opIn at hd
  split at hd
  · split at hd
    · rename_i z
      cases hd
      rw [Bool.and_eq_true] at z
      cases r2 with
      | tup h1 q1 =>
        refine op_in_seq pins s σ H _ _ v u Q I rx ry ⟨_, _, rfl, .inr (same_sqT S.sub h1), r1.atom z.1, q1.atoms z.2, ?_⟩
        rw [if_neg Bool.false_ne_true, Reps.inV r1 z.1 q1 z.2]
        exact h _ B H S (Same.refl B) (.bl _)
    · cases hd
  · split at hd
    · rename_i z
      cases hd
      rw [Bool.and_eq_true] at z
      cases r2 with
      | lst h1 q1 =>
        refine op_in_seq pins s σ H _ _ v u Q I rx ry ⟨_, _, rfl, .inl (same_sqL S.sub h1), r1.atom z.1, q1.atoms z.2, ?_⟩
        rw [if_neg Bool.false_ne_true, Reps.inV r1 z.1 q1 z.2]
        exact h _ B H S (Same.refl B) (.bl _)
    · cases hd
  · cases r2 with
    | dct h1 he q1 =>
      subst he
      cases z : keyD a with
      | none => rw [z] at hd; cases hd
      | some k =>
        rw [z] at hd
        cases hd
        obtain ⟨o, g, hs, _⟩ := dct_at S.sub h1 q1 (keyD_V r1 z)
        cases ry
        refine d_in hu I g rx fun s3 I3 => ⟨.bl o.isSome, H, I3, rfl, ?_⟩
        rw [hs]
        exact h _ B H S (Same.refl B) (.bl _)
  · cases hd
theorem od_notin (hu : X.A.units + 1 < cLine) : OpR X (compareOp .NotIn) (rDat X.K opNotIn) := by
  intro pins s σ H x y v u Q I rx ry ⟨G, B, σ', e, a, b, d, S, r1, r2, hd, h⟩
  unfold opNotIn at hd
  split at hd
  · rename_i k hk
    cases hd
    unfold opIn at hk
    split at hk
    · split at hk
      · rename_i z
        cases hk
        rw [Bool.and_eq_true] at z
        cases r2 with
        | tup h1 q1 =>
          refine op_notIn_seq pins s σ H _ _ v u Q I rx ry ⟨_, _, rfl, .inr (same_sqT S.sub h1), r1.atom z.1, q1.atoms z.2, ?_⟩
          rw [if_pos rfl, Reps.inV r1 z.1 q1 z.2]
          exact h _ B H S (Same.refl B) (.bl _)
      · cases hk
    · split at hk
      · rename_i z
        cases hk
        rw [Bool.and_eq_true] at z
        cases r2 with
        | lst h1 q1 =>
          refine op_notIn_seq pins s σ H _ _ v u Q I rx ry ⟨_, _, rfl, .inl (same_sqL S.sub h1), r1.atom z.1, q1.atoms z.2, ?_⟩
          rw [if_pos rfl, Reps.inV r1 z.1 q1 z.2]
          exact h _ B H S (Same.refl B) (.bl _)
      · cases hk
    · cases r2 with
      | dct h1 he q1 =>
        subst he
        cases z : keyD a with
        | none => rw [z] at hk; cases hk
        | some k =>
          rw [z] at hk
          cases hk
          obtain ⟨o, g, hs, _⟩ := dct_at S.sub h1 q1 (keyD_V r1 z)
          cases ry
          refine d_notIn hu I g rx fun s3 I3 => ⟨.bl (!o.isSome), H, I3, rfl, ?_⟩
          rw [hs]
          exact h _ B H S (Same.refl B) (.bl _)
    · cases hk
  · cases hd
theorem od_ix (hu : X.A.units + 1 < cLine) : IxR X (rDat X.K opIx) := by
  intro value slice pins s σ H x y v u Q I rx ry ⟨G, B, σ', e, a, b, d, S, r1, r2, hd, h⟩ hs
  unfold opIx at hd
  split at hd
  · cases r1 with
    | tup h1 q1 =>
      cases r2
      obtain ⟨w, hw, rw'⟩ := atD_at q1 hd
      exact ix_tup value slice pins s σ H _ _ v u Q I rx ry ⟨_, _, _, w, rfl, rfl, same_sqT S.sub h1, hw, h w B H S (Same.refl B) rw'⟩ hs
  · cases r1 with
    | lst h1 q1 =>
      cases r2
      obtain ⟨w, hw, rw'⟩ := atD_at q1 hd
      exact ix_list value slice pins s σ H _ _ v u Q I rx ry ⟨_, _, _, w, rfl, rfl, same_sqL S.sub h1, hw, h w B H S (Same.refl B) rw'⟩ hs
  · split at hd
    · rename_i z i hz
      cases r1; cases r2
      cases e1 : ixD z.cps.toList.length i with
      | none => rw [e1] at hd; cases hd
      | some j =>
        rw [e1] at hd
        have hd : (z.cps.toList[j]?).map (fun c => D.str ⟨#[c]⟩) = some d := hd
        cases e2 : z.cps.toList[j]? with
        | none => rw [e2] at hd; cases hd
        | some c =>
          rw [e2] at hd
          cases hd
          refine ix_str value slice pins s σ H _ _ v u Q I rx ry ⟨_, _, c, rfl, rfl, vle hz, ?_, h _ B H S (Same.refl B) (.str _)⟩ hs
          unfold atI
          have e : ixN z.cps.toList.length i = ixD z.cps.toList.length i := rfl
          rw [e, e1]
          exact e2
    · cases hd
  · cases r1 with
    | dct h1 he q1 =>
      subst he
      cases z : keyD b with
      | none => rw [z] at hd; cases hd
      | some k =>
        rw [z] at hd
        obtain ⟨o, g, _, hv⟩ := dct_at S.sub h1 q1 (keyD_V r2 z)
        obtain ⟨w, ew, rw'⟩ := hv d hd
        subst ew
        cases rx
        refine tail_any (dict_typeIs I g) PySem.F.slot_dict_getitem.lookup (d_getItem hu I g ry fun w' s3 I3 rr => ⟨w, H, I3, rr, h w B H S (Same.refl B) rw'⟩) hs
  · cases hd

/-! built-in functions -/
def rDatC (K : PySem.W.Frag) (f : List D → Option D) : List V → Hp → VK → Prop := fun vs H Q => ∃ (G : Gr) (B : Hp) (σ : L2.St) (e : Env) (ds : List D) (d : D), Sto K G B H σ e ∧ Reps K B vs ds ∧ f ds = some d ∧
  ∀ v B' H', Sto K G B' H' σ e → Same B B' → Rep K B' v d → Q v H'
def rDatF (K : PySem.W.Frag) (f : List D → Option (List D)) : List V → Hp → VK → Prop := fun vs H Q => ∃ (G : Gr) (B : Hp) (σ : L2.St) (e : Env) (ds rs : List D), Sto K G B H σ e ∧ Reps K B vs ds ∧ f ds = some rs ∧
  ∀ v B' H', Sto K G B' H' σ e → Same B B' → rpF K G B' H' σ e v rs → Q v H'
theorem rd_bf {K : PySem.W.Frag} {mg : Str → Option Value} {W : Am K} {f : List D → Option D} {t : TA} {m : MA} (ha : RdA K mg W t m) : RdE K mg W (tCB (rDatC K f) t) (vBf f m) where
  run := fun G hG B H σ e Q S q => by
    refine ha.run G hG B H σ e _ S (Po.bind q fun ds e1 vs B1 H1 S1 s1 r1 h1 => ?_)
    obtain ⟨d, hd, h2⟩ := h1.of
    exact ⟨G, B1, σ, e1, ds, d, S1, r1, hd, h2⟩
theorem rd_bl' {K : PySem.W.Frag} {mg : Str → Option Value} {W : Am K} {f : List D → Option (List D)} {t : TA} {m : MA} (ha : RdA K mg W t m) : RdF K mg W (tCB (rDatF K f) t) (vBl f m) where
  run := fun G hG B H σ e Q S q => by
    refine ha.run G hG B H σ e _ S (Po.bind q fun ds e1 vs B1 H1 S1 s1 r1 h1 => ?_)
    obtain ⟨d, hd, h2⟩ := h1.of
    exact ⟨G, B1, σ, e1, ds, d, S1, r1, hd, h2⟩
theorem cd_len (hc : X.calm = true ∨ True) : CallR X (.builtin "len") (rDatC X.K bfLen) := by
  intro pins s σ H xs us Q I r ⟨G, B, σ', e, ds, d, S, rs, hd, h⟩
  unfold bfLen at hd
  split at hd
  · cases hd
    cases rs with
    | cons r0 rr =>
      cases rr
      cases r0 with
      | tup h1 q1 =>
        refine call_len pins s σ H _ us Q I r ⟨_, _, rfl, .inr ⟨_, same_sqT S.sub h1, rfl⟩, ?_⟩
        rw [q1.length]
        exact h _ B H S (Same.refl B) (.int _)
  · cases hd
    cases rs with
    | cons r0 rr =>
      cases rr
      cases r0 with
      | lst h1 q1 =>
        refine call_len pins s σ H _ us Q I r ⟨_, _, rfl, .inl ⟨_, same_sqL S.sub h1, rfl⟩, ?_⟩
        rw [q1.length]
        exact h _ B H S (Same.refl B) (.int _)
  · split at hd
    · rename_i z
      cases hd
      cases rs with
      | cons r0 rr =>
        cases rr
        cases r0
        exact call_len pins s σ H _ us Q I r ⟨_, _, rfl, ⟨vle z, rfl⟩, h _ B H S (Same.refl B) (.int _)⟩
    · cases hd
  · cases hd
    cases rs with
    | cons r0 rr =>
      cases rr
      cases r0 with
      | dct h1 he q1 =>
        subst he
        obtain ⟨u, rfl, ru⟩ := vals1 r
        cases ru
        refine d_len I (same_rd S.sub h1) fun t s' I' => ⟨.int _, H, I', ⟨t, rfl⟩, ?_⟩
        have q := h _ B H S (Same.refl B) (.int _)
        rw [List.length_map] at q
        exact q
  · cases hd
theorem cd_abs : CallR X (.builtin "abs") (rDatC X.K bfAbs) := by
  intro pins s σ H xs us Q I r ⟨G, B, σ', e, ds, d, S, rs, hd, h⟩
  unfold bfAbs at hd
  split at hd
  · cases hd
    cases rs with
    | cons r0 rr =>
      cases rr
      cases r0
      exact call_abs pins s σ H _ us Q I r ⟨_, rfl, h _ B H S (Same.refl B) (.int _)⟩
  · cases hd
theorem cd_min (hc : X.calm = true) : CallR X (.builtin "min") (rDatC X.K bfMin) := by
  intro pins s σ H xs us Q I r ⟨G, B, σ', e, ds, d, S, rs, hd, h⟩
  unfold bfMin at hd
  split at hd
  · cases hd
    cases rs with
    | cons r0 rr =>
      cases rr with
      | cons r1 rr =>
        cases rr
        cases r0
        cases r1
        exact call_min2 hc pins s σ H _ us Q I r ⟨_, _, rfl, h _ B H S (Same.refl B) (.int _)⟩
  · cases hd
theorem cd_max (hc : X.calm = true) : CallR X (.builtin "max") (rDatC X.K bfMax) := by
  intro pins s σ H xs us Q I r ⟨G, B, σ', e, ds, d, S, rs, hd, h⟩
  unfold bfMax at hd
  split at hd
  · cases hd
    cases rs with
    | cons r0 rr =>
      cases rr with
      | cons r1 rr =>
        cases rr
        cases r0
        cases r1
        exact call_max2 hc pins s σ H _ us Q I r ⟨_, _, rfl, h _ B H S (Same.refl B) (.int _)⟩
  · cases hd
theorem ints_rep {K : PySem.W.Frag} {B : Hp} : ∀ {ds : List D} {ns : List Int} {vs : List V}, intsD ds = some ns → Reps K B vs ds → vs = ns.map V.int
  | [], ns, vs, h, r => by cases h; cases r; rfl
  | d :: ds, ns, vs, h, r => by
    cases r with
    | cons r0 rr =>
      cases d with
      | int i =>
        unfold intsD at h
        obtain ⟨ms, h1, rfl⟩ := Option.map_eq_some_iff.mp h
        cases r0
        rw [ints_rep h1 rr] <;> rfl
      | _ => cases h
theorem bools_rep {K : PySem.W.Frag} {B : Hp} : ∀ {ds : List D} {ns : List Bool} {vs : List V}, boolsD ds = some ns → Reps K B vs ds → vs = ns.map V.bl
  | [], ns, vs, h, r => by cases h; cases r; rfl
  | d :: ds, ns, vs, h, r => by
    cases r with
    | cons r0 rr =>
      cases d with
      | bl i =>
        unfold boolsD at h
        obtain ⟨ms, h1, rfl⟩ := Option.map_eq_some_iff.mp h
        cases r0
        rw [bools_rep h1 rr] <;> rfl
      | _ => cases h
theorem cd_sum (hc : X.calm = true) : CallR X (.builtin "sum") (rDatC X.K bfSum) := by
  intro pins s σ H xs us Q I r ⟨G, B, σ', e, ds, d, S, rs, hd, h⟩
  unfold bfSum at hd
  split at hd
  · obtain ⟨ns, h1, rfl⟩ := Option.map_eq_some_iff.mp hd
    cases rs with
    | cons r0 rr =>
      cases rr
      cases r0 with
      | lst h2 q2 =>
        obtain rfl := ints_rep h1 q2
        exact cr_sum hc pins s σ H _ us Q I r ⟨_, ns, rfl, same_sqL S.sub h2, h _ B H S (Same.refl B) (.int _)⟩
  · cases hd
theorem cd_all (hc : X.calm = true) : CallR X (.builtin "all") (rDatC X.K bfAll) := by
  intro pins s σ H xs us Q I r ⟨G, B, σ', e, ds, d, S, rs, hd, h⟩
  unfold bfAll at hd
  split at hd
  · obtain ⟨ns, h1, rfl⟩ := Option.map_eq_some_iff.mp hd
    cases rs with
    | cons r0 rr =>
      cases rr
      cases r0 with
      | lst h2 q2 =>
        obtain rfl := bools_rep h1 q2
        exact cr_all hc pins s σ H _ us Q I r ⟨_, ns, rfl, same_sqL S.sub h2, h _ B H S (Same.refl B) (.bl _)⟩
  · cases hd
theorem cd_any (hc : X.calm = true) : CallR X (.builtin "any") (rDatC X.K bfAny) := by
  intro pins s σ H xs us Q I r ⟨G, B, σ', e, ds, d, S, rs, hd, h⟩
  unfold bfAny at hd
  split at hd
  · obtain ⟨ns, h1, rfl⟩ := Option.map_eq_some_iff.mp hd
    cases rs with
    | cons r0 rr =>
      cases rr
      cases r0 with
      | lst h2 q2 =>
        obtain rfl := bools_rep h1 q2
        exact cr_any hc pins s σ H _ us Q I r ⟨_, ns, rfl, same_sqL S.sub h2, h _ B H S (Same.refl B) (.bl _)⟩
  · cases hd
/-- what a new list is, from its place -/
theorem new_F {K : PySem.W.Frag} {G : Gr} {B H : Hp} {σ : L2.St} {e : Env} {Q : VK} {rs : List D} {vs : List V} (S : Sto K G B H σ e) (r : Reps K B vs rs) (h : ∀ v B' H', Sto K G B' H' σ e → Same B B' → rpF K G B' H' σ e v rs → Q v H') :
    ∀ p, H p = none → Q (.ref p) (upd H p (.lst vs)) := fun p hp => h _ B _ (S.loose hp) (Same.refl B) ⟨p, vs, rfl, upd_same, same_none S.sub hp, S.fresh hp, fun q => not_owned_new S hp (S.own_new hp q), r⟩
theorem cd_list : CallR X (.type "list") (rDatF X.K bfList) := by
  intro pins s σ H xs us Q I r ⟨G, B, σ', e, ds, d, S, rs, hd, h⟩
  unfold bfList at hd
  split at hd
  · cases hd
    cases rs with
    | cons r0 rr =>
      cases rr
      cases r0 with
      | lst h2 q2 => exact call_list_of pins s σ H _ us Q I r ⟨_, _, rfl, .inl (same_sqL S.sub h2), new_F S q2 h⟩
  · cases hd
    cases rs with
    | cons r0 rr =>
      cases rr
      cases r0 with
      | tup h2 q2 => exact call_list_of pins s σ H _ us Q I r ⟨_, _, rfl, .inr (same_sqT S.sub h2), new_F S q2 h⟩
  · cases hd

/-! isinstance -/
def kitAll (t : String) : Bool := kitB "NoneType" t == some (t == "NoneType") && kitB "bool" t == some (t == "bool" || t == "int") && kitB "int" t == some (t == "int") && kitB "str" t == some (t == "str") &&
  kitB "tuple" t == some (t == "tuple") && kitB "list" t == some (t == "list") && kitB "dict" t == some (t == "dict")
theorem kit_int : kitAll "int" = true := by decide +kernel
theorem kit_bool : kitAll "bool" = true := by decide +kernel
theorem kit_str : kitAll "str" = true := by decide +kernel
theorem kit_tuple : kitAll "tuple" = true := by decide +kernel
theorem kit_list : kitAll "list" = true := by decide +kernel
theorem kit_dict : kitAll "dict" = true := by decide +kernel
theorem Rep.kit {K : PySem.W.Frag} {B H : Hp} {v : V} {d : D} {t : String} (s : Same B H) (r : Rep K B v d) (h : kitAll t = true) : ∃ u, TyX K H v u ∧ PySem.W.kitOne K u (.type t) = some (d.isT t) := by
  unfold kitAll at h
  simp only [Bool.and_eq_true, beq_iff_eq] at h
  obtain ⟨⟨⟨⟨⟨⟨h1, h2⟩, h3⟩, h4⟩, h5⟩, h6⟩, h7⟩ := h
  cases r with
  | non => exact ⟨_, .base .non, kit_ty h1⟩
  | bl b => exact ⟨_, .base (.bl b), kit_ty h2⟩
  | int i => exact ⟨_, .base (.int i), kit_ty h3⟩
  | str x => exact ⟨_, .base (.str x), kit_ty h4⟩
  | tup h r =>
    rcases same_sqT s h with (q | ⟨o, q⟩) | ⟨o, its, n, hk, hc, _⟩
    · exact ⟨_, .base (.tup q), kit_ty h5⟩
    · exact ⟨_, .fTuple q, kit_ty h5⟩
    · exact ⟨_, .kTuple hk hc, kit_ty h5⟩
  | lst h r =>
    rcases same_sqL s h with (q | ⟨o, q⟩) | ⟨o, its, n, hk, hc, _⟩
    · exact ⟨_, .base (.lst q), kit_ty h6⟩
    · exact ⟨_, .base (.frz q), kit_ty h6⟩
    · exact ⟨_, .kList hk hc, kit_ty h6⟩
  | dct h _ r =>
    rcases same_rd s h with q | ⟨o, q⟩
    · exact ⟨_, .base (.dK q), kit_ty h7⟩
    · exact ⟨_, .fDict q, kit_ty h7⟩
theorem rd_isi {K : PySem.W.Frag} {mg : Str → Option Value} {W : Am K} {t : String} {ta : TE} {ma : ME} (hk : kitAll t = true) (ha : RdE K mg W ta ma) : RdE K mg W (tCB (rIsi K) (tCons ta (tCons (tC (.ty t)) tNil))) (vIsi t ma) where
  run := fun G hG B H σ e Q S q => by
    refine ha.run G hG B H σ e _ S (Po.bind q fun d e1 v B1 H1 S1 s1 r1 h1 => ?_)
    obtain ⟨u, ty, ek⟩ := r1.kit S1.sub hk
    exact ⟨v, .ty t, u, _, _, rfl, .ty t, ty, ek, Po.here h1 S1 (.bl _)⟩

/-! slices -/
theorem cut_V {vs : List V} {n : Nat} (lo hi : Option Int) (h : vs.length = n) : cutV vs lo hi = (vs.drop (sIxD n 0 lo)).take (sIxD n n hi - sIxD n 0 lo) := by
  subst h
  rfl
theorem rd_part {K : PySem.W.Frag} {mg : Str → Option Value} {W : Am K} {t : TE} {m : ME} (h : RdE K mg W t m) : RdX K mg W (fun _ _ _ _ _ b a => b = a) (tPart t) (vPart m) where
  run := fun G hG B H σ e Q S q => by
    refine h.run G hG B H σ e _ S (Po.bind q fun d e1 v B1 H1 S1 s1 r1 h1 => ?_)
    obtain ⟨a, ha, h2⟩ := h1.of
    cases d with
    | int i => cases ha; cases r1; exact ⟨_, rfl, Po.here h2 S1 rfl⟩
    | _ => cases ha
theorem rd_nopart {K : PySem.W.Frag} {mg : Str → Option Value} {W : Am K} : RdX K mg W (fun _ _ _ _ _ b a => b = a) tNoPart vNoPart where
  run := fun G hG B H σ e Q S q => Po.here q S rfl
/-- a slice told on data -/
def rDatS (K : PySem.W.Frag) : V → Option Int → Option Int → Hp → VK → Prop := fun x lo hi H Q => ∃ (G : Gr) (B : Hp) (σ : L2.St) (e : Env) (a d : D), Sto K G B H σ e ∧ Rep K B x a ∧ slT lo hi a = some d ∧
  ∀ v B' H', Sto K G B' H' σ e → Same B B' → Rep K B' v d → Q v H'
theorem sl_dat : SlR X (rDatS X.K) := by
  intro pins s σ H x v vl vu lo hi sl Q I rx hs pl pu ⟨G, B, σ', e, a, d, S, r1, hd, h⟩
  cases a with
  | tup ds =>
    by_cases hw : sIxD ds.length 0 lo = 0 ∧ sIxD ds.length ds.length hi = ds.length
    · have hd : (if sIxD ds.length 0 lo = 0 ∧ sIxD ds.length ds.length hi = ds.length then none else some (D.tup (cutD ds lo hi))) = some d := hd
      rw [if_pos hw] at hd
      cases hd
    · have hd : (if sIxD ds.length 0 lo = 0 ∧ sIxD ds.length ds.length hi = ds.length then none else some (D.tup (cutD ds lo hi))) = some d := hd
      rw [if_neg hw] at hd
      cases hd
      cases r1 with
      | tup q1 q2 =>
        have hl := q2.length
        refine sl_tup pins s σ H _ v vl vu lo hi sl Q I rx hs pl pu ⟨_, _, rfl, same_sqT S.sub q1, ?_, fun p hp => h _ _ _ (S.alloc hp) (same_upd' (same_none S.sub hp)) (.tup (SqT.of upd_same) (Reps.mono (same_upd' (same_none S.sub hp)) ?_))⟩
        · rw [hl]; exact hw
        · rw [cut_V _ _ hl]
          exact (q2.drop _).take _
  | lst ds =>
    cases hd
    cases r1 with
    | lst q1 q2 =>
      have hl := q2.length
      refine sl_list pins s σ H _ v vl vu lo hi sl Q I rx hs pl pu ⟨_, _, rfl, same_sqL S.sub q1, fun p hp => h _ _ _ (S.alloc hp) (same_upd' (same_none S.sub hp)) (.lst (SqL.of upd_same) (Reps.mono (same_upd' (same_none S.sub hp)) ?_))⟩
      rw [cut_V _ _ hl]
      exact (q2.drop _).take _
  | str z =>
    by_cases hz : z.length ≤ vmax
    · have hd : (if z.length ≤ vmax then some (D.str (cutSD z lo hi)) else none) = some d := hd
      rw [if_pos hz] at hd
      cases hd
      cases r1
      exact sl_str pins s σ H _ v vl vu lo hi sl Q I rx hs pl pu ⟨z, rfl, vle hz, h _ B H S (Same.refl B) (.str _)⟩
    · have hd : (if z.length ≤ vmax then some (D.str (cutSD z lo hi)) else none) = some d := hd
      rw [if_neg hz] at hd
      cases hd
  | _ => cases hd
theorem rd_slT {K : PySem.W.Frag} {mg : Str → Option Value} {W : Am K} {t : TE} {m : ME} {tl th : TO} {ml mh : MO} (h : RdE K mg W t m) (hl : RdX K mg W (fun _ _ _ _ _ b a => b = a) tl ml) (hh : RdX K mg W (fun _ _ _ _ _ b a => b = a) th mh) :
    RdE K mg W (tSl (rDatS K) t tl th) (vSl m ml mh) where
  run := fun G hG B H σ e Q S q => by
    refine h.run G hG B H σ e _ S (Po.bind q fun d e1 v B1 H1 S1 s1 r1 h1 => ?_)
    refine hl.run G hG B1 H1 σ e1 _ S1 (Po.bind h1 fun lo e2 lo' B2 H2 S2 s2 r2 h2 => ?_)
    refine hh.run G hG B2 H2 σ e2 _ S2 (Po.bind h2 fun hi e3 hi' B3 H3 S3 s3 r3 h3 => ?_)
    have r2 : lo' = lo := r2
    have r3 : hi' = hi := r3
    subst r2 r3
    obtain ⟨x, hx, h4⟩ := h3.of
    exact ⟨G, B3, σ, e3, d, x, S3, Rep.mono (s2.trans s3) r1, hx, h4⟩
theorem rd_slF {K : PySem.W.Frag} {mg : Str → Option Value} {W : Am K} {t : TE} {m : ME} {tl th : TO} {ml mh : MO} (h : RdE K mg W t m) (hl : RdX K mg W (fun _ _ _ _ _ b a => b = a) tl ml) (hh : RdX K mg W (fun _ _ _ _ _ b a => b = a) th mh) :
    RdF K mg W (tSl (rSlL K) t tl th) (vSlF m ml mh) where
  run := fun G hG B H σ e Q S q => by
    refine h.run G hG B H σ e _ S (Po.bind q fun d e1 v B1 H1 S1 s1 r1 h1 => ?_)
    refine hl.run G hG B1 H1 σ e1 _ S1 (Po.bind h1 fun lo e2 lo' B2 H2 S2 s2 r2 h2 => ?_)
    refine hh.run G hG B2 H2 σ e2 _ S2 (Po.bind h2 fun hi e3 hi' B3 H3 S3 s3 r3 h3 => ?_)
    have r2 : lo' = lo := r2
    have r3 : hi' = hi := r3
    subst r2 r3
    obtain ⟨x, hx, h4⟩ := h3.of
    cases d with
    | lst ds =>
      cases hx
      cases Rep.mono (s2.trans s3) r1 with
      | lst q1 q2 =>
        have hl := q2.length
        refine ⟨_, _, rfl, same_sqL S3.sub q1, fresh_list S3 ?_ h4⟩
        rw [cut_V _ _ hl]
        exact (q2.drop _).take _
    | _ => cases hx
theorem rd_revF {K : PySem.W.Frag} {mg : Str → Option Value} {W : Am K} {t : TE} {m : ME} (h : RdE K mg W t m) : RdF K mg W (tRevL K t) (vRevF m) where
  run := fun G hG B H σ e Q S q => by
    refine h.run G hG B H σ e _ S (Po.bind q fun d e1 v B1 H1 S1 s1 r1 h1 => ?_)
    obtain ⟨x, hx, h4⟩ := h1.of
    cases d with
    | lst ds =>
      cases hx
      cases r1 with
      | lst q1 q2 => exact ⟨_, _, rfl, same_sqL S1.sub q1, fresh_list S1 q2.reverse h4⟩
    | _ => cases hx
end
end VL

/-! VL6: statements, loops, comprehensions. -/
namespace VL
open PySem PySem.Spec PyProof.Rows L2
section
variable (K : PySem.W.Frag) (mg : Str → Option Value) (W : Am K)
/-- what a return hands back: a value, or (k) a new list -/
def RetOk (k : RK) (G : Gr) (B H : Hp) (σ : L2.St) (e : Env) (v : V) (d : D) : Prop := match k with
  | .v => Rep K B v d
  | .f => ∃ rs, d = .lst rs ∧ rpF K G B H σ e v rs
  | .t s => if d.flat = true then Rep K B v d else rpT K s G B H σ e v d
def PoS (k : RK) (G : Gr) (B : Hp) (D : Ends) (r : RS) : Prop := match r with
  | .nx e' => ∀ σ' B' H', Sto K G B' H' σ' e' → Same B B' → D.nx σ' H'
  | .rt d e' => ∀ v σ' B' H', Sto K G B' H' σ' e' → Same B B' → RetOk K k G B' H' σ' e' v d → D.rt v H'
  | .bk e' => ∀ σ' B' H', Sto K G B' H' σ' e' → Same B B' → D.bk σ' H'
  | .ct e' => ∀ σ' B' H', Sto K G B' H' σ' e' → Same B B' → D.ct σ' H'
  | .err x e' => ∀ cls dd σ' B' H', Sto K G B' H' σ' e' → Same B B' → XRep K mg B' cls dd x → W.w cls dd σ' H'
  | .bot => False
def RdS (k : RK) (t : TS) (m : MS) : Prop := ∀ (G : Gr), W.g G → ∀ (B H : Hp) (σ : L2.St) (e : Env) (D : Ends), Sto K G B H σ e → PoS K mg W k G B D (m e) → t D σ H
/-- nothing but the slots own is touched -/
def Tch (own : List Nat) (σ σ' : L2.St) : Prop := σ'.length = σ.length ∧ ∀ i, i ∉ own → σ'[i]? = σ[i]?
/-- a target -/
def RdG (own : List Nat) (g : TG) (m : D → Env → Option Env) : Prop := ∀ (G : Gr) (B H : Hp) (σ : L2.St) (e e' : Env) (v : V) (d : D) (Q : L2.St → Hp → Prop), Sto K G B H σ e → Rep K B v d → m d e = some e' → (∀ σ', Sto K G B H σ' e' → Tch own σ σ' → Q σ' H) → g v σ H Q
def RdGs (own : List Nat) (g : TGs) (m : List D → Env → Option Env) : Prop := ∀ (G : Gr) (B H : Hp) (σ : L2.St) (e e' : Env) (v : List V) (d : List D) (Q : L2.St → Hp → Prop), Sto K G B H σ e → Reps K B v d → m d e = some e' → (∀ σ', Sto K G B H σ' e' → Tch own σ σ' → Q σ' H) → g v σ H Q
end
section
variable {K : PySem.W.Frag} {mg : Str → Option Value} {W : Am K} {k : RK} {G : Gr} {B H : Hp} {σ : L2.St} {e : Env}
theorem PoS.base {B' : Hp} {D : Ends} {r : RS} (s : Same B B') (h : PoS K mg W k G B D r) : PoS K mg W k G B' D r := by
  cases r with
  | nx e' => exact fun σ2 B2 H2 S q => h σ2 B2 H2 S (s.trans q)
  | rt d e' => exact fun v σ2 B2 H2 S q => h v σ2 B2 H2 S (s.trans q)
  | bk e' => exact fun σ2 B2 H2 S q => h σ2 B2 H2 S (s.trans q)
  | ct e' => exact fun σ2 B2 H2 S q => h σ2 B2 H2 S (s.trans q)
  | err x e' => exact fun c d σ2 B2 H2 S q => h c d σ2 B2 H2 S (s.trans q)
  | bot => exact h
theorem PoS.thenS {α β : Type} {R : RP α β} {D : Ends} {Q : β → Hp → Prop} {r : Res α} {f : α → Env → RS} (h : PoS K mg W k G B D (r.thenS f))
    (q : ∀ a e1 b B1 H1, Sto K G B1 H1 σ e1 → Same B B1 → R G B1 H1 σ e1 b a → PoS K mg W k G B1 D (f a e1) → Q b H1) : Po K mg W R G σ B Q r := by
  cases r with
  | ok a e1 => exact fun b B1 H1 S s p => q a e1 b B1 H1 S s p (PoS.base s h)
  | err x e' => exact fun c d B' H' S s p => h c d σ B' H' S s p
  | bot => exact h
theorem PoS.nx {D : Ends} (h : PoS K mg W k G B D (.nx e)) (S : Sto K G B H σ e) : D.nx σ H := h σ B H S (Same.refl B)

theorem rs_next : RdS K mg W k tNext vNext := fun G hG B H σ e D S h => h.nx S
theorem rs_seq {t u : TS} {a b : MS} (ha : RdS K mg W k t a) (hb : RdS K mg W k u b) : RdS K mg W k (tSeq t u) (vSeq a b) := fun G hG B H σ e D S h => by
  refine ha G hG B H σ e _ S ?_
  unfold vSeq at h
  cases z : a e with
  | nx e1 => rw [z] at h; exact fun σ' B' H' S' s => hb G hG B' H' σ' e1 D S' (PoS.base s h)
  | rt d e1 => rw [z] at h; exact h
  | bk e1 => rw [z] at h; exact h
  | ct e1 => rw [z] at h; exact h
  | err x e1 => rw [z] at h; exact h
  | bot => rw [z] at h; exact h
theorem rs_break : RdS K mg W k tBreak vBreak := fun G hG B H σ e D S h => h σ B H S (Same.refl B)
theorem rs_cont : RdS K mg W k tCont vCont := fun G hG B H σ e D S h => h σ B H S (Same.refl B)
theorem rs_drop {t : TE} {m : ME} (ha : RdE K mg W t m) : RdS K mg W k (tDrop t) (vDrop m) := fun G hG B H σ e D S h =>
  ha.run G hG B H σ e _ S (PoS.thenS h fun _ _ _ _ _ S1 _ _ h1 => h1.nx S1)
theorem rs_ret {t : TE} {m : ME} (ha : RdE K mg W t m) : RdS K mg W .v (tRet t) (vRet m) := fun G hG B H σ e D S h =>
  ha.run G hG B H σ e _ S (PoS.thenS h fun d e1 v B1 H1 S1 _ r1 h1 => h1 v σ B1 H1 S1 (Same.refl B1) r1)
theorem rs_retF {t : TE} {m : MA} (ha : RdF K mg W t m) : RdS K mg W .f (tRet t) (vRetF m) := fun G hG B H σ e D S h =>
  ha.run G hG B H σ e _ S (PoS.thenS h fun d e1 v B1 H1 S1 _ r1 h1 => h1 v σ B1 H1 S1 (Same.refl B1) ⟨d, rfl, r1⟩)
theorem rs_retN : RdS K mg W .v tRetN vRetN := fun G hG B H σ e D S h => h .non σ B H S (Same.refl B) .non
theorem rs_if {c : TT} {t u : TS} {mc : MB} {a b : MS} (hc : RdB K mg W c mc) (ha : RdS K mg W k t a) (hb : RdS K mg W k u b) : RdS K mg W k (tIfS c t u) (vIf mc a b) := fun G hG B H σ e D S h =>
  hc.run G hG B H σ e _ S (PoS.thenS h fun d e1 v B1 H1 S1 _ r1 h1 => by
    have r1 : v = d := r1
    subst r1
    cases v with
    | true => rw [if_pos rfl] at h1 ⊢; exact ha G hG B1 H1 σ e1 D S1 h1
    | false => rw [if_neg Bool.false_ne_true] at h1 ⊢; exact hb G hG B1 H1 σ e1 D S1 h1)
theorem rs_never : RdS K mg W k tNever (fun _ => .bot) := fun G hG B H σ e D S h => h
/-- the owned name handed back -/
theorem rd_own (i : Nat) : RdF K mg W (tVar i) (vOwn i) where
  run := fun G hG B H σ e Q S h => by
    unfold vOwn at h
    cases z : e[i]? with
    | none => rw [z] at h; exact h.elim
    | some s =>
      rw [z] at h
      obtain ⟨v, hv, ok⟩ := S.sl i s z
      cases ok with
      | no => exact h.elim
      | tk => exact h.elim
      | sh r => exact h.elim
      | @ow b p vs ds hb hg hh hr hpin =>
        cases hr with
        | dct e1 r1 => exact h.elim
        | pin r1 => exact h.elim
        | lst hr =>
          exact ⟨_, hv, h (.ref p) B H (S.lose i) (Same.refl B) ⟨p, _, rfl, hh, hb, hg, S.lost z hv rfl, hr⟩⟩
      | tr t f => exact h.elim

/-! stores -/
theorem Tch.refl (own : List Nat) (σ : L2.St) : Tch own σ σ := ⟨rfl, fun _ _ => rfl⟩
theorem Tch.trans {o1 o2 : List Nat} {σ1 σ2 σ3 : L2.St} (a : Tch o1 σ1 σ2) (b : Tch o2 σ2 σ3) : Tch (o1 ++ o2) σ1 σ3 := ⟨b.1.trans a.1, fun i h => by
  rw [List.mem_append, not_or] at h
  exact (b.2 i h.2).trans (a.2 i h.1)⟩
theorem rg_name (i : Nat) : RdG K [i] (gName i) (gNam i) := fun G B H σ e e' v d Q S r he q => by
  unfold gNam at he
  split at he
  · cases he
    exact q _ (S.put i (.sh r) own_sh) ⟨List.length_set, fun j h => by
      rw [List.getElem?_set_ne]
      exact fun z => h (by rw [z]; exact List.mem_singleton.mpr rfl)⟩
  · cases he
theorem rg_nil : RdGs K [] gNil gNil' := fun G B H σ e e' v d Q S r he q => by
  cases r with
  | nil => cases he; exact ⟨rfl, q σ S (Tch.refl _ _)⟩
  | cons _ _ => cases he
theorem rg_cons {o1 o2 : List Nat} {t : TG} {u : TGs} {g : D → Env → Option Env} {r : List D → Env → Option Env} (ht : RdG K o1 t g) (hu : RdGs K o2 u r) : RdGs K (o1 ++ o2) (gCons t u) (gCon g r) := fun G B H σ e e' v d Q S rr he q => by
  cases rr with
  | nil => cases he
  | @cons v vs d ds r0 rs =>
    unfold gCon at he
    cases z : g d e with
    | none => simp only [z] at he; cases he
    | some e1 =>
      simp only [z] at he
      exact ⟨v, vs, rfl, ht G B H σ e e1 v d _ S r0 z fun σ' S' t1 => hu G B H σ' e1 e' vs ds Q S' rs he fun σ2 S2 t2 => q σ2 S2 (t1.trans t2)⟩
theorem gCon_len {g : D → Env → Option Env} {r : List D → Env → Option Env} {n : Nat} (hr : ∀ ds e e', r ds e = some e' → ds.length = n) : ∀ ds e e', gCon g r ds e = some e' → ds.length = n + 1 := fun ds e e' h => by
  cases ds with
  | nil => cases h
  | cons d ds =>
    unfold gCon at h
    cases z : g d e with
    | none => simp only [z] at h; cases h
    | some e1 => simp only [z] at h; rw [List.length_cons, hr _ _ _ h]
theorem gNil_len : ∀ ds e e', gNil' ds e = some e' → ds.length = 0 := fun ds e e' h => by
  cases ds with
  | nil => rfl
  | cons _ _ => cases h
/-- (a, b, ..) = a tuple or a list of that length -/
def gSeq (K : PySem.W.Frag) (n : Nat) (t : TGs) : TG := fun v σ H Q => ∃ a xs, v = .ref a ∧ (SqT K H a xs ∨ SqL K H a xs) ∧ xs.length = n ∧ t xs σ H Q
theorem pg_seq {X : Cx} {pos : Pos} {es : List Expr} {k : Nat} {t : TGs} {n : Nat} (hc : X.calm = true) (h : PGs X es t)
    (hn : (assignEach es X.env).length = n := by rfl) (hst : (assignEach es X.env).findIdx? (·.1) = none := by rfl) : PG X (.Tuple es k pos) (gSeq X.K n t) := by
  refine ⟨fun pins s σ H v u Q I r hw => ?_⟩
  obtain ⟨a, xs, e1, hq, hl, hw⟩ := hw
  rcases hq with hq | hq
  · exact (pg_tup hc h hn hst).run pins s σ H _ _ Q I r ⟨a, xs, e1, hq, hl, hw⟩
  · subst e1
    cases r
    obtain ⟨its, rv, ⟨o, n', e, hcl, hd, hda⟩, hz⟩ := I.list hq
    have hL : s.heap.IsList a its.toArray := ⟨o, e, hcl, n', hda⟩
    have hn2 : (assignEach es X.env).length = its.toArray.size := by simp [hn, ← hl, rv.length]
    rw [assign_Tuple]
    refine wpAny_bind (wpAny_standAt ?_)
    unfold unpack
    rw [hn2, hst]
    refine wpAny_bind (wpAny_holding (PySem.W.kun_itemsOf (I.ok.hd hc) hL fun h' hx => ?_))
    have I1 : Inv X pins σ H { s with heap := h' } := I.kept (t' := s.toks) fun b o e => hx b o (Nat.ne_of_lt (Heap.lt_size e)) e
    exact h.run pins _ σ H xs _ Q I1 (by simpa using rv) hw
theorem rg_tup {n : Nat} {o : List Nat} {u : TGs} {r : List D → Env → Option Env} (hu : RdGs K o u r) (hn : ∀ ds e e', r ds e = some e' → ds.length = n) : RdG K o (gSeq K n u) (gTup' r) := fun G B H σ e e' v d Q S rr he q => by
  cases d with
  | tup ds =>
    cases rr with
    | tup h1 h2 =>
      refine ⟨_, _, rfl, .inl (same_sqT S.sub h1), ?_, hu G B H σ e e' _ ds Q S h2 he q⟩
      rw [h2.length]
      exact hn _ _ _ he
  | lst ds =>
    cases rr with
    | lst h1 h2 =>
      refine ⟨_, _, rfl, .inr (same_sqL S.sub h1), ?_, hu G B H σ e e' _ ds Q S h2 he q⟩
      rw [h2.length]
      exact hn _ _ _ he
  | _ => cases he
theorem rs_asg {t : TE} {m : ME} {g : TG} {o : List Nat} {mg' : D → Env → Option Env} (ha : RdE K mg W t m) (hg : RdG K o g mg') : RdS K mg W k (tAsg t g) (vAsg m mg') := fun G hG B H σ e D S h =>
  ha.run G hG B H σ e _ S (PoS.thenS h fun d e1 v B1 H1 S1 _ r1 h1 => by
    cases z : mg' d e1 with
    | none => rw [z] at h1; exact h1.elim
    | some e2 => rw [z] at h1; exact hg G B1 H1 σ e1 e2 v d _ S1 r1 z fun σ' S' _ => h1.nx S')
theorem rs_asgF {t : TE} {m : MA} {i : Nat} (ha : RdF K mg W t m) : RdS K mg W k (tAsg t (gName i)) (vAsgF i m) := fun G hG B H σ e D S h =>
  ha.run G hG B H σ e _ S (PoS.thenS h fun ds e1 v B1 H1 S1 _ r1 h1 => by
    by_cases hl : i < e1.length
    · rw [if_pos hl] at h1
      obtain ⟨p, vs, rfl, hp, hb, hg, no, r⟩ := r1
      exact h1.nx (S1.put i (.ow hb hg hp (.lst r) (fun _ z => nomatch z)) fun a h q => by
        have h : some (V.ref p) = some (V.ref a) := h
        cases h
        exact no q.of_lose)
    · rw [if_neg hl] at h1; exact h1.elim)
theorem rs_par {i j : Nat} {ta tb : TE} {a b : ME} (ha : RdE K mg W ta a) (hb : RdE K mg W tb b) : RdS K mg W k (tPar i j (tCons ta (tCons tb tNil))) (vPar i j a b) := fun G hG B H σ e D S h =>
  ha.run G hG B H σ e _ S (PoS.thenS h fun d e1 v B1 H1 S1 s1 r1 h1 => hb.run G hG B1 H1 σ e1 _ S1 (PoS.thenS h1 fun d' e2 v' B2 H2 S2 s2 r2 h2 => by
    by_cases hl : i < e2.length ∧ j < e2.length
    · rw [if_pos hl] at h2
      exact ⟨v, v', rfl, h2.nx ((S2.put i (.sh (r1.mono s2)) own_sh).put j (.sh r2) own_sh)⟩
    · rw [if_neg hl] at h2; exact h2.elim))
theorem rs_aug {i : Nat} {t : TE} {m : ME} {r : TIp} {op : D → D → Option D} (hr : Op2 K mg W r op) (ha : RdE K mg W t m) : RdS K mg W k (tAug i t r) (vAug i op m) := fun G hG B H σ e D S h => by
  unfold vAug at h
  cases z : e[i]? with
  | none => rw [z] at h; exact h.elim
  | some s =>
    rw [z] at h
    obtain ⟨v, hv, ok⟩ := S.sl i s z
    cases ok with
    | no => exact h.elim
    | tk => exact h.elim
    | @sh v x r0 =>
      refine ⟨v, hv, ha.run G hG B H σ e _ S (PoS.thenS h fun y e1 w B1 H1 S1 s1 r1 h1 => ?_)⟩
      cases q : op x y with
      | none => simp only [q] at h1; exact h1.elim
      | some d =>
        simp only [q] at h1
        refine hr G B1 H1 σ e1 v w x y d _ S1 (r0.mono s1) r1 q fun u B2 H2 S2 s2 r2 => ?_
        by_cases hl : i < e1.length
        · rw [if_pos hl] at h1
          exact (PoS.base s2 h1).nx (S2.put i (.sh r2) own_sh)
        · rw [if_neg hl] at h1; exact h1.elim
    | ow _ _ _ _ _ => exact h.elim
    | tr _ _ => exact h.elim
/-- .. of either kind -/
theorem Sto.owL (S : Sto K G B H σ e) {i : Nat} {b : Kd} {ds : List D} (hb : b.isL = true) (z : e[i]? = some (.ow b ds)) : ∃ p vs, σ[i]? = some (some (.ref p)) ∧ H p = some (.lst vs) ∧ Reps K B vs ds ∧ ∀ vs' ds', Reps K B vs' ds' → OwR K B b (.lst vs') ds' := by
  obtain ⟨v, hv, ok⟩ := S.sl i _ z
  cases ok with
  | ow hb' hg hh hr hpin => cases hr with
    | lst hr => exact ⟨_, _, hv, hh, hr, fun _ _ r => .lst r⟩
    | pin hr => exact ⟨_, _, hv, hh, hr, fun _ _ r => .pin r⟩
    | dct _ _ => cases hb
/-- an owned list in a slot -/
theorem Sto.ow (S : Sto K G B H σ e) {i : Nat} {ds : List D} (z : e[i]? = some (.ow .l ds)) : ∃ p vs, σ[i]? = some (some (.ref p)) ∧ H p = some (.lst vs) ∧ Reps K B vs ds := by
  obtain ⟨v, hv, ok⟩ := S.sl i _ z
  cases ok with
  | ow hb hg hh hr hpin => cases hr with
    | lst hr => exact ⟨_, _, hv, hh, hr⟩
theorem PoS.slot {D' : Ends} {i : Nat} {f : List VL.D → RS} (h : PoS K mg W k G B D' (match e[i]? with
  | some (.ow .l ds) => f ds
  | _ => .bot)) : ∃ ds, e[i]? = some (.ow .l ds) ∧ PoS K mg W k G B D' (f ds) := by
  cases z : e[i]? with
  | none => rw [z] at h; exact h.elim
  | some s =>
    rw [z] at h
    cases s with
    | no => exact h.elim
    | tk => exact h.elim
    | tr _ _ => exact h.elim
    | sh _ => exact h.elim
    | ow b ds => cases b with
      | l => exact ⟨ds, rfl, h⟩
      | d => exact h.elim
      | p n => exact h.elim
/-- xs.append(e) of an owned list -/
theorem rs_app {i : Nat} {t : TE} {m : ME} (ha : RdE K mg W t m) : RdS K mg W k (tDrop (tBM K "list" rAppend (tVar i) (tCons t tNil))) (vApp i m) := fun G hG B H σ e D S h => by
  unfold vApp at h
  obtain ⟨ds, z, h⟩ := PoS.slot h
  obtain ⟨p, vs, hv, hh, hr⟩ := S.ow z
  refine ⟨_, hv, .inl ⟨rfl, vs, .inl (.inl hh)⟩, ha.run G hG B H σ e _ S (PoS.thenS h fun d e1 v B1 H1 S1 s1 r1 h1 => ?_)⟩
  obtain ⟨ds1, z1, h1⟩ := PoS.slot h1
  obtain ⟨p1, vs1, hv1, hh1, hr1⟩ := S1.ow z1
  rw [hv] at hv1
  cases hv1
  by_cases hl : ds1.length < vmax
  · rw [if_pos hl] at h1
    exact ⟨p, vs1, v, rfl, rfl, hh1, by rw [hr1.length]; exact Nat.lt_of_lt_of_le hl vok, h1.nx (S1.write z1 hv (.lst (hr1.append (.cons r1 .nil))))⟩
  · rw [if_neg hl] at h1; exact h1.elim
/-- xs.extend(e) -/
theorem rs_ext {i : Nat} {t : TE} {m : ME} (ha : RdE K mg W t m) : RdS K mg W k (tDrop (tBM K "list" (fun x vs H Q => ∃ l b xs zs, x = .ref l ∧ vs = [.ref b] ∧ H l = some (.lst xs) ∧ SqL K H b zs ∧ xs.length + zs.length ≤ sizeLine ∧ Q .non (upd H l (.lst (xs ++ zs)))) (tVar i) (tCons t tNil))) (vExt i m) := fun G hG B H σ e D S h => by
  unfold vExt at h
  obtain ⟨ds, z, h⟩ := PoS.slot h
  obtain ⟨p, vs, hv, hh, hr⟩ := S.ow z
  refine ⟨_, hv, .inl ⟨rfl, vs, .inl (.inl hh)⟩, ha.run G hG B H σ e _ S (PoS.thenS h fun d e1 v B1 H1 S1 s1 r1 h1 => ?_)⟩
  obtain ⟨ds1, z1, h1⟩ := PoS.slot h1
  obtain ⟨p1, vs1, hv1, hh1, hr1⟩ := S1.ow z1
  rw [hv] at hv1
  cases hv1
  cases d with
  | lst xs =>
    by_cases hl : ds1.length + xs.length < vmax
    · have h1 : PoS K mg W k G B1 D (if ds1.length + xs.length < vmax then .nx (e1.set i (.ow .l (ds1 ++ xs))) else .bot) := h1
      rw [if_pos hl] at h1
      cases r1 with
      | lst q1 q2 =>
        exact ⟨p, _, vs1, _, rfl, rfl, hh1, same_sqL S1.sub q1, by rw [hr1.length, q2.length]; exact Nat.le_trans (Nat.le_of_lt hl) vok, h1.nx (S1.write z1 hv (.lst (hr1.append q2)))⟩
    · have h1 : PoS K mg W k G B1 D (if ds1.length + xs.length < vmax then .nx (e1.set i (.ow .l (ds1 ++ xs))) else .bot) := h1
      rw [if_neg hl] at h1; exact h1.elim
  | _ => exact h1.elim
/-- xs[i] = e of an owned list -/
theorem rs_set {i : Nat} {t tx : TE} {m mx : ME} (ha : RdE K mg W t m) (hx : RdE K mg W tx mx) : RdS K mg W k (tAsg t (gSub (tVar i) tx rSetL)) (vSet i mx m) := fun G hG B H σ e D S h =>
  ha.run G hG B H σ e _ S (PoS.thenS h fun d e1 v B1 H1 S1 s1 r1 h1 => by
    obtain ⟨ds, z, h1⟩ := PoS.slot h1
    obtain ⟨p, vs, hv, hh, hr⟩ := S1.ow z
    refine ⟨_, hv, hx.run G hG B1 H1 σ e1 _ S1 (PoS.thenS h1 fun x e2 vx B2 H2 S2 s2 r2 h2 => ?_)⟩
    obtain ⟨ds1, z1, h2⟩ := PoS.slot h2
    obtain ⟨p1, vs1, hv1, hh1, hr1⟩ := S2.ow z1
    rw [hv] at hv1
    cases hv1
    cases x with
    | int n =>
      cases w : ixD ds1.length n with
      | none => simp only [w] at h2; exact h2.elim
      | some j =>
        simp only [w] at h2
        cases r2
        exact ⟨p, vs1, n, j, rfl, rfl, hh1, by rw [hr1.length]; exact w, h2.nx (S2.write z1 hv (.lst (hr1.set j (r1.mono s2))))⟩
    | _ => exact h2.elim)
/-- xs.pop() of an owned list -/
theorem rd_pop {i : Nat} : RdE K mg W (tBM0 K "list" rPop (tVar i)) (vPop i) where
  run := fun G hG B H σ e Q S h => by
    unfold vPop at h
    cases z : e[i]? with
    | none => rw [z] at h; exact h.elim
    | some s =>
      rw [z] at h
      cases s with
      | no => exact h.elim
      | tk => exact h.elim
      | tr _ _ => exact h.elim
      | sh _ => exact h.elim
      | ow b ds =>
        have h : Po K mg W (rpE K) G σ B Q (if b.isL = true then (match ds.getLast? with
          | some d => .ok d (e.set i (.ow b ds.dropLast))
          | none => .bot) else .bot) := h
        by_cases bl : b.isL = true
        · rw [if_pos bl] at h
          obtain ⟨p, vs, hv, hh, hr, mk⟩ := S.owL bl z
          cases w : ds.getLast? with
          | none => simp only [w] at h; exact h.elim
          | some d =>
          simp only [w] at h
          rw [List.getLast?_eq_getElem?] at w
          obtain ⟨y, hy, ry⟩ := hr.get w
          refine ⟨_, hv, .inl ⟨rfl, vs, .inl (.inl hh)⟩, p, vs, y, rfl, rfl, hh, by rw [hr.length]; exact hy, h y B _ (S.write z hv (mk _ _ hr.dropLast)) (Same.refl B) ry⟩
        · rw [if_neg bl] at h; exact h.elim

/-! loops -/
/-- what an iterator yields: data ds, one after the other, whatever stands beside -/
def ItOk (K : PySem.W.Frag) (B : Hp) (J : It) (ds : List D) : Prop := ∀ (i : Nat) (B' H' : Hp), Same B B' → Same B' H' →
  (∀ d, ds[i]? = some d → J.go i H' ∧ ∀ x H2, J.yld i H' x H2 → ∃ B2, Same B' B2 ∧ Same B2 H2 ∧ Same H' H2 ∧ News' B' H' B2 ∧ Rep K B2 x d) ∧ (ds[i]? = none → J.stop i H')
/-- an iterable's reading -/
structure RdI (K : PySem.W.Frag) (mg : Str → Option Value) (W : Am K) (t : TI) (m : MA) : Prop where
  run : ∀ (G : Gr), W.g G → ∀ (B H : Hp) (σ : L2.St) (e : Env) (Q : It → Hp → Prop), Sto K G B H σ e → Po K mg W (fun G B' H' σ e J ds => ItOk K B' J ds) G σ B Q (m e) → t σ H Q
theorem rs_for {wi : TI} {mi : MA} {g : TG} {o : List Nat} {gm : D → Env → Option Env} {t : TS} {b : MS} (hi : RdI K mg W wi mi) (hg : RdG K o g gm) (hb : RdS K mg W k t b) : RdS K mg W k (tFor wi g t) (vFor mi gm b) := fun G hG B H σ e D S h => by
  refine hi.run G hG B H σ e _ S (PoS.thenS h fun ds e1 J B1 H1 S1 s1 it h1 => ?_)
  refine ⟨fun i m σ' H' => m = ds.length - i ∧ ∃ e' B', Sto K G B' H' σ' e' ∧ Same B1 B' ∧ PoS K mg W k G B1 D (forL gm b (ds.drop i) e'), ⟨_, rfl, e1, B1, S1, Same.refl B1, h1⟩, ?_⟩
  rintro i m σ2 H2 ⟨rfl, e2, B2, S2, s2, h2⟩
  obtain ⟨hgo, hstop⟩ := it i B2 H2 s2 S2.sub
  cases z : ds[i]? with
  | none =>
    have hl : ds.length ≤ i := List.getElem?_eq_none_iff.mp z
    rw [List.drop_eq_nil_of_le hl] at h2
    exact .inl ⟨hstop z, (PoS.base s2 h2).nx S2⟩
  | some d =>
    have hl : i < ds.length := (List.getElem?_eq_some_iff.mp z).1
    have hd : ds.drop i = d :: ds.drop (i + 1) := by
      rw [List.drop_eq_getElem_cons hl]
      have : ds[i] = d := (List.getElem?_eq_some_iff.mp z).2
      rw [this]
    rw [hd] at h2
    obtain ⟨go, yl⟩ := hgo d z
    refine .inr ⟨go, fun σ' H' => ∃ e' B', Sto K G B' H' σ' e' ∧ Same B1 B' ∧ PoS K mg W k G B1 D (forL gm b (ds.drop (i + 1)) e'), fun σ' H' ⟨e', B', q1, q2, q3⟩ => ⟨ds.length - (i + 1), by omega, rfl, e', B', q1, q2, q3⟩, fun x H3 hy => ?_⟩
    obtain ⟨B3, t1, t2, t3, t4, rx⟩ := yl x H3 hy
    have S3 : Sto K G B3 H3 σ2 e2 := S2.call t3 t1 t2 t4
    unfold forL at h2
    have s13 : Same B1 B3 := s2.trans t1
    cases w : gm d e2 with
    | none => rw [w] at h2; exact h2.elim
    | some e3 =>
      rw [w] at h2
      refine hg G B3 H3 σ2 e2 e3 x d _ S3 rx w fun σ4 S4 _ => ?_
      refine hb G hG B3 H3 σ4 e3 _ S4 ?_
      cases q : b e3 with
      | nx e4 => simp only [q] at h2; exact fun σ' B' H' S' s' => ⟨e4, B', S', s13.trans s', h2⟩
      | ct e4 => simp only [q] at h2; exact fun σ' B' H' S' s' => ⟨e4, B', S', s13.trans s', h2⟩
      | bk e4 => simp only [q] at h2; exact fun σ' B' H' S' s' => h2 σ' B' H' S' (s13.trans s')
      | rt d e4 => simp only [q] at h2; exact fun v σ' B' H' S' s' => h2 v σ' B' H' S' (s13.trans s')
      | err x e4 => simp only [q] at h2; exact fun c dd σ' B' H' S' s' => h2 c dd σ' B' H' S' (s13.trans s')
      | bot => simp only [q] at h2; exact h2
theorem rs_while {c : TT} {mc : MB} {t : TS} {b : MS} (hc : RdB K mg W c mc) (hb : RdS K mg W k t b) : RdS K mg W k (tWhile c t) (vWhile mc b) := fun G hG B H σ e D S h => by
  have hne : vWhile mc b e ≠ .bot := fun z => by rw [z] at h; exact h
  obtain ⟨n, hn⟩ := vWhile_some hne
  refine ⟨fun m σ' H' => ∃ e' B' r, Sto K G B' H' σ' e' ∧ Same B B' ∧ iterW mc b m e' = some r ∧ PoS K mg W k G B D r, ⟨n, e, B, _, S, Same.refl B, hn, h⟩, ?_⟩
  rintro m σ1 H1 ⟨e1, B1, r, S1, s1, hit, hr⟩
  cases m with
  | zero => cases hit
  | succ m =>
    rw [iterW] at hit
    refine hc.run G hG B1 H1 σ1 e1 _ S1 ?_
    cases z : mc e1 with
    | ok x e2 =>
      rw [z] at hit
      intro y B2 H2 S2 s2 r2
      have r2 : y = x := r2
      subst r2
      cases y with
      | false =>
        rw [if_neg Bool.false_ne_true]
        cases hit
        exact hr σ1 B2 H2 S2 (s1.trans s2)
      | true =>
        rw [if_pos rfl]
        refine ⟨fun σ' H' => ∃ e' B' r, Sto K G B' H' σ' e' ∧ Same B B' ∧ iterW mc b m e' = some r ∧ PoS K mg W k G B D r, fun σ' H' q => ⟨m, Nat.lt_succ_self m, q⟩, hb G hG B2 H2 σ1 e2 _ S2 ?_⟩
        have s12 : Same B B2 := s1.trans s2
        cases q : b e2 with
        | nx e3 => simp only [q] at hit; exact fun σ' B' H' S' s' => ⟨e3, B', r, S', s12.trans s', hit, hr⟩
        | ct e3 => simp only [q] at hit; exact fun σ' B' H' S' s' => ⟨e3, B', r, S', s12.trans s', hit, hr⟩
        | bk e3 => simp only [q] at hit; cases hit; exact fun σ' B' H' S' s' => hr σ' B' H' S' (s12.trans s')
        | rt d e3 => simp only [q] at hit; cases hit; exact fun v σ' B' H' S' s' => hr v σ' B' H' S' (s12.trans s')
        | err x e3 => simp only [q] at hit; cases hit; exact fun c dd σ' B' H' S' s' => hr c dd σ' B' H' S' (s12.trans s')
        | bot => simp only [q] at hit; cases hit; exact hr
    | err x e2 =>
      rw [z] at hit
      cases hit
      exact fun c dd B' H' S' s' => hr c dd σ1 B' H' S' (s1.trans s')
    | bot =>
      rw [z] at hit
      cases hit
      exact hr
end
end VL

/-! VL7: what is walked; comprehensions; a def by its body. -/
namespace VL
open PySem PySem.Spec PyProof.Rows L2
section
variable {X : Cx}
/-- a list, a tuple, a text -/
def iSeq (K : PySem.W.Frag) (tl : TE) : TI := fun σ H R => tl σ H fun x H1 => (∃ a, x = .ref a ∧ (∃ xs, SqL K H1 a xs) ∧ R (Itl K a) H1) ∨ (∃ a, x = .ref a ∧ (∃ xs, SqT K H1 a xs) ∧ R (Itt K a) H1) ∨ ∃ z, x = .str z ∧ R (Its z) H1
theorem pi_seq {tg l : Expr} {tl : TE} (hl : PE X l tl) : PI X tg l (iSeq X.K tl) := by
  refine ⟨fun pins s σ H R I h => ?_⟩
  refine thn (hl.run pins s σ H _ I h) fun v s1 ⟨x, H1, I1, r1, q1⟩ => ?_
  rcases q1 with ⟨a, e, ⟨xs, hq⟩, q⟩ | ⟨a, e, ⟨xs, hq⟩, q⟩ | ⟨z, e, q⟩
  · subst e
    cases r1
    obtain ⟨its, rv, p, hz⟩ := I1.list hq
    refine wpAny_pyIter_list p.isList ?_
    refine ⟨s1.heap.objs.size, [s1.heap.objs.size], _, _, H1, rfl, I1.kept (t' := s1.toks) fun b o e => Heap.get?_push_of_some _ e, turn_list a _, ⟨_, Heap.get?_push_size _ rfl, rfl, rfl⟩, fun b hb => ?_, q⟩
    have e : b = s1.heap.objs.size := by simpa using hb
    subst e
    exact I1.fpOk (Nat.le_refl _) (I1.hok.fresh (Nat.le_refl _))
  · subst e
    cases r1
    obtain ⟨its, rv, p, hz⟩ := I1.tuple hq
    refine wpAny_pyIter_tuple (show s1.heap.IsTuple a its.toArray from p) ?_
    refine ⟨s1.heap.objs.size, [s1.heap.objs.size], _, _, H1, rfl, I1.kept (t' := s1.toks) fun b o e => Heap.get?_push_of_some _ e, turn_tuple a _, ⟨_, Heap.get?_push_size _ rfl, rfl, rfl⟩, fun b hb => ?_, q⟩
    have e : b = s1.heap.objs.size := by simpa using hb
    subst e
    exact I1.fpOk (Nat.le_refl _) (I1.hok.fresh (Nat.le_refl _))
  · subst e
    obtain ⟨t, rfl⟩ := r1
    cases ha : z.cps.all (· < 128)
    · exact wpAny_pyIter_wide ha (pi_one (tk := s1.toks) I1 _ (turn_str _ z t "str_iterator" (.inr rfl)) ⟨_, Heap.get?_push_size _ rfl, rfl, rfl⟩ q)
    · exact wpAny_pyIter_ascii ha (pi_one (tk := s1.toks) I1 _ (turn_str _ z t "str_ascii_iterator" (.inl rfl)) ⟨_, Heap.get?_push_size _ rfl, rfl, rfl⟩ q)
end
section
variable {K : PySem.W.Frag} {mg : Str → Option Value} {W : Am K} {k : RK} {G : Gr} {B H : Hp} {σ : L2.St} {e : Env}
theorem news_refl : News' B H B := fun a h => .inl h
theorem rep_news {B' H' : Hp} : Same H' H' := Same.refl _
theorem itl_ok {a : Addr} {xs : List V} {ds : List D} (h : SqL K B a xs) (r : Reps K B xs ds) : ItOk K B (Itl K a) ds := fun i B' H' s1 s2 => by
  have hB : SqL K H' a xs := same_sqL (s1.trans s2) h
  refine ⟨fun d hd => ?_, fun hd => ?_⟩
  · obtain ⟨x, hx, rx⟩ := r.get hd
    refine ⟨⟨xs, x, hB, hx⟩, fun y H2 hy => ?_⟩
    obtain ⟨e1, e2⟩ := hy
    subst e1
    have q := e2 xs hB
    rw [hx] at q
    cases q
    exact ⟨B', Same.refl _, s2, Same.refl _, fun b hb => .inl hb, rx.mono s1⟩
  · exact ⟨xs, hB, by rw [r.length]; exact List.getElem?_eq_none_iff.mp hd⟩
theorem itt_ok {a : Addr} {xs : List V} {ds : List D} (h : SqT K B a xs) (r : Reps K B xs ds) : ItOk K B (Itt K a) ds := fun i B' H' s1 s2 => by
  have hB : SqT K H' a xs := same_sqT (s1.trans s2) h
  refine ⟨fun d hd => ?_, fun hd => ?_⟩
  · obtain ⟨x, hx, rx⟩ := r.get hd
    refine ⟨⟨xs, x, hB, hx⟩, fun y H2 hy => ?_⟩
    obtain ⟨e1, e2⟩ := hy
    subst e1
    have q := e2 xs hB
    rw [hx] at q
    cases q
    exact ⟨B', Same.refl _, s2, Same.refl _, fun b hb => .inl hb, rx.mono s1⟩
  · exact ⟨xs, hB, by rw [r.length]; exact List.getElem?_eq_none_iff.mp hd⟩
theorem its_ok {z : Str} : ItOk K B (Its z) (z.cps.toList.map fun c => .str ⟨#[c]⟩) := fun i B' H' s1 s2 => by
  refine ⟨fun d hd => ?_, fun hd => ?_⟩
  · rw [List.getElem?_map] at hd
    cases w : z.cps.toList[i]? with
    | none => rw [w] at hd; cases hd
    | some c =>
      rw [w] at hd
      cases hd
      have hl : i < z.cps.size := by
        have := (List.getElem?_eq_some_iff.mp w).1
        simpa using this
      refine ⟨hl, fun y H2 hy => ?_⟩
      obtain ⟨e1, c', hc, e2⟩ := hy
      subst e1 e2
      have w' : z.cps[i]? = some c := by simpa using w
      rw [w'] at hc
      cases hc
      exact ⟨B', Same.refl _, s2, Same.refl _, fun b hb => .inl hb, .str _⟩
  · rw [List.getElem?_map] at hd
    cases w : z.cps.toList[i]? with
    | none =>
      have := List.getElem?_eq_none_iff.mp w
      show z.cps.size ≤ i
      simpa using this
    | some c => rw [w] at hd; cases hd
theorem ri_seq {t : TE} {m : ME} (h : RdE K mg W t m) : RdI K mg W (iSeq K t) (vSeqI m) where
  run := fun G hG B H σ e Q S q => by
    refine h.run G hG B H σ e _ S (Po.bind q fun d e1 v B1 H1 S1 s1 r1 h1 => ?_)
    obtain ⟨ds, hd, h2⟩ := h1.of
    cases d with
    | lst xs =>
      cases hd
      cases r1 with
      | lst q1 q2 => exact .inl ⟨_, rfl, ⟨_, same_sqL S1.sub q1⟩, Po.here h2 S1 (itl_ok q1 q2)⟩
    | tup xs =>
      cases hd
      cases r1 with
      | tup q1 q2 => exact .inr (.inl ⟨_, rfl, ⟨_, same_sqT S1.sub q1⟩, Po.here h2 S1 (itt_ok q1 q2)⟩)
    | str z =>
      cases hd
      cases r1
      exact .inr (.inr ⟨_, rfl, Po.here h2 S1 its_ok⟩)
    | _ => cases hd
theorem itr_ok {lo : Int} {n : Nat} : ItOk K B (Itr lo n) ((List.range n).map fun (i : Nat) => .int (lo + (i : Int))) := fun i B' H' s1 s2 => by
  refine ⟨fun d hd => ?_, fun hd => ?_⟩
  · rw [List.getElem?_map] at hd
    cases w : (List.range n)[i]? with
    | none => rw [w] at hd; cases hd
    | some c =>
      rw [w] at hd
      cases hd
      have hl : i < n := by
        have := (List.getElem?_eq_some_iff.mp w).1
        simpa using this
      have hc : c = i := by
        have := (List.getElem?_eq_some_iff.mp w).2
        simpa using this.symm
      subst hc
      refine ⟨hl, fun y H2 hy => ?_⟩
      obtain ⟨e1, e2⟩ := hy
      subst e1 e2
      exact ⟨B', Same.refl _, s2, Same.refl _, fun b hb => .inl hb, .int _⟩
  · rw [List.getElem?_map] at hd
    cases w : (List.range n)[i]? with
    | none =>
      have := List.getElem?_eq_none_iff.mp w
      show n ≤ i
      simpa using this
    | some c => rw [w] at hd; cases hd
theorem ri_rng1 {t : TA} {m : MA} (h : RdA K mg W t m) : RdI K mg W (iRng1 t) (fun e => (m e).bind fun ds e1 => match ds with
    | [_] => .of (rngD ds) e1
    | _ => .bot) where
  run := fun G hG B H σ e Q S q => by
    refine h.run G hG B H σ e _ S (Po.bind q fun d e1 v B1 H1 S1 s1 r1 h1 => ?_)
    cases d with
    | nil => exact h1.elim
    | cons x xs =>
      cases xs with
      | cons _ _ => exact h1.elim
      | nil =>
        obtain ⟨ds, hd, h2⟩ := h1.of
        cases r1 with
        | cons r0 rr =>
          cases rr
          cases x with
          | int j =>
            cases r0
            unfold rngD at hd
            by_cases z : -(2 ^ 62) ≤ j ∧ j < 2 ^ 62
            · simp only [z, and_self, if_true] at hd
              cases hd
              exact ⟨j, rfl, z.1, z.2, Po.here h2 S1 itr_ok⟩
            · have hd : (if -(2 ^ 62) ≤ j ∧ j < 2 ^ 62 then some ((List.range j.toNat).map fun (i : Nat) => D.int (0 + (i : Int))) else none) = some ds := hd
              rw [if_neg z] at hd
              cases hd
          | _ => cases hd
theorem ri_rng2 {t : TA} {m : MA} (h : RdA K mg W t m) : RdI K mg W (iRng2 t) (fun e => (m e).bind fun ds e1 => match ds with
    | [_, _] => .of (rngD ds) e1
    | _ => .bot) where
  run := fun G hG B H σ e Q S q => by
    refine h.run G hG B H σ e _ S (Po.bind q fun d e1 v B1 H1 S1 s1 r1 h1 => ?_)
    cases d with
    | nil => exact h1.elim
    | cons x xs =>
      cases xs with
      | nil => exact h1.elim
      | cons y ys =>
        cases ys with
        | cons _ _ => exact h1.elim
        | nil =>
          obtain ⟨ds, hd, h2⟩ := h1.of
          cases r1 with
          | cons r0 rr =>
            cases rr with
            | cons r2 rr =>
              cases rr
              cases x with
              | int i =>
                cases y with
                | int j =>
                  cases r0
                  cases r2
                  have hd : (if -(2 ^ 62) ≤ i ∧ i < 2 ^ 62 ∧ -(2 ^ 62) ≤ j ∧ j < 2 ^ 62 then some ((List.range (j - i).toNat).map fun (n : Nat) => D.int (i + (n : Int))) else none) = some ds := hd
                  by_cases z : -(2 ^ 62) ≤ i ∧ i < 2 ^ 62 ∧ -(2 ^ 62) ≤ j ∧ j < 2 ^ 62
                  · rw [if_pos z] at hd
                    cases hd
                    exact ⟨i, j, rfl, z, Po.here h2 S1 itr_ok⟩
                  · rw [if_neg z] at hd
                    cases hd
                | _ => cases hd
              | _ => cases hd
theorem ite_ok {a : Addr} {xs : List V} {ds : List D} (h : SqL K B a xs) (r : Reps K B xs ds) : ItOk K B (Ite K a) (ds.zipIdx.map fun p => .tup [.int ((p.2 : Nat) : Int), p.1]) := fun i B' H' s1 s2 => by
  have hB : SqL K H' a xs := same_sqL (s1.trans s2) h
  refine ⟨fun d hd => ?_, fun hd => ?_⟩
  · rw [List.getElem?_map, List.getElem?_zipIdx] at hd
    cases w : ds[i]? with
    | none => rw [w] at hd; cases hd
    | some c =>
      rw [w] at hd
      have hd : some (D.tup [.int (((0 + i : Nat)) : Int), c]) = some d := hd
      cases hd
      obtain ⟨x, hx, rx⟩ := r.get w
      refine ⟨⟨xs, x, hB, hx⟩, fun y H2 hy => ?_⟩
      obtain ⟨T, x', e1, hT, e2, e3⟩ := hy
      subst e1 e2
      have q := e3 xs hB
      rw [hx] at q
      cases q
      have bT : B' T = none := same_none s2 hT
      refine ⟨upd B' T (.tup [.int (i : Nat), x]), same_upd' bT, same_upd2 s2, same_upd' hT, fun b hb => ?_, ?_⟩
      · by_cases z : b = T
        · exact .inr (z ▸ hT)
        · rw [upd_ne z] at hb; exact .inl hb
      · refine .tup (SqT.of upd_same) (.cons ?_ (.cons ((rx.mono s1).mono (same_upd' bT)) .nil))
        rw [Nat.zero_add]
        exact .int _
  · rw [List.getElem?_map, List.getElem?_zipIdx] at hd
    cases w : ds[i]? with
    | none => exact ⟨xs, hB, by rw [r.length]; exact List.getElem?_eq_none_iff.mp w⟩
    | some c => rw [w] at hd; cases hd
theorem ri_enum {t : TA} {m : MA} (h : RdA K mg W t m) : RdI K mg W (iEnum K t) (vEnum m) where
  run := fun G hG B H σ e Q S q => by
    refine h.run G hG B H σ e _ S (Po.bind q fun d e1 v B1 H1 S1 s1 r1 h1 => ?_)
    obtain ⟨ds, hd, h2⟩ := h1.of
    unfold enumD at hd
    split at hd
    · cases hd
      cases r1 with
      | cons r0 rr =>
        cases rr
        cases r0 with
        | lst q1 q2 => exact ⟨_, _, rfl, same_sqL S1.sub q1, Po.here h2 S1 (ite_ok q1 q2)⟩
    · cases hd

/-! comprehensions -/
theorem OwnF.new (S : Sto K G B H σ e) {a : Addr} (h : OwnF H σ e a) : G.H a = none ∧ B a = none := ⟨(S.apart h).2.1, (S.apart h).1⟩
theorem reb_no {a : Addr} (q : ¬ OwnF H σ e a) : (VL.reb G B H σ e).H a = H a := if_neg q
theorem Sto.reb (S : Sto K G B H σ e) : Sto K (VL.reb G B H σ e) B H σ e := by
  have at' : ∀ {a}, (VL.reb G B H σ e).H a ≠ none → ¬ OwnF H σ e a := fun h q => h (if_pos q)
  refine S.mv rfl rfl (Same.refl B) S.sub (fun a q => rfl) (fun a q => (S.apart q).1) (fun a q => if_pos q) (Same.refl B) (fun a o h1 _ => ?_) (fun a h1 => ?_) (fun a h => .inl h) fun a h => ?_
  · rw [reb_no (at' (by rw [h1]; simp))] at h1; exact h1
  · rw [reb_no (at' h1)] at h1; exact h1
  · have h : a ∈ G.io := h
    have q : ¬ OwnF H σ e a := fun q => S.iom a h (q.new S).1
    rw [reb_no q]
    exact S.dom a (S.iom a h)
theorem Sto.unreb {B' H' : Hp} {σ' : L2.St} {e' : Env} (S : Sto K G B H σ e) (S' : Sto K (VL.reb G B H σ e) B' H' σ' e') : Sto K G B' H' σ' e' := by
  have home : ∀ {a}, (VL.reb G B H σ e).H a = none → G.H a = none := fun {a} h => by
    by_cases q : OwnF H σ e a
    · exact (q.new S).1
    · rw [reb_no q] at h
      exact S.fresh h
  refine S'.mv rfl rfl (Same.refl B') S'.sub (fun a q => rfl) (fun a q => (S'.apart q).1) (fun a q => home (S'.apart q).2.1) (S.b0.trans S'.b0) (fun a o h1 h2 => ?_) (fun a h1 => ?_) (fun a h => ?_) S.iom
  · have h3 := S.keep a o h1 h2
    have q : ¬ OwnF H σ e a := fun q => by rw [(q.new S).1] at h1; cases h1
    exact S'.keep a o ((reb_no q).trans h3) h2
  · have h3 := S.dom a h1
    have q : ¬ OwnF H σ e a := fun q => h1 (q.new S).1
    exact S'.dom a (by rw [reb_no q]; exact h3)
  · rcases S'.new a h with w | w
    · exact S.new a w
    · exact .inr (home w)
theorem wipeE_get {e : Env} {i : Nat} : ∀ {own : List Nat}, (i ∉ own → (wipeE e own)[i]? = e[i]?) ∧ (∀ s, i ∈ own → (wipeE e own)[i]? = some s → s = .no) ∧ (wipeE e own).length = e.length
  | [] => ⟨fun _ => rfl, fun _ h => by simp at h, rfl⟩
  | v :: vs => by
    obtain ⟨h1, h2, h3⟩ := wipeE_get (e := e) (i := i) (own := vs)
    refine ⟨fun h => ?_, fun s h hs => ?_, ?_⟩
    · rw [List.mem_cons, not_or] at h
      show ((wipeE e vs).set v .no)[i]? = e[i]?
      rw [List.getElem?_set_ne (Ne.symm h.1)]
      exact h1 h.2
    · have hs : ((wipeE e vs).set v .no)[i]? = some s := hs
      by_cases z : v = i
      · subst z
        have hl := (List.getElem?_eq_some_iff.mp hs).1
        rw [List.length_set] at hl
        rw [List.getElem?_set_self hl] at hs
        exact (Option.some.inj hs).symm
      · rw [List.getElem?_set_ne z] at hs
        rcases List.mem_cons.mp h with q | q
        · exact absurd q.symm z
        · exact h2 s q hs
    · show ((wipeE e vs).set v .no).length = e.length
      rw [List.length_set]; exact h3
theorem Sto.chg {own : List Nat} {σ' : L2.St} (S : Sto K G B H σ e) (t : Tch own σ σ') : Sto K G B H σ' (wipeE e own) where
  len := by rw [(wipeE_get (i := 0)).2.2, t.1]; exact S.len
  sl := fun i s h => by
    by_cases q : i ∈ own
    · have z := wipeE_get.2.1 s q h
      subst z
      have hl := (List.getElem?_eq_some_iff.mp h).1
      rw [(wipeE_get (i := 0)).2.2] at hl
      have hl' : i < σ'.length := by rw [t.1, S.len]; exact hl
      exact ⟨σ'[i], List.getElem?_eq_getElem hl', .no⟩
    · rw [wipeE_get.1 q] at h
      rw [t.2 i q]
      exact S.sl i s h
  dis := fun i j x y v w a h1 h2 h3 h4 h5 h6 => by
    have out : ∀ {j y w}, (wipeE e own)[j]? = some y → OwnS H w y a → j ∉ own := fun {j y w} h q z => by
      rw [wipeE_get.2.1 _ z h] at q
      exact q
    have qi := out h1 h5
    have qj := out h2 h6
    rw [wipeE_get.1 qi] at h1
    rw [wipeE_get.1 qj] at h2
    rw [t.2 i qi] at h3
    rw [t.2 j qj] at h4
    exact S.dis i j x y v w a h1 h2 h3 h4 h5 h6
  sub := S.sub
  b0 := S.b0
  keep := S.keep
  dom := S.dom
  new := S.new
  iom := S.iom
theorem Owned.chg {own : List Nat} {σ' : L2.St} (t : Tch own σ σ') {a : Addr} (q : Owned H σ' (wipeE e own) a) : Owned H σ e a := by
  obtain ⟨i, x, v, h1, h2, h3⟩ := q
  have qi : i ∉ own := fun z => by
    rw [wipeE_get.2.1 _ z h1] at h3
    exact h3
  rw [wipeE_get.1 qi] at h1
  rw [t.2 i qi] at h2
  exact ⟨i, x, v, h1, h2, h3⟩
theorem tch_wipe (σ : L2.St) (own : List Nat) : Tch own σ (wipe σ own) := ⟨wipe_length σ own, fun i h => wipe_out h⟩
theorem Tch.symm {own : List Nat} {σ σ' : L2.St} (t : Tch own σ σ') : Tch own σ' σ := ⟨t.1.symm, fun i h => (t.2 i h).symm⟩
theorem wipe_in {σ : L2.St} {i : Nat} : ∀ {vs : List Nat}, i ∈ vs → (wipe σ vs)[i]? = if i < σ.length then some none else none
  | [], h => by simp at h
  | v :: vs, h => by
    show ((wipe σ vs).set v none)[i]? = _
    by_cases z : v = i
    · subst z
      by_cases hl : v < σ.length
      · rw [List.getElem?_set_self (by rw [wipe_length]; exact hl), if_pos hl]
      · rw [List.getElem?_eq_none (by rw [List.length_set, wipe_length]; omega), if_neg hl]
    · rw [List.getElem?_set_ne z]
      rcases List.mem_cons.mp h with q | q
      · exact absurd q.symm z
      · exact wipe_in q
theorem wipe_of_tch {own : List Nat} {σ σ' : L2.St} (t : Tch own (wipe σ own) σ') : wipe σ' own = wipe σ own := by
  have hl : σ'.length = σ.length := t.1.trans (wipe_length σ own)
  refine List.ext_getElem? fun i => ?_
  by_cases q : i ∈ own
  · rw [wipe_in q, wipe_in q, hl]
  · rw [wipe_out q, t.2 i q]
abbrev Wn : WX := fun _ _ _ _ => False
/-- the accumulator of a comprehension lies apart -/
theorem rd_lc {wi : TI} {mi : MA} {g : TG} {gm : D → Env → Option Env} {tt : TT} {mt : MB} {te : TE} {me : ME} {own : List Nat} (hi : RdI K mg W wi mi) (hg : RdG K own g gm) (ht : RdB K mg (W.to Wn) tt mt) (he : RdE K mg (W.to Wn) te me) :
    RdF K mg W (tLc wi g tt te own) (vLc mi gm mt me own) where
  run := fun G hG B H σ e Q S q => by
    refine hi.run G hG B H σ e _ S (Po.bind q fun ds e1 J B1 H1 S1 s1 it h1 => fun D' hD => ?_)
    have S1w : Sto K G B1 H1 (wipe σ own) (wipeE e1 own) := S1.chg (tch_wipe σ own)
    refine ⟨fun i m H' => m = ds.length - i ∧ ∃ e' B' acc vs, Sto K G B' H' (wipe σ own) e' ∧ Same B1 B' ∧ H' D' = some (.lst vs) ∧ B' D' = none ∧ ¬ Owned H' (wipe σ own) e' D' ∧ Reps K B' vs acc ∧ Po K mg W (rpF K) G σ B1 Q (lcL gm mt me own (ds.drop i) acc e'),
      ⟨_, rfl, wipeE e1 own, B1, [], [], S1w.loose hD, Same.refl B1, upd_same, same_none S1.sub hD, (fun q => not_owned_new S1w hD (S1w.own_new hD q)), .nil, h1⟩, ?_⟩
    rintro i m H2 ⟨rfl, e2, B2, acc, vs, S2, s2, hD2, bD2, nD2, ra, h2⟩
    have gD : G.H D' = none := S1.fresh hD
    obtain ⟨hgo, hstop⟩ := it i B2 H2 s2 S2.sub
    cases z : ds[i]? with
    | none =>
      have hl : ds.length ≤ i := List.getElem?_eq_none_iff.mp z
      rw [List.drop_eq_nil_of_le hl] at h2
      have S3 : Sto K G B2 H2 σ (wipeE e2 own) := S2.chg (tch_wipe σ own).symm
      exact .inl ⟨hstop z, h2 (.ref D') B2 H2 S3 s2 ⟨D', vs, rfl, hD2, bD2, gD, fun q => nD2 (q.chg (tch_wipe σ own).symm), ra⟩⟩
    | some d =>
      have hl : i < ds.length := (List.getElem?_eq_some_iff.mp z).1
      have hd : ds.drop i = d :: ds.drop (i + 1) := by
        rw [List.drop_eq_getElem_cons hl]
        have : ds[i] = d := (List.getElem?_eq_some_iff.mp z).2
        rw [this]
      rw [hd] at h2
      obtain ⟨go, yl⟩ := hgo d z
      refine .inr ⟨go, fun H' => ∃ e' B' acc vs, Sto K G B' H' (wipe σ own) e' ∧ Same B1 B' ∧ H' D' = some (.lst vs) ∧ B' D' = none ∧ ¬ Owned H' (wipe σ own) e' D' ∧ Reps K B' vs acc ∧ Po K mg W (rpF K) G σ B1 Q (lcL gm mt me own (ds.drop (i + 1)) acc e'),
        fun H' ⟨e', B', acc', vs', q1⟩ => ⟨ds.length - (i + 1), by omega, rfl, e', B', acc', vs', q1⟩, fun x H3 hy => ?_⟩
      obtain ⟨B3, t1, t2, t3, t4, rx⟩ := yl x H3 hy
      have S3 : Sto K G B3 H3 (wipe σ own) e2 := S2.call t3 t1 t2 t4
      have s13 : Same B1 B3 := s2.trans t1
      have hD3 : H3 D' = some (.lst vs) := t3 _ _ hD2
      have bD3 : B3 D' = none := by
        cases w : B3 D' with
        | none => rfl
        | some o =>
          rcases t4 D' (by rw [w]; simp) with u | u
          · exact absurd bD2 u
          · rw [hD2] at u; cases u
      have nF : ¬ OwnF H3 (wipe σ own) e2 D' := fun q => nD2 (S2.own_frame (t1.trans t2) (S2.callO (B' := B3) t3) q)
      have rebD : (reb G B3 H3 (wipe σ own) e2).H D' = some (.lst vs) := (if_neg nF).trans hD3
      unfold lcL at h2
      cases w : gm d e2 with
      | none => simp only [w] at h2; exact h2.elim
      | some e3 =>
        simp only [w] at h2
        refine hg _ B3 H3 (wipe σ own) e2 e3 x d _ S3.reb rx w fun σ4 S4 tc => ⟨wipe_of_tch tc, ?_⟩
        -- what stays apart
        have nio : D' ∉ G.io := fun q => S1.iom D' q gD
        have apart : ∀ {B5 H5 : Hp} {e5 : Env}, Sto K (reb G B3 H3 (wipe σ own) e2) B5 H5 σ4 e5 → H5 D' = some (.lst vs) ∧ B5 D' = none ∧ ¬ Owned H5 (wipe σ own) (wipeE e5 own) D' := fun {B5 H5 e5} S5 => by
          refine ⟨S5.keep D' _ rebD nio, ?_, fun q => ?_⟩
          · cases u : B5 D' with
            | none => rfl
            | some o =>
              rcases S5.new D' (by rw [u]; simp) with v1 | v1
              · exact absurd bD3 v1
              · rw [rebD] at v1; cases v1
          · have hg := (S5.apart (q.chg tc.symm)).2.1
            rw [rebD] at hg; cases hg
        have home : ∀ {B5 H5 : Hp} {e5 : Env}, Sto K (reb G B3 H3 (wipe σ own) e2) B5 H5 σ4 e5 → Sto K G B5 H5 (wipe σ own) (wipeE e5 own) := fun {B5 H5 e5} S5 => (S3.unreb S5).chg tc.symm
        refine ht.run _ (W.reb G B3 H3 (wipe σ own) e2 hG S3) B3 H3 σ4 e3 _ S4 ?_
        cases u : mt e3 with
        | err x e4 => simp only [u, Res.bindN] at h2; exact h2.elim
        | bot => simp only [u, Res.bindN] at h2; exact h2.elim
        | ok kb e4 =>
          simp only [u, Res.bindN] at h2
          intro kb' B4 H4 S4' s4 rk
          have rk : kb' = kb := rk
          subst rk
          cases kb' with
          | false =>
            rw [if_neg Bool.false_ne_true] at h2 ⊢
            obtain ⟨a1, a2, a3⟩ := apart S4'
            exact ⟨wipeE e4 own, B4, acc, vs, home S4', s13.trans s4, a1, a2, a3, ra.mono (t1.trans s4), h2⟩
          | true =>
            rw [if_pos rfl] at h2 ⊢
            refine he.run _ (W.reb G B3 H3 (wipe σ own) e2 hG S3) B4 H4 σ4 e4 _ S4' ?_
            cases u2 : me e4 with
            | err x e4 => simp only [u2] at h2; exact h2.elim
            | bot => simp only [u2] at h2; exact h2.elim
            | ok xd e5 =>
              simp only [u2] at h2
              intro y B5 H5 S5 s5 ry
              obtain ⟨a1, a2, a3⟩ := apart S5
              have hl : acc.length < vmax := by
                by_cases hl : acc.length < vmax
                · exact hl
                · rw [if_neg hl] at h2; exact h2.elim
              rw [if_pos hl] at h2
              have ra5 : Reps K B5 vs acc := ra.mono ((t1.trans s4).trans s5)
              refine ⟨vs, a1, by rw [ra.length]; exact Nat.lt_of_lt_of_le hl vok, wipeE e5 own, B5, acc ++ [xd], vs ++ [y], (home S5).poke a2 gD a3, s13.trans (s4.trans s5), upd_same, a2, (home S5).poke_no a2 a3, ra5.append (.cons ry .nil), h2⟩
end
end VL

/-! VL8: the two together: a piece of the text and its meaning; a def by its body; raise. -/
namespace VL
open PySem PySem.Spec PyProof.Rows L2


variable {ι : Type}
def VE (K : PySem.W.Frag) (mg : Str → Option Value) (X : ι → Cx) (W : Am K) (e : Expr) (m : ME) : Prop := ∃ t, (∀ i, PE (X i) e t) ∧ RdE K mg W t m
def VF (K : PySem.W.Frag) (mg : Str → Option Value) (X : ι → Cx) (W : Am K) (e : Expr) (m : MA) : Prop := ∃ t, (∀ i, PE (X i) e t) ∧ RdF K mg W t m
def VA (K : PySem.W.Frag) (mg : Str → Option Value) (X : ι → Cx) (W : Am K) (es : List Expr) (m : MA) : Prop := ∃ t, (∀ i, PA (X i) es t) ∧ RdA K mg W t m
def VT (K : PySem.W.Frag) (mg : Str → Option Value) (X : ι → Cx) (W : Am K) (e : Expr) (m : MB) : Prop := ∃ t, (∀ i, PT (X i) e t) ∧ RdB K mg W t m
def VTs (K : PySem.W.Frag) (mg : Str → Option Value) (X : ι → Cx) (W : Am K) (e : List Expr) (m : MB) : Prop := ∃ t, (∀ i, PTs (X i) e t) ∧ RdB K mg W t m
def VW (K : PySem.W.Frag) (mg : Str → Option Value) (X : ι → Cx) (W : Am K) (e : Expr) (m : MB) : Prop := ∃ t, (∀ i, PW (X i) e t) ∧ RdB K mg W t m
def VP (K : PySem.W.Frag) (mg : Str → Option Value) (X : ι → Cx) (W : Am K) (e : Option Expr) (m : MO) : Prop := ∃ t, (∀ i, PO (X i) e t) ∧ RdX K mg W (fun _ _ _ _ _ b a => b = a) t m
def VG (K : PySem.W.Frag) (X : ι → Cx) (own : List Nat) (e : Expr) (m : D → Env → Option Env) : Prop := ∃ t, (∀ i, PG (X i) e t) ∧ RdG K own t m
def VGs (K : PySem.W.Frag) (X : ι → Cx) (own : List Nat) (n : Nat) (e : List Expr) (m : List D → Env → Option Env) : Prop := ∃ t, (∀ i, PGs (X i) e t) ∧ RdGs K own t m ∧ ∀ ds e e', m ds e = some e' → ds.length = n
def VI (K : PySem.W.Frag) (mg : Str → Option Value) (X : ι → Cx) (W : Am K) (tg it : Expr) (m : MA) : Prop := ∃ t, (∀ i, PI (X i) tg it t) ∧ RdI K mg W t m
def VS (X : Cx) (W : Am X.K) (k : RK) (s : Stmt) (m : MS) : Prop := ∃ t, PS X s t ∧ RdS X.K X.mg W k t m
def VSs (X : Cx) (W : Am X.K) (k : RK) (s : List Stmt) (m : MS) : Prop := ∃ t, PSs X s t ∧ RdS X.K X.mg W k t m
/-- one context -/
abbrev at1 (X : Cx) : Unit → Cx := fun _ => X
/-- the contexts of a block -/
abbrev Bk : Type := Shared × Hp × Addr × List (Str × Addr) × List Addr
abbrev blkF (X : ι → Cx) (scope : Scope) : ι × Bk → Cx := fun p => (X p.1).blk p.2.1 p.2.2.1 scope (compEnvC scope p.2.2.2.2.1 p.2.2.2.1 (X p.1).env) p.2.2.2.2.2

/-- what the contexts have in common -/
def IsX (X : ι → Cx) (P : Program) (w : World) (K : PySem.W.Frag) (mg : Str → Option Value) (base : Heap) : Prop := ∀ i, (X i).prog = P ∧ (X i).w = w ∧ (X i).K = K ∧ (X i).mg = mg ∧ (X i).base = base
theorem call_at {Y : Cx} {P : Program} {w : World} {K : PySem.W.Frag} {mg : Str → Option Value} {base : Heap} {k : Nat} {f : Addr} {fd : FuncData} {ps : List Str} {sp : Sp} {x : Str} {p pos : Pos} {e : Expr} {es : List Expr} {t : TA} {E : _ → XK} (F : FnOk P w K mg base (L2.CX P w) k f fd ps sp) (h : Y.prog = P ∧ Y.w = w ∧ Y.K = K ∧ Y.mg = mg ∧ Y.base = base) (hr : Room k Y.A) (hg : Gl Y x) (hm : mg x = some (.ref f)) (hk : PySem.W.keepIn K (.ref f) = true) (hb : Binds K fd ps []) (hx : ∀ σ, PassesAt (L2.CX Y.prog Y.w) Y σ (E σ))
    (ha : PA Y (e :: es) t) (hdb : (x == ("__debug__" : Str)) = false) (he : starEach (e :: es) Y.env = (false, eval e Y.env) :: starEach es Y.env) (hpl : (backTo pos (starEach es Y.env)).any (·.1) = false) : PE Y (.Call (.Name x p) (e :: es) [] pos) (tCallS sp E t) := by
  obtain ⟨rfl, rfl, rfl, rfl, rfl⟩ := h
  exact pe_callS F hr hg hm hk hb hx ha hdb he hpl
section
variable {K : PySem.W.Frag} {mg : Str → Option Value} {X : ι → Cx} {W : Am K} {pos : Pos} {a b c e o i : Expr} {es : List Expr} {ma mb mc m mi : ME} {ms : MA} {k : RK}
/-! ### expressions -/
theorem ve_var (i : Nat) {x : Str} (hN : ∀ j, (X j).N[i]? = some x := by intro _; rfl) (hv : ∀ j, Vis (X j).env.scope x := by intro _; first | exact Or.inl rfl | exact Or.inr (Or.inl rfl) | exact Or.inr (Or.inr rfl)) (hd : (x == ("__debug__" : Str)) = false := by decide)
    (hcd : (x == ("__classdict__" : Str)) = false := by decide) : VE K mg X W (.Name x pos) (vVar i) := ⟨_, fun i => pe_var (hN i) (hv i) hd hcd, rd_var i⟩
theorem vf_own (i : Nat) {x : Str} (hN : ∀ j, (X j).N[i]? = some x := by intro _; rfl) (hv : ∀ j, Vis (X j).env.scope x := by intro _; first | exact Or.inl rfl | exact Or.inr (Or.inl rfl) | exact Or.inr (Or.inr rfl)) (hd : (x == ("__debug__" : Str)) = false := by decide)
    (hcd : (x == ("__classdict__" : Str)) = false := by decide) : VF K mg X W (.Name x pos) (vOwn i) := ⟨_, fun i => pe_var (hN i) (hv i) hd hcd, rd_own i⟩
theorem ve_int {i : Int} {j} : VE K mg X W (.Constant (.int i) j pos) (vC (.int i)) := ⟨_, fun i => pe_int, rd_int i⟩
theorem ve_bl {i : Bool} {j} : VE K mg X W (.Constant (.bool i) j pos) (vC (.bl i)) := ⟨_, fun i => pe_bl, rd_bl i⟩
theorem ve_non {j} : VE K mg X W (.Constant .none j pos) (vC .non) := ⟨_, fun i => pe_non, rd_non⟩
theorem ve_str {x : Str} {j} : VE K mg X W (.Constant (.str x) j pos) (vC (.str x)) := ⟨_, fun i => pe_str, rd_str x⟩
/-- a module's own constant -/
theorem ve_glob {x : Str} {v : V} {u : Value} {d : D} (hm : ∀ j, (X j).mg x = some u) (r : RelV v u) (rd : ∀ B, Rep K B v d) (hg : ∀ j, Gl (X j) x := by intro _; rfl) (hd : (x == ("__debug__" : Str)) = false := by decide) : VE K mg X W (.Name x pos) (vC d) := ⟨_, fun i => pe_glob (hg i) (hm i) r hd, rd_c rd⟩
theorem ve_bin {op : Operator} {f : D → D → Option D} (ho : ∀ j, OpR (X j) (binaryOp op) (rDat K f)) (ha : VE K mg X W a ma) (hb : VE K mg X W b mb) : VE K mg X W (.BinOp a op b pos) (vOp f ma mb) :=
  let ⟨_, p, r⟩ := ha; let ⟨_, p', r'⟩ := hb; ⟨_, fun i => pe_op (ho i) (p i) (p' i), rd_op op2_dat r r'⟩
theorem ve_un {op : UnaryOp} {f : D → Option D} (ho : ∀ j, UnR (X j) (unaryOp op) (rDat1 K f)) (ha : VE K mg X W a ma) : VE K mg X W (.UnaryOp op a pos) (vUn f ma) :=
  let ⟨_, p, r⟩ := ha; ⟨_, fun i => pe_un (ho i) (p i), rd_un op1_dat r⟩
theorem ve_cmp {op : CmpOp} {f : D → D → Option D} (ho : ∀ j, OpR (X j) (compareOp op) (rDat K f)) (ha : VE K mg X W a ma) (hb : VE K mg X W b mb) (hm : behindInMarks op b = false) : VE K mg X W (.Compare a [op] [b] pos) (vOp f ma mb) :=
  let ⟨_, p, r⟩ := ha; let ⟨_, p', r'⟩ := hb; ⟨_, fun i => pe_cmpR (ho i) (p i) (p' i) hm, rd_op op2_dat r r'⟩
theorem vt_cmp {op : CmpOp} {f : D → D → Option D} (ho : ∀ j, OpR (X j) (compareOp op) (rDat K f)) (ha : VE K mg X W a ma) (hb : VE K mg X W b mb) (hm : behindInMarks op b = false) : VT K mg X W (.Compare a [op] [b] pos) (vTest (vOp f ma mb)) :=
  let ⟨_, p, r⟩ := ha; let ⟨_, p', r'⟩ := hb; ⟨_, fun i => pt_cmpR (ho i) (p i) (p' i) hm, rd_test (rd_op op2_dat r r')⟩
theorem ve_chain {op op' : CmpOp} {f f' : D → D → Option D} (ho : ∀ j, OpR (X j) (compareOp op) (rDat K f)) (ho' : ∀ j, OpR (X j) (compareOp op') (rDat K f')) (hB : ∀ x y z, f x y = some z → ∃ k, z = .bl k) (ha : VE K mg X W a ma) (hb : VE K mg X W b mb) (hc : VE K mg X W c mc)
    (hm : lastMarks [op, op'] [b, c] = false := by with_unfolding_all rfl) : VE K mg X W (.Compare a [op, op'] [b, c] pos) (vChain f f' ma mb mc) :=
  let ⟨_, p, r⟩ := ha; let ⟨_, p', r'⟩ := hb; let ⟨_, p2, r2⟩ := hc; ⟨_, fun i => pe_chain (ho i) (ho' i) (p i) (p' i) (p2 i) hm, rd_chain op2_dat op2_dat hB r r' r2⟩
theorem vt_chain {op op' : CmpOp} {f f' : D → D → Option D} (ho : ∀ j, OpR (X j) (compareOp op) (rDat K f)) (ho' : ∀ j, OpR (X j) (compareOp op') (rDat K f')) (hB : ∀ x y z, f x y = some z → ∃ k, z = .bl k) (ha : VE K mg X W a ma) (hb : VE K mg X W b mb) (hc : VE K mg X W c mc)
    (hm : lastMarks [op, op'] [b, c] = false := by with_unfolding_all rfl) : VT K mg X W (.Compare a [op, op'] [b, c] pos) (vTest (vChain f f' ma mb mc)) :=
  let ⟨_, p, r⟩ := ha; let ⟨_, p', r'⟩ := hb; let ⟨_, p2, r2⟩ := hc; ⟨_, fun i => pt_chain (ho i) (ho' i) (p i) (p' i) (p2 i) hm, rd_test (rd_chain op2_dat op2_dat hB r r' r2)⟩
theorem lt_bl : ∀ x y z, opLt x y = some z → ∃ k, z = .bl k := fun x y z h => by unfold opLt at h; split at h <;> cases h; exact ⟨_, rfl⟩
theorem le_bl : ∀ x y z, opLe x y = some z → ∃ k, z = .bl k := fun x y z h => by unfold opLe at h; split at h <;> cases h; exact ⟨_, rfl⟩
theorem gt_bl : ∀ x y z, opGt x y = some z → ∃ k, z = .bl k := fun x y z h => by unfold opGt at h; split at h <;> cases h; exact ⟨_, rfl⟩
theorem ge_bl : ∀ x y z, opGe x y = some z → ∃ k, z = .bl k := fun x y z h => by unfold opGe at h; split at h <;> cases h; exact ⟨_, rfl⟩
/-- any expression as a test -/
theorem vt_val (ha : VE K mg X W a ma) (he : ∀ j whole, isTrue a (X j).env whole = (do let v ← whole; standAt a.pos; holding [v] (truthy v)) := by intro _ _; rfl) : VT K mg X W a (vTest ma) :=
  let ⟨_, p, r⟩ := ha; ⟨_, fun i => pt_val (p i) (he i), rd_tB r⟩
section
variable {ta tb : MB} {rest : List Expr}
theorem vw_and1 (ha : VT K mg X W a ta) : VW K mg X W (.BoolOp .And [a] pos) ta := let ⟨_, p, r⟩ := ha; ⟨_, fun i => pw_and1 (p i), r⟩
theorem vw_or1 (ha : VT K mg X W a ta) : VW K mg X W (.BoolOp .Or [a] pos) ta := let ⟨_, p, r⟩ := ha; ⟨_, fun i => pw_or1 (p i), r⟩
theorem vw_and (ha : VT K mg X W a ta) (hb : VW K mg X W (.BoolOp .And (b :: rest) pos) tb) : VW K mg X W (.BoolOp .And (a :: b :: rest) pos) (vAnd ta tb) := let ⟨_, p, r⟩ := ha; let ⟨_, p', r'⟩ := hb; ⟨_, fun i => pw_and (p i) (p' i), rd_and r r'⟩
theorem vw_or (ha : VT K mg X W a ta) (hb : VW K mg X W (.BoolOp .Or (b :: rest) pos) tb) : VW K mg X W (.BoolOp .Or (a :: b :: rest) pos) (vOr ta tb) := let ⟨_, p, r⟩ := ha; let ⟨_, p', r'⟩ := hb; ⟨_, fun i => pw_or (p i) (p' i), rd_or r r'⟩
theorem vt_w (ha : VW K mg X W a ta) : VT K mg X W a ta := let ⟨_, p, r⟩ := ha; ⟨_, fun i => (p i).pt, r⟩
theorem vt_not (ha : VT K mg X W a ta) : VT K mg X W (.UnaryOp .Not a pos) (vNot ta) := let ⟨_, p, r⟩ := ha; ⟨_, fun i => pt_not (p i), rd_not r⟩
theorem ve_one {op} (ha : VE K mg X W a ma) : VE K mg X W (.BoolOp op [a] pos) ma := let ⟨_, p, r⟩ := ha; ⟨_, fun i => pe_one (p i), r⟩
theorem ve_and (ha : VE K mg X W a ma) (hb : VE K mg X W (.BoolOp .And (b :: rest) pos) mb) : VE K mg X W (.BoolOp .And (a :: b :: rest) pos) (vAndV ma mb) := let ⟨_, p, r⟩ := ha; let ⟨_, p', r'⟩ := hb; ⟨_, fun i => pe_and (p i) (p' i), rd_andV r r'⟩
theorem ve_or (ha : VE K mg X W a ma) (hb : VE K mg X W (.BoolOp .Or (b :: rest) pos) mb) : VE K mg X W (.BoolOp .Or (a :: b :: rest) pos) (vOrV ma mb) := let ⟨_, p, r⟩ := ha; let ⟨_, p', r'⟩ := hb; ⟨_, fun i => pe_or (p i) (p' i), rd_orV r r'⟩
theorem ve_not (ha : VE K mg X W a ma) : VE K mg X W (.UnaryOp .Not a pos) (vNotV ma) := let ⟨_, p, r⟩ := ha; ⟨_, fun i => pe_not (p i), rd_notV r⟩
end
theorem ve_ix (hu : ∀ j, (X j).A.units + 1 < cLine) (ho : VE K mg X W o m) (hi : VE K mg X W i mi) (hs : PlainIx i) (hK : ∀ j, (X j).K = K := by intro _; rfl) : VE K mg X W (.Subscript o i pos) (vOp opIx m mi) := let ⟨_, p, r⟩ := ho; let ⟨_, p', r'⟩ := hi; ⟨_, fun i => pe_ix (hK i ▸ od_ix (hu i) : IxR (X i) (rDat K opIx)) (p i) (p' i) hs, rd_op op2_dat r r'⟩
theorem vp_none : VP K mg X W none vNoPart := ⟨_, fun i => po_none, rd_nopart⟩
theorem vp_some (ha : VE K mg X W a ma) : VP K mg X W (some a) (vPart ma) := let ⟨_, p, r⟩ := ha; ⟨_, fun i => po_some (p i), rd_part r⟩
section
variable {lo hi : Option Expr} {ml mh : MO} {p2 : Pos}
theorem ve_slT (he : VE K mg X W e m) (hl : VP K mg X W lo ml) (hh : VP K mg X W hi mh) (hK : ∀ j, (X j).K = K := by intro _; rfl) : VE K mg X W (.Subscript e (.Slice lo hi none p2) pos) (vSl m ml mh) := let ⟨_, p, r⟩ := he; let ⟨_, p', r'⟩ := hl; let ⟨_, q, s⟩ := hh; ⟨_, fun i => pe_slice (hK i ▸ sl_dat : SlR (X i) (rDatS K)) (p i) (p' i) (q i), rd_slT r r' s⟩
theorem vf_slL (he : VE K mg X W e m) (hl : VP K mg X W lo ml) (hh : VP K mg X W hi mh) (hK : ∀ j, (X j).K = K := by intro _; rfl) : VF K mg X W (.Subscript e (.Slice lo hi none p2) pos) (vSlF m ml mh) := let ⟨_, p, r⟩ := he; let ⟨_, p', r'⟩ := hl; let ⟨_, q, s⟩ := hh; ⟨_, fun i => pe_slice (hK i ▸ sl_list : SlR (X i) (rSlL K)) (p i) (p' i) (q i), rd_slF r r' s⟩
theorem vf_rev {k : Nat} {p1 p2 p3 : Pos} (he : VE K mg X W e m) (hK : ∀ j, (X j).K = K := by intro _; rfl) : VF K mg X W (.Subscript e (.Slice none none (some (.UnaryOp .USub (.Constant (.int 1) k p1) p2)) p3) pos) (vRevF m) := let ⟨_, p, r⟩ := he; ⟨_, fun i => (hK i ▸ pe_revL (p i) : PE (X i) _ (tRevL K _)), rd_revF r⟩
end
theorem va_nil : VA K mg X W [] vNil := ⟨_, fun i => pa_nil, rd_nil⟩
theorem va_cons (ha : VE K mg X W e m) (hr : VA K mg X W es ms) (hs : ∀ j, starEach (e :: es) (X j).env = (false, eval e (X j).env) :: starEach es (X j).env := by intro _; rfl) : VA K mg X W (e :: es) (vCons m ms) := let ⟨_, p, r⟩ := ha; let ⟨_, p', r'⟩ := hr; ⟨_, fun i => pa_cons (p i) (p' i) (hs i), rd_cons r r'⟩
theorem ve_tup {x1} (h : VA K mg X W es ms) : VE K mg X W (.Tuple es x1 pos) (vTupD ms) := let ⟨_, p, r⟩ := h; ⟨_, fun i => pe_tup (p i), rd_tup r⟩
theorem vf_lst (h : VA K mg X W es ms) : VF K mg X W (.List es pos) (vLstD ms) := let ⟨_, p, r⟩ := h; ⟨_, fun i => pe_lst (p i), rd_lst r⟩
theorem ve_of (h : VF K mg X W e ms) : VE K mg X W e (vOf ms) := let ⟨_, p, r⟩ := h; ⟨_, fun i => p i, rd_of r⟩
theorem ve_bor (h : VE K mg X W e m) : VE K mg X W e (vBor m) := let ⟨_, p, r⟩ := h; ⟨_, fun i => p i, rd_bor r⟩
theorem vt_bor {m : MB} (h : VT K mg X W e m) : VT K mg X W e (vBorT m) := let ⟨_, p, r⟩ := h; ⟨_, fun i => p i, rd_borT r⟩
theorem vf_bor (h : VF K mg X W e ms) : VF K mg X W e (vBorF ms) := let ⟨_, p, r⟩ := h; ⟨_, fun i => p i, rd_borF r⟩
/-- calls of defs -/
theorem ve_call {j k : Nat} {f : Addr} {fd : FuncData} {ps : List Str} {fn : List D → FR} {x : Str} {p : Pos} {P : Program} {w : World} {base : Heap} (F : FnOk P w K mg base (L2.CX P w) j f fd ps (spV K mg fn)) (hX : IsX X P w K mg base) (hr : ∀ i, Room k (X i).A) (hj : j ≤ k) (hm : mg x = some (.ref f)) (hk : PySem.W.keepIn K (.ref f) = true) (hb : Binds K fd ps []) (tk : ∀ i, Takes (X i) W.w)
    (ha : VA K mg X W (e :: es) ms) (hg : ∀ j, Gl (X j) x := by intro _; rfl) (hdb : (x == ("__debug__" : Str)) = false := by decide) (he : ∀ j, starEach (e :: es) (X j).env = (false, eval e (X j).env) :: starEach es (X j).env := by intro _; rfl) (hpl : ∀ j, (backTo pos (starEach es (X j).env)).any (·.1) = false := by intro _; rfl) :
    VE K mg X W (.Call (.Name x p) (e :: es) [] pos) (vCall fn ms) := let ⟨_, p, r⟩ := ha; ⟨_, fun i => call_at F (hX i) ((hr i).mono hj) (hg i) hm hk hb (fun σ => passAt (tk i) σ) (p i) hdb (he i) (hpl i), rd_call r⟩
theorem vf_call {j k : Nat} {f : Addr} {fd : FuncData} {ps : List Str} {fn : List D → FR} {x : Str} {p : Pos} {P : Program} {w : World} {base : Heap} (F : FnOk P w K mg base (L2.CX P w) j f fd ps (spF K mg fn)) (hX : IsX X P w K mg base) (hr : ∀ i, Room k (X i).A) (hj : j ≤ k) (hm : mg x = some (.ref f)) (hk : PySem.W.keepIn K (.ref f) = true) (hb : Binds K fd ps []) (tk : ∀ i, Takes (X i) W.w)
    (ha : VA K mg X W (e :: es) ms) (hg : ∀ j, Gl (X j) x := by intro _; rfl) (hdb : (x == ("__debug__" : Str)) = false := by decide) (he : ∀ j, starEach (e :: es) (X j).env = (false, eval e (X j).env) :: starEach es (X j).env := by intro _; rfl) (hpl : ∀ j, (backTo pos (starEach es (X j).env)).any (·.1) = false := by intro _; rfl) :
    VF K mg X W (.Call (.Name x p) (e :: es) [] pos) (vCallF fn ms) := let ⟨_, p, r⟩ := ha; ⟨_, fun i => call_at F (hX i) ((hr i).mono hj) (hg i) hm hk hb (fun σ => passAt (tk i) σ) (p i) hdb (he i) (hpl i), rd_callF r⟩
/-- .. of built-in functions -/
theorem ve_bf {id : String} {x : Str} {p : Pos} {f : List D → Option D} (hc : ∀ j, CallR (X j) (.builtin id) (rDatC K f)) (hm : ∀ j, (X j).mg x = none) (hv : bootBuiltins x = some (.builtin id)) (ha : VA K mg X W (e :: es) ms) (hg : ∀ j, Gl (X j) x := by intro _; rfl) (hn : x ≠ "__name__" := by decide) (hdb : (x == ("__debug__" : Str)) = false := by decide)
    (he : ∀ j, starEach (e :: es) (X j).env = (false, eval e (X j).env) :: starEach es (X j).env := by intro _; rfl) (hpl : ∀ j, (backTo pos (starEach es (X j).env)).any (·.1) = false := by intro _; rfl) : VE K mg X W (.Call (.Name x p) (e :: es) [] pos) (vBf f ms) :=
  let ⟨_, p, r⟩ := ha; ⟨_, fun i => pe_callB (hc i) (hg i) (hm i) hv (p i) hn hdb (he i) (hpl i), rd_bf r⟩
theorem vf_ty {T : String} {x : Str} {p : Pos} {f : List D → Option (List D)} (hc : ∀ j, CallR (X j) (.type T) (rDatF K f)) (hm : ∀ j, (X j).mg x = none) (hv : bootBuiltins x = some (.type T)) (ha : VA K mg X W (e :: es) ms) (hg : ∀ j, Gl (X j) x := by intro _; rfl) (hn : x ≠ "__name__" := by decide) (hdb : (x == ("__debug__" : Str)) = false := by decide)
    (he : ∀ j, starEach (e :: es) (X j).env = (false, eval e (X j).env) :: starEach es (X j).env := by intro _; rfl) (hpl : ∀ j, (backTo pos (starEach es (X j).env)).any (·.1) = false := by intro _; rfl) : VF K mg X W (.Call (.Name x p) (e :: es) [] pos) (vBl f ms) :=
  let ⟨_, p, r⟩ := ha; ⟨_, fun i => pe_callTy (hc i) (hg i) (hm i) hv (p i) hn hdb (he i) (hpl i), rd_bl' r⟩
theorem ve_isi {T : String} {p p2 : Pos} {x : Str} (hk : kitAll T = true) (hm : ∀ j, (X j).mg "isinstance" = none) (hmT : ∀ j, (X j).mg x = none) (hvT : bootBuiltins x = some (.type T)) (hv : bootBuiltins "isinstance" = some (.builtin "isinstance")) (ha : VE K mg X W a ma) (hgT : ∀ j, Gl (X j) x := by intro _; rfl) (hnT : x ≠ "__name__" := by decide) (hdT : (x == ("__debug__" : Str)) = false := by decide)
    (hg : ∀ j, Gl (X j) "isinstance" := by intro _; rfl) (he : ∀ j, starEach [a, .Name x p2] (X j).env = (false, eval a (X j).env) :: starEach [.Name x p2] (X j).env := by intro _; rfl) (he2 : ∀ j, starEach [(.Name x p2 : Expr)] (X j).env = (false, eval (.Name x p2) (X j).env) :: starEach [] (X j).env := by intro _; rfl)
    (hpl : ∀ j, (backTo pos (starEach [(.Name x p2 : Expr)] (X j).env)).any (·.1) = false := by intro _; rfl) (hK : ∀ j, (X j).K = K := by intro _; rfl) : VE K mg X W (.Call (.Name "isinstance" p) [a, .Name x p2] [] pos) (vIsi T ma) :=
  let ⟨_, p, r⟩ := ha; ⟨_, fun i => pe_callB (hK i ▸ call_isi : CallR (X i) (.builtin "isinstance") (rIsi K)) (hg i) (hm i) hv (pa_cons (p i) (pa_cons (pe_bltn (v := .ty T) (hgT i) (hmT i) hvT rfl hnT hdT) pa_nil (he2 i)) (he i)) (by decide) (by decide) (he i) (hpl i), rd_isi hk r⟩
/-- xs.pop() -/
theorem ve_pop (i : Nat) {x : Str} {p apos : Pos} (hN : ∀ j, (X j).N[i]? = some x := by intro _; rfl) (hv : ∀ j, Vis (X j).env.scope x := by intro _; first | exact Or.inl rfl | exact Or.inr (Or.inl rfl) | exact Or.inr (Or.inr rfl)) (hd : (x == ("__debug__" : Str)) = false := by decide)
    (hcd : (x == ("__classdict__" : Str)) = false := by decide) (hbase : ∀ j, attributeBase (.Name x p) "pop" (X j).env (eval (.Name x p) (X j).env) = eval (.Name x p) (X j).env := by intro _; rfl) (hline : (apos.endLine == pos.line) = true := by rfl) (hK : ∀ j, (X j).K = K := by intro _; rfl) :
    VE K mg X W (.Call (.Attribute (.Name x p) "pop" apos) [] [] pos) (vPop i) := ⟨_, fun i => (hK i ▸ pe_bm0 PySem.F.plainAttrs_list PySem.F.slot_list_pop PySem.F.type_list_pop mt_pop (pe_var (hN i) (hv i) hd hcd) (hbase i) hline : PE (X i) _ (tBM0 K "list" rPop (tVar _))), rd_pop⟩
end
end VL

/-! VL9: statements of the text; a def by its body; raise. -/
namespace VL
open PySem PySem.Spec PyProof.Rows L2

section
variable {ι : Type} {K : PySem.W.Frag} {mg : Str → Option Value} {X : ι → Cx} {W : Am K} {pos : Pos} {a b c e o i it tg : Expr} {es : List Expr} {ma mb mc m mi : ME} {ms : MA}
/-! targets -/
theorem vg_name (i : Nat) {x : Str} (hN : ∀ j, (X j).N.Nodup) (hx : ∀ j, Loc (X j).env.scope x := by intro _; first | exact Or.inl rfl | exact Or.inr rfl) (hi : ∀ j, (X j).N[i]? = some x := by intro _; rfl) (hf : ∀ j, (X j).fn x = true ∨ (X j).env.scope.names.lookup x = some .local := by intro _; first | exact .inl rfl | exact .inr rfl) : VG K X [i] (.Name x pos) (gNam i) := ⟨_, fun j => pg_name (hN j) (hi j) (hx j) (hf j), rg_name i⟩
theorem vgs_nil : VGs K X [] 0 [] gNil' := ⟨_, fun _ => pgs_nil, rg_nil, gNil_len⟩
theorem vgs_cons {o1 o2 : List Nat} {n : Nat} {g : D → Env → Option Env} {r : List D → Env → Option Env} (h : VG K X o1 e g) (hr : VGs K X o2 n es r) (hs : ∀ j, (assignEach (e :: es) (X j).env).map (·.2) = assign e (X j).env :: (assignEach es (X j).env).map (·.2) := by intro _; rfl) : VGs K X (o1 ++ o2) (n + 1) (e :: es) (gCon g r) :=
  let ⟨_, p, q⟩ := h; let ⟨_, p', q', l⟩ := hr; ⟨_, fun i => pgs_cons (p i) (p' i) (hs i), rg_cons q q', gCon_len l⟩
theorem vg_tup {o : List Nat} {n k : Nat} {r : List D → Env → Option Env} (hc : ∀ j, (X j).calm = true) (h : VGs K X o n es r) (hn : ∀ j, (assignEach es (X j).env).length = n := by intro _; rfl) (hst : ∀ j, (assignEach es (X j).env).findIdx? (·.1) = none := by intro _; rfl) (hK : ∀ j, (X j).K = K := by intro _; rfl) : VG K X o (.Tuple es k pos) (gTup' r) :=
  let ⟨_, p, q, l⟩ := h; ⟨_, fun i => (hK i ▸ pg_seq (hc i) (p i) (hn i) (hst i) : PG (X i) _ (gSeq K n _)), rg_tup q l⟩
/-! iterables -/
theorem vi_seq (h : VE K mg X W it m) (hK : ∀ j, (X j).K = K := by intro _; rfl) : VI K mg X W tg it (vSeqI m) := let ⟨_, p, r⟩ := h; ⟨_, fun i => (hK i ▸ pi_seq (p i) : PI (X i) _ _ (iSeq K _)), ri_seq r⟩
theorem vi_rng1 {p : Pos} (hm : ∀ j, (X j).mg "range" = none) (h : VA K mg X W [a] ms) (hg : ∀ j, Gl (X j) "range" := by intro _; rfl) (hs : ∀ j, starEach [a] (X j).env = [(false, eval a (X j).env)] := by intro _; rfl) : VI K mg X W tg (.Call (.Name "range" p) [a] [] pos) (vRng1 ms) := let ⟨_, p, r⟩ := h; ⟨_, fun i => pi_range1 (hg i) (hm i) (p i) (hs i), ri_rng1 r⟩
theorem vi_rng2 {p : Pos} (hm : ∀ j, (X j).mg "range" = none) (h : VA K mg X W [a, b] ms) (hg : ∀ j, Gl (X j) "range" := by intro _; rfl) (hs : ∀ j, starEach [a, b] (X j).env = [(false, eval a (X j).env), (false, eval b (X j).env)] := by intro _; rfl) (hs2 : ∀ j, starEach [b] (X j).env = [(false, eval b (X j).env)] := by intro _; rfl) : VI K mg X W tg (.Call (.Name "range" p) [a, b] [] pos) (vRng2 ms) :=
  let ⟨_, p, r⟩ := h; ⟨_, fun i => pi_range2 (hg i) (hm i) (p i) (hs i) (hs2 i), ri_rng2 r⟩
theorem vi_enum {p tpos : Pos} {elts : List Expr} {kk : Nat} (hm : ∀ j, (X j).mg "enumerate" = none) (h : VA K mg X W [a] ms) (hg : ∀ j, Gl (X j) "enumerate" := by intro _; rfl) (hs : ∀ j, starEach [a] (X j).env = [(false, eval a (X j).env)] := by intro _; rfl) (hK : ∀ j, (X j).K = K := by intro _; rfl) : VI K mg X W (.Tuple elts kk tpos) (.Call (.Name "enumerate" p) [a] [] pos) (vEnum ms) := let ⟨_, p, r⟩ := h; ⟨_, fun i => (hK i ▸ pi_enum (hg i) (hm i) (p i) (hs i) : PI (X i) _ _ (iEnum K _)), ri_enum r⟩
/-! comprehensions -/
theorem rd_yes : RdB K mg W tYes vYes where
  run := fun G hG B H σ e Q S h => Po.here h S (show true = true from rfl)
theorem vts_nil : VTs K mg X W [] vYes := ⟨_, fun _ => pts_nil, rd_yes⟩
theorem vts_one {mt : MB} (h : VT K mg X W e mt) : VTs K mg X W [e] mt := let ⟨_, p, r⟩ := h; ⟨_, fun i => pts_one (p i), r⟩
theorem vf_lc {elt : Expr} {ifs : List Expr} {scope : Scope} {own : List (Str × Nat)} {mi : MA} {gm : D → Env → Option Env} {mt : MB} {me : ME} (hc : ∀ j, (X j).calm = true) (hN : ∀ j, (X j).N.Nodup) (hi : VI K mg X W tg it mi) (ok : ∀ j, BlkOk (X j).N (X j).env.scope scope own)
    (hg : VG K (blkF X scope) (own.map (·.2)) tg gm) (ht : VTs K mg (blkF X scope) (W.to Wn) ifs mt) (he : VE K mg (blkF X scope) (W.to Wn) elt me) (hs : ∀ j x, foldedSetIterable it (X j).env x = pure x := by intro _ _; rfl) :
    VF K mg X W (.ListComp elt [⟨tg, it, ifs, 0⟩] scope pos) (vLc mi gm mt me (own.map (·.2))) := by
  obtain ⟨wi, pi, ri⟩ := hi
  obtain ⟨g, pg, rg⟩ := hg
  obtain ⟨t, pt, rt⟩ := ht
  obtain ⟨te, pe, re⟩ := he
  exact ⟨_, fun i => pe_lc (hc i) (hN i) (pi i) (ok i) (fun s H C cl fp => pg (i, s, H, C, cl, fp)) (fun s H C cl fp => pt (i, s, H, C, cl, fp)) (fun s H C cl fp => pe (i, s, H, C, cl, fp)) (hs i), rd_lc ri rg rt re⟩
end
section
variable {X : Cx} {W : Am X.K} {pos : Pos} {a b c e o i it tg : Expr} {es : List Expr} {ma mb mc m mi : ME} {ms : MA} {k : RK} {st : Stmt} {body rest : List Stmt} {mm mn : MS}
/-! statements -/
theorem vss_nil : VSs X W k [] vNext := ⟨_, pss_nil, rs_next⟩
theorem vss_cons (h : VS X W k st mm) (hr : VSs X W k rest mn) : VSs X W k (st :: rest) (vSeq mm mn) := let ⟨_, p, r⟩ := h; let ⟨_, p', r'⟩ := hr; ⟨_, pss_cons p p', rs_seq r r'⟩
theorem vs_expr (h : VE X.K X.mg (at1 X) W e m) (hs : swapsWith e none pos.line X.env = pure false := by rfl) : VS X W k (.Expr e pos) (vDrop m) := let ⟨_, p, r⟩ := h; ⟨_, ps_expr (p ()) hs, rs_drop r⟩
theorem vs_ret (h : VE X.K X.mg (at1 X) W e m) : VS X W .v (.Return (some e) pos) (vRet m) := let ⟨_, p, r⟩ := h; ⟨_, ps_ret (p ()), rs_ret r⟩
theorem vs_retF (h : VF X.K X.mg (at1 X) W e ms) : VS X W .f (.Return (some e) pos) (vRetF ms) := let ⟨_, p, r⟩ := h; ⟨_, ps_ret (p ()), rs_retF r⟩
theorem vs_retN : VS X W .v (.Return none pos) vRetN := ⟨_, ps_retN, rs_retN⟩
theorem vs_if {mt : MB} (h : VT X.K X.mg (at1 X) W c mt) (ha : VSs X W k body mm) (hb : VSs X W k rest mn) : VS X W k (.If c body rest pos) (vIf mt mm mn) := let ⟨_, p, r⟩ := h; let ⟨_, p', r'⟩ := ha; let ⟨_, p2, r2⟩ := hb; ⟨_, ps_if (p ()) p' p2, rs_if r r' r2⟩
theorem vs_pass : VS X W k (.Pass pos) vPass := ⟨_, ps_pass, rs_next⟩
theorem vs_break : VS X W k (.Break pos) vBreak := ⟨_, ps_break, rs_break⟩
theorem vs_never : VS X W k st (fun _ => .bot) := ⟨_, ps_never, rs_never⟩
section
variable {x : Str} {pos' : Pos}
theorem vs_set (i : Nat) (hN : X.N.Nodup) (he : VE X.K X.mg (at1 X) W e m) (hi : X.N[i]? = some x := by rfl) (hx : Loc X.env.scope x := by first | exact Or.inl rfl | exact Or.inr rfl) (hs : swapsWith e (some (.Name x pos')) pos.line X.env = pure false := by rfl) (hf : X.fn x = true ∨ X.env.scope.names.lookup x = some .local := by first | exact .inl rfl | exact .inr rfl) :
    VS X W k (.Assign [.Name x pos'] e pos) (vAsg m (gNam i)) := let ⟨_, p, r⟩ := he; ⟨_, ps_set hN hi hx (p ()) hs hf, rs_asg r (rg_name i)⟩
theorem vs_setF (i : Nat) (hN : X.N.Nodup) (he : VF X.K X.mg (at1 X) W e ms) (hi : X.N[i]? = some x := by rfl) (hx : Loc X.env.scope x := by first | exact Or.inl rfl | exact Or.inr rfl) (hs : swapsWith e (some (.Name x pos')) pos.line X.env = pure false := by rfl) (hf : X.fn x = true ∨ X.env.scope.names.lookup x = some .local := by first | exact .inl rfl | exact .inr rfl) :
    VS X W k (.Assign [.Name x pos'] e pos) (vAsgF i ms) := let ⟨_, p, r⟩ := he; ⟨_, ps_set hN hi hx (p ()) hs hf, rs_asgF r⟩
/-- x = [..]: the comprehension's list, x's own (F) or handed out -/
theorem vs_setLcF {elt : Expr} {ifs : List Expr} {scope : Scope} {own : List (Str × Nat)} {mi : MA} {gm : D → Env → Option Env} {mt : MB} {me : ME} {cpos : Pos} (i : Nat) (hc : X.calm = true) (hN : X.N.Nodup) (hi : VI X.K X.mg (at1 X) W tg it mi) (ok : BlkOk X.N X.env.scope scope own)
    (hg : VG X.K (blkF (at1 X) scope) (own.map (·.2)) tg gm) (ht : VTs X.K X.mg (blkF (at1 X) scope) (W.to Wn) ifs mt) (he : VE X.K X.mg (blkF (at1 X) scope) (W.to Wn) elt me)
    (hsw : swapsWith (.ListComp elt [⟨tg, it, ifs, 0⟩] scope cpos) (some (.Name x pos')) pos.line X.env = pure true) (hi' : X.N[i]? = some x := by rfl) (hyl : X.env.scope.names.lookup x = some .local := by rfl) (hs : ∀ x, foldedSetIterable it X.env x = pure x := by intro _; rfl) :
    VS X W k (.Assign [.Name x pos'] (.ListComp elt [⟨tg, it, ifs, 0⟩] scope cpos) pos) (vAsgF i (vLc mi gm mt me (own.map (·.2)))) := by
  obtain ⟨wi, pi, ri⟩ := hi
  obtain ⟨g, pg, rg⟩ := hg
  obtain ⟨t, pt, rt⟩ := ht
  obtain ⟨te, pe, re⟩ := he
  exact ⟨_, ps_setLc hc hN hi' hyl hsw (pi ()) ok (fun s H C cl fp => pg ((), s, H, C, cl, fp)) (fun s H C cl fp => pt ((), s, H, C, cl, fp)) (fun s H C cl fp => pe ((), s, H, C, cl, fp)) hs, rs_asgF (rd_lc ri rg rt re)⟩
theorem vs_setLc {elt : Expr} {ifs : List Expr} {scope : Scope} {own : List (Str × Nat)} {mi : MA} {gm : D → Env → Option Env} {mt : MB} {me : ME} {cpos : Pos} (i : Nat) (hc : X.calm = true) (hN : X.N.Nodup) (hi : VI X.K X.mg (at1 X) W tg it mi) (ok : BlkOk X.N X.env.scope scope own)
    (hg : VG X.K (blkF (at1 X) scope) (own.map (·.2)) tg gm) (ht : VTs X.K X.mg (blkF (at1 X) scope) (W.to Wn) ifs mt) (he : VE X.K X.mg (blkF (at1 X) scope) (W.to Wn) elt me)
    (hsw : swapsWith (.ListComp elt [⟨tg, it, ifs, 0⟩] scope cpos) (some (.Name x pos')) pos.line X.env = pure true) (hi' : X.N[i]? = some x := by rfl) (hyl : X.env.scope.names.lookup x = some .local := by rfl) (hs : ∀ x, foldedSetIterable it X.env x = pure x := by intro _; rfl) :
    VS X W k (.Assign [.Name x pos'] (.ListComp elt [⟨tg, it, ifs, 0⟩] scope cpos) pos) (vAsg (vOf (vLc mi gm mt me (own.map (·.2)))) (gNam i)) := by
  obtain ⟨wi, pi, ri⟩ := hi
  obtain ⟨g, pg, rg⟩ := hg
  obtain ⟨t, pt, rt⟩ := ht
  obtain ⟨te, pe, re⟩ := he
  exact ⟨_, ps_setLc hc hN hi' hyl hsw (pi ()) ok (fun s H C cl fp => pg ((), s, H, C, cl, fp)) (fun s H C cl fp => pt ((), s, H, C, cl, fp)) (fun s H C cl fp => pe ((), s, H, C, cl, fp)) hs, rs_asg (rd_of (rd_lc ri rg rt re)) (rg_name i)⟩
/-- targets of other forms -/
theorem vs_asg {o : List Nat} {g : D → Env → Option Env} (he : VE X.K X.mg (at1 X) W e m) (hg : VG X.K (at1 X) o tg g) (hs : swapsWithSole [tg] e pos.line X.env = pure false := by rfl) (hw : swappedStores [tg] e X.env = pure none := by rfl)
    (h1 : (assignEach [tg] X.env).map (·.2) = [assign tg X.env] := by rfl) : VS X W k (.Assign [tg] e pos) (vAsg m g) := let ⟨_, p, r⟩ := he; let ⟨_, p', r'⟩ := hg; ⟨_, ps_asg (p ()) (p' ()) hs hw h1, rs_asg r r'⟩
theorem vs_par {i j : Nat} {y : Str} {px py pt : Pos} {kt k2 pt2} (hc : X.calm = true) (hN : X.N.Nodup) (hij : i ≠ j) (ha : VE X.K X.mg (at1 X) W a ma) (hb : VE X.K X.mg (at1 X) W b mb) (hi : X.N[i]? = some x := by rfl) (hj : X.N[j]? = some y := by rfl)
    (hx : X.env.scope.names.lookup x = some .local := by rfl) (hy : X.env.scope.names.lookup y = some .local := by rfl) (h2 : starEach [a, b] X.env = (false, eval a X.env) :: starEach [b] X.env := by rfl) (h3 : starEach [b] X.env = (false, eval b X.env) :: starEach [] X.env := by rfl)
    (hw : swappedStores [.Tuple [.Name x px, .Name y py] kt pt] (.Tuple [a, b] k2 pt2) X.env = pure (some [x, y]) := by rfl)
    (hs : swapsWithSole [.Tuple [.Name x px, .Name y py] kt pt] (.Tuple [a, b] k2 pt2) pos.line X.env = pure false := by rfl) :
    VS X W k (.Assign [.Tuple [.Name x px, .Name y py] kt pt] (.Tuple [a, b] k2 pt2) pos) (vPar i j ma mb) := let ⟨_, p, r⟩ := ha; let ⟨_, p', r'⟩ := hb; ⟨_, ps_par hc hN hi hj hij hx hy (pa_cons (p ()) (pa_cons (p' ()) pa_nil h3) h2) hw hs, rs_par r r'⟩
theorem vs_augAdd (i : Nat) (hN : X.N.Nodup) (he : VE X.K X.mg (at1 X) W e m) (hi : X.N[i]? = some x := by rfl) (hx : Loc X.env.scope x := by first | exact Or.inl rfl | exact Or.inr rfl) (hf : X.fn x = true ∨ X.env.scope.names.lookup x = some .local := by first | exact .inl rfl | exact .inr rfl) :
    VS X W k (.AugAssign (.Name x pos') .Add e pos) (vAug i (fun a b => match a, b with
      | .int i, .int j => some (.int (i + j))
      | _, _ => none) m) := let ⟨_, p, r⟩ := he; ⟨_, ps_aug hN hi hx (p ()) ip_add hf, rs_aug (fun G B H σ e x y a b d Q S r1 r2 hd h => by
    cases a with
    | int u =>
      cases b with
      | int v =>
        cases hd
        cases r1
        cases r2
        exact ⟨_, _, rfl, rfl, Po.here h S (.int _)⟩
      | _ => cases hd
    | _ => cases hd) r⟩
/-- methods of owned lists, as statements -/
theorem vs_app (i : Nat) {p apos cpos : Pos} (he : VE X.K X.mg (at1 X) W e m) (hN : X.N[i]? = some x := by rfl) (hv : Vis X.env.scope x := by first | exact Or.inl rfl | exact Or.inr (Or.inl rfl) | exact Or.inr (Or.inr rfl)) (hd : (x == ("__debug__" : Str)) = false := by decide)
    (hcd : (x == ("__classdict__" : Str)) = false := by decide) (hbase : attributeBase (.Name x p) "append" X.env (eval (.Name x p) X.env) = eval (.Name x p) X.env := by rfl)
    (hfew : ((backTo cpos (starEach [e] X.env)).all (fun x => !x.1) && (backToKw cpos (keywordEach [] X.env)).all (fun x => x.1.isSome) && decide ([e].length + ([] : List Keyword).length + (if ([] : List Keyword).isEmpty then 0 else 1) < 30)) = true := by rfl)
    (hline : (apos.endLine == cpos.line) = true := by rfl) (hs1 : starEach [e] X.env = (false, eval e X.env) :: starEach [] X.env := by rfl) (hplain : (backTo cpos (starEach [] X.env)).any (·.1) = false := by rfl)
    (hs : swapsWith (.Call (.Attribute (.Name x p) "append" apos) [e] [] cpos) none pos.line X.env = pure false := by rfl) : VS X W k (.Expr (.Call (.Attribute (.Name x p) "append" apos) [e] [] cpos) pos) (vApp i m) :=
  let ⟨_, q, r⟩ := he; ⟨_, ps_expr (pe_bm PySem.F.plainAttrs_list PySem.F.slot_list_append PySem.F.type_list_append mt_append (pe_var hN hv hd hcd) (pa_cons (q ()) pa_nil hs1) hbase hfew hline hs1 hplain) hs, rs_app r⟩
/-- xs[i] = e -/
theorem vs_sub (i : Nat) {p tpos : Pos} {ix : Expr} {mx : ME} (he : VE X.K X.mg (at1 X) W e m) (hx : VE X.K X.mg (at1 X) W ix mx) (hN : X.N[i]? = some x := by rfl) (hv : Vis X.env.scope x := by first | exact Or.inl rfl | exact Or.inr (Or.inl rfl) | exact Or.inr (Or.inr rfl)) (hd : (x == ("__debug__" : Str)) = false := by decide)
    (hcd : (x == ("__classdict__" : Str)) = false := by decide) (hs : swapsWithSole [.Subscript (.Name x p) ix tpos] e pos.line X.env = pure false := by rfl) (hw : swappedStores [.Subscript (.Name x p) ix tpos] e X.env = pure none := by rfl)
    (h1 : (assignEach [.Subscript (.Name x p) ix tpos] X.env).map (·.2) = [assign (.Subscript (.Name x p) ix tpos) X.env] := by rfl)
    (ha : ∀ v, assign (.Subscript (.Name x p) ix tpos) X.env v = (do
      let ov ← holding [v] (eval (.Name x p) X.env)
      let iv ← holding [v, ov] (eval ix X.env)
      standAt tpos
      holding [v, ov, iv] (setItem ov iv v)
      release [v, ov, iv] []) := by intro _; rfl) : VS X W k (.Assign [.Subscript (.Name x p) ix tpos] e pos) (vSet i mx m) :=
  let ⟨_, q, r⟩ := he; let ⟨_, q', r'⟩ := hx; ⟨_, ps_asg (q ()) (pg_sub (pe_var hN hv hd hcd) (q' ()) set_list ha) hs hw h1, rs_set r r'⟩
end
theorem vs_for {o : List Nat} {mi : MA} {g : D → Env → Option Env} (hp : PassesOwn (model X.prog X.w) X.A X.env X.xe) (hc : X.calm = true) (hi : VI X.K X.mg (at1 X) W tg it mi) (hg : VG X.K (at1 X) o tg g) (hb : VSs X W k body mm) (hs : ∀ x, foldedSetIterable it X.env x = pure x := by intro _; rfl) :
    VS X W k (.For tg it body [] pos) (vFor mi g mm) := let ⟨_, p, r⟩ := hi; let ⟨_, p', r'⟩ := hg; let ⟨_, p2, r2⟩ := hb; ⟨_, ps_for hp hc (p ()) (p' ()) p2 hs, rs_for r r' r2⟩
theorem vs_while {mt : MB} (hp : PassesOwn (model X.prog X.w) X.A X.env X.xe) (h : VT X.K X.mg (at1 X) W c mt) (hb : VSs X W k body mm) : VS X W k (.While c body [] pos) (vWhile mt mm) := let ⟨_, p, r⟩ := h; let ⟨_, p', r'⟩ := hb; ⟨_, ps_while hp (p ()) p', rs_while r r'⟩
/-! raise -/
theorem pmk_own0 {C : Addr} {bmB : List Value} {B newId initId : String} {x : Str} {p pos : Pos} (F : ExcBaseFacts B newId initId bmB) (q : PySem.W.excIn X.K C bmB newId = true) (gC : X.mg x = some (.ref C)) (kC : PySem.W.keepIn X.K (.ref C) = true) (r : Raises X (.ref C)) (hg : Gl X x)
    (hdb : (x == ("__debug__" : Str)) = false := by decide) : PMk X (.Call (.Name x p) [] [] pos) (fun _ H Q => Q (.ref C) none H) := by
  intro pins s σ H Q I h
  refine wpAny_Call_Name_kw (ld_glob I hg gC ?_ hdb)
  refine PySem.W.callWith_K0 I.kIn kC ?_
  obtain ⟨bm, N, nm, qn, bs, hdct, sn, sub, ab, col, dd, k0, k1, k2, k3, k5, mN, hC, hN, hni, T⟩ := exc_obj I.kIn q
  refine wpAny_call_exc_subT F T hC hN hni (fun h' e hm => ?_) (by show 0 ≤ sizeLine; omega)
  exact mk_of I hm r h (I.hok.gone hm.new)
theorem rs_raise {x : Str} {C : Addr} (hm : X.mg x = some (.ref C)) : RdS X.K X.mg W k (fun _ σ H => W.w (.ref C) none σ H) (vRaise x) := fun G hG B H σ e D S h => h (.ref C) none σ B H S (Same.refl B) ⟨C, hm, rfl, rfl⟩
/-- what the text's classes of errors are, as the top has made them -/
structure ExcCls (K : PySem.W.Frag) (mg : Str → Option Value) (x : Str) (C : Addr) : Prop where
  g : mg x = some (.ref C)
  q : PySem.W.excIn K C [.type "ValueError", .type "Exception", .type "BaseException", .type "object"] "ValueError.__new__" = true
  k : PySem.W.keepIn K (.ref C) = true
  b : PySem.W.subIn K (.ref C) (.type "BaseException") = some true
  t : PySem.W.typeIn K (.ref C) = some (.type "type")
theorem vs_raise0 {x : Str} {C : Addr} {p cpos : Pos} (T : ExcCls X.K X.mg x C) (tk : Takes X W.w) (hc : X.calm = true) (hg : Gl X x := by rfl) (hdb : (x == ("__debug__" : Str)) = false := by decide) : VS X W k (.Raise (some (.Call (.Name x p) [] [] cpos)) none pos) (vRaise x) :=
  ⟨_, ps_raise hc tk (pmk_own0 PySem.F.excBase_ValueError T.q T.g T.k (raises_own T.b T.t) hg hdb), rs_raise T.g⟩
theorem vs_raise1 {x m : Str} {C : Addr} {j : Nat} {p p2 cpos : Pos} (T : ExcCls X.K X.mg x C) (tk : Takes X W.w) (hc : X.calm = true) (hg : Gl X x := by rfl) (hdb : (x == ("__debug__" : Str)) = false := by decide) : VS X W k (.Raise (some (.Call (.Name x p) [.Constant (.str m) j p2] [] cpos)) none pos) (vRaise x) :=
  ⟨_, ps_raise hc tk (pmk_own PySem.F.excBase_ValueError T.q T.g T.k (raises_own T.b T.t) hg hdb), rs_raise T.g⟩
end

/-! ### a def by its body -/
section
variable {P : Program} {w : World} {K : PySem.W.Frag} {mg : Str → Option Value} {base : Heap}
theorem start_sto {N : List Str} {B H : Hp} {vs : List V} {ds : List D} (sm : Same B H) (r : Reps K B vs ds) (hl : ds.length ≤ N.length) : Sto K ⟨H, B, [], fun _ => 0, fun _ => 0⟩ B H (L2.start N vs) (ds.map Sl.sh ++ List.replicate (N.length - ds.length) .no) where
  len := by
    unfold L2.start
    have := r.length
    simp only [List.length_append, List.length_map, List.length_replicate]
    omega
  sl := fun i s h => by
    have hv := r.length
    unfold L2.start
    by_cases hi : i < ds.length
    · rw [List.getElem?_append_left (by rw [List.length_map]; exact hi), List.getElem?_map] at h
      cases z : ds[i]? with
      | none => rw [z] at h; cases h
      | some d =>
        rw [z] at h
        cases h
        obtain ⟨v, e1, rv⟩ := r.get z
        refine ⟨some v, ?_, .sh rv⟩
        rw [List.getElem?_append_left (by rw [List.length_map, hv]; exact hi), List.getElem?_map, e1] <;> rfl
    · have hlen := (List.getElem?_eq_some_iff.mp h).1
      rw [List.getElem?_append_right (by rw [List.length_map]; omega), List.getElem?_replicate] at h
      split at h
      · cases h
        simp only [List.length_append, List.length_map, List.length_replicate] at hlen
        have q : i < (vs.map some ++ List.replicate (N.length - vs.length) (none : Option V)).length := by simp only [List.length_append, List.length_map, List.length_replicate]; omega
        exact ⟨_, List.getElem?_eq_getElem q, .no⟩
      · cases h
  dis := fun i j s t v w a h1 _ _ _ h5 _ => by
    exfalso
    by_cases hi : i < ds.length
    · rw [List.getElem?_append_left (by rw [List.length_map]; exact hi), List.getElem?_map] at h1
      cases z : ds[i]? with
      | none => rw [z] at h1; cases h1
      | some d => rw [z] at h1; cases h1; exact h5
    · rw [List.getElem?_append_right (by rw [List.length_map]; omega), List.getElem?_replicate] at h1
      split at h1 <;> cases h1
      exact h5
  sub := sm
  b0 := Same.refl B
  keep := fun a o h _ => h
  dom := fun a h => h
  new := fun a h => .inl h
  iom := fun a h => by simp at h
theorem Sto.out {B H B' H' : Hp} {σ : L2.St} {e : Env} (S : Sto K ⟨H, B, [], fun _ => 0, fun _ => 0⟩ B' H' σ e) : Same H H' ∧ Same B B' ∧ Same B' H' ∧ News' B H B' := ⟨fun a o h => S.keep a o h (by simp), S.b0, S.sub, S.new⟩
theorem len_of {np n : Nat} {m : MS} {K : PySem.W.Frag} {mg : Str → Option Value} : (∀ vs H Q E, spV K mg (runB np n m) vs H Q E → vs.length = np) ∧ ∀ vs H Q E, spF K mg (runB np n m) vs H Q E → vs.length = np := by
  refine ⟨fun vs H Q E h => ?_, fun vs H Q E h => ?_⟩
  · obtain ⟨B, ds, sm, r, h⟩ := h
    rw [r.length]
    by_cases q : ds.length = np
    · exact q
    · unfold runB at h
      rw [if_neg q] at h
      exact h.elim
  · obtain ⟨B, ds, sm, r, h⟩ := h
    rw [r.length]
    by_cases q : ds.length = np
    · exact q
    · unfold runB at h
      rw [if_neg q] at h
      exact h.elim
/-- a def that hands back a value -/
theorem fn_V {x qual : Str} {st : Stmt} {f : Addr} {fd : FuncData} {N ps : List Str} {k : Nat} {m : MS} (F : Fun K x qual st f fd) (S : FnScope N ps (defScope st)) (hl : ps.length ≤ N.length)
    (hbody : ∀ (cdv : Value) (A : Around) (outer : List PySem.Env) (s : Shared) (H : Hp) (E : XK), Room k (A.deeper (envOfC qual (defScope st) s.heap.objs.size f cdv)) →
      VSs (cxOf (L2.CX P w) P w K mg base N qual (defScope st) f cdv A outer s H E) (Am.of K fun cls d _ H => E cls d H) .v (defBody st) m) :
    FnOk P w K mg base (L2.CX P w) (k + 1) f fd ps (spV K mg (runB ps.length N.length m)) := by
  refine F.okX S len_of.1 (fun cdv A outer s H vs Q E hr h => ?_)
  obtain ⟨B, ds, sm, r, h⟩ := h
  obtain ⟨t, pt, rt⟩ := hbody cdv A outer s H E hr
  refine ⟨t, pt, rt ⟨H, B, [], fun _ => 0, fun _ => 0⟩ trivial B H _ _ _ (start_sto sm r (by
    by_cases q : ds.length = ps.length
    · omega
    · unfold runB at h; rw [if_neg q] at h; exact h.elim)) ?_⟩
  have q : ds.length = ps.length := by
    by_cases q : ds.length = ps.length
    · exact q
    · unfold runB at h; rw [if_neg q] at h; exact h.elim
  unfold runB at h
  rw [if_pos q] at h
  rw [q]
  cases z : m (ds.map Sl.sh ++ List.replicate (N.length - ps.length) .no) with
  | nx e' =>
    rw [z] at h
    exact fun σ' B' H' S' _ => let ⟨a1, a2, a3, a4⟩ := S'.out; h .non B' H' a1 a2 a3 a4 .non
  | rt d e' =>
    rw [z] at h
    refine fun v σ' B' H' S' _ ro => let ⟨a1, a2, a3, a4⟩ := S'.out; h v B' H' a1 a2 a3 a4 ?_
    exact ro
  | bk e' => rw [z] at h; exact h.elim
  | ct e' => rw [z] at h; exact h.elim
  | err x e' =>
    rw [z] at h
    exact fun c dd σ' B' H' S' _ xr => let ⟨a1, a2, a3, a4⟩ := S'.out; h c dd B' H' a1 a2 a3 a4 xr
  | bot => rw [z] at h; exact h.elim
/-- a def that hands back a new list -/
theorem fn_F {x qual : Str} {st : Stmt} {f : Addr} {fd : FuncData} {N ps : List Str} {k : Nat} {m : MS} (F : Fun K x qual st f fd) (S : FnScope N ps (defScope st)) (hl : ps.length ≤ N.length)
    (hbody : ∀ (cdv : Value) (A : Around) (outer : List PySem.Env) (s : Shared) (H : Hp) (E : XK), Room k (A.deeper (envOfC qual (defScope st) s.heap.objs.size f cdv)) →
      VSs (cxOf (L2.CX P w) P w K mg base N qual (defScope st) f cdv A outer s H E) (Am.of K fun cls d _ H => E cls d H) .f (defBody st) m) :
    FnOk P w K mg base (L2.CX P w) (k + 1) f fd ps (spF K mg (runB ps.length N.length m)) := by
  refine F.okX S len_of.2 (fun cdv A outer s H vs Q E hr h => ?_)
  obtain ⟨B, ds, sm, r, h⟩ := h
  obtain ⟨t, pt, rt⟩ := hbody cdv A outer s H E hr
  have q : ds.length = ps.length := by
    by_cases q : ds.length = ps.length
    · exact q
    · unfold runB at h; rw [if_neg q] at h; exact h.elim
  refine ⟨t, pt, rt ⟨H, B, [], fun _ => 0, fun _ => 0⟩ trivial B H _ _ _ (start_sto sm r (by omega)) ?_⟩
  unfold runB at h
  rw [if_pos q] at h
  rw [q]
  cases z : m (ds.map Sl.sh ++ List.replicate (N.length - ps.length) .no) with
  | nx e' => rw [z] at h; exact h.elim
  | rt d e' =>
    rw [z] at h
    refine fun v σ' B' H' S' _ ro => ?_
    obtain ⟨rs, rfl, p, ws, rfl, hp, hb, hg, no, rr⟩ := ro
    obtain ⟨a1, a2, a3, a4⟩ := S'.out
    exact h p ws B' H' a1 a2 a3 a4 hg hb hp rr
  | bk e' => rw [z] at h; exact h.elim
  | ct e' => rw [z] at h; exact h.elim
  | err x e' =>
    rw [z] at h
    exact fun c dd σ' B' H' S' _ xr => let ⟨a1, a2, a3, a4⟩ := S'.out; h c dd B' H' a1 a2 a3 a4 xr
  | bot => rw [z] at h; exact h.elim
/-- a promise of a better meaning -/
theorem spV_eq {fn fn' : List D → FR} (h : fn = fn') {f : Addr} {fd : FuncData} {k : Nat} {ps : List Str} (F : FnOk P w K mg base (L2.CX P w) k f fd ps (spV K mg fn)) : FnOk P w K mg base (L2.CX P w) k f fd ps (spV K mg fn') := h ▸ F
/-- the law's end -/
theorem law_ok {fn : List D → FR} (hfn : ∀ ns : List Int, ns.length ≤ 63 → fn [.lst (ns.map D.int)] = .ok (.bl true)) (H : Hp) (a : Addr) (ns : List Int) (hl : ns.length ≤ 63) (hS : SqL K H a (ns.map V.int)) : spV K mg fn [.ref a] H (fun v _ => v = .bl true) fun _ _ _ => False := by
  refine ⟨H, [.lst (ns.map D.int)], Same.refl H, .cons (.lst hS Rep.ints) .nil, ?_⟩
  rw [hfn ns hl]
  intro v B' H' _ _ _ _ r
  cases r
  rfl
end
end VL

/-! VL10: the text's defs by their names. -/
namespace VL
open PySem PySem.Spec PyProof.Rows L2
/-- every parameter is written -/
def Bnd (fd : FuncData) (ps : List Str) : Prop := ∀ (s : Shared) (us : List Value), us.length = ps.length → BindsTo s fd ⟨us, []⟩ (ps.zip us)
theorem Bnd.b {K : PySem.W.Frag} {fd : FuncData} {ps : List Str} (h : Bnd fd ps) : Binds K fd ps [] := fun s us _ hl => by
  rw [List.append_nil] at hl ⊢
  exact h s us hl
/-- a def of the top -/
def Def1 (K : PySem.W.Frag) (mg : Str → Option Value) (x : Str) (st : Stmt) (ps : List Str) : Prop := ∃ f fd, Fun K x x st f fd ∧ mg x = some (.ref f) ∧ Bnd fd ps
/-- a def and its promise -/
def Ok1 (P : Program) (w : World) (K : PySem.W.Frag) (mg : Str → Option Value) (x : Str) (ps : List Str) (k : Nat) (sp : Sp) : Prop :=
  ∃ f fd, mg x = some (.ref f) ∧ PySem.W.keepIn K (.ref f) = true ∧ Bnd fd ps ∧ ∀ base, FnOk P w K mg base (L2.CX P w) k f fd ps sp
section
variable {P : Program} {w : World} {K : PySem.W.Frag} {mg : Str → Option Value} {x : Str} {st : Stmt} {N ps : List Str} {k : Nat} {m : MS}
theorem Def1.V (d : Def1 K mg x st ps) (S : FnScope N ps (defScope st)) (hl : ps.length ≤ N.length)
    (hbody : ∀ (base : Heap) (f : Addr) (cdv : Value) (A : Around) (outer : List PySem.Env) (s : Shared) (H : Hp) (E : XK), Room k (A.deeper (envOfC x (defScope st) s.heap.objs.size f cdv)) →
      VSs (cxOf (L2.CX P w) P w K mg base N x (defScope st) f cdv A outer s H E) (Am.of K fun cls d _ H => E cls d H) .v (defBody st) m) : Ok1 P w K mg x ps (k + 1) (spV K mg (runB ps.length N.length m)) :=
  let ⟨f, fd, F, g, b⟩ := d; ⟨f, fd, g, F.kp, b, fun base => fn_V F S hl (hbody base f)⟩
theorem Def1.F (d : Def1 K mg x st ps) (S : FnScope N ps (defScope st)) (hl : ps.length ≤ N.length)
    (hbody : ∀ (base : Heap) (f : Addr) (cdv : Value) (A : Around) (outer : List PySem.Env) (s : Shared) (H : Hp) (E : XK), Room k (A.deeper (envOfC x (defScope st) s.heap.objs.size f cdv)) →
      VSs (cxOf (L2.CX P w) P w K mg base N x (defScope st) f cdv A outer s H E) (Am.of K fun cls d _ H => E cls d H) .f (defBody st) m) : Ok1 P w K mg x ps (k + 1) (spF K mg (runB ps.length N.length m)) :=
  let ⟨f, fd, F, g, b⟩ := d; ⟨f, fd, g, F.kp, b, fun base => fn_F F S hl (hbody base f)⟩
end
section
variable {ι : Type} {K : PySem.W.Frag} {mg : Str → Option Value} {X : ι → Cx} {W : Am K} {P : Program} {w : World} {base : Heap} {pos : Pos} {e : Expr} {es : List Expr} {ms : MA} {j k : Nat} {ps : List Str} {fn : List D → FR} {x : Str} {p : Pos}
theorem ve_cal (o : Ok1 P w K mg x ps j (spV K mg fn)) (hr : ∀ i, Room k (X i).A) (tk : ∀ i, Takes (X i) W.w) (ha : VA K mg X W (e :: es) ms) (hX : IsX X P w K mg base := by intro _; exact ⟨rfl, rfl, rfl, rfl, rfl⟩) (hj : j ≤ k := by decide) (hg : ∀ i, Gl (X i) x := by intro _; rfl) (hdb : (x == ("__debug__" : Str)) = false := by decide)
    (he : ∀ i, starEach (e :: es) (X i).env = (false, eval e (X i).env) :: starEach es (X i).env := by intro _; rfl) (hpl : ∀ i, (backTo pos (starEach es (X i).env)).any (·.1) = false := by intro _; rfl) : VE K mg X W (.Call (.Name x p) (e :: es) [] pos) (vCall fn ms) :=
  let ⟨_, _, g, kp, b, F⟩ := o; ve_call (F base) hX hr hj g kp b.b tk ha hg hdb he hpl
theorem vf_cal (o : Ok1 P w K mg x ps j (spF K mg fn)) (hr : ∀ i, Room k (X i).A) (tk : ∀ i, Takes (X i) W.w) (ha : VA K mg X W (e :: es) ms) (hX : IsX X P w K mg base := by intro _; exact ⟨rfl, rfl, rfl, rfl, rfl⟩) (hj : j ≤ k := by decide) (hg : ∀ i, Gl (X i) x := by intro _; rfl) (hdb : (x == ("__debug__" : Str)) = false := by decide)
    (he : ∀ i, starEach (e :: es) (X i).env = (false, eval e (X i).env) :: starEach es (X i).env := by intro _; rfl) (hpl : ∀ i, (backTo pos (starEach es (X i).env)).any (·.1) = false := by intro _; rfl) : VF K mg X W (.Call (.Name x p) (e :: es) [] pos) (vCallF fn ms) :=
  let ⟨_, _, g, kp, b, F⟩ := o; vf_call (F base) hX hr hj g kp b.b tk ha hg hdb he hpl
end
/-! ### the head -/
theorem Fun.of_funD {K : PySem.W.Frag} {x : Str} {st : Stmt} {f : Addr} {fd : FuncData} (F : FunD K x x (defArgs st) (defBody st) (defScope st) [] [] f fd) : Fun K x x st f fd := by
  obtain ⟨oc, od, dV, kV, doc, pm, an, cdv, ct, osl, rfl, lk, hcd, hd, _⟩ := F.ex
  have e : dV = .none := by
    rcases hd with ⟨_, e⟩ | ⟨h, _⟩
    · exact e
    · exact absurd rfl h
  subst e
  exact ⟨⟨oc, od, kV, doc, pm, an, cdv, ct, osl, rfl, lk, hcd⟩, F.kp⟩
abbrev defD (x : Str) (st : Stmt) : He.DefD := ⟨(x, none), x, x, defArgs st, defBody st, defScope st, [], []⟩
theorem def1_of {K : PySem.W.Frag} {h : Heap} {mg : Str → Option Value} {x : Str} {st : Stmt} {ps : List Str} (e : ∃ fd, FunD K x x (defArgs st) (defBody st) (defScope st) [] [] (He.fAd K (x, none)) fd) (X : K.In h) (G : h.Ns mainGlobals mg) (c : (He.Fa.glo x).ok K = true)
    (hb : ∀ (kV doc pm : Value) (an : Option Addr) (cdv ct : Value) (us : List Value), us.length = ps.length → bindArgs (PySem.W.fnOf x x (defArgs st) (defBody st) (defScope st) .none kV doc pm an cdv ct) ⟨us, []⟩ = pure (ps.zip us)) : Def1 K mg x st ps :=
  let ⟨fd, F⟩ := e; ⟨_, fd, Fun.of_funD F, He.glo_ok X G c, fun s us hl => F.bindsA hb s us hl⟩
theorem excCls_of {K : PySem.W.Frag} {h : Heap} {mg : Str → Option Value} {x : Str} (X : K.In h) (G : h.Ns mainGlobals mg) (g : (He.Fa.glo x).ok K = true) (c : (He.Fa.exc x).ok K = true) : ∃ C, ExcCls K mg x C :=
  let ⟨q, k, b, t⟩ := He.exc_ok c; ⟨_, ⟨He.glo_ok X G g, q, k, b, t⟩⟩
/-- the law's end -/
theorem law_walk {l : PySem.W.OpenLaw} {k : Nat} {q : Program} {lo : List Str} {XP : (Str → Option Value) → Heap → Prop} {YP : World → Heap → Prop} {d : DefRec} {x : Str} {fn : List D → FR} (hn : l.most = some 63) (hdf : d.params.defaults = []) (hna : d.name = ("law" : Str)) (hr : Room k callerA)
    (hfn : ∀ ns : List Int, ns.length ≤ 63 → fn [.lst (ns.map D.int)] = .ok (.bl true))
    (hY : ∀ (w : World) (mg : Str → Option Value) (h : Heap), YP w h → h.Ns mainGlobals mg → ∃ K : PySem.W.Frag, K.In h ∧ Ok1 l.prog w K mg "law" [x] k (spV K mg fn)) :
    PySem.W.WalkO q lo XP YP l.row.toRowW d [] (fun f vs => PySem.call f vs) :=
  Att.attach_call hn hdf fun w sa sb mg mb fa ob pm cd doc ad vals ns Gd Yd hob hdd hcd hmg hobj hints hlen hge => by
    obtain ⟨K, KX, f, fd, g, kp, b, F⟩ := hY w mg _ Yd Gd.T.g
    rw [hna] at hmg
    cases g.symm.trans hmg
    refine law_call KX Gd.T.g Gd.T.b Gd.T.builtins Gd.T.nolimit hge hobj hints (Nat.le_trans hlen (by decide)) hr (CX := L2.CX l.prog w)
      (fun base _ _ => F base) (fun s u => b s [u] rfl) (fun H hO hS => law_ok hfn H ad ns hlen hS) fun H e s' z => ?_
    obtain ⟨_, _, _, _, _, _, _, _, _, _, _, _, hE⟩ := z
    exact hE
end VL

/-! VL11: tokens; loops over own lists; try. -/
namespace VL
open PySem PySem.Spec PyProof.Rows L2
section
variable {K : PySem.W.Frag} {mg : Str → Option Value} {G : Gr} {B B' H H' : Hp} {σ σ' : L2.St} {e e' : Env} {i n : Nat} {p : Addr}
theorem clrTk_tk {m : Nat} : clrTk n (.tk m) = if m = n then .no else .tk m := rfl
theorem SlOk.owI {v : Option V} {b : Kd} {ds : List D} (h : SlOk K G B H v (.ow b ds)) : ∃ p o, v = some (.ref p) ∧ B p = none ∧ G.H p = none ∧ H p = some o ∧ OwR K B b o ds := by
  cases h with
  | ow a1 a2 a3 a4 a5 => exact ⟨_, _, rfl, a1, a2, a3, a4⟩
theorem SlOk.tkI {v : Option V} {m : Nat} (h : SlOk K G B H v (.tk m)) : v = some (.ref (G.tok m)) := by
  cases h
  rfl
theorem clr_get {s : Sl} (h : (clrE n e)[i]? = some s) : ∃ s0, e[i]? = some s0 ∧ s = clrTk n s0 := by
  unfold clrE at h
  rw [List.getElem?_map] at h
  cases z : e[i]? with
  | none => rw [z] at h; cases h
  | some s0 => rw [z] at h; cases h; exact ⟨s0, rfl, rfl⟩
theorem clr_len : (clrE n e).length = e.length := List.length_map ..
theorem own_clr {v : Option V} {s : Sl} {a : Addr} (h : OwnS H v (clrTk n s) a) : OwnS H v s a := by
  cases s with
  | tk m =>
    rw [clrTk_tk] at h
    by_cases q : m = n
    · rw [if_pos q] at h; exact h
    · rw [if_neg q] at h; exact h
  | _ => exact h
theorem Owned.clr {a : Addr} (h : Owned H σ (clrE n e) a) : Owned H σ e a := by
  obtain ⟨j, s, v, h1, h2, h3⟩ := h
  obtain ⟨s0, h0, rfl⟩ := clr_get h1
  exact ⟨j, s0, v, h0, h2, own_clr h3⟩
theorem SlOk.clrU {v : Option V} {s : Sl} (h : SlOk K (GT G n p) B H v s) : SlOk K G B H v (clrTk n s) := by
  cases h with
  | no => exact .no
  | sh r => exact .sh r
  | ow a b c d f => exact .ow a b c d f
  | tr t f => exact .tr t f
  | @tk m =>
    rw [clrTk_tk]
    by_cases q : m = n
    · rw [if_pos q]; exact .no
    · rw [if_neg q]
      have e : (GT G n p).tok m = G.tok m := if_neg q
      rw [e]
      exact .tk
theorem SlOk.clrD {v : Option V} {s : Sl} (h : SlOk K G B H v s) : SlOk K (GT G n p) B H v (clrTk n s) := by
  cases h with
  | no => exact .no
  | sh r => exact .sh r
  | ow a b c d f => exact .ow a b c d f
  | tr t f => exact .tr t f
  | @tk m =>
    rw [clrTk_tk]
    by_cases q : m = n
    · rw [if_pos q]; exact .no
    · rw [if_neg q]
      have e : G.tok m = (GT G n p).tok m := (if_neg q).symm
      rw [e]
      exact .tk
theorem Sto.untok (S : Sto K (GT G n p) B H σ e) : Sto K G B H σ (clrE n e) where
  len := by rw [clr_len]; exact S.len
  sl := fun j s h => by
    obtain ⟨s0, h0, rfl⟩ := clr_get h
    obtain ⟨v, hv, ok⟩ := S.sl j s0 h0
    exact ⟨v, hv, ok.clrU⟩
  dis := fun j k s t v w a h1 h2 h3 h4 h5 h6 => by
    obtain ⟨s0, q1, rfl⟩ := clr_get h1
    obtain ⟨t0, q2, rfl⟩ := clr_get h2
    exact S.dis j k s0 t0 v w a q1 q2 h3 h4 (own_clr h5) (own_clr h6)
  sub := S.sub
  b0 := S.b0
  keep := S.keep
  dom := S.dom
  new := S.new
  iom := S.iom
theorem Sto.tokAt (S : Sto K G B H σ (e.set i .no)) (hi : i < e.length) (hσ : σ[i]? = some (some (.ref p))) : Sto K (GT G n p) B H σ ((clrE n e).set i (.tk n)) where
  len := by
    have := S.len
    rw [List.length_set] at this ⊢
    rw [clr_len]; exact this
  sl := fun j s h => by
    by_cases q : i = j
    · subst q
      rw [List.getElem?_set_self (by rw [clr_len]; exact hi)] at h
      cases h
      have e1 : p = (GT G n p).tok n := (if_pos rfl).symm
      refine ⟨_, hσ, ?_⟩
      exact Eq.subst (motive := fun z => SlOk K (GT G n p) B H (some (.ref z)) (.tk n)) e1.symm .tk
    · rw [List.getElem?_set_ne q] at h
      obtain ⟨s0, h0, rfl⟩ := clr_get h
      obtain ⟨v, hv, ok⟩ := S.sl j s0 (by rw [List.getElem?_set_ne q]; exact h0)
      exact ⟨v, hv, ok.clrD⟩
  dis := fun j k s t v w a h1 h2 h3 h4 h5 h6 => by
    have n : ∀ {j s v}, ((clrE n e).set i (.tk n))[j]? = some s → OwnS H v s a → i ≠ j := fun {j s v} h1 h5 z => by
      subst z
      rw [List.getElem?_set_self (by rw [clr_len]; exact hi)] at h1
      cases h1
      exact h5
    have nj := n h1 h5
    have nk := n h2 h6
    rw [List.getElem?_set_ne nj] at h1
    rw [List.getElem?_set_ne nk] at h2
    obtain ⟨s0, q1, rfl⟩ := clr_get h1
    obtain ⟨t0, q2, rfl⟩ := clr_get h2
    exact S.dis j k s0 t0 v w a (by rw [List.getElem?_set_ne nj]; exact q1) (by rw [List.getElem?_set_ne nk]; exact q2) h3 h4 (own_clr h5) (own_clr h6)
  sub := S.sub
  b0 := S.b0
  keep := S.keep
  dom := S.dom
  new := S.new
  iom := S.iom
/-- the meaning as a wish -/
def canS (K : PySem.W.Frag) (mg : Str → Option Value) (W : Am K) (k : RK) (m : MS) : TS := fun D σ H => ∃ (G : Gr) (B : Hp) (e : Env), W.g G ∧ Sto K G B H σ e ∧ PoS K mg W k G B D (m e)
theorem rs_can {W : Am K} {k : RK} {m : MS} : RdS K mg W k (canS K mg W k m) m := fun G hG B H σ e D S h => ⟨G, B, e, hG, S, h⟩
end
theorem VSs.can {X : Cx} {W : Am X.K} {k : RK} {s : List Stmt} {m : MS} (h : VSs X W k s m) : PSs X s (canS X.K X.mg W k m) := by
  obtain ⟨t, p, r⟩ := h
  exact ⟨fun pins s σ H D I ⟨G, B, e, hG, S, q⟩ => p.run pins s σ H D I (r G hG B H σ e D S q)⟩
section
variable {K : PySem.W.Frag} {mg : Str → Option Value} {W : Am K} {k : RK}
/-- nobody's things elsewhere -/
theorem RetOk.mv {G G' : Gr} {B H : Hp} {σ σ' : L2.St} {e e' : Env} {v : V} {d : D} (h : RetOk K k G B H σ e v d) (hn : ∀ a, B a = none → G.H a = none → ¬ Owned H σ e a → G'.H a = none ∧ ¬ Owned H σ' e' a) : RetOk K k G' B H σ' e' v d := by
  cases k with
  | v => exact h
  | f =>
    obtain ⟨rs, rfl, q, vs, e1, e2, e3, e4, e5, e6⟩ := h
    exact ⟨rs, rfl, q, vs, e1, e2, e3, (hn q e3 e4 e5).1, (hn q e3 e4 e5).2, e6⟩
  | t s =>
    unfold RetOk at *
    dsimp only at *
    split
    · rename_i hf; rw [if_pos hf] at h; exact h
    · rename_i hf
      rw [if_neg hf] at h
      exact ⟨h.1, fun a r => let ⟨q1, q2, q3⟩ := h.2 a r; ⟨q1, hn a q1 q2 q3⟩⟩
theorem RetOk.clr {G : Gr} {B H : Hp} {σ : L2.St} {e : Env} {n : Nat} {p : Addr} {v : V} {d : D} (h : RetOk K k (GT G n p) B H σ e v d) : RetOk K k G B H σ (clrE n e) v d :=
  h.mv fun a _ h2 h3 => ⟨h2, fun q => h3 q.clr⟩
theorem reb_home {G : Gr} {B0 H0 : Hp} {σ0 : L2.St} {e0 : Env} (S : Sto K G B0 H0 σ0 e0) {a : Addr} (h : (reb G B0 H0 σ0 e0).H a = none) : G.H a = none := by
  by_cases q : OwnF H0 σ0 e0 a
  · exact (q.new S).1
  · rw [reb_no q] at h
    exact S.fresh h
theorem RetOk.unreb {G : Gr} {B0 H0 B H : Hp} {σ0 σ : L2.St} {e0 e : Env} {v : V} {d : D} (S : Sto K G B0 H0 σ0 e0) (h : RetOk K k (reb G B0 H0 σ0 e0) B H σ e v d) : RetOk K k G B H σ e v d :=
  h.mv fun a _ h2 h3 => ⟨reb_home S h2, h3⟩
/-- a loop over an own list that is left alone -/
theorem rs_forO {i n : Nat} {g : TG} {o : List Nat} {gm : D → Env → Option Env} {t : TS} {b : MS} (hn : n ≠ 0) (hg : RdG K o g gm) (hb : RdS K mg W k t b) : RdS K mg W k (tFor (iSeq K (tVar i)) g t) (vForO n i gm b) := fun G hG B H σ e D S h => by
  unfold vForO at h
  cases z : e[i]? with
  | none => rw [z] at h; exact h.elim
  | some s =>
    rw [z] at h
    cases s with
    | no => exact h.elim
    | sh d => exact h.elim
    | tk m => exact h.elim
    | tr _ _ => exact h.elim
    | ow b0 ds =>
      cases b0 with
      | d => exact h.elim
      | p _ => exact h.elim
      | l =>
        obtain ⟨v, hv, ok⟩ := S.sl i _ z
        cases ok with
        | @ow _ p _ _ hB hg0 hp hr hpin =>
          cases hr with
          | @lst vs _ hr =>
          have hi : i < e.length := (List.getElem?_eq_some_iff.mp z).1
          have S2 := S.lose i
          have npO : ¬ OwnF H σ (e.set i .no) p := S.lost z hv rfl
          have hRp : (reb G B H σ (e.set i .no)).H p = some (.lst vs) := (if_neg npO).trans hp
          have S3 := S2.reb
          have S4 := S3.tokAt (n := n) hi hv
          have hG4 : W.g (GT (reb G B H σ (e.set i .no)) n p) := W.gtk _ n p hn (W.reb G B H σ _ hG S2)
          have pio : p ∉ G.io := fun q => S.iom p q hg0
          refine ⟨.ref p, hv, .inl ⟨p, rfl, ⟨vs, SqL.of hp⟩, ?_⟩⟩
          have at' : ∀ {B' H' : Hp} {σ' : L2.St} {e' : Env}, Sto K (GT (reb G B H σ (e.set i .no)) n p) B' H' σ' e' → H' p = some (.lst vs) := fun S' => S'.keep p _ hRp pio
          dsimp only at h
          have key : PoS K mg W k (GT (reb G B H σ (e.set i .no)) n p) B D (forL gm b ds ((clrE n e).set i (.tk n))) := by
            cases r : forL gm b ds ((clrE n e).set i (.tk n)) with
            | nx e1 =>
              rw [r] at h
              intro σ' B' H' S' sB
              cases z1 : e1[i]? with
              | none => simp only [z1] at h; exact h.elim
              | some s1 =>
                cases s1 with
                | no => simp only [z1] at h; exact h.elim
                | sh d => simp only [z1] at h; exact h.elim
                | ow b1 d1 => simp only [z1] at h; exact h.elim
                | tr _ _ => simp only [z1] at h; exact h.elim
                | tk m =>
                  simp only [z1] at h
                  by_cases hm : m = n
                  · rw [if_pos hm] at h
                    subst hm
                    obtain ⟨v1, hv1, ok1⟩ := S'.sl i _ z1
                    have e2 : v1 = some (.ref p) := by
                      rw [ok1.tkI]
                      have : (GT (reb G B H σ (e.set i .no)) m p).tok m = p := if_pos rfl
                      rw [this]
                    subst e2
                    have hp' := at' S'
                    have bp' : B' p = none := by
                      cases q : B' p with
                      | none => rfl
                      | some o =>
                        exfalso
                        rcases S'.new p (by rw [q]; simp) with w | w
                        · exact w hB
                        · have w : (reb G B H σ (e.set i .no)).H p = none := w
                          rw [hRp] at w; cases w
                    have noO : ¬ Owned H' σ' e1 p := fun q => by
                      have w : (reb G B H σ (e.set i .no)).H p = none := (S'.apart q).2.1
                      rw [hRp] at w; cases w
                    have U := Sto.unreb S2 S'.untok
                    have P := U.put i (v := .ref p) (s := .ow .l ds) (.ow bp' hg0 hp' (.lst (hr.mono sB)) (fun _ z => nomatch z)) (fun a h q => by
                      have h : some (V.ref p) = some (V.ref a) := h
                      cases h
                      exact noO q.of_lose.clr)
                    have eσ : σ'.set i (some (.ref p)) = σ' := by
                      refine List.ext_getElem? fun j => ?_
                      by_cases q : i = j
                      · subst q
                        rw [List.getElem?_set_self (List.getElem?_eq_some_iff.mp hv1).1, hv1]
                      · rw [List.getElem?_set_ne q]
                    rw [eσ] at P
                    exact h σ' B' H' P sB
                  · rw [if_neg hm] at h; exact h.elim
            | rt d e1 =>
              rw [r] at h
              intro v σ' B' H' S' sB ro
              exact h v σ' B' H' (Sto.unreb S2 S'.untok) sB (RetOk.unreb S2 ro.clr)
            | err x e1 =>
              rw [r] at h
              intro c dd σ' B' H' S' sB xr
              exact h c dd σ' B' H' (Sto.unreb S2 S'.untok) sB xr
            | bk e1 => rw [r] at h; exact h.elim
            | ct e1 => rw [r] at h; exact h.elim
            | bot => rw [r] at h; exact h.elim
          refine ⟨fun j m σ' H' => m = ds.length - j ∧ ∃ e' B', Sto K (GT (reb G B H σ (e.set i .no)) n p) B' H' σ' e' ∧ Same B B' ∧ PoS K mg W k (GT (reb G B H σ (e.set i .no)) n p) B D (forL gm b (ds.drop j) e'), ⟨_, rfl, _, B, S4, Same.refl B, key⟩, ?_⟩
          rintro j m σ2 H2 ⟨rfl, e2, B2, S', s2, h2⟩
          have hq : SqL K H2 p vs := SqL.of (at' S')
          have lv := hr.length
          cases zj : ds[j]? with
          | none =>
            have hl : ds.length ≤ j := List.getElem?_eq_none_iff.mp zj
            rw [List.drop_eq_nil_of_le hl] at h2
            exact .inl ⟨⟨vs, hq, by omega⟩, (PoS.base s2 h2).nx S'⟩
          | some d =>
            have hl : j < ds.length := (List.getElem?_eq_some_iff.mp zj).1
            have hd : ds.drop j = d :: ds.drop (j + 1) := by
              rw [List.drop_eq_getElem_cons hl]
              have : ds[j] = d := (List.getElem?_eq_some_iff.mp zj).2
              rw [this]
            rw [hd] at h2
            obtain ⟨v, hvj, rv⟩ := hr.get zj
            refine .inr ⟨⟨vs, v, hq, hvj⟩, fun σ' H' => ∃ e' B', Sto K (GT (reb G B H σ (e.set i .no)) n p) B' H' σ' e' ∧ Same B B' ∧ PoS K mg W k (GT (reb G B H σ (e.set i .no)) n p) B D (forL gm b (ds.drop (j + 1)) e'), fun σ' H' ⟨e', B', q1, q2, q3⟩ => ⟨ds.length - (j + 1), by omega, rfl, e', B', q1, q2, q3⟩, fun x H3 hy => ?_⟩
            obtain ⟨eH, hx⟩ := hy
            subst eH
            have ex := hx vs hq
            rw [hvj] at ex
            cases ex
            unfold forL at h2
            cases w : gm d e2 with
            | none => rw [w] at h2; exact h2.elim
            | some e3 =>
              rw [w] at h2
              refine hg _ B2 _ σ2 e2 e3 v d _ S' (rv.mono s2) w fun σ4 S4' _ => ?_
              refine hb _ hG4 B2 _ σ4 e3 _ S4' ?_
              cases q : b e3 with
              | nx e4 => simp only [q] at h2; exact fun σ' B' H' S'' s' => ⟨e4, B', S'', s2.trans s', h2⟩
              | ct e4 => simp only [q] at h2; exact fun σ' B' H' S'' s' => ⟨e4, B', S'', s2.trans s', h2⟩
              | bk e4 => simp only [q] at h2; exact fun σ' B' H' S'' s' => h2 σ' B' H' S'' (s2.trans s')
              | rt d e4 => simp only [q] at h2; exact fun v σ' B' H' S'' s' => h2 v σ' B' H' S'' (s2.trans s')
              | err x e4 => simp only [q] at h2; exact fun c dd σ' B' H' S'' s' => h2 c dd σ' B' H' S'' (s2.trans s')
              | bot => simp only [q] at h2; exact h2
end
/-! ### a loop over an own list, try -/
section
variable {X : Cx} {W : Am X.K} {k : RK} {pos p : Pos} {x : Str} {tg : Expr} {body : List Stmt} {mm : MS}
theorem vs_forO {o : List Nat} {g : D → Env → Option Env} (n i : Nat) (hp : PassesOwn (model X.prog X.w) X.A X.env X.xe) (hc : X.calm = true) (hg : VG X.K (at1 X) o tg g) (hb : VSs X W k body mm) (hn : n ≠ 0 := by decide) (hN : X.N[i]? = some x := by rfl) (hv : Vis X.env.scope x := by first | exact Or.inl rfl | exact Or.inr (Or.inl rfl) | exact Or.inr (Or.inr rfl)) (hd : (x == ("__debug__" : Str)) = false := by decide)
    (hcd : (x == ("__classdict__" : Str)) = false := by decide) (hs : ∀ z, foldedSetIterable (.Name x p) X.env z = pure z := by intro _; rfl) : VS X W k (.For tg (.Name x p) body [] pos) (vForO n i g mm) :=
  let ⟨_, p', r'⟩ := hg; let ⟨_, p2, r2⟩ := hb; ⟨_, ps_for hp hc (pi_seq (pe_var hN hv hd hcd)) (p' ()) p2 hs, rs_forO hn r' r2⟩
/-- the text's classes of errors, and which takes which -/
structure ExT (K : PySem.W.Frag) (mg : Str → Option Value) (names : List Str) (anc : Str → Str → Bool) (bi : List String) : Prop where
  top : ∀ y ∈ names, ∃ C, mg y = some (.ref C)
  exm : ∀ x ∈ names, ∀ y ∈ names, ∀ C D, mg x = some (.ref C) → mg y = some (.ref D) → PySem.W.exmOne K (.ref C) (.ref D) = some (anc x y)
  isi : ∀ x ∈ names, ∀ y ∈ names, ∀ C D, mg x = some (.ref C) → mg y = some (.ref D) → PySem.W.kitOne K (.ref C) (.ref D) = some (anc x y)
  isB : ∀ x ∈ names, ∀ t ∈ bi, ∀ C, mg x = some (.ref C) → PySem.W.kitOne K (.ref C) (.type t) = some (anc x t)
  cls : ∀ x ∈ names, ∀ C, mg x = some (.ref C) → ExcC K C
/-- within an except's suite: the error stands at a, nothing is raised -/
def Am.ex (K : PySem.W.Frag) (a : Addr) : Am K := ⟨fun _ _ _ _ => False, fun G => G.tok 0 = a, fun _ _ _ _ _ h _ => h, fun _ _ _ _ _ h _ => h, fun G n p hn h => (if_neg (Ne.symm hn)).trans h, fun _ _ _ _ h => h, fun _ _ _ h => h⟩
end
section
variable {K : PySem.W.Frag} {mg : Str → Option Value} {W : Am K} {k : RK} {names : List Str} {anc : Str → Str → Bool} {bi : List String} {i : Nat} {y : Str} {m : MS} {h : Str → MS}
theorem Owned.drop {H : Hp} {σ : L2.St} {e : Env} {i : Nat} {o : Option V} {a : Addr} (h : Owned H (σ.set i o) (e.set i .no) a) : Owned H σ e a := by
  obtain ⟨j, s, v, h1, h2, h3⟩ := h
  by_cases z : i = j
  · subst z
    have hl := (List.getElem?_eq_some_iff.mp h1).1
    rw [List.length_set] at hl
    rw [List.getElem?_set_self hl] at h1
    cases h1
    exact h3.elim
  · rw [List.getElem?_set_ne z] at h1 h2
    exact ⟨j, s, v, h1, h2, h3⟩
theorem ow_post {G : Gr} {B H : Hp} {σ : L2.St} {e : Env} {n i : Nat} {v : V} {d : D} (r : RetOk K k G B H σ e v d) (o : Option V) : RetOk K k G B H (σ.set i o) (e.set i .no) v d :=
  r.mv fun a _ h2 h3 => ⟨h2, fun q => h3 q.drop⟩
/-- behind a token's time -/
theorem PoS.post {a : Addr} {G : Gr} {B : Hp} {D : Ends} {r : RS} (hi : True) (q : PoS K mg W k G B D (r.post 0 i .no)) :
    PoS K mg (Am.ex K a) k (GT G 0 a) B { nx := fun σ' H' => D.nx (σ'.set i none) H', rt := D.rt, bk := fun σ' H' => D.bk (σ'.set i none) H', ct := fun σ' H' => D.ct (σ'.set i none) H' } r := by
  cases r with
  | nx e' => exact fun σ' B' H' S' s => q (σ'.set i none) B' H' (S'.untok.drop i none) s
  | bk e' => exact fun σ' B' H' S' s => q (σ'.set i none) B' H' (S'.untok.drop i none) s
  | ct e' => exact fun σ' B' H' S' s => q (σ'.set i none) B' H' (S'.untok.drop i none) s
  | rt d e' => exact fun v σ' B' H' S' s ro => q v (σ'.set i none) B' H' (S'.untok.drop i none) s (ow_post (n := 0) ro.clr none)
  | err x e' => exact q.elim
  | bot => exact q.elim
theorem rs_tryAs {c : Addr} (T : ExT K mg names anc bi) (hy : y ∈ names) (hD : mg y = some (.ref c)) : RdS K mg W k (fun D σ H => canS K mg (W.to (wAs K (.ref c) i (fun a cls d D σ H => ∃ x, x ∈ names ∧ mg x = some cls ∧ d = none ∧ canS K mg (Am.ex K a) k (h x) D σ H) W.w D)) k m D σ H)
    (vTryAs names anc y i m h) := fun G hG B H σ e D S q => by
  refine ⟨G, B, e, hG, S, ?_⟩
  unfold vTryAs at q
  cases r : m e with
  | nx e' => simp only [r] at q; exact q
  | rt d e' => simp only [r] at q; exact q
  | bk e' => simp only [r] at q; exact q
  | ct e' => simp only [r] at q; exact q
  | bot => simp only [r] at q; exact q.elim
  | err x e1 =>
    simp only [r] at q
    intro cls dd σ' B' H' S' s xr
    obtain ⟨C, h1, h2, h3⟩ := xr
    cases xv : x.val with
    | some p => simp only [xv] at q; exact q.elim
    | none =>
      simp only [xv] at q h3
      subst h2 h3
      by_cases hx : x.cls ∈ names
      · rw [if_pos hx] at q
        refine ⟨anc x.cls y, T.exm x.cls hx y hy C c h1 hD, fun hb a ha => ?_, fun hb => ?_⟩
        · rw [if_pos hb] at q
          refine ⟨x.cls, hx, h1, rfl, GT G 0 a, B', (clrE 0 e1).set i (.tk 0), show (if (0 : Nat) = 0 then a else G.tok 0) = a from if_pos rfl, ?_, PoS.post trivial (PoS.base s q)⟩
          by_cases hi : i < e1.length
          · exact (S'.drop i (some (.ref a))).tokAt hi (List.getElem?_set_self (by rw [S'.len]; exact hi))
          · have z1 : (clrE 0 e1).set i (.tk 0) = clrE 0 e1 := List.set_eq_of_length_le (by rw [clr_len]; omega)
            have z2 : σ'.set i (some (.ref a)) = σ' := List.set_eq_of_length_le (by rw [S'.len]; omega)
            rw [z1, z2]
            exact (Sto.untok (G := GT G 0 a) (n := 0) (p := G.tok 0) (by
              have e2 : GT (GT G 0 a) 0 (G.tok 0) = G := by
                unfold GT
                cases G
                simp only [Gr.mk.injEq, true_and, and_true]
                funext m
                by_cases hm : m = 0
                · simp [hm]
                · simp [hm]
              rw [e2]
              exact S'))
        · rw [if_neg (by rw [hb]; exact Bool.false_ne_true)] at q
          exact q (.ref C) none σ' B' H' S' s ⟨C, h1, rfl, by rw [xv]⟩
      · rw [if_neg hx] at q; exact q.elim
end
section
variable {X : Cx} {W : Am X.K} {k : RK} {pos np pos' : Pos} {n y : Str} {body suite : List Stmt} {b₀ : Stmt} {m : MS} {h : Str → MS} {names : List Str} {anc : Str → Str → Bool} {bi : List String}
theorem vs_tryAs (T : ExT X.K X.mg names anc bi) (i : Nat) (hs : X.stack = X.env :: X.outer) (hf : X.env.frame = some X.env.locals) (hN : X.N.Nodup) (tk : Takes X W.w)
    (hb : ∀ (Wx : WX) (pn : List (Addr × Obj)) (xe : Value → Shared → Prop), Takes (X.tr pn xe) Wx → PassesOwn (model X.prog X.w) X.A X.env xe → VSs (X.tr pn xe) (W.to Wx) k body m)
    (hsu : ∀ c, c ∈ names → ∀ (a : Addr) (oe : Obj) (C : Addr) (pn : List (Addr × Obj)), X.mg c = some (.ref C) → Zc (.ref C) none oe → (∃ vs, oe.data = .fields vs) → VSs (X.suite a ((a, oe) :: pn)) (Am.ex X.K a) k (b₀ :: suite) (h c))
    (hy : y ∈ names := by decide +kernel) (hi : X.N[i]? = some n := by rfl) (hln : X.env.kindOf n = some .local := by rfl) (hg : Gl X y := by rfl) (hdb : (y == ("__debug__" : Str)) = false := by decide) :
    VS X W k (.Try body [.ExceptHandler (some (.Name y np)) (some n) (b₀ :: suite) pos'] [] [] pos) (vTryAs names anc y i m h) := by
  obtain ⟨D, hD⟩ := T.top y hy
  refine ⟨_, ps_try_as (tb := fun Wx => canS X.K X.mg (W.to Wx) k m) (ts := fun a cls d D σ H => ∃ x, x ∈ names ∧ X.mg x = some cls ∧ d = none ∧ canS X.K X.mg (Am.ex X.K a) k (h x) D σ H) hs hf hN hi hln ⟨hg, hdb, .inl hD⟩ tk (fun Wx pn xe t p => (hb Wx pn xe t p).can) (fun a oe cls d pn hz hfl => ⟨fun pins s σ H D I ⟨c, hc, e1, e2, q⟩ => ?_⟩), rs_tryAs T hy hD⟩
  obtain ⟨C, hC⟩ := T.top c hc
  rw [hC] at e1
  cases e1
  subst e2
  exact (hsu c hc a oe C pn hC hz hfl).can.run pins s σ H D I q
end
/-- isinstance(e, y) of the error in hand -/
theorem ve_isE {X : Cx} {a C : Addr} {oe : Obj} {pn : List (Addr × Obj)} {c e y : Str} {pos p p1 p2 : Pos} {names : List Str} {anc : Str → Str → Bool} {bi : List String} (T : ExT X.K X.mg names anc bi) (hc : c ∈ names) (hC : X.mg c = some (.ref C)) (hz : Zc (.ref C) none oe) (hf : ∃ vs, oe.data = .fields vs) (i : Nat) (hm : X.mg "isinstance" = none)
    (hy : y ∈ names := by decide +kernel) (hN : X.N[i]? = some e := by rfl) (hv : Vis X.env.scope e := by first | exact Or.inl rfl | exact Or.inr (Or.inl rfl) | exact Or.inr (Or.inr rfl)) (hd : (e == ("__debug__" : Str)) = false := by decide) (hcd : (e == ("__classdict__" : Str)) = false := by decide) (hgy : Gl X y := by rfl) (hdy : (y == ("__debug__" : Str)) = false := by decide)
    (hb : bootBuiltins "isinstance" = some (.builtin "isinstance") := by decide +kernel) (hg : Gl X "isinstance" := by rfl) (he : starEach [.Name e p1, .Name y p2] X.env = (false, eval (.Name e p1) X.env) :: starEach [.Name y p2] X.env := by rfl) (he2 : starEach [(.Name y p2 : Expr)] X.env = (false, eval (.Name y p2) X.env) :: starEach [] X.env := by rfl)
    (hpl : (backTo pos (starEach [(.Name y p2 : Expr)] X.env)).any (·.1) = false := by rfl) : VE X.K X.mg (at1 (X.suite a ((a, oe) :: pn))) (Am.ex X.K a) (.Call (.Name "isinstance" p) [.Name e p1, .Name y p2] [] pos) (vIsE i (anc c y)) := by
  obtain ⟨D, hD⟩ := T.top y hy
  refine ⟨tCB (rIsE X.K C a) (tCons (tVar i) (tCons (tC (.ref D)) tNil)), fun _ => pe_callB (call_isE (X := X) (T.cls c hc C hC) hz hf) hg hm hb (pa_cons (pe_var hN hv hd hcd) (pa_cons (pe_glob hgy hD rfl hdy) pa_nil he2) he) (by decide) (by decide) he hpl, ⟨fun G hG B H σ e Q S q => ?_⟩⟩
  unfold vIsE at q
  cases z : e[i]? with
  | none => rw [z] at q; exact q.elim
  | some s =>
    cases s with
    | tk t =>
      cases t with
      | succ t => rw [z] at q; exact q.elim
      | zero =>
        simp only [z] at q
        obtain ⟨v, hv', ok⟩ := S.sl i _ z
        have e1 := ok.tkI
        have hG : G.tok 0 = a := hG
        rw [hG] at e1
        subst e1
        exact ⟨_, hv', .ref D, .ref D, anc c y, rfl, fun u r => by cases r; rfl, T.isi c hc y hy C D hC hD, Po.here q S (.bl _)⟩
    | no => rw [z] at q; exact q.elim
    | sh d => rw [z] at q; exact q.elim
    | ow b d => rw [z] at q; exact q.elim
    | tr _ _ => rw [z] at q; exact q.elim
theorem ve_isEB {X : Cx} {a C : Addr} {oe : Obj} {pn : List (Addr × Obj)} {c e : Str} {t : String} {y : Str} {pos p p1 p2 : Pos} {names : List Str} {anc : Str → Str → Bool} {bi : List String} (T : ExT X.K X.mg names anc bi) (hc : c ∈ names) (hC : X.mg c = some (.ref C)) (hz : Zc (.ref C) none oe) (hf : ∃ vs, oe.data = .fields vs) (i : Nat) (hm : X.mg "isinstance" = none) (hmy : X.mg y = none) (hby : bootBuiltins y = some (.type t))
    (hy : t ∈ bi := by decide +kernel) (hN : X.N[i]? = some e := by rfl) (hv : Vis X.env.scope e := by first | exact Or.inl rfl | exact Or.inr (Or.inl rfl) | exact Or.inr (Or.inr rfl)) (hd : (e == ("__debug__" : Str)) = false := by decide) (hcd : (e == ("__classdict__" : Str)) = false := by decide) (hgy : Gl X y := by rfl) (hdy : (y == ("__debug__" : Str)) = false := by decide) (hny : y ≠ "__name__" := by decide)
    (hb : bootBuiltins "isinstance" = some (.builtin "isinstance") := by decide +kernel) (hg : Gl X "isinstance" := by rfl) (he : starEach [.Name e p1, .Name y p2] X.env = (false, eval (.Name e p1) X.env) :: starEach [.Name y p2] X.env := by rfl) (he2 : starEach [(.Name y p2 : Expr)] X.env = (false, eval (.Name y p2) X.env) :: starEach [] X.env := by rfl)
    (hpl : (backTo pos (starEach [(.Name y p2 : Expr)] X.env)).any (·.1) = false := by rfl) : VE X.K X.mg (at1 (X.suite a ((a, oe) :: pn))) (Am.ex X.K a) (.Call (.Name "isinstance" p) [.Name e p1, .Name y p2] [] pos) (vIsE i (anc c t)) := by
  refine ⟨tCB (rIsE X.K C a) (tCons (tVar i) (tCons (tC (.ty t)) tNil)), fun _ => pe_callB (call_isE (X := X) (T.cls c hc C hC) hz hf) hg hm hb (pa_cons (pe_var hN hv hd hcd) (pa_cons (pe_bltn (v := .ty t) hgy hmy hby rfl hny hdy) pa_nil he2) he) (by decide) (by decide) he hpl, ⟨fun G hG B H σ e Q S q => ?_⟩⟩
  unfold vIsE at q
  cases z : e[i]? with
  | none => rw [z] at q; exact q.elim
  | some s =>
    cases s with
    | tk n =>
      cases n with
      | succ n => rw [z] at q; exact q.elim
      | zero =>
        simp only [z] at q
        obtain ⟨v, hv', ok⟩ := S.sl i _ z
        have e1 := ok.tkI
        have hG : G.tok 0 = a := hG
        rw [hG] at e1
        subst e1
        exact ⟨_, hv', .ty t, .type t, anc c t, rfl, fun u r => by cases r; rfl, T.isB c hc t hy C hC, Po.here q S (.bl _)⟩
    | no => rw [z] at q; exact q.elim
    | sh d => rw [z] at q; exact q.elim
    | ow b d => rw [z] at q; exact q.elim
    | tr _ _ => rw [z] at q; exact q.elim
/-! ### the head: facts of one's own -/
def hookX (n : Nat) (fa : List He.Fa) (fn : List He.DefD) (fx : PySem.W.Frag → Bool) : PySem.W.Hook where
  α := He.AlD × Bool
  obs := fun s => (He.obsD fa fn (He.frG s.heap.get? (He.asD s.heap.get? n)), fx (He.frG s.heap.get? (He.asD s.heap.get? n)))
  val := fun _ => (He.valD fn, true)
  says := fun _ h => ∃ K : PySem.W.Frag, K.In h ∧ He.SaysD fa fn K ∧ fx K = true
  of := fun w s q => ⟨He.frG s.heap.get? (He.asD s.heap.get? n), He.frG_in, (Prod.mk.inj q).1, (Prod.mk.inj q).2⟩
  keeps := fun w h h' z k => let ⟨K, hK, c, d⟩ := z; ⟨K, PySem.W.Frag.In.keeps hK k, c, d⟩
def obX (n : Nat) (fa : List He.Fa) (fn : List He.DefD) (fx : PySem.W.Frag → Bool) (g : Addr → Option Obj) : He.AlD × Bool := (He.obsD fa fn (He.frG g (He.asD g n)), fx (He.frG g (He.asD g n)))
theorem obX_eq {n : Nat} {fa : List He.Fa} {fn : List He.DefD} {fx : PySem.W.Frag → Bool} {g : Addr → Option Obj} {s : Shared} (h : ∀ a, g a = s.heap.get? a) : obX n fa fn fx g = (hookX n fa fn fx).obs s := by
  cases (funext h : g = s.heap.get?)
  exact rfl
def excCB (K : PySem.W.Frag) (D : Addr) : Bool := decide (PySem.W.findIn K (.ref D) "__getattribute__" = some (some (.builtin "BaseException.__getattribute__"))) && (decide (PySem.W.findIn K (.ref D) "__getattr__" = some none) && (decide (PySem.W.subIn K (.ref D) (.type "BaseException") = some true) && (PySem.W.hasDictIn K D &&
  (decide (PySem.W.findIn K (.ref D) "__class__" = some (some (.builtin "object.__class__"))) && (decide (PySem.W.specialIn K (.builtin "object.__class__") "__get__" = some (some (.builtin "getset_descriptor.__get__"))) && (decide (PySem.W.takesIn K (.builtin "object.__class__") = some true) && decide (PySem.W.mroIn K D (.type "object") = some true)))))))
theorem excCB_ok {K : PySem.W.Frag} {D : Addr} (h : excCB K D = true) : ExcC K D := by
  unfold excCB at h
  simp only [Bool.and_eq_true, decide_eq_true_eq] at h
  obtain ⟨h1, h2, h3, h4, h5, h6, h7, h8⟩ := h
  exact ⟨h1, h2, h3, h4, h5, h6, h7, h8⟩
def exOk (names : List Str) (anc : Str → Str → Bool) (bi : List String) (K : PySem.W.Frag) : Bool := names.all fun x => (He.Fa.glo x).ok K && (excCB K (He.ga K x) &&
  ((names.all fun y => decide (PySem.W.exmOne K (.ref (He.ga K x)) (.ref (He.ga K y)) = some (anc x y)) && decide (PySem.W.kitOne K (.ref (He.ga K x)) (.ref (He.ga K y)) = some (anc x y))) && (bi.all fun t => decide (PySem.W.kitOne K (.ref (He.ga K x)) (.type t) = some (anc x t)))))
theorem exT_of {K : PySem.W.Frag} {h : Heap} {mg : Str → Option Value} {names : List Str} {anc : Str → Str → Bool} {bi : List String} (X : K.In h) (G : h.Ns mainGlobals mg) (c : exOk names anc bi K = true) : ExT K mg names anc bi := by
  unfold exOk at c
  rw [List.all_eq_true] at c
  have one : ∀ x ∈ names, (He.Fa.glo x).ok K = true ∧ excCB K (He.ga K x) = true ∧ (∀ y ∈ names, PySem.W.exmOne K (.ref (He.ga K x)) (.ref (He.ga K y)) = some (anc x y) ∧ PySem.W.kitOne K (.ref (He.ga K x)) (.ref (He.ga K y)) = some (anc x y)) ∧ ∀ t ∈ bi, PySem.W.kitOne K (.ref (He.ga K x)) (.type t) = some (anc x t) := fun x hx => by
    have q := c x hx
    simp only [Bool.and_eq_true, List.all_eq_true, decide_eq_true_eq] at q
    exact ⟨q.1, q.2.1, q.2.2.1, q.2.2.2⟩
  have at' : ∀ x ∈ names, ∀ C, mg x = some (.ref C) → C = He.ga K x := fun x hx C hC => by
    have e := (He.glo_ok X G (one x hx).1).symm.trans hC
    cases e
    rfl
  exact ⟨fun y hy => ⟨_, He.glo_ok X G (one y hy).1⟩, fun x hx y hy C D hC hD => by rw [at' x hx C hC, at' y hy D hD]; exact ((one x hx).2.2.1 y hy).1,
    fun x hx y hy C D hC hD => by rw [at' x hx C hC, at' y hy D hD]; exact ((one x hx).2.2.1 y hy).2, fun x hx t ht C hC => by rw [at' x hx C hC]; exact (one x hx).2.2.2 t ht, fun x hx C hC => by rw [at' x hx C hC]; exact excCB_ok (one x hx).2.1⟩
/-! ### what a module's name stands for -/
def GCon (K : PySem.W.Frag) (mg : Str → Option Value) (x : Str) (d : D) : Prop := ∃ (v : V) (u : Value), mg x = some u ∧ RelV v u ∧ ∀ B, Rep K B v d
theorem ve_con {ι : Type} {K : PySem.W.Frag} {mg : Str → Option Value} {X : ι → Cx} {W : Am K} {pos : Pos} {x : Str} {d : D} (h : GCon K mg x d) (hm : ∀ j, (X j).mg = mg := by intro _; rfl) (hg : ∀ j, Gl (X j) x := by intro _; rfl) (hd : (x == ("__debug__" : Str)) = false := by decide) : VE K mg X W (.Name x pos) (vC d) :=
  let ⟨_, _, e, r, rd⟩ := h; ve_glob (fun j => by rw [hm j]; exact e) r rd hg hd
/-- plain values of a tuple -/
def dvD : He.Dv → Option D
  | .non => some .non
  | .bl b => some (.bl b)
  | .int i => some (.int i)
  | .str x => some (.str x)
  | _ => none
theorem dvs_rep {K : PySem.W.Frag} {B : Hp} : ∀ {vs : List He.Dv} {ds : List D}, vs.map dvD = ds.map some → Reps K B (vs.map (He.Dv.v K)) ds
  | [], [], _ => .nil
  | [], d :: ds, h => by cases h
  | v :: vs, [], h => by cases h
  | v :: vs, d :: ds, h => by
    rw [List.map_cons, List.map_cons] at h
    have h1 : dvD v = some d := (List.cons.inj h).1
    refine .cons ?_ (dvs_rep (List.cons.inj h).2)
    cases v <;> first | (cases h1; constructor) | cases h1
theorem gcon_tup {K : PySem.W.Frag} {h : Heap} {mg : Str → Option Value} {x : Str} {vs : List He.Dv} {ds : List D} (X : K.In h) (G : h.Ns mainGlobals mg) (c : ((He.Fa.glo x).ok K && He.tupB K x vs) = true) (e : vs.map dvD = ds.map some) : GCon K mg x (.tup ds) := by
  obtain ⟨c1, c2⟩ := He.ba c
  exact ⟨.ref (He.ga K x), .ref (He.ga K x), He.glo_ok X G c1, rfl, fun B => .tup (He.tupB_ok c2 B) (dvs_rep e)⟩
theorem gcon_int {K : PySem.W.Frag} {h : Heap} {mg : Str → Option Value} {x : Str} {i : Int} (X : K.In h) (G : h.Ns mainGlobals mg) (c : (He.Fa.int x i).ok K = true) : GCon K mg x (.int i) :=
  let ⟨t, e⟩ := He.int_ok X G c; ⟨.int i, _, e, ⟨t, rfl⟩, fun _ => .int i⟩
theorem gcon_str {K : PySem.W.Frag} {h : Heap} {mg : Str → Option Value} {x z : Str} (X : K.In h) (G : h.Ns mainGlobals mg) (c : (He.Fa.str x z).ok K = true) : GCon K mg x (.str z) :=
  let ⟨t, e⟩ := He.str_ok X G c; ⟨.str z, _, e, ⟨t, rfl⟩, fun _ => .str z⟩
/-! ### displays of dicts -/
section
variable {K : PySem.W.Frag} {mg : Str → Option Value} {W : Am K}
def rpP (K : PySem.W.Frag) : RP (List (D × D)) (List (V × V)) := fun _ B _ _ _ vs ds => Reps K B (vs.map (·.1)) (ds.map (·.1)) ∧ Reps K B (vs.map (·.2)) (ds.map (·.2))
theorem rd_pnil : RdX K mg W (rpP K) (tPairs []) vPN where
  run := fun G hG B H σ e Q S h => Po.here h S ⟨.nil, .nil⟩
theorem rd_pcons {tk tv : TE} {trs : List (TE × TE)} {mk mv : ME} {r : MQ} (hk : RdE K mg W tk mk) (hv : RdE K mg W tv mv) (hr : RdX K mg W (rpP K) (tPairs trs) r) : RdX K mg W (rpP K) (tPairs ((tk, tv) :: trs)) (vPC mk mv r) where
  run := fun G hG B H σ e Q S h => by
    refine hk.run G hG B H σ e _ S (Po.bind h fun x e1 v1 B1 H1 S1 s1 r1 h1 => ?_)
    refine hv.run G hG B1 H1 σ e1 _ S1 (Po.bind h1 fun y e2 v2 B2 H2 S2 s2 r2 h2 => ?_)
    refine hr.run G hG B2 H2 σ e2 _ S2 (Po.bind h2 fun ps e3 vs B3 H3 S3 s3 r3 h3 => ?_)
    have a1 : Rep K B1 v1 x := r1
    have a2 : Rep K B2 v2 y := r2
    exact Po.here h3 S3 ⟨.cons ((a1.mono s2).mono s3) r3.1, .cons (a2.mono s3) r3.2⟩
theorem keys_rep {B : Hp} : ∀ {ps : List (V × V)} {ds : List D} {ks : List Ky}, Reps K B (ps.map (·.1)) ds → keysD ds = some ks → ∃ kvs : List (Key × V), ps = kvs.map (fun kv => (kV kv.1, kv.2)) ∧ kvs.map (·.1) = ks ∧ kvs.map (·.2) = ps.map (·.2)
  | [], [], ks, _, h => by cases h; exact ⟨[], rfl, rfl, rfl⟩
  | [], d :: ds, ks, r, h => by cases r
  | p :: ps, [], ks, r, h => by cases r
  | p :: ps, d :: ds, ks, r, h => by
    rw [List.map_cons] at r
    cases r with
    | cons r1 rr =>
      unfold keysD at h
      cases z : keyD d with
      | none => simp only [z] at h; cases h
      | some k =>
        simp only [z] at h
        cases w : keysD ds with
        | none => rw [w] at h; cases h
        | some ks' =>
          rw [w] at h
          cases h
          obtain ⟨kvs, e1, e2, e3⟩ := keys_rep rr w
          refine ⟨(k, p.2) :: kvs, ?_, by rw [List.map_cons, e2], by rw [List.map_cons, List.map_cons, e3]⟩
          rw [List.map_cons, ← e1, ← keyD_V r1 z]
theorem merge_app : ∀ (more acc : List (Key × V)), ((acc ++ more).map (·.1)).Nodup → mergeK acc more = acc ++ more
  | [], acc, _ => by simp [mergeK]
  | p :: r, acc, h => by
    have e : putK acc p.1 p.2 = acc ++ [p] := by
      unfold putK
      rw [if_neg]
      intro q
      obtain ⟨kv, h1, h2⟩ := List.any_eq_true.mp q
      have h2 : kv.1 = p.1 := of_decide_eq_true h2
      rw [List.map_append, List.map_cons, List.nodup_append] at h
      exact h.2.2 kv.1 (List.mem_map.mpr ⟨kv, h1, rfl⟩) p.1 List.mem_cons_self h2
    show mergeK (putK acc p.1 p.2) r = _
    rw [e, merge_app r (acc ++ [p]) (by simpa using h)]
    simp
theorem rd_disp {trs : List (TE × TE)} {r : MQ} (hr : RdX K mg W (rpP K) (tPairs trs) r) : RdE K mg W (tDisp trs) (vDisp r) where
  run := fun G hG B H σ e Q S h => by
    intro p hp
    have S1 : Sto K G B (upd H p (.dK [])) σ e := S.loose hp
    have gp := S.fresh hp
    have bp : B p = none := S.sub.free hp
    have npO : ¬ OwnF (upd H p (.dK [])) σ e p := fun q => not_owned_new S hp (S.own_new hp q)
    have hRp : (reb G B (upd H p (.dK [])) σ e).H p = some (.dK []) := (if_neg npO).trans upd_same
    have pio : p ∉ G.io := fun q => S.iom p q gp
    refine hr.run _ (W.reb G B _ σ e hG S1) B _ σ e _ S1.reb ?_
    unfold vDisp at h
    cases q : r e with
    | bot => rw [q] at h; exact h.elim
    | err x e1 =>
      rw [q] at h
      intro c dd B' H' S' s xr
      exact h c dd B' H' (Sto.unreb S1 S') s xr
    | ok ps e1 =>
      rw [q] at h
      intro vs B2 H2 S2 s2 rp
      have hp2 : H2 p = some (.dK []) := S2.keep p _ hRp pio
      refine ⟨hp2, ?_⟩
      obtain ⟨d, hd, h'⟩ := Po.of (R := rpE K) (Q := Q) (show Po K mg W (rpE K) G σ B Q (.of (dispD ps) e1) from h)
      unfold dispD at hd
      cases w : keysD (ps.map (·.1)) with
      | none => rw [w] at hd; cases hd
      | some ks =>
        simp only [w] at hd
        by_cases z : ks.Nodup ∧ ks.length ≤ 15
        · rw [if_pos z] at hd
          cases hd
          obtain ⟨kvs, e2, e3, e4⟩ := keys_rep rp.1 w
          have mk : mergeK [] kvs = kvs := by
            have := merge_app kvs [] (by rw [List.nil_append, e3]; exact z.1)
            rwa [List.nil_append] at this
          refine ⟨kvs, e2, by have := congrArg List.length e3; rw [List.length_map] at this; omega, ?_⟩
          rw [mk]
          have U := Sto.unreb S1 S2
          have b2 : B2 p = none := by
            cases q2 : B2 p with
            | none => rfl
            | some o =>
              exfalso
              rcases S2.new p (by rw [q2]; simp) with t | t
              · exact t bp
              · rw [hRp] at t; cases t
          have noO : ¬ Owned H2 σ e1 p := fun q => by
            have a2 := (S2.apart q).2.1
            rw [hRp] at a2; cases a2
          have P1 := U.poke (p := p) (o := .dK kvs) b2 gp noO
          have P2 := P1.take (p := p) (o := .dK kvs) upd_same b2 gp (U.poke_no b2 noO)
          have sm : Same B2 (upd B2 p (.dK kvs)) := same_upd' b2
          exact h' (.ref p) _ _ P2 (s2.trans sm) (.dct (.inl upd_same) e3 (by rw [e4]; exact rp.2.mono sm))
        · rw [if_neg z] at hd; cases hd
end
section
variable {ι : Type} {K : PySem.W.Frag} {mg : Str → Option Value} {X : ι → Cx} {W : Am K} {pos : Pos}
def VQ (K : PySem.W.Frag) (mg : Str → Option Value) (X : ι → Cx) (W : Am K) (pos : Pos) (ks : List (Option Expr)) (vs : List Expr) (m : MQ) : Prop := ∃ t, (∀ i, PPs (X i) pos ks vs t) ∧ RdX K mg W (rpP K) (tPairs t) m
theorem vq_nil : VQ K mg X W pos [] [] vPN := ⟨[], fun _ => pps_nil, rd_pnil⟩
theorem vq_cons {k v : Expr} {ks : List (Option Expr)} {vs : List Expr} {mk mv : ME} {r : MQ} (hk : VE K mg X W k mk) (hv : VE K mg X W v mv) (hr : VQ K mg X W pos ks vs r) : VQ K mg X W pos (some k :: ks) (v :: vs) (vPC mk mv r) :=
  let ⟨tk, p1, r1⟩ := hk; let ⟨tv, p2, r2⟩ := hv; let ⟨t, p3, r3⟩ := hr; ⟨(tk, tv) :: t, fun i => pps_cons (p1 i) (p2 i) (p3 i), rd_pcons r1 r2 r3⟩
theorem ve_disp {ks : List (Option Expr)} {vs : List Expr} {r : MQ} (h : VQ K mg X W pos ks vs r) (hall : ks.all (·.isSome) = true := by rfl) (hl : ks.length = vs.length := by rfl) (h0 : ks ≠ [] := by simp) (h15 : ks.length ≤ 15 := by simp) : VE K mg X W (.Dict ks vs pos) (vDisp r) :=
  let ⟨t, p, q⟩ := h; ⟨tDisp t, fun i => pe_disp (p i) hall hl h0 h15, rd_disp q⟩
/-- a call of a built-in type that gives a plain value -/
theorem ve_bt {T : String} {x : Str} {p : Pos} {e : Expr} {es : List Expr} {ms : MA} {f : List D → Option D} (hc : ∀ j, CallR (X j) (.type T) (rDatC K f)) (hm : ∀ j, (X j).mg x = none) (hv : bootBuiltins x = some (.type T)) (ha : VA K mg X W (e :: es) ms) (hg : ∀ j, Gl (X j) x := by intro _; rfl) (hn : x ≠ "__name__" := by decide) (hdb : (x == ("__debug__" : Str)) = false := by decide)
    (he : ∀ j, starEach (e :: es) (X j).env = (false, eval e (X j).env) :: starEach es (X j).env := by intro _; rfl) (hpl : ∀ j, (backTo pos (starEach es (X j).env)).any (·.1) = false := by intro _; rfl) : VE K mg X W (.Call (.Name x p) (e :: es) [] pos) (vBf f ms) :=
  let ⟨_, p, r⟩ := ha; ⟨_, fun i => pe_callTy (hc i) (hg i) (hm i) hv (p i) hn hdb (he i) (hpl i), rd_bf r⟩
end
theorem cd_str {X : Cx} : CallR X (.type "str") (rDatC X.K bfStr) := by
  intro pins s σ H xs us Q I r h
  obtain ⟨G, B, σ', e, ds, d, S, rr, hd, h⟩ := h
  unfold bfStr at hd
  split at hd
  · rename_i i
    split at hd
    · rename_i hz
      cases hd
      cases rr with
      | cons r1 r2 =>
        cases r2
        cases r1
        exact call_str_int pins s σ H _ us Q I r ⟨i, rfl, hz, h _ B H S (Same.refl B) (.str _)⟩
    · cases hd
  · cases hd
/-! ### methods of texts -/
section
variable {K : PySem.W.Frag} {mg : Str → Option Value} {W : Am K}
theorem rd_m1 {r : V → List V → Hp → VK → Prop} {op : Str → D → Option D} {ta tb : TE} {ma mb : ME} (hr : ∀ (G : Gr) (B H : Hp) (σ : L2.St) (e : Env) (z : Str) (y : V) (b d : D) (Q : VK), Sto K G B H σ e → Rep K B y b → op z b = some d → Po K mg W (rpE K) G σ B Q (.ok d e) → r (.str z) [y] H Q)
    (ha : RdE K mg W ta ma) (hb : RdE K mg W tb mb) : RdE K mg W (tM1 r ta tb) (vM1 op ma mb) where
  run := fun G hG B H σ e Q S h => by
    refine ha.run G hG B H σ e _ S (Po.bind h fun x e1 v B1 H1 S1 s1 r1 h1 => ?_)
    have r1 : Rep K B1 v x := r1
    cases x with
    | str z =>
      cases r1
      refine ⟨⟨z, rfl⟩, hb.run G hG B1 H1 σ e1 _ S1 (Po.bind h1 fun y e2 w B2 H2 S2 s2 r2 h2 => ?_)⟩
      obtain ⟨d, hd, h3⟩ := Po.of h2
      exact hr G B2 H2 σ e2 z w y d Q S2 r2 hd h3
    | _ => exact h1.elim
end
theorem ve_strip {ι : Type} {K : PySem.W.Frag} {mg : Str → Option Value} {X : ι → Cx} {W : Am K} {pos apos : Pos} {o e : Expr} {ma mb : ME} (ha : VE K mg X W o ma) (hb : VE K mg X W e mb) (hs : ∀ j, starEach [e] (X j).env = [(false, eval e (X j).env)] := by intro _; rfl)
    (hbase : ∀ j, attributeBase o "strip" (X j).env (eval o (X j).env) = eval o (X j).env := by intro _; rfl) (hline : (apos.endLine == pos.line) = true := by rfl) : VE K mg X W (.Call (.Attribute o "strip" apos) [e] [] pos) (vM1 opStrip ma mb) := by
  obtain ⟨_, p, r⟩ := ha
  obtain ⟨_, p', r'⟩ := hb
  refine ⟨_, fun i => pe_m1 F.slot_str_strip F.type_str_strip mt_stripChars (p i) (p' i) (hs i) (hbase i) hline, rd_m1 (fun G B H σ e z y b d Q S ry hd h => ?_) r r'⟩
  cases b with
  | str w =>
    cases ry
    have hd : (if z.length ≤ vmax then some (D.str (Txt.stripChars z w)) else none) = some d := hd
    by_cases q : z.length ≤ vmax
    · rw [if_pos q] at hd
      cases hd
      exact ⟨z, w, rfl, rfl, vle q, Po.here h S (.str _)⟩
    · rw [if_neg q] at hd; cases hd
  | _ => cases hd
/-! ### except without a name -/
section
variable {K : PySem.W.Frag} {mg : Str → Option Value} {W : Am K} {k : RK} {names : List Str} {anc : Str → Str → Bool} {bi : List String} {y : Str} {m h : MS}
theorem rs_tryOnly {c : Addr} (T : ExT K mg names anc bi) (hy : y ∈ names) (hD : mg y = some (.ref c)) : RdS K mg W k (fun D σ H => canS K mg (W.to (wOnly K (.ref c) (fun a cls d D σ H => canS K mg (Am.of K fun _ _ _ _ => False) k h D σ H) W.w D)) k m D σ H)
    (vTryOnly names anc y m h) := fun G hG B H σ e D S q => by
  refine ⟨G, B, e, hG, S, ?_⟩
  unfold vTryOnly at q
  cases r : m e with
  | nx e' => simp only [r] at q; exact q
  | rt d e' => simp only [r] at q; exact q
  | bk e' => simp only [r] at q; exact q
  | ct e' => simp only [r] at q; exact q
  | bot => simp only [r] at q; exact q.elim
  | err x e1 =>
    simp only [r] at q
    intro cls dd σ' B' H' S' s xr
    have xr' := xr
    obtain ⟨C, h1, h2, h3⟩ := xr
    subst h2
    by_cases hx : x.cls ∈ names
    · rw [if_pos hx] at q
      refine ⟨anc x.cls y, T.exm x.cls hx y hy C c h1 hD, fun hb a ha => ?_, fun hb => ?_⟩
      · rw [if_pos hb] at q
        refine ⟨G, B', e1, trivial, S', ?_⟩
        have q := PoS.base s q
        cases w : h e1 with
        | nx e' => simp only [w] at q; exact q
        | rt d e' => simp only [w] at q; exact q
        | bk e' => simp only [w] at q; exact q
        | ct e' => simp only [w] at q; exact q
        | err x e' => simp only [w] at q; exact q.elim
        | bot => simp only [w] at q; exact q.elim
      · rw [if_neg (by rw [hb]; exact Bool.false_ne_true)] at q
        exact q (.ref C) dd σ' B' H' S' s xr'
    · rw [if_neg hx] at q; exact q.elim
end
section
variable {X : Cx} {W : Am X.K} {k : RK} {pos np pos' : Pos} {y : Str} {body suite : List Stmt} {b₀ : Stmt} {m h : MS} {names : List Str} {anc : Str → Str → Bool} {bi : List String}
theorem vs_tryOnly (T : ExT X.K X.mg names anc bi) (hs : X.stack = X.env :: X.outer) (hf : X.env.frame = some X.env.locals) (tk : Takes X W.w)
    (hb : ∀ (Wx : WX) (pn : List (Addr × Obj)) (xe : Value → Shared → Prop), Takes (X.tr pn xe) Wx → PassesOwn (model X.prog X.w) X.A X.env xe → VSs (X.tr pn xe) (W.to Wx) k body m)
    (hsu : ∀ (a : Addr) (oe : Obj) (pn : List (Addr × Obj)), VSs (X.suite a ((a, oe) :: pn)) (Am.of X.K fun _ _ _ _ => False) k (b₀ :: suite) h)
    (hy : y ∈ names := by decide +kernel) (hg : Gl X y := by rfl) (hdb : (y == ("__debug__" : Str)) = false := by decide) :
    VS X W k (.Try body [.ExceptHandler (some (.Name y np)) none (b₀ :: suite) pos'] [] [] pos) (vTryOnly names anc y m h) := by
  obtain ⟨D, hD⟩ := T.top y hy
  exact ⟨_, ps_try_only (tb := fun Wx => canS X.K X.mg (W.to Wx) k m) (ts := fun a cls d D σ H => canS X.K X.mg (Am.of X.K fun _ _ _ _ => False) k h D σ H) hs hf ⟨hg, hdb, .inl hD⟩ tk (fun Wx pn xe t p => (hb Wx pn xe t p).can) (fun a oe cls d pn hz hfl => (hsu a oe pn).can), rs_tryOnly T hy hD⟩
end
end VL

/-! VL12: dicts of one's own. -/
namespace VL
open PySem PySem.Spec PyProof.Rows L2
section
variable {K : PySem.W.Frag} {mg : Str → Option Value} {W : Am K} {G : Gr} {B B' H H' : Hp} {σ σ' : L2.St} {e e' : Env} {k : RK}
/-- a new dict, nobody's -/
def rpK (K : PySem.W.Frag) : RP (List Ky × List D) V := fun G B H σ e v kd => ∃ (p : Addr) (kvs : List (Key × V)), v = .ref p ∧ H p = some (.dK kvs) ∧ B p = none ∧ G.H p = none ∧ ¬ Owned H σ e p ∧ kvs.map (·.1) = kd.1 ∧ Reps K B (kvs.map (·.2)) kd.2
abbrev RdK (K : PySem.W.Frag) (mg : Str → Option Value) (W : Am K) (t : TE) (m : MK) : Prop := RdX K mg W (rpK K) t m
theorem fresh_dict (S : Sto K G B H σ e) {kd : List Ky × List D} {kvs : List (Key × V)} {Q : VK} (ek : kvs.map (·.1) = kd.1) (r : Reps K B (kvs.map (·.2)) kd.2) (h : Po K mg W (rpK K) G σ B Q (.ok kd e)) : ∀ p, H p = none → Q (.ref p) (upd H p (.dK kvs)) := fun p hp =>
  h _ B _ (S.loose hp) (Same.refl B) ⟨p, kvs, rfl, upd_same, same_none S.sub hp, S.fresh hp, fun q => not_owned_new S hp (S.own_new hp q), ek, r⟩
theorem rk_nil : RdK K mg W tDNewK vK0 where
  run := fun G hG B H σ e Q S h p hp => fresh_dict (kd := ([], [])) S rfl .nil h p hp
theorem rd_ofK {t : TE} {m : MK} (h : RdK K mg W t m) : RdE K mg W t (vOfK m) where
  run := fun G hG B H σ e Q S q => by
    refine h.run G hG B H σ e _ S (Po.bind q fun kd e1 x B1 H1 S1 s1 r1 h1 => ?_)
    obtain ⟨p, kvs, rfl, hp, hb, hg, no, ek, r⟩ := r1
    exact h1 _ _ _ (S1.take hp hb hg no) (same_upd' hb) (.dct (.inl upd_same) ek (r.mono (same_upd' hb)))
theorem rs_asgK {t : TE} {m : MK} {i : Nat} (ha : RdK K mg W t m) : RdS K mg W k (tAsg t (gName i)) (vAsgK i m) := fun G hG B H σ e D S h =>
  ha.run G hG B H σ e _ S (PoS.thenS h fun kd e1 v B1 H1 S1 _ r1 h1 => by
    by_cases hl : i < e1.length
    · rw [if_pos hl] at h1
      obtain ⟨p, kvs, rfl, hp, hb, hg, no, ek, r⟩ := r1
      exact h1.nx (S1.put i (.ow hb hg hp (.dct ek r) (fun _ z => nomatch z)) fun a h q => by
        have h : some (V.ref p) = some (V.ref a) := h
        cases h
        exact no q.of_lose)
    · rw [if_neg hl] at h1; exact h1.elim)
theorem rk_disp {trs : List (TE × TE)} {r : MQ} (hr : RdX K mg W (rpP K) (tPairs trs) r) : RdK K mg W (tDisp trs) (vKD r) where
  run := fun G hG B H σ e Q S h => by
    intro p hp
    have S1 : Sto K G B (upd H p (.dK [])) σ e := S.loose hp
    have gp := S.fresh hp
    have bp : B p = none := S.sub.free hp
    have npO : ¬ OwnF (upd H p (.dK [])) σ e p := fun q => not_owned_new S hp (S.own_new hp q)
    have hRp : (reb G B (upd H p (.dK [])) σ e).H p = some (.dK []) := (if_neg npO).trans upd_same
    have pio : p ∉ G.io := fun q => S.iom p q gp
    refine hr.run _ (W.reb G B _ σ e hG S1) B _ σ e _ S1.reb ?_
    unfold vKD at h
    cases q : r e with
    | bot => rw [q] at h; exact h.elim
    | err x e1 =>
      rw [q] at h
      intro c dd B' H' S' s xr
      exact h c dd B' H' (Sto.unreb S1 S') s xr
    | ok ps e1 =>
      rw [q] at h
      intro vs B2 H2 S2 s2 rp
      have hp2 : H2 p = some (.dK []) := S2.keep p _ hRp pio
      refine ⟨hp2, ?_⟩
      obtain ⟨d, hd, h'⟩ := Po.of (R := rpK K) (Q := Q) (show Po K mg W (rpK K) G σ B Q (.of (dispK ps) e1) from h)
      unfold dispK at hd
      cases w : keysD (ps.map (·.1)) with
      | none => rw [w] at hd; cases hd
      | some ks =>
        simp only [w] at hd
        by_cases z : ks.Nodup ∧ ks.length ≤ 15
        · rw [if_pos z] at hd
          cases hd
          obtain ⟨kvs, e2, e3, e4⟩ := keys_rep rp.1 w
          have mk : mergeK [] kvs = kvs := by
            have := merge_app kvs [] (by rw [List.nil_append, e3]; exact z.1)
            rwa [List.nil_append] at this
          refine ⟨kvs, e2, by have := congrArg List.length e3; rw [List.length_map] at this; omega, ?_⟩
          rw [mk]
          have U := Sto.unreb S1 S2
          have b2 : B2 p = none := by
            cases q2 : B2 p with
            | none => rfl
            | some o =>
              exfalso
              rcases S2.new p (by rw [q2]; simp) with t | t
              · exact t bp
              · rw [hRp] at t; cases t
          have noO : ¬ Owned H2 σ e1 p := fun q => by
            have a2 := (S2.apart q).2.1
            rw [hRp] at a2; cases a2
          have P1 := U.poke (p := p) (o := .dK kvs) b2 gp noO
          exact h' (.ref p) B2 _ P1 s2 ⟨p, kvs, rfl, upd_same, b2, gp, U.poke_no b2 noO, e3, by rw [e4]; exact rp.2⟩
        · rw [if_neg z] at hd; cases hd
/-- a callee that gives a new dict -/
def rDatK (K : PySem.W.Frag) (f : List D → Option (List Ky × List D)) : List V → Hp → VK → Prop := fun vs H Q => ∃ (G : Gr) (B : Hp) (σ : L2.St) (e : Env) (ds : List D) (kd : List Ky × List D), Sto K G B H σ e ∧ Reps K B vs ds ∧ f ds = some kd ∧
  ∀ v B' H', Sto K G B' H' σ e → Same B B' → rpK K G B' H' σ e v kd → Q v H'
theorem rk_call {t : TA} {m : MA} (ha : RdA K mg W t m) : RdK K mg W (tCB (rDatK K copyK) t) (vKC m) where
  run := fun G hG B H σ e Q S q => by
    refine ha.run G hG B H σ e _ S (Po.bind q fun ds e1 vs B1 H1 S1 s1 r1 h1 => ?_)
    obtain ⟨d, hd, h2⟩ := h1.of
    exact ⟨G, B1, σ, e1, ds, d, S1, r1, hd, h2⟩
theorem rk_bor {t : TE} {m : MK} (h : RdK K mg W t m) : RdK K mg W t (vBorK m) where
  run := fun G hG B H σ e Q S q => by
    refine h.run ⟨H, VL.full B H σ e, [], G.tok, G.pin⟩ (W.full G B H σ e hG S) (VL.full B H σ e) H σ (frz e) Q S.full ?_
    unfold vBorK at q
    cases z : m (frz e) with
    | ok d e' =>
      rw [z] at q
      by_cases f : D.flats d.2 = true
      · simp only [f, if_true] at q
        refine fun v B' H' S' s' r' => ?_
        obtain ⟨p, vs, rfl, hp, hb, hg, no, ek, r⟩ := r'
        have hn : tupsOf B B' p = none := by
          cases w : tupsOf B B' p with
          | none => rfl
          | some o =>
            rcases tupsOf_some w with q1 | ⟨_, q1, _⟩
            · have q2 := S'.b0 _ _ (full_same _ _ q1); rw [hb] at q2; cases q2
            · rw [hb] at q1; cases q1
        have hH : H p = none := hg
        exact q (.ref p) (tupsOf B B') H' (S.back S') tupsOf_same ⟨p, vs, rfl, hp, hn, S.fresh hH, S.back_no S' hH, ek, Reps.flat (tupsOf_tups (B0 := B) (full_same.trans s')) f r⟩
      · simp only [f] at q
        exact q.elim
    | err x e' =>
      rw [z] at q
      exact fun c d B' H' S' s' r' => q c d (tupsOf B B') H' (S.back S') tupsOf_same (r'.tups (full_same.trans s'))
    | bot => rw [z] at q; exact q
theorem Sto.owK (S : Sto K G B H σ e) {i : Nat} {ds : List D} (z : e[i]? = some (.ow .d ds)) : ∃ p kvs ks es, σ[i]? = some (some (.ref p)) ∧ H p = some (.dK kvs) ∧ ds = [.dct ks es] ∧ kvs.map (·.1) = ks ∧ Reps K B (kvs.map (·.2)) es := by
  obtain ⟨v, hv, ok⟩ := S.sl i _ z
  cases ok with
  | ow hb hg hh hr hpin => cases hr with
    | dct e1 r => exact ⟨_, _, _, _, hv, hh, rfl, e1, r⟩
theorem put_pos {k : Ky} {v : V} {d : D} (rv : Rep K B v d) : ∀ {kvs : List (Key × V)} {ds : List D}, Reps K B (kvs.map (·.2)) ds →
    Reps K B ((kvs.map fun kv => if kv.1 = k then (kv.1, v) else kv).map (·.2)) (((kvs.map (·.1)).zip ds).map fun p => if p.1 = k then d else p.2)
  | [], ds, r => .nil
  | (k0, v0) :: kvs, ds, r => by
    cases r with
    | cons r0 rr =>
      simp only [List.map_cons, List.zip_cons_cons]
      refine .cons ?_ (put_pos rv rr)
      by_cases e : k0 = k
      · rw [if_pos e, if_pos e]; exact rv
      · rw [if_neg e, if_neg e]; exact r0
theorem put_keys {k : Ky} {v : V} : ∀ (kvs : List (Key × V)), (kvs.map fun kv => if kv.1 = k then (kv.1, v) else kv).map (·.1) = kvs.map (·.1)
  | [] => rfl
  | (k0, v0) :: kvs => by
    simp only [List.map_cons]
    rw [put_keys kvs]
    congr 1
    by_cases e : k0 = k
    · rw [if_pos e]
    · rw [if_neg e]
theorem put_rep {kvs : List (Key × V)} {ds : List D} {k : Ky} {v : V} {d : D} (r : Reps K B (kvs.map (·.2)) ds) (rv : Rep K B v d) : (putK kvs k v).map (·.1) = (putD (kvs.map (·.1)) ds k d).1 ∧ Reps K B ((putK kvs k v).map (·.2)) (putD (kvs.map (·.1)) ds k d).2 := by
  have ea : ((kvs.map (·.1)).any fun j => decide (j = k)) = kvs.any fun kv => decide (kv.1 = k) := by rw [List.any_map]; rfl
  unfold putK putD
  rw [ea]
  by_cases h : (kvs.any fun kv => decide (kv.1 = k)) = true
  · rw [if_pos h, if_pos h]
    exact ⟨put_keys kvs, put_pos rv r⟩
  · rw [if_neg h, if_neg h]
    refine ⟨by simp, ?_⟩
    rw [List.map_append]
    exact r.append (.cons rv .nil)
theorem rs_setK {i : Nat} {t tx : TE} {m mx : ME} (ha : RdE K mg W t m) (hx : RdE K mg W tx mx) : RdS K mg W k (sDPut (tVar i) tx t) (vSetK i mx m) := fun G hG B H σ e D S h =>
  ha.run G hG B H σ e _ S (PoS.thenS h fun d e1 v B1 H1 S1 s1 r1 h1 => by
    cases z : e1[i]? with
    | none => rw [z] at h1; exact h1.elim
    | some s =>
      rw [z] at h1
      cases s with
      | no => exact h1.elim
      | tk _ => exact h1.elim
      | sh _ => exact h1.elim
      | tr _ _ => exact h1.elim
      | ow b ds =>
        cases b with
        | l => exact h1.elim
        | p _ => exact h1.elim
        | d =>
          obtain ⟨p, kvs, ks, es, hv, hh, _, _, _⟩ := S1.owK z
          refine ⟨_, hv, hx.run G hG B1 H1 σ e1 _ S1 (PoS.thenS h1 fun x e2 vx B2 H2 S2 s2 r2 h2 => ?_)⟩
          cases z1 : e2[i]? with
          | none => rw [z1] at h2; exact h2.elim
          | some s2' =>
            rw [z1] at h2
            cases s2' with
            | no => exact h2.elim
            | tk _ => exact h2.elim
            | sh _ => exact h2.elim
            | tr _ _ => exact h2.elim
            | ow b ds2 =>
              cases b with
              | l => exact h2.elim
              | p _ => exact h2.elim
              | d =>
                obtain ⟨p1, kvs1, ks1, es1, hv1, hh1, rfl, e3, hr1⟩ := S2.owK z1
                rw [hv] at hv1
                cases hv1
                dsimp only at h2
                cases w : keyD x with
                | none => rw [w] at h2; exact h2.elim
                | some kk =>
                  rw [w] at h2
                  dsimp only at h2
                  by_cases hl : ks1.length < vmax
                  · rw [if_pos hl] at h2
                    subst e3
                    obtain ⟨q1, q2⟩ := put_rep (k := kk) hr1 (r1.mono s2)
                    rw [List.length_map] at hl
                    exact ⟨p, _, rfl, .inl ⟨kvs1, kk, hh1, keyD_V r2 w, Nat.lt_of_lt_of_le hl vok, rfl⟩, h2.nx (S2.write z1 hv (.dct q1 q2))⟩
                  · rw [if_neg hl] at h2; exact h2.elim)
end
section
variable {X : Cx}
theorem cd_dict : CallR X (.type "dict") (rDatK X.K copyK) := by
  intro pins s σ H xs us Q I r ⟨G, B, σ', e, ds, kd, S, rs, hd, h⟩
  unfold copyK at hd
  split at hd
  · cases hd
    cases rs with
    | cons r0 rr =>
      cases rr
      cases r0 with
      | @dct a kvs _ _ h1 h2 h3 =>
        cases r with
        | cons ra rt =>
          cases rt
          obtain rfl := (show _ = Value.ref a from ra)
          exact d_copyOf I (rd_sub S.sub h1) fun p s' hp I' => ⟨.ref p, _, I', rfl, h (.ref p) B _ (S.loose hp) (Same.refl B) ⟨p, kvs, rfl, upd_same, same_none S.sub hp, S.fresh hp, fun q => not_owned_new S hp (S.own_new hp q), h2, h3⟩⟩
  · cases hd
end
section
variable {ι : Type} {K : PySem.W.Frag} {mg : Str → Option Value} {X : ι → Cx} {W : Am K} {pos : Pos}
def VD (K : PySem.W.Frag) (mg : Str → Option Value) (X : ι → Cx) (W : Am K) (e : Expr) (m : MK) : Prop := ∃ t, (∀ i, PE (X i) e t) ∧ RdK K mg W t m
theorem vd_nil : VD K mg X W (.Dict [] [] pos) vK0 := ⟨_, fun _ => pe_dnewK, rk_nil⟩
theorem vd_disp {ks : List (Option Expr)} {vs : List Expr} {r : MQ} (h : VQ K mg X W pos ks vs r) (hall : ks.all (·.isSome) = true := by rfl) (hl : ks.length = vs.length := by rfl) (h0 : ks ≠ [] := by simp) (h15 : ks.length ≤ 15 := by simp) : VD K mg X W (.Dict ks vs pos) (vKD r) :=
  let ⟨t, p, q⟩ := h; ⟨tDisp t, fun i => pe_disp (p i) hall hl h0 h15, rk_disp q⟩
theorem vd_dict {p : Pos} {e : Expr} {es : List Expr} {ms : MA} (hm : ∀ j, (X j).mg "dict" = none) (ha : VA K mg X W (e :: es) ms) (hg : ∀ j, Gl (X j) "dict" := by intro _; rfl)
    (he : ∀ j, starEach (e :: es) (X j).env = (false, eval e (X j).env) :: starEach es (X j).env := by intro _; rfl) (hpl : ∀ j, (backTo pos (starEach es (X j).env)).any (·.1) = false := by intro _; rfl) (hK : ∀ j, (X j).K = K := by intro _; rfl) : VD K mg X W (.Call (.Name "dict" p) (e :: es) [] pos) (vKC ms) :=
  let ⟨_, p, r⟩ := ha; ⟨_, fun i => pe_callTy (hK i ▸ cd_dict : CallR (X i) (.type "dict") (rDatK K copyK)) (hg i) (hm i) (by decide +kernel) (p i) (by decide) (by decide) (he i) (hpl i), rk_call r⟩
theorem vd_bor {e : Expr} {m : MK} (h : VD K mg X W e m) : VD K mg X W e (vBorK m) := let ⟨t, p, r⟩ := h; ⟨t, p, rk_bor r⟩
theorem ve_ofK {e : Expr} {m : MK} (h : VD K mg X W e m) : VE K mg X W e (vOfK m) := let ⟨t, p, r⟩ := h; ⟨t, p, rd_ofK r⟩
end
section
variable {X : Cx} {W : Am X.K} {k : RK} {pos pos' : Pos} {x : Str} {e : Expr} {ms : MK} {m : ME}
theorem vs_setK (i : Nat) (hN : X.N.Nodup) (he : VD X.K X.mg (at1 X) W e ms) (hi : X.N[i]? = some x := by rfl) (hx : Loc X.env.scope x := by first | exact Or.inl rfl | exact Or.inr rfl) (hs : swapsWith e (some (.Name x pos')) pos.line X.env = pure false := by rfl) (hf : X.fn x = true ∨ X.env.scope.names.lookup x = some .local := by first | exact .inl rfl | exact .inr rfl) :
    VS X W k (.Assign [.Name x pos'] e pos) (vAsgK i ms) := let ⟨_, p, r⟩ := he; ⟨_, ps_set hN hi hx (p ()) hs hf, rs_asgK r⟩
theorem vs_subK (i : Nat) {p tpos : Pos} {ix : Expr} {mx : ME} (hu : X.A.units + 1 < cLine) (he : VE X.K X.mg (at1 X) W e m) (hx : VE X.K X.mg (at1 X) W ix mx) (hN : X.N[i]? = some x := by rfl) (hv : Vis X.env.scope x := by first | exact Or.inl rfl | exact Or.inr (Or.inl rfl) | exact Or.inr (Or.inr rfl)) (hd : (x == ("__debug__" : Str)) = false := by decide)
    (hcd : (x == ("__classdict__" : Str)) = false := by decide) (hs : swapsWith e (some (.Subscript (.Name x p) ix tpos)) pos.line X.env = pure false := by rfl) : VS X W k (.Assign [.Subscript (.Name x p) ix tpos] e pos) (vSetK i mx m) :=
  let ⟨_, q, r⟩ := he; let ⟨_, q', r'⟩ := hx; ⟨_, ps_dput hu (pe_var hN hv hd hcd) (q' ()) (q ()) hs, rs_setK r r'⟩
end
end VL

/-! VL13: a module's own table (a dict with text keys) asked by `in`, `not in`, `[..]`. -/
namespace VL
open PySem PySem.Spec PyProof.Rows L2
/-- a world, one of its texts' follows put to a truth -/
def fixW (w : World) (x : String) (b : Bool) : World := { w with params := { w.params with followText := fun s => if s = x then b else w.params.followText s } }
theorem fixW_eq (w : World) (x : String) : fixW w x (w.params.followText x) = w := by
  have key : (fun s => if s = x then w.params.followText x else w.params.followText s) = w.params.followText := by
    funext s
    by_cases h : s = x
    · rw [if_pos h, h]
    · rw [if_neg h]
  unfold fixW
  rw [key]
/-- the addresses at hand, found layer by layer (each looked at once) -/
def growF (g : Addr → Option Obj) : Nat → List Addr → List Addr → List Addr
  | 0, seen, _ => seen
  | n + 1, seen, fr =>
    let nw := ((fr.flatMap fun a => match g a with
      | some o => He.refsD o
      | none => []).filter fun a => !seen.contains a).eraseDups
    growF g n (seen ++ nw) nw
def asF (g : Addr → Option Obj) (n : Nat) : List Addr := growF g n [mainGlobals] [mainGlobals]
/-- the head's facts, a table's keys among them -/
def hookY (n : Nat) (fa : List He.Fa) (fn : List He.DefD) (ts : List He.Tab) (fx : PySem.W.Frag → Bool) : PySem.W.Hook where
  α := He.AlT × Bool
  obs := fun s => (He.obsT fa fn ts (He.frG s.heap.get? (cStatics :: asF s.heap.get? n)), fx (He.frG s.heap.get? (cStatics :: asF s.heap.get? n)))
  val := fun w => (He.valT fn ts w, true)
  says := fun w h => ∃ K : PySem.W.Frag, K.In h ∧ He.SaysT fa fn ts w K ∧ fx K = true
  of := fun w s q => ⟨He.frG s.heap.get? (cStatics :: asF s.heap.get? n), He.frG_in, (Prod.mk.inj q).1, (Prod.mk.inj q).2⟩
  keeps := fun w h h' z k => let ⟨K, hK, c, d⟩ := z; ⟨K, PySem.W.Frag.In.keeps hK k, c, d⟩
def obY (n : Nat) (fa : List He.Fa) (fn : List He.DefD) (ts : List He.Tab) (fx : PySem.W.Frag → Bool) (g : Addr → Option Obj) : He.AlT × Bool := (He.obsT fa fn ts (He.frG g (cStatics :: asF g n)), fx (He.frG g (cStatics :: asF g n)))
theorem obY_eq {n : Nat} {fa : List He.Fa} {fn : List He.DefD} {ts : List He.Tab} {fx : PySem.W.Frag → Bool} {g : Addr → Option Obj} {s : Shared} (h : ∀ a, g a = s.heap.get? a) : obY n fa fn ts fx g = (hookY n fa fn ts fx).obs s := by
  cases (funext h : g = s.heap.get?)
  exact rfl
theorem says_tab {fa : List He.Fa} {fn : List He.DefD} {ts : List He.Tab} {w : World} {K : PySem.W.Frag} (c : He.SaysT fa fn ts w K) (i : Nat) {t : He.Tab} (h : ts[i]? = some t := by rfl) : He.dicW K (t.1 K) = some (He.keysIn w.params t.2) := by
  have e : ts.map (fun t => He.dicW K (t.1 K)) = ts.map fun t => some (He.keysIn w.params t.2) := congrArg (fun z : He.AlT => z.2) c
  have e2 : (ts.map fun t => He.dicW K (t.1 K))[i]? = (ts.map fun t => some (He.keysIn w.params t.2))[i]? := by rw [e]
  rw [List.getElem?_map, List.getElem?_map, h] at e2
  exact Option.some.inj e2
theorem keys_not {P : Params} {z : Str} : ∀ {l : List DictEntry} {ks : List Str}, l.map He.keyOf = He.keysIn P ks → z ∉ ks → l.find? (·.key.isStr z) = none ∧ l.any (·.refKey) = false
  | [], _, _, _ => ⟨rfl, rfl⟩
  | e :: r, [], h, _ => by cases h
  | e :: r, k :: ks, h, nz => by
    have h1 : He.keyOf e :: r.map He.keyOf = some (k, PyData.keyHash P k) :: He.keysIn P ks := h
    injection h1 with h2 h3
    obtain ⟨a1, a2⟩ := keys_not (z := z) h3 fun q => nz (List.mem_cons_of_mem _ q)
    unfold He.keyOf at h2
    split at h2
    · rename_i x t q
      obtain ⟨h5, h6⟩ := Prod.mk.inj (Option.some.inj h2)
      have ne : ¬ x = z := fun w => nz (by rw [← w, h5]; exact List.mem_cons_self)
      have e1 : e.key.isStr z = false := by rw [q]; simpa [Value.isStr] using ne
      have e2 : e.refKey = false := by unfold DictEntry.refKey; rw [q]; try rfl
      rw [List.find?_cons, e1, List.any_cons, e2]
      exact ⟨a1, a2⟩
    · cases h2
theorem nsIn_not {K : PySem.W.Frag} {P : Params} {a : Addr} {ks : List Str} {z : Str} (h : He.dicW K a = some (He.keysIn P ks)) (nz : z ∉ ks) : PySem.W.nsIn K a z = some none := by
  unfold He.dicW at h
  cases q : K.lookup a with
  | none => rw [q] at h; cases h
  | some o =>
    obtain ⟨oc, od, dt, osl⟩ := o
    rw [q] at h
    cases oc with
    | type c =>
      cases od with
      | none =>
        cases dt with
        | dict es n =>
          have h1 : (match decide (c = "dict") && (osl.isEmpty && !(a == sysModules)) with
            | true => some (es.toList.map He.keyOf)
            | false => none) = some (He.keysIn P ks) := h
          cases z1 : decide (c = "dict") && (osl.isEmpty && !(a == sysModules)) with
          | false => rw [z1] at h1; cases h1
          | true =>
            rw [z1] at h1
            obtain ⟨a1, a2⟩ := keys_not (Option.some.inj h1) nz
            unfold PySem.W.nsIn
            rw [q]
            dsimp only
            rw [a1, a2]
            rfl
        | _ => cases h
      | some b => cases dt <;> cases h
    | _ => cases od <;> cases dt <;> cases h
structure TCon (K : PySem.W.Frag) (w : World) (mg : Str → Option Value) (x : Str) (t : Tb) : Prop where
  ex : ∃ (a : Addr) (es : Array DictEntry) (n : Nat), mg x = some (.ref a) ∧ KDict K w a es n ∧ ∀ z, match tbGet t z with
    | none => PySem.W.nsIn K a z = some none
    | some d => ∃ (u : Value) (v : V), PySem.W.nsIn K a z = some (some u) ∧ RelV v u ∧ ∀ B, Rep K B v d
theorem tb_vals : ∀ {kvs : List (Str × He.Dv)} {t : Tb}, kvs.map (fun q => (q.1, dvD q.2)) = t.map (fun q => (q.1, some q.2)) → ∀ z d, tbGet t z = some d → ∃ q ∈ kvs, q.1 = z ∧ dvD q.2 = some d
  | [], [], _, z, d, h => by cases h
  | [], p :: t, e, _, _, _ => by cases e
  | q :: kvs, [], e, _, _, _ => by cases e
  | q :: kvs, p :: t, e, z, d, h => by
    rw [List.map_cons, List.map_cons] at e
    obtain ⟨e1, e2⟩ := List.cons.inj e
    obtain ⟨e3, e4⟩ := Prod.mk.inj e1
    unfold tbGet at h
    rw [List.find?_cons] at h
    by_cases n : p.1 = z
    · rw [decide_eq_true n] at h
      cases h
      exact ⟨q, List.mem_cons_self, e3.trans n, e4⟩
    · rw [decide_eq_false n] at h
      obtain ⟨q', m, r⟩ := tb_vals e2 z d h
      exact ⟨q', List.mem_cons_of_mem _ m, r⟩
theorem dv_rep {K : PySem.W.Frag} {B : Hp} {v : He.Dv} {d : D} (h : dvD v = some d) : Rep K B (v.v K) d := by
  cases v <;> first | (cases h; constructor) | cases h
theorem tcon_of {K : PySem.W.Frag} {w : World} {h : Heap} {mg : Str → Option Value} {x : Str} {ks : List Str} {kvs : List (Str × He.Dv)} {t : Tb} (X : K.In h) (G : h.Ns mainGlobals mg) (c : He.dicW K (He.ga K x) = some (He.keysIn w.params ks)) (c2 : ((He.Fa.glo x).ok K && He.valsB K (He.ga K x) kvs) = true)
    (e : kvs.map (fun q => (q.1, dvD q.2)) = t.map (fun q => (q.1, some q.2))) (ek : t.map (·.1) = ks) : TCon K w mg x t := by
  obtain ⟨g, vs⟩ := He.ba c2
  obtain ⟨es, n, kd⟩ := He.dicW_ok (w := w) c
  refine ⟨He.ga K x, es, n, He.glo_ok X G g, kd, fun z => ?_⟩
  cases q : tbGet t z with
  | none =>
    refine nsIn_not c fun m => ?_
    rw [← ek] at m
    obtain ⟨p, hp, e⟩ := List.mem_map.mp m
    unfold tbGet at q
    have := List.find?_eq_none.mp (Option.map_eq_none_iff.mp q) p hp
    exact this (decide_eq_true e)
  | some d =>
    obtain ⟨p, hp, e1, e2⟩ := tb_vals e z d q
    obtain ⟨u, h1, h2⟩ := He.valsB_ok vs hp
    rw [e1] at h1
    exact ⟨u, _, h1, h2, fun B => dv_rep e2⟩
section
variable {K : PySem.W.Frag} {mg : Str → Option Value} {W : Am K} {G : Gr} {B H : Hp} {σ : L2.St} {e : Env} {a : Addr} {t : Tb} {ta : TE} {ma : ME}
theorem rd_tabIn (ht : ∀ z, match tbGet t z with
    | none => PySem.W.nsIn K a z = some none
    | some d => ∃ (u : Value) (v : V), PySem.W.nsIn K a z = some (some u) ∧ RelV v u ∧ ∀ B, Rep K B v d) (b : Bool) (ha : RdE K mg W ta ma) :
    RdE K mg W (tOp (fun x y H Q => ∃ (z : Str) (r : Option Value), x = .str z ∧ y = .ref a ∧ PySem.W.nsIn K a z = some r ∧ Q (.bl (b ^^ r.isSome)) H) ta (tC (.ref a))) (vUn (fun d => match d with
      | .str z => some (.bl (b ^^ (tbGet t z).isSome))
      | _ => none) ma) where
  run := fun G hG B H σ e Q S h => by
    refine ha.run G hG B H σ e _ S (Po.bind h fun x e1 v B1 H1 S1 s1 r1 h1 => ?_)
    obtain ⟨d, hd, h2⟩ := h1.of
    have r1 : Rep K B1 v x := r1
    cases x with
    | str z =>
      cases r1
      cases hd
      have q := ht z
      cases w : tbGet t z with
      | none =>
        rw [w] at q h2
        exact ⟨z, none, rfl, rfl, q, Po.here h2 S1 (.bl _)⟩
      | some d =>
        rw [w] at q h2
        obtain ⟨u, v, q1, q2, q3⟩ := q
        exact ⟨z, some u, rfl, rfl, q1, Po.here h2 S1 (.bl _)⟩
    | _ => cases hd
theorem rd_tabIx (ht : ∀ z, match tbGet t z with
    | none => PySem.W.nsIn K a z = some none
    | some d => ∃ (u : Value) (v : V), PySem.W.nsIn K a z = some (some u) ∧ RelV v u ∧ ∀ B, Rep K B v d) (ha : RdE K mg W ta ma) :
    RdE K mg W (tOp (fun x y H Q => ∃ (z : Str) (u0 : Value) (v0 : V), x = .ref a ∧ y = .str z ∧ PySem.W.nsIn K a z = some (some u0) ∧ RelV v0 u0 ∧ Q v0 H) (tC (.ref a)) ta) (vUn (tabIx t) ma) where
  run := fun G hG B H σ e Q S h => by
    refine ha.run G hG B H σ e _ S (Po.bind h fun x e1 v B1 H1 S1 s1 r1 h1 => ?_)
    obtain ⟨d, hd, h2⟩ := h1.of
    have r1 : Rep K B1 v x := r1
    cases x with
    | str z =>
      cases r1
      have hd : tbGet t z = some d := hd
      have q := ht z
      rw [hd] at q
      obtain ⟨u, v, q1, q2, q3⟩ := q
      exact ⟨z, u, v, rfl, rfl, q1, q2, Po.here h2 S1 (q3 B1)⟩
    | _ => cases hd
end
section
variable {ι : Type} {K : PySem.W.Frag} {mg : Str → Option Value} {X : ι → Cx} {W : Am K} {w : World} {pos p : Pos} {a : Expr} {ma : ME} {x : Str} {t : Tb}
theorem kd_at {j : ι} {b : Addr} {es : Array DictEntry} {n : Nat} (kd : KDict K w b es n) (hK : (X j).K = K) (hw : (X j).w = w) : KDict (X j).K (X j).w b es n := by rw [hK, hw]; exact kd
theorem op_tabIn {j : ι} {b : Addr} {es : Array DictEntry} {n : Nat} (kd : KDict K w b es n) (hK : (X j).K = K) (hw : (X j).w = w) : OpR (X j) (compareOp .In) (fun x y H Q => ∃ (z : Str) (r : Option Value), x = .str z ∧ y = .ref b ∧ PySem.W.nsIn K b z = some r ∧ Q (.bl r.isSome) H) := by
  have q := op_in_kd (X := X j) (kd_at kd hK hw)
  rw [hK] at q
  exact q
theorem op_tabNotIn {j : ι} {b : Addr} {es : Array DictEntry} {n : Nat} (kd : KDict K w b es n) (hK : (X j).K = K) (hw : (X j).w = w) : OpR (X j) (compareOp .NotIn) (fun x y H Q => ∃ (z : Str) (r : Option Value), x = .str z ∧ y = .ref b ∧ PySem.W.nsIn K b z = some r ∧ Q (.bl (!r.isSome)) H) := by
  have q := op_notIn_kd (X := X j) (kd_at kd hK hw)
  rw [hK] at q
  exact q
theorem ix_tab {j : ι} {b : Addr} {es : Array DictEntry} {n : Nat} (kd : KDict K w b es n) (hK : (X j).K = K) (hw : (X j).w = w) : IxR (X j) (fun x y H Q => ∃ (z : Str) (u0 : Value) (v0 : V), x = .ref b ∧ y = .str z ∧ PySem.W.nsIn K b z = some (some u0) ∧ RelV v0 u0 ∧ Q v0 H) := by
  have kd' := kd_at kd hK hw
  intro value slice pins s σ H x y v u Q I rx ry h hs
  obtain ⟨z, u0, v0, rfl, rfl, e1, e2, e3⟩ := h
  have h' := op_item_kd (X := X j) kd' pins s σ H _ _ v u Q I rx ry ⟨z, u0, v0, rfl, rfl, by rw [hK]; exact e1, e2, e3⟩
  cases rx
  exact tail_any (kd_type kd' I) PySem.F.slot_dict_getitem.lookup h' hs
section
variable (T : TCon K w mg x t) (ha : VE K mg X W a ma) (hm : ∀ j, (X j).mg = mg := by intro _; rfl) (hg : ∀ j, Gl (X j) x := by intro _; rfl) (hd : (x == ("__debug__" : Str)) = false := by decide) (hK : ∀ j, (X j).K = K := by intro _; rfl) (hw : ∀ j, (X j).w = w := by intro _; rfl) (hM : behindInMarks .In (.Name x p) = false := by rfl) (hM' : behindInMarks .NotIn (.Name x p) = false := by rfl)
include T ha hm hg hd hK hw hM in
theorem ve_tabIn : VE K mg X W (.Compare a [.In] [.Name x p] pos) (vUn (tabIn t) ma) := by
  obtain ⟨b, es, n, e1, kd, ht⟩ := T.ex
  obtain ⟨_, p', r⟩ := ha
  have key := rd_tabIn ht false r
  simp only [Bool.false_xor] at key
  exact ⟨_, fun i => pe_cmpR (op_tabIn kd (hK i) (hw i)) (p' i) (pe_glob (v := .ref b) (u := .ref b) (hg i) (by rw [hm i]; exact e1) rfl hd) hM, key⟩
include T ha hm hg hd hK hw hM in
theorem vt_tabIn : VT K mg X W (.Compare a [.In] [.Name x p] pos) (vTest (vUn (tabIn t) ma)) := by
  obtain ⟨b, es, n, e1, kd, ht⟩ := T.ex
  obtain ⟨_, p', r⟩ := ha
  have key := rd_tabIn ht false r
  simp only [Bool.false_xor] at key
  exact ⟨_, fun i => pt_cmpR (op_tabIn kd (hK i) (hw i)) (p' i) (pe_glob (v := .ref b) (u := .ref b) (hg i) (by rw [hm i]; exact e1) rfl hd) hM, rd_test key⟩
include T ha hm hg hd hK hw hM' in
theorem ve_tabNotIn : VE K mg X W (.Compare a [.NotIn] [.Name x p] pos) (vUn (tabNotIn t) ma) := by
  obtain ⟨b, es, n, e1, kd, ht⟩ := T.ex
  obtain ⟨_, p', r⟩ := ha
  have key := rd_tabIn ht true r
  simp only [Bool.true_xor] at key
  exact ⟨_, fun i => pe_cmpR (op_tabNotIn kd (hK i) (hw i)) (p' i) (pe_glob (v := .ref b) (u := .ref b) (hg i) (by rw [hm i]; exact e1) rfl hd) hM', key⟩
include T ha hm hg hd hK hw hM' in
theorem vt_tabNotIn : VT K mg X W (.Compare a [.NotIn] [.Name x p] pos) (vTest (vUn (tabNotIn t) ma)) := by
  obtain ⟨b, es, n, e1, kd, ht⟩ := T.ex
  obtain ⟨_, p', r⟩ := ha
  have key := rd_tabIn ht true r
  simp only [Bool.true_xor] at key
  exact ⟨_, fun i => pt_cmpR (op_tabNotIn kd (hK i) (hw i)) (p' i) (pe_glob (v := .ref b) (u := .ref b) (hg i) (by rw [hm i]; exact e1) rfl hd) hM', rd_test key⟩
include T ha hm hg hd hK hw in
theorem ve_tabIx (hs : PlainIx a) : VE K mg X W (.Subscript (.Name x p) a pos) (vUn (tabIx t) ma) := by
  obtain ⟨b, es, n, e1, kd, ht⟩ := T.ex
  obtain ⟨_, p', r⟩ := ha
  exact ⟨_, fun i => pe_ix (ix_tab kd (hK i) (hw i)) (pe_glob (v := .ref b) (u := .ref b) (hg i) (by rw [hm i]; exact e1) rfl hd) (p' i) hs, rd_tabIx ht r⟩
end
end
end VL

/-! VL14: errors with a number of their own; several except clauses. -/
namespace VL
open PySem PySem.Spec PyProof.Rows L2
/-! ### the class -/
def oexB (K : PySem.W.Frag) (C : Addr) : Bool := match K.lookup C with
  | some ⟨.type "type", _, .cls cd, sl⟩ => (match cd.mro, sl.toList with
    | .ref C' :: bm, [_, _, _, _, some (.builtin n), _] => C' == C && n == "ValueError.__new__" && !cd.hasDel && cd.hasDict && PySem.HandSPX.refsVE bm
    | _, _ => false)
  | _ => false
theorem oexB_ok {K : PySem.W.Frag} {C : Addr} (q : oexB K C = true) : ∃ nm qn N bs bm sn sub ab col dd k0 k1 k2 k3 k5, K.lookup C = some (excClassObj nm qn C N bs bm true sn sub ab col dd k0 k1 k2 k3 k5 "ValueError.__new__") ∧ PySem.HandSPX.refsVE bm = true := by
  unfold oexB at q
  split at q
  · rename_i dd cd sl ho
    split at q
    · rename_i C' bm k0 k1 k2 k3 n k5 hm hs
      simp only [Bool.and_eq_true, beq_iff_eq, Bool.not_eq_true'] at q
      obtain ⟨⟨⟨⟨rfl, rfl⟩, hdel⟩, hdct⟩, ht⟩ := q
      obtain ⟨nm, bs, mro, ns, qn, hd, sn, sub, ab, col, del⟩ := cd
      dsimp only at hm hdel hdct
      subst hm hdel hdct
      have hsl : sl = #[k0, k1, k2, k3, some (.builtin "ValueError.__new__"), k5] := by
        obtain ⟨l⟩ := sl
        simp only at hs
        rw [hs]
      subst hsl
      exact ⟨nm, qn, ns, bs, bm, sn, sub, ab, col, dd, k0, k1, k2, k3, k5, ho, ht⟩
    · cases q
  · cases q
/-- the class that its __init__ calls by its name -/
structure OexB (K : PySem.W.Frag) (mg : Str → Option Value) (b : Str) : Prop where
  ex : ∃ C, mg b = some (.ref C) ∧ PySem.W.specialIn K (.ref C) "__getattribute__" = some (some (.builtin "type.__getattribute__")) ∧ PySem.W.readsIn K C (.type "type") = true ∧ PySem.W.findCls K (.ref C) (.type "type") "__init__" = some (.val (.builtin "ValueError.__init__"))
/-- an error's class x with its number's field f, its __init__ st -/
structure OexT (K : PySem.W.Frag) (mg : Str → Option Value) (x f b : Str) (st : Stmt) (p q : Str) : Prop where
  ex : ∃ C fI fd, mg x = some (.ref C) ∧ OexC K C ∧ PySem.W.findIn K (.ref C) "__init__" = some (some (.ref fI)) ∧ PySem.W.typeIn K (.ref fI) = some (.type "function") ∧ PySem.W.findIn K (.ref C) f = some none ∧ Fun K "__init__" q st fI fd ∧ Bnd fd ["self", p]
  b : OexB K mg b
theorem pe_cutinit {X : Cx} {b : Str} {e : Expr} {es : List Expr} {ta : TA} {p1 p2 pos : Pos} {pl : Sem Bool} (T : OexB X.K X.mg b) (hg : Gl X b) (hdb : (b == ("__debug__" : Str)) = false) (ha : PA X (e :: es) ta)
    (hc : eval (.Call (.Attribute (.Name b p1) "__init__" p2) (e :: es) [] pos) X.env = (do
      let ov ← eval (.Name b p1) X.env
      standAt p2.atName
      let (f, first) ← holding [ov] (getMethod ov "__init__" pl)
      callWith pos f first (backTo pos (starEach (e :: es) X.env)) (backToKw pos (keywordEach [] X.env))) := by rfl)
    (he : starEach (e :: es) X.env = (false, eval e X.env) :: starEach es X.env := by rfl) (hpl : (backTo pos (starEach es X.env)).any (·.1) = false := by rfl) :
    PE X (.Call (.Attribute (.Name b p1) "__init__" p2) (e :: es) [] pos) (tVeI X.K ta) := by
  obtain ⟨C0, g0, s0, r0, f0⟩ := T.ex
  refine ⟨fun pins s σ H Q I h => ?_⟩
  refine PySem.W.methodCall_KW (ld_glob I hg g0 ?_ hdb) hc
  refine PySem.W.method_cls I.kIn s0 (PySem.W.cls_value I.kIn r0 f0 (by decide +kernel) ?_)
  show wpAny _ _ (callWith pos (Value.builtin "ValueError.__init__") [] (backTo pos (starEach (e :: es) X.env)) []) _ _ _
  refine PyProof.Rows.callWith_method1 (thn (ha.run pos pins _ σ H _ (I.tok _) h) fun us s1 ⟨vs, H1, I1, r1, a, C, ws, ev, hl, T, ea, q⟩ => ?_) he hpl
  subst ev
  cases r1 with
  | @cons _ u0 _ ur ra rw' =>
    obtain rfl : u0 = Value.ref a := ra
    have hlen : ur.length ≤ sizeLine := by
      rw [← Paired.length rw', sizeLine_eq]
      omega
    exact oinit_ok T I1 ea hlen fun s' J => ⟨.non, H1, J, rfl, q⟩
/-- what such an __init__ does -/
def spI (K : PySem.W.Frag) (f : Str) : Sp := fun vs H Q _ => ∃ (a C : Addr) (m : V), vs = [.ref a, m] ∧ OexC K C ∧ PySem.W.findIn K (.ref C) f = some none ∧ H a = some (exo a C none) ∧ ∀ dx, H dx = none → dx ≠ a → Q .non (upd (upd H dx (exd dx [(f, m)])) a (exo a C (some dx)))
section
variable {P : Program} {w : World} {K : PySem.W.Frag} {mg : Str → Option Value} {base : Heap}
theorem fn_initOf {f p q m : Str} {st : Stmt} {fI : Addr} {fd : FuncData} {k : Nat} (F : Fun K "__init__" q st fI fd) (S : FnScope ["self", p] ["self", p] (defScope st))
    (hps : ∀ (cdv : Value) (A : Around) (outer : List PySem.Env) (s : Shared) (H : Hp) (E : XK), PSs (cxOf (L2.CX P w) P w K mg base ["self", p] q (defScope st) fI cdv A outer s H E) (defBody st) (tSeq (tDrop (tVeI K (tCons (tVar 0) (tCons (tC (.str m)) tNil)))) (tSeq (tOst K f (tVar 0) (tVar 1)) tNext))) :
    FnOk P w K mg base (L2.CX P w) (k + 1) fI fd ["self", p] (spI K f) := by
  refine F.okX S (fun vs H Q E h => ?_) (fun cdv A outer s H vs Q E hr h => ⟨_, hps cdv A outer s H E, ?_⟩)
  · obtain ⟨a, C, m, rfl, _⟩ := h
    rfl
  · obtain ⟨a, C, v, rfl, T, hno, ha, h⟩ := h
    refine ⟨.ref a, rfl, a, C, [.str m], rfl, by simp, T, ha, ?_⟩
    refine ⟨v, rfl, .ref a, rfl, a, C, rfl, T, hno, .inl ⟨ha, fun dx h1 h2 => ?_⟩⟩
    exact h dx h1 h2
end
/-! ### raise -/
section
variable {K : PySem.W.Frag} {mg : Str → Option Value} {W : Am K} {k : RK} {x f b p : Str} {t : TE} {m : ME}
theorem rs_raiseI {C : Addr} (hm : mg x = some (.ref C)) (T : OexC K C) (hno : PySem.W.findIn K (.ref C) f = some none) (ha : RdE K mg W t m) : RdS K mg W k (fun _ σ H => tMkO C (spI K f) [] (tCons t tNil) σ H fun cls d H' => W.w cls d σ H') (vRaiseI x f m) := fun G hG B H σ e D S h => by
  unfold vRaiseI at h
  refine ha.run G hG B H σ e _ S ?_
  cases r : m e with
  | bot => rw [r] at h; exact h.elim
  | err y e1 => rw [r] at h; exact fun cls dd B' H' S' s' x' => h cls dd σ B' H' S' s' x'
  | ok d e1 =>
    rw [r] at h
    intro v B1 H1 S1 s1 r1
    cases d with
    | int n =>
      have r1 : Rep K B1 v (.int n) := r1
      cases r1
      have h : ∀ cls dd σ' B' H', Sto K G B' H' σ' e1 → Same B B' → XRep K mg B' cls dd ⟨x, some (f, n)⟩ → W.w cls dd σ' H' := h
      refine ⟨by simp, fun a ha => ⟨a, C, .int n, rfl, T, hno, upd_same, fun dx hdx ne => ?_⟩⟩
      have hd1 : H1 dx = none := by rwa [upd_ne ne] at hdx
      refine ⟨rfl, dx, [(f, .int n)], upd_same, by rw [upd_ne ne, upd_same], hd1, ?_⟩
      have e2 : upd (del (upd (upd (upd H1 a (exo a C none)) dx (exd dx [(f, .int n)])) a (exo a C (some dx))) a) dx (.xd [(f, .int n)]) = upd H1 dx (.xd [(f, .int n)]) := by
        funext c
        by_cases h1 : c = dx
        · rw [h1, upd_same, upd_same]
        · rw [upd_ne h1, upd_ne h1]
          by_cases h2 : c = a
          · rw [h2, del_same, ha]
          · rw [del_ne h2, upd_ne h2, upd_ne h1, upd_ne h2]
      rw [e2]
      have S2 := S1.alloc (p := dx) (o := .xd [(f, .int n)]) hd1
      exact h (.ref C) (some dx) _ _ _ S2 (s1.trans (same_upd' (S1.sub.free hd1))) ⟨C, hm, rfl, dx, rfl, upd_same⟩
    | _ => exact h.elim
end
section
variable {X : Cx} {W : Am X.K} {k : RK} {pos p0 cpos : Pos} {x f b p q m0 : Str} {st : Stmt} {e : Expr} {m : ME} {P : Program} {w : World}
/-- raise x(e) -/
theorem vs_raiseI {j : Nat} (T : OexT X.K X.mg x f b st p q) (hX : X.prog = P ∧ X.w = w) (S : FnScope ["self", p] ["self", p] (defScope st))
    (hps : ∀ (fI : Addr) (base : Heap) (cdv : Value) (A : Around) (outer : List PySem.Env) (s : Shared) (H : Hp) (E : XK), PSs (cxOf (L2.CX P w) P w X.K X.mg base ["self", p] q (defScope st) fI cdv A outer s H E) (defBody st) (tSeq (tDrop (tVeI X.K (tCons (tVar 0) (tCons (tC (.str m0)) tNil)))) (tSeq (tOst X.K f (tVar 0) (tVar 1)) tNext)))
    (hr : Room (j + 2) X.A) (tk : Takes X W.w) (hc : X.calm = true) (he : VE X.K X.mg (at1 X) W e m) (hg : Gl X x := by rfl) (hdb : (x == ("__debug__" : Str)) = false := by decide)
    (hs : starEach [e] X.env = (false, eval e X.env) :: starEach [] X.env := by rfl) : VS X W k (.Raise (some (.Call (.Name x p0) [e] [] cpos)) none pos) (vRaiseI x f m) := by
  obtain ⟨C, fI, fd, g, O, iC, tI, hno, F, B⟩ := T.ex
  obtain ⟨rfl, rfl⟩ := hX
  obtain ⟨t, pt, rt⟩ := he
  have F1 : FnOk X.prog X.w X.K X.mg X.base (L2.CX X.prog X.w) (j + 1) fI fd ["self", p] (spI X.K f) := fn_initOf F S fun cdv A outer s H E => hps fI X.base cdv A outer s H E
  exact ⟨_, ps_raise hc tk (pmk_oex (k := j + 1) (ds := []) (dvs := []) O iC tI F1 hr B.b .nil (passes_call tk fun _ _ _ _ z => z.elim) hg g (pa_cons (pt ()) pa_nil hs) hdb hs rfl), rs_raiseI g O hno rt⟩
end
end VL

/-! VL15: several except clauses, with and without names. -/
namespace VL
open PySem PySem.Spec PyProof.Rows L2
/-! ### the rule -/
/-- what the clauses wish of an exception of the body, one after the other -/
def wManyN (K : PySem.W.Frag) (Wout : WX) (D : Ends) : List (Value × Option Nat × (Addr → Value → Option Addr → TS)) → WX
  | [] => Wout
  | (c, oi, ts) :: r => fun cls d σ H => ∃ b, PySem.W.exmOne K cls c = some b ∧ (b = true → ∀ a, H a = none → match oi with
      | none => ts a cls d D σ H
      | some i => ts a cls d { nx := fun σ' H' => D.nx (σ'.set i none) H', rt := D.rt, bk := fun σ' H' => D.bk (σ'.set i none) H', ct := fun σ' H' => D.ct (σ'.set i none) H' } (σ.set i (some (.ref a))) H) ∧
    (b = false → wManyN K Wout D r cls d σ H)
inductive HdsN (X : Cx) : List ExceptHandler → List (Value × Option Nat × (Addr → Value → Option Addr → TS)) → Prop
  | nil : HdsN X [] []
  | one {x : Str} {c : Value} {ts : Addr → Value → Option Addr → TS} {b₀ : Stmt} {suite : List Stmt} {np pos' : Pos} {hds : List ExceptHandler} {l : List (Value × Option Nat × (Addr → Value → Option Addr → TS))} (hc : Names X x c)
      (hsu : ∀ (a : Addr) (oe : Obj) (cls : Value) (d : Option Addr) (pn : List (Addr × Obj)), Zc cls d oe → (∃ vs, oe.data = .fields vs) → PSs (X.suite a ((a, oe) :: pn)) (b₀ :: suite) (ts a cls d)) (r : HdsN X hds l) :
      HdsN X (.ExceptHandler (some (.Name x np)) none (b₀ :: suite) pos' :: hds) ((c, none, ts) :: l)
  | as {x n : Str} {i : Nat} {c : Value} {ts : Addr → Value → Option Addr → TS} {b₀ : Stmt} {suite : List Stmt} {np pos' : Pos} {hds : List ExceptHandler} {l : List (Value × Option Nat × (Addr → Value → Option Addr → TS))} (hi : X.N[i]? = some n) (hln : X.env.kindOf n = some .local) (hc : Names X x c)
      (hsu : ∀ (a : Addr) (oe : Obj) (cls : Value) (d : Option Addr) (pn : List (Addr × Obj)), Zc cls d oe → (∃ vs, oe.data = .fields vs) → PSs (X.suite a ((a, oe) :: pn)) (b₀ :: suite) (ts a cls d)) (r : HdsN X hds l) :
      HdsN X (.ExceptHandler (some (.Name x np)) (some n) (b₀ :: suite) pos' :: hds) ((c, some i, ts) :: l)
section
variable {X : Cx} {body : List Stmt} {h₀ : ExceptHandler} {hds : List ExceptHandler} {l : List (Value × Option Nat × (Addr → Value → Option Addr → TS))} {pos : Pos} {tb : WX → TS} {Wout : WX}
theorem ps_try_manyN (hs : X.stack = X.env :: X.outer) (hf : X.env.frame = some X.env.locals) (hN : X.N.Nodup) (tk : Takes X Wout)
    (hb : ∀ (W : WX) (pn : List (Addr × Obj)) (xe : Value → Shared → Prop), Takes (X.tr pn xe) W → PassesOwn (model X.prog X.w) X.A X.env xe → PSs (X.tr pn xe) body (tb W))
    (hh : HdsN X (h₀ :: hds) l) : PS X (.Try body (h₀ :: hds) [] [] pos) (fun D σ H => tb (wManyN X.K Wout D l) D σ H) := by
  refine ⟨fun pins s σ H D I h => ?_⟩
  have ok := I.ok
  have hfr : X.A.frames = some (X.env :: X.outer) := by rw [ok.frames, hs]
  refine wpAny_Try_except ?_
  refine wpAny_mono ((hb (wManyN X.K Wout D l) (X.pn ++ pins) (fun e s₁ => wpAny (model X.prog X.w) X.A (noteFrame e X.env) (fun _ s₂ => wpAny (model X.prog X.w) X.A (setFlight e none) (fun _ s₃ =>
    wpAny (model X.prog X.w) X.A (handleBy e X.env (h₀ :: hds)) (SP X pins D) X.xe s₃) X.xe s₂) X.xe s₁) (fun u s' xx => ?_) PassesOwn.looking).run [] s σ H D (I.toTry _) h) (fun f s1 hsp => ?_) (fun e s1 he => he)
  · -- the catch
    obtain ⟨a, B, sI, pins', σ', H', cls, d, rfl, J', nb, up, sky, na, os, ag, w⟩ := xx
    have J : Inv X pins σ' H' sI := J'.ofTry ok
    have sky' : Sky B (X.env :: X.outer) a (Zc cls d) X.env.locals s'.heap := by rw [← hs]; exact sky
    show wpAny (model X.prog X.w) X.A (noteFrame (.ref a) X.env) _ _ _
    refine Sky.land Zc.steady hfr hf sky' fun h3 fl3 up3 => ?_
    have J3 : Inv X pins σ' H' { s' with heap := h3 } := J.landed nb fl3.1 (up.trans up3) os ag
    obtain ⟨oe3, vs3, he3, hz3, hd3⟩ := fl3.there
    have notFr : ∀ {h : Heap} {o : Obj} {vs : Array Value}, h.FunFrames B (X.env :: X.outer) → h.get? a = some o → o.data = .fields vs → a ∉ frs (X.env :: X.outer) := fun {h o vs} ff e dd hm => by
      obtain ⟨_, o', e', hnf⟩ := ff.mem hm
      rw [e] at e'; cases e'
      exact hnf _ dd
    have nfr := notFr fl3.2.2.1 he3 hd3
    have nL : a ≠ X.env.locals := fun z => nfr (List.mem_filterMap.mpr ⟨X.env, List.mem_cons_self, by rw [hf, z]⟩)
    have nF : a ∉ X.fs := fun hm => by
      obtain ⟨e, he, q⟩ := List.mem_filterMap.mp hm
      exact nfr (List.mem_filterMap.mpr ⟨e, List.mem_cons_of_mem _ he, q⟩)
    have S3 := J3.suite he3 hd3 na nL nF
    have LT : PySem.W.Looks (model X.prog X.w) h3 (typeOf (.ref a)) cls := fun A Q E s k q => wpAny_typeOf_ref (k _ _ he3) (by rw [hz3.1]; exact q)
    have test : ∀ {x : Str} {np : Pos} {c : Value} {Q : Value → Shared → Prop} {E : Value → Shared → Prop}, Names X x c → Q c { s' with heap := h3 } → wpAny (model X.prog X.w) (X.A.mark (some (.ref a))) (eval (.Name x np) X.env) Q E { s' with heap := h3 } := fun {x np c Q E} hc q => by
      obtain ⟨hg, hdbg, hm | ⟨hm, hv, hnn⟩⟩ := hc
      · exact ld_glob (X := X.suite a ((a, oe3) :: (X.pn ++ pins))) S3 hg hm q hdbg
      · exact ld_blt (X := X.suite a ((a, oe3) :: (X.pn ++ pins))) S3 hg hm hv q hnn hdbg
    have go : ∀ {hds' : List ExceptHandler} {l' : List (Value × Option Nat × (Addr → Value → Option Addr → TS))}, HdsN X hds' l' → wManyN X.K Wout D l' cls d σ' H' →
        wpAny (model X.prog X.w) X.A (handleBy (.ref a) X.env hds') (SP X pins D) X.xe { s' with heap := h3 } := by
      intro hds' l' hk
      induction hk with
      | nil =>
        intro w
        refine wpAny_handleBy_nil ?_
        obtain ⟨k1, k2, k3, oe, vs, T, oT, ts', he, hz, hd, h1, hr⟩ := id fl3
        unfold PySem.passOn
        refine wpAny_bind (wpAny_field he hd h1 ?_)
        rw [if_neg (show ¬ ((Value.ref T == Value.none) = true) from by simp)]
        have fin : wpAny (model X.prog X.w) X.A (setFlight (.ref a) X.env.frame) (fun _ s4 => wpAny (model X.prog X.w) X.A (throw (.ref a) : Sem Flow) (SP X pins D) X.xe s4) X.xe { s' with heap := h3 } := by
          rw [hf]
          refine HandSPX.setFlight_upZ fl3 fun h4 hh4 up4 => wpAny_throw (tk _ _ ?_)
          exact ⟨a, B, sI, pins, σ', H', cls, d, rfl, J, nb, (up.trans up3).trans up4, .inr (.inr (by rw [hs]; exact hh4)), na, os, ag, w⟩
        first
          | exact wpAny_bind (wpAny_pure (wpAny_bind fin))
          | exact wpAny_bind fin
      | @one x c ts b₀ suite np pos' hds2 l2 hc hsu r ih =>
        intro w
        obtain ⟨b, hb1, hyes, hno⟩ := w
        refine wpAny_handleBy_cons (codeAny_handlers_test ?_) (by intro q; cases q)
        have LM := PySem.W.exm_one (M := model X.prog X.w) (J3.kIn) LT hb1
        refine test hc (LM.here ?_)
        cases b with
        | true =>
          refine codeAny_handlers_suite ?_
          refine HandSPX.lands_againZ fl3 fun h4 fl4 up4 => ?_
          have J4 : Inv X pins σ' H' { s' with heap := h4 } := J.landed nb fl4.1 ((up.trans up3).trans up4) os ag
          obtain ⟨oe4, vs4, he4, hz4, hd4⟩ := fl4.there
          have S4 := J4.suite he4 hd4 na nL nF
          refine wpAny_mono ((hsu a oe4 cls d (X.pn ++ pins) hz4 ⟨_, hd4⟩).run [] _ _ H' _ S4 (hyes rfl a na)) (fun f s6 hsp => ?_) (fun _ _ z => False.elim z)
          cases f with
          | next =>
            obtain ⟨σ6, H6, S6, q6⟩ := hsp
            exact ⟨_, _, S6.unsuite ok, q6⟩
          | brk =>
            obtain ⟨σ6, H6, S6, q6⟩ := hsp
            exact ⟨_, _, S6.unsuite ok, q6⟩
          | cont =>
            obtain ⟨σ6, H6, S6, q6⟩ := hsp
            exact ⟨_, _, S6.unsuite ok, q6⟩
          | ret u =>
            obtain ⟨v6, σ6, H6, S6, r6, q6⟩ := hsp
            exact ⟨_, _, _, S6.unsuite ok, r6, q6⟩
        | false =>
          show wpAny _ X.A (handleBy (.ref a) X.env hds2) _ _ _
          exact ih (hno rfl)
      | @as x n i c ts b₀ suite np pos' hds2 l2 hi hln hc hsu r ih =>
        intro w
        obtain ⟨b, hb1, hyes, hno⟩ := w
        have hloc : Loc X.env.scope n := .inl hln
        refine wpAny_handleBy_cons (codeAny_handlers_test ?_) (by intro q; cases q)
        have LM := PySem.W.exm_one (M := model X.prog X.w) (J3.kIn) LT hb1
        refine test hc (LM.here ?_)
        cases b with
        | true =>
          refine codeAny_handlers_suite_as ?_
          refine HandSPX.lands_againZ fl3 fun h4 fl4 up4 => ?_
          have J4 : Inv X pins σ' H' { s' with heap := h4 } := J.landed nb fl4.1 ((up.trans up3).trans up4) os ag
          obtain ⟨oe4, vs4, he4, hz4, hd4⟩ := fl4.there
          have S4 := J4.suite he4 hd4 na nL nF
          refine store_ok (X := X.suite a ((a, oe4) :: (X.pn ++ pins))) (v := .ref a) S4 hN hi hloc rfl (fun s5 S5 => ?_) (.inr hln)
          refine wpAny_mono ((hsu a oe4 cls d (X.pn ++ pins) hz4 ⟨_, hd4⟩).run [] s5 _ H' _ S5 (hyes rfl a na)) (fun f s6 hsp => ?_) (fun _ _ z => False.elim z)
          have end_ : ∀ {σ6 : L2.St} {H6 : Hp} {Q : Shared → Prop}, Inv (X.suite a ((a, oe4) :: (X.pn ++ pins))) [] σ6 H6 s6 → (∀ s7, Inv X pins (σ6.set i none) H6 s7 → Q s7) →
              wpAny (model X.prog X.w) X.A (do bindName X.env n .none; unbindBehindTheSuite X.env n pos') (fun _ s7 => Q s7) X.xe s6 := fun {σ6 H6 Q} S6 hq => gone_ok (S6.unsuite ok) hN hi hln hq
          cases f with
          | next =>
            obtain ⟨σ6, H6, S6, q6⟩ := hsp
            exact end_ S6 fun s7 J7 => ⟨_, _, J7, q6⟩
          | brk =>
            obtain ⟨σ6, H6, S6, q6⟩ := hsp
            exact end_ S6 fun s7 J7 => ⟨_, _, J7, q6⟩
          | cont =>
            obtain ⟨σ6, H6, S6, q6⟩ := hsp
            exact end_ S6 fun s7 J7 => ⟨_, _, J7, q6⟩
          | ret u =>
            obtain ⟨v6, σ6, H6, S6, r6, q6⟩ := hsp
            exact end_ S6 fun s7 J7 => ⟨_, _, _, J7, r6, q6⟩
        | false =>
          show wpAny _ X.A (handleBy (.ref a) X.env hds2) _ _ _
          exact ih (hno rfl)
    exact go hh w
  · cases f with
    | next =>
      obtain ⟨σ', H', J', q⟩ := hsp
      exact wpAny_execs_nil ⟨σ', H', J'.ofTry ok, q⟩
    | brk =>
      obtain ⟨σ', H', J', q⟩ := hsp
      exact ⟨σ', H', J'.ofTry ok, q⟩
    | cont =>
      obtain ⟨σ', H', J', q⟩ := hsp
      exact ⟨σ', H', J'.ofTry ok, q⟩
    | ret u =>
      obtain ⟨v, σ', H', J', r, q⟩ := hsp
      exact ⟨v, σ', H', J'.ofTry ok, r, q⟩
end
/-! ### within the suite -/
/-- what stands with the error's dict -/
def pay (B : Hp) (d : Option Addr) (x : Xc) : Prop := match x.val with
  | none => d = none
  | some (f, n) => ∃ dd, d = some dd ∧ B dd = some (.xd [(f, .int n)])
theorem pay_sub {B B' : Hp} {d : Option Addr} {x : Xc} (s : Same B B') (h : pay B d x) : pay B' d x := by
  unfold pay at *
  split
  · rename_i q; rw [q] at h; exact h
  · rename_i f n q
    rw [q] at h
    obtain ⟨dd, e, hb⟩ := h
    exact ⟨dd, e, s _ _ hb⟩
theorem full_b {B H : Hp} {σ : L2.St} {e : Env} : Same B (full B H σ e) := withH_same
theorem pay_lk {B : Hp} {d : Option Addr} {x : Xc} {e : Addr} {f : HO} (hB : ∀ o, B e = some o → (∃ kvs, o = .dK kvs) ∨ ∃ x kvs, o = .frz x (.dK kvs)) (h : pay B d x) : pay (lkH e f B) d x := by
  unfold pay at *
  split
  · rename_i q; rw [q] at h; exact h
  · rename_i g n q
    rw [q] at h
    obtain ⟨dd, e1, hb⟩ := h
    refine ⟨dd, e1, ?_⟩
    have ne : dd ≠ e := fun z => by
      rw [z] at hb
      rcases hB _ hb with ⟨_, z⟩ | ⟨_, _, z⟩ <;> cases z
    unfold lkH
    rw [if_neg ne]
    exact hb
/-- within an except's suite: the error stands at a (where it has a name), its dict at d, nothing is raised -/
def Am.exv (K : PySem.W.Frag) (oa : Option Addr) (d : Option Addr) (x : Xc) : Am K := ⟨fun _ _ _ _ => False, fun G => (∀ a, oa = some a → G.tok 0 = a) ∧ pay G.B d x,
  fun G B H σ e h S => ⟨h.1, pay_sub (S.b0.trans full_b) h.2⟩, fun G B H σ e h S => ⟨h.1, pay_sub S.b0 h.2⟩, fun G n p hn h => ⟨fun a ha => (if_neg (Ne.symm hn)).trans (h.1 a ha), h.2⟩, fun G dd f hB h => ⟨h.1, pay_lk hB h.2⟩, fun _ _ _ h => h⟩
section
variable {K : PySem.W.Frag} {mg : Str → Option Value} {W : Am K} {k : RK} {G : Gr} {B H : Hp} {σ : L2.St} {e : Env}
/-- told from the entry on, where it is told from here on -/
theorem PoS.unreb {D : Ends} {r : RS} (S : Sto K G B H σ e) (h : PoS K mg W k G B D r) : PoS K mg W k (VL.reb G B H σ e) B D r := by
  cases r with
  | nx e' => exact fun σ' B' H' S' s => h σ' B' H' (S.unreb S') s
  | bk e' => exact fun σ' B' H' S' s => h σ' B' H' (S.unreb S') s
  | ct e' => exact fun σ' B' H' S' s => h σ' B' H' (S.unreb S') s
  | rt d e' => exact fun v σ' B' H' S' s ro => h v σ' B' H' (S.unreb S') s (ro.unreb S)
  | err x e' => exact fun c d σ' B' H' S' s xr => h c d σ' B' H' (S.unreb S') s xr
  | bot => exact h
end
section
variable {K : PySem.W.Frag} {mg : Str → Option Value} {W : Am K} {k : RK} {names : List Str} {anc : Str → Str → Bool} {bi : List String} {m : MS}
def clT (K : PySem.W.Frag) (mg : Str → Option Value) (k : RK) (names : List Str) (c : Cl) : Value × Option Nat × (Addr → Value → Option Addr → TS) :=
  ((mg c.1).getD .none, c.2.1, fun a cls d D σ H => ∃ x C, x.cls ∈ names ∧ mg x.cls = some (.ref C) ∧ cls = .ref C ∧ canS K mg (Am.exv K (c.2.1.map fun _ => a) d x) k (c.2.2 x) D σ H)
theorem noX_pos {W' : Am K} {G : Gr} {B : Hp} {D : Ends} {r : RS} (h : PoS K mg W k G B D (noX r)) : PoS K mg W' k G B D (noX r) := by
  cases r with
  | err x e' => exact h.elim
  | nx e' => exact h
  | bk e' => exact h
  | ct e' => exact h
  | rt d e' => exact h
  | bot => exact h
theorem noX_of {G : Gr} {B : Hp} {D : Ends} {r : RS} (h : PoS K mg W k G B D (noX r)) : PoS K mg W k G B D r := by
  cases r with
  | err x e' => exact h.elim
  | nx e' => exact h
  | bk e' => exact h
  | ct e' => exact h
  | rt d e' => exact h
  | bot => exact h
theorem PoS.to {W' : Am K} {G : Gr} {B : Hp} {D : Ends} {r : RS} (hw : W.w = W'.w) (h : PoS K mg W k G B D r) : PoS K mg W' k G B D r := by
  cases r with
  | err x e' => exact fun c d σ' B' H' S' s xr => hw ▸ h c d σ' B' H' S' s xr
  | nx e' => exact h
  | bk e' => exact h
  | ct e' => exact h
  | rt d e' => exact h
  | bot => exact h
theorem handle_ok (T : ExT K mg names anc bi) {D : Ends} : ∀ (cl : List Cl), (∀ c ∈ cl, c.1 ∈ names) → ∀ (G : Gr) (B B' H' : Hp) (σ' : L2.St) (e1 : Env) (x : Xc) (C : Addr) (dd : Option Addr), W.g G → Sto K G B' H' σ' e1 → Same B B' → x.cls ∈ names → mg x.cls = some (.ref C) → XRep K mg B' (.ref C) dd x → PoS K mg W k G B D (vHandle anc cl x e1) →
    wManyN K W.w D (cl.map (clT K mg k names)) (.ref C) dd σ' H'
  | [], _, G, B, B', H', σ', e1, x, C, dd, hG, S', s, hx, h1, xr, q => q (.ref C) dd σ' B' H' S' s xr
  | (y, none, h) :: r, hc, G, B, B', H', σ', e1, x, C, dd, hG, S', s, hx, h1, xr, q => by
    obtain ⟨c, hD⟩ := T.top y (hc _ List.mem_cons_self)
    have py : pay B' dd x := by
      obtain ⟨C', g1, g2, g3⟩ := xr
      exact g3
    refine ⟨anc x.cls y, ?_, fun hb a ha => ?_, fun hb => ?_⟩
    · have : (mg y).getD .none = .ref c := by rw [hD]; rfl
      show PySem.W.exmOne K (.ref C) ((mg y).getD .none) = _
      rw [this]
      exact T.exm x.cls hx y (hc _ List.mem_cons_self) C c h1 hD
    · unfold vHandle at q
      rw [if_pos hb] at q
      refine ⟨x, C, hx, h1, rfl, reb G B' H' σ' e1, B', e1, ⟨fun a' ha' => (by cases ha'), py⟩, S'.reb, ?_⟩
      exact PoS.unreb S' (noX_of (noX_pos (PoS.base s q)))
    · unfold vHandle at q
      rw [if_neg (by rw [hb]; exact Bool.false_ne_true)] at q
      exact handle_ok T r (fun c hm => hc c (List.mem_cons_of_mem _ hm)) G B B' H' σ' e1 x C dd hG S' s hx h1 xr q
  | (y, some i, h) :: r, hc, G, B, B', H', σ', e1, x, C, dd, hG, S', s, hx, h1, xr, q => by
    obtain ⟨c, hD⟩ := T.top y (hc _ List.mem_cons_self)
    have py : pay B' dd x := by
      obtain ⟨C', g1, g2, g3⟩ := xr
      exact g3
    refine ⟨anc x.cls y, ?_, fun hb a ha => ?_, fun hb => ?_⟩
    · have : (mg y).getD .none = .ref c := by rw [hD]; rfl
      show PySem.W.exmOne K (.ref C) ((mg y).getD .none) = _
      rw [this]
      exact T.exm x.cls hx y (hc _ List.mem_cons_self) C c h1 hD
    · unfold vHandle at q
      rw [if_pos hb] at q
      have S2 : Sto K (GT G 0 a) B' H' (σ'.set i (some (.ref a))) ((clrE 0 e1).set i (.tk 0)) := by
        by_cases hi : i < e1.length
        · exact (S'.drop i (some (.ref a))).tokAt hi (List.getElem?_set_self (by rw [S'.len]; exact hi))
        · have z1 : (clrE 0 e1).set i (.tk 0) = clrE 0 e1 := List.set_eq_of_length_le (by rw [clr_len]; omega)
          have z2 : σ'.set i (some (.ref a)) = σ' := List.set_eq_of_length_le (by rw [S'.len]; omega)
          rw [z1, z2]
          exact (Sto.untok (G := GT G 0 a) (n := 0) (p := G.tok 0) (by
            have e2 : GT (GT G 0 a) 0 (G.tok 0) = G := by
              unfold GT
              cases G
              simp only [Gr.mk.injEq, true_and, and_true]
              funext m
              by_cases hm : m = 0
              · simp [hm]
              · simp [hm]
            rw [e2]
            exact S'))
      refine ⟨x, C, hx, h1, rfl, reb (GT G 0 a) B' H' _ _, B', (clrE 0 e1).set i (.tk 0), ⟨fun a' ha' => ?_, py⟩, S2.reb, ?_⟩
      · cases ha'
        exact show (if (0 : Nat) = 0 then a else G.tok 0) = a from if_pos rfl
      · exact PoS.to (W := Am.ex K a) rfl (PoS.unreb S2 (PoS.post trivial (PoS.base s q)))
    · unfold vHandle at q
      rw [if_neg (by rw [hb]; exact Bool.false_ne_true)] at q
      exact handle_ok T r (fun c hm => hc c (List.mem_cons_of_mem _ hm)) G B B' H' σ' e1 x C dd hG S' s hx h1 xr q
theorem rs_tryM (T : ExT K mg names anc bi) {cl : List Cl} (hc : ∀ c ∈ cl, c.1 ∈ names) : RdS K mg W k (fun D σ H => canS K mg (W.to (wManyN K W.w D (cl.map (clT K mg k names)))) k m D σ H) (vTryM names anc cl m) := fun G hG B H σ e D S q => by
  refine ⟨G, B, e, hG, S, ?_⟩
  unfold vTryM at q
  cases r : m e with
  | nx e' => simp only [r] at q; exact q
  | rt d e' => simp only [r] at q; exact q
  | bk e' => simp only [r] at q; exact q
  | ct e' => simp only [r] at q; exact q
  | bot => simp only [r] at q; exact q.elim
  | err x e1 =>
    simp only [r] at q
    intro cls dd σ' B' H' S' s xr
    obtain ⟨C, h1, h2, h3⟩ := id xr
    subst h2
    by_cases hx : x.cls ∈ names
    · rw [if_pos hx] at q
      exact handle_ok T cl hc G B B' H' σ' e1 x C dd hG S' s hx h1 xr q
    · rw [if_neg hx] at q; exact q.elim
end
/-! ### the clauses of the text -/
inductive VHds (X : Cx) (k : RK) (names : List Str) : List ExceptHandler → List Cl → Prop
  | nil : VHds X k names [] []
  | one {y : Str} {h : Xc → MS} {b₀ : Stmt} {suite : List Stmt} {np pos' : Pos} {hds : List ExceptHandler} {cl : List Cl} (hy : y ∈ names) (hg : Gl X y) (hdb : (y == ("__debug__" : Str)) = false)
      (hsu : ∀ (x : Xc), x.cls ∈ names → ∀ (a : Addr) (oe : Obj) (C : Addr) (d : Option Addr) (pn : List (Addr × Obj)), X.mg x.cls = some (.ref C) → Zc (.ref C) d oe → (∃ vs, oe.data = .fields vs) → VSs (X.suite a ((a, oe) :: pn)) (Am.exv X.K none d x) k (b₀ :: suite) (h x))
      (r : VHds X k names hds cl) : VHds X k names (.ExceptHandler (some (.Name y np)) none (b₀ :: suite) pos' :: hds) ((y, none, h) :: cl)
  | as {y n : Str} {i : Nat} {h : Xc → MS} {b₀ : Stmt} {suite : List Stmt} {np pos' : Pos} {hds : List ExceptHandler} {cl : List Cl} (hy : y ∈ names) (hi : X.N[i]? = some n) (hln : X.env.kindOf n = some .local) (hg : Gl X y) (hdb : (y == ("__debug__" : Str)) = false)
      (hsu : ∀ (x : Xc), x.cls ∈ names → ∀ (a : Addr) (oe : Obj) (C : Addr) (d : Option Addr) (pn : List (Addr × Obj)), X.mg x.cls = some (.ref C) → Zc (.ref C) d oe → (∃ vs, oe.data = .fields vs) → VSs (X.suite a ((a, oe) :: pn)) (Am.exv X.K (some a) d x) k (b₀ :: suite) (h x))
      (r : VHds X k names hds cl) : VHds X k names (.ExceptHandler (some (.Name y np)) (some n) (b₀ :: suite) pos' :: hds) ((y, some i, h) :: cl)
section
variable {X : Cx} {W : Am X.K} {k : RK} {pos : Pos} {body : List Stmt} {h₀ : ExceptHandler} {hds : List ExceptHandler} {cl : List Cl} {m : MS} {names : List Str} {anc : Str → Str → Bool} {bi : List String}
theorem VHds.nms {hds : List ExceptHandler} {cl : List Cl} (h : VHds X k names hds cl) : ∀ c ∈ cl, c.1 ∈ names := by
  induction h with
  | nil => exact fun c hc => nomatch hc
  | one hy _ _ _ _ ih =>
    intro c hc
    rcases List.mem_cons.mp hc with rfl | hc
    · exact hy
    · exact ih c hc
  | as hy _ _ _ _ _ _ ih =>
    intro c hc
    rcases List.mem_cons.mp hc with rfl | hc
    · exact hy
    · exact ih c hc
theorem VHds.ok (T : ExT X.K X.mg names anc bi) {hds : List ExceptHandler} {cl : List Cl} (h : VHds X k names hds cl) : HdsN X hds (cl.map (clT X.K X.mg k names)) := by
  induction h with
  | nil => exact .nil
  | @one y h b₀ suite np pos' hds cl hy hg hdb hsu r ih =>
    obtain ⟨D, hD⟩ := T.top y hy
    have e : (X.mg y).getD .none = .ref D := by rw [hD]; rfl
    refine .one (c := (X.mg y).getD .none) (by rw [e]; exact ⟨hg, hdb, .inl hD⟩) (fun a oe cls d pn hz hfl => ⟨fun pins s σ H D I ⟨x, C, hx, e1, e2, q⟩ => ?_⟩) ih
    subst e2
    exact (hsu x hx a oe C d pn e1 hz hfl).can.run pins s σ H D I q
  | @as y n i h b₀ suite np pos' hds cl hy hi hln hg hdb hsu r ih =>
    obtain ⟨D, hD⟩ := T.top y hy
    have e : (X.mg y).getD .none = .ref D := by rw [hD]; rfl
    refine .as (c := (X.mg y).getD .none) hi hln (by rw [e]; exact ⟨hg, hdb, .inl hD⟩) (fun a oe cls d pn hz hfl => ⟨fun pins s σ H D I ⟨x, C, hx, e1, e2, q⟩ => ?_⟩) ih
    subst e2
    exact (hsu x hx a oe C d pn e1 hz hfl).can.run pins s σ H D I q
theorem vs_tryM (T : ExT X.K X.mg names anc bi) (hs : X.stack = X.env :: X.outer) (hf : X.env.frame = some X.env.locals) (hN : X.N.Nodup) (tk : Takes X W.w)
    (hb : ∀ (Wx : WX) (pn : List (Addr × Obj)) (xe : Value → Shared → Prop), Takes (X.tr pn xe) Wx → PassesOwn (model X.prog X.w) X.A X.env xe → VSs (X.tr pn xe) (W.to Wx) k body m)
    (hh : VHds X k names (h₀ :: hds) cl) : VS X W k (.Try body (h₀ :: hds) [] [] pos) (vTryM names anc cl m) :=
  ⟨_, ps_try_manyN (tb := fun Wx => canS X.K X.mg (W.to Wx) k m) hs hf hN tk (fun Wx pn xe t p => (hb Wx pn xe t p).can) (hh.ok T), rs_tryM T hh.nms⟩
end
end VL

/-! VL16: what an except suite asks of the error in hand. -/
namespace PySem.W
open PySem PySem.Spec PySem.Calls PyProof.Rows
section
variable {prog : Program} {w : World} {A : Around} {E : Value → Shared → Prop} {s : Shared} {K : Frag} {x D : Addr} {ox : Obj} {od : Option Obj}
theorem findObj_dataO {C : Addr} {name : Str} {a g : Value} (hc : (clsIn K C).isSome = true) (ha : findIn K (.ref C) name = some (some a)) (hg : specialIn K a "__get__" = some (some g)) (ht : takesIn K a = some true) : findObj K C od name = some (.bind g a) := by
  obtain ⟨cd, hc⟩ := Option.isSome_iff_exists.mp hc
  unfold findObj
  rw [hc, Option.bind_some, ha, Option.bind_some]
  simp [hg, ht]
theorem kin_classO {Q : Option Value → Shared → Prop} (hga : findIn K (.ref D) "__getattribute__" = some (some (.builtin "BaseException.__getattribute__"))) (hgt : findIn K (.ref D) "__getattr__" = some none) (hsub : subIn K (.ref D) (.type "BaseException") = some true)
    (hdct : hasDictIn K D = true) (ha : findIn K (.ref D) "__class__" = some (some (.builtin "object.__class__")))
    (hn : specialIn K (.builtin "object.__class__") "__get__" = some (some (.builtin "getset_descriptor.__get__"))) (htk : takesIn K (.builtin "object.__class__") = some true) (hm : mroIn K D (.type "object") = some true)
    (X : K.In s.heap) (I : InstAt s.heap x ox D od) (h : Q (some (.ref D)) { s with toks := s.toks + 1 }) : wpAny (model prog w) A (getAttr? (.ref x) "__class__") Q E s := by
  have hf : findObj K D od "__class__" = some (.bind (.builtin "getset_descriptor.__get__") (.builtin "object.__class__")) := findObj_dataO (by obtain ⟨cd, hc, _⟩ := any_some hdct; rw [hc]; rfl) ha hn htk
  obtain ⟨hp, g, d, t, os⟩ := s
  have L0 := I.type (M := model prog w)
  have L1 := looks_findIn (M := model prog w) X hga
  have L2 := looks_findIn (M := model prog w) X hgt
  have L3 := looks_find (M := model prog w) X I hf
  have sub : Looks (model prog w) hp (isInstance (.ref x) (.type "BaseException")) true := L0.andThen (looks_subIn X hsub)
  have hx0 : (false && onTheHeap (Value.builtin "BaseException.__getattribute__")) = false := rfl
  have hx2 : (Value.builtin "BaseException.__getattribute__" == Value.builtin "object.__getattribute__") = false := by decide +kernel
  have hx1 : (onTheHeap (Value.ref D) && Value.builtin "BaseException.__getattribute__" == Value.builtin "object.__getattribute__") = false := by rw [hx2]; rfl
  unfold getAttr? getAttrBy? getAttrBy
  refine wpAny_bind (wpAny_mkText (wpAny_bind (wpAny_attempt (wpAny_holding (wpAny_bind (L0.at (wpAny_bind (L1.at ?_))))))))
  show wpAny _ _ (if (onTheHeap (Value.ref D) && Value.builtin "BaseException.__getattribute__" == Value.builtin "object.__getattribute__") = true then _ else _) _ _ _
  rw [hx1, if_neg Bool.false_ne_true]
  unfold getAttrByItsOwn hookBefore
  refine wpAny_bind ?_
  rw [if_pos (show onTheHeap (Value.ref D) = true from rfl)]
  refine L2.at ?_
  refine wpAny_bind (wpAny_attempt (wpAny_holding ?_))
  unfold callGetattribute
  rw [hx0, if_neg Bool.false_ne_true]
  unfold boundAndCalled
  rw [PySem.F.excAttr_ValueError.ga.bind (.ref x)]
  refine wpAny_bind (wpAny_pure ?_)
  show wpAny _ _ (call (.builtin "BaseException.__getattribute__") [.ref x, .str "__class__" t]) _ _ _
  refine wpAny_call (codeAny_call_builtin PySem.F.excAttr_ValueError.ga.plain PySem.F.entry_bexc_ga ?_)
  refine @check_slot (model prog w) _ _ ⟨hp, g, d, t + 1, os⟩ "BaseException.__getattribute__" "BaseException" "__getattribute__" (.ref x) [.str "__class__" t] [] _ (by decide +kernel) (by decide +kernel) sub (PySem.F.args_bexc_ga (.ref x) (.str "__class__" t)) ?_
  unfold Builtin.«object.__getattribute__»
  refine wpAny_bind (wpAny_of_eq (a := ((Value.ref x : Value), [Value.str "__class__" t])) (by first | rfl | (simp only [slotArgs]; rfl)) ?_)
  refine wpAny_bind (wpAny_pure (wpAny_bind (L0.at (wpAny_bind (L3.at ?_)))))
  show wpAny _ _ (holding [Value.builtin "object.__class__"] (call (.builtin "getset_descriptor.__get__") [.builtin "object.__class__", .ref x, .ref D]) >>= ret) _ _ _
  refine wpAny_bind (wpAny_holding (wpAny_call (class_get (s := ⟨hp, g, d, t + 1, os⟩) (ox := ox) (od := od) X I hm ?_)))
  refine wpAny_pure ?_
  show wpAny _ _ (handedOut (.ref D)) _ _ _
  rw [handedOut_of (v := .ref D) rfl]
  first
    | exact wpAny_pure (wpAny_pure h)
    | exact wpAny_pure h
    | exact wpAny_pure (wpAny_bind (wpAny_pure (wpAny_pure h)))
theorem kitx_excO (hga : findIn K (.ref D) "__getattribute__" = some (some (.builtin "BaseException.__getattribute__"))) (hgt : findIn K (.ref D) "__getattr__" = some none) (hsub : subIn K (.ref D) (.type "BaseException") = some true) (hdct : hasDictIn K D = true) (ha : findIn K (.ref D) "__class__" = some (some (.builtin "object.__class__")))
    (hn : specialIn K (.builtin "object.__class__") "__get__" = some (some (.builtin "getset_descriptor.__get__"))) (htk : takesIn K (.builtin "object.__class__") = some true) (hm : mroIn K D (.type "object") = some true) :
    KitX K (.ref x) (.ref D) (fun h => ∃ od, InstAt h x ox D od) where
  ty := fun _ _ _ ⟨_, I⟩ => I.type
  it := fun _ _ X _ => by
    obtain ⟨cdD, hcD, _⟩ := any_some hdct
    unfold clsIn at hcD
    split at hcD
    · rename_i c' d' cd' sl' ho
      intro A' Q' E' s' k q
      unfold isType loadHead
      exact wpAny_bind (wpAny_loadPart (k _ _ (X _ _ ho)) (wpAny_pure q))
    · cases hcD
  ne := fun h tp dd its n sl X htp => by
    obtain ⟨cdD, hcD, _⟩ := any_some hdct
    refine Bool.eq_false_iff.mpr fun q => ?_
    have e : D = tp := Value.ref.inj (beq_iff_eq.mp q)
    subst e
    unfold clsIn at hcD
    split at hcD
    · rename_i c' d' cd' sl' ho
      have z := (X _ _ ho).symm.trans htp
      cases z
    · cases hcD
  ca := fun X ⟨_, I⟩ k => kin_classO hga hgt hsub hdct ha hn htk hm X I k
end
end PySem.W
namespace VL
open PySem PySem.Spec PyProof.Rows L2
/-- isinstance(e, c), e the exception that the suite holds, d its dict -/
def rIsX (K : PySem.W.Frag) (D a : Addr) (d : Option Addr) : List V → Hp → VK → Prop := fun xs H Q => ∃ (c : V) (cv : Value) (b : Bool), xs = [.ref a, c] ∧ (∀ u, RelV c u → u = cv) ∧ PySem.W.kitOne K (.ref D) cv = some b ∧ (∀ dd, d = some dd → ∃ fs, H dd = some (.xd fs)) ∧ Q (.bl b) H
theorem call_isX {X : Cx} {a D : Addr} {d : Option Addr} {oe : Obj} {pn : List (Addr × Obj)} (C : ExcC X.K D) (hz : Zc (.ref D) d oe) (hf : ∃ vs, oe.data = .fields vs) : CallR (X.suite a ((a, oe) :: pn)) (.builtin "isinstance") (rIsX X.K D a d) := by
  intro pins s σ H xs us Q I r h
  obtain ⟨c, cv, b, rfl, hcv, e, hd, q⟩ := h
  cases r with
  | cons rx rr =>
    cases rr with
    | cons rt rr =>
      cases rr
      cases rx
      have ec := hcv _ rt
      subst ec
      obtain ⟨hget, _⟩ := I.pin (a, oe) (List.mem_append.mpr (.inl List.mem_cons_self))
      obtain ⟨vs, hv⟩ := hf
      have J : ∃ od, PySem.W.InstAt s.heap a oe D od := by
        cases d with
        | none =>
          refine ⟨none, ?_⟩
          obtain ⟨oc, od, oda, osl⟩ := oe
          obtain ⟨h1, h2⟩ := hz
          dsimp only at h1 h2 hv
          subst h1 h2 hv
          exact ⟨hget, rfl, rfl, trivial⟩
        | some dd =>
          obtain ⟨fs, ea⟩ := hd dd rfl
          have hx : ObjOk X.prog X.w H s.heap dd (.xd fs) := I.hok dd _ ea
          obtain ⟨mA, hns, hr⟩ := hx
          obtain ⟨od, ho, hl⟩ := lookIn_ns hns
          exact ⟨some od, hget, hz.1, by unfold PySem.W.notCls; rw [hv] <;> rfl, by rw [hz.2]; exact ho⟩
      exact PySem.W.kia_one (PySem.W.kitx_excO C.hg C.hk C.hs C.hd C.ha C.hn C.ht C.hm) I.kIn J e (fun z => nomatch z) fun tk => ⟨.bl b, H, I.kept (t' := tk) fun _ _ z => z, rfl, q⟩
theorem pay_at {K : PySem.W.Frag} {G : Gr} {B H : Hp} {σ : L2.St} {e : Env} {d : Option Addr} {x : Xc} (S : Sto K G B H σ e) (h : pay G.B d x) : ∀ dd, d = some dd → ∃ fs, H dd = some (.xd fs) := fun dd hd => by
  have h := pay_sub (S.b0.trans S.sub) h
  unfold pay at h
  split at h
  · rw [h] at hd; cases hd
  · obtain ⟨dd', e1, e2⟩ := h
    rw [e1] at hd
    cases hd
    exact ⟨_, e2⟩
theorem ve_isX {X : Cx} {a C : Addr} {d : Option Addr} {oe : Obj} {pn : List (Addr × Obj)} {x : Xc} {e y : Str} {pos p p1 p2 : Pos} {names : List Str} {anc : Str → Str → Bool} {bi : List String} (T : ExT X.K X.mg names anc bi) (hc : x.cls ∈ names) (hC : X.mg x.cls = some (.ref C)) (hz : Zc (.ref C) d oe) (hf : ∃ vs, oe.data = .fields vs) (i : Nat) (hm : X.mg "isinstance" = none)
    (hy : y ∈ names := by decide +kernel) (hN : X.N[i]? = some e := by rfl) (hv : Vis X.env.scope e := by first | exact Or.inl rfl | exact Or.inr (Or.inl rfl) | exact Or.inr (Or.inr rfl)) (hd : (e == ("__debug__" : Str)) = false := by decide) (hcd : (e == ("__classdict__" : Str)) = false := by decide) (hgy : Gl X y := by rfl) (hdy : (y == ("__debug__" : Str)) = false := by decide)
    (hb : bootBuiltins "isinstance" = some (.builtin "isinstance") := by decide +kernel) (hg : Gl X "isinstance" := by rfl) (he : starEach [.Name e p1, .Name y p2] X.env = (false, eval (.Name e p1) X.env) :: starEach [.Name y p2] X.env := by rfl) (he2 : starEach [(.Name y p2 : Expr)] X.env = (false, eval (.Name y p2) X.env) :: starEach [] X.env := by rfl)
    (hpl : (backTo pos (starEach [(.Name y p2 : Expr)] X.env)).any (·.1) = false := by rfl) : VE X.K X.mg (at1 (X.suite a ((a, oe) :: pn))) (Am.exv X.K (some a) d x) (.Call (.Name "isinstance" p) [.Name e p1, .Name y p2] [] pos) (vIsE i (anc x.cls y)) := by
  obtain ⟨D, hD⟩ := T.top y hy
  refine ⟨tCB (rIsX X.K C a d) (tCons (tVar i) (tCons (tC (.ref D)) tNil)), fun _ => pe_callB (call_isX (X := X) (T.cls x.cls hc C hC) hz hf) hg hm hb (pa_cons (pe_var hN hv hd hcd) (pa_cons (pe_glob hgy hD rfl hdy) pa_nil he2) he) (by decide) (by decide) he hpl, ⟨fun G hG B H σ e Q S q => ?_⟩⟩
  unfold vIsE at q
  cases z : e[i]? with
  | none => rw [z] at q; exact q.elim
  | some s =>
    cases s with
    | tk t =>
      cases t with
      | succ t => rw [z] at q; exact q.elim
      | zero =>
        simp only [z] at q
        obtain ⟨v, hv', ok⟩ := S.sl i _ z
        have e1 := ok.tkI
        have hG1 : G.tok 0 = a := hG.1 a rfl
        rw [hG1] at e1
        subst e1
        exact ⟨_, hv', .ref D, .ref D, anc x.cls y, rfl, fun u r => by cases r; rfl, T.isi x.cls hc y hy C D hC hD, pay_at S hG.2, Po.here q S (.bl _)⟩
    | no => rw [z] at q; exact q.elim
    | sh d => rw [z] at q; exact q.elim
    | ow b d => rw [z] at q; exact q.elim
    | tr _ _ => rw [z] at q; exact q.elim
theorem ve_isXB {X : Cx} {a C : Addr} {d : Option Addr} {oe : Obj} {pn : List (Addr × Obj)} {x : Xc} {e : Str} {t : String} {y : Str} {pos p p1 p2 : Pos} {names : List Str} {anc : Str → Str → Bool} {bi : List String} (T : ExT X.K X.mg names anc bi) (hc : x.cls ∈ names) (hC : X.mg x.cls = some (.ref C)) (hz : Zc (.ref C) d oe) (hf : ∃ vs, oe.data = .fields vs) (i : Nat) (hm : X.mg "isinstance" = none) (hmy : X.mg y = none) (hby : bootBuiltins y = some (.type t))
    (hy : t ∈ bi := by decide +kernel) (hN : X.N[i]? = some e := by rfl) (hv : Vis X.env.scope e := by first | exact Or.inl rfl | exact Or.inr (Or.inl rfl) | exact Or.inr (Or.inr rfl)) (hd : (e == ("__debug__" : Str)) = false := by decide) (hcd : (e == ("__classdict__" : Str)) = false := by decide) (hgy : Gl X y := by rfl) (hdy : (y == ("__debug__" : Str)) = false := by decide) (hny : y ≠ "__name__" := by decide)
    (hb : bootBuiltins "isinstance" = some (.builtin "isinstance") := by decide +kernel) (hg : Gl X "isinstance" := by rfl) (he : starEach [.Name e p1, .Name y p2] X.env = (false, eval (.Name e p1) X.env) :: starEach [.Name y p2] X.env := by rfl) (he2 : starEach [(.Name y p2 : Expr)] X.env = (false, eval (.Name y p2) X.env) :: starEach [] X.env := by rfl)
    (hpl : (backTo pos (starEach [(.Name y p2 : Expr)] X.env)).any (·.1) = false := by rfl) : VE X.K X.mg (at1 (X.suite a ((a, oe) :: pn))) (Am.exv X.K (some a) d x) (.Call (.Name "isinstance" p) [.Name e p1, .Name y p2] [] pos) (vIsE i (anc x.cls t)) := by
  refine ⟨tCB (rIsX X.K C a d) (tCons (tVar i) (tCons (tC (.ty t)) tNil)), fun _ => pe_callB (call_isX (X := X) (T.cls x.cls hc C hC) hz hf) hg hm hb (pa_cons (pe_var hN hv hd hcd) (pa_cons (pe_bltn (v := .ty t) hgy hmy hby rfl hny hdy) pa_nil he2) he) (by decide) (by decide) he hpl, ⟨fun G hG B H σ e Q S q => ?_⟩⟩
  unfold vIsE at q
  cases z : e[i]? with
  | none => rw [z] at q; exact q.elim
  | some s =>
    cases s with
    | tk n =>
      cases n with
      | succ n => rw [z] at q; exact q.elim
      | zero =>
        simp only [z] at q
        obtain ⟨v, hv', ok⟩ := S.sl i _ z
        have e1 := ok.tkI
        have hG1 : G.tok 0 = a := hG.1 a rfl
        rw [hG1] at e1
        subst e1
        exact ⟨_, hv', .ty t, .type t, anc x.cls t, rfl, fun u r => by cases r; rfl, T.isB x.cls hc t hy C hC, pay_at S hG.2, Po.here q S (.bl _)⟩
    | no => rw [z] at q; exact q.elim
    | sh d => rw [z] at q; exact q.elim
    | ow b d => rw [z] at q; exact q.elim
    | tr _ _ => rw [z] at q; exact q.elim
/-- no class of the names has an attribute f -/
def NoAt (K : PySem.W.Frag) (mg : Str → Option Value) (names : List Str) (f : Str) : Prop := ∀ c ∈ names, ∀ C, mg c = some (.ref C) → PySem.W.findIn K (.ref C) f = some none
/-- e.f -/
theorem ve_xf {X : Cx} {a C : Addr} {d : Option Addr} {oe : Obj} {pn : List (Addr × Obj)} {x : Xc} {e f : Str} {pos p1 : Pos} {names : List Str} {anc : Str → Str → Bool} {bi : List String} (T : ExT X.K X.mg names anc bi) (hno : NoAt X.K X.mg names f) (hc : x.cls ∈ names) (hC : X.mg x.cls = some (.ref C)) (hz : Zc (.ref C) d oe) (hf : ∃ vs, oe.data = .fields vs) (i : Nat)
    (hN : X.N[i]? = some e := by rfl) (hv : Vis X.env.scope e := by first | exact Or.inl rfl | exact Or.inr (Or.inl rfl) | exact Or.inr (Or.inr rfl)) (hd : (e == ("__debug__" : Str)) = false := by decide) (hcd : (e == ("__classdict__" : Str)) = false := by decide)
    (hb : attributeBase (.Name e p1) f X.env (eval (.Name e p1) X.env) = eval (.Name e p1) X.env := by rfl) : VE X.K X.mg (at1 (X.suite a ((a, oe) :: pn))) (Am.exv X.K (some a) d x) (.Attribute (.Name e p1) f pos) (vXf i f x) := by
  have T2 := T.cls x.cls hc C hC
  refine ⟨tXf a (.ref C) d C f (tVar i), fun _ => pe_xf ⟨T2.hg, T2.hk, T2.hs, T2.hd⟩ (hno x.cls hc C hC) hz hf (pe_var hN hv hd hcd) hb, ⟨fun G hG B H σ e Q S q => ?_⟩⟩
  unfold vXf at q
  cases z : e[i]? with
  | none => rw [z] at q; exact q.elim
  | some s =>
    cases s with
    | tk n =>
      cases n with
      | succ n => rw [z] at q; exact q.elim
      | zero =>
        simp only [z] at q
        obtain ⟨v, hv', ok⟩ := S.sl i _ z
        have e1 := ok.tkI
        have hG1 : G.tok 0 = a := hG.1 a rfl
        rw [hG1] at e1
        subst e1
        have py := pay_sub (S.b0.trans S.sub) hG.2
        unfold pay at py
        cases w : x.val with
        | none => rw [w] at q; exact q.elim
        | some g =>
          obtain ⟨g, n⟩ := g
          rw [w] at q py
          simp only at q py
          obtain ⟨dd, e3, e4⟩ := py
          by_cases gf : g = f
          · rw [if_pos gf] at q
            subst gf
            exact ⟨_, hv', rfl, rfl, dd, _, .int n, e3, e4, by simp [List.lookup], Po.here q S (.int _)⟩
          · rw [if_neg gf] at q; exact q.elim
    | no => rw [z] at q; exact q.elim
    | sh d => rw [z] at q; exact q.elim
    | ow b d => rw [z] at q; exact q.elim
    | tr _ _ => rw [z] at q; exact q.elim
end VL

/-! VL17: the head's facts of errors with a number. -/
namespace VL
open PySem PySem.Spec PyProof.Rows L2
def valIs (r : Option PySem.W.CFound) (n : String) : Bool := match r with
  | some (.val (.builtin m)) => m == n
  | _ => false
theorem valIs_ok {r : Option PySem.W.CFound} {n : String} (h : valIs r n = true) : r = some (.val (.builtin n)) := by
  unfold valIs at h
  split at h
  · rw [beq_iff_eq.mp h]
  · cases h
def oexOk (K : PySem.W.Frag) (x f b : Str) : Bool := (He.Fa.glo x).ok K && ((He.Fa.glo b).ok K && (oexB K (He.ga K x) && (decide (PySem.W.findIn K (.ref (He.ga K x)) "__setattr__" = some (some (.builtin "object.__setattr__"))) &&
  (decide (PySem.W.subIn K (.ref (He.ga K x)) (.type "BaseException") = some true) && (decide (PySem.W.typeIn K (.ref (He.ga K x)) = some (.type "type")) && (PySem.W.keepIn K (.ref (He.ga K x)) &&
  (decide (PySem.W.findIn K (.ref (He.ga K x)) "__init__" = some (some (.ref (He.fAd K (x, some "__init__"))))) && (decide (PySem.W.typeIn K (.ref (He.fAd K (x, some "__init__"))) = some (.type "function")) &&
  (decide (PySem.W.findIn K (.ref (He.ga K x)) f = some none) && (decide (PySem.W.specialIn K (.ref (He.ga K b)) "__getattribute__" = some (some (.builtin "type.__getattribute__"))) &&
  (PySem.W.readsIn K (He.ga K b) (.type "type") && valIs (PySem.W.findCls K (.ref (He.ga K b)) (.type "type") "__init__") "ValueError.__init__")))))))))))
theorem Fun.of_funDq {K : PySem.W.Frag} {x q : Str} {st : Stmt} {f : Addr} {fd : FuncData} (F : FunD K x q (defArgs st) (defBody st) (defScope st) [] [] f fd) : Fun K x q st f fd := by
  obtain ⟨oc, od, dV, kV, doc, pm, an, cdv, ct, osl, rfl, lk, hcd, hd, _⟩ := F.ex
  have e : dV = .none := by
    rcases hd with ⟨_, e⟩ | ⟨h, _⟩
    · exact e
    · exact absurd rfl h
  subst e
  exact ⟨⟨oc, od, kV, doc, pm, an, cdv, ct, osl, rfl, lk, hcd⟩, F.kp⟩
theorem oexT_of {K : PySem.W.Frag} {h : Heap} {mg : Str → Option Value} {x f b p q : Str} {st : Stmt} (e : ∃ fd, FunD K "__init__" q (defArgs st) (defBody st) (defScope st) [] [] (He.fAd K (x, some "__init__")) fd) (X : K.In h) (G : h.Ns mainGlobals mg) (c : oexOk K x f b = true)
    (hb : ∀ (kV doc pm : Value) (an : Option Addr) (cdv ct : Value) (us : List Value), us.length = 2 → bindArgs (PySem.W.fnOf "__init__" q (defArgs st) (defBody st) (defScope st) .none kV doc pm an cdv ct) ⟨us, []⟩ = pure ((["self", p] : List Str).zip us)) : OexT K mg x f b st p q := by
  obtain ⟨fd, F⟩ := e
  unfold oexOk at c
  simp only [Bool.and_eq_true, decide_eq_true_eq] at c
  obtain ⟨g, gb, o, c1, c2, c3, c4, c5, c6, c7, c8, c9, c10⟩ := c
  obtain ⟨nm, qn, N, bs, bm, sn, sub, ab, col, dd, k0, k1, k2, k3, k5, hl, hr⟩ := oexB_ok o
  exact ⟨⟨_, _, fd, He.glo_ok X G g, ⟨⟨nm, qn, N, bs, bm, sn, sub, ab, col, dd, k0, k1, k2, k3, k5, hl, hr⟩, c1, c2, c3, c4⟩, c5, c6, c7, Fun.of_funDq F, fun s us hl => F.bindsA (ps := ["self", p]) hb s us hl⟩, ⟨⟨_, He.glo_ok X G gb, c8, c9, valIs_ok c10⟩⟩⟩
def noAtB (names : List Str) (f : Str) (K : PySem.W.Frag) : Bool := names.all fun c => (He.Fa.glo c).ok K && decide (PySem.W.findIn K (.ref (He.ga K c)) f = some none)
theorem noAt_of {K : PySem.W.Frag} {h : Heap} {mg : Str → Option Value} {names : List Str} {f : Str} (X : K.In h) (G : h.Ns mainGlobals mg) (c : noAtB names f K = true) : NoAt K mg names f := fun y hy C hC => by
  unfold noAtB at c
  rw [List.all_eq_true] at c
  have q := c y hy
  simp only [Bool.and_eq_true, decide_eq_true_eq] at q
  have e := (He.glo_ok X G q.1).symm.trans hC
  cases e
  exact q.2
end VL

/-! VL18: a + b of lists, a new list of one's own. -/
namespace VL
open PySem PySem.Spec PyProof.Rows L2
def rCat (K : PySem.W.Frag) : V → V → Hp → VK → Prop := fun x y H Q => ∃ (p p' : Addr) (vs vs' : List V), x = .ref p ∧ y = .ref p' ∧ SqL K H p vs ∧ SqL K H p' vs' ∧ vs.length + vs'.length ≤ vmax ∧ ∀ t, H t = none → Q (.ref t) (upd H t (.lst (vs ++ vs')))
theorem od_cat {X : Cx} : OpR X (binaryOp .Add) (rCat X.K) := by
  intro pins s σ H x y v u Q I rx ry ⟨p, p', vs, vs', e1, e2, h1, h2, hl, h⟩
  subst e1 e2
  cases rx
  cases ry
  obtain ⟨its, w1, ⟨⟨cls1, dd1, data1, sl1⟩, n1, e1, c1, _, d1⟩, _⟩ := I.list h1
  obtain ⟨its2, w2, ⟨⟨cls2, dd2, data2, sl2⟩, n2, e2, c2, _, d2⟩, _⟩ := I.list h2
  simp only at c1 d1 c2 d2
  subst c1 d1 c2 d2
  have m1 := w1.length
  have m2 := w2.length
  have hz : vs.length + vs'.length ≤ sizeLine := vle (by omega)
  refine concat_meets ⟨_, e1, rfl⟩ ⟨_, e2, rfl⟩ noFill_list_add seq_list_add PySem.F.slot_list_add PySem.F.entry_list_add (PySem.F.args_list_add_2 _ _) (list_addW p p' its.toArray its2.toArray n1 n2 dd1 dd2 sl1 sl2 (by simp only [List.size_toArray]; omega)) ⟨e1, e2, ?_⟩
  have ea : its.toArray ++ its2.toArray = (its ++ its2).toArray := by simp
  rw [ea]
  have hf : H s.heap.objs.size = none := I.hok.fresh (Nat.le_refl _)
  refine ⟨.ref _, _, I.laid (t' := s.toks) (o := .lst (vs ++ vs')) (fun b ob q => Heap.get?_push_of_some _ q) (Nat.le_refl _) ?_, rfl, h _ hf⟩
  exact ⟨by rw [List.length_append]; exact hz, _, 0, w1.append w2, Heap.get?_push_size _ rfl⟩
section
variable {K : PySem.W.Frag} {mg : Str → Option Value} {W : Am K} {ta tb : TE} {ma mb : ME}
theorem rd_catF (ha : RdE K mg W ta ma) (hb : RdE K mg W tb mb) : RdF K mg W (tOp (rCat K) ta tb) (vCatF ma mb) where
  run := fun G hG B H σ e Q S q => by
    refine ha.run G hG B H σ e _ S (Po.bind q fun x e1 v B1 H1 S1 s1 r1 h1 => ?_)
    refine hb.run G hG B1 H1 σ e1 _ S1 (Po.bind h1 fun y e2 w B2 H2 S2 s2 r2 h2 => ?_)
    obtain ⟨zs, hz, h4⟩ := h2.of
    have r1 : Rep K B1 v x := r1
    have r2 : Rep K B2 w y := r2
    cases x with
    | lst xs =>
      cases y with
      | lst ys =>
        have hz : (if xs.length + ys.length ≤ vmax then some (xs ++ ys) else none) = some zs := hz
        by_cases l : xs.length + ys.length ≤ vmax
        · rw [if_pos l] at hz
          cases hz
          cases r1 with
          | lst q1 q2 =>
            cases r2 with
            | lst q3 q4 =>
              refine ⟨_, _, _, _, rfl, rfl, same_sqL S2.sub (same_sqL s2 q1), same_sqL S2.sub q3, ?_, fresh_list S2 ((q2.mono s2).append q4) h4⟩
              rw [q2.length, q4.length]
              exact l
        · rw [if_neg l] at hz; cases hz
      | _ => cases hz
    | _ => cases hz
end
section
variable {ι : Type} {K : PySem.W.Frag} {mg : Str → Option Value} {X : ι → Cx} {W : Am K} {pos : Pos} {a b : Expr} {ma mb : ME}
theorem vf_cat (ha : VE K mg X W a ma) (hb : VE K mg X W b mb) (hK : ∀ j, (X j).K = K := by intro _; rfl) : VF K mg X W (.BinOp a .Add b pos) (vCatF ma mb) :=
  let ⟨_, p, r⟩ := ha; let ⟨_, p', r'⟩ := hb; ⟨_, fun i => pe_op (hK i ▸ od_cat : OpR (X i) (binaryOp .Add) (rCat K)) (p i) (p' i), rd_catF r r'⟩
end
end VL

/-! VL19: int(x), list(d), xs.index(y). -/
namespace VL
open PySem PySem.Spec PyProof.Rows L2
theorem cd_int {X : Cx} : CallR X (.type "int") (rDatC X.K bfInt) := by
  intro pins s σ H xs us Q I r h
  obtain ⟨G, B, σ', e, ds, d, S, rr, hd, h⟩ := h
  unfold bfInt at hd
  split at hd
  · cases hd
    cases rr with
    | cons r1 r2 =>
      cases r2
      cases r1
      exact call_int1 pins s σ H _ us Q I r (.inl ⟨_, rfl, h _ B H S (Same.refl B) (.int _)⟩)
  · cases hd
    cases rr with
    | cons r1 r2 =>
      cases r2
      cases r1
      exact call_int1 pins s σ H _ us Q I r (.inr ⟨_, rfl, h _ B H S (Same.refl B) (.int _)⟩)
  · cases hd
theorem keys_reps {K : PySem.W.Frag} {B : Hp} : ∀ {kvs : List (Key × V)} {ks : List Ky}, kvs.map (·.1) = ks → Reps K B (kvs.map fun kv => kV kv.1) (ks.map kyD)
  | [], ks, h => by
    cases h
    exact .nil
  | (k, v) :: kvs, ks, h => by
    cases h
    refine .cons ?_ (keys_reps rfl)
    cases k with
    | inl i => exact .int i
    | inr z => exact .str z
theorem cd_listK {X : Cx} (hc : X.calm = true) : CallR X (.type "list") (rDatF X.K bfListK) := by
  intro pins s σ H xs us Q I r ⟨G, B, σ', e, ds, d, S, rs, hd, h⟩
  unfold bfListK at hd
  split at hd
  · split at hd
    · cases hd
      cases rs with
      | cons r0 rr =>
        cases rr
        cases r0 with
        | dct h2 e2 q2 => exact call_listD hc pins s σ H _ us Q I r ⟨_, _, rfl, same_rd S.sub h2, new_F S (keys_reps e2) h⟩
    · cases hd
  · exact cd_list pins s σ H xs us Q I r ⟨G, B, σ', e, _, d, S, rs, hd, h⟩
theorem bool_reps {K : PySem.W.Frag} {B : Hp} : ∀ {ds : List D} {vs : List V}, allB ds = true → Reps K B vs ds → vs.all flatV = true ∧ ∀ {c : Bool} {j : Nat}, boolAt c ds = some j → ∃ z, vs[j]? = some z ∧ eqV z (.bl c) = true ∧ ∀ (m : Nat) (z' : V), m < j → vs[m]? = some z' → eqV z' (.bl c) = false
  | [], vs, _, r => by
    cases r
    exact ⟨rfl, fun {c j} h => by cases h⟩
  | d :: ds, vs, hb, r => by
    cases r with
    | @cons v vs' _ _ r1 r2 =>
      cases d with
      | bl b =>
        cases r1
        obtain ⟨h1, h2⟩ := bool_reps (ds := ds) (by simpa [allB] using hb) r2
        refine ⟨by simp [flatV, h1], fun {c j} h => ?_⟩
        unfold boolAt at h
        by_cases q : b = c
        · rw [if_pos q] at h
          cases h
          exact ⟨.bl b, rfl, by simp [eqV, q], fun m z' hm => by omega⟩
        · rw [if_neg q] at h
          cases w : boolAt c ds with
          | none => rw [w] at h; cases h
          | some i =>
            rw [w] at h
            obtain rfl : i + 1 = j := Option.some.inj h
            obtain ⟨z, e1, e2, e3⟩ := h2 w
            refine ⟨z, by simpa using e1, e2, fun m z' hm hz => ?_⟩
            cases m with
            | zero =>
              cases hz
              simpa [eqV] using q
            | succ m => exact e3 m z' (by omega) (by simpa using hz)
      | _ => simp [allB] at hb
section
variable {K : PySem.W.Frag} {mg : Str → Option Value} {W : Am K} {ta tb : TE} {ma mb : ME}
theorem rd_index (ha : RdE K mg W ta ma) (hb : RdE K mg W tb mb) : RdE K mg W (tBM K "list" (rIndex K) ta (tCons tb tNil)) (vBm1 opIndex ma mb) where
  run := fun G hG B H σ e Q S q => by
    refine ha.run G hG B H σ e _ S (Po.bind q fun x e1 v B1 H1 S1 s1 r1 h1 => ?_)
    have r1 : Rep K B1 v x := r1
    cases x with
    | lst xs =>
      cases r1 with
      | @lst a vs _ q1 q2 =>
        refine ⟨.inl ⟨rfl, vs, same_sqL S1.sub q1⟩, ?_⟩
        refine hb.run G hG B1 H1 σ e1 _ S1 (Po.bind h1 fun y e2 w B2 H2 S2 s2 r2 h2 => ?_)
        obtain ⟨d, hd, h4⟩ := h2.of
        have r2 : Rep K B2 w y := r2
        cases y with
        | bl c =>
          cases r2
          have hd : (if allB xs = true then (boolAt c xs).map (fun j => D.int (j : Nat)) else none) = some d := hd
          by_cases l : allB xs = true
          · rw [if_pos l] at hd
            cases z : boolAt c xs with
            | none => rw [z] at hd; cases hd
            | some j =>
              rw [z] at hd
              cases hd
              obtain ⟨f1, f2⟩ := bool_reps l (q2.mono s2)
              obtain ⟨u, e1', e2', e3'⟩ := f2 z
              exact ⟨a, vs, .bl c, j, u, rfl, rfl, same_sqL S2.sub (same_sqL s2 q1), rfl, f1, e1', e2', e3', Po.here h4 S2 (.int _)⟩
          · rw [if_neg l] at hd; cases hd
        | _ => cases hd
    | _ => exact h1.elim
end
section
variable {ι : Type} {K : PySem.W.Frag} {mg : Str → Option Value} {X : ι → Cx} {W : Am K} {pos apos : Pos} {o e : Expr} {ma mb : ME}
theorem ve_index (ha : VE K mg X W o ma) (hb : VE K mg X W e mb) (hK : ∀ j, (X j).K = K := by intro _; rfl) (hbase : ∀ j, attributeBase o "index" (X j).env (eval o (X j).env) = eval o (X j).env := by intro _; rfl)
    (hfew : ∀ j, ((backTo pos (starEach [e] (X j).env)).all (fun x => !x.1) && (backToKw pos (keywordEach [] (X j).env)).all (fun x => x.1.isSome) && decide (([e] : List Expr).length + ([] : List Keyword).length + (if ([] : List Keyword).isEmpty then 0 else 1) < 30)) = true := by intro _; rfl)
    (hline : (apos.endLine == pos.line) = true := by rfl) (hs : ∀ j, starEach [e] (X j).env = (false, eval e (X j).env) :: starEach [] (X j).env := by intro _; rfl) (hplain : ∀ j, (backTo pos (starEach [] (X j).env)).any (·.1) = false := by intro _; rfl) :
    VE K mg X W (.Call (.Attribute o "index" apos) [e] [] pos) (vBm1 opIndex ma mb) :=
  let ⟨_, p, r⟩ := ha; let ⟨_, p', r'⟩ := hb
  ⟨_, fun i => (hK i ▸ pe_bm PySem.F.plainAttrs_list PySem.F.slot_list_index PySem.F.type_list_index mt_index (p i) (pa_cons (p' i) pa_nil (hs i)) (hbase i) (hfew i) hline (hs i) (hplain i) : PE (X i) _ (tBM K "list" (rIndex K) _ (tCons _ tNil))), rd_index r r'⟩
end
end VL

/-! VL20: the head's run, cut into pieces (the memory of one piece is given back behind it). -/
namespace VL
open PySem PySem.Spec PyProof.Rows L2
theorem run_cut {S α β γ ε δ : Type} {o : Option S} {l : S → Bool} {k : S → α} {a : α} {fl : List ε} {fp : S → ε → Bool} {dl : List δ} {dp : S → δ → Bool} {f6 : S → Bool} {f4 : S → β} {b : β} {f5 : S → γ} {c : γ} (n m : Nat)
    (h1 : o.map l = some true) (h1b : o.map k = some a) (h2 : o.map (fun s => (fl.take n).all (fp s)) = some true) (h2b : o.map (fun s => (fl.drop n).all (fp s)) = some true)
    (h3 : o.map (fun s => (dl.take m).all (dp s)) = some true) (h3b : o.map (fun s => (dl.drop m).all (dp s)) = some true) (h3c : o.map f4 = some b) (h4 : o.map (fun s => (f5 s, f6 s)) = some (c, true)) :
    o.map (fun s => (l s, k s, (((fl.all (fp s) && dl.all (dp s), f4 s), f5 s), f6 s))) = some (true, a, (((true, b), c), true)) := by
  cases o with
  | none => cases h2
  | some s =>
    have e1 : l s = true := Option.some.inj h1
    have e2 : k s = a := Option.some.inj h1b
    have e3 : (fl.take n).all (fp s) = true := Option.some.inj h2
    have e4 : (fl.drop n).all (fp s) = true := Option.some.inj h2b
    have e5 : (dl.take m).all (dp s) = true := Option.some.inj h3
    have e6 : (dl.drop m).all (dp s) = true := Option.some.inj h3b
    have e7 : f4 s = b := Option.some.inj h3c
    obtain ⟨e8, e9⟩ := Prod.mk.inj (Option.some.inj h4)
    have e10 : fl.all (fp s) = true := by rw [← List.take_append_drop n fl, List.all_append, e3, e4]; rfl
    have e11 : dl.all (dp s) = true := by rw [← List.take_append_drop m dl, List.all_append, e5, e6]; rfl
    show some (l s, k s, (((fl.all (fp s) && dl.all (dp s), f4 s), f5 s), f6 s)) = _
    rw [e1, e2, e7, e8, e9, e10, e11]
    rfl
theorem run_cut2 {S α γ ε δ ζ : Type} {o : Option S} {l : S → Bool} {k : S → α} {a : α} {fl : List ε} {fp : S → ε → Bool} {dl : List δ} {dp : S → δ → Bool} {f6 : S → Bool} {g4 : S → δ → ζ} {v4 : δ → ζ} {f5 : S → γ} {c : γ} (n m : Nat)
    (h1 : o.map l = some true) (h1b : o.map k = some a) (h2 : o.map (fun s => (fl.take n).all (fp s)) = some true) (h2b : o.map (fun s => (fl.drop n).all (fp s)) = some true)
    (h3 : o.map (fun s => (dl.take m).all (dp s)) = some true) (h3b : o.map (fun s => (dl.drop m).all (dp s)) = some true) (h3c : o.map (fun s => (dl.take m).map (g4 s)) = some ((dl.take m).map v4)) (h3d : o.map (fun s => (dl.drop m).map (g4 s)) = some ((dl.drop m).map v4)) (h4 : o.map (fun s => (f5 s, f6 s)) = some (c, true)) :
    o.map (fun s => (l s, k s, (((fl.all (fp s) && dl.all (dp s), dl.map (g4 s)), f5 s), f6 s))) = some (true, a, (((true, dl.map v4), c), true)) := by
  refine run_cut n m h1 h1b h2 h2b h3 h3b ?_ h4
  cases o with
  | none => cases h2
  | some s =>
    have e1 : (dl.take m).map (g4 s) = (dl.take m).map v4 := Option.some.inj h3c
    have e2 : (dl.drop m).map (g4 s) = (dl.drop m).map v4 := Option.some.inj h3d
    show some (dl.map (g4 s)) = some (dl.map v4)
    rw [← List.take_append_drop m dl, List.map_append, List.map_append, e1, e2]
end VL

/-! VL21: more of texts: startswith, partition, split, not in, int of a text, a text so many times. -/
namespace VL
open PySem PySem.Spec PyProof.Rows L2
theorem od_notinS {X : Cx} : OpR X (compareOp .NotIn) (rDat X.K opNotInS) := by
  intro pins s σ H x y v u Q I rx ry ⟨G, B, σ', e, a, b, d, S, r1, r2, hd, h⟩
  unfold opNotInS at hd
  split at hd
  · cases hd
    cases r1
    cases r2
    refine op_notin_str pins s σ H _ _ v u Q I rx ry ⟨_, _, rfl, rfl, ?_⟩
    rw [Bool.not_not]
    exact h _ B H S (Same.refl B) (.bl _)
  · cases hd
theorem cd_intS {X : Cx} : CallR X (.type "int") (rDatC X.K bfIntS) := by
  intro pins s σ H xs us Q I r h
  obtain ⟨G, B, σ', e, ds, d, S, rr, hd, h⟩ := h
  unfold bfIntS at hd
  split at hd
  · cases hd
    cases rr with
    | cons r1 r2 =>
      cases r2
      cases r1
      exact call_int1 pins s σ H _ us Q I r (.inl ⟨_, rfl, h _ B H S (Same.refl B) (.int _)⟩)
  · cases hd
    cases rr with
    | cons r1 r2 =>
      cases r2
      cases r1
      exact call_int1 pins s σ H _ us Q I r (.inr ⟨_, rfl, h _ B H S (Same.refl B) (.int _)⟩)
  · split at hd
    · rename_i z hz
      obtain ⟨n, hn, rfl⟩ := Option.map_eq_some_iff.mp hd
      cases rr with
      | cons r1 r2 =>
        cases r2
        cases r1
        exact call_int_str pins s σ H _ us Q I r ⟨_, n, rfl, hn, hz, h _ B H S (Same.refl B) (.int _)⟩
    · cases hd
  · cases hd
section
variable {ι : Type} {K : PySem.W.Frag} {mg : Str → Option Value} {X : ι → Cx} {W : Am K} {pos apos : Pos} {o e : Expr} {ma mb : ME}
theorem ve_starts (ha : VE K mg X W o ma) (hb : VE K mg X W e mb) (hs : ∀ j, starEach [e] (X j).env = [(false, eval e (X j).env)] := by intro _; rfl)
    (hbase : ∀ j, attributeBase o "startswith" (X j).env (eval o (X j).env) = eval o (X j).env := by intro _; rfl) (hline : (apos.endLine == pos.line) = true := by rfl) : VE K mg X W (.Call (.Attribute o "startswith" apos) [e] [] pos) (vM1 opStarts ma mb) := by
  obtain ⟨_, p, r⟩ := ha
  obtain ⟨_, p', r'⟩ := hb
  refine ⟨_, fun i => pe_m1 F.slot_str_startswith F.type_str_startswith mt_startswith (p i) (p' i) (hs i) (hbase i) hline, rd_m1 (fun G B H σ e z y b d Q S ry hd h => ?_) r r'⟩
  cases b with
  | str w =>
    cases ry
    cases hd
    exact ⟨z, w, rfl, rfl, Po.here h S (.bl _)⟩
  | _ => cases hd
theorem ve_parti (ha : VE K mg X W o ma) (hb : VE K mg X W e mb) (hs : ∀ j, starEach [e] (X j).env = [(false, eval e (X j).env)] := by intro _; rfl)
    (hbase : ∀ j, attributeBase o "partition" (X j).env (eval o (X j).env) = eval o (X j).env := by intro _; rfl) (hline : (apos.endLine == pos.line) = true := by rfl) : VE K mg X W (.Call (.Attribute o "partition" apos) [e] [] pos) (vM1 opParti ma mb) := by
  obtain ⟨_, p, r⟩ := ha
  obtain ⟨_, p', r'⟩ := hb
  refine ⟨_, fun i => pe_partition (p i) (p' i) (hs i) (hbase i) hline, rd_m1 (fun G B H σ e z y b d Q S ry hd h => ?_) r r'⟩
  cases b with
  | str w =>
    cases ry
    have hd : (if w.length ≠ 0 ∧ z.length ≤ vmax then some (D.tup [.str (Txt.partition z w).1, .str (Txt.partition z w).2.1, .str (Txt.partition z w).2.2]) else none) = some d := hd
    by_cases q : w.length ≠ 0 ∧ z.length ≤ vmax
    · rw [if_pos q] at hd
      cases hd
      refine ⟨z, w, rfl, rfl, by simpa using q.1, vle q.2, fun p hp => ?_⟩
      exact h _ _ _ (S.alloc hp) (same_upd' (same_none S.sub hp)) (.tup (SqT.of upd_same) (.cons (.str _) (.cons (.str _) (.cons (.str _) .nil))))
    · rw [if_neg q] at hd; cases hd
  | _ => cases hd
theorem rd_mf1 {K : PySem.W.Frag} {mg : Str → Option Value} {W : Am K} {r : V → List V → Hp → VK → Prop} {op : Str → D → Option (List D)} {ta tb : TE} {ma mb : ME} (hr : ∀ (G : Gr) (B H : Hp) (σ : L2.St) (e : Env) (z : Str) (y : V) (b : D) (d : List D) (Q : VK), Sto K G B H σ e → Rep K B y b → op z b = some d → Po K mg W (rpF K) G σ B Q (.ok d e) → r (.str z) [y] H Q)
    (ha : RdE K mg W ta ma) (hb : RdE K mg W tb mb) : RdF K mg W (tM1 r ta tb) (vMF1 op ma mb) where
  run := fun G hG B H σ e Q S h => by
    refine ha.run G hG B H σ e _ S (Po.bind h fun x e1 v B1 H1 S1 s1 r1 h1 => ?_)
    have r1 : Rep K B1 v x := r1
    cases x with
    | str z =>
      cases r1
      refine ⟨⟨z, rfl⟩, hb.run G hG B1 H1 σ e1 _ S1 (Po.bind h1 fun y e2 w B2 H2 S2 s2 r2 h2 => ?_)⟩
      obtain ⟨d, hd, h3⟩ := Po.of h2
      exact hr G B2 H2 σ e2 z w y d Q S2 r2 hd h3
    | _ => exact h1.elim
theorem strs_reps {K : PySem.W.Frag} {B : Hp} : ∀ zs : List Str, Reps K B (zs.map V.str) (zs.map D.str)
  | [] => .nil
  | z :: zs => .cons (.str z) (strs_reps zs)
theorem vf_split (ha : VE K mg X W o ma) (hb : VE K mg X W e mb) (hs : ∀ j, starEach [e] (X j).env = [(false, eval e (X j).env)] := by intro _; rfl)
    (hbase : ∀ j, attributeBase o "split" (X j).env (eval o (X j).env) = eval o (X j).env := by intro _; rfl) (hline : (apos.endLine == pos.line) = true := by rfl) : VF K mg X W (.Call (.Attribute o "split" apos) [e] [] pos) (vMF1 opSplit ma mb) := by
  obtain ⟨_, p, r⟩ := ha
  obtain ⟨_, p', r'⟩ := hb
  refine ⟨_, fun i => pe_split (p i) (p' i) (hs i) (hbase i) hline, rd_mf1 (fun G B H σ e z y b d Q S ry hd h => ?_) r r'⟩
  cases b with
  | str w =>
    cases ry
    have hd : (if w.length ≠ 0 ∧ z.length + 2 ≤ vmax then some ((Txt.split z w).map D.str) else none) = some d := hd
    by_cases q : w.length ≠ 0 ∧ z.length + 2 ≤ vmax
    · rw [if_pos q] at hd
      cases hd
      exact ⟨z, w, rfl, rfl, by simpa using q.1, vle q.2, new_F S (strs_reps _) h⟩
    · rw [if_neg q] at hd; cases hd
  | _ => cases hd
end
theorem mulOk_small {z : Str} {n : Int} (q : z.length ≤ 1000 ∧ -1000 ≤ n ∧ n ≤ 1000) : MulOk z n := by
  refine ⟨by simp; omega, fun h1 _ h2 => ?_, fun h1 _ => ?_⟩
  · have h3 : (2 ^ 63 - 1) / n ≥ 1000 := by
      have : (1000 : Int) * n ≤ 2 ^ 63 - 1 := by omega
      exact (Int.le_ediv_iff_mul_le (by omega)).mpr this
    omega
  · have : z.length * n.toNat ≤ 1000 * 1000 := Nat.mul_le_mul q.1 (by omega)
    unfold Builtin.Str.tooLong
    simp
    have e : sizeLine ≥ 1000000 := by decide
    omega
theorem od_mulS {X : Cx} : OpR X (binaryOp .Mult) (rDat X.K opMulS) := by
  intro pins s σ H x y v u Q I rx ry ⟨G, B, σ', e, a, b, d, S, r1, r2, hd, h⟩
  unfold opMulS at hd
  split at hd
  · rename_i z n
    split at hd
    · rename_i q
      cases hd
      cases r1
      cases r2
      obtain ⟨t, rfl⟩ := rx
      obtain ⟨t', rfl⟩ := ry
      exact SB.mul (mulOk_small q) fun t'' k => ⟨.str _, H, I.tok k, ⟨t'', rfl⟩, h _ B H S (Same.refl B) (.str _)⟩
    · cases hd
  · cases hd
end VL

/-! VL22: texts (join, in, str of a text); comprehensions whose element may raise. -/
namespace VL
open PySem PySem.Spec PyProof.Rows L2
theorem od_inS {X : Cx} : OpR X (compareOp .In) (rDat X.K opInS) := by
  intro pins s σ H x y v u Q I rx ry ⟨G, B, σ', e, a, b, d, S, r1, r2, hd, h⟩
  unfold opInS at hd
  split at hd
  · cases hd
    cases r1
    cases r2
    exact op_in_str pins s σ H _ _ v u Q I rx ry ⟨_, _, rfl, rfl, h _ B H S (Same.refl B) (.bl _)⟩
  · cases hd
theorem cd_strS {X : Cx} : CallR X (.type "str") (rDatC X.K bfStrS) := by
  intro pins s σ H xs us Q I r h
  obtain ⟨G, B, σ', e, ds, d, S, rr, hd, h⟩ := h
  unfold bfStrS at hd
  split at hd
  · rename_i i
    split at hd
    · rename_i hz
      cases hd
      cases rr with
      | cons r1 r2 =>
        cases r2
        cases r1
        exact call_str_int pins s σ H _ us Q I r ⟨i, rfl, hz, h _ B H S (Same.refl B) (.str _)⟩
    · cases hd
  · cases hd
    cases rr with
    | cons r1 r2 =>
      cases r2
      cases r1
      exact SkE.call_str_str pins s σ H _ us Q I r ⟨_, rfl, h _ B H S (Same.refl B) (.str _)⟩
  · cases hd
theorem strsD_reps {K : PySem.W.Frag} {B : Hp} : ∀ {ds : List D} {ys : List Str} {vs : List V}, strsD ds = some ys → Reps K B vs ds → vs = ys.map V.str
  | [], _, _, h, r => by
    cases h
    cases r
    rfl
  | d :: ds, ys, vs, h, r => by
    cases r with
    | @cons v _ vs' _ r1 r2 =>
      cases d with
      | str z =>
        have h : (strsD ds).map (z :: ·) = some ys := h
        obtain ⟨zs, hz, rfl⟩ := Option.map_eq_some_iff.mp h
        cases r1
        rw [strsD_reps hz r2]
        rfl
      | _ => cases h
section
variable {ι : Type} {K : PySem.W.Frag} {mg : Str → Option Value} {X : ι → Cx} {W : Am K} {pos apos : Pos} {o e : Expr} {ma mb : ME}
theorem ve_join (ha : VE K mg X W o ma) (hb : VE K mg X W e mb) (hs : ∀ j, starEach [e] (X j).env = [(false, eval e (X j).env)] := by intro _; rfl)
    (hbase : ∀ j, attributeBase o "join" (X j).env (eval o (X j).env) = eval o (X j).env := by intro _; rfl) (hline : (apos.endLine == pos.line) = true := by rfl) (hK : ∀ j, (X j).K = K := by intro _; rfl) : VE K mg X W (.Call (.Attribute o "join" apos) [e] [] pos) (vM1 opJoin ma mb) := by
  obtain ⟨_, p, r⟩ := ha
  obtain ⟨_, p', r'⟩ := hb
  refine ⟨_, fun i => by have q := pe_join (pos := pos) (apos := apos) (p i) (p' i) (hs i) (hbase i) hline; rw [hK i] at q; exact q, rd_m1 (fun G B H σ e z y b d Q S ry hd h => ?_) r r'⟩
  cases b with
  | lst ds =>
    have hd : (match strsD ds with
      | some ys => if (ys.map (·.length)).sum + ys.length * z.length ≤ 16777216 then some (D.str (Txt.join z ys)) else none
      | none => none) = some d := hd
    cases hz : strsD ds with
    | none => rw [hz] at hd; cases hd
    | some ys =>
      rw [hz] at hd
      by_cases q : (ys.map (·.length)).sum + ys.length * z.length ≤ 16777216
      · have hd : (if (ys.map (·.length)).sum + ys.length * z.length ≤ 16777216 then some (D.str (Txt.join z ys)) else none) = some d := hd
        rw [if_pos q] at hd
        cases hd
        cases ry with
        | lst q1 q2 =>
          have e := strsD_reps hz q2
          subst e
          exact ⟨z, _, ys, rfl, rfl, .inl (same_sqL S.sub q1), q, Po.here h S (.str _)⟩
      · have hd : (if (ys.map (·.length)).sum + ys.length * z.length ≤ 16777216 then some (D.str (Txt.join z ys)) else none) = some d := hd
        rw [if_neg q] at hd; cases hd
  | _ => cases hd
end
/-! ### an exception out of a block -/
section
variable {X : Cx} {pins : List (Addr × Obj)} {σ : L2.St} {H : Hp} {sI s s' : Shared} {B : Heap} {W : WX} {E : XK}
theorem noted_out {cenv : PySem.Env} {a : Addr} {cls : Value} {d : Option Addr} {m : Str → Option Value} (tk : Takes X W) (hs : X.stack = X.env :: X.outer) (hf : X.env.frame = some X.env.locals) (hcf : cenv.frame = X.env.frame)
    (I : Inv X pins σ H sI) (nb : ∀ b o, sI.heap.get? b = some o → b ∉ frs X.stack → B.get? b = some o) (up : sI.heap.UpToSlots s'.heap) (sky : Sky B X.stack a (Zc cls d) X.env.locals s'.heap) (na : H a = none) (os : s'.os = sI.os) (ag : AllBare s'.gens) (w : W cls d σ H)
    (hn : sI.heap.Ns cenv.locals m) (f : FpOk X pins H cenv.locals) : notedBy (model X.prog X.w) X.A cenv (CompFails (model X.prog X.w) X.A X.xe cenv) (.ref a) s' := by
  show wpAny _ _ (noteFrame (.ref a) cenv) _ _ s'
  rw [noteFrame_env _ hcf]
  have hfr : X.A.frames = some (X.env :: X.outer) := by rw [I.ok.frames, hs]
  obtain ⟨f0, fL, ff, f3, f4, f5⟩ := f
  have hCs : cenv.locals ∉ frs X.stack := fun hm => by
    rcases List.mem_cons.mp (I.stkSub _ hm) with z | z
    · exact fL z
    · exact ff z
  have hnB : B.Ns cenv.locals m := by
    obtain ⟨oL, es, ep, hoL, r⟩ := hn
    exact ⟨oL, es, ep, nb _ _ hoL hCs, r⟩
  have fin : ∀ h1, HandSPX.HeldZ B X.stack a (Zc cls d) X.env.locals h1 → s'.heap.UpToSlots h1 → CompFails (model X.prog X.w) X.A X.xe cenv (.ref a) { s' with heap := h1 } := by
    intro h1 ⟨b1, b0, f1, t1⟩ up1
    have hn1 : h1.Ns cenv.locals m := by
      obtain ⟨oL, es, ep, hoL, r⟩ := hnB
      exact ⟨oL, es, ep, b1 _ _ hoL, r⟩
    refine ⟨m, hn1, fun h2 m2 hn2 sb => ?_⟩
    obtain ⟨oB, _, _, hoB, _⟩ := id hnB
    obtain ⟨G, g1, g2⟩ := restrict h2 fun b => (B.get? b).isSome
    have gn : ∀ b, B.get? b = none → G.get? b = none := fun b e => g2 b (by rw [e]; rfl)
    have gs : ∀ b o, B.get? b = some o → G.get? b = h2.get? b := fun b o e => g1 b (by rw [e]; rfl)
    have GS : G.StaysIn h2 := fun b o e => by
      cases q : B.get? b with
      | none => rw [gn b q] at e; cases e
      | some o' => rw [gs b o' q] at e; exact e
    have f2 : h2.FunFrames G X.stack := funFrames_none (Heap.FunFrames.sameBut sb hn2 f1) fun L hL => gn L (f1.mem hL).1
    obtain ⟨oe, vs, T, oT, ts, he, hz, hd, ho1, hnT, hTe, hT, hdT, ht3⟩ := t1
    have aC : a ≠ cenv.locals := fun z => by rw [z, hoB] at b0; cases b0
    have TC : T ≠ cenv.locals := fun z => by rw [z, hoB] at hnT; cases hnT
    have he2 : h2.get? a = some oe := (sb.2 a aC).trans he
    have t2 : HandSPX.TracedZ h2 G a (Zc cls d) (rawInt X.env.locals) := ⟨oe, vs, T, oT, ts, he2, hz, hd, ho1, gn T hnT, hTe, (sb.2 T TC).trans hT, hdT, ht3⟩
    unfold PySem.passOn
    refine wpAny_bind (wpAny_field (s := { s' with heap := h2 }) he2 hd ho1 ?_)
    rw [if_neg (show ¬ ((Value.ref T == Value.none) = true) from by simp)]
    rw [hcf, hf]
    refine wpAny_bind (HandSPX.setFlight_anyZ (s := { s' with heap := h2 }) (l := X.stack) GS f2 t2 fun h3 b3 f3' t3 k3 => wpAny_throw ?_)
    -- the ground without the block
    obtain ⟨oC, esC, epC, hoC, hdC⟩ := hn
    obtain ⟨o2, es2, ep2, ho2, hd2⟩ := hn2
    have gC : (sI.heap.update cenv.locals fun _ => o2).get? cenv.locals = some o2 := Heap.get?_update_self (fun _ => o2) hoC (by
      obtain ⟨c0, d0, dt0, sl0⟩ := o2
      have z : dt0 = _ := hd2.1
      subst z
      rfl)
    have gO : ∀ b, b ≠ cenv.locals → (sI.heap.update cenv.locals fun _ => o2).get? b = sI.heap.get? b := fun b hb => Heap.get?_update_other _ _ (Ne.symm hb)
    refine tk _ _ ⟨a, G, { sI with heap := sI.heap.update cenv.locals fun _ => o2 }, pins, σ, H, cls, d, rfl, I.turned (t' := sI.toks) (fun b o hb e => (gO b hb).trans e) f0 fL f3 f4 f5, fun b o e hb => ?_, fun b o e hnf => ?_, .inr (.inr ⟨b3, gn a b0, f3', t3⟩), na, os, ag, w⟩
    · by_cases z : b = cenv.locals
      · subst z
        have e : (sI.heap.update cenv.locals fun _ => o2).get? cenv.locals = some o := e
        rw [gC] at e
        cases e
        rw [gs _ _ hoB]
        exact ho2
      · have e : (sI.heap.update cenv.locals fun _ => o2).get? b = some o := e
        rw [gO b z] at e
        have q := nb b o e hb
        rw [gs b o q]
        exact (sb.2 b z).trans (b1 b o q)
    · by_cases z : b = cenv.locals
      · subst z
        have e : (sI.heap.update cenv.locals fun _ => o2).get? cenv.locals = some o := e
        rw [gC] at e
        cases e
        exact k3 _ _ ho2 hnf
      · have e : (sI.heap.update cenv.locals fun _ => o2).get? b = some o := e
        rw [gO b z] at e
        obtain ⟨sl1, e1⟩ := up b o e hnf
        obtain ⟨sl2, e2⟩ := up1 b _ e1 hnf
        have e2' : h2.get? b = some { o with slots := sl2 } := (sb.2 b z).trans e2
        obtain ⟨sl3, e3⟩ := k3 b _ e2' hnf
        exact ⟨sl3, e3⟩
  rw [hs] at sky fin
  rcases sky with ⟨hB, hne, hl, oe, vs, he, hz, hd, h1⟩ | fl | hh
  · exact HandSPX.look_newZ Zc.steady hfr hl hf he hB hne hd h1 hz fin
  · exact HandSPX.looks_onZ Zc.steady hfr hf fl fin
  · exact HandSPX.againZ hf hh.2.2.2 (fin s'.heap hh (Heap.UpToSlots.refl _))
/-- a call in the block: its exception goes out of the block -/
theorem blk_passes {scope : Scope} {cenv : PySem.Env} {fp : List Addr} {H3 : Hp} {s3 : Shared} {σb : L2.St} (tk : Takes X W) (hW : ∀ c d σ σ' H, W c d σ H → W c d σ' H) (hs : X.stack = X.env :: X.outer) (hf : X.env.frame = some X.env.locals) (hcf : cenv.frame = X.env.frame)
    (I3 : Inv X pins σ H3 s3) (hC : s3.heap.objs.size ≤ cenv.locals) (hfp : ∀ b ∈ fp, FpOk X pins H3 b) :
    PassesAt (L2.CX X.prog X.w) ((X.blk s3 H3 scope cenv fp).tr [] (notedBy (model X.prog X.w) X.A cenv (CompFails (model X.prog X.w) X.A X.xe cenv))) σb (WE W σb) := by
  intro pinsb Hb s e s' J c
  have I : Inv X pins σ Hb s := I3.call' (ch := fp) J.os J.base J.hok J.bare fun b hb => ⟨(hfp b hb).2.2.2.1, (hfp b hb).2.1, (hfp b hb).2.2.2.2.1, (hfp b hb).2.2.2.2.2⟩
  have JF : Hb cenv.locals = none := J.free
  obtain ⟨m, hn, _⟩ := J.loc
  have hn : s.heap.Ns cenv.locals m := hn
  have c : L2.CX X.prog X.w X.stack Hb s (WE W σb) e s' := c
  obtain ⟨a, B, H', cls, d, rfl, fl, hok, ub, na, os, ag, hE⟩ := c
  obtain ⟨oC, esC, epC, hoC, rC⟩ := id hn
  have fC : FpOk X pins H' cenv.locals := I3.fpOk hC (ub.free _ _ hoC JF)
  have hCs : cenv.locals ∉ frs X.stack := fun hm => by
    rcases List.mem_cons.mp (I.stkSub _ hm) with z | z
    · exact fC.2.1 z
    · exact fC.2.2.1 z
  obtain ⟨G, g1, g2⟩ := restrict s'.heap fun b => (B.get? b).isSome || decide (b ∈ frs X.stack)
  have st : B.StaysIn s'.heap := fl.1
  have gB : ∀ b o, B.get? b = some o → G.get? b = some o := fun b o e => by
    rw [g1 b (by simp [e])]
    exact st b o e
  have gF : ∀ b, b ∈ frs X.stack → G.get? b = s'.heap.get? b := fun b hb => g1 b (by simp [hb])
  have og : ∀ b o, G.get? b = some o → s'.heap.get? b = some o ∧ ((B.get? b).isSome = true ∨ b ∈ frs X.stack) := fun b o e => by
    cases q : ((B.get? b).isSome || decide (b ∈ frs X.stack)) with
    | false => rw [g2 b q] at e; cases e
    | true =>
      rw [g1 b q] at e
      exact ⟨e, by simpa [Bool.or_eq_true] using q⟩
  refine noted_out (sI := { s with heap := G, gens := s'.gens, drawn := s'.drawn, toks := s'.toks }) (B := B) (pins := pins) (σ := σ) (H := H') (m := m) tk hs hf hcf ?_ (fun b o e hb => ?_) (Heap.UpToSlots.of_keeps fun b o e => (og b o e).1) (.inr (.inl fl)) na os ag (hW _ _ _ _ _ hE) ?_ fC
  · refine I.call (ch := []) ⟨fun b o e n hb _ => gB b o (ub.keep b o e n hb), fun b o e n hb _ => ?_, fun b o e n _ => ub.free b o e n, fun b o e _ => ?_, ub.tups, ub.frzs, ub.tbls⟩ (hok.kept gB) ag (fun _ z => nomatch z)
    · obtain ⟨sl, q⟩ := ub.slot b o e hb
      exact ⟨sl, by rw [gF b hb]; exact q⟩
    · by_cases hb : b ∈ frs X.stack
      · obtain ⟨sl, q⟩ := ub.slot b o e hb
        exact ⟨_, by rw [gF b hb]; exact q⟩
      · obtain ⟨o', q⟩ := ub.there b o e hb
        exact ⟨o', gB b o' q⟩
  · obtain ⟨e', h⟩ := og b o e
    rcases h with h | h
    · obtain ⟨o', q⟩ := Option.isSome_iff_exists.mp h
      have z := st b o' q
      rw [e'] at z; cases z
      exact q
    · exact absurd h hb
  · exact ⟨oC, esC, epC, gB _ _ (ub.keep _ _ hoC JF hCs), rC⟩
end
theorem Inv.tr0 {X : Cx} {pins : List (Addr × Obj)} {σ : L2.St} {H : Hp} {s : Shared} (I : Inv X pins σ H s) (xe : Value → Shared → Prop) (h : X.pn = []) : Inv (X.tr [] xe) pins σ H s :=
  ⟨I.ok.toTry [] xe, I.os, I.bare, I.base, I.loc, I.cell, I.free, I.freeC, fun p hp => I.pin p (by rw [h]; exact hp), I.hok, I.len⟩
theorem Inv.tr0' {X : Cx} {pins : List (Addr × Obj)} {σ : L2.St} {H : Hp} {s : Shared} {xe : Value → Shared → Prop} (I : Inv (X.tr [] xe) pins σ H s) (h : X.pn = []) : Inv X pins σ H s :=
  ⟨I.ok.ofTry, I.os, I.bare, I.base, I.loc, I.cell, I.free, I.freeC, fun p hp => I.pin p (by rw [h] at hp; exact hp), I.hok, I.len⟩

section
variable {X : Cx}
/-- a list comprehension whose element may raise; what its element may let out is told by W, which asks nothing of the slots -/
theorem lc_coreX {W : WX} {pins : List (Addr × Obj)} {s : Shared} {σ : L2.St} {H : Hp} {Q : VK} {elt tg iter : Expr} {ifs : List Expr} {scope : Scope} {own : List (Str × Nat)} {pos pos' : Pos} {wi : TI} {g : TG} {tt : TT} {te : TE} {use : Option (Value → Sem Unit)} {Qf : Value → Shared → Prop}
    (tk : Takes X W) (hW : ∀ c d σ σ' H, W c d σ H → W c d σ' H) (hst : X.stack = X.env :: X.outer) (hf : X.env.frame = some X.env.locals)
    (hc : X.calm = true) (hN : X.N.Nodup) (I : Inv X pins σ H s) (hi : PI X tg iter wi) (ok : BlkOk X.N X.env.scope scope own)
    (hg : ∀ (s : Shared) (H : Hp) (C : Addr) (cl : List (Str × Addr)) (fp : List Addr), PG (X.blk s H scope (compEnvC scope cl C X.env) fp) tg g) (ht : ∀ (s : Shared) (H : Hp) (C : Addr) (cl : List (Str × Addr)) (fp : List Addr), PTs (X.blk s H scope (compEnvC scope cl C X.env) fp) ifs tt)
    (he : ∀ (s : Shared) (H : Hp) (C : Addr) (cl : List (Str × Addr)) (fp : List Addr) (xe : Value → Shared → Prop), (∀ σ, PassesAt (L2.CX X.prog X.w) ((X.blk s H scope (compEnvC scope cl C X.env) fp).tr [] xe) σ (WE W σ)) → PE ((X.blk s H scope (compEnvC scope cl C X.env) fp).tr [] xe) elt te) (hs : ∀ x, foldedSetIterable iter X.env x = pure x)
    (h : tLc wi g tt te (own.map (·.2)) σ H Q)
    (hRR : ∀ (D : Addr) (ce : PySem.Env) s' m H', Inv X pins σ H' s' → Q (.ref D) H' → s'.heap.Ns ce.locals m → FpOk X pins H' ce.locals → compEnds (model X.prog X.w) X.A X.xe use Qf (.ref D) ce (.ok .next) s') :
    wpAny (model X.prog X.w) X.A (comprehension (.ListComp elt [⟨tg, iter, ifs, 0⟩] scope pos) scope X.env pos' (newList []) false (eval iter X.env) use) Qf X.xe s := by
  have hfree : ∀ y ∈ scope.names, y.2 = .free → ∃ c, X.env.cells.lookup y.1 = some c := fun y hy e => by
    rcases ok.free y hy e with k | k
    · exact I.ok.has _ (.inl k)
    · exact I.ok.has _ (.inr k)
  refine comprehension_at (use := use) rfl hs (closure_ok hfree) ok.kind (fun y hy e => by rw [ok.uniq y hy, e])
    (thn (hi.run pins s σ H _ I h) fun xv s1 hx => thn hx fun itv s2 h2 => ?_)
  obtain ⟨it, fp, tn, J, H2, e, I2, T, st2, f2, q⟩ := h2
  subst e
  refine wpAny_newObj_type (newEnv_comp ?_) (by show 0 ≤ sizeLine; decide)
  generalize hD : s2.heap.objs.size = D
  have hDn : H2 D = none := I2.hok.fresh (Nat.le_of_eq hD)
  obtain ⟨W', ⟨m0, w0⟩, turn⟩ := q D hDn
  generalize hs3 : ({ s2 with heap := s2.heap.push { cls := .type "list", data := .seq ([] : List Value).toArray } } : Shared) = s3
  have I3 : Inv X pins σ (upd H2 D (.lst [])) s3 := by
    rw [← hs3]
    refine I2.laid (t' := s2.toks) (fun b o e => Heap.get?_push_of_some _ e) (Nat.le_of_eq hD) ⟨Nat.zero_le _, [], 0, .nil, ?_⟩
    rw [← hD]
    exact Heap.get?_push_size _ rfl
  have h3 : s3.heap = s2.heap.push { cls := .type "list", data := .seq ([] : List Value).toArray } := by rw [← hs3]
  have sz : ∀ b ∈ fp, b < s2.heap.objs.size := fun b hb => by
    obtain ⟨o, e, _⟩ := T.obj _ _ st2 b hb
    exact Heap.lt_size e
  have f3 : ∀ b ∈ fp, FpOk X pins (upd H2 D (.lst [])) b ∧ b < s3.heap.objs.size := fun b hb => by
    have hlt := sz b hb
    refine ⟨⟨?_, (f2 b hb).2⟩, by rw [h3, Heap.size_push]; exact Nat.lt_succ_of_lt hlt⟩
    rw [upd_ne (by rw [← hD]; exact Nat.ne_of_lt hlt)]
    exact (f2 b hb).1
  have st3 : tn 0 s3.heap := T.keep _ _ _ st2 fun b _ o e => by rw [h3]; exact Heap.get?_push_of_some _ e
  have I4 := block_start I3 ok hN f3
  have pg := hg s3 (upd H2 D (.lst [])) s3.heap.objs.size (cellsFrom (s3.heap.objs.size + 1) scope.names (cloFrom X.env.cells scope.names [])) fp
  have pt := ht s3 (upd H2 D (.lst [])) s3.heap.objs.size (cellsFrom (s3.heap.objs.size + 1) scope.names (cloFrom X.env.cells scope.names [])) fp
  have pe := he s3 (upd H2 D (.lst [])) s3.heap.objs.size (cellsFrom (s3.heap.objs.size + 1) scope.names (cloFrom X.env.cells scope.names [])) fp _
    (fun σb => blk_passes (scope := scope) (σb := σb) tk hW hst hf (cenv := compEnvC scope (cellsFrom (s3.heap.objs.size + 1) scope.names (cloFrom X.env.cells scope.names [])) s3.heap.objs.size X.env) rfl I3 (Nat.le_refl _) fun b hb => (f3 b hb).1)
  show codeAny _ _ (.compStart (.ListComp elt [⟨tg, iter, ifs, 0⟩] scope pos) 0 (.ref it) (.ref D) (compEnvC scope (cellsFrom (s3.heap.objs.size + 1) scope.names (cloFrom X.env.cells scope.names [])) s3.heap.objs.size X.env)) (compEnds (model X.prog X.w) X.A X.xe use Qf (.ref D) (compEnvC scope (cellsFrom (s3.heap.objs.size + 1) scope.names (cloFrom X.env.cells scope.names [])) s3.heap.objs.size X.env)) { s3 with heap := pushCells (s3.heap.push { cls := .type "dict", data := .dict #[] }) scope.names }
  have nfp : ∀ b ∈ fp, (upd H2 D (.lst [])) b = none := fun b hb => (f3 b hb).1.1
  generalize hce : compEnvC scope (cellsFrom (s3.heap.objs.size + 1) scope.names (cloFrom X.env.cells scope.names [])) s3.heap.objs.size X.env = ce at I4 pg pt pe ⊢
  have cL : ce.locals = s3.heap.objs.size := by subst hce; rfl
  generalize hH3 : upd H2 D (.lst []) = H3 at I3 I4 pg pt pe w0 nfp f3
  generalize hs4 : ({ s3 with heap := pushCells (s3.heap.push { cls := .type "dict", data := .dict #[] }) scope.names } : Shared) = s4 at I4 ⊢
  have st4 : tn 0 s4.heap := T.keep _ _ _ st3 fun b _ o e => by rw [← hs4]; exact pushCells_keeps _ _ _ _ (Heap.get?_push_of_some _ e)
  have stat : ∀ {σ' : L2.St} {H' : Hp} {s' : Shared}, Inv (X.blk s3 H3 scope ce fp) [] σ' H' s' → (∀ b ∈ fp, H' b = none) → ∀ b ∈ fp, FpOk (X.blk s3 H3 scope ce fp) [] H' b := fun {σ' H' s'} I' hn b hb =>
    ⟨hn b hb, (I'.ok.exf b hb).1, I'.ok.exfs b hb, .inl hb, fun x c e => (I'.ok.exf b hb).2 x c e, fun p hp => absurd (show p ∈ ([] : List (Addr × Obj)) ++ [] from hp) (by simp)⟩
  have loop : codeAny (model X.prog X.w) X.A (.compLoop (.ListComp elt [⟨tg, iter, ifs, 0⟩] scope pos) 0 (.ref it) (.ref D) ce) (compEnds (model X.prog X.w) X.A X.xe use Qf (.ref D) ce) s4 := by
    refine compLoop_any (fun n s' => ∃ i H', Inv (X.blk s3 H3 scope ce fp) [] (wipe σ (own.map (·.2))) H' s' ∧ tn i s'.heap ∧ (∀ b ∈ fp, H' b = none) ∧ W' i n H') ?_ m0 ⟨0, H3, I4, st4, nfp, w0⟩
    rintro n s5 ⟨i, H5, I5, st5, n5, w5⟩
    rcases turn i n H5 w5 with ⟨stop, qq⟩ | ⟨go, Nx, hNx, step⟩
    · have td := T.done (X.blk s3 H3 scope ce fp) rfl rfl rfl hc i [] s5 _ H5 (fun _ _ => False) I5 (stat I5 n5) st5 stop
      refine thnF td fun r s6 ⟨hr, I6⟩ => ?_
      subst hr
      have I7 : Inv X pins σ H5 s6 := I3.call' (ch := fp) I6.os I6.base I6.hok I6.bare fun b hb => ⟨(f3 b hb).1.2.2.2.1, (f3 b hb).1.2.1, (f3 b hb).1.2.2.2.2.1, (f3 b hb).1.2.2.2.2.2⟩
      have nC : H5 ce.locals = none := I6.free
      obtain ⟨m, hn, _⟩ := I6.loc
      exact hRR D ce s6 m H5 I7 qq hn (by rw [cL] at nC ⊢; exact I3.fpOk (Nat.le_refl _) nC)
    · have ti := T.item (X.blk s3 H3 scope ce fp) rfl rfl rfl hc i [] s5 _ H5 (fun _ _ => False) I5 (stat I5 n5) st5 go
      refine thnF ti fun r s6 ⟨u, hr, h6⟩ => ?_
      subst hr
      refine thnF h6 fun _ s7 ⟨x, H7, I7, r7, y7, st7, n7⟩ => ?_
      have I7' := I7.pinned (stat I7 n7) (T.obj _ _ st7)
      refine thnF (pg.run _ s7 _ H7 x u _ I7' r7 (step x H7 y7)) fun _ s8 ⟨σ8, H8, I8, hw8, q8⟩ => ?_
      refine thnF (pt.run _ s8 σ8 H8 _ I8 q8) fun b s9 ⟨H9, I9, q9⟩ => ?_
      have fin : ∀ {s' : Shared} {H' : Hp}, Inv (X.blk s3 H3 scope ce fp) ([] ++ pinsAt fp s7.heap) σ8 H' s' → Nx H' → ∃ m, m < n ∧ ∃ i H', Inv (X.blk s3 H3 scope ce fp) [] (wipe σ (own.map (·.2))) H' s' ∧ tn i s'.heap ∧ (∀ b ∈ fp, H' b = none) ∧ W' i m H' := fun {s' H'} I' nx => by
        obtain ⟨m', hm, w'⟩ := hNx H' nx
        have pin' : ∀ b ∈ fp, ∀ o, s7.heap.get? b = some o → s'.heap.get? b = some o ∧ H' b = none := fun b hb o e =>
          let z := I'.pin (b, o) (List.mem_append_right _ (List.mem_append_right _ (mem_pinsAt hb e)))
          ⟨z.1, z.2.1⟩
        have hl : (wipe σ (own.map (·.2))).length = σ8.length := by rw [← hw8, wipe_length]
        refine ⟨m', hm, i + 1, H', (I'.unpinned (pins := [])).weak hl (fun j v e => ?_), T.keep _ _ _ st7 fun b hb o e => (pin' b hb o e).1, fun b hb => ?_, w'⟩
        · rw [← hw8] at e
          exact (wipe_some e).1
        · obtain ⟨o, e, _⟩ := T.obj _ _ st7 b hb
          exact (pin' b hb o e).2
      cases b with
      | false =>
        simp only [Bool.false_eq_true, if_false] at q9 ⊢
        exact fin I9 q9
      | true =>
        simp only [if_true] at q9 ⊢
        refine wpAny_mono (pe.run _ s9 σ8 H9 _ (Inv.tr0 I9 _ rfl) q9) (fun z s10 ⟨yv, H10, I10, r10, acc, hD10, hz10, nx⟩ => ?_) (fun u s10 z => ?_)
        · exact app_ok (X := X.blk s3 H3 scope ce fp) (Inv.tr0' I10 rfl) hD10 hz10 r10 fun s11 I11 => fin I11 nx
        · have eq : (fun e s' => compEnds (model X.prog X.w) X.A X.xe use Qf (.ref D) ce (.error e) s') = CompFails (model X.prog X.w) X.A X.xe ce := by cases use <;> rfl
          rw [eq]
          subst hce
          exact z
  exact codeAny_compStart_list loop (T.self X.A 0 _ _ _ st4 loop)
theorem pe_lcX {W : WX} {elt tg iter : Expr} {ifs : List Expr} {scope : Scope} {own : List (Str × Nat)} {pos : Pos} {wi : TI} {g : TG} {tt : TT} {te : TE} (tk : Takes X W) (hW : ∀ c d σ σ' H, W c d σ H → W c d σ' H) (hst : X.stack = X.env :: X.outer) (hf : X.env.frame = some X.env.locals) (hc : X.calm = true) (hN : X.N.Nodup) (hi : PI X tg iter wi) (ok : BlkOk X.N X.env.scope scope own)
    (hg : ∀ (s : Shared) (H : Hp) (C : Addr) (cl : List (Str × Addr)) (fp : List Addr), PG (X.blk s H scope (compEnvC scope cl C X.env) fp) tg g) (ht : ∀ (s : Shared) (H : Hp) (C : Addr) (cl : List (Str × Addr)) (fp : List Addr), PTs (X.blk s H scope (compEnvC scope cl C X.env) fp) ifs tt)
    (he : ∀ (s : Shared) (H : Hp) (C : Addr) (cl : List (Str × Addr)) (fp : List Addr) (xe : Value → Shared → Prop), (∀ σ, PassesAt (L2.CX X.prog X.w) ((X.blk s H scope (compEnvC scope cl C X.env) fp).tr [] xe) σ (WE W σ)) → PE ((X.blk s H scope (compEnvC scope cl C X.env) fp).tr [] xe) elt te) (hs : ∀ x, foldedSetIterable iter X.env x = pure x) :
    PE X (.ListComp elt [⟨tg, iter, ifs, 0⟩] scope pos) (tLc wi g tt te (own.map (·.2))) := by
  refine ⟨fun pins s σ H Q I h => ?_⟩
  rw [eval_ListComp]
  refine lc_coreX tk hW hst hf hc hN I hi ok hg ht he hs h fun D C s' m H' I' q hn f => ⟨m, hn, fun h'' sb => ?_⟩
  obtain ⟨f0, f1, f2, f3, f4, f5⟩ := f
  exact ⟨.ref D, H', I'.turned (t' := s'.toks) (fun b o hb e => (sb.2 b hb).trans e) f0 f1 f3 f4 f5, rfl, q⟩
theorem ps_setLcX {W : WX} {i : Nat} {y : Str} {py : Pos} {elt tg iter : Expr} {ifs : List Expr} {scope : Scope} {own : List (Str × Nat)} {pos spos : Pos} {wi : TI} {g : TG} {tt : TT} {te : TE} (tk : Takes X W) (hW : ∀ c d σ σ' H, W c d σ H → W c d σ' H) (hst : X.stack = X.env :: X.outer) (hf : X.env.frame = some X.env.locals) (hc : X.calm = true) (hN : X.N.Nodup) (hy : X.N[i]? = some y) (hyl : X.env.scope.names.lookup y = some .local)
    (hsw : swapsWith (.ListComp elt [⟨tg, iter, ifs, 0⟩] scope pos) (some (.Name y py)) spos.line X.env = pure true) (hi : PI X tg iter wi) (ok : BlkOk X.N X.env.scope scope own)
    (hg : ∀ (s : Shared) (H : Hp) (C : Addr) (cl : List (Str × Addr)) (fp : List Addr), PG (X.blk s H scope (compEnvC scope cl C X.env) fp) tg g) (ht : ∀ (s : Shared) (H : Hp) (C : Addr) (cl : List (Str × Addr)) (fp : List Addr), PTs (X.blk s H scope (compEnvC scope cl C X.env) fp) ifs tt)
    (he : ∀ (s : Shared) (H : Hp) (C : Addr) (cl : List (Str × Addr)) (fp : List Addr) (xe : Value → Shared → Prop), (∀ σ, PassesAt (L2.CX X.prog X.w) ((X.blk s H scope (compEnvC scope cl C X.env) fp).tr [] xe) σ (WE W σ)) → PE ((X.blk s H scope (compEnvC scope cl C X.env) fp).tr [] xe) elt te) (hs : ∀ x, foldedSetIterable iter X.env x = pure x) :
    PS X (.Assign [.Name y py] (.ListComp elt [⟨tg, iter, ifs, 0⟩] scope pos) spos) (tAsg (tLc wi g tt te (own.map (·.2))) (gName i)) := by
  refine ⟨fun pins s σ H D I h => ?_⟩
  rw [exec_Assign_Name_used _ _ _ _ hsw]
  refine wpAny_bind (wpAny_standAt (wpAny_bind ?_))
  show wpAny _ X.A (do let _ ← comprehension (.ListComp elt [⟨tg, iter, ifs, 0⟩] scope pos) scope X.env (firstIterPos [⟨tg, iter, ifs, 0⟩] pos) (newList []) false (eval iter X.env) (some (assign (.Name y py) X.env))) _ _ s
  have h : tLc wi g tt te (own.map (·.2)) σ H (fun x H1 => gName i x σ H1 D.nx) := h
  refine wpAny_bind (thn (lc_coreX (Qf := fun _ s' => SP X pins D .next s') tk hW hst hf hc hN I hi ok hg ht he hs h fun L ce s' m H' I' q hn f => ?_) fun _ s' hq => wpAny_pure (wpAny_pure hq))
  show wpAny _ _ (assign (.Name y py) X.env (.ref L)) _ _ _
  refine wpAny_assign_Name (store_ok2 (v := V.ref L) I' hN hy (.inl hyl) rfl (fun s2 I2 ⟨a, sb, ha⟩ => ?_) (.inr hyl))
  obtain ⟨f0, f1, f2, f3, f4, f5⟩ := f
  have haC : ce.locals ≠ a := by
    rcases ha with z | z
    · rw [z]; exact f1
    · exact fun e => f4 y a z e.symm
  refine ⟨m, hn.sameBut sb haC, fun h3 sb3 => ?_⟩
  exact ⟨_, H', I2.turned (t' := s2.toks) (fun b o hb e => (sb3.2 b hb).trans e) f0 f1 f3 f4 f5, q⟩
end
section
variable {K : PySem.W.Frag} {mg : Str → Option Value} {W : Am K}
theorem rd_lcX (hW : ∀ c d σ σ' H, W.w c d σ H → W.w c d σ' H) {wi : TI} {mi : MA} {g : TG} {gm : D → Env → Option Env} {tt : TT} {mt : MB} {te : TE} {me : ME} {own : List Nat} (hi : RdI K mg W wi mi) (hg : RdG K own g gm) (ht : RdB K mg (W.to Wn) tt mt) (he : RdE K mg W te me) :
    RdF K mg W (tLc wi g tt te own) (vLcX mi gm mt me own) where
  run := fun G hG B H σ e Q S q => by
    refine hi.run G hG B H σ e _ S (Po.bind q fun ds e1 J B1 H1 S1 s1 it h1 => fun D' hD => ?_)
    have S1w : Sto K G B1 H1 (wipe σ own) (wipeE e1 own) := S1.chg (tch_wipe σ own)
    refine ⟨fun i m H' => m = ds.length - i ∧ ∃ e' B' acc vs, Sto K G B' H' (wipe σ own) e' ∧ Same B1 B' ∧ H' D' = some (.lst vs) ∧ B' D' = none ∧ ¬ Owned H' (wipe σ own) e' D' ∧ Reps K B' vs acc ∧ Po K mg W (rpF K) G σ B1 Q (lcLX gm mt me own (ds.drop i) acc e'),
      ⟨_, rfl, wipeE e1 own, B1, [], [], S1w.loose hD, Same.refl B1, upd_same, same_none S1.sub hD, (fun q => not_owned_new S1w hD (S1w.own_new hD q)), .nil, h1⟩, ?_⟩
    rintro i m H2 ⟨rfl, e2, B2, acc, vs, S2, s2, hD2, bD2, nD2, ra, h2⟩
    have gD : G.H D' = none := S1.fresh hD
    obtain ⟨hgo, hstop⟩ := it i B2 H2 s2 S2.sub
    cases z : ds[i]? with
    | none =>
      have hl : ds.length ≤ i := List.getElem?_eq_none_iff.mp z
      rw [List.drop_eq_nil_of_le hl] at h2
      have S3 : Sto K G B2 H2 σ (wipeE e2 own) := S2.chg (tch_wipe σ own).symm
      exact .inl ⟨hstop z, h2 (.ref D') B2 H2 S3 s2 ⟨D', vs, rfl, hD2, bD2, gD, fun q => nD2 (q.chg (tch_wipe σ own).symm), ra⟩⟩
    | some d =>
      have hl : i < ds.length := (List.getElem?_eq_some_iff.mp z).1
      have hd : ds.drop i = d :: ds.drop (i + 1) := by
        rw [List.drop_eq_getElem_cons hl]
        have : ds[i] = d := (List.getElem?_eq_some_iff.mp z).2
        rw [this]
      rw [hd] at h2
      obtain ⟨go, yl⟩ := hgo d z
      refine .inr ⟨go, fun H' => ∃ e' B' acc vs, Sto K G B' H' (wipe σ own) e' ∧ Same B1 B' ∧ H' D' = some (.lst vs) ∧ B' D' = none ∧ ¬ Owned H' (wipe σ own) e' D' ∧ Reps K B' vs acc ∧ Po K mg W (rpF K) G σ B1 Q (lcLX gm mt me own (ds.drop (i + 1)) acc e'),
        fun H' ⟨e', B', acc', vs', q1⟩ => ⟨ds.length - (i + 1), by omega, rfl, e', B', acc', vs', q1⟩, fun x H3 hy => ?_⟩
      obtain ⟨B3, t1, t2, t3, t4, rx⟩ := yl x H3 hy
      have S3 : Sto K G B3 H3 (wipe σ own) e2 := S2.call t3 t1 t2 t4
      have s13 : Same B1 B3 := s2.trans t1
      have hD3 : H3 D' = some (.lst vs) := t3 _ _ hD2
      have bD3 : B3 D' = none := by
        cases w : B3 D' with
        | none => rfl
        | some o =>
          rcases t4 D' (by rw [w]; simp) with u | u
          · exact absurd bD2 u
          · rw [hD2] at u; cases u
      have nF : ¬ OwnF H3 (wipe σ own) e2 D' := fun q => nD2 (S2.own_frame (t1.trans t2) (S2.callO (B' := B3) t3) q)
      have rebD : (reb G B3 H3 (wipe σ own) e2).H D' = some (.lst vs) := (if_neg nF).trans hD3
      unfold lcLX at h2
      cases w : gm d e2 with
      | none => simp only [w] at h2; exact h2.elim
      | some e3 =>
        simp only [w] at h2
        refine hg _ B3 H3 (wipe σ own) e2 e3 x d _ S3.reb rx w fun σ4 S4 tc => ⟨wipe_of_tch tc, ?_⟩
        -- what stays apart
        have nio : D' ∉ G.io := fun q => S1.iom D' q gD
        have apart : ∀ {B5 H5 : Hp} {e5 : Env}, Sto K (reb G B3 H3 (wipe σ own) e2) B5 H5 σ4 e5 → H5 D' = some (.lst vs) ∧ B5 D' = none ∧ ¬ Owned H5 (wipe σ own) (wipeE e5 own) D' := fun {B5 H5 e5} S5 => by
          refine ⟨S5.keep D' _ rebD nio, ?_, fun q => ?_⟩
          · cases u : B5 D' with
            | none => rfl
            | some o =>
              rcases S5.new D' (by rw [u]; simp) with v1 | v1
              · exact absurd bD3 v1
              · rw [rebD] at v1; cases v1
          · have hg := (S5.apart (q.chg tc.symm)).2.1
            rw [rebD] at hg; cases hg
        have home : ∀ {B5 H5 : Hp} {e5 : Env}, Sto K (reb G B3 H3 (wipe σ own) e2) B5 H5 σ4 e5 → Sto K G B5 H5 (wipe σ own) (wipeE e5 own) := fun {B5 H5 e5} S5 => (S3.unreb S5).chg tc.symm
        refine ht.run _ (W.reb G B3 H3 (wipe σ own) e2 hG S3) B3 H3 σ4 e3 _ S4 ?_
        cases u : mt e3 with
        | err x e4 => simp only [u, Res.bindN] at h2; exact h2.elim
        | bot => simp only [u, Res.bindN] at h2; exact h2.elim
        | ok kb e4 =>
          simp only [u, Res.bindN] at h2
          intro kb' B4 H4 S4' s4 rk
          have rk : kb' = kb := rk
          subst rk
          cases kb' with
          | false =>
            rw [if_neg Bool.false_ne_true] at h2 ⊢
            obtain ⟨a1, a2, a3⟩ := apart S4'
            exact ⟨wipeE e4 own, B4, acc, vs, home S4', s13.trans s4, a1, a2, a3, ra.mono (t1.trans s4), h2⟩
          | true =>
            rw [if_pos rfl] at h2 ⊢
            refine he.run _ (W.reb G B3 H3 (wipe σ own) e2 hG S3) B4 H4 σ4 e4 _ S4' ?_
            cases u2 : me e4 with
            | err x e5 =>
              simp only [u2] at h2
              intro cls dd B5 H5 S5 s5 rx5
              exact hW _ _ _ _ _ (h2 cls dd B5 H5 ((home S5).chg (tch_wipe σ own).symm) (s13.trans (s4.trans s5)) rx5)
            | bot => simp only [u2] at h2; exact h2.elim
            | ok xd e5 =>
              simp only [u2] at h2
              intro y B5 H5 S5 s5 ry
              obtain ⟨a1, a2, a3⟩ := apart S5
              have hl : acc.length < vmax := by
                by_cases hl : acc.length < vmax
                · exact hl
                · rw [if_neg hl] at h2; exact h2.elim
              rw [if_pos hl] at h2
              have ra5 : Reps K B5 vs acc := ra.mono ((t1.trans s4).trans s5)
              refine ⟨vs, a1, by rw [ra.length]; exact Nat.lt_of_lt_of_le hl vok, wipeE e5 own, B5, acc ++ [xd], vs ++ [y], (home S5).poke a2 gD a3, s13.trans (s4.trans s5), upd_same, a2, (home S5).poke_no a2 a3, ra5.append (.cons ry .nil), h2⟩
end
/-- the contexts of a block whose element may raise -/
abbrev BkX {ι : Type} (X : ι → Cx) (W : WX) (scope : Scope) : Type := { p : (ι × Bk) × (Value → Shared → Prop) // ∀ σ, PassesAt (L2.CX (X p.1.1).prog (X p.1.1).w) ((blkF X scope p.1).tr [] p.2) σ (WE W σ) }
abbrev blkX {ι : Type} (X : ι → Cx) (W : WX) (scope : Scope) : BkX X W scope → Cx := fun p => (blkF X scope p.1.1).tr [] p.1.2
section
variable {ι : Type} {K : PySem.W.Frag} {mg : Str → Option Value} {X : ι → Cx} {W : Am K} {P : Program} {w : World} {base : Heap} {pos : Pos} {e : Expr} {es : List Expr} {ms : MA} {j k : Nat} {ps : List Str} {fn : List D → FR} {x : Str} {p : Pos} {it tg : Expr}
theorem ve_calP (o : Ok1 P w K mg x ps j (spV K mg fn)) (hr : ∀ i, Room k (X i).A) (pa : ∀ i σ, PassesAt (L2.CX (X i).prog (X i).w) (X i) σ (WE W.w σ)) (ha : VA K mg X W (e :: es) ms) (hX : IsX X P w K mg base := by intro _; exact ⟨rfl, rfl, rfl, rfl, rfl⟩) (hj : j ≤ k := by decide) (hg : ∀ i, Gl (X i) x := by intro _; rfl) (hdb : (x == ("__debug__" : Str)) = false := by decide)
    (he : ∀ i, starEach (e :: es) (X i).env = (false, eval e (X i).env) :: starEach es (X i).env := by intro _; rfl) (hpl : ∀ i, (backTo pos (starEach es (X i).env)).any (·.1) = false := by intro _; rfl) : VE K mg X W (.Call (.Name x p) (e :: es) [] pos) (vCall fn ms) :=
  let ⟨_, _, hm, kp, b, F⟩ := o; let ⟨_, p, r⟩ := ha; ⟨_, fun i => call_at (F base) (hX i) ((hr i).mono hj) (hg i) hm kp b.b (pa i) (p i) hdb (he i) (hpl i), rd_call r⟩
theorem vf_lcX {elt : Expr} {ifs : List Expr} {scope : Scope} {own : List (Str × Nat)} {mi : MA} {gm : D → Env → Option Env} {mt : MB} {me : ME} (tk : ∀ i, Takes (X i) W.w) (hW : ∀ c d σ σ' H, W.w c d σ H → W.w c d σ' H) (hst : ∀ j, (X j).stack = (X j).env :: (X j).outer) (hf : ∀ j, (X j).env.frame = some (X j).env.locals) (hc : ∀ j, (X j).calm = true) (hN : ∀ j, (X j).N.Nodup) (hi : VI K mg X W tg it mi) (ok : ∀ j, BlkOk (X j).N (X j).env.scope scope own)
    (hg : VG K (blkF X scope) (own.map (·.2)) tg gm) (ht : VTs K mg (blkF X scope) (W.to Wn) ifs mt) (he : VE K mg (blkX X W.w scope) W elt me) (hs : ∀ j x, foldedSetIterable it (X j).env x = pure x := by intro _ _; rfl) :
    VF K mg X W (.ListComp elt [⟨tg, it, ifs, 0⟩] scope pos) (vLcX mi gm mt me (own.map (·.2))) := by
  obtain ⟨wi, pi, ri⟩ := hi
  obtain ⟨g, pg, rg⟩ := hg
  obtain ⟨t, pt, rt⟩ := ht
  obtain ⟨te, pe, re⟩ := he
  exact ⟨_, fun i => pe_lcX (tk i) hW (hst i) (hf i) (hc i) (hN i) (pi i) (ok i) (fun s H C cl fp => pg (i, s, H, C, cl, fp)) (fun s H C cl fp => pt (i, s, H, C, cl, fp)) (fun s H C cl fp xe hx => pe ⟨((i, s, H, C, cl, fp), xe), hx⟩) (hs i), rd_lcX hW ri rg rt re⟩
end
section
variable {X : Cx} {W : Am X.K} {pos pos' : Pos} {x : Str} {it tg : Expr} {k : RK}
theorem vs_setLcFX {elt : Expr} {ifs : List Expr} {scope : Scope} {own : List (Str × Nat)} {mi : MA} {gm : D → Env → Option Env} {mt : MB} {me : ME} {cpos : Pos} (i : Nat) (tk : Takes X W.w) (hW : ∀ c d σ σ' H, W.w c d σ H → W.w c d σ' H) (hst : X.stack = X.env :: X.outer) (hf : X.env.frame = some X.env.locals) (hc : X.calm = true) (hN : X.N.Nodup) (hi : VI X.K X.mg (at1 X) W tg it mi) (ok : BlkOk X.N X.env.scope scope own)
    (hg : VG X.K (blkF (at1 X) scope) (own.map (·.2)) tg gm) (ht : VTs X.K X.mg (blkF (at1 X) scope) (W.to Wn) ifs mt) (he : VE X.K X.mg (blkX (at1 X) W.w scope) W elt me)
    (hsw : swapsWith (.ListComp elt [⟨tg, it, ifs, 0⟩] scope cpos) (some (.Name x pos')) pos.line X.env = pure true) (hi' : X.N[i]? = some x := by rfl) (hyl : X.env.scope.names.lookup x = some .local := by rfl) (hs : ∀ x, foldedSetIterable it X.env x = pure x := by intro _; rfl) :
    VS X W k (.Assign [.Name x pos'] (.ListComp elt [⟨tg, it, ifs, 0⟩] scope cpos) pos) (vAsgF i (vLcX mi gm mt me (own.map (·.2)))) := by
  obtain ⟨wi, pi, ri⟩ := hi
  obtain ⟨g, pg, rg⟩ := hg
  obtain ⟨t, pt, rt⟩ := ht
  obtain ⟨te, pe, re⟩ := he
  exact ⟨_, ps_setLcX tk hW hst hf hc hN hi' hyl hsw (pi ()) ok (fun s H C cl fp => pg ((), s, H, C, cl, fp)) (fun s H C cl fp => pt ((), s, H, C, cl, fp)) (fun s H C cl fp xe hx => pe ⟨(((), s, H, C, cl, fp), xe), hx⟩) hs, rs_asgF (rd_lcX hW ri rg rt re)⟩
theorem vs_setLcX {elt : Expr} {ifs : List Expr} {scope : Scope} {own : List (Str × Nat)} {mi : MA} {gm : D → Env → Option Env} {mt : MB} {me : ME} {cpos : Pos} (i : Nat) (tk : Takes X W.w) (hW : ∀ c d σ σ' H, W.w c d σ H → W.w c d σ' H) (hst : X.stack = X.env :: X.outer) (hf : X.env.frame = some X.env.locals) (hc : X.calm = true) (hN : X.N.Nodup) (hi : VI X.K X.mg (at1 X) W tg it mi) (ok : BlkOk X.N X.env.scope scope own)
    (hg : VG X.K (blkF (at1 X) scope) (own.map (·.2)) tg gm) (ht : VTs X.K X.mg (blkF (at1 X) scope) (W.to Wn) ifs mt) (he : VE X.K X.mg (blkX (at1 X) W.w scope) W elt me)
    (hsw : swapsWith (.ListComp elt [⟨tg, it, ifs, 0⟩] scope cpos) (some (.Name x pos')) pos.line X.env = pure true) (hi' : X.N[i]? = some x := by rfl) (hyl : X.env.scope.names.lookup x = some .local := by rfl) (hs : ∀ x, foldedSetIterable it X.env x = pure x := by intro _; rfl) :
    VS X W k (.Assign [.Name x pos'] (.ListComp elt [⟨tg, it, ifs, 0⟩] scope cpos) pos) (vAsg (vOf (vLcX mi gm mt me (own.map (·.2)))) (gNam i)) := by
  obtain ⟨wi, pi, ri⟩ := hi
  obtain ⟨g, pg, rg⟩ := hg
  obtain ⟨t, pt, rt⟩ := ht
  obtain ⟨te, pe, re⟩ := he
  exact ⟨_, ps_setLcX tk hW hst hf hc hN hi' hyl hsw (pi ()) ok (fun s H C cl fp => pg ((), s, H, C, cl, fp)) (fun s H C cl fp => pt ((), s, H, C, cl, fp)) (fun s H C cl fp xe hx => pe ⟨(((), s, H, C, cl, fp), xe), hx⟩) hs, rs_asg (rd_of (rd_lcX hW ri rg rt re)) (rg_name i)⟩
end
end VL

/-! VL23: loops over dicts (locked while they run), xs.extend, a def that isn't reached. -/
namespace VL
open PySem PySem.Spec PyProof.Rows L2
section
variable {K : PySem.W.Frag} {mg : Str → Option Value} {B B' H H' : Hp} {d : Addr} {f : HO}
theorem lk_ne {a : Addr} (h : a ≠ d) : lkH d f H a = H a := if_neg h
theorem lk_at (h : H d ≠ none) : lkH d f H d = some f := by
  unfold lkH
  rw [if_pos rfl]
  cases z : H d with
  | none => exact absurd z h
  | some o => rfl
theorem lk_none {a : Addr} : lkH d f H a = none ↔ H a = none := by
  unfold lkH
  split
  · simp
  · exact Iff.rfl
theorem lk_upd (h : H d ≠ none) : lkH d f H = upd H d f := by
  funext a
  by_cases q : a = d
  · rw [q, lk_at h, upd_same]
  · rw [lk_ne q, upd_ne q]
theorem lk_same (s : Same B H) : Same (lkH d f B) (lkH d f H) := fun a o h => by
  by_cases q : a = d
  · subst q
    have hb : B a ≠ none := fun z => by rw [lk_none.mpr z] at h; cases h
    rw [lk_at hb] at h
    rw [lk_at (fun z => hb (s.free z))]
    exact h
  · rw [lk_ne q] at h ⊢
    exact s _ _ h
/-- at d the same dict is read, before and behind -/
def LkOk (B B' : Hp) (d : Addr) (kvs : List (Key × V)) : Prop := (∀ a, a ≠ d → B' a = B a) ∧ Rd B d (.dK kvs) ∧ Rd B' d (.dK kvs)
theorem rd_lk {kvs : List (Key × V)} (l : LkOk B B' d kvs) {a : Addr} {w : HO} (h : Rd B a w) (hw : ∀ o u, w ≠ .frz o u) : Rd B' a w := by
  by_cases q : a = d
  · subst q
    have e : w = .dK kvs := by
      rcases h with h | ⟨o, h⟩ <;> rcases l.2.1 with h2 | ⟨o2, h2⟩ <;> rw [h] at h2 <;> cases h2
      · rfl
      · exact absurd rfl (hw _ _)
      · rfl
    rw [e]
    exact l.2.2
  · have e := l.1 a q
    rcases h with h | ⟨o, h⟩
    · exact .inl (e.trans h)
    · exact .inr ⟨o, e.trans h⟩
theorem sqT_lk {kvs : List (Key × V)} (l : LkOk B B' d kvs) {a : Addr} {xs : List V} (h : SqT K B a xs) : SqT K B' a xs := by
  rcases h with h | h
  · exact .inl (rd_lk l h (fun _ _ z => nomatch z))
  · exact .inr h
theorem sqL_lk {kvs : List (Key × V)} (l : LkOk B B' d kvs) {a : Addr} {xs : List V} (h : SqL K B a xs) : SqL K B' a xs := by
  rcases h with h | h
  · exact .inl (rd_lk l h (fun _ _ z => nomatch z))
  · exact .inr h
theorem dK_lk {kvs : List (Key × V)} (l : LkOk B B' d kvs) {a : Addr} {xs : List (Key × V)} (h : Rd B a (.dK xs)) : Rd B' a (.dK xs) := rd_lk l h (fun _ _ z => nomatch z)
end
section
variable {K : PySem.W.Frag} {B B' : Hp}
/-- all that is read in B is read in B' -/
structure Reads (K : PySem.W.Frag) (B B' : Hp) : Prop where
  t : ∀ {a : Addr} {xs : List V}, SqT K B a xs → SqT K B' a xs
  l : ∀ {a : Addr} {xs : List V}, SqL K B a xs → SqL K B' a xs
  d : ∀ {a : Addr} {xs : List (Key × V)}, Rd B a (.dK xs) → Rd B' a (.dK xs)
mutual
theorem Rep.reads (s : Reads K B B') : ∀ {v : V} {x : D}, Rep K B v x → Rep K B' v x
  | _, _, .non => .non
  | _, _, .bl b => .bl b
  | _, _, .int i => .int i
  | _, _, .str z => .str z
  | _, _, .tup h r => .tup (s.t h) (Reps.reads s r)
  | _, _, .lst h r => .lst (s.l h) (Reps.reads s r)
  | _, _, .dct h e r => .dct (s.d h) e (Reps.reads s r)
theorem Reps.reads (s : Reads K B B') : ∀ {vs : List V} {xs : List D}, Reps K B vs xs → Reps K B' vs xs
  | _, _, .nil => .nil
  | _, _, .cons h r => .cons (Rep.reads s h) (Reps.reads s r)
end
end
section
variable {K : PySem.W.Frag} {mg : Str → Option Value} {B B' H H' : Hp} {d : Addr} {f : HO}
theorem LkOk.r {kvs : List (Key × V)} (l : LkOk B B' d kvs) : Reads K B B' := ⟨fun h => sqT_lk l h, fun h => sqL_lk l h, fun h => dK_lk l h⟩
theorem Rep.lk {kvs : List (Key × V)} (l : LkOk B B' d kvs) {v : V} {x : D} (r : Rep K B v x) : Rep K B' v x := r.reads l.r
theorem Reps.lk {kvs : List (Key × V)} (l : LkOk B B' d kvs) {vs : List V} {xs : List D} (r : Reps K B vs xs) : Reps K B' vs xs := r.reads l.r
theorem OwR.lk {kvs : List (Key × V)} (l : LkOk B B' d kvs) {b : Kd} {o : HO} {ds : List D} (h : OwR K B b o ds) : OwR K B' b o ds := by
  cases h with
  | lst r => exact .lst (Reps.lk l r)
  | pin r => exact .pin (Reps.lk l r)
  | dct e r => exact .dct e (Reps.lk l r)
theorem XRep.lk {kvs : List (Key × V)} (l : LkOk B B' d kvs) {cls : Value} {dd : Option Addr} {x : Xc} (h : XRep K mg B cls dd x) : XRep K mg B' cls dd x := by
  obtain ⟨C, h1, h2, h3⟩ := h
  refine ⟨C, h1, h2, ?_⟩
  split
  · rename_i q; rw [q] at h3; exact h3
  · rename_i q
    rw [q] at h3
    obtain ⟨a, e, hb⟩ := h3
    refine ⟨a, e, ?_⟩
    have ne : a ≠ d := fun z => by
      rw [z] at hb
      rcases l.2.1 with h2 | ⟨o2, h2⟩ <;> rw [hb] at h2 <;> cases h2
    rw [l.1 a ne]
    exact hb
end
section
variable {K : PySem.W.Frag} {mg : Str → Option Value} {W : Am K} {G : Gr} {B H B2 H2 : Hp} {σ σ2 : L2.St} {e e2 : Env} {d : Addr} {kvs : List (Key × V)} {od : Obj} {k : RK}
theorem tups_lk (hd : ∀ o, B d = some o → ∀ vs, o ≠ .tup vs) {Y : Hp} (s : TupsIn B Y) : TupsIn B (lkH d f Y) := fun p vs h => by
  have ne : p ≠ d := fun z => by rw [z] at h; exact hd _ h vs rfl
  rw [lk_ne ne]; exact s p vs h
/-- .. of a slot's truth -/
theorem SlOk.lkd {B' H' : Hp} {G' : Gr} (l : LkOk B B' d kvs) (hH : ∀ a, a ≠ d → H' a = H a) (sub : Same B H) (nB : B d ≠ none) (hb : ∀ a, B a = none → B' a = none) (hg : ∀ a, G.H a = none → G'.H a = none) (ht : G'.tok = G.tok) (hp : G'.pin = G.pin) {v : Option V} {s : Sl} (ok : SlOk K G B H v s) :
    SlOk K G' B' H' v s ∧ ∀ a, OwnS H' v s a → OwnS H v s a := by
  cases ok with
  | no => exact ⟨.no, fun _ h => h⟩
  | @tk n =>
    refine ⟨?_, fun _ h => h⟩
    have e : G'.tok n = G.tok n := by rw [ht]
    exact Eq.subst (motive := fun z => SlOk K G' B' H' (some (.ref z)) (.tk n)) e .tk
  | sh r => exact ⟨.sh (Rep.lk l r), fun _ h => h⟩
  | @ow b p o ds h1 h2 h3 h4 hpin =>
    have ne : p ≠ d := fun z => nB (z ▸ h1)
    exact ⟨.ow (hb _ h1) (hg _ h2) (by rw [hH p ne]; exact h3) (OwR.lk l h4) (fun n q => by rw [hp]; exact hpin n q), fun _ h => h⟩
  | @tr v s x t fr =>
    have ne : ∀ {a}, Reach H s v a → a ≠ d := fun r z => nB (z ▸ (fr _ r).1)
    have hd : ∀ o, B d = some o → ∀ vs, o ≠ .tup vs := fun o h vs z => by
      rcases l.2.1 with q | ⟨o2, q⟩ <;> rw [h] at q <;> cases q <;> cases z
    have tb : TupsIn B B' := fun p vs h => by
      have ne : p ≠ d := fun z => by rw [z] at h; exact hd _ h vs rfl
      rw [l.1 p ne]; exact h
    have th : TupsIn B H' := fun p vs h => by
      have ne : p ≠ d := fun z => by rw [z] at h; exact hd _ h vs rfl
      rw [hH p ne]; exact sub _ _ h
    have back : ∀ {a}, Reach H' s v a → Reach H s v a := fun r => Reach.frame2 th t (fun a r => hH a (ne r)) r
    exact ⟨.tr (t.frame2 tb th (fun _ _ r => Rep.lk l r) fun a r => hH a (ne r)) fun a r => ⟨hb _ (fr a (back r)).1, hg _ (fr a (back r)).2⟩, fun a ⟨w, e, r⟩ => by
      cases e
      exact ⟨_, rfl, back r⟩⟩
/-- the dict at d is locked -/
theorem Sto.lock (S : Sto K G B H σ e) (hB : B d = some (.dK kvs)) : Sto K (lkG d (.frz od (.dK kvs)) G) (lkH d (.frz od (.dK kvs)) B) (lkH d (.frz od (.dK kvs)) H) σ e := by
  have nB : B d ≠ none := by rw [hB]; simp
  have l : LkOk B (lkH d (.frz od (.dK kvs)) B) d kvs := ⟨fun a h => lk_ne h, .inl hB, .inr ⟨od, lk_at nB⟩⟩
  have mv : ∀ {v s}, SlOk K G B H v s → SlOk K (lkG d (.frz od (.dK kvs)) G) (lkH d (.frz od (.dK kvs)) B) (lkH d (.frz od (.dK kvs)) H) v s ∧ ∀ a, OwnS (lkH d (.frz od (.dK kvs)) H) v s a → OwnS H v s a := fun ok =>
    SlOk.lkd (G := G) (G' := lkG d (.frz od (.dK kvs)) G) (H' := lkH d (.frz od (.dK kvs)) H) l (fun a h => lk_ne h) S.sub nB (fun a h => lk_none.mpr h) (fun a h => lk_none.mpr h) rfl rfl ok
  refine ⟨S.len, fun i s h => ?_, fun i j s t v w a h1 h2 h3 h4 h5 h6 => ?_, lk_same S.sub, lk_same S.b0, fun a o h hi => ?_, fun a h => ?_, fun a h => ?_, fun a h z => S.iom a h (lk_none.mp z)⟩
  · obtain ⟨v, hv, ok⟩ := S.sl i s h
    exact ⟨v, hv, (mv ok).1⟩
  · obtain ⟨v', e1, ok1⟩ := S.sl i s h1
    obtain ⟨w', e2, ok2⟩ := S.sl j t h2
    rw [h3] at e1; cases e1
    rw [h4] at e2; cases e2
    exact S.dis i j s t v w a h1 h2 h3 h4 ((mv ok1).2 a h5) ((mv ok2).2 a h6)
  · have h : lkH d (.frz od (.dK kvs)) G.H a = some o := h
    by_cases q : a = d
    · subst q
      have hg : G.H a ≠ none := fun z => by rw [lk_none.mpr z] at h; cases h
      rw [lk_at hg] at h
      rw [lk_at (fun z => nB (S.sub.free z))]
      exact h
    · rw [lk_ne q] at h ⊢
      exact S.keep a o h hi
  · exact fun z => S.dom a (fun y => h (lk_none.mpr y)) (lk_none.mp z)
  · rcases S.new a (fun y => h (lk_none.mpr y)) with z | z
    · exact .inl fun y => z (lk_none.mp y)
    · exact .inr (lk_none.mpr z)
/-- .. and unlocked -/
theorem Sto.unlock (S : Sto K G B H σ e) (hB : B d = some (.dK kvs)) (s : Same (lkH d (.frz od (.dK kvs)) B) B2) (S2 : Sto K (lkG d (.frz od (.dK kvs)) G) B2 H2 σ2 e2) :
    H2 d = some (.frz od (.dK kvs)) ∧ LkOk B2 (lkH d (.dK kvs) B2) d kvs ∧ Same B (lkH d (.dK kvs) B2) ∧ Sto K G (lkH d (.dK kvs) B2) (upd H2 d (.dK kvs)) σ2 e2 := by
  have nB : B d ≠ none := by rw [hB]; simp
  have f2 : B2 d = some (.frz od (.dK kvs)) := s _ _ (lk_at nB)
  have n2 : B2 d ≠ none := by rw [f2]; simp
  have h2 : H2 d = some (.frz od (.dK kvs)) := S2.sub _ _ f2
  have nH : H2 d ≠ none := by rw [h2]; simp
  have l : LkOk B2 (lkH d (.dK kvs) B2) d kvs := ⟨fun a h => lk_ne h, .inr ⟨od, f2⟩, .inl (lk_at n2)⟩
  refine ⟨h2, l, fun a o h => ?_, ?_⟩
  · by_cases q : a = d
    · subst q
      rw [hB] at h
      cases h
      exact lk_at n2
    · rw [lk_ne q]
      exact s a o (by rw [lk_ne q]; exact h)
  · rw [← lk_upd nH]
    have mv : ∀ {v s}, SlOk K (lkG d (.frz od (.dK kvs)) G) B2 H2 v s → SlOk K G (lkH d (.dK kvs) B2) (lkH d (.dK kvs) H2) v s ∧ ∀ a, OwnS (lkH d (.dK kvs) H2) v s a → OwnS H2 v s a := fun ok =>
      SlOk.lkd (G := lkG d (.frz od (.dK kvs)) G) (G' := G) (H' := lkH d (.dK kvs) H2) l (fun a h => lk_ne h) S2.sub n2 (fun a h => lk_none.mpr h) (fun a h => (lk_none (f := .frz od (.dK kvs)) (d := d)).mp h) rfl rfl ok
    refine ⟨S2.len, fun i s h => ?_, fun i j s t v w a h1 h2 h3 h4 h5 h6 => ?_, lk_same S2.sub, fun a o h => ?_, fun a o h hi => ?_, fun a h z => ?_, fun a h => ?_, S.iom⟩
    · obtain ⟨v, hv, ok⟩ := S2.sl i s h
      exact ⟨v, hv, (mv ok).1⟩
    · obtain ⟨v', e1, ok1⟩ := S2.sl i s h1
      obtain ⟨w', e2, ok2⟩ := S2.sl j t h2
      rw [h3] at e1; cases e1
      rw [h4] at e2; cases e2
      exact S2.dis i j s t v w a h1 h2 h3 h4 ((mv ok1).2 a h5) ((mv ok2).2 a h6)
    · by_cases q : a = d
      · subst q
        have hb := S.b0 _ _ h
        rw [hB] at hb
        cases hb
        exact lk_at n2
      · rw [lk_ne q]
        exact S2.b0 a o (by show lkH d _ G.B a = some o; rw [lk_ne q]; exact h)
    · by_cases q : a = d
      · subst q
        have hb := S.keep _ _ h hi
        rw [S.sub _ _ hB] at hb
        cases hb
        exact lk_at nH
      · rw [lk_ne q]
        exact S2.keep a o (by show lkH d _ G.H a = some o; rw [lk_ne q]; exact h) hi
    · have z := lk_none.mp z
      exact S2.dom a (fun y => h (lk_none.mp y)) z
    · rcases S2.new a (fun y => h (lk_none.mpr y)) with z | z
      · exact .inl fun y => z (lk_none.mpr y)
      · exact .inr (lk_none.mp z)
theorem Sto.unlock_no (S : Sto K G B H σ e) (hB : B d = some (.dK kvs)) (s : Same (lkH d (.frz od (.dK kvs)) B) B2) (S2 : Sto K (lkG d (.frz od (.dK kvs)) G) B2 H2 σ2 e2) : ∀ a, Owned (upd H2 d (.dK kvs)) σ2 e2 a → Owned H2 σ2 e2 a := fun a ⟨i, x, v, h1, h2, h3⟩ => by
  have nB : B d ≠ none := by rw [hB]; simp
  have f2 : B2 d = some (.frz od (.dK kvs)) := s _ _ (lk_at nB)
  have n2 : B2 d ≠ none := by rw [f2]; simp
  have l : LkOk B2 (lkH d (.dK kvs) B2) d kvs := ⟨fun a h => lk_ne h, .inr ⟨od, f2⟩, .inl (lk_at n2)⟩
  obtain ⟨v', e1, ok⟩ := S2.sl i x h1
  rw [h2] at e1; cases e1
  exact ⟨i, x, v, h1, h2, (SlOk.lkd (G := lkG d (.frz od (.dK kvs)) G) (G' := G) (H' := upd H2 d (.dK kvs)) l (fun a h => upd_ne h) S2.sub n2 (fun a h => lk_none.mpr h) (fun a h => (lk_none (f := .frz od (.dK kvs)) (d := d)).mp h) rfl rfl ok).2 a h3⟩
theorem RetOk.unlk (sub : Same B2 H2) (back : ∀ a, Owned (upd H2 d (.dK kvs)) σ2 e2 a → Owned H2 σ2 e2 a) {v : V} {x : D} (l : LkOk B2 (lkH d (.dK kvs) B2) d kvs) (f2 : B2 d ≠ none) (h : RetOk K k (lkG d (.frz od (.dK kvs)) G) B2 H2 σ2 e2 v x) : RetOk K k G (lkH d (.dK kvs) B2) (upd H2 d (.dK kvs)) σ2 e2 v x := by
  cases k with
  | v => exact Rep.lk l h
  | f =>
    obtain ⟨rs, rfl, p, vs, e1, e2', e3, e4, e5, e6⟩ := h
    have ne : p ≠ d := fun z => f2 (z ▸ e3)
    exact ⟨rs, rfl, p, vs, e1, by rw [upd_ne ne]; exact e2', lk_none.mpr e3, lk_none.mp e4, fun q => e5 (back _ q), Reps.lk l e6⟩
  | t s =>
    unfold RetOk at *
    dsimp only at *
    split
    · rename_i hf; rw [if_pos hf] at h; exact Rep.lk l h
    · rename_i hf
      rw [if_neg hf] at h
      obtain ⟨t, n⟩ := h
      have ne : ∀ {a}, Reach H2 s v a → a ≠ d := fun r z => f2 (z ▸ (n _ r).1)
      have hd : ∀ o, B2 d = some o → ∀ vs, o ≠ .tup vs := fun o h vs z => by
        rcases l.2.1 with q | ⟨o2, q⟩ <;> rw [h] at q <;> cases q <;> cases z
      have tb : TupsIn B2 (lkH d (.dK kvs) B2) := tups_lk hd fun _ _ h => h
      have th : TupsIn B2 (upd H2 d (.dK kvs)) := fun p vs h => by
        have ne : p ≠ d := fun z => by rw [z] at h; exact hd _ h vs rfl
        rw [upd_ne ne]; exact sub _ _ h
      refine ⟨t.frame2 tb th (fun _ _ r => Rep.lk l r) fun a r => upd_ne (ne r), fun a r => ?_⟩
      have r := Reach.frame2 th t (fun a r => upd_ne (ne r)) r
      exact ⟨lk_none.mpr (n a r).1, lk_none.mp (n a r).2.1, fun q => (n a r).2.2 (back _ q)⟩
/-- the wish while d is locked -/
abbrev wLk (d : Addr) (od : Obj) (u : HO) (w : WX) : WX := fun cls dd σ H => H d = some (.frz od u) ∧ w cls dd σ (upd H d u)
abbrev dLk (d : Addr) (od : Obj) (u : HO) (D : Ends) : Ends := ⟨fun σ' H' => H' d = some (.frz od u) ∧ D.nx σ' (upd H' d u), fun v H' => H' d = some (.frz od u) ∧ D.rt v (upd H' d u), fun σ' H' => H' d = some (.frz od u) ∧ D.bk σ' (upd H' d u), fun σ' H' => H' d = some (.frz od u) ∧ D.ct σ' (upd H' d u)⟩
theorem PoS.lock {D : Ends} {r : RS} (S : Sto K G B H σ e) (hB : B d = some (.dK kvs)) (h : PoS K mg W k G B D r) : PoS K mg (W.to (wLk d od (.dK kvs) W.w)) k (lkG d (.frz od (.dK kvs)) G) (lkH d (.frz od (.dK kvs)) B) (dLk d od (.dK kvs) D) r := by
  have nB : B d ≠ none := by rw [hB]; simp
  have f2 : ∀ {B2 : Hp}, Same (lkH d (.frz od (.dK kvs)) B) B2 → B2 d ≠ none := fun s => by rw [s _ _ (lk_at nB)]; simp
  cases r with
  | nx e' => exact fun σ2 B2 H2 S2 s => let ⟨a, _, b, c⟩ := S.unlock hB s S2; ⟨a, h _ _ _ c b⟩
  | bk e' => exact fun σ2 B2 H2 S2 s => let ⟨a, _, b, c⟩ := S.unlock hB s S2; ⟨a, h _ _ _ c b⟩
  | ct e' => exact fun σ2 B2 H2 S2 s => let ⟨a, _, b, c⟩ := S.unlock hB s S2; ⟨a, h _ _ _ c b⟩
  | rt x e' => exact fun v σ2 B2 H2 S2 s ro => let ⟨a, l, b, c⟩ := S.unlock hB s S2; ⟨a, h v _ _ _ c b (RetOk.unlk S2.sub (S.unlock_no hB s S2) l (f2 s) ro)⟩
  | err x e' => exact fun cls dd σ2 B2 H2 S2 s xr => let ⟨a, l, b, c⟩ := S.unlock hB s S2; ⟨a, h cls dd _ _ _ c b (xr.lk l)⟩
  | bot => exact h
/-- the turns of a loop -/
theorem for_go {g : TG} {o : List Nat} {gm : D → Env → Option Env} {t : TS} {b : MS} {D : Ends} {J : It} {ds : List VL.D} (hg : RdG K o g gm) (hb : RdS K mg W k t b) (hG : W.g G) (S1 : Sto K G B H σ e) (it : ItOk K B J ds) (h1 : PoS K mg W k G B D (forL gm b ds e)) :
    ∃ W : Nat → Nat → L2.St → Hp → Prop, (∃ m, W 0 m σ H) ∧ ∀ i m σ H, W i m σ H → (J.stop i H ∧ D.nx σ H) ∨ (J.go i H ∧ ∃ N : L2.St → Hp → Prop, (∀ σ' H', N σ' H' → ∃ m', m' < m ∧ W (i + 1) m' σ' H') ∧ ∀ x H', J.yld i H x H' → g x σ H' fun σ2 H2 => t { D with nx := N, ct := N, bk := D.nx } σ2 H2) := by
  refine ⟨fun i m σ' H' => m = ds.length - i ∧ ∃ e' B', Sto K G B' H' σ' e' ∧ Same B B' ∧ PoS K mg W k G B D (forL gm b (ds.drop i) e'), ⟨_, rfl, e, B, S1, Same.refl B, h1⟩, ?_⟩
  rintro i m σ2 H2 ⟨rfl, e2, B2, S2, s2, h2⟩
  obtain ⟨hgo, hstop⟩ := it i B2 H2 s2 S2.sub
  cases z : ds[i]? with
  | none =>
    have hl : ds.length ≤ i := List.getElem?_eq_none_iff.mp z
    rw [List.drop_eq_nil_of_le hl] at h2
    exact .inl ⟨hstop z, (PoS.base s2 h2).nx S2⟩
  | some d =>
    have hl : i < ds.length := (List.getElem?_eq_some_iff.mp z).1
    have hd : ds.drop i = d :: ds.drop (i + 1) := by
      rw [List.drop_eq_getElem_cons hl]
      have : ds[i] = d := (List.getElem?_eq_some_iff.mp z).2
      rw [this]
    rw [hd] at h2
    obtain ⟨go, yl⟩ := hgo d z
    refine .inr ⟨go, fun σ' H' => ∃ e' B', Sto K G B' H' σ' e' ∧ Same B B' ∧ PoS K mg W k G B D (forL gm b (ds.drop (i + 1)) e'), fun σ' H' ⟨e', B', q1, q2, q3⟩ => ⟨ds.length - (i + 1), by omega, rfl, e', B', q1, q2, q3⟩, fun x H3 hy => ?_⟩
    obtain ⟨B3, t1, t2, t3, t4, rx⟩ := yl x H3 hy
    have S3 : Sto K G B3 H3 σ2 e2 := S2.call t3 t1 t2 t4
    unfold forL at h2
    have s13 : Same B B3 := s2.trans t1
    cases w : gm d e2 with
    | none => rw [w] at h2; exact h2.elim
    | some e3 =>
      rw [w] at h2
      refine hg G B3 H3 σ2 e2 e3 x d _ S3 rx w fun σ4 S4 _ => ?_
      refine hb G hG B3 H3 σ4 e3 _ S4 ?_
      cases q : b e3 with
      | nx e4 => simp only [q] at h2; exact fun σ' B' H' S' s' => ⟨e4, B', S', s13.trans s', h2⟩
      | ct e4 => simp only [q] at h2; exact fun σ' B' H' S' s' => ⟨e4, B', S', s13.trans s', h2⟩
      | bk e4 => simp only [q] at h2; exact fun σ' B' H' S' s' => h2 σ' B' H' S' (s13.trans s')
      | rt d e4 => simp only [q] at h2; exact fun v σ' B' H' S' s' => h2 v σ' B' H' S' (s13.trans s')
      | err x e4 => simp only [q] at h2; exact fun c dd σ' B' H' S' s' => h2 c dd σ' B' H' S' (s13.trans s')
      | bot => simp only [q] at h2; exact h2
theorem key_rep {B : Hp} (c : Key) : Rep K B (kV c) (kyD c) := by
  cases c with
  | inl i => exact .int i
  | inr z => exact .str z
theorem itk_ok {x : Obj} (hB : B d = some (.frz x (.dK kvs))) : ItOk K B (Itk d x kvs) ((kvs.map (·.1)).map kyD) := fun i B' H' s1 s2 => by
  have hH := s2 _ _ (s1 _ _ hB)
  refine ⟨fun y hd => ?_, fun hd => ⟨hH, ?_⟩⟩
  · rw [List.map_map, List.getElem?_map] at hd
    cases w : kvs[i]? with
    | none => rw [w] at hd; cases hd
    | some c =>
      rw [w] at hd
      cases hd
      refine ⟨⟨hH, (List.getElem?_eq_some_iff.mp w).1⟩, fun z H2 hy => ?_⟩
      obtain ⟨e1, c', v', e2, e3⟩ := hy
      subst e1
      rw [w] at e2
      cases e2
      subst e3
      exact ⟨B', Same.refl _, s2, Same.refl _, fun b hb => .inl hb, key_rep _⟩
  · rw [List.map_map, List.getElem?_map] at hd
    cases w : kvs[i]? with
    | none => exact List.getElem?_eq_none_iff.mp w
    | some c => rw [w] at hd; cases hd
theorem iti_ok {x : Obj} {ds : List D} (hB : B d = some (.frz x (.dK kvs))) (r : Reps K B (kvs.map (·.2)) ds) : ItOk K B (Iti d x kvs) (((kvs.map (·.1)).zip ds).map fun p => .tup [kyD p.1, p.2]) := fun i B' H' s1 s2 => by
  have hH := s2 _ _ (s1 _ _ hB)
  have len := r.length
  simp only [List.length_map] at len
  refine ⟨fun y hd => ?_, fun hd => ⟨hH, ?_⟩⟩
  · rw [List.getElem?_map] at hd
    cases w : ((kvs.map (·.1)).zip ds)[i]? with
    | none => rw [w] at hd; cases hd
    | some c =>
      rw [w] at hd
      cases hd
      obtain ⟨w1, w2⟩ := List.getElem?_zip_eq_some.mp w
      rw [List.getElem?_map] at w1
      cases w3 : kvs[i]? with
      | none => rw [w3] at w1; cases w1
      | some kv =>
        rw [w3] at w1
        have w1 : kv.1 = c.1 := Option.some.inj w1
        show _ ∧ ∀ (z : V) (H2 : Hp), _ → ∃ B2, _ ∧ _ ∧ _ ∧ _ ∧ Rep K B2 z (D.tup [kyD c.1, c.2])
        rw [← w1]
        obtain ⟨v, hv, rv⟩ := r.get w2
        rw [List.getElem?_map, w3] at hv
        cases hv
        refine ⟨⟨hH, (List.getElem?_eq_some_iff.mp w3).1⟩, fun z H2 hy => ?_⟩
        obtain ⟨T, k', v', e2, e3, hT, e4⟩ := hy
        rw [w3] at e2
        cases e2
        subst e3 e4
        have bT : B' T = none := same_none s2 hT
        refine ⟨upd B' T (.tup [kV k', v']), same_upd' bT, same_upd2 s2, same_upd' hT, fun b hb => ?_, ?_⟩
        · by_cases z : b = T
          · exact .inr (z ▸ hT)
          · rw [upd_ne z] at hb; exact .inl hb
        · exact .tup (SqT.of upd_same) (.cons (key_rep _) (.cons ((rv.mono s1).mono (same_upd' bT)) .nil))
  · rw [List.getElem?_map] at hd
    cases w : ((kvs.map (·.1)).zip ds)[i]? with
    | none =>
      have := List.getElem?_eq_none_iff.mp w
      simp only [List.length_zip, List.length_map] at this
      omega
    | some c => rw [w] at hd; cases hd
end

/-! the loop -/
theorem takes_lk {X : Cx} {W : WX} {d : Addr} {od : Obj} {u : HO} (tk : Takes X W) (hn : ∀ o' u', X.H_0 d ≠ some (.frz o' u')) : Takes X (wLk d od u W) := fun v s' ⟨a, B, sI, pins, σ, H, cls, dd, e, I, nb, up, sky, na, os, ag, w⟩ =>
  tk v s' ⟨a, B, sI, pins, σ, upd H d u, cls, dd, e, L2.Inv.unlock I w.1 hn, nb, up, sky, by
    rw [upd_ne (fun z => by rw [z, w.1] at na; cases na)]
    exact na, os, ag, w.2⟩
/-- the loop runs while the dict is locked, or the dict stands locked -/
def tForD (wi : TI) (g : TG) (tb : WX → TS) (Wo : WX) : TS := fun D σ H => (∃ d u, H d = some u ∧ Mut (some u) ∧ ∀ od, tFor wi g (tb (wLk d od u Wo)) (dLk d od u D) σ (upd H d (.frz od u))) ∨ tFor wi g (tb Wo) D σ H
theorem ps_forD {X : Cx} {iter tg : Expr} {body : List Stmt} {wi : TI} {g : TG} {tb : WX → TS} {Wo : WX} {pos : Pos} (hp : PassesOwn (model X.prog X.w) X.A X.env X.xe) (hc : X.calm = true) (tk : Takes X Wo) (hi : PI X tg iter wi) (hg : PG X tg g) (hb : ∀ Wx, Takes X Wx → PSs X body (tb Wx))
    (hs : ∀ x, foldedSetIterable iter X.env x = pure x) : PS X (.For tg iter body [] pos) (tForD wi g tb Wo) := by
  refine ⟨fun pins s σ H D I h => ?_⟩
  rcases h with ⟨d, u, hd, mu, hw⟩ | h
  · obtain ⟨od, I1⟩ := L2.Inv.lock I hd mu
    refine thn ((ps_for hp hc hi hg (hb _ (takes_lk (od := od) (u := u) tk (L2.Inv.nofrz I hd mu))) hs).run pins s σ _ _ I1 (hw od)) fun f s1 q => ?_
    cases f with
    | next => obtain ⟨σ', H', I2, e, q⟩ := q; exact ⟨σ', _, L2.Inv.unlock I2 e (L2.Inv.nofrz I hd mu), q⟩
    | brk => obtain ⟨σ', H', I2, e, q⟩ := q; exact ⟨σ', _, L2.Inv.unlock I2 e (L2.Inv.nofrz I hd mu), q⟩
    | cont => obtain ⟨σ', H', I2, e, q⟩ := q; exact ⟨σ', _, L2.Inv.unlock I2 e (L2.Inv.nofrz I hd mu), q⟩
    | ret v => obtain ⟨x, σ', H', I2, r, e, q⟩ := q; exact ⟨x, σ', _, L2.Inv.unlock I2 e (L2.Inv.nofrz I hd mu), r, q⟩
  · exact (ps_for hp hc hi hg (hb _ tk) hs).run pins s σ H D I h
section
variable {K : PySem.W.Frag} {mg : Str → Option Value} {W : Am K} {k : RK}
theorem rs_forD {i : Nat} {g : TG} {o : List Nat} {gm : D → Env → Option Env} {b : MS} {wi : TI} {f : D → Option (List D)} (hg : RdG K o g gm) (hf : ∀ x rs, f x = some rs → ∃ ks ds, x = .dct ks ds)
    (hw : ∀ (σ : L2.St) (H : Hp) (d : Addr) (x : Obj) (kvs : List (Key × V)) (ds rs : List D) (R : It → Hp → Prop) (B : Hp), σ[i]? = some (some (.ref d)) → B d = some (.frz x (.dK kvs)) → H d = some (.frz x (.dK kvs)) → Reps K B (kvs.map (·.2)) ds → f (.dct (kvs.map (·.1)) ds) = some rs → (∀ J, ItOk K B J rs → R J H) → wi σ H R) :
    RdS K mg W k (tForD wi g (fun Wx => canS K mg (W.to Wx) k b) W.w) (vForD f i gm b) := fun G hG B H σ e D S h => by
  unfold vForD at h
  cases z : e[i]? with
  | none => rw [z] at h; exact h.elim
  | some s =>
    rw [z] at h
    cases s with
    | no => exact h.elim
    | tk n => exact h.elim
    | ow b ds => exact h.elim
    | tr _ _ => exact h.elim
    | sh x =>
      dsimp only at h
      cases q : f x with
      | none => rw [q] at h; exact h.elim
      | some rs =>
        rw [q] at h
        dsimp only at h
        obtain ⟨v, hv, ok⟩ := S.sl i _ z
        cases ok with
        | sh r =>
          obtain ⟨ks, ds, rfl⟩ := hf x rs q
          cases r with
          | @dct a kvs _ _ h1 h2 h3 =>
            subst h2
            rcases h1 with hB | ⟨od, hB⟩
            · refine .inl ⟨a, .dK kvs, S.sub _ _ hB, trivial, fun od => ?_⟩
              have nB : B a ≠ none := by rw [hB]; simp
              have S1 := S.lock (od := od) hB
              have nH : H a ≠ none := fun y => nB (S.sub.free y)
              have eH : lkH a (.frz od (.dK kvs)) H = upd H a (.frz od (.dK kvs)) := lk_upd nH
              have l : LkOk B (lkH a (.frz od (.dK kvs)) B) a kvs := ⟨fun c y => lk_ne y, .inl hB, .inr ⟨od, lk_at nB⟩⟩
              have h1 := PoS.lock (od := od) S hB h
              rw [← eH]
              refine hw σ _ a od kvs ds rs _ (lkH a (.frz od (.dK kvs)) B) hv (lk_at nB) (lk_at nH) (Reps.lk l h3) q fun J it => ?_
              exact for_go (W := W.to (wLk a od (.dK kvs) W.w)) hg rs_can (W.lk G a _ (fun o y => .inl ⟨kvs, by rw [S.b0 _ _ y] at hB; cases hB; rfl⟩) hG) S1 it h1
            · refine .inr (hw σ H a od kvs ds rs _ B hv hB (S.sub _ _ hB) h3 q fun J it => ?_)
              exact for_go (W := W) hg rs_can hG S it h
theorem rs_extF {i : Nat} {t : TE} {m : MA} (ha : RdF K mg W t m) : RdS K mg W k (tDrop (tBM K "list" rExtend (tVar i) (tCons t tNil))) (vExtF i m) := fun G hG B H σ e D S h => by
  unfold vExtF at h
  obtain ⟨ds, z, h⟩ := PoS.slot h
  obtain ⟨p, vs, hv, hh, hr⟩ := S.ow z
  refine ⟨_, hv, .inl ⟨rfl, vs, .inl (.inl hh)⟩, ha.run G hG B H σ e _ S (PoS.thenS h fun d e1 v B1 H1 S1 s1 r1 h1 => ?_)⟩
  obtain ⟨ds1, z1, h1⟩ := PoS.slot h1
  obtain ⟨p1, vs1, hv1, hh1, hr1⟩ := S1.ow z1
  rw [hv] at hv1
  cases hv1
  obtain ⟨q, zs, e2, hq, bq, gq, no, rr⟩ := r1
  subst e2
  by_cases hl : ds1.length + d.length ≤ vmax
  · rw [if_pos hl] at h1
    exact ⟨p, q, vs1, zs, rfl, rfl, hh1, hq, by rw [hr1.length, rr.length]; exact Nat.le_trans hl vok, h1.nx (S1.write z1 hv (.lst (hr1.append rr)))⟩
  · rw [if_neg hl] at h1; exact h1.elim
end
section
variable {X : Cx} {W : Am X.K} {k : RK} {pos : Pos} {x : Str} {tg : Expr} {body : List Stmt} {mm : MS}
theorem dKeys_is (x : D) (rs : List D) (h : dKeys x = some rs) : ∃ ks ds, x = .dct ks ds := by
  unfold dKeys at h
  split at h
  · exact ⟨_, _, rfl⟩
  · cases h
theorem dItems_is (x : D) (rs : List D) (h : dItems x = some rs) : ∃ ks ds, x = .dct ks ds := by
  unfold dItems at h
  split at h
  · exact ⟨_, _, rfl⟩
  · cases h
theorem vs_forK {o : List Nat} {g : D → Env → Option Env} {p : Pos} (i : Nat) (hp : PassesOwn (model X.prog X.w) X.A X.env X.xe) (hc : X.calm = true) (tk : Takes X W.w) (hg : VG X.K (at1 X) o tg g) (hb : ∀ Wx, Takes X Wx → VSs X (W.to Wx) k body mm)
    (hN : X.N[i]? = some x := by rfl) (hv : Vis X.env.scope x := by first | exact Or.inl rfl | exact Or.inr (Or.inl rfl) | exact Or.inr (Or.inr rfl)) (hd : (x == ("__debug__" : Str)) = false := by decide) (hcd : (x == ("__classdict__" : Str)) = false := by decide)
    (hs : ∀ z, foldedSetIterable (.Name x p) X.env z = pure z := by intro _; rfl) : VS X W k (.For tg (.Name x p) body [] pos) (vForD dKeys i g mm) := by
  obtain ⟨_, p', r'⟩ := hg
  refine ⟨_, ps_forD (tb := fun Wx => canS X.K X.mg (W.to Wx) k mm) hp hc tk (pi_keys (pe_var hN hv hd hcd)) (p' ()) (fun Wx t => (hb Wx t).can) hs, rs_forD r' dKeys_is fun σ H d x kvs ds rs R B hv hB hH r q h => ?_⟩
  unfold dKeys at q
  dsimp only at q
  split at q
  · cases q
    exact ⟨_, hv, d, x, rfl, .inl ⟨kvs, hH, h _ (itk_ok hB)⟩⟩
  · cases q
theorem vs_forI {o : List Nat} {g : D → Env → Option Env} {p apos cpos tpos : Pos} {elts : List Expr} {kk : Nat} (i : Nat) (hp : PassesOwn (model X.prog X.w) X.A X.env X.xe) (hc : X.calm = true) (tk : Takes X W.w) (hg : VG X.K (at1 X) o (.Tuple elts kk tpos) g) (hb : ∀ Wx, Takes X Wx → VSs X (W.to Wx) k body mm)
    (hN : X.N[i]? = some x := by rfl) (hv : Vis X.env.scope x := by first | exact Or.inl rfl | exact Or.inr (Or.inl rfl) | exact Or.inr (Or.inr rfl)) (hd : (x == ("__debug__" : Str)) = false := by decide) (hcd : (x == ("__classdict__" : Str)) = false := by decide)
    (hbase : attributeBase (.Name x p) "items" X.env (eval (.Name x p) X.env) = eval (.Name x p) X.env := by rfl) (hline : (apos.endLine == cpos.line) = true := by rfl)
    (hs : ∀ z, foldedSetIterable (.Call (.Attribute (.Name x p) "items" apos) [] [] cpos) X.env z = pure z := by intro _; rfl) : VS X W k (.For (.Tuple elts kk tpos) (.Call (.Attribute (.Name x p) "items" apos) [] [] cpos) body [] pos) (vForD dItems i g mm) := by
  obtain ⟨_, p', r'⟩ := hg
  refine ⟨_, ps_forD (tb := fun Wx => canS X.K X.mg (W.to Wx) k mm) hp hc tk (pi_items (pe_var hN hv hd hcd) hbase hline) (p' ()) (fun Wx t => (hb Wx t).can) hs, rs_forD r' dItems_is fun σ H d x kvs ds rs R B hv hB hH r q h => ?_⟩
  unfold dItems at q
  dsimp only at q
  split at q
  · cases q
    exact ⟨_, hv, d, x, kvs, rfl, hH, h _ (iti_ok hB r)⟩
  · cases q
/-- xs.extend(a new list), as a statement -/
theorem vs_extF {e : Expr} {m : MA} (i : Nat) {p apos cpos : Pos} (he : VF X.K X.mg (at1 X) W e m) (hN : X.N[i]? = some x := by rfl) (hv : Vis X.env.scope x := by first | exact Or.inl rfl | exact Or.inr (Or.inl rfl) | exact Or.inr (Or.inr rfl)) (hd : (x == ("__debug__" : Str)) = false := by decide)
    (hcd : (x == ("__classdict__" : Str)) = false := by decide) (hbase : attributeBase (.Name x p) "extend" X.env (eval (.Name x p) X.env) = eval (.Name x p) X.env := by rfl)
    (hfew : ((backTo cpos (starEach [e] X.env)).all (fun x => !x.1) && (backToKw cpos (keywordEach [] X.env)).all (fun x => x.1.isSome) && decide ([e].length + ([] : List Keyword).length + (if ([] : List Keyword).isEmpty then 0 else 1) < 30)) = true := by rfl)
    (hline : (apos.endLine == cpos.line) = true := by rfl) (hs1 : starEach [e] X.env = (false, eval e X.env) :: starEach [] X.env := by rfl) (hplain : (backTo cpos (starEach [] X.env)).any (·.1) = false := by rfl)
    (hs : swapsWith (.Call (.Attribute (.Name x p) "extend" apos) [e] [] cpos) none pos.line X.env = pure false := by rfl) : VS X W k (.Expr (.Call (.Attribute (.Name x p) "extend" apos) [e] [] cpos) pos) (vExtF i m) :=
  let ⟨_, q, r⟩ := he; ⟨_, ps_expr (pe_bm PySem.F.plainAttrs_list PySem.F.slot_list_extend PySem.F.type_list_extend (mt_extend : MtR X _ _) (pe_var hN hv hd hcd) (pa_cons (q ()) pa_nil hs1) hbase hfew hline hs1 hplain) hs, rs_extF r⟩
end
/-- a def that isn't reached -/
theorem Def1.bot {P : Program} {w : World} {K : PySem.W.Frag} {mg : Str → Option Value} {x : Str} {st : Stmt} {ps : List Str} {k : Nat} (d : Def1 K mg x st ps) : Ok1 P w K mg x ps k (spV K mg fun _ => .bot) :=
  let ⟨f, fd, F, g, b⟩ := d; ⟨f, fd, g, F.kp, b, fun base => ⟨fun vs H Q E ⟨_, _, _, _, h⟩ => h.elim, fun A outer s H args us vs Q E hr h0 hb hv ⟨_, _, _, _, h⟩ => h.elim⟩⟩
end VL

/-! VL24: lists handed in to be changed. -/
namespace VL
open PySem PySem.Spec PyProof.Rows L2
section
variable {α β : Type}
theorem insL_len : ∀ {j : Nat} {a : α} {l : List α}, (insL j a l).length = l.length + 1
  | 0, _, _ => rfl
  | _ + 1, _, [] => rfl
  | j + 1, a, b :: l => by rw [insL, List.length_cons, insL_len, List.length_cons]
theorem insL_at : ∀ {j : Nat} {a : α} {l : List α}, j ≤ l.length → (insL j a l)[j]? = some a
  | 0, _, _, _ => rfl
  | _ + 1, _, [], h => by simp at h
  | j + 1, a, b :: l, h => by rw [insL, List.getElem?_cons_succ]; exact insL_at (by simpa using h)
end
section
variable {K : PySem.W.Frag} {mg : Str → Option Value} {W : Am K} {k : RK} {G : Gr} {B H : Hp} {σ : L2.St} {e : Env}
/-- place by place -/
def AllS (K : PySem.W.Frag) (G : Gr) (B H : Hp) (a : List (Option V)) (b : List Sl) : Prop := a.length = b.length ∧ ∀ (i : Nat) (s : Sl), b[i]? = some s → ∃ v, a[i]? = some v ∧ SlOk K G B H v s
theorem AllS.nil : AllS K G B H [] [] := ⟨rfl, fun i s h => by simp at h⟩
theorem AllS.cons {v : Option V} {s : Sl} {a : List (Option V)} {b : List Sl} (h : SlOk K G B H v s) (r : AllS K G B H a b) : AllS K G B H (v :: a) (s :: b) := ⟨by rw [List.length_cons, List.length_cons, r.1], fun i t q => by
  cases i with
  | zero => cases q; exact ⟨v, rfl, h⟩
  | succ i => exact r.2 i t q⟩
theorem AllS.app {a a' : List (Option V)} {b b' : List Sl} (r : AllS K G B H a b) (r' : AllS K G B H a' b') : AllS K G B H (a ++ a') (b ++ b') := ⟨by rw [List.length_append, List.length_append, r.1, r'.1], fun i s h => by
  by_cases q : i < b.length
  · rw [List.getElem?_append_left q] at h
    rw [List.getElem?_append_left (by rw [r.1]; exact q)]
    exact r.2 i s h
  · rw [List.getElem?_append_right (by omega)] at h
    rw [List.getElem?_append_right (by rw [r.1]; omega), r.1]
    exact r'.2 _ s h⟩
theorem AllS.reps : ∀ {vs : List V} {ds : List D}, Reps K B vs ds → AllS K G B H (vs.map some) (ds.map Sl.sh)
  | _, _, .nil => .nil
  | _, _, .cons r t => .cons (.sh r) (AllS.reps t)
theorem AllS.ins {v : V} {s : Sl} (h : SlOk K G B H (some v) s) : ∀ (j : Nat) {vs : List V} {ds : List D}, Reps K B vs ds → AllS K G B H ((insL j v vs).map some) (insL j s (ds.map Sl.sh))
  | 0, _, _, r => .cons h (AllS.reps r)
  | _ + 1, _, _, .nil => .cons h .nil
  | j + 1, _, _, .cons r t => .cons (.sh r) (AllS.ins h j t)
theorem AllS.nos : ∀ (n : Nat), AllS K G B H (List.replicate n none) (List.replicate n .no)
  | 0 => .nil
  | n + 1 => .cons .no (AllS.nos n)
theorem ins_ow {b : Kd} {es : List D} {s : Sl} {v : Option V} {a : Addr} : ∀ {j i : Nat} {ds : List D}, j ≤ ds.length → (insL j (.ow b es) (ds.map Sl.sh))[i]? = some s → OwnS H v s a → i = j
  | 0, 0, _, _, _, _ => rfl
  | 0, i + 1, ds, _, h, q => by
    rw [insL, List.getElem?_cons_succ, List.getElem?_map] at h
    cases z : ds[i]? with
    | none => rw [z] at h; cases h
    | some d => rw [z] at h; cases h; exact q.elim
  | j + 1, _, [], hl, _, _ => by simp at hl
  | j + 1, 0, d :: ds, _, h, q => by cases h; exact q.elim
  | j + 1, i + 1, d :: ds, hl, h, q => by
    rw [List.map_cons, insL, List.getElem?_cons_succ] at h
    rw [ins_ow (by simpa using hl) h q]
abbrev grI (p : Addr) (B H : Hp) : Gr := ⟨fun a => if a = p then none else H a, B, [], fun _ => 0, fun _ => p⟩
theorem start_stoI {N : List Str} {p : Addr} {ls us : List V} {ds es : List D} {j : Nat} (sm : Same B H) (bp : B p = none) (hp : H p = some (.lst ls)) (re : Reps K B ls es) (r : Reps K B us ds) (hl : ds.length + 1 ≤ N.length) (hj : j ≤ ds.length) :
    Sto K (grI p B H) B H (L2.start N (insL j (.ref p) us)) (insL j (.ow (.p 0) es) (ds.map Sl.sh) ++ List.replicate (N.length - (ds.length + 1)) .no) := by
  have A := AllS.app (AllS.ins (K := K) (G := grI p B H) (B := B) (H := H) (s := .ow (.p 0) es) (.ow bp (if_pos rfl) hp (.pin re) (fun n _ => rfl)) j r) (AllS.nos (N.length - (ds.length + 1)))
  have e1 : L2.start N (insL j (.ref p) us) = (insL j (.ref p) us).map some ++ List.replicate (N.length - (ds.length + 1)) none := by
    unfold L2.start
    rw [insL_len, r.length]
  rw [e1]
  have low : ∀ {i : Nat} {s : Sl} {v : Option V} {a : Addr}, (insL j (.ow (.p 0) es) (ds.map Sl.sh) ++ List.replicate (N.length - (ds.length + 1)) .no)[i]? = some s → OwnS H v s a → i = j := fun {i s v a} h w => by
    by_cases q : i < (insL j (.ow (.p 0) es) (ds.map Sl.sh)).length
    · rw [List.getElem?_append_left q] at h
      exact ins_ow hj h w
    · rw [List.getElem?_append_right (by omega), List.getElem?_replicate] at h
      split at h <;> cases h
      exact w.elim
  exact { len := A.1, sl := A.2, dis := fun i k s t v w a h1 h2 _ _ h5 h6 => (low h1 h5).trans (low h2 h6).symm, sub := sm, b0 := Same.refl B,
          keep := fun a o h _ => by
            have h : (if a = p then none else H a) = some o := h
            by_cases q : a = p
            · rw [if_pos q] at h; cases h
            · rw [if_neg q] at h; exact h
          dom := fun a h => by
            have h : (if a = p then none else H a) ≠ none := h
            by_cases q : a = p
            · rw [if_pos q] at h; exact absurd rfl h
            · rw [if_neg q] at h; exact h
          new := fun a h => .inl h
          iom := fun a h => by simp at h }
theorem Sto.outI {p : Addr} {B' H' : Hp} {σ' : L2.St} {e' : Env} {j : Nat} {es' : List D} (bp : B p = none) (S : Sto K (grI p B H) B' H' σ' e') (he : e'[j]? = some (.ow (.p 0) es')) : (∀ a o, a ≠ p → H a = some o → H' a = some o) ∧ Same B B' ∧ Same B' H' ∧ News' B H B' ∧ (∃ ls', H' p = some (.lst ls') ∧ Reps K B' ls' es') ∧ B' p = none ∧ Owned H' σ' e' p := by
  obtain ⟨v, hv, ok⟩ := S.sl j _ he
  cases ok with
  | @ow _ q0 _ _ hb hg hh hr hpin =>
    have e1 : q0 = p := hpin 0 rfl
    subst e1
    cases hr with
    | pin hr =>
      refine ⟨fun a o h1 h2 => S.keep a o ((if_neg h1).trans h2) (by simp), S.b0, S.sub, fun a h => ?_, ⟨_, hh, hr⟩, hb, ⟨j, _, _, he, hv, rfl⟩⟩
      rcases S.new a h with w | w
      · exact .inl w
      · have w : (if a = q0 then none else H a) = none := w
        by_cases q : a = q0
        · rw [q] at h; exact absurd hb h
        · rw [if_neg q] at w; exact .inr w
theorem Sto.callI (S : Sto K G B H σ e) {i : Nat} {k : Kd} {p : Addr} {es es' : List D} {ls' : List V} {B' H' : Hp} (he : e[i]? = some (.ow k es)) (mk : ∀ vs' ds', Reps K B' vs' ds' → OwR K B' k (.lst vs') ds') (hσ : σ[i]? = some (some (.ref p)))
    (h1 : ∀ a o, a ≠ p → H a = some o → H' a = some o) (h2 : Same B B') (h3 : Same B' H') (h4 : News' B H B') (hp : H' p = some (.lst ls')) (bp : B' p = none) (r : Reps K B' ls' es') : Sto K G B' H' σ (e.set i (.ow k es')) := by
  obtain ⟨o, hb, hg, hh, hr, hpin⟩ := S.sameAt he hσ
  have hi : i < e.length := (List.getElem?_eq_some_iff.mp he).1
  have ne : ∀ {a}, Owned H σ (e.set i .no) a → a ≠ p := fun q z => S.lost he hσ rfl (z ▸ q)
  have hO : ∀ a, Owned H σ (e.set i .no) a → H' a = H a := fun a q => by
    cases z : H a with
    | none => exact absurd z ((S.lose i).apart q).2.2
    | some o => exact h1 _ _ (ne q) z
  have S1 : Sto K G B' H' σ (e.set i .no) := by
    refine (S.lose i).mv' h2 h3 hO (fun a q => ?_) (fun a o q1 q2 => ?_) (fun a q => ?_) fun a q => ?_
    · cases z : B' a with
      | none => rfl
      | some o =>
        rcases h4 a (by rw [z]; simp) with w | w
        · exact absurd ((S.lose i).apart q).1 w
        · exact absurd w ((S.lose i).apart q).2.2
    · refine h1 _ _ (fun z => ?_) (S.keep a o q1 q2)
      rw [z, hg] at q1; cases q1
    · by_cases z : a = p
      · rw [z, hp]; simp
      · cases w : H a with
        | none => exact absurd w (S.dom a q)
        | some o => rw [h1 _ _ z w]; simp
    · rcases h4 a q with w | w
      · exact S.new a w
      · exact .inr (S.fresh w)
  have q := S1.swap (i := i) (s := .ow k es') (v := .ref p) (by rw [List.length_set]; exact hi) hσ (.ow bp hg hp (mk _ _ r) hpin) fun a h => by
    have h : some (V.ref p) = some (V.ref a) := h
    cases h
    rw [List.set_set]
    exact fun q => S.lost he hσ rfl ((S.lose i).own_frame (h2.trans h3) hO q)
  rw [List.set_set] at q
  exact q
/-! promises -/
def spVI (K : PySem.W.Frag) (mg : Str → Option Value) (j : Nat) (fn : FI) : Sp := fun vs H Q E => ∃ (B : Hp) (p : Addr) (ls us : List V) (ds es : List D), vs = insL j (.ref p) us ∧ Same B H ∧ B p = none ∧ H p = some (.lst ls) ∧ Reps K B ls es ∧ Reps K B us ds ∧ match fn ds es with
  | .ok d es' => ∀ v B' H' ls', (∀ a o, a ≠ p → H a = some o → H' a = some o) → Same B B' → Same B' H' → News' B H B' → H' p = some (.lst ls') → B' p = none → Reps K B' ls' es' → Rep K B' v d → Q v H'
  | .err x es' => ∀ cls dd B' H' ls', (∀ a o, a ≠ p → H a = some o → H' a = some o) → Same B B' → Same B' H' → News' B H B' → H' p = some (.lst ls') → B' p = none → Reps K B' ls' es' → XRep K mg B' cls dd x → E cls dd H'
  | .bot => False
def spFI (K : PySem.W.Frag) (mg : Str → Option Value) (j : Nat) (fn : FI) : Sp := fun vs H Q E => ∃ (B : Hp) (p : Addr) (ls us : List V) (ds es : List D), vs = insL j (.ref p) us ∧ Same B H ∧ B p = none ∧ H p = some (.lst ls) ∧ Reps K B ls es ∧ Reps K B us ds ∧ match fn ds es with
  | .ok (.lst rs) es' => ∀ q ws B' H' ls', (∀ a o, a ≠ p → H a = some o → H' a = some o) → Same B B' → Same B' H' → News' B H B' → H' p = some (.lst ls') → B' p = none → Reps K B' ls' es' → H q = none → q ≠ p → B' q = none → H' q = some (.lst ws) → Reps K B' ws rs → Q (.ref q) H'
  | .ok _ _ => False
  | .err x es' => ∀ cls dd B' H' ls', (∀ a o, a ≠ p → H a = some o → H' a = some o) → Same B B' → Same B' H' → News' B H B' → H' p = some (.lst ls') → B' p = none → Reps K B' ls' es' → XRep K mg B' cls dd x → E cls dd H'
  | .bot => False
theorem len_ofI {np n j : Nat} {m : MS} : (∀ vs H Q E, spVI K mg j (runI np n j m) vs H Q E → vs.length = np) ∧ ∀ vs H Q E, spFI K mg j (runI np n j m) vs H Q E → vs.length = np := by
  refine ⟨fun vs H Q E h => ?_, fun vs H Q E h => ?_⟩
  · obtain ⟨B, p, ls, us, ds, es, rfl, sm, bp, hp, re, r, h⟩ := h
    rw [insL_len, r.length]
    by_cases q : ds.length + 1 = np ∧ j ≤ ds.length
    · exact q.1
    · unfold runI at h; rw [if_neg q] at h; exact h.elim
  · obtain ⟨B, p, ls, us, ds, es, rfl, sm, bp, hp, re, r, h⟩ := h
    rw [insL_len, r.length]
    by_cases q : ds.length + 1 = np ∧ j ≤ ds.length
    · exact q.1
    · unfold runI at h; rw [if_neg q] at h; exact h.elim
theorem FRI.of_some {j : Nat} {e : Env} {f : List D → FRI} {r : FRI} (h : FRI.of j e f = r) (hr : r ≠ .bot) : ∃ es, e[j]? = some (.ow (.p 0) es) ∧ r = f es := by
  unfold FRI.of at h
  split at h
  · rename_i es h1; exact ⟨es, h1, h.symm⟩
  · exact absurd h.symm hr
end
/-! a def by its body -/
section
variable {P : Program} {w : World} {K : PySem.W.Frag} {mg : Str → Option Value} {base : Heap}
theorem fn_VI {x qual : Str} {st : Stmt} {f : Addr} {fd : FuncData} {N ps : List Str} {k j : Nat} {m : MS} (F : Fun K x qual st f fd) (S : FnScope N ps (defScope st)) (hl : ps.length ≤ N.length)
    (hbody : ∀ (cdv : Value) (A : Around) (outer : List PySem.Env) (s : Shared) (H : Hp) (E : XK), Room k (A.deeper (envOfC qual (defScope st) s.heap.objs.size f cdv)) →
      VSs (cxOf (L2.CX P w) P w K mg base N qual (defScope st) f cdv A outer s H E) (Am.of K fun cls d _ H => E cls d H) .v (defBody st) m) :
    FnOk P w K mg base (L2.CX P w) (k + 1) f fd ps (spVI K mg j (runI ps.length N.length j m)) := by
  refine F.okX S len_ofI.1 (fun cdv A outer s H vs Q E hr h => ?_)
  obtain ⟨B, p, ls, us, ds, es, rfl, sm, bp, hp, re, r, h⟩ := h
  obtain ⟨t, pt, rt⟩ := hbody cdv A outer s H E hr
  have q : ds.length + 1 = ps.length ∧ j ≤ ds.length := by
    by_cases q : ds.length + 1 = ps.length ∧ j ≤ ds.length
    · exact q
    · unfold runI at h; rw [if_neg q] at h; exact h.elim
  refine ⟨t, pt, rt (grI p B H) trivial B H _ _ _ (start_stoI sm bp hp re r (by omega) q.2) ?_⟩
  unfold runI at h
  rw [if_pos q] at h
  rw [q.1]
  cases z : m (insL j (.ow (.p 0) es) (ds.map Sl.sh) ++ List.replicate (N.length - ps.length) .no) with
  | nx e' =>
    simp only [z] at h
    intro σ' B' H' S' _
    cases u : FRI.of j e' (FRI.ok .non) with
    | bot => rw [u] at h; exact h.elim
    | ok d es' =>
      rw [u] at h
      obtain ⟨es2, h1, h2⟩ := FRI.of_some u (by simp)
      cases h2
      obtain ⟨a1, a2, a3, a4, ⟨ls', a5, a6⟩, a7, _⟩ := S'.outI bp h1
      exact h .non B' H' ls' a1 a2 a3 a4 a5 a7 a6 .non
    | err x es' => obtain ⟨es2, h1, h2⟩ := FRI.of_some u (by simp); cases h2
  | rt d e' =>
    simp only [z] at h
    intro v σ' B' H' S' _ ro
    cases u : FRI.of j e' (FRI.ok d) with
    | bot => rw [u] at h; exact h.elim
    | ok d' es' =>
      rw [u] at h
      obtain ⟨es2, h1, h2⟩ := FRI.of_some u (by simp)
      cases h2
      obtain ⟨a1, a2, a3, a4, ⟨ls', a5, a6⟩, a7, _⟩ := S'.outI bp h1
      exact h v B' H' ls' a1 a2 a3 a4 a5 a7 a6 ro
    | err x es' => obtain ⟨es2, h1, h2⟩ := FRI.of_some u (by simp); cases h2
  | bk e' => rw [z] at h; exact h.elim
  | ct e' => rw [z] at h; exact h.elim
  | err x e' =>
    simp only [z] at h
    intro c dd σ' B' H' S' _ xr
    cases u : FRI.of j e' (FRI.err x) with
    | bot => rw [u] at h; exact h.elim
    | err x' es' =>
      rw [u] at h
      obtain ⟨es2, h1, h2⟩ := FRI.of_some u (by simp)
      cases h2
      obtain ⟨a1, a2, a3, a4, ⟨ls', a5, a6⟩, a7, _⟩ := S'.outI bp h1
      exact h c dd B' H' ls' a1 a2 a3 a4 a5 a7 a6 xr
    | ok d es' => obtain ⟨es2, h1, h2⟩ := FRI.of_some u (by simp); cases h2
  | bot => rw [z] at h; exact h.elim
theorem fn_FI {x qual : Str} {st : Stmt} {f : Addr} {fd : FuncData} {N ps : List Str} {k j : Nat} {m : MS} (F : Fun K x qual st f fd) (S : FnScope N ps (defScope st)) (hl : ps.length ≤ N.length)
    (hbody : ∀ (cdv : Value) (A : Around) (outer : List PySem.Env) (s : Shared) (H : Hp) (E : XK), Room k (A.deeper (envOfC qual (defScope st) s.heap.objs.size f cdv)) →
      VSs (cxOf (L2.CX P w) P w K mg base N qual (defScope st) f cdv A outer s H E) (Am.of K fun cls d _ H => E cls d H) .f (defBody st) m) :
    FnOk P w K mg base (L2.CX P w) (k + 1) f fd ps (spFI K mg j (runI ps.length N.length j m)) := by
  refine F.okX S len_ofI.2 (fun cdv A outer s H vs Q E hr h => ?_)
  obtain ⟨B, p, ls, us, ds, es, rfl, sm, bp, hp, re, r, h⟩ := h
  obtain ⟨t, pt, rt⟩ := hbody cdv A outer s H E hr
  have q : ds.length + 1 = ps.length ∧ j ≤ ds.length := by
    by_cases q : ds.length + 1 = ps.length ∧ j ≤ ds.length
    · exact q
    · unfold runI at h; rw [if_neg q] at h; exact h.elim
  refine ⟨t, pt, rt (grI p B H) trivial B H _ _ _ (start_stoI sm bp hp re r (by omega) q.2) ?_⟩
  unfold runI at h
  rw [if_pos q] at h
  rw [q.1]
  cases z : m (insL j (.ow (.p 0) es) (ds.map Sl.sh) ++ List.replicate (N.length - ps.length) .no) with
  | nx e' =>
    simp only [z] at h
    exfalso
    cases u : FRI.of j e' (FRI.ok .non) with
    | bot => rw [u] at h; exact h
    | ok d es' =>
      rw [u] at h
      obtain ⟨es2, h1, h2⟩ := FRI.of_some u (by simp)
      cases h2
      exact h
    | err x es' => obtain ⟨es2, h1, h2⟩ := FRI.of_some u (by simp); cases h2
  | rt d e' =>
    simp only [z] at h
    intro v σ' B' H' S' _ ro
    obtain ⟨rs, rfl, q', ws, rfl, hq, hb, hg, no, rr⟩ := ro
    cases u : FRI.of j e' (FRI.ok (.lst rs)) with
    | bot => rw [u] at h; exact h.elim
    | ok d' es' =>
      rw [u] at h
      obtain ⟨es2, h1, h2⟩ := FRI.of_some u (by simp)
      cases h2
      obtain ⟨a1, a2, a3, a4, ⟨ls', a5, a6⟩, a7, a8⟩ := S'.outI bp h1
      have ne : q' ≠ p := fun z => no (z ▸ a8)
      have hg : (if q' = p then none else H q') = none := hg
      rw [if_neg ne] at hg
      exact h q' ws B' H' ls' a1 a2 a3 a4 a5 a7 a6 hg ne hb hq rr
    | err x es' => obtain ⟨es2, h1, h2⟩ := FRI.of_some u (by simp); cases h2
  | bk e' => rw [z] at h; exact h.elim
  | ct e' => rw [z] at h; exact h.elim
  | err x e' =>
    simp only [z] at h
    intro c dd σ' B' H' S' _ xr
    cases u : FRI.of j e' (FRI.err x) with
    | bot => rw [u] at h; exact h.elim
    | err x' es' =>
      rw [u] at h
      obtain ⟨es2, h1, h2⟩ := FRI.of_some u (by simp)
      cases h2
      obtain ⟨a1, a2, a3, a4, ⟨ls', a5, a6⟩, a7, _⟩ := S'.outI bp h1
      exact h c dd B' H' ls' a1 a2 a3 a4 a5 a7 a6 xr
    | ok d es' => obtain ⟨es2, h1, h2⟩ := FRI.of_some u (by simp); cases h2
  | bot => rw [z] at h; exact h.elim
end
/-! calls -/
section
variable {K : PySem.W.Frag} {mg : Str → Option Value} {W : Am K} {G : Gr} {B H : Hp} {σ : L2.St} {e : Env}
/-- the values, the list of slot i at place j -/
def rpI (K : PySem.W.Frag) (i j : Nat) : RP (List D) (List V) := fun _ B _ σ _ vs ds => ∃ v us, σ[i]? = some (some v) ∧ vs = insL j v us ∧ Reps K B us ds
theorem rd_argI {i : Nat} {t : TA} {m : MA} (h : RdA K mg W t m) : RdX K mg W (rpI K i 0) (tCons (tVar i) t) (vArgI i m) where
  run := fun G hG B H σ e Q S q => by
    unfold vArgI at q
    cases z : e[i]? with
    | none => rw [z] at q; exact q.elim
    | some s =>
      rw [z] at q
      cases s with
      | no => exact q.elim
      | tk _ => exact q.elim
      | sh _ => exact q.elim
      | tr _ _ => exact q.elim
      | ow b ds =>
        obtain ⟨v, hv, ok⟩ := S.sl i _ z
        cases ok with
        | ow hb hg hh hr hpin =>
          refine ⟨_, hv, h.run G hG B H σ e _ S ?_⟩
          cases u : m e with
          | ok a e1 => rw [u] at q; exact fun us B1 H1 S1 s1 r1 => q _ B1 H1 S1 s1 ⟨_, us, hv, rfl, r1⟩
          | err x e1 => rw [u] at q; exact q
          | bot => rw [u] at q; exact q.elim
theorem rd_consI {i j : Nat} {ta : TE} {t : TA} {ma : ME} {m : MA} (ha : RdE K mg W ta ma) (hr : RdX K mg W (rpI K i j) t m) : RdX K mg W (rpI K i (j + 1)) (tCons ta t) (vCons ma m) where
  run := fun G hG B H σ e Q S h => by
    refine ha.run G hG B H σ e _ S (Po.bind h fun a e1 x B1 H1 S1 s1 r1 h1 => ?_)
    refine hr.run G hG B1 H1 σ e1 _ S1 (Po.bind h1 fun b e2 y B2 H2 S2 s2 r2 h2 => ?_)
    obtain ⟨v, us, hv, rfl, r2⟩ := r2
    exact Po.here h2 S2 ⟨v, x :: us, hv, rfl, .cons (Rep.mono s2 r1) r2⟩
theorem rd_callI {i j : Nat} {fn : FI} {t : TA} {m : MA} (ha : RdX K mg W (rpI K i j) t m) : RdE K mg W (tCallS (spVI K mg j fn) (WE W.w) t) (vCallI i fn m) where
  run := fun G hG B H σ e Q S q => by
    refine ha.run G hG B H σ e _ S (Po.bind q fun ds e1 vs B1 H1 S1 s1 r1 h1 => ?_)
    obtain ⟨v, us, hv, rfl, r1⟩ := r1
    cases z : e1[i]? with
    | none => rw [z] at h1; exact h1.elim
    | some s =>
      rw [z] at h1
      cases s with
      | no => exact h1.elim
      | tk _ => exact h1.elim
      | sh _ => exact h1.elim
      | tr _ _ => exact h1.elim
      | ow k es =>
        have h1 : Po K mg W (rpE K) G σ B1 Q (if k.isL = true then putI i k e1 (fn ds es) some else .bot) := h1
        by_cases kl : k.isL = true
        · rw [if_pos kl] at h1
          obtain ⟨v1, hv1, ok⟩ := S1.sl i _ z
          rw [hv] at hv1
          cases hv1
          have mk : ∀ B' vs' ds', Reps K B' vs' ds' → OwR K B' k (.lst vs') ds' := fun B' vs' ds' r => by
            cases k with
            | l => exact .lst r
            | p n => exact .pin r
            | d => cases kl
          cases ok with
          | @ow _ p o _ hb hg hh hr hpin =>
            have lr : ∃ ls, o = .lst ls ∧ Reps K B1 ls es := by
              cases hr with
              | lst r => exact ⟨_, rfl, r⟩
              | pin r => exact ⟨_, rfl, r⟩
              | dct _ _ => cases kl
            obtain ⟨ls, rfl, lr⟩ := lr
            refine ⟨B1, p, ls, us, ds, es, rfl, S1.sub, hb, hh, lr, r1, ?_⟩
            cases u : fn ds es with
            | ok d es' =>
              rw [u] at h1
              exact fun v' B' H' ls' a1 a2 a3 a4 a5 a6 a7 r => h1 v' B' H' (S1.callI z (mk B') hv a1 a2 a3 a4 a5 a6 a7) a2 r
            | err x es' =>
              rw [u] at h1
              exact fun c dd B' H' ls' a1 a2 a3 a4 a5 a6 a7 r => h1 c dd B' H' (S1.callI z (mk B') hv a1 a2 a3 a4 a5 a6 a7) a2 r
            | bot => rw [u] at h1; exact h1
        · rw [if_neg kl] at h1; exact h1.elim
theorem rd_callIF {i j : Nat} {fn : FI} {t : TA} {m : MA} (ha : RdX K mg W (rpI K i j) t m) : RdF K mg W (tCallS (spFI K mg j fn) (WE W.w) t) (vCallIF i fn m) where
  run := fun G hG B H σ e Q S q => by
    refine ha.run G hG B H σ e _ S (Po.bind q fun ds e1 vs B1 H1 S1 s1 r1 h1 => ?_)
    obtain ⟨v, us, hv, rfl, r1⟩ := r1
    cases z : e1[i]? with
    | none => rw [z] at h1; exact h1.elim
    | some s =>
      rw [z] at h1
      cases s with
      | no => exact h1.elim
      | tk _ => exact h1.elim
      | sh _ => exact h1.elim
      | tr _ _ => exact h1.elim
      | ow k es =>
        have h1 : Po K mg W (rpF K) G σ B1 Q (if k.isL = true then putI i k e1 (fn ds es) asL else .bot) := h1
        by_cases kl : k.isL = true
        · rw [if_pos kl] at h1
          obtain ⟨v1, hv1, ok⟩ := S1.sl i _ z
          rw [hv] at hv1
          cases hv1
          have mk : ∀ B' vs' ds', Reps K B' vs' ds' → OwR K B' k (.lst vs') ds' := fun B' vs' ds' r => by
            cases k with
            | l => exact .lst r
            | p n => exact .pin r
            | d => cases kl
          cases ok with
          | @ow _ p o _ hb hg hh hr hpin =>
            have lr : ∃ ls, o = .lst ls ∧ Reps K B1 ls es := by
              cases hr with
              | lst r => exact ⟨_, rfl, r⟩
              | pin r => exact ⟨_, rfl, r⟩
              | dct _ _ => cases kl
            obtain ⟨ls, rfl, lr⟩ := lr
            refine ⟨B1, p, ls, us, ds, es, rfl, S1.sub, hb, hh, lr, r1, ?_⟩
            cases u : fn ds es with
            | ok d es' =>
              rw [u] at h1
              cases d with
              | lst rs =>
                intro q' ws B' H' ls' a1 a2 a3 a4 a5 a6 a7 hq ne bq hq' rr
                refine h1 (.ref q') B' H' (S1.callI z (mk B') hv a1 a2 a3 a4 a5 a6 a7) a2 ⟨q', ws, rfl, hq', bq, S1.fresh hq, fun w => ?_, rr⟩
                have lose : ∀ {a : Addr}, Owned H' σ (e1.set i (.ow k es')) a → a = p ∨ Owned H' σ (e1.set i .no) a := fun {a} ⟨i2, s2, v2, w1, w2, w3⟩ => by
                  by_cases qi : i = i2
                  · subst qi
                    rw [List.getElem?_set_self (List.getElem?_eq_some_iff.mp z).1] at w1
                    cases w1
                    rw [hv] at w2
                    cases w2
                    have w3 : some (V.ref p) = some (V.ref a) := w3
                    cases w3
                    exact .inl rfl
                  · exact .inr ⟨i2, s2, v2, by rw [List.getElem?_set_ne qi] at w1 ⊢; exact w1, w2, w3⟩
                rcases lose w with w | w
                · exact ne w
                · refine not_owned_new S1 hq (((S1.lose i).own_frame (a2.trans a3) (fun a q => ?_) w).of_lose)
                  cases y : H1 a with
                  | none => exact absurd y ((S1.lose i).apart q).2.2
                  | some o => exact a1 _ _ (fun u => S1.lost z hv rfl (u ▸ q)) y
              | _ => exact h1
            | err x es' =>
              rw [u] at h1
              exact fun c dd B' H' ls' a1 a2 a3 a4 a5 a6 a7 r => h1 c dd B' H' (S1.callI z (mk B') hv a1 a2 a3 a4 a5 a6 a7) a2 r
            | bot => rw [u] at h1; exact h1
        · rw [if_neg kl] at h1; exact h1.elim
end
/-! by names -/
section
variable {P : Program} {w : World} {K : PySem.W.Frag} {mg : Str → Option Value} {x : Str} {st : Stmt} {N ps : List Str} {k : Nat} {m : MS}
theorem Def1.VI (j : Nat) (d : Def1 K mg x st ps) (S : FnScope N ps (defScope st)) (hl : ps.length ≤ N.length)
    (hbody : ∀ (base : Heap) (f : Addr) (cdv : Value) (A : Around) (outer : List PySem.Env) (s : Shared) (H : Hp) (E : XK), Room k (A.deeper (envOfC x (defScope st) s.heap.objs.size f cdv)) →
      VSs (cxOf (L2.CX P w) P w K mg base N x (defScope st) f cdv A outer s H E) (Am.of K fun cls d _ H => E cls d H) .v (defBody st) m) : Ok1 P w K mg x ps (k + 1) (spVI K mg j (runI ps.length N.length j m)) :=
  let ⟨f, fd, F, g, b⟩ := d; ⟨f, fd, g, F.kp, b, fun base => fn_VI F S hl (hbody base f)⟩
theorem Def1.FI (j : Nat) (d : Def1 K mg x st ps) (S : FnScope N ps (defScope st)) (hl : ps.length ≤ N.length)
    (hbody : ∀ (base : Heap) (f : Addr) (cdv : Value) (A : Around) (outer : List PySem.Env) (s : Shared) (H : Hp) (E : XK), Room k (A.deeper (envOfC x (defScope st) s.heap.objs.size f cdv)) →
      VSs (cxOf (L2.CX P w) P w K mg base N x (defScope st) f cdv A outer s H E) (Am.of K fun cls d _ H => E cls d H) .f (defBody st) m) : Ok1 P w K mg x ps (k + 1) (spFI K mg j (runI ps.length N.length j m)) :=
  let ⟨f, fd, F, g, b⟩ := d; ⟨f, fd, g, F.kp, b, fun base => fn_FI F S hl (hbody base f)⟩
end
section
variable {ι : Type} {K : PySem.W.Frag} {mg : Str → Option Value} {X : ι → Cx} {W : Am K} {P : Program} {w : World} {base : Heap} {pos : Pos} {e : Expr} {es : List Expr} {ma : ME} {ms : MA} {i j n k : Nat} {ps : List Str} {fn : FI} {x y : Str} {p p2 : Pos}
/-- arguments, the j-th the list of slot i -/
def VAI (K : PySem.W.Frag) (mg : Str → Option Value) (X : ι → Cx) (W : Am K) (i j : Nat) (es : List Expr) (m : MA) : Prop := ∃ t, (∀ i, PA (X i) es t) ∧ RdX K mg W (rpI K i j) t m
theorem vai_here (i : Nat) (hr : VA K mg X W es ms) (hN : ∀ j, (X j).N[i]? = some y := by intro _; rfl) (hv : ∀ j, Vis (X j).env.scope y := by intro _; first | exact Or.inl rfl | exact Or.inr (Or.inl rfl) | exact Or.inr (Or.inr rfl)) (hd : (y == ("__debug__" : Str)) = false := by decide)
    (hcd : (y == ("__classdict__" : Str)) = false := by decide) (hs : ∀ j, starEach (.Name y p2 :: es) (X j).env = (false, eval (.Name y p2) (X j).env) :: starEach es (X j).env := by intro _; rfl) : VAI K mg X W i 0 (.Name y p2 :: es) (vArgI i ms) :=
  let ⟨_, q, r⟩ := hr; ⟨_, fun j => pa_cons (pe_var (hN j) (hv j) hd hcd) (q j) (hs j), rd_argI r⟩
theorem vai_cons (ha : VE K mg X W e ma) (hr : VAI K mg X W i j es ms) (hs : ∀ j, starEach (e :: es) (X j).env = (false, eval e (X j).env) :: starEach es (X j).env := by intro _; rfl) : VAI K mg X W i (j + 1) (e :: es) (vCons ma ms) :=
  let ⟨_, p, r⟩ := ha; let ⟨_, p', r'⟩ := hr; ⟨_, fun i => pa_cons (p i) (p' i) (hs i), rd_consI r r'⟩
theorem ve_calI (o : Ok1 P w K mg x ps n (spVI K mg j fn)) (hr : ∀ i, Room k (X i).A) (tk : ∀ i, Takes (X i) W.w) (ha : VAI K mg X W i j (e :: es) ms) (hX : IsX X P w K mg base := by intro _; exact ⟨rfl, rfl, rfl, rfl, rfl⟩) (hj : n ≤ k := by decide) (hg : ∀ i, Gl (X i) x := by intro _; rfl) (hdb : (x == ("__debug__" : Str)) = false := by decide)
    (he : ∀ i, starEach (e :: es) (X i).env = (false, eval e (X i).env) :: starEach es (X i).env := by intro _; rfl) (hpl : ∀ i, (backTo pos (starEach es (X i).env)).any (·.1) = false := by intro _; rfl) : VE K mg X W (.Call (.Name x p) (e :: es) [] pos) (vCallI i fn ms) :=
  let ⟨_, _, g, kp, b, F⟩ := o; let ⟨_, p, r⟩ := ha; ⟨_, fun i => call_at (F base) (hX i) ((hr i).mono hj) (hg i) g kp b.b (fun σ => passAt (tk i) σ) (p i) hdb (he i) (hpl i), rd_callI r⟩
theorem vf_calI (o : Ok1 P w K mg x ps n (spFI K mg j fn)) (hr : ∀ i, Room k (X i).A) (tk : ∀ i, Takes (X i) W.w) (ha : VAI K mg X W i j (e :: es) ms) (hX : IsX X P w K mg base := by intro _; exact ⟨rfl, rfl, rfl, rfl, rfl⟩) (hj : n ≤ k := by decide) (hg : ∀ i, Gl (X i) x := by intro _; rfl) (hdb : (x == ("__debug__" : Str)) = false := by decide)
    (he : ∀ i, starEach (e :: es) (X i).env = (false, eval e (X i).env) :: starEach es (X i).env := by intro _; rfl) (hpl : ∀ i, (backTo pos (starEach es (X i).env)).any (·.1) = false := by intro _; rfl) : VF K mg X W (.Call (.Name x p) (e :: es) [] pos) (vCallIF i fn ms) :=
  let ⟨_, _, g, kp, b, F⟩ := o; let ⟨_, p, r⟩ := ha; ⟨_, fun i => call_at (F base) (hX i) ((hr i).mono hj) (hg i) g kp b.b (fun σ => passAt (tk i) σ) (p i) hdb (he i) (hpl i), rd_callIF r⟩
end
end VL

/-! VL25: try .. else. -/
namespace VL
open PySem PySem.Spec PyProof.Rows L2
section
variable {K : PySem.W.Frag} {mg : Str → Option Value} {W : Am K} {k : RK} {names : List Str} {anc : Str → Str → Bool} {bi : List String} {y : Str} {m h el : MS} {u : TS}
theorem rs_tryElse {c : Addr} (T : ExT K mg names anc bi) (hy : y ∈ names) (hD : mg y = some (.ref c)) (hel : RdS K mg W k u el) : RdS K mg W k (fun D σ H => canS K mg (W.to (wOnly K (.ref c) (fun a cls d D σ H => canS K mg (Am.of K fun _ _ _ _ => False) k h D σ H) W.w D)) k m { D with nx := u D } σ H)
    (vTryElse names anc y m h el) := fun G hG B H σ e D S q => by
  refine ⟨G, B, e, hG, S, ?_⟩
  unfold vTryElse at q
  cases r : m e with
  | nx e' => simp only [r] at q; exact fun σ' B' H' S' s => hel G hG B' H' σ' e' D S' (PoS.base s q)
  | rt d e' => simp only [r] at q; exact q
  | bk e' => simp only [r] at q; exact q
  | ct e' => simp only [r] at q; exact q
  | bot => simp only [r] at q; exact q.elim
  | err x e1 =>
    simp only [r] at q
    intro cls dd σ' B' H' S' s xr
    have xr' := xr
    obtain ⟨C, h1, h2, h3⟩ := xr
    subst h2
    by_cases hx : x.cls ∈ names
    · rw [if_pos hx] at q
      refine ⟨anc x.cls y, T.exm x.cls hx y hy C c h1 hD, fun hb a ha => ?_, fun hb => ?_⟩
      · rw [if_pos hb] at q
        refine ⟨G, B', e1, trivial, S', ?_⟩
        have q := PoS.base s q
        cases w : h e1 with
        | nx e' => simp only [w] at q; exact q
        | rt d e' => simp only [w] at q; exact q
        | bk e' => simp only [w] at q; exact q
        | ct e' => simp only [w] at q; exact q
        | err x e' => simp only [w] at q; exact q.elim
        | bot => simp only [w] at q; exact q.elim
      · rw [if_neg (by rw [hb]; exact Bool.false_ne_true)] at q
        exact q (.ref C) dd σ' B' H' S' s xr'
    · rw [if_neg hx] at q; exact q.elim
end
section
variable {X : Cx} {W : Am X.K} {k : RK} {pos np pos' : Pos} {y : Str} {body suite orelse : List Stmt} {b₀ : Stmt} {m h el : MS} {names : List Str} {anc : Str → Str → Bool} {bi : List String}
theorem vs_tryElse (T : ExT X.K X.mg names anc bi) (hs : X.stack = X.env :: X.outer) (hf : X.env.frame = some X.env.locals) (tk : Takes X W.w)
    (hb : ∀ (Wx : WX) (pn : List (Addr × Obj)) (xe : Value → Shared → Prop), Takes (X.tr pn xe) Wx → PassesOwn (model X.prog X.w) X.A X.env xe → VSs (X.tr pn xe) (W.to Wx) k body m)
    (hsu : ∀ (a : Addr) (oe : Obj) (pn : List (Addr × Obj)), VSs (X.suite a ((a, oe) :: pn)) (Am.of X.K fun _ _ _ _ => False) k (b₀ :: suite) h)
    (hel : VSs X W k orelse el)
    (hy : y ∈ names := by decide +kernel) (hg : Gl X y := by rfl) (hdb : (y == ("__debug__" : Str)) = false := by decide) :
    VS X W k (.Try body [.ExceptHandler (some (.Name y np)) none (b₀ :: suite) pos'] orelse [] pos) (vTryElse names anc y m h el) := by
  obtain ⟨D, hD⟩ := T.top y hy
  obtain ⟨u, pu, ru⟩ := hel
  exact ⟨_, ps_try_onlyE (tb := fun Wx => canS X.K X.mg (W.to Wx) k m) (ts := fun a cls d D σ H => canS X.K X.mg (Am.of X.K fun _ _ _ _ => False) k h D σ H) pu hs hf ⟨hg, hdb, .inl hD⟩ tk (fun Wx pn xe t p => (hb Wx pn xe t p).can) (fun a oe cls d pn hz hfl => (hsu a oe pn).can), rs_tryElse T hy hD ru⟩
end
end VL

/-! VL26: xs.insert(k, e). -/
namespace VL
open PySem PySem.Spec PyProof.Rows L2
section
variable {K : PySem.W.Frag} {mg : Str → Option Value} {W : Am K} {k : RK}
def rInsL : V → List V → Hp → VK → Prop := fun x vs H Q => ∃ (l : Addr) (xs : List V) (i : Int) (y : V), x = .ref l ∧ vs = [.int i, y] ∧ H l = some (.lst xs) ∧ xs.length < sizeLine ∧ 0 ≤ i ∧ i < 2 ^ 63 ∧
    Q .non (upd H l (.lst (xs.take i.toNat ++ [y] ++ xs.drop i.toNat)))
theorem rs_ins {i : Nat} {t tx : TE} {m mx : ME} (hx : RdE K mg W tx mx) (ha : RdE K mg W t m) : RdS K mg W k (tDrop (tBM K "list" rInsL (tVar i) (tCons tx (tCons t tNil)))) (vIns i mx m) := fun G hG B H σ e D S h => by
  unfold vIns at h
  obtain ⟨ds, z, h⟩ := PoS.slot h
  obtain ⟨p, vs, hv, hh, hr⟩ := S.ow z
  refine ⟨_, hv, .inl ⟨rfl, vs, .inl (.inl hh)⟩, hx.run G hG B H σ e _ S (PoS.thenS h fun x e1 vx B1 H1 S1 s1 r1 h1 => ?_)⟩
  refine ha.run G hG B1 H1 σ e1 _ S1 (PoS.thenS h1 fun d e2 v B2 H2 S2 s2 r2 h2 => ?_)
  obtain ⟨ds2, z2, h2⟩ := PoS.slot h2
  obtain ⟨p2, vs2, hv2, hh2, hr2⟩ := S2.ow z2
  rw [hv] at hv2
  cases hv2
  cases x with
  | int n =>
    have h2 : PoS K mg W k G B2 D (if 0 ≤ n ∧ n < 2 ^ 62 ∧ ds2.length < vmax then .nx (e2.set i (.ow .l (ds2.take n.toNat ++ [d] ++ ds2.drop n.toNat))) else .bot) := h2
    by_cases hl : 0 ≤ n ∧ n < 2 ^ 62 ∧ ds2.length < vmax
    · rw [if_pos hl] at h2
      cases r1
      exact ⟨p, vs2, n, v, rfl, rfl, hh2, by rw [hr2.length]; exact Nat.lt_of_lt_of_le hl.2.2 vok, hl.1, by have := hl.2.1; omega, h2.nx (S2.write z2 hv (.lst (((hr2.take n.toNat).append (.cons r2 .nil)).append (hr2.drop n.toNat))))⟩
    · rw [if_neg hl] at h2; exact h2.elim
  | _ => exact h2.elim
end
section
variable {X : Cx} {W : Am X.K} {pos : Pos} {e ix : Expr} {m mx : ME} {k : RK} {x : Str}
theorem vs_ins (i : Nat) {p apos cpos : Pos} (hx : VE X.K X.mg (at1 X) W ix mx) (he : VE X.K X.mg (at1 X) W e m) (hN : X.N[i]? = some x := by rfl) (hv : Vis X.env.scope x := by first | exact Or.inl rfl | exact Or.inr (Or.inl rfl) | exact Or.inr (Or.inr rfl)) (hd : (x == ("__debug__" : Str)) = false := by decide)
    (hcd : (x == ("__classdict__" : Str)) = false := by decide) (hbase : attributeBase (.Name x p) "insert" X.env (eval (.Name x p) X.env) = eval (.Name x p) X.env := by rfl)
    (hfew : ((backTo cpos (starEach [ix, e] X.env)).all (fun x => !x.1) && (backToKw cpos (keywordEach [] X.env)).all (fun x => x.1.isSome) && decide ([ix, e].length + ([] : List Keyword).length + (if ([] : List Keyword).isEmpty then 0 else 1) < 30)) = true := by rfl)
    (hline : (apos.endLine == cpos.line) = true := by rfl) (hs1 : starEach [ix, e] X.env = (false, eval ix X.env) :: starEach [e] X.env := by rfl) (hs2 : starEach [e] X.env = (false, eval e X.env) :: starEach [] X.env := by rfl) (hplain : (backTo cpos (starEach [e] X.env)).any (·.1) = false := by rfl)
    (hs : swapsWith (.Call (.Attribute (.Name x p) "insert" apos) [ix, e] [] cpos) none pos.line X.env = pure false := by rfl) : VS X W k (.Expr (.Call (.Attribute (.Name x p) "insert" apos) [ix, e] [] cpos) pos) (vIns i mx m) :=
  let ⟨_, q, r⟩ := hx; let ⟨_, q', r'⟩ := he; ⟨_, ps_expr (pe_bm PySem.F.plainAttrs_list PySem.F.slot_list_insert PySem.F.type_list_insert mt_insert (pe_var hN hv hd hcd) (pa_cons (q ()) (pa_cons (q' ()) pa_nil hs2) hs1) hbase hfew hline hs1 hplain) hs, rs_ins r r'⟩
end
end VL

/-! VL27: own trees: made, handed on, changed. -/
namespace VL
open PySem PySem.Spec PyProof.Rows L2
mutual
theorem Sh.eqb_eq : ∀ {x y : Sh}, Sh.eqb x y = true → x = y
  | .s, .s, _ => rfl
  | .l x, .l y, h => congrArg Sh.l (Sh.eqb_eq (x := x) (y := y) h)
  | .d x, .d y, h => congrArg Sh.d (Sh.eqb_eq (x := x) (y := y) h)
  | .t xs, .t ys, h => congrArg Sh.t (Sh.eqbs_eq (xs := xs) (ys := ys) h)
  | .s, .l _, h => by cases h
  | .s, .d _, h => by cases h
  | .s, .t _, h => by cases h
  | .l _, .s, h => by cases h
  | .l _, .d _, h => by cases h
  | .l _, .t _, h => by cases h
  | .d _, .s, h => by cases h
  | .d _, .l _, h => by cases h
  | .d _, .t _, h => by cases h
  | .t _, .s, h => by cases h
  | .t _, .l _, h => by cases h
  | .t _, .d _, h => by cases h
theorem Sh.eqbs_eq : ∀ {xs ys : List Sh}, Sh.eqbs xs ys = true → xs = ys
  | [], [], _ => rfl
  | x :: xs, y :: ys, h => by
    have h : (Sh.eqb x y && Sh.eqbs xs ys) = true := h
    rw [Bool.and_eq_true] at h
    rw [Sh.eqb_eq h.1, Sh.eqbs_eq h.2]
  | [], _ :: _, h => by cases h
  | _ :: _, [], h => by cases h
end
section
variable {K : PySem.W.Frag} {mg : Str → Option Value} {W : Am K} {k : RK} {G : Gr} {B B2 H H2 : Hp} {σ σ2 : L2.St} {e e2 : Env} {s : Sh} {v : V} {d : D}
/-- a tree is kept, whatever is done beside it -/
theorem hold (S : Sto K G B H σ e) (r : rpT K s G B H σ e v d) (S2 : Sto K (reb G B H σ e) B2 H2 σ2 e2) (sB : Same B B2) : rpT K s G B2 H2 σ2 e2 v d ∧ (∀ a, Reach H s v a → H2 a = H a) ∧ ∀ a, Reach H2 s v a → Reach H s v a := by
  have keep : ∀ a, Reach H s v a → (reb G B H σ e).H a = H a := fun a q => reb_no (r.2 a q).2.2
  have io : ∀ a, Reach H s v a → a ∉ G.io := fun a q z => S.iom a z (r.2 a q).2.1
  have at' : ∀ a, Reach H s v a → H2 a = H a := fun a q => by
    cases z : H a with
    | none => exact absurd z (r.1.live q)
    | some o => exact S2.keep a o ((keep a q).trans z) (io a q)
  have back : ∀ a, Reach H2 s v a → Reach H s v a := fun a q => Reach.frame S.sub (sB.trans S2.sub) r.1 at' q
  refine ⟨⟨r.1.frame S.sub S2.sub sB at', fun a q => ?_⟩, at', back⟩
  have q := back a q
  have nH : (reb G B H σ e).H a ≠ none := by rw [keep a q]; exact r.1.live q
  refine ⟨?_, (r.2 a q).2.1, fun w => nH (S2.apart w).2.1⟩
  cases z : B2 a with
  | none => rfl
  | some o =>
    rcases S2.new a (by rw [z]; simp) with w | w
    · exact absurd (r.2 a q).1 w
    · exact absurd w nH
/-- a slot's tree, its slot hidden -/
theorem Sto.loseT (S : Sto K G B H σ e) {i : Nat} (he : e[i]? = some (.tr s d)) : ∃ v, σ[i]? = some (some v) ∧ rpT K s G B H σ (e.set i .no) v d := by
  obtain ⟨v, hv, ok⟩ := S.sl i _ he
  cases ok with
  | tr t f => exact ⟨_, hv, t, fun a r => ⟨(f a r).1, (f a r).2, S.lost he hv ⟨_, rfl, r⟩⟩⟩
/-- .. and shown -/
theorem Sto.setT (S : Sto K G B H σ e) {i : Nat} (hi : i < e.length) (hσ : σ[i]? = some (some v)) (r : rpT K s G B H σ e v d) : Sto K G B H σ (e.set i (.tr s d)) :=
  S.swap hi hσ (.tr r.1 fun a q => ⟨(r.2 a q).1, (r.2 a q).2.1⟩) fun a ⟨w, e, q⟩ h => by cases e; exact (r.2 a q).2.2 h.of_lose
theorem rpT.wide {σ' : L2.St} {e' : Env} (r : rpT K s G B H σ e v d) (h : ∀ a, Owned H σ' e' a → Owned H σ e a) : rpT K s G B H σ' e' v d := ⟨r.1, fun a q => ⟨(r.2 a q).1, (r.2 a q).2.1, fun w => (r.2 a q).2.2 (h a w)⟩⟩
/-- what is flat owns nothing -/
theorem Tr.flat (t : Tr K B H s v d) (f : d.flat = true) {a : Addr} (q : Reach H s v a) : False := by
  induction t with
  | s _ => exact q.s_no
  | @nd s p o cs d ds e1 e2 e3 e4 e5 e6 e7 e8 ih =>
    cases s with
    | s => cases e3
    | l x => cases o with
      | lst vs => cases d with
        | lst _ => cases f
        | _ => cases e4
      | _ => cases e3
    | d x => cases o with
      | dK vs => cases d with
        | dct _ _ => cases f
        | _ => cases e4
      | _ => cases e3
    | t xs =>
      cases q with
      | r0 w => cases w
      | @r1 _ x _ _ o' cs' v' w1 w2 w3 w4 =>
        rw [e1] at w1
        cases w1
        rw [e3] at w2
        cases w2
        obtain ⟨i, hi⟩ := List.mem_iff_getElem?.mp w3
        have hl : i < ds.length := by rw [← e5]; exact (List.getElem?_eq_some_iff.mp hi).1
        have fl : ∀ {es : List D} {i : Nat} {d : D}, D.flats es = true → es[i]? = some d → d.flat = true := by
          intro es
          induction es with
          | nil => intro i d _ h; simp at h
          | cons y es ih2 =>
            intro i d h1 h2
            unfold D.flats at h1
            rw [Bool.and_eq_true] at h1
            cases i with
            | zero => cases h2; exact h1.1
            | succ i => exact ih2 h1.2 (by simpa using h2)
        cases o with
        | tup vs => cases d with
          | tup es => cases e4; exact ih i x v' _ hi (List.getElem?_eq_getElem hl) (fl f (List.getElem?_eq_getElem hl)) w4
          | _ => cases e4
        | _ => cases e3
theorem Tr.rep_flat (t : Tr K B H s v d) (f : d.flat = true) : Rep K B v d := t.rep (Same.refl B) fun _ r => (t.flat f r).elim
theorem rpT.f (r : rpT K s G B H σ e v d) : RetOk K (.t s) G B H σ e v d := by
  unfold RetOk
  dsimp only
  split
  · rename_i f; exact r.1.rep_flat f
  · exact r
theorem Po.imp {α β : Type} {R R' : RP α β} {Q : β → Hp → Prop} {r : Res α} (h : Po K mg W R' G σ B Q r) (k : ∀ a e1 b B1 H1, Sto K G B1 H1 σ e1 → R G B1 H1 σ e1 b a → R' G B1 H1 σ e1 b a) : Po K mg W R G σ B Q r := by
  cases r with
  | ok a e1 => exact fun b B1 H1 S q p => h b B1 H1 S q (k a e1 b B1 H1 S p)
  | err x e' => exact h
  | bot => exact h
abbrev RdT (K : PySem.W.Frag) (mg : Str → Option Value) (W : Am K) (s : Sh) (t : TE) (m : ME) : Prop := RdX K mg W (rpT K s) t m
abbrev RdTf (K : PySem.W.Frag) (mg : Str → Option Value) (W : Am K) (s : Sh) (t : TE) (m : ME) : Prop := RdX K mg W (RetOk K (.t s)) t m
theorem rt_f {t : TE} {m : ME} (h : RdT K mg W s t m) : RdTf K mg W s t m where
  run := fun G hG B H σ e Q S q => h.run G hG B H σ e Q S (Po.imp q fun _ _ _ _ _ _ r => r.f)
theorem rt_sh {t : TE} {m : ME} (h : RdE K mg W t m) : RdT K mg W .s t m where
  run := fun G hG B H σ e Q S q => h.run G hG B H σ e Q S (Po.imp q fun _ _ _ _ _ _ r => ⟨.s r, fun a w => w.s_no.elim⟩)
theorem kids_l {x : Sh} {vs : List V} {i : Nat} {y : Sh} {w : V} (h : (vs.map fun v => (x, v))[i]? = some (y, w)) : y = x ∧ vs[i]? = some w := by
  rw [List.getElem?_map] at h
  cases z : vs[i]? with
  | none => rw [z] at h; cases h
  | some u => rw [z] at h; cases h; exact ⟨rfl, rfl⟩
theorem rt_F {t : TE} {m : MA} (h : RdF K mg W t m) : RdT K mg W (.l .s) t (vOf m) where
  run := fun G hG B H σ e Q S q => by
    refine h.run G hG B H σ e _ S (Po.bind q fun ds e1 x B1 H1 S1 s1 r1 h1 => ?_)
    obtain ⟨p, vs, rfl, hp, hb, hg, no, r⟩ := r1
    refine h1 _ _ _ S1 (Same.refl B1) ⟨.nd (cs := vs.map fun v => (.s, v)) hp (fun z => nomatch z) rfl (ds := ds) rfl (by rw [List.length_map]; exact r.length) (fun i x v d h1 h2 => ?_) (fun _ i x v h1 h2 => ?_) (fun i j x y v w a h1 h2 h3 h4 => ?_), fun a q => ?_⟩
    · obtain ⟨rfl, g1⟩ := kids_l h1
      obtain ⟨v', e1, rv⟩ := r.get h2
      rw [g1] at e1
      cases e1
      exact .s rv
    · obtain ⟨rfl, h1⟩ := kids_l h1
      exact h2.s_no
    · obtain ⟨rfl, h1⟩ := kids_l h1
      exact h3.s_no.elim
    · cases q with
      | r0 _ => exact ⟨hb, hg, no⟩
      | r1 w1 w2 w3 w4 =>
        rw [hp] at w1
        cases w1
        cases w2
        obtain ⟨u, _, hu⟩ := List.mem_map.mp w3
        cases hu
        exact w4.s_no.elim
/-! several trees -/
/-- values, one after the other, each a tree apart -/
def rpTs (K : PySem.W.Frag) (xs : List Sh) : RP (List D) (List V) := fun G B H σ e vs ds => vs.length = xs.length ∧ ds.length = xs.length ∧ (∀ (i : Nat) (x : Sh) (v : V) (d : D), xs[i]? = some x → vs[i]? = some v → ds[i]? = some d → rpT K x G B H σ e v d) ∧
  ∀ (i j : Nat) (x y : Sh) (v w : V) (a : Addr), xs[i]? = some x → xs[j]? = some y → vs[i]? = some v → vs[j]? = some w → Reach H x v a → Reach H y w a → i = j
theorem rts_nil : RdX K mg W (rpTs K []) tNil vNil where
  run := fun G hG B H σ e Q S h => Po.here h S ⟨rfl, rfl, fun i x v d h => by simp at h, fun i j x y v w a h => by simp at h⟩
theorem rts_cons {x : Sh} {xs : List Sh} {ta : TE} {t : TA} {ma : ME} {m : MA} (ha : RdT K mg W x ta ma) (hr : RdX K mg W (rpTs K xs) t m) : RdX K mg W (rpTs K (x :: xs)) (tCons ta t) (vCons ma m) where
  run := fun G hG B H σ e Q S h => by
    refine ha.run G hG B H σ e _ S (Po.bind h fun d e1 v B1 H1 S1 s1 r1 h1 => ?_)
    refine hr.run _ (W.reb G B1 H1 σ e1 hG S1) B1 H1 σ e1 _ S1.reb ?_
    cases z : m e1 with
    | bot => rw [z] at h1; exact h1.elim
    | err y e2 => rw [z] at h1; exact fun c dd B2 H2 S2 s2 xr => h1 c dd B2 H2 (S1.unreb S2) s2 xr
    | ok ds e2 =>
      rw [z] at h1
      intro vs B2 H2 S2 s2 r2
      obtain ⟨a1, a2, a3⟩ := hold S1 r1 S2 s2
      have rb : ∀ {a}, Reach H2 x v a → (reb G B1 H1 σ e1).H a ≠ none := fun {a} q => by
        have q := a3 a q
        rw [reb_no (r1.2 a q).2.2]; exact r1.1.live q
      obtain ⟨l1, l2, c1, c2⟩ := r2
      refine h1 (v :: vs) B2 H2 (S1.unreb S2) s2 ⟨by simp [l1], by simp [l2], fun i y w b g1 g2 g3 => ?_, fun i j y y' w w' a g1 g2 g3 g4 q1 q2 => ?_⟩
      · cases i with
        | zero => cases g1; cases g2; cases g3; exact a1
        | succ i =>
          have c := c1 i y w b (by simpa using g1) (by simpa using g2) (by simpa using g3)
          exact ⟨c.1, fun a q => ⟨(c.2 a q).1, reb_home S1 (c.2 a q).2.1, (c.2 a q).2.2⟩⟩
      · have out : ∀ {i y w}, xs[i]? = some y → vs[i]? = some w → Reach H2 y w a → Reach H2 x v a → False := fun {i y w} g1 g2 q1 q2 => by
          have hl : i < ds.length := by rw [l2]; exact (List.getElem?_eq_some_iff.mp g1).1
          exact rb q2 ((c1 i y w _ g1 g2 (List.getElem?_eq_getElem hl)).2 a q1).2.1
        cases i with
        | zero => cases j with
          | zero => rfl
          | succ j => cases g1; cases g3; exact (out (by simpa using g2) (by simpa using g4) q2 q1).elim
        | succ i => cases j with
          | zero => cases g2; cases g4; exact (out (by simpa using g1) (by simpa using g3) q1 q2).elim
          | succ j => exact congrArg (· + 1) (c2 i j y y' w w' a (by simpa using g1) (by simpa using g2) (by simpa using g3) (by simpa using g4) q1 q2)
/-- trees elsewhere: a new object beside them -/
theorem rpT.beside {p : Addr} {o : HO} (S : Sto K G B H σ e) (hp : H p = none) (r : rpT K s G B H σ e v d) (B' : Hp) (sB : Same B B') (sub' : Same B' (upd H p o)) (hB : ∀ a, a ≠ p → B' a = B a) :
    Tr K B' (upd H p o) s v d ∧ (∀ a, Reach (upd H p o) s v a → Reach H s v a ∧ a ≠ p ∧ B' a = none ∧ G.H a = none ∧ ¬ Owned (upd H p o) σ e a) := by
  have ne : ∀ {a}, Reach H s v a → a ≠ p := fun q z => r.1.live q (z ▸ hp)
  have at' : ∀ a, Reach H s v a → upd H p o a = H a := fun a q => upd_ne (ne q)
  have back : ∀ a, Reach (upd H p o) s v a → Reach H s v a := fun a q => Reach.frame S.sub (S.sub.trans (same_upd' hp)) r.1 at' q
  refine ⟨r.1.frame S.sub sub' sB at', fun a q => ?_⟩
  have q := back a q
  exact ⟨q, ne q, by rw [hB a (ne q)]; exact (r.2 a q).1, (r.2 a q).2.1, fun w => (r.2 a q).2.2 (S.own_new hp w)⟩
theorem rt_tup {xs : List Sh} {t : TA} {m : MA} (h : RdX K mg W (rpTs K xs) t m) : RdT K mg W (.t xs) (tTup t) (vTupD m) where
  run := fun G hG B H σ e Q S q => by
    unfold vTupD at q
    refine h.run G hG B H σ e _ S (Po.bind q fun ds e1 vs B1 H1 S1 s1 r1 h1 => ?_)
    obtain ⟨l1, l2, c1, c2⟩ := r1
    split at h1
    · rename_i hl
      refine ⟨by rw [l1, ← l2, sizeLine_eq]; exact Nat.le_trans hl (by decide), fun p hp => ?_⟩
      have sB : Same B1 (upd B1 p (.tup vs)) := same_upd' (same_none S1.sub hp)
      have hk : kids (.t xs) (.tup vs) = some (xs.zip vs) := if_pos l1.symm
      have zp : ∀ {i x v}, (xs.zip vs)[i]? = some (x, v) → xs[i]? = some x ∧ vs[i]? = some v := fun z => List.getElem?_zip_eq_some.mp z
      have kd : ∀ {i x v}, xs[i]? = some x → vs[i]? = some v → ∃ d, ds[i]? = some d ∧ rpT K x G B1 H1 σ e1 v d := fun {i x v} g1 g2 => by
        have hl : i < ds.length := by rw [l2]; exact (List.getElem?_eq_some_iff.mp g1).1
        exact ⟨_, List.getElem?_eq_getElem hl, c1 i x v _ g1 g2 (List.getElem?_eq_getElem hl)⟩
      have bs := fun {s v d} (r : rpT K s G B1 H1 σ e1 v d) => rpT.beside (o := .tup vs) S1 hp r (upd B1 p (.tup vs)) sB (same_upd2 S1.sub) fun a ne => upd_ne ne
      refine h1 _ _ _ (S1.alloc hp) sB ⟨.nd upd_same (fun _ => upd_same) hk (ds := ds) rfl (by rw [List.length_zip, l1, l2, Nat.min_self]) (fun i x v d g1 g2 => ?_) (fun z => nomatch z) (fun i j x y v w a g1 g2 q1 q2 => ?_), fun a q => ?_⟩
      · obtain ⟨g3, g4⟩ := zp g1
        exact (bs (c1 i x v d g3 g4 g2)).1
      · obtain ⟨g3, g4⟩ := zp g1
        obtain ⟨g5, g6⟩ := zp g2
        obtain ⟨d1, _, t1⟩ := kd g3 g4
        obtain ⟨d2, _, t2⟩ := kd g5 g6
        exact c2 i j x y v w a g3 g5 g4 g6 ((bs t1).2 a q1).1 ((bs t2).2 a q2).1
      · cases q with
        | r0 z => cases z
        | r1 w1 w2 w3 w4 =>
          rw [upd_same] at w1
          cases w1
          rw [hk] at w2
          cases w2
          obtain ⟨i, hi⟩ := List.mem_iff_getElem?.mp w3
          obtain ⟨g3, g4⟩ := zp hi
          obtain ⟨d1, _, t1⟩ := kd g3 g4
          exact ((bs t1).2 a w4).2.2
    · exact h1.elim
theorem rt_lst {xs : List Sh} {x : Sh} {t : TA} {m : MA} (hx : ∀ y ∈ xs, y = x) (h : RdX K mg W (rpTs K xs) t m) : RdT K mg W (.l x) (tLst t) (vOf (vLstD m)) where
  run := fun G hG B H σ e Q S q => by
    have q : Po K mg W (rpT K (.l x)) G σ B Q ((m e).bind fun xs e1 => (if xs.length ≤ vmax then Res.ok xs e1 else .bot).bind fun xs e1 => .ok (.lst xs) e1) := by
      unfold vOf vLstD at q
      cases z : m e with
      | ok a e1 => rw [z] at q; exact q
      | err y e1 => rw [z] at q; exact q
      | bot => rw [z] at q; exact q
    refine h.run G hG B H σ e _ S (Po.bind q fun ds e1 vs B1 H1 S1 s1 r1 h1 => ?_)
    obtain ⟨l1, l2, c1, c2⟩ := r1
    by_cases hl : ds.length ≤ vmax
    · rw [if_pos hl] at h1
      refine ⟨by rw [l1, ← l2, sizeLine_eq]; exact Nat.le_trans hl (by decide), fun p hp => ?_⟩
      have shp : ∀ {i : Nat} {v : V}, vs[i]? = some v → xs[i]? = some x := fun {i v} g => by
        have hi : i < xs.length := by rw [← l1]; exact (List.getElem?_eq_some_iff.mp g).1
        rw [List.getElem?_eq_getElem hi]
        exact congrArg some (hx _ (List.getElem_mem hi))
      have kd : ∀ {i v}, vs[i]? = some v → ∃ d, ds[i]? = some d ∧ rpT K x G B1 H1 σ e1 v d := fun {i v} g2 => by
        have hl : i < ds.length := by rw [l2, ← l1]; exact (List.getElem?_eq_some_iff.mp g2).1
        exact ⟨_, List.getElem?_eq_getElem hl, c1 i x v _ (shp g2) g2 (List.getElem?_eq_getElem hl)⟩
      have bs := fun {s v d} (r : rpT K s G B1 H1 σ e1 v d) => rpT.beside (o := .lst vs) S1 hp r B1 (Same.refl B1) (S1.sub.trans (same_upd' hp)) fun a ne => rfl
      refine h1 _ _ _ (S1.loose hp) (Same.refl B1) ⟨.nd (cs := vs.map fun v => (x, v)) upd_same (fun z => nomatch z) rfl (ds := ds) rfl (by rw [List.length_map, l1, l2]) (fun i y v d g1 g2 => ?_) (fun _ i y v g1 q0 => ?_) (fun i j y y' v w a g1 g2 q1 q2 => ?_), fun a q => ?_⟩
      · obtain ⟨rfl, g⟩ := kids_l g1
        exact (bs (c1 i y v d (shp g) g g2)).1
      · obtain ⟨rfl, g⟩ := kids_l g1
        obtain ⟨d1, _, t1⟩ := kd g
        exact ((bs t1).2 p q0).2.1 rfl
      · obtain ⟨rfl, g⟩ := kids_l g1
        obtain ⟨rfl, g'⟩ := kids_l g2
        obtain ⟨d1, _, t1⟩ := kd g
        obtain ⟨d2, _, t2⟩ := kd g'
        exact c2 i j _ _ v w a (shp g) (shp g') g g' ((bs t1).2 a q1).1 ((bs t2).2 a q2).1
      · cases q with
        | r0 z => exact ⟨same_none S1.sub hp, S1.fresh hp, fun w => not_owned_new S1 hp (S1.own_new hp w)⟩
        | r1 w1 w2 w3 w4 =>
          rw [upd_same] at w1
          cases w1
          cases w2
          obtain ⟨i, hi⟩ := List.mem_iff_getElem?.mp w3
          obtain ⟨rfl, g⟩ := kids_l hi
          obtain ⟨d1, _, t1⟩ := kd g
          exact ((bs t1).2 a w4).2.2
    · rw [if_neg hl] at h1; exact h1.elim
end
end VL

/-! VL28: own trees: calls, stores, comprehensions of lists. -/
namespace VL
open PySem PySem.Spec PyProof.Rows L2
section
variable {K : PySem.W.Frag} {mg : Str → Option Value} {W : Am K} {k : RK} {G : Gr} {B B2 H H2 : Hp} {σ σ2 : L2.St} {e e2 : Env} {s : Sh} {v : V} {d : D}
theorem rpT.step (S : Sto K G B H σ e) (r : rpT K s G B H σ e v d) (sB : Same B B2) (sub2 : Same B2 H2) (at' : ∀ a, Reach H s v a → H2 a = H a) (bn : ∀ a, Reach H s v a → B2 a = none) (no : ∀ a, Reach H s v a → ¬ Owned H2 σ2 e2 a) : rpT K s G B2 H2 σ2 e2 v d ∧ ∀ a, Reach H2 s v a → Reach H s v a := by
  have back : ∀ a, Reach H2 s v a → Reach H s v a := fun a q => Reach.frame S.sub (sB.trans sub2) r.1 at' q
  exact ⟨⟨r.1.frame S.sub sub2 sB at', fun a q => ⟨bn a (back a q), (r.2 a (back a q)).2.1, no a (back a q)⟩⟩, back⟩
theorem rpT.call {B' H' : Hp} (S : Sto K G B H σ e) (r : rpT K s G B H σ e v d) (h1 : Same H H') (h2 : Same B B') (h3 : Same B' H') (h4 : News' B H B') : rpT K s G B' H' σ e v d ∧ ∀ a, Reach H' s v a → Reach H s v a := by
  have lv : ∀ a, Reach H s v a → H a ≠ none := fun a q => r.1.live q
  refine r.step S h2 h3 (fun a q => ?_) (fun a q => ?_) fun a q w => (r.2 a q).2.2 (S.own_frame (h2.trans h3) (S.callO (B' := B') h1) w)
  · cases z : H a with
    | none => exact absurd z (lv a q)
    | some o => exact h1 _ _ z
  · cases z : B' a with
    | none => rfl
    | some o =>
      rcases h4 a (by rw [z]; simp) with w | w
      · exact absurd (r.2 a q).1 w
      · exact absurd w (lv a q)
/-! a slot's tree -/
theorem rt_own (i : Nat) : RdT K mg W s (tVar i) (vOwnT i s) where
  run := fun G hG B H σ e Q S h => by
    unfold vOwnT at h
    cases z : e[i]? with
    | none => rw [z] at h; exact h.elim
    | some x =>
      rw [z] at h
      cases x with
      | no => exact h.elim
      | sh _ => exact h.elim
      | tk _ => exact h.elim
      | ow _ _ => exact h.elim
      | tr s' d =>
        dsimp only at h
        split at h
        · rename_i hs
          have hs := Sh.eqb_eq hs
          subst hs
          obtain ⟨v, hv, r⟩ := S.loseT z
          exact ⟨v, hv, h v B H (S.lose i) (Same.refl B) r⟩
        · exact h.elim
theorem rt_ownf (i : Nat) : RdTf K mg W s (tVar i) (vOwnTf i s) where
  run := fun G hG B H σ e Q S h => by
    unfold vOwnTf at h
    cases z : e[i]? with
    | none => rw [z] at h; exact h.elim
    | some x =>
      rw [z] at h
      cases x with
      | no => exact h.elim
      | tk _ => exact h.elim
      | ow _ _ => exact h.elim
      | sh d =>
        dsimp only at h
        split at h
        · rename_i hf
          obtain ⟨v, hv, ok⟩ := S.sl i _ z
          cases ok with
          | sh r =>
            refine ⟨_, hv, h _ B H S (Same.refl B) ?_⟩
            unfold RetOk
            dsimp only
            rw [if_pos hf]
            exact r
        · exact h.elim
      | tr s' d =>
        dsimp only at h
        split at h
        · rename_i hs
          have hs := Sh.eqb_eq hs
          subst hs
          obtain ⟨v, hv, r⟩ := S.loseT z
          exact ⟨v, hv, h v B H (S.lose i) (Same.refl B) r.f⟩
        · exact h.elim
theorem rt_flat {t : TE} {m : ME} (h : RdE K mg W t m) : RdTf K mg W s t (vFl m) where
  run := fun G hG B H σ e Q S q => by
    refine h.run G hG B H σ e _ S (Po.bind q fun d e1 v B1 H1 S1 s1 r1 h1 => ?_)
    split at h1
    · rename_i hf
      refine h1 v B1 H1 S1 (Same.refl B1) ?_
      unfold RetOk
      dsimp only
      rw [if_pos hf]
      exact r1
    · exact h1.elim
/-! stores, returns -/
theorem rs_asgT {i : Nat} {t : TE} {m : ME} (ha : RdTf K mg W s t m) : RdS K mg W k (tAsg t (gName i)) (vAsgT i s m) := fun G hG B H σ e D S h =>
  ha.run G hG B H σ e _ S (PoS.thenS h fun d e1 v B1 H1 S1 _ r1 h1 => by
    by_cases hl : i < e1.length
    · rw [if_pos hl] at h1
      unfold RetOk at r1
      dsimp only at r1
      by_cases hf : d.flat = true
      · rw [if_pos hf] at h1 r1
        exact h1.nx (S1.put i (.sh r1) own_sh)
      · rw [if_neg hf] at h1 r1
        exact h1.nx (S1.put i (.tr r1.1 fun a q => ⟨(r1.2 a q).1, (r1.2 a q).2.1⟩) fun a ⟨w, e, q⟩ h => by cases e; exact (r1.2 a q).2.2 h.of_lose)
    · rw [if_neg hl] at h1; exact h1.elim)
theorem rs_retT {t : TE} {m : ME} (ha : RdTf K mg W s t m) : RdS K mg W (.t s) (tRet t) (vRet m) := fun G hG B H σ e D S h =>
  ha.run G hG B H σ e _ S (PoS.thenS h fun d e1 v B1 H1 S1 _ r1 h1 => h1 v σ B1 H1 S1 (Same.refl B1) r1)
/-! calls -/
/-- what a def promises that hands back an own tree (or what is flat) -/
def spT (K : PySem.W.Frag) (mg : Str → Option Value) (s : Sh) (fn : List D → FR) : Sp := fun vs H Q E => ∃ (B : Hp) (ds : List D), Same B H ∧ Reps K B vs ds ∧ match fn ds with
  | .ok d => ∀ v B' H', Same H H' → Same B B' → Same B' H' → News' B H B' → (if d.flat = true then Rep K B' v d else Tr K B' H' s v d ∧ ∀ a, Reach H' s v a → B' a = none ∧ H a = none) → Q v H'
  | .err x => ∀ cls dd B' H', Same H H' → Same B B' → Same B' H' → News' B H B' → XRep K mg B' cls dd x → E cls dd H'
  | .bot => False
theorem rt_call {fn : List D → FR} {t : TA} {m : MA} (ha : RdA K mg W t m) : RdTf K mg W s (tCallS (spT K mg s fn) (WE W.w) t) (vCall fn m) where
  run := fun G hG B H σ e Q S q => by
    refine ha.run G hG B H σ e _ S (Po.bind q fun ds e1 vs B1 H1 S1 s1 r1 h1 => ?_)
    refine ⟨B1, ds, S1.sub, r1, ?_⟩
    cases z : fn ds with
    | ok d =>
      rw [z] at h1
      refine fun v B' H' a1 a2 a3 a4 r => h1 v B' H' (S1.call a1 a2 a3 a4) a2 ?_
      unfold RetOk
      dsimp only
      by_cases hf : d.flat = true
      · rw [if_pos hf] at r ⊢; exact r
      · rw [if_neg hf] at r ⊢
        exact ⟨r.1, fun a q => ⟨(r.2 a q).1, S1.fresh (r.2 a q).2, S1.call_no a1 a2 a3 (r.2 a q).2⟩⟩
    | err x => rw [z] at h1; exact fun c dd B' H' a1 a2 a3 a4 r => h1 c dd B' H' (S1.call a1 a2 a3 a4) a2 r
    | bot => rw [z] at h1; exact h1
end
/-! a def by its body -/
section
variable {P : Program} {w : World} {K : PySem.W.Frag} {mg : Str → Option Value} {base : Heap} {s : Sh}
theorem len_ofT {np n : Nat} {m : MS} : ∀ vs H Q E, spT K mg s (runB np n m) vs H Q E → vs.length = np := fun vs H Q E h => by
  obtain ⟨B, ds, sm, r, h⟩ := h
  rw [r.length]
  by_cases q : ds.length = np
  · exact q
  · unfold runB at h; rw [if_neg q] at h; exact h.elim
theorem fn_T {x qual : Str} {st : Stmt} {f : Addr} {fd : FuncData} {N ps : List Str} {k : Nat} {m : MS} (F : Fun K x qual st f fd) (S : FnScope N ps (defScope st)) (hl : ps.length ≤ N.length)
    (hbody : ∀ (cdv : Value) (A : Around) (outer : List PySem.Env) (s' : Shared) (H : Hp) (E : XK), Room k (A.deeper (envOfC qual (defScope st) s'.heap.objs.size f cdv)) →
      VSs (cxOf (L2.CX P w) P w K mg base N qual (defScope st) f cdv A outer s' H E) (Am.of K fun cls d _ H => E cls d H) (.t s) (defBody st) m) :
    FnOk P w K mg base (L2.CX P w) (k + 1) f fd ps (spT K mg s (runB ps.length N.length m)) := by
  refine F.okX S len_ofT (fun cdv A outer s' H vs Q E hr h => ?_)
  obtain ⟨B, ds, sm, r, h⟩ := h
  obtain ⟨t, pt, rt⟩ := hbody cdv A outer s' H E hr
  have q : ds.length = ps.length := by
    by_cases q : ds.length = ps.length
    · exact q
    · unfold runB at h; rw [if_neg q] at h; exact h.elim
  refine ⟨t, pt, rt ⟨H, B, [], fun _ => 0, fun _ => 0⟩ trivial B H _ _ _ (start_sto sm r (by omega)) ?_⟩
  unfold runB at h
  rw [if_pos q] at h
  rw [q]
  cases z : m (ds.map Sl.sh ++ List.replicate (N.length - ps.length) .no) with
  | nx e' =>
    rw [z] at h
    exact fun σ' B' H' S' _ => let ⟨a1, a2, a3, a4⟩ := S'.out; h .non B' H' a1 a2 a3 a4 (by rw [if_pos (show D.non.flat = true from rfl)]; exact .non)
  | rt d e' =>
    rw [z] at h
    refine fun v σ' B' H' S' _ ro => let ⟨a1, a2, a3, a4⟩ := S'.out; h v B' H' a1 a2 a3 a4 ?_
    unfold RetOk at ro
    dsimp only at ro
    split
    · rename_i hf; rw [if_pos hf] at ro; exact ro
    · rename_i hf; rw [if_neg hf] at ro; exact ⟨ro.1, fun a q => ⟨(ro.2 a q).1, (ro.2 a q).2.1⟩⟩
  | bk e' => rw [z] at h; exact h.elim
  | ct e' => rw [z] at h; exact h.elim
  | err x e' =>
    rw [z] at h
    exact fun c dd σ' B' H' S' _ xr => let ⟨a1, a2, a3, a4⟩ := S'.out; h c dd B' H' a1 a2 a3 a4 xr
  | bot => rw [z] at h; exact h.elim
theorem Def1.T {x : Str} {st : Stmt} {N ps : List Str} {k : Nat} {m : MS} (s : Sh) (d : Def1 K mg x st ps) (S : FnScope N ps (defScope st)) (hl : ps.length ≤ N.length)
    (hbody : ∀ (base : Heap) (f : Addr) (cdv : Value) (A : Around) (outer : List PySem.Env) (s' : Shared) (H : Hp) (E : XK), Room k (A.deeper (envOfC x (defScope st) s'.heap.objs.size f cdv)) →
      VSs (cxOf (L2.CX P w) P w K mg base N x (defScope st) f cdv A outer s' H E) (Am.of K fun cls d _ H => E cls d H) (.t s) (defBody st) m) : Ok1 P w K mg x ps (k + 1) (spT K mg s (runB ps.length N.length m)) :=
  let ⟨f, fd, F, g, b⟩ := d; ⟨f, fd, g, F.kp, b, fun base => fn_T F S hl (hbody base f)⟩
end
/-! a comprehension of trees -/
section
variable {K : PySem.W.Frag} {mg : Str → Option Value} {W : Am K} {G : Gr} {B B2 H H2 : Hp} {σ σ2 : L2.St} {e e2 : Env}
structure AccT (K : PySem.W.Frag) (x : Sh) (D' : Addr) (G : Gr) (B H : Hp) (σ : L2.St) (e : Env) (vs : List V) (ds : List D) : Prop where
  len : vs.length = ds.length
  at_ : ∀ (i : Nat) (v : V) (d : D), vs[i]? = some v → ds[i]? = some d → rpT K x G B H σ e v d ∧ ¬ Reach H x v D'
  dis : ∀ (i j : Nat) (v w : V) (a : Addr), vs[i]? = some v → vs[j]? = some w → Reach H x v a → Reach H x w a → i = j
variable {x : Sh} {D' : Addr} {vs : List V} {ds : List D}
theorem AccT.get (A : AccT K x D' G B H σ e vs ds) {i : Nat} {v : V} (h : vs[i]? = some v) : ∃ d, ds[i]? = some d ∧ rpT K x G B H σ e v d ∧ ¬ Reach H x v D' := by
  have hl : i < ds.length := by rw [← A.len]; exact (List.getElem?_eq_some_iff.mp h).1
  exact ⟨_, List.getElem?_eq_getElem hl, A.at_ i v _ h (List.getElem?_eq_getElem hl)⟩
theorem AccT.mv (A : AccT K x D' G B H σ e vs ds) (f : ∀ v d, rpT K x G B H σ e v d → ¬ Reach H x v D' → rpT K x G B2 H2 σ2 e2 v d ∧ ∀ a, Reach H2 x v a → Reach H x v a) : AccT K x D' G B2 H2 σ2 e2 vs ds where
  len := A.len
  at_ := fun i v d h1 h2 => let q := A.at_ i v d h1 h2; let z := f v d q.1 q.2; ⟨z.1, fun w => q.2 (z.2 _ w)⟩
  dis := fun i j v w a h1 h2 h3 h4 => by
    obtain ⟨d1, g1, q1, n1⟩ := A.get h1
    obtain ⟨d2, g2, q2, n2⟩ := A.get h2
    exact A.dis i j v w a h1 h2 ((f v d1 q1 n1).2 a h3) ((f w d2 q2 n2).2 a h4)
theorem AccT.push (A : AccT K x D' G B H σ e vs ds) {y : V} {d : D} (r : rpT K x G B H σ e y d) (n : ¬ Reach H x y D') (ap : ∀ (i : Nat) (v : V) (a : Addr), vs[i]? = some v → Reach H x v a → Reach H x y a → False) : AccT K x D' G B H σ e (vs ++ [y]) (ds ++ [d]) where
  len := by simp [A.len]
  at_ := fun i v d' h1 h2 => by
    by_cases q : i < vs.length
    · rw [List.getElem?_append_left q] at h1
      rw [List.getElem?_append_left (by rw [← A.len]; exact q)] at h2
      exact A.at_ i v d' h1 h2
    · rw [List.getElem?_append_right (by omega)] at h1
      rw [List.getElem?_append_right (by rw [← A.len]; omega)] at h2
      have e : i - vs.length = 0 := by
        have := (List.getElem?_eq_some_iff.mp h1).1
        simp at this; omega
      rw [e] at h1
      rw [← A.len, e] at h2
      cases h1; cases h2
      exact ⟨r, n⟩
  dis := fun i j v w a h1 h2 h3 h4 => by
    have last : ∀ {i v}, ¬ i < vs.length → (vs ++ [y])[i]? = some v → v = y ∧ i = vs.length := fun {i v} q h1 => by
      rw [List.getElem?_append_right (by omega)] at h1
      have := (List.getElem?_eq_some_iff.mp h1).1
      have e : i = vs.length := by simp at this; omega
      subst e
      simp at h1
      exact ⟨h1.symm, rfl⟩
    by_cases q : i < vs.length
    · by_cases q' : j < vs.length
      · rw [List.getElem?_append_left q] at h1
        rw [List.getElem?_append_left q'] at h2
        exact A.dis i j v w a h1 h2 h3 h4
      · obtain ⟨rfl, _⟩ := last q' h2
        rw [List.getElem?_append_left q] at h1
        exact (ap i v a h1 h3 h4).elim
    · obtain ⟨rfl, ei⟩ := last q h1
      by_cases q' : j < vs.length
      · rw [List.getElem?_append_left q'] at h2
        exact (ap j w a h2 h4 h3).elim
      · obtain ⟨_, ej⟩ := last q' h2
        omega
theorem AccT.out (A : AccT K x D' G B H σ e vs ds) (hD : H D' = some (.lst vs)) (bD : B D' = none) (gD : G.H D' = none) (nD : ¬ Owned H σ e D') : rpT K (.l x) G B H σ e (.ref D') (.lst ds) := by
  refine ⟨.nd (cs := vs.map fun v => (x, v)) hD (fun z => nomatch z) rfl (ds := ds) rfl (by rw [List.length_map]; exact A.len) (fun i y v d g1 g2 => ?_) (fun _ i y v g1 q0 => ?_) (fun i j y y' v w a g1 g2 q1 q2 => ?_), fun a q => ?_⟩
  · obtain ⟨rfl, g⟩ := kids_l g1
    exact (A.at_ i v d g g2).1.1
  · obtain ⟨rfl, g⟩ := kids_l g1
    obtain ⟨d1, _, _, n⟩ := A.get g
    exact n q0
  · obtain ⟨rfl, g⟩ := kids_l g1
    obtain ⟨rfl, g'⟩ := kids_l g2
    exact A.dis i j v w a g g' q1 q2
  · cases q with
    | r0 z => exact ⟨bD, gD, nD⟩
    | r1 w1 w2 w3 w4 =>
      rw [hD] at w1
      cases w1
      cases w2
      obtain ⟨i, hi⟩ := List.mem_iff_getElem?.mp w3
      obtain ⟨rfl, g⟩ := kids_l hi
      obtain ⟨d1, _, t1, _⟩ := A.get g
      exact t1.2 a w4
theorem rt_lc {wi : TI} {mi : MA} {g : TG} {gm : D → Env → Option Env} {tt : TT} {mt : MB} {te : TE} {me : ME} {own : List Nat} (hi : RdI K mg W wi mi) (hg : RdG K own g gm) (ht : RdB K mg (W.to Wn) tt mt) (he : RdT K mg (W.to Wn) x te me) :
    RdT K mg W (.l x) (tLc wi g tt te own) (vOf (vLc mi gm mt me own)) where
  run := fun G hG B H σ e Q S q => by
    have q : Po K mg W (rpT K (.l x)) G σ B Q ((mi e).bind fun ds e1 => (lcL gm mt me own ds [] (wipeE e1 own)).bind fun xs e1 => .ok (.lst xs) e1) := by
      unfold vOf vLc at q
      cases z : mi e with
      | ok a e1 => rw [z] at q; exact q
      | err y e1 => rw [z] at q; exact q
      | bot => rw [z] at q; exact q
    refine hi.run G hG B H σ e _ S (Po.bind q fun ds e1 J B1 H1 S1 s1 it h1 => fun D' hD => ?_)
    have S1w : Sto K G B1 H1 (wipe σ own) (wipeE e1 own) := S1.chg (tch_wipe σ own)
    refine ⟨fun i m H' => m = ds.length - i ∧ ∃ e' B' acc vs, Sto K G B' H' (wipe σ own) e' ∧ Same B1 B' ∧ H' D' = some (.lst vs) ∧ B' D' = none ∧ ¬ Owned H' (wipe σ own) e' D' ∧ AccT K x D' G B' H' (wipe σ own) e' vs acc ∧ Po K mg W (rpT K (.l x)) G σ B1 Q ((lcL gm mt me own (ds.drop i) acc e').bind fun xs e1 => .ok (.lst xs) e1),
      ⟨_, rfl, wipeE e1 own, B1, [], [], S1w.loose hD, Same.refl B1, upd_same, same_none S1.sub hD, (fun q => not_owned_new S1w hD (S1w.own_new hD q)), ⟨rfl, fun i v d h => by simp at h, fun i j v w a h => by simp at h⟩, h1⟩, ?_⟩
    rintro i m H2 ⟨rfl, e2, B2, acc, vs, S2, s2, hD2, bD2, nD2, ra, h2⟩
    have gD : G.H D' = none := S1.fresh hD
    obtain ⟨hgo, hstop⟩ := it i B2 H2 s2 S2.sub
    cases z : ds[i]? with
    | none =>
      have hl : ds.length ≤ i := List.getElem?_eq_none_iff.mp z
      rw [List.drop_eq_nil_of_le hl] at h2
      have S3 : Sto K G B2 H2 σ (wipeE e2 own) := S2.chg (tch_wipe σ own).symm
      exact .inl ⟨hstop z, h2 (.ref D') B2 H2 S3 s2 ((ra.out hD2 bD2 gD nD2).wide fun a q => q.chg (tch_wipe σ own).symm)⟩
    | some d =>
      have hl : i < ds.length := (List.getElem?_eq_some_iff.mp z).1
      have hd : ds.drop i = d :: ds.drop (i + 1) := by
        rw [List.drop_eq_getElem_cons hl]
        have : ds[i] = d := (List.getElem?_eq_some_iff.mp z).2
        rw [this]
      rw [hd] at h2
      obtain ⟨go, yl⟩ := hgo d z
      refine .inr ⟨go, fun H' => ∃ e' B' acc vs, Sto K G B' H' (wipe σ own) e' ∧ Same B1 B' ∧ H' D' = some (.lst vs) ∧ B' D' = none ∧ ¬ Owned H' (wipe σ own) e' D' ∧ AccT K x D' G B' H' (wipe σ own) e' vs acc ∧ Po K mg W (rpT K (.l x)) G σ B1 Q ((lcL gm mt me own (ds.drop (i + 1)) acc e').bind fun xs e1 => .ok (.lst xs) e1),
        fun H' ⟨e', B', acc', vs', q1⟩ => ⟨ds.length - (i + 1), by omega, rfl, e', B', acc', vs', q1⟩, fun xv H3 hy => ?_⟩
      obtain ⟨B3, t1, t2, t3, t4, rx⟩ := yl xv H3 hy
      have S3 : Sto K G B3 H3 (wipe σ own) e2 := S2.call t3 t1 t2 t4
      have s13 : Same B1 B3 := s2.trans t1
      have hD3 : H3 D' = some (.lst vs) := t3 _ _ hD2
      have ra3 : AccT K x D' G B3 H3 (wipe σ own) e2 vs acc := ra.mv fun v d r _ => r.call S2 t3 t1 t2 t4
      have bD3 : B3 D' = none := by
        cases w : B3 D' with
        | none => rfl
        | some o =>
          rcases t4 D' (by rw [w]; simp) with u | u
          · exact absurd bD2 u
          · rw [hD2] at u; cases u
      have nF : ¬ OwnF H3 (wipe σ own) e2 D' := fun q => nD2 (S2.own_frame (t1.trans t2) (S2.callO (B' := B3) t3) q)
      have rebD : (reb G B3 H3 (wipe σ own) e2).H D' = some (.lst vs) := (if_neg nF).trans hD3
      unfold lcL at h2
      cases w : gm d e2 with
      | none => simp only [w] at h2; exact h2.elim
      | some e3 =>
        simp only [w] at h2
        refine hg _ B3 H3 (wipe σ own) e2 e3 xv d _ S3.reb rx w fun σ4 S4 tc => ⟨wipe_of_tch tc, ?_⟩
        -- what stays apart
        have nio : D' ∉ G.io := fun q => S1.iom D' q gD
        have apart : ∀ {B5 H5 : Hp} {e5 : Env}, Same B3 B5 → Sto K (reb G B3 H3 (wipe σ own) e2) B5 H5 σ4 e5 → H5 D' = some (.lst vs) ∧ B5 D' = none ∧ ¬ Owned H5 (wipe σ own) (wipeE e5 own) D' ∧ AccT K x D' G B5 H5 (wipe σ own) (wipeE e5 own) vs acc := fun {B5 H5 e5} s35 S5 => by
          refine ⟨S5.keep D' _ rebD nio, ?_, fun q => ?_, ra3.mv fun v d r _ => ?_⟩
          · cases u : B5 D' with
            | none => rfl
            | some o =>
              rcases S5.new D' (by rw [u]; simp) with v1 | v1
              · exact absurd bD3 v1
              · rw [rebD] at v1; cases v1
          · have hg := (S5.apart (q.chg tc.symm)).2.1
            rw [rebD] at hg; cases hg
          · obtain ⟨a1, _, a3⟩ := hold S3 r S5 s35
            exact ⟨a1.wide fun a q => q.chg tc.symm, a3⟩
        have home : ∀ {B5 H5 : Hp} {e5 : Env}, Sto K (reb G B3 H3 (wipe σ own) e2) B5 H5 σ4 e5 → Sto K G B5 H5 (wipe σ own) (wipeE e5 own) := fun {B5 H5 e5} S5 => (S3.unreb S5).chg tc.symm
        refine ht.run _ (W.reb G B3 H3 (wipe σ own) e2 hG S3) B3 H3 σ4 e3 _ S4 ?_
        cases u : mt e3 with
        | err x e4 => simp only [u, Res.bindN] at h2; exact h2.elim
        | bot => simp only [u, Res.bindN] at h2; exact h2.elim
        | ok kb e4 =>
          simp only [u, Res.bindN] at h2
          intro kb' B4 H4 S4' s4 rk
          have rk : kb' = kb := rk
          subst rk
          cases kb' with
          | false =>
            rw [if_neg Bool.false_ne_true] at h2 ⊢
            obtain ⟨a1, a2, a3, a4⟩ := apart s4 S4'
            exact ⟨wipeE e4 own, B4, acc, vs, home S4', s13.trans s4, a1, a2, a3, a4, h2⟩
          | true =>
            rw [if_pos rfl] at h2 ⊢
            refine he.run _ (W.reb G B3 H3 (wipe σ own) e2 hG S3) B4 H4 σ4 e4 _ S4' ?_
            cases u2 : me e4 with
            | err x e4 => simp only [u2] at h2; exact h2.elim
            | bot => simp only [u2] at h2; exact h2.elim
            | ok xd e5 =>
              simp only [u2] at h2
              intro y B5 H5 S5 s5 ry
              obtain ⟨a1, a2, a3, a4⟩ := apart (s4.trans s5) S5
              have hl : acc.length < vmax := by
                by_cases hl : acc.length < vmax
                · exact hl
                · rw [if_neg hl] at h2; exact h2.elim
              rw [if_pos hl] at h2
              have ry' : rpT K x G B5 H5 (wipe σ own) (wipeE e5 own) y xd := ⟨ry.1, fun a q => ⟨(ry.2 a q).1, reb_home S3 (ry.2 a q).2.1, fun w => (ry.2 a q).2.2 (w.chg tc.symm)⟩⟩
              have nD : ¬ Reach H5 x y D' := fun q => by
                have := (ry.2 _ q).2.1
                rw [rebD] at this; cases this
              have ap : ∀ (i : Nat) (v : V) (a : Addr), vs[i]? = some v → Reach H5 x v a → Reach H5 x y a → False := fun i v a g q1 q2 => by
                obtain ⟨d3, g3, r3, _⟩ := ra3.get g
                obtain ⟨_, _, b3⟩ := hold S3 r3 S5 (s4.trans s5)
                have q3 := b3 a q1
                have := (ry.2 a q2).2.1
                rw [reb_no (r3.2 a q3).2.2] at this
                exact r3.1.live q3 this
              have A5 := a4.push ry' nD ap
              have A6 : AccT K x D' G B5 (upd H5 D' (.lst (vs ++ [y]))) (wipe σ own) (wipeE e5 own) (vs ++ [y]) (acc ++ [xd]) := A5.mv fun v d r n =>
                r.step (home S5) (Same.refl B5) (((home S5).poke (o := .lst (vs ++ [y])) a2 gD a3).sub) (fun a q => upd_ne fun z => n (z ▸ q)) (fun a q => (r.2 a q).1) fun a q w => (r.2 a q).2.2 ((home S5).own_frame (((home S5).poke (o := .lst (vs ++ [y])) a2 gD a3).sub) (fun b w => upd_ne fun z => a3 (z ▸ w)) w)
              refine ⟨vs, a1, by rw [a4.len]; exact Nat.lt_of_lt_of_le hl vok, wipeE e5 own, B5, acc ++ [xd], vs ++ [y], (home S5).poke a2 gD a3, s13.trans (s4.trans s5), upd_same, a2, (home S5).poke_no a2 a3, A6, h2⟩
end
end VL

/-! VL29: own trees: paths, changes along paths. -/
namespace VL
open PySem PySem.Spec PyProof.Rows L2
/-- the node at a path -/
inductive Path (H : Hp) : List Nat → Sh → V → D → Sh → V → D → Prop
  | nil {s : Sh} {v : V} {d : D} : Path H [] s v d s v d
  | cons {π : List Nat} {s s' x : Sh} {p : Addr} {v' w : V} {d d' k : D} {o : HO} {cs : List (Sh × V)} {ds : List D} {j : Nat} : H p = some o → kids s o = some cs → kidsD s o d = some ds → cs[j]? = some (x, w) → ds[j]? = some k → Path H π x w k s' v' d' → Path H (j :: π) s (.ref p) d s' v' d'
theorem kidsD_kids {s : Sh} {o : HO} {d : D} {ds : List D} (h : kidsD s o d = some ds) : d.kids = ds := by
  cases s with
  | s => cases h
  | l x => cases o with
    | lst vs => cases d <;> first | (cases h; rfl) | cases h
    | _ => cases h
  | t xs => cases o with
    | tup vs => cases d <;> first | (cases h; rfl) | cases h
    | _ => cases h
  | d x => cases o with
    | dK kvs => cases d with
      | dct ks es =>
        have h : (if kvs.map (·.1) = ks then some es else none) = some ds := h
        split at h
        · cases h; rfl
        · cases h
      | _ => cases h
    | _ => cases h
theorem kidsD_set {s : Sh} {o : HO} {d k : D} {ds : List D} {j : Nat} (h : kidsD s o d = some ds) : kidsD s o (d.setK j k) = some (ds.set j k) := by
  cases s with
  | s => cases h
  | l x => cases o with
    | lst vs => cases d <;> first | (cases h; rfl) | cases h
    | _ => cases h
  | t xs => cases o with
    | tup vs => cases d <;> first | (cases h; rfl) | cases h
    | _ => cases h
  | d x => cases o with
    | dK kvs => cases d with
      | dct ks es =>
        have h : (if kvs.map (·.1) = ks then some es else none) = some ds := h
        show (if kvs.map (·.1) = ks then some (es.set j k) else none) = some (ds.set j k)
        split at h
        · rename_i e; cases h; rw [if_pos e]
        · cases h
      | _ => cases h
    | _ => cases h
theorem kids_kid {s x : Sh} {o : HO} {cs : List (Sh × V)} {w : V} {j : Nat} (h : kids s o = some cs) (g : cs[j]? = some (x, w)) : s.kid j = some x := by
  cases s with
  | s => cases h
  | l y => cases o with
    | lst vs => cases h; rw [(kids_l g).1]; rfl
    | _ => cases h
  | t xs => cases o with
    | tup vs =>
      have h : (if xs.length = vs.length then some (xs.zip vs) else none) = some cs := h
      split at h
      · cases h; exact (List.getElem?_zip_eq_some.mp g).1
      · cases h
    | _ => cases h
  | d y => cases o with
    | dK kvs =>
      cases h
      rw [List.getElem?_map] at g
      cases z : kvs[j]? with
      | none => rw [z] at g; cases g
      | some q => rw [z] at g; cases g; rfl
    | _ => cases h
section
variable {K : PySem.W.Frag} {mg : Str → Option Value} {W : Am K} {k : RK} {G : Gr} {B B2 H H2 : Hp} {σ σ2 : L2.St} {e e2 : Env} {s s' : Sh} {v v' : V} {d d' : D} {π : List Nat}
theorem Path.get (p : Path H π s v d s' v' d') : getP π d = some d' := by
  induction p with
  | nil => rfl
  | cons h1 h2 h3 h4 h5 _ ih => unfold getP; rw [kidsD_kids h3, h5]; exact ih
theorem Path.sh (p : Path H π s v d s' v' d') : shP π s = some s' := by
  induction p with
  | nil => rfl
  | cons h1 h2 h3 h4 h5 _ ih => unfold shP; rw [kids_kid h2 h4]; exact ih
theorem Path.snoc {x : Sh} {p : Addr} {w : V} {kk : D} {o : HO} {cs : List (Sh × V)} {ds : List D} {j : Nat} (P : Path H π s v d s' (.ref p) d') (h1 : H p = some o) (h2 : kids s' o = some cs) (h3 : kidsD s' o d' = some ds) (h4 : cs[j]? = some (x, w)) (h5 : ds[j]? = some kk) : Path H (π ++ [j]) s v d x w kk := by
  generalize hu : V.ref p = u at P
  induction P with
  | nil => subst hu; exact .cons h1 h2 h3 h4 h5 .nil
  | cons g1 g2 g3 g4 g5 _ ih => exact .cons g1 g2 g3 g4 g5 (ih h2 h3 hu)
theorem Path.tr (P : Path H π s v d s' v' d') (t : Tr K B H s v d) : Tr K B H s' v' d' := by
  induction P with
  | nil => exact t
  | cons h1 h2 h3 h4 h5 _ ih =>
    cases t with
    | s _ => cases h2
    | nd e1 e2 e3 e4 e5 e6 e7 e8 =>
      rw [h1] at e1; cases e1
      rw [h2] at e3; cases e3
      rw [h3] at e4; cases e4
      exact ih (e6 _ _ _ _ h4 h5)
theorem Path.reach (P : Path H π s v d s' v' d') {a : Addr} (r : Reach H s' v' a) : Reach H s v a := by
  induction P with
  | nil => exact r
  | cons h1 h2 h3 h4 h5 _ ih => exact .r1 h1 h2 (List.mem_iff_getElem?.mpr ⟨_, h4⟩) (ih r)
theorem Path.frame (P : Path H π s v d s' v' d') (sub2 : Same B H2) (t : Tr K B H s v d) (h : ∀ a, Reach H s v a → H2 a = H a) : Path H2 π s v d s' v' d' := by
  induction P with
  | nil => exact .nil
  | @cons π s s' x p v' w d d' kk o cs ds j h1 h2 h3 h4 h5 _ ih =>
    cases t with
    | s _ => cases h2
    | nd e1 e2 e3 e4 e5 e6 e7 e8 =>
      rw [h1] at e1; cases e1
      rw [h2] at e3; cases e3
      rw [h3] at e4; cases e4
      refine .cons ?_ h2 h3 h4 h5 (ih (e6 _ _ _ _ h4 h5) fun a r => h a (.r1 h1 h2 (List.mem_iff_getElem?.mpr ⟨_, h4⟩) r))
      cases z : s.own with
      | true => rw [h p (.r0 z)]; exact h1
      | false => exact sub2 _ _ (e2 z)
/-- a path from the data's side -/
theorem Path.of : ∀ {π : List Nat} {s : Sh} {v : V} {d : D}, Tr K B H s v d → getP π d = some d' → shP π s = some s' → ∃ v', Path H π s v d s' v' d'
  | [], s, v, d, _, h1, h2 => by cases h1; cases h2; exact ⟨_, .nil⟩
  | j :: π, s, v, d, t, h1, h2 => by
    cases t with
    | s _ => cases h2
    | @nd _ p o cs _ ds e1 e2 e3 e4 e5 e6 e7 e8 =>
      unfold getP at h1
      rw [kidsD_kids e4] at h1
      cases z : ds[j]? with
      | none => rw [z] at h1; cases h1
      | some kk =>
        rw [z] at h1
        have hl : j < cs.length := by rw [e5]; exact (List.getElem?_eq_some_iff.mp z).1
        have g : cs[j]? = some (cs[j].1, cs[j].2) := List.getElem?_eq_getElem hl
        unfold shP at h2
        rw [kids_kid e3 g] at h2
        obtain ⟨v', P⟩ := Path.of (e6 _ _ _ _ g z) h1 h2
        exact ⟨v', .cons e1 e3 e4 g z P⟩
/-- what stands at a path put otherwise -/
theorem Tr.put {d'' : D} {Fr : Addr → Prop} (P : Path H π s v d s' v' d') (t : Tr K B H s v d) (sub : Same B H) (sB : Same B B2) (sub2 : Same B2 H2) (out : ∀ a, Reach H s v a → ¬ Reach H s' v' a → H2 a = H a) (t' : Tr K B2 H2 s' v' d'') (nw : ∀ a, Reach H2 s' v' a → Reach H s' v' a ∨ Fr a) (fr : ∀ a, Fr a → ¬ Reach H s v a) :
    Tr K B2 H2 s v (setP π d d'') ∧ ∀ a, Reach H2 s v a → Reach H s v a ∨ Fr a := by
  induction P with
  | nil => exact ⟨t', nw⟩
  | @cons π s s' x p v' w d d' kk o cs ds j h1 h2 h3 h4 h5 P ih =>
    cases t with
    | s _ => cases h2
    | nd e1 e2 e3 e4 e5 e6 e7 e8 =>
      rw [h1] at e1; cases e1
      rw [h2] at e3; cases e3
      rw [h3] at e4; cases e4
      have up : ∀ {i x w a}, cs[i]? = some (x, w) → Reach H x w a → Reach H s (.ref p) a := fun {i x w a} g r => .r1 h1 h2 (List.mem_iff_getElem?.mpr ⟨_, g⟩) r
      obtain ⟨i1, i2⟩ := ih (e6 _ _ _ _ h4 h5) (fun a q n => out a (up h4 q) n) t' nw fun a q w => fr a q (up h4 w)
      have hl : j < ds.length := (List.getElem?_eq_some_iff.mp h5).1
      have oth : ∀ {i y u}, i ≠ j → cs[i]? = some (y, u) → ∀ a, Reach H y u a → H2 a = H a := fun {i y u} n g a q => out a (up g q) fun z => n (e8 i j y x u w a g h4 q (P.reach z))
      have kd : ∀ {i y u}, cs[i]? = some (y, u) → ∃ d, ds[i]? = some d ∧ Tr K B H y u d := fun {i y u} g => by
        have hl : i < ds.length := by rw [← e5]; exact (List.getElem?_eq_some_iff.mp g).1
        exact ⟨_, List.getElem?_eq_getElem hl, e6 i y u _ g (List.getElem?_eq_getElem hl)⟩
      have back : ∀ {i y u a}, i ≠ j → cs[i]? = some (y, u) → Reach H2 y u a → Reach H y u a := fun {i y u a} n g r => by
        obtain ⟨_, _, td⟩ := kd g
        exact Reach.frame sub (sB.trans sub2) td (oth n g) r
      have hp : H2 p = some o := by
        cases z : s.own with
        | true => rw [out p (.r0 z) fun q => e7 z j x w h4 (P.reach q)]; exact h1
        | false => exact sub2 _ _ (sB _ _ (e2 z))
      have e9 : setP (j :: π) d d'' = d.setK j (setP π kk d'') := by
        show (match d.kids[j]? with
          | some k => d.setK j (setP π k d'')
          | none => d) = _
        rw [kidsD_kids h3, h5]
      rw [e9]
      have at_ : ∀ {i y u}, i = j → cs[i]? = some (y, u) → y = x ∧ u = w := fun {i y u} q g => by
        rw [q, h4] at g; cases g; exact ⟨rfl, rfl⟩
      refine ⟨.nd hp (fun z => sB _ _ (e2 z)) h2 (kidsD_set h3) (by rw [List.length_set]; exact e5) (fun i y u b g1 g2 => ?_) (fun z i y u g1 q => ?_) (fun i l y y' u u' a g1 g2 q1 q2 => ?_), fun a q => ?_⟩
      · by_cases q : i = j
        · obtain ⟨rfl, rfl⟩ := at_ q g1
          subst q
          rw [List.getElem?_set_self hl] at g2
          cases g2
          exact i1
        · rw [List.getElem?_set_ne (Ne.symm q)] at g2
          exact (e6 i y u b g1 g2).frame sub sub2 sB (oth q g1)
      · by_cases n : i = j
        · obtain ⟨rfl, rfl⟩ := at_ n g1
          rcases i2 p q with r | r
          · exact e7 z j _ _ h4 r
          · exact fr p r (.r0 z)
        · exact e7 z i y u g1 (back n g1 q)
      · by_cases n : i = j
        · obtain ⟨rfl, rfl⟩ := at_ n g1
          by_cases n2 : l = j
          · omega
          · have r2 := back n2 g2 q2
            rcases i2 a q1 with r | r
            · exact n.trans (e8 j l _ y' _ u' a h4 g2 r r2)
            · exact (fr a r (up g2 r2)).elim
        · have r1 := back n g1 q1
          by_cases n2 : l = j
          · obtain ⟨rfl, rfl⟩ := at_ n2 g2
            rcases i2 a q2 with r | r
            · exact (e8 i j y _ u _ a g1 h4 r1 r).trans n2.symm
            · exact (fr a r (up g1 r1)).elim
          · exact e8 i l y y' u u' a g1 g2 r1 (back n2 g2 q2)
      · cases q with
        | r0 z => exact .inl (.r0 z)
        | @r1 _ y _ _ o' cs' u w1 w2 w3 w4 =>
          rw [hp] at w1; cases w1
          rw [h2] at w2; cases w2
          obtain ⟨i, hi⟩ := List.mem_iff_getElem?.mp w3
          by_cases n : i = j
          · obtain ⟨rfl, rfl⟩ := at_ n hi
            rcases i2 a w4 with r | r
            · exact .inl (up h4 r)
            · exact .inr r
          · exact .inl (up hi (back n hi w4))
/-- a list node by its kids -/
theorem Tr.node {x : Sh} {p : Addr} {ws : List V} {es : List D} (sub : Same B H) (bp : B p = none) (hl : ws.length = es.length) (hk : ∀ (i : Nat) (w : V) (d : D), ws[i]? = some w → es[i]? = some d → Tr K B H x w d ∧ ¬ Reach H x w p) (hd : ∀ (i j : Nat) (v w : V) (a : Addr), ws[i]? = some v → ws[j]? = some w → Reach H x v a → Reach H x w a → i = j) :
    Same B (upd H p (.lst ws)) ∧ Tr K B (upd H p (.lst ws)) (.l x) (.ref p) (.lst es) ∧ ∀ a, Reach (upd H p (.lst ws)) (.l x) (.ref p) a → a = p ∨ ∃ (i : Nat) (w : V), ws[i]? = some w ∧ Reach H x w a := by
  have sub' : Same B (upd H p (.lst ws)) := fun b y q => by rw [upd_ne (ne_of_none q bp)]; exact sub _ _ q
  have kd : ∀ {i : Nat} {w : V}, ws[i]? = some w → ∃ d, es[i]? = some d ∧ Tr K B H x w d ∧ ¬ Reach H x w p := fun {i w} g => by
    have hl : i < es.length := by rw [← hl]; exact (List.getElem?_eq_some_iff.mp g).1
    exact ⟨_, List.getElem?_eq_getElem hl, hk i w _ g (List.getElem?_eq_getElem hl)⟩
  have st : ∀ {w : V}, ¬ Reach H x w p → ∀ a, Reach H x w a → upd H p (.lst ws) a = H a := fun n a q => upd_ne fun z => n (z ▸ q)
  have back : ∀ {i : Nat} {w : V} {a}, ws[i]? = some w → Reach (upd H p (.lst ws)) x w a → Reach H x w a := fun {i w a} g r => by
    obtain ⟨_, _, t, n⟩ := kd g
    exact Reach.frame sub sub' t (st n) r
  refine ⟨sub', .nd (cs := ws.map fun v => (x, v)) upd_same (fun z => nomatch z) rfl (ds := es) rfl (by rw [List.length_map]; exact hl) (fun i y v d g1 g2 => ?_) (fun _ i y v g1 q0 => ?_) (fun i j y y' v w a g1 g2 q1 q2 => ?_), fun a q => ?_⟩
  · obtain ⟨rfl, g⟩ := kids_l g1
    exact (hk i v d g g2).1.frame sub sub' (Same.refl B) (st (hk i v d g g2).2)
  · obtain ⟨rfl, g⟩ := kids_l g1
    obtain ⟨_, _, _, n⟩ := kd g
    exact n (back g q0)
  · obtain ⟨rfl, g⟩ := kids_l g1
    obtain ⟨rfl, g'⟩ := kids_l g2
    exact hd i j v w a g g' (back g q1) (back g' q2)
  · cases q with
    | r0 _ => exact .inl rfl
    | r1 w1 w2 w3 w4 =>
      rw [upd_same] at w1
      cases w1
      cases w2
      obtain ⟨i, hi⟩ := List.mem_iff_getElem?.mp w3
      obtain ⟨rfl, g⟩ := kids_l hi
      exact .inr ⟨i, _, g, back g w4⟩
/-- a list at a path written -/
theorem Sto.putT {x : Sh} {p : Addr} {ws : List V} {es : List D} {Fr : Addr → Prop} (S : Sto K G B H σ e) (r : rpT K s G B H σ e v d) (P : Path H π s v d (.l x) (.ref p) d')
    (hl : ws.length = es.length) (hk : ∀ (i : Nat) (w : V) (d : D), ws[i]? = some w → es[i]? = some d → Tr K B H x w d ∧ ¬ Reach H x w p ∧ ∀ a, Reach H x w a → Reach H (.l x) (.ref p) a ∨ Fr a) (hd : ∀ (i j : Nat) (v w : V) (a : Addr), ws[i]? = some v → ws[j]? = some w → Reach H x v a → Reach H x w a → i = j)
    (fr : ∀ a, Fr a → ¬ Reach H s v a ∧ B a = none ∧ G.H a = none ∧ ¬ Owned H σ e a) : Sto K G B (upd H p (.lst ws)) σ e ∧ rpT K s G B (upd H p (.lst ws)) σ e v (setP π d (.lst es)) := by
  have rp : Reach H s v p := P.reach (.r0 rfl)
  obtain ⟨bp, gp, np⟩ := r.2 p rp
  obtain ⟨n1, n2, n3⟩ := Tr.node S.sub bp hl (fun i w d h1 h2 => ⟨(hk i w d h1 h2).1, (hk i w d h1 h2).2.1⟩) hd
  have S2 := S.poke (o := .lst ws) bp gp np
  obtain ⟨q1, q2⟩ := Tr.put (B2 := B) (H2 := upd H p (.lst ws)) (Fr := Fr) P r.1 S.sub (Same.refl B) n1 (fun a h1 h2 => upd_ne fun z => h2 (z ▸ .r0 rfl)) n2 (fun a h => by
    rcases n3 a h with z | ⟨i, w, g, z⟩
    · exact .inl (z ▸ .r0 rfl)
    · have hi : i < es.length := by rw [← hl]; exact (List.getElem?_eq_some_iff.mp g).1
      exact (hk i w _ g (List.getElem?_eq_getElem hi)).2.2 a z) fun a h => (fr a h).1
  refine ⟨S2, q1, fun a q => ?_⟩
  have ow : ∀ {a}, Owned (upd H p (.lst ws)) σ e a → Owned H σ e a := fun w => S.own_frame S2.sub (fun a q => upd_ne fun z => np (z ▸ q)) w
  rcases q2 a q with z | z
  · exact ⟨(r.2 a z).1, (r.2 a z).2.1, fun w => (r.2 a z).2.2 (ow w)⟩
  · exact ⟨(fr a z).2.1, (fr a z).2.2.1, fun w => (fr a z).2.2.2 (ow w)⟩
/-- something told while a slot's tree is hidden -/
theorem hidden {α β : Type} {R : RP α β} {t : L2.St → Hp → (β → Hp → Prop) → Prop} {m : Env → Res α} {Q : β → Hp → Prop} {v0 : V} {i : Nat} (hm : RdX K mg W R t m) (hG : W.g G) (S : Sto K G B H σ e) (he : e[i]? = some (.tr s d)) (hσ : σ[i]? = some (some v0))
    (herr : ∀ x e2, m (e.set i .no) = .err x e2 → ∀ cls dd B' H', Sto K G B' H' σ e2 → Same B B' → XRep K mg B' cls dd x → W.w cls dd σ H') (hbot : m (e.set i .no) ≠ .bot)
    (hok : ∀ a e2 b B2 H2, m (e.set i .no) = .ok a e2 → Same B B2 → R (reb G B H σ (e.set i .no)) B2 H2 σ e2 b a → Sto K G B2 H2 σ e2 → rpT K s G B2 H2 σ e2 v0 d → Sto K (reb G B H σ (e.set i .no)) B2 H2 σ e2 → (∀ {π s' v d'}, Path H π s v0 d s' v d' → Path H2 π s v0 d s' v d') → (∀ c, (reb G B H σ (e.set i .no)).H c = none → G.H c = none ∧ ¬ Reach H2 s v0 c) → Q b H2) : t σ H Q := by
  obtain ⟨v1, hv, r⟩ := S.loseT he
  rw [hσ] at hv
  cases hv
  have S1 := S.lose i
  refine hm.run _ (W.reb G B H σ _ hG S1) B H σ _ _ S1.reb ?_
  cases z : m (e.set i .no) with
  | bot => exact absurd z hbot
  | err x e2 => exact fun c dd B2 H2 S2 s2 xr => herr x e2 z c dd B2 H2 (S1.unreb S2) s2 xr
  | ok a e2 =>
    intro b B2 H2 S2 s2 rb
    obtain ⟨a1, a2, a3⟩ := hold S1 r S2 s2
    exact hok a e2 b B2 H2 z s2 rb (S1.unreb S2) a1 S2 (fun P => P.frame (s2.trans S2.sub) r.1 a2) fun c hc => ⟨reb_home S1 hc, fun w => by
      have w := a3 c w
      rw [reb_no (r.2 c w).2.2] at hc
      exact r.1.live w hc⟩
/-! reading along a path -/
def rpPt (i : Nat) : RP (List Nat) V := fun _ _ H σ e v π => ∃ s d v0 s' d', e[i]? = some (.tr s d) ∧ σ[i]? = some (some v0) ∧ Path H π s v0 d s' v d'
theorem rp_0 (i : Nat) : RdX K mg W (rpPt i) (tVar i) (vP0 i) where
  run := fun G hG B H σ e Q S h => by
    unfold vP0 at h
    cases z : e[i]? with
    | none => rw [z] at h; exact h.elim
    | some x =>
      rw [z] at h
      cases x with
      | tr s d =>
        obtain ⟨v, hv, r⟩ := S.loseT z
        exact ⟨v, hv, h v B H S (Same.refl B) ⟨s, d, v, s, d, z, hv, .nil⟩⟩
      | _ => exact h.elim
theorem tr_lst {ds : List D} (t : Tr K B H s v (.lst ds)) (hs : s ≠ .s) : ∃ x p vs, s = .l x ∧ v = .ref p ∧ H p = some (.lst vs) ∧ vs.length = ds.length ∧ kids s (.lst vs) = some (vs.map fun v => (x, v)) ∧ kidsD s (.lst vs) (.lst ds) = some ds := by
  cases t with
  | s _ => exact absurd rfl hs
  | @nd _ p o cs _ ds' e1 e2 e3 e4 e5 e6 e7 e8 =>
    cases s with
    | s => cases e3
    | l x => cases o with
      | lst vs => cases e3; cases e4; exact ⟨x, p, vs, rfl, rfl, e1, by simpa using e5, rfl, rfl⟩
      | _ => cases e3
    | t xs => cases o <;> cases e4
    | d x => cases o <;> cases e4
theorem tr_tup {ds : List D} (t : Tr K B H s v (.tup ds)) (hs : s ≠ .s) : ∃ xs p vs, s = .t xs ∧ v = .ref p ∧ H p = some (.tup vs) ∧ xs.length = vs.length ∧ vs.length = ds.length ∧ kids s (.tup vs) = some (xs.zip vs) ∧ kidsD s (.tup vs) (.tup ds) = some ds := by
  cases t with
  | s _ => exact absurd rfl hs
  | @nd _ p o cs _ ds' e1 e2 e3 e4 e5 e6 e7 e8 =>
    cases s with
    | s => cases e3
    | l x => cases o <;> cases e4
    | d x => cases o <;> cases e4
    | t xs => cases o with
      | tup vs =>
        have e3' : (if xs.length = vs.length then some (xs.zip vs) else none) = some cs := e3
        split at e3'
        · rename_i hl
          cases e3'; cases e4
          exact ⟨xs, p, vs, rfl, rfl, e1, hl, by rw [List.length_zip, hl] at e5; simpa using e5, e3, rfl⟩
        · cases e3'
      | _ => cases e3
theorem rp_S {i : Nat} {tp tx : TE} {mp : MP} {mx : ME} (hp : RdX K mg W (rpPt i) tp mp) (hx : RdE K mg W tx mx) : RdX K mg W (rpPt i) (tOp (rIx K) tp tx) (vPS i mp mx) where
  run := fun G hG B H σ e Q S h => by
    unfold vPS at h
    refine hp.run G hG B H σ e _ S (Po.bind h fun π e1 v B1 H1 S1 s1 r1 h1 => ?_)
    obtain ⟨s, d, v0, s', d', he, hσ, P⟩ := r1
    rw [he] at h1
    dsimp only at h1
    refine hidden hx hG S1 he hσ (fun x e2 z => by rw [z] at h1; exact h1) (fun z => by rw [z] at h1; exact h1) fun a e2 b B2 H2 z s2 rb S2 r2 _ pf _ => ?_
    rw [z] at h1
    dsimp only [Res.bind] at h1
    have P2 := pf P
    have hi : i < e2.length := by
      have := S2.len
      have := (List.getElem?_eq_some_iff.mp hσ).1
      omega
    have S3 := S2.setT hi hσ r2
    cases w : pathIx π d a with
    | none => rw [w] at h1; exact h1.elim
    | some j =>
      rw [w] at h1
      dsimp only at h1
      split at h1
      · rename_i hsh
        have ns : s' ≠ .s := fun q => by
          subst q
          have e4 : ∀ {π : List Nat} {s : Sh}, shP π s = some .s → shP (π ++ [j]) s = none := by
            intro π
            induction π with
            | nil => intro s h; cases h; rfl
            | cons j' π ih =>
              intro s h
              unfold shP at h
              show shP (j' :: (π ++ [j])) s = none
              unfold shP
              cases u : s.kid j' with
              | none => rfl
              | some y => rw [u] at h; exact ih h
          rw [e4 P2.sh] at hsh
          cases hsh
        have t2 := P2.tr r2.1
        unfold pathIx at w
        rw [P2.get] at w
        have fin : ∀ {x : Sh} {w : V} {kk : D}, Path H2 (π ++ [j]) s v0 d x w kk → Q w H2 := fun {x w kk} P3 => h1 w B2 H2 S3 s2 ⟨s, d, v0, x, kk, List.getElem?_set_self hi, hσ, P3⟩
        split at w
        · rename_i ds n hd' 
          have hd' : d' = .lst ds := by simpa using hd'
          subst hd'
          obtain ⟨x, p, vs, rfl, rfl, hh, hl, k1, k2⟩ := tr_lst t2 ns
          cases rb
          have hj : j < ds.length := by
            unfold ixD at w
            split at w
            · split at w
              · cases w; omega
              · cases w
            · split at w
              · cases w; omega
              · cases w
          have hv : vs[j]? = some vs[j] := List.getElem?_eq_getElem (by omega)
          refine .inl ⟨p, vs, n, vs[j], rfl, rfl, SqL.of hh, ?_, fin (P2.snoc hh k1 k2 (by rw [List.getElem?_map, hv]; rfl) (List.getElem?_eq_getElem hj))⟩
          show (ixN vs.length n).bind (fun k => vs[k]?) = _
          have e5 : ixN vs.length n = some j := by rw [hl]; exact w
          rw [e5]; exact hv
        · rename_i ds n hd' 
          have hd' : d' = .tup ds := by simpa using hd'
          subst hd'
          obtain ⟨xs, p, vs, rfl, rfl, hh, hl0, hl, k1, k2⟩ := tr_tup t2 ns
          cases rb
          have hj : j < ds.length := by
            unfold ixD at w
            split at w
            · split at w
              · cases w; omega
              · cases w
            · split at w
              · cases w; omega
              · cases w
          have hv : vs[j]? = some vs[j] := List.getElem?_eq_getElem (by omega)
          have hx : xs[j]? = some xs[j] := List.getElem?_eq_getElem (by omega)
          refine .inr (.inl ⟨p, vs, n, vs[j], rfl, rfl, SqT.of hh, ?_, fin (P2.snoc hh k1 k2 (List.getElem?_zip_eq_some.mpr ⟨hx, hv⟩) (List.getElem?_eq_getElem hj))⟩)
          show (ixN vs.length n).bind (fun k => vs[k]?) = _
          have e5 : ixN vs.length n = some j := by rw [hl]; exact w
          rw [e5]; exact hv
        · cases w
      · exact h1.elim
end
end VL

/-! VL30: own trees: append, clear, item stores along paths. -/
namespace VL
open PySem PySem.Spec PyProof.Rows L2
section
variable {K : PySem.W.Frag} {mg : Str → Option Value} {W : Am K} {k : RK} {G : Gr} {B B2 H H2 : Hp} {σ σ2 : L2.St} {e e2 : Env} {s s' x : Sh} {v v' : V} {d d' : D} {π : List Nat}
theorem lstAt_ok {ds : List D} (h : lstAt x π s d = some ds) : shP π s = some (.l x) ∧ getP π d = some (.lst ds) := by
  unfold lstAt at h
  split at h
  · rename_i y ds' h1 h2
    split at h
    · rename_i hq
      cases h
      rw [Sh.eqb_eq hq]
      exact ⟨h1, h2⟩
    · cases h
  · cases h
theorem tr_kids {p : Addr} {ds : List D} (t : Tr K B H (.l x) v (.lst ds)) : ∃ p vs, v = .ref p ∧ H p = some (.lst vs) ∧ vs.length = ds.length ∧ (∀ (i : Nat) (v : V) (d : D), vs[i]? = some v → ds[i]? = some d → Tr K B H x v d) ∧ (∀ (i : Nat) (v : V), vs[i]? = some v → ¬ Reach H x v p) ∧
    (∀ (i j : Nat) (v w : V) (a : Addr), vs[i]? = some v → vs[j]? = some w → Reach H x v a → Reach H x w a → i = j) ∧ ∀ (i : Nat) (v : V) (a : Addr), vs[i]? = some v → Reach H x v a → Reach H (.l x) (.ref p) a := by
  cases t with
  | @nd _ p o cs _ ds' e1 e2 e3 e4 e5 e6 e7 e8 =>
    cases o with
    | lst vs =>
      cases e3; cases e4
      have g : ∀ {i : Nat} {v : V}, vs[i]? = some v → (vs.map fun v => (x, v))[i]? = some (x, v) := fun h => by rw [List.getElem?_map, h]; rfl
      exact ⟨p, vs, rfl, e1, by simpa using e5, fun i v d h1 h2 => e6 i x v d (g h1) h2, fun i v h => e7 rfl i x v (g h), fun i j v w a h1 h2 => e8 i j x x v w a (g h1) (g h2), fun i v a h q => .r1 e1 rfl (List.mem_iff_getElem?.mpr ⟨i, g h⟩) q⟩
    | _ => cases e3
/-- P.append(e) -/
theorem rs_appT {i : Nat} {tp t : TE} {mp : MP} {me : ME} (hp : RdX K mg W (rpPt i) tp mp) (ha : RdT K mg W x t me) : RdS K mg W k (tDrop (tBM K "list" rAppend tp (tCons t tNil))) (vAppT i mp x me) := fun G hG B H σ e D S h => by
  unfold vAppT at h
  refine hp.run G hG B H σ e _ S (PoS.thenS h fun π e1 v B1 H1 S1 s1 r1 h1 => ?_)
  obtain ⟨s, d, v0, s', d', he, hσ, P⟩ := r1
  rw [he] at h1
  dsimp only at h1
  cases z : lstAt x π s d with
  | none => rw [z] at h1; exact h1.elim
  | some ds =>
    rw [z] at h1
    dsimp only at h1
    obtain ⟨z1, z2⟩ := lstAt_ok z
    have e1' := P.sh; rw [z1] at e1'; cases e1'
    have e2' := P.get; rw [z2] at e2'; cases e2'
    obtain ⟨v1, hv1, rr⟩ := S1.loseT he
    rw [hσ] at hv1; cases hv1
    obtain ⟨p, vs, rfl, hh, _⟩ := tr_kids (p := 0) (P.tr rr.1)
    refine ⟨.inl ⟨rfl, vs, .inl (.inl hh)⟩, hidden (t := t) (m := me) (R := rpT K x) ha hG S1 he hσ (fun x e2 z => by rw [z] at h1; exact fun cls dd B' H' S' s xr => h1 cls dd σ B' H' S' s xr) (fun z => by rw [z] at h1; exact h1) fun a e2 b B2 H2 z s2 rb S2 r2 _ pf home => ?_⟩
    rw [z] at h1
    dsimp only [Res.thenS] at h1
    have P2 := pf P
    obtain ⟨p2, vs2, e3, hh2, l2, c1, c2, c3, c4⟩ := tr_kids (p := 0) (P2.tr r2.1)
    cases e3
    have hi : i < e2.length := by
      have := S2.len
      have := (List.getElem?_eq_some_iff.mp hσ).1
      omega
    by_cases hl : ds.length < vmax
    · rw [if_pos hl] at h1
      have rp : Reach H2 s v0 p := P2.reach (.r0 rfl)
      have nb : ∀ c, Reach H2 x b c → G.H c = none ∧ ¬ Reach H2 s v0 c := fun c q => home c (rb.2 c q).2.1
      have hk : ∀ (i : Nat) (w : V) (d : VL.D), (vs2 ++ [b])[i]? = some w → (ds ++ [a])[i]? = some d → Tr K B2 H2 x w d ∧ ¬ Reach H2 x w p ∧ ∀ c, Reach H2 x w c → Reach H2 (.l x) (.ref p) c ∨ Reach H2 x b c := fun i w d g1 g2 => by
        by_cases q : i < vs2.length
        · rw [List.getElem?_append_left q] at g1
          rw [List.getElem?_append_left (by omega)] at g2
          exact ⟨c1 i w d g1 g2, c2 i w g1, fun c r => .inl (c4 i w c g1 r)⟩
        · rw [List.getElem?_append_right (by omega)] at g1
          rw [List.getElem?_append_right (by omega)] at g2
          have e4 : i - vs2.length = 0 := by
            have := (List.getElem?_eq_some_iff.mp g1).1
            simp at this; omega
          rw [e4] at g1
          rw [← l2, e4] at g2
          cases g1; cases g2
          exact ⟨rb.1, fun r => (nb p r).2 rp, fun c r => .inr r⟩
      have hd : ∀ (i j : Nat) (v w : V) (c : Addr), (vs2 ++ [b])[i]? = some v → (vs2 ++ [b])[j]? = some w → Reach H2 x v c → Reach H2 x w c → i = j := fun i j v w c g1 g2 q1 q2 => by
        have last : ∀ {i : Nat} {v : V}, ¬ i < vs2.length → (vs2 ++ [b])[i]? = some v → v = b ∧ i = vs2.length := fun {i v} q h1 => by
          rw [List.getElem?_append_right (by omega)] at h1
          have := (List.getElem?_eq_some_iff.mp h1).1
          have e : i = vs2.length := by simp at this; omega
          subst e
          simp at h1
          exact ⟨h1.symm, rfl⟩
        by_cases n1 : i < vs2.length
        · by_cases n2 : j < vs2.length
          · rw [List.getElem?_append_left n1] at g1
            rw [List.getElem?_append_left n2] at g2
            exact c3 i j v w c g1 g2 q1 q2
          · obtain ⟨rfl, _⟩ := last n2 g2
            rw [List.getElem?_append_left n1] at g1
            exact ((nb c q2).2 (P2.reach (c4 i v c g1 q1))).elim
        · obtain ⟨rfl, ei⟩ := last n1 g1
          by_cases n2 : j < vs2.length
          · rw [List.getElem?_append_left n2] at g2
            exact ((nb c q1).2 (P2.reach (c4 j w c g2 q2))).elim
          · obtain ⟨_, ej⟩ := last n2 g2
            omega
      obtain ⟨S3, r3⟩ := S2.putT (ws := vs2 ++ [b]) (es := ds ++ [a]) (Fr := Reach H2 x b) r2 P2 (by simp [l2]) hk hd fun c q => ⟨(nb c q).2, (rb.2 c q).1, (nb c q).1, (rb.2 c q).2.2⟩
      exact ⟨p, vs2, b, rfl, rfl, hh2, by rw [l2]; exact Nat.lt_of_lt_of_le hl vok, h1 σ B2 _ (S3.setT hi hσ r3) s2⟩
    · rw [if_neg hl] at h1; exact h1.elim
/-- P.clear() -/
theorem rs_clrT {i : Nat} {tp : TE} {mp : MP} (hp : RdX K mg W (rpPt i) tp mp) : RdS K mg W k (tDrop (tBM0 K "list" rClear tp)) (vClrT i mp x) := fun G hG B H σ e D S h => by
  unfold vClrT at h
  refine hp.run G hG B H σ e _ S (PoS.thenS h fun π e1 v B1 H1 S1 s1 r1 h1 => ?_)
  obtain ⟨s, d, v0, s', d', he, hσ, P⟩ := r1
  rw [he] at h1
  dsimp only at h1
  cases z : lstAt x π s d with
  | none => rw [z] at h1; exact h1.elim
  | some ds =>
    rw [z] at h1
    dsimp only at h1
    obtain ⟨z1, z2⟩ := lstAt_ok z
    have e1' := P.sh; rw [z1] at e1'; cases e1'
    have e2' := P.get; rw [z2] at e2'; cases e2'
    obtain ⟨v1, hv1, rr⟩ := S1.loseT he
    rw [hσ] at hv1; cases hv1
    obtain ⟨p, vs, rfl, hh, _⟩ := tr_kids (p := 0) (P.tr rr.1)
    have hi : i < e1.length := (List.getElem?_eq_some_iff.mp he).1
    obtain ⟨S3, r3⟩ := (S1.lose i).putT (ws := []) (es := []) (Fr := fun _ => False) rr P rfl (fun i w d g1 => by simp at g1) (fun i j v w c g1 => by simp at g1) fun c q => q.elim
    have S4 := S3.setT (i := i) (by rw [List.length_set]; exact hi) hσ r3
    rw [List.set_set] at S4
    exact ⟨.inl ⟨rfl, vs, .inl (.inl hh)⟩, p, vs, rfl, rfl, hh, h1 σ B1 _ S4 (Same.refl B1)⟩
/-- P[k] = e -/
theorem rs_setT {i : Nat} {tp t tx : TE} {mp : MP} {mx me : ME} (hp : RdX K mg W (rpPt i) tp mp) (hx : RdE K mg W tx mx) (ha : RdT K mg W x t me) : RdS K mg W k (tAsg t (gSub tp tx rSetL)) (vSetT i mp x mx me) := fun G hG B H σ e D S h => by
  unfold vSetT at h
  refine ha.run G hG B H σ e _ S (PoS.thenS h fun a e0 va B0 H0 S0 s0 r0 h0 => ?_)
  refine hp.run _ (W.reb G B0 H0 σ e0 hG S0) B0 H0 σ e0 _ S0.reb ?_
  cases y : mp e0 with
  | bot => rw [y] at h0; exact h0.elim
  | err x e2 => rw [y] at h0; exact fun c dd B2 H2 S2 s2 xr => h0 c dd _ B2 H2 (S0.unreb S2) s2 xr
  | ok π e1 =>
    rw [y] at h0
    intro v B1 H1 S1r s1 r1
    have S1 := S0.unreb S1r
    obtain ⟨ra1, _, _⟩ := hold S0 r0 S1r s1
    obtain ⟨s, d, v0, s', d', he, hσ, P⟩ := r1
    have h1 := PoS.base s1 h0
    dsimp only [Res.thenS] at h1
    rw [he] at h1
    dsimp only at h1
    cases z : lstAt x π s d with
    | none => rw [z] at h1; exact h1.elim
    | some ds =>
      rw [z] at h1
      dsimp only at h1
      obtain ⟨z1, z2⟩ := lstAt_ok z
      have e1' := P.sh; rw [z1] at e1'; cases e1'
      have e2' := P.get; rw [z2] at e2'; cases e2'
      refine hidden hx hG S1 he hσ (fun x e2 z => by rw [z] at h1; exact fun cls dd B' H' S' s xr => h1 cls dd σ B' H' S' s xr) (fun z => by rw [z] at h1; exact h1) fun kx e2 b B2 H2 z s2 rb S2 r2 S2r pf home => ?_
      rw [z] at h1
      dsimp only [Res.thenS] at h1
      obtain ⟨ra2, _, b2⟩ := hold (S1.lose i) (ra1.wide fun c q => q.of_lose) S2r s2
      have P2 := pf P
      obtain ⟨p2, vs2, e3, hh2, l2, c1, c2, c3, c4⟩ := tr_kids (p := 0) (P2.tr r2.1)
      cases e3
      have hi : i < e2.length := by
        have := S2.len
        have := (List.getElem?_eq_some_iff.mp hσ).1
        omega
      cases kx with
      | int n =>
        cases w : ixD ds.length n with
        | none => simp only [w] at h1; exact h1.elim
        | some j =>
          simp only [w] at h1
          cases rb
          have rp : Reach H2 s v0 p2 := P2.reach (.r0 rfl)
          obtain ⟨v1, hv1, rr⟩ := S1.loseT he
          rw [hσ] at hv1; cases hv1
          have nb : ∀ c, Reach H2 x va c → ¬ Reach H2 s v0 c := fun c q1 q2 => by
            have q1 := b2 c q1
            obtain ⟨_, _, b3⟩ := hold (S1.lose i) rr S2r s2
            exact (ra1.2 c q1).2.2 ⟨i, _, _, he, hσ, v0, rfl, b3 c q2⟩
          have hj : j < vs2.length := by
            unfold ixD at w
            split at w
            · split at w
              · cases w; omega
              · cases w
            · split at w
              · cases w; omega
              · cases w
          have hk : ∀ (i : Nat) (w : V) (d : VL.D), (vs2.set j va)[i]? = some w → (ds.set j a)[i]? = some d → Tr K B2 H2 x w d ∧ ¬ Reach H2 x w p2 ∧ ∀ c, Reach H2 x w c → Reach H2 (.l x) (.ref p2) c ∨ Reach H2 x va c := fun i w d g1 g2 => by
            by_cases q : j = i
            · subst q
              rw [List.getElem?_set_self hj] at g1
              rw [List.getElem?_set_self (by omega)] at g2
              cases g1; cases g2
              exact ⟨ra2.1, fun r => nb p2 r rp, fun c r => .inr r⟩
            · rw [List.getElem?_set_ne q] at g1 g2
              exact ⟨c1 i w d g1 g2, c2 i w g1, fun c r => .inl (c4 i w c g1 r)⟩
          have hd : ∀ (i l : Nat) (v w : V) (c : Addr), (vs2.set j va)[i]? = some v → (vs2.set j va)[l]? = some w → Reach H2 x v c → Reach H2 x w c → i = l := fun i l v w c g1 g2 q1 q2 => by
            by_cases n1 : j = i
            · subst n1
              rw [List.getElem?_set_self hj] at g1
              cases g1
              by_cases n2 : j = l
              · exact n2
              · rw [List.getElem?_set_ne n2] at g2
                exact (nb c q1 (P2.reach (c4 l w c g2 q2))).elim
            · rw [List.getElem?_set_ne n1] at g1
              by_cases n2 : j = l
              · subst n2
                rw [List.getElem?_set_self hj] at g2
                cases g2
                exact (nb c q2 (P2.reach (c4 i v c g1 q1))).elim
              · rw [List.getElem?_set_ne n2] at g2
                exact c3 i l v w c g1 g2 q1 q2
          obtain ⟨S3, r3⟩ := S2.putT (ws := vs2.set j va) (es := ds.set j a) (Fr := Reach H2 x va) r2 P2 (by simp [l2]) hk hd fun c q => ⟨nb c q, ra2.2 c q⟩
          exact ⟨p2, vs2, n, j, rfl, rfl, hh2, by rw [l2]; exact w, h1 σ B2 _ (S3.setT hi hσ r3) s2⟩
      | _ => exact h1.elim
end
end VL

/-! VL31: loops over a tree's lists, each one's own for its turn. -/
namespace VL
open PySem PySem.Spec PyProof.Rows L2
section
variable {K : PySem.W.Frag} {mg : Str → Option Value} {W : Am K} {k : RK} {G G1 G2 : Gr} {B B2 H H2 : Hp} {σ σ2 : L2.St} {e e2 : Env} {s s' x : Sh} {v v' : V} {d d' : D} {π : List Nat} {n : Nat} {p q : Addr}
theorem clrM_get {i : Nat} {s : Sl} (h : (clrM n e)[i]? = some s) : ∃ s0, e[i]? = some s0 ∧ s = clrMs n s0 := by
  unfold clrM at h
  rw [List.getElem?_map] at h
  cases z : e[i]? with
  | none => rw [z] at h; cases h
  | some s0 => rw [z] at h; cases h; exact ⟨s0, rfl, rfl⟩
theorem own_clrM {v : Option V} {s : Sl} {a : Addr} (h : OwnS H v (clrMs n s) a) : OwnS H v s a := by
  cases s with
  | tk m =>
    have h : OwnS H v (if m = n then .no else .tk m) a := h
    by_cases q : m = n
    · rw [if_pos q] at h; exact h
    · rw [if_neg q] at h; exact h
  | ow b ds => cases b with
    | p m =>
      have h : OwnS H v (if m = n then .no else .ow (.p m) ds) a := h
      by_cases q : m = n
      · rw [if_pos q] at h; exact h.elim
      · rw [if_neg q] at h; exact h
    | _ => exact h
  | _ => exact h
theorem Owned.clrM {a : Addr} (h : Owned H σ (clrM n e) a) : Owned H σ e a := by
  obtain ⟨j, s, v, h1, h2, h3⟩ := h
  obtain ⟨s0, h0, rfl⟩ := clrM_get h1
  exact ⟨j, s0, v, h0, h2, own_clrM h3⟩
/-- another token, another pin -/
theorem Sto.re (S : Sto K G1 B H σ e) (h1 : G1.H = G2.H) (h2 : G1.B = G2.B) (h3 : G1.io = G2.io) (h4 : ∀ m, m ≠ n → G1.tok m = G2.tok m) (h5 : ∀ m, m ≠ n → G1.pin m = G2.pin m) : Sto K G2 B H σ (clrM n e) where
  len := by unfold VL.clrM; rw [List.length_map]; exact S.len
  sl := fun i s h => by
    obtain ⟨s0, h0, rfl⟩ := clrM_get h
    obtain ⟨v, hv, ok⟩ := S.sl i s0 h0
    refine ⟨v, hv, ?_⟩
    cases ok with
    | no => exact .no
    | sh r => exact .sh r
    | @tk m =>
      show SlOk K G2 B H _ (if m = n then .no else .tk m)
      by_cases q : m = n
      · rw [if_pos q]; exact .no
      · rw [if_neg q, h4 m q]; exact .tk
    | @ow b p o ds a1 a2 a3 a4 a5 =>
      rw [h1] at a2
      cases b with
      | l => exact .ow a1 a2 a3 a4 (fun _ z => nomatch z)
      | d => exact .ow a1 a2 a3 a4 (fun _ z => nomatch z)
      | p m =>
        show SlOk K G2 B H _ (if m = n then .no else .ow (.p m) ds)
        by_cases q : m = n
        · rw [if_pos q]; exact .no
        · rw [if_neg q]
          exact .ow a1 a2 a3 a4 (fun m' z => by cases z; rw [← h5 m q]; exact a5 m rfl)
    | tr t f => exact .tr t fun a r => ⟨(f a r).1, by rw [← h1]; exact (f a r).2⟩
  dis := fun i j s t v w a g1 g2 g3 g4 g5 g6 => by
    obtain ⟨s0, q1, rfl⟩ := clrM_get g1
    obtain ⟨t0, q2, rfl⟩ := clrM_get g2
    exact S.dis i j s0 t0 v w a q1 q2 g3 g4 (own_clrM g5) (own_clrM g6)
  sub := S.sub
  b0 := by rw [← h2]; exact S.b0
  keep := fun a o g1 g2 => S.keep a o (by rw [h1]; exact g1) (by rw [h3]; exact g2)
  dom := fun a g => S.dom a (by rw [h1]; exact g)
  new := fun a g => by rw [← h1, ← h2]; exact S.new a g
  iom := fun a g => by rw [← h1]; exact S.iom a (by rw [h3]; exact g)
/-- the entry in a turn: the n-th token tells p, the n-th pin q -/
abbrev GTP (G : Gr) (n : Nat) (p q : Addr) : Gr := GP (GT G n p) n q
theorem Sto.toGTP (S : Sto K G B H σ e) : Sto K (GTP G n p q) B H σ (clrM n e) := S.re rfl rfl rfl (fun m h => (if_neg h).symm) fun m h => (if_neg h).symm
theorem Sto.ofGTP (S : Sto K (GTP G n p q) B H σ e) : Sto K G B H σ (clrM n e) := S.re rfl rfl rfl (fun m h => if_neg h) fun m h => if_neg h
theorem RetOk.clrM {r : V} {x : D} (h : RetOk K k (GTP G n p q) B H σ e r x) : RetOk K k G B H σ (clrM n e) r x := h.mv fun a _ h2 h3 => ⟨h2, fun w => h3 w.clrM⟩
theorem clrMs_idem {s : Sl} : clrMs n (clrMs n s) = clrMs n s := by
  cases s with
  | tk m =>
    show clrMs n (if m = n then .no else .tk m) = if m = n then .no else .tk m
    by_cases q : m = n
    · rw [if_pos q]; rfl
    · rw [if_neg q]; exact if_neg q
  | ow b ds => cases b with
    | p m =>
      show clrMs n (if m = n then .no else .ow (.p m) ds) = if m = n then .no else .ow (.p m) ds
      by_cases q : m = n
      · rw [if_pos q]; rfl
      · rw [if_neg q]; exact if_neg q
    | _ => rfl
  | _ => rfl
theorem clrM_idem : clrM n (clrM n e) = clrM n e := by
  unfold clrM
  rw [List.map_map]
  congr 1
  funext s
  exact clrMs_idem
theorem clrM_no {i : Nat} : clrM n (e.set i .no) = (clrM n e).set i .no := by unfold clrM; rw [List.map_set]; rfl
theorem clrM_len : (clrM n e).length = e.length := by unfold clrM; rw [List.length_map]
/-- a path, what lies below its end put otherwise -/
theorem Path.put {ρ : List Nat} {y : D} (P : Path H π s v d s' v' d') (t : Tr K B H s v d) (sub2 : Same B H2) (out : ∀ a, Reach H s v a → ¬ Reach H s' v' a → H2 a = H a) : Path H2 π s v (setP (π ++ ρ) d y) s' v' (setP ρ d' y) := by
  induction P with
  | nil => exact .nil
  | @cons π s s' x p v' w d d' kk o cs ds j h1 h2 h3 h4 h5 P ih =>
    cases t with
    | s _ => cases h2
    | nd e1 e2 e3 e4 e5 e6 e7 e8 =>
      rw [h1] at e1; cases e1
      rw [h2] at e3; cases e3
      rw [h3] at e4; cases e4
      have e9 : setP (j :: π ++ ρ) d y = d.setK j (setP (π ++ ρ) kk y) := by
        show (match d.kids[j]? with
          | some k => d.setK j (setP (π ++ ρ) k y)
          | none => d) = _
        rw [kidsD_kids h3, h5]
      rw [e9]
      have hl : j < ds.length := (List.getElem?_eq_some_iff.mp h5).1
      have hp : H2 p = some o := by
        cases z : s.own with
        | true => rw [out p (.r0 z) fun q => e7 z j x w h4 (P.reach q)]; exact h1
        | false => exact sub2 _ _ (e2 z)
      exact .cons hp h2 (kidsD_set h3) h4 (List.getElem?_set_self hl) (ih (e6 _ _ _ _ h4 h5) fun a q n => out a (.r1 h1 h2 (List.mem_iff_getElem?.mpr ⟨_, h4⟩) q) n)
theorem getP_snoc {c : Nat} : ∀ {π : List Nat} {d d' : D}, getP π d = some d' → getP (π ++ [c]) d = d'.kids[c]?
  | [], d, d', h => by
    cases h
    show (d.kids[c]?).bind (getP []) = d.kids[c]?
    cases d.kids[c]? <;> rfl
  | j :: π, d, d', h => by
    unfold getP at h
    show (d.kids[j]?).bind (getP (π ++ [c])) = _
    cases z : d.kids[j]? with
    | none => rw [z] at h; cases h
    | some y => rw [z] at h; exact getP_snoc (π := π) h
theorem Path.root {x : Sh} (P : Path H π s v d s' (.ref p) d') : ∃ root, v = .ref root := by
  cases P with
  | nil => exact ⟨_, rfl⟩
  | cons => exact ⟨_, rfl⟩
/-- a list of what is shared, as a tree -/
theorem Tr.flatL {ws : List V} {es : List D} (h : H q = some (.lst ws)) (r : Reps K B ws es) : Tr K B H (.l .s) (.ref q) (.lst es) ∧ ∀ a, Reach H (.l .s) (.ref q) a → a = q := by
  refine ⟨.nd (cs := ws.map fun v => (.s, v)) h (fun z => nomatch z) rfl (ds := es) rfl (by rw [List.length_map]; exact r.length) (fun i x v d h1 h2 => ?_) (fun _ i x v h1 h2 => ?_) (fun i j x y v w a h1 h2 h3 h4 => ?_), fun a w => ?_⟩
  · obtain ⟨rfl, g1⟩ := kids_l h1
    obtain ⟨v', e1, rv⟩ := r.get h2
    rw [g1] at e1
    cases e1
    exact .s rv
  · obtain ⟨rfl, h1⟩ := kids_l h1
    exact h2.s_no
  · obtain ⟨rfl, h1⟩ := kids_l h1
    exact h3.s_no.elim
  · cases w with
    | r0 _ => rfl
    | r1 w1 w2 w3 w4 =>
      rw [h] at w1
      cases w1
      cases w2
      obtain ⟨u, _, hu⟩ := List.mem_map.mp w3
      cases hu
      exact w4.s_no.elim
/-- what holds between the turns -/
structure MInv (K : PySem.W.Frag) (mg : Str → Option Value) (W : Am K) (k : RK) (G : Gr) (B1 : Hp) (D' : Ends) (n i j : Nat) (π : List Nat) (s : Sh) (b : MS) (v0 : V) (p : Addr) (vs : List V) (N c : Nat) (σ : L2.St) (H : Hp) (e : Env) (B : Hp) (d : D) (es : List D) : Prop where
  S : Sto K G B H σ e
  sB : Same B1 B
  at_ : σ[i]? = some (some v0)
  lj : j < e.length
  cl : clrM n e = e
  r : rpT K s G B H σ e v0 d
  P : Path H π s v0 d (.l (.l .s)) (.ref p) (.lst es)
  len : es.length = N
  hp : H p = some (.lst vs)
  po : PoS K mg W k G B1 D' (forM n i j π s b (N - c) c d e)
theorem rs_forM {n i j : Nat} {tp : TE} {mp : MP} {t : TS} {b : MS} (hn : n ≠ 0) (hij : i ≠ j) (hp : RdX K mg W (rpPt i) tp mp) (hb : RdS K mg W k t b) : RdS K mg W k (tFor (iSeq K tp) (gName j) t) (vForM n i j mp b) := fun G hG B H σ e D' S h => by
  unfold vForM at h
  refine hp.run G hG B H σ e _ S (PoS.thenS h fun π e1 v B1 H1 S1 s1 r1 h1 => ?_)
  obtain ⟨s, d, v0, s', d', he, hσ, P⟩ := r1
  rw [he] at h1
  dsimp only at h1
  cases z : lstAt (.l .s) π s d with
  | none => rw [z] at h1; exact h1.elim
  | some ds =>
    rw [z] at h1
    dsimp only at h1
    obtain ⟨z1, z2⟩ := lstAt_ok z
    have e1' := P.sh; rw [z1] at e1'; cases e1'
    have e2' := P.get; rw [z2] at e2'; cases e2'
    obtain ⟨v1, hv1, rr⟩ := S1.loseT he
    rw [hσ] at hv1; cases hv1
    obtain ⟨p, vs, rfl, hh, l2, _⟩ := tr_kids (p := 0) (P.tr rr.1)
    by_cases hj : j < e1.length
    · rw [if_pos hj] at h1
      have S1' : Sto K G B1 H1 σ (clrM n (e1.set i .no)) := (S1.lose i).re rfl rfl rfl (fun _ _ => rfl) fun _ _ => rfl
      refine .inl ⟨p, rfl, ⟨vs, SqL.of hh⟩, ?_⟩
      refine ⟨fun c m σ' H' => m = ds.length - c ∧ ∃ e' B' d' es', MInv K mg W k G B1 D' n i j π s b v0 p vs ds.length c σ' H' e' B' d' es',
        ⟨_, rfl, _, B1, d, ds, ⟨S1', Same.refl B1, hσ, by rw [clrM_len, List.length_set]; exact hj, clrM_idem, rr.wide fun a w => w.clrM, P, rfl, hh, h1⟩⟩, ?_⟩
      rintro c m σ2 H2 ⟨rfl, e2, B2, d2, es2, I⟩
      obtain ⟨S2, sB2, at2, lj2, cl2, r2, P2, len2, hp2, po2⟩ := I
      have hi : i < e2.length := by
        have := S2.len
        have := (List.getElem?_eq_some_iff.mp at2).1
        omega
      by_cases hc : c < ds.length
      · have em : ds.length - c = (ds.length - (c + 1)) + 1 := by omega
        rw [em] at po2
        unfold forM at po2
        have hl : c < es2.length := by omega
        have ec : getP (π ++ [c]) d2 = some es2[c] := (getP_snoc P2.get).trans (List.getElem?_eq_getElem hl)
        rw [ec] at po2
        generalize hy : es2[c] = y at po2
        have hy2 : es2[c]? = some y := by rw [List.getElem?_eq_getElem hl, hy]
        cases y with
        | lst es =>
          dsimp only at po2
          obtain ⟨p', vs', e3, hh3, l3, c1, c2, c3, c4⟩ := tr_kids (p := 0) (P2.tr r2.1)
          cases e3
          rw [hp2] at hh3
          cases hh3
          have hv : vs[c]? = some vs[c] := List.getElem?_eq_getElem (by omega)
          have Pk : Path H2 (π ++ [c]) s v0 d2 (.l .s) vs[c] (.lst es) := P2.snoc hp2 rfl rfl (by rw [List.getElem?_map, hv]; rfl) hy2
          obtain ⟨q, ws, eq, hq, lq, cq, _⟩ := tr_kids (p := 0) (Pk.tr r2.1)
          rw [eq] at hv Pk
          obtain ⟨root, rfl⟩ := P2.root (x := .s)
          have rq : Reach H2 s (.ref root) q := Pk.reach (.r0 rfl)
          have rp : Reach H2 s (.ref root) p := P2.reach (.r0 rfl)
          have npq : p ≠ q := fun z => c2 c _ hv (z ▸ .r0 rfl)
          refine .inr ⟨⟨vs, .ref q, SqL.of hp2, hv⟩, fun σ' H' => ∃ e' B' d' es', MInv K mg W k G B1 D' n i j π s b (.ref root) p vs ds.length (c + 1) σ' H' e' B' d' es', fun σ' H' ⟨e', B', d', es', q⟩ => ⟨ds.length - (c + 1), by omega, rfl, e', B', d', es', q⟩, fun xv H3 hy3 => ?_⟩
          obtain ⟨eH, hx⟩ := hy3
          subst eH
          have ex := hx vs (SqL.of hp2)
          rw [hv] at ex
          cases ex
          show t _ (σ2.set j (some (.ref q))) _
          generalize hσ3 : σ2.set j (some (V.ref q)) = σ3
          have len3 : σ2.length = e2.length := S2.len
          have σj : σ3[j]? = some (some (.ref q)) := by rw [← hσ3]; exact List.getElem?_set_self (by omega)
          have σi : σ3[i]? = some (some (.ref root)) := by rw [← hσ3, List.getElem?_set_ne (Ne.symm hij)]; exact at2
          have S3 : Sto K G B2 H3 σ3 (e2.set j .no) := by rw [← hσ3]; exact S2.drop j (some (.ref q))
          have r3 : rpT K s G B2 H3 σ3 (e2.set j .no) (.ref root) d2 := r2.wide fun a w => by rw [← hσ3] at w; exact w.drop
          have S4 : Sto K (GTP G n root q) B2 H3 σ3 (e2.set j .no) := by
            have w := S3.toGTP (n := n) (p := root) (q := q)
            rw [clrM_no, cl2] at w
            exact w
          have rps : Reps K B2 ws es := reps_of lq fun i v d g1 g2 => by
            have w := cq i v d g1 g2
            cases w with
            | s r => exact r
            | nd _ _ w => cases w
          have S5 : Sto K (GTP G n root q) B2 H3 σ3 (e2.set j (.ow (.p n) es)) := by
            have w := S4.swap (i := j) (s := .ow (.p n) es) (v := .ref q) (by rw [List.length_set]; exact lj2) σj (.ow (r3.2 q rq).1 (r3.2 q rq).2.1 hq (.pin rps) fun m z => by cases z; exact (if_pos rfl).symm) fun a h => by
              have h : some (V.ref q) = some (V.ref a) := h
              cases h
              rw [List.set_set]
              exact (r3.2 q rq).2.2
            rw [List.set_set] at w
            exact w
          have S6 : Sto K (VL.reb (GTP G n root q) B2 H3 σ3 (e2.set j (.ow (.p n) es))) B2 H3 σ3 ((e2.set j (.ow (.p n) es)).set i (.tk n)) := by
            refine S5.reb.swap (i := i) (v := .ref root) (by rw [List.length_set]; exact hi) σi ?_ fun a h => h.elim
            have e1 : (VL.reb (GTP G n root q) B2 H3 σ3 (e2.set j (.ow (.p n) es))).tok n = root := if_pos rfl
            exact Eq.subst (motive := fun z => SlOk K (VL.reb (GTP G n root q) B2 H3 σ3 (e2.set j (.ow (.p n) es))) B2 H3 (some (.ref z)) (.tk n)) e1 .tk
          have hG6 := W.reb _ B2 H3 σ3 _ (W.gpn _ n q (W.gtk G n root hn hG)) S5
          have noO : ∀ a, Reach H3 s (.ref root) a → a ≠ q → ¬ Owned H3 σ3 (e2.set j (.ow (.p n) es)) a := fun a ra ne ⟨l, x, w, g1, g2, g3⟩ => by
            by_cases y : j = l
            · subst y
              rw [List.getElem?_set_self lj2] at g1
              cases g1
              rw [σj] at g2
              cases g2
              have g3 : some (V.ref q) = some (V.ref a) := g3
              cases g3
              exact ne rfl
            · rw [List.getElem?_set_ne y] at g1
              exact (r3.2 a ra).2.2 ⟨l, x, w, by rw [List.getElem?_set_ne y]; exact g1, g2, g3⟩
          refine hb _ hG6 B2 H3 σ3 _ _ S6 ?_
          -- the turn's end
          have done : ∀ {e4 : Env} {σ4 : L2.St} {B4 H4 : Hp}, Sto K (VL.reb (GTP G n root q) B2 H3 σ3 (e2.set j (.ow (.p n) es))) B4 H4 σ4 e4 → Same B2 B4 →
              PoS K mg W k G B1 D' (match e4[i]?, e4[j]? with
                | some (.tk a), some (.ow (.p c') es') => if a = n ∧ c' = n then forM n i j π s b (ds.length - (c + 1)) (c + 1) (setP (π ++ [c]) d2 (.lst es')) (clrM n e4) else .bot
                | _, _ => .bot) → ∃ e' B' d' es', MInv K mg W k G B1 D' n i j π s b (.ref root) p vs ds.length (c + 1) σ4 H4 e' B' d' es' := fun {e4 σ4 B4 H4} S' s4 h4 => by
            split at h4
            · rename_i a c' es4 g1 g2
              by_cases w : a = n ∧ c' = n
              · rw [if_pos w] at h4
                rw [w.1] at g1
                rw [w.2] at g2
                obtain ⟨u1, hu1, ok1⟩ := S'.sl i _ g1
                have e1 := ok1.tkI
                have et : (VL.reb (GTP G n root q) B2 H3 σ3 (e2.set j (.ow (.p n) es))).tok n = root := if_pos rfl
                rw [et] at e1
                subst e1
                obtain ⟨u2, hu2, ok2⟩ := S'.sl j _ g2
                cases ok2 with
                | @ow _ q2 o _ b1 b2 b3 b4 b5 =>
                  have eq2 : q2 = q := (b5 n rfl).trans (if_pos rfl)
                  subst eq2
                  cases b4 with
                  | @pin _ ws4 _ r4 =>
                    have SV := (S5.unreb S').ofGTP
                    have kp : ∀ a, Reach H3 s (.ref root) a → a ≠ q2 → H4 a = H3 a := fun a' ra ne => by
                      cases y : H3 a' with
                      | none => exact absurd y (r2.1.live ra)
                      | some o => exact S'.keep a' o ((reb_no (noO a' ra ne)).trans y) fun io => S3.iom a' io (r3.2 a' ra).2.1
                    obtain ⟨t4, n4⟩ := Tr.flatL b3 r4
                    obtain ⟨t5, n5⟩ := Tr.put (d'' := .lst es4) (Fr := fun _ => False) Pk r2.1 S2.sub s4 S'.sub (fun a' ra nk => kp a' ra fun y => nk (y ▸ .r0 rfl)) t4 (fun a' w => .inl ((n4 a' w) ▸ .r0 rfl)) fun a' w => w.elim
                    have P5 := Path.put (ρ := [c]) (y := .lst es4) P2 r2.1 (s4.trans S'.sub) fun a' ra nk => kp a' ra fun y => nk (by rw [y]; exact c4 c _ q2 hv (.r0 rfl))
                    have e5 : setP [c] (.lst es2) (.lst es4) = .lst (es2.set c (.lst es4)) := by
                      show (match es2[c]? with
                        | some k => VL.D.lst (es2.set c (.lst es4))
                        | none => .lst es2) = _
                      rw [hy2]
                    rw [e5] at P5
                    refine ⟨clrM n e4, B4, setP (π ++ [c]) d2 (.lst es4), es2.set c (.lst es4), SV, sB2.trans s4, hu1, by rw [clrM_len]; exact (List.getElem?_eq_some_iff.mp g2).1, clrM_idem, ⟨t5, fun a' w => ?_⟩, P5, by rw [List.length_set]; exact len2, (kp p rp npq).trans hp2, h4⟩
                    rcases n5 a' w with ra | y
                    · refine ⟨?_, (r3.2 a' ra).2.1, fun w4 => ?_⟩
                      · by_cases ne : a' = q2
                        · rw [ne]; exact b1
                        · cases y : B4 a' with
                          | none => rfl
                          | some o =>
                            rcases S'.new a' (by rw [y]; simp) with u | u
                            · exact absurd (r3.2 a' ra).1 u
                            · rw [reb_no (noO a' ra ne)] at u
                              exact absurd u (r2.1.live ra)
                      · by_cases ne : a' = q2
                        · subst ne
                          obtain ⟨l, x, w5, f1, f2, f3⟩ := w4
                          obtain ⟨x0, f4, rfl⟩ := clrM_get f1
                          have el := S'.dis l j x0 _ w5 _ a' f4 g2 f2 hu2 (own_clrM f3) rfl
                          subst el
                          rw [g2] at f4
                          cases f4
                          have f3 : OwnS H4 w5 (if n = n then .no else .ow (.p n) es4) a' := f3
                          rw [if_pos rfl] at f3
                          exact f3
                        · have u := (S'.apart w4.clrM).2.1
                          rw [reb_no (noO a' ra ne)] at u
                          exact r2.1.live ra u
                    · exact y.elim
              · rw [if_neg w] at h4; exact h4.elim
            · exact h4.elim
          cases y : b ((e2.set j (.ow (.p n) es)).set i (.tk n)) with
          | nx e4 => rw [y] at po2; exact fun σ' B' H' S' s' => done S' s' po2
          | ct e4 => rw [y] at po2; exact fun σ' B' H' S' s' => done S' s' po2
          | bk e4 => rw [y] at po2; exact po2.elim
          | rt r e4 => rw [y] at po2; exact fun v σ' B' H' S' s' ro => po2 v σ' B' H' (S5.unreb S').ofGTP (sB2.trans s') (RetOk.unreb S5 ro).clrM
          | err x e4 => rw [y] at po2; exact fun cc dd σ' B' H' S' s' xr => po2 cc dd σ' B' H' (S5.unreb S').ofGTP (sB2.trans s') xr
          | bot => rw [y] at po2; exact po2.elim
        | _ => exact po2.elim
      · have em : ds.length - c = 0 := by omega
        rw [em] at po2
        have hlen : vs.length = ds.length := l2
        exact .inl ⟨⟨vs, SqL.of hp2, by omega⟩, (PoS.base sB2 po2).nx (S2.setT hi at2 r2)⟩
    · rw [if_neg hj] at h1; exact h1.elim
end
end VL

/-! VL32: own trees by names; a new list handed in to be changed. -/
namespace VL
open PySem PySem.Spec PyProof.Rows L2
section
variable {K : PySem.W.Frag} {mg : Str → Option Value} {W : Am K} {k : RK} {G : Gr} {B B2 H H2 : Hp} {σ σ2 : L2.St} {e e2 : Env} {s : Sh} {v : V} {d : D}
/-! looking while a tree is told -/
theorem flats_get {ds : List D} (h : D.flats ds = true) {i : Nat} {d : D} (g : ds[i]? = some d) : d.flat = true := by
  induction ds generalizing i with
  | nil => simp at g
  | cons y es ih =>
    unfold D.flats at h
    rw [Bool.and_eq_true] at h
    cases i with
    | zero => cases g; exact h.1
    | succ i => exact ih h.2 (by simpa using g)
theorem tupsOf_tup {B B' : Hp} {p : Addr} {vs : List V} (sB : Same B B') (h : B' p = some (.tup vs)) : tupsOf B B' p = some (.tup vs) := by
  unfold tupsOf
  cases z : B p with
  | some o =>
    have q := sB _ _ z
    rw [h] at q
    exact q.symm
  | none => rw [h]
/-- shared leaves that are flat -/
inductive LfF : Sh → D → Prop
  | s {d : D} : d.flat = true → LfF .s d
  | l {x : Sh} {ds : List D} : (∀ d ∈ ds, LfF x d) → LfF (.l x) (.lst ds)
  | t {xs : List Sh} {ds : List D} : (∀ (i : Nat) (x : Sh) (d : D), xs[i]? = some x → ds[i]? = some d → LfF x d) → LfF (.t xs) (.tup ds)
theorem LfF.ls {ds : List D} (h : D.flats ds = true) : LfF (.l .s) (.lst ds) := .l fun d hd => by
  obtain ⟨i, hi⟩ := List.mem_iff_getElem?.mp hd
  exact .s (flats_get h hi)
theorem LfF.lls {ds : List D} (h : (ds.all fun d => match d with
    | .lst es => D.flats es
    | _ => false) = true) : LfF (.l (.l .s)) (.lst ds) := .l fun d hd => by
  have q := List.all_eq_true.mp h d hd
  cases d with
  | lst es => exact .ls q
  | _ => cases q
theorem flatAt_ok (h : flatAt s d = true) : LfF s d := by
  unfold flatAt at h
  split at h
  · exact .s h
  · exact .ls h
  · exact .lls h
  · rw [Bool.and_eq_true] at h
    refine .t fun i x d h1 h2 => ?_
    match i with
    | 0 => cases h1; cases h2; exact .lls h.1
    | 1 => cases h1; cases h2; exact .ls h.2
    | i + 2 => simp at h1
  · cases h
theorem Tr.tups {B' H' : Hp} (sB : Same B B') (t : Tr K B' H' s v d) (f : LfF s d) : Tr K (tupsOf B B') H' s v d := by
  induction t with
  | s r => cases f with
    | s f => exact .s (Rep.flat (tupsOf_tups (B0 := B) sB) f r)
  | @nd s p o cs d ds e1 e2 e3 e4 e5 e6 e7 e8 ih =>
    refine .nd e1 (fun z => ?_) e3 e4 e5 (fun i x v d h1 h2 => ih i x v d h1 h2 ?_) e7 e8
    · obtain ⟨vs, rfl⟩ := nd_tup z e3
      exact tupsOf_tup sB (e2 z)
    · cases f with
      | s _ => cases e3
      | @l x' ds' f =>
        cases o with
        | lst vs =>
          cases e3; cases e4
          obtain ⟨rfl, _⟩ := kids_l h1
          exact f d (List.mem_iff_getElem?.mpr ⟨i, h2⟩)
        | _ => cases e3
      | @t xs ds' f =>
        cases o with
        | tup vs =>
          have e3' : (if xs.length = vs.length then some (xs.zip vs) else none) = some cs := e3
          split at e3'
          · cases e3'; cases e4
            exact f i x d (List.getElem?_zip_eq_some.mp h1).1 h2
          · cases e3'
        | _ => cases e3
theorem rt_bor {t : TE} {m : ME} (h : RdTf K mg W s t m) : RdTf K mg W s t (vBorX s m) where
  run := fun G hG B H σ e Q S q => by
    refine h.run ⟨H, VL.full B H σ e, [], G.tok, G.pin⟩ (W.full G B H σ e hG S) (VL.full B H σ e) H σ (frz e) Q S.full ?_
    unfold vBorX at q
    cases z : m (frz e) with
    | ok d e' =>
      rw [z] at q
      by_cases f : (d.flat || flatAt s d) = true
      · simp only [f, if_true] at q
        intro v B' H' S' s' r'
        refine q v (tupsOf B B') H' (S.back S') tupsOf_same ?_
        unfold RetOk at r' ⊢
        dsimp only at r' ⊢
        by_cases hf : d.flat = true
        · rw [if_pos hf] at r' ⊢
          exact Rep.flat (tupsOf_tups (B0 := B) (full_same.trans s')) hf r'
        · rw [if_neg hf] at r' ⊢
          have f : flatAt s d = true := by simpa [hf] using f
          refine ⟨r'.1.tups (full_same.trans s') (flatAt_ok f), fun a ra => ?_⟩
          obtain ⟨n1, n2, n3⟩ := r'.2 a ra
          have n2 : H a = none := n2
          refine ⟨?_, S.fresh n2, S.back_no S' n2⟩
          cases w : tupsOf B B' a with
          | none => rfl
          | some o =>
            rcases tupsOf_some w with q1 | ⟨_, q1, _⟩
            · have q2 := S'.b0 _ _ (full_same _ _ q1); rw [n1] at q2; cases q2
            · rw [n1] at q1; cases q1
      · simp only [f] at q
        exact q.elim
    | err x e' =>
      rw [z] at q
      exact fun c d B' H' S' s' r' => q c d (tupsOf B B') H' (S.back S') tupsOf_same (r'.tups (full_same.trans s'))
    | bot => rw [z] at q; exact q
/-- a tree handed out -/
theorem rd_ofT {t : TE} {m : ME} (h : RdTf K mg W s t m) : RdE K mg W t m where
  run := fun G hG B H σ e Q S q => h.run G hG B H σ e Q S (by
    cases z : m e with
    | bot => rw [z] at q; exact q
    | err x e1 => rw [z] at q; exact q
    | ok d e1 =>
      rw [z] at q
      intro v B1 H1 S1 s1 r
      unfold RetOk at r
      dsimp only at r
      by_cases hf : d.flat = true
      · rw [if_pos hf] at r; exact q v B1 H1 S1 s1 r
      · rw [if_neg hf] at r
        have f : ∀ a, Reach H1 s v a → B1 a = none ∧ G.H a = none := fun a w => ⟨(r.2 a w).1, (r.2 a w).2.1⟩
        exact q v (withH B1 H1 (Reach H1 s v)) H1 (S1.takes f fun a w => (r.2 a w).2.2) (s1.trans withH_same) (r.1.rep withH_same fun a w => withH_at (f a w).1 w))
/-! a new list handed in to be changed -/
theorem Sto.callP {p : Addr} {B' H' : Hp} (S : Sto K G B H σ e) (no : ¬ Owned H σ e p) (gp : G.H p = none) (hp : H' p ≠ none) (h1 : ∀ a o, a ≠ p → H a = some o → H' a = some o) (h2 : Same B B') (h3 : Same B' H') (h4 : News' B H B') : Sto K G B' H' σ e := by
  have ne : ∀ {a}, Owned H σ e a → a ≠ p := fun q z => no (z ▸ q)
  refine S.mv' h2 h3 (fun a q => ?_) (fun a q => ?_) (fun a o q1 q2 => ?_) (fun a q => ?_) fun a q => ?_
  · cases z : H a with
    | none => exact absurd z (S.apart q).2.2
    | some o => exact h1 _ _ (ne q) z
  · cases z : B' a with
    | none => rfl
    | some o =>
      rcases h4 a (by rw [z]; simp) with w | w
      · exact absurd (S.apart q).1 w
      · exact absurd w (S.apart q).2.2
  · exact h1 _ _ (fun z => by rw [z, gp] at q1; cases q1) (S.keep a o q1 q2)
  · by_cases z : a = p
    · rw [z]; exact hp
    · cases w : H a with
      | none => exact absurd w (S.dom a q)
      | some o => rw [h1 _ _ z w]; simp
  · rcases h4 a q with w | w
    · exact S.new a w
    · exact .inr (S.fresh w)
theorem rd_callT {fn : FI} {ta : TE} {t : TA} {a m : MA} (ha : RdF K mg W ta a) (hm : RdA K mg W t m) : RdE K mg W (tCallS (spVI K mg 0 fn) (WE W.w) (tCons ta t)) (vCallT fn a m) where
  run := fun G hG B H σ e Q S q => by
    unfold vCallT at q
    refine ha.run G hG B H σ e _ S (Po.bind q fun es e1 x B1 H1 S1 s1 r1 h1 => ?_)
    obtain ⟨p, ws, rfl, hp, hb, hg, no, r⟩ := r1
    obtain ⟨tt, tn⟩ := Tr.flatL hp r
    have rt : rpT K (.l .s) G B1 H1 σ e1 (.ref p) (.lst es) := ⟨tt, fun a ra => by rw [tn a ra]; exact ⟨hb, hg, no⟩⟩
    refine hm.run _ (W.reb G B1 H1 σ e1 hG S1) B1 H1 σ e1 _ S1.reb ?_
    cases z : m e1 with
    | bot => rw [z] at h1; exact h1.elim
    | err y e2 => rw [z] at h1; exact fun c dd B2 H2 S2 s2 xr => h1 c dd B2 H2 (S1.unreb S2) s2 xr
    | ok ds e2 =>
      rw [z] at h1
      intro us B2 H2 S2r s2 r2
      obtain ⟨⟨t2, n2⟩, _, _⟩ := hold S1 rt S2r s2
      obtain ⟨b2, g2, o2⟩ := n2 p (.r0 rfl)
      obtain ⟨p', ws2, e3, hp2, l2, c2, _⟩ := tr_kids (p := 0) t2
      cases e3
      have rr : Reps K B2 ws2 es := reps_of l2 fun i v d g1 g2 => by
        have w := c2 i v d g1 g2
        cases w with
        | s r => exact r
        | nd _ _ w => cases w
      have S2 := S1.unreb S2r
      refine ⟨B2, p, ws2, us, ds, es, rfl, S2.sub, b2, hp2, rr, r2, ?_⟩
      have h2 := Po.base s2 h1
      dsimp only [Res.bind] at h2
      cases u : fn ds es with
      | ok d es' => rw [u] at h2; exact fun v B' H' ls' a1 a2 a3 a4 a5 a6 a7 r => h2 v B' H' (S2.callP o2 g2 (by rw [a5]; simp) a1 a2 a3 a4) a2 r
      | err x es' => rw [u] at h2; exact fun c dd B' H' ls' a1 a2 a3 a4 a5 a6 a7 r => h2 c dd B' H' (S2.callP o2 g2 (by rw [a5]; simp) a1 a2 a3 a4) a2 r
      | bot => rw [u] at h2; exact h2
/-! lists handed in, and a turn's list: append, item store -/
theorem PoS.slotP {D' : Ends} {i : Nat} {f : Nat → List VL.D → RS} (h : PoS K mg W k G B D' (match e[i]? with
  | some (.ow (.p n) ds) => f n ds
  | _ => .bot)) : ∃ n ds, e[i]? = some (.ow (.p n) ds) ∧ PoS K mg W k G B D' (f n ds) := by
  cases z : e[i]? with
  | none => rw [z] at h; exact h.elim
  | some s =>
    rw [z] at h
    cases s with
    | ow b ds => cases b with
      | p n => exact ⟨n, ds, rfl, h⟩
      | _ => exact h.elim
    | _ => exact h.elim
theorem rs_appI {i : Nat} {t : TE} {m : ME} (ha : RdE K mg W t m) : RdS K mg W k (tDrop (tBM K "list" rAppend (tVar i) (tCons t tNil))) (vAppI i m) := fun G hG B H σ e D S h => by
  unfold vAppI at h
  obtain ⟨n, ds, z, h⟩ := PoS.slotP (f := fun n ds => _) h
  obtain ⟨p, vs, hv, hh, hr, mk⟩ := S.owL rfl z
  refine ⟨_, hv, .inl ⟨rfl, vs, .inl (.inl hh)⟩, ha.run G hG B H σ e _ S (PoS.thenS h fun d e1 v B1 H1 S1 s1 r1 h1 => ?_)⟩
  obtain ⟨n1, ds1, z1, h1⟩ := PoS.slotP h1
  obtain ⟨p1, vs1, hv1, hh1, hr1, mk1⟩ := S1.owL rfl z1
  rw [hv] at hv1
  cases hv1
  by_cases hl : ds1.length < vmax
  · rw [if_pos hl] at h1
    exact ⟨p, vs1, v, rfl, rfl, hh1, by rw [hr1.length]; exact Nat.lt_of_lt_of_le hl vok, h1.nx (S1.write z1 hv (mk1 _ _ (hr1.append (.cons r1 .nil))))⟩
  · rw [if_neg hl] at h1; exact h1.elim
theorem rs_setI {i : Nat} {t tx : TE} {m mx : ME} (ha : RdE K mg W t m) (hx : RdE K mg W tx mx) : RdS K mg W k (tAsg t (gSub (tVar i) tx rSetL)) (vSetI i mx m) := fun G hG B H σ e D S h =>
  ha.run G hG B H σ e _ S (PoS.thenS h fun d e1 v B1 H1 S1 s1 r1 h1 => by
    obtain ⟨n, ds, z, h1⟩ := PoS.slotP (f := fun n ds => _) h1
    obtain ⟨p, vs, hv, hh, hr, mk⟩ := S1.owL rfl z
    refine ⟨_, hv, hx.run G hG B1 H1 σ e1 _ S1 (PoS.thenS h1 fun x e2 vx B2 H2 S2 s2 r2 h2 => ?_)⟩
    obtain ⟨n1, ds1, z1, h2⟩ := PoS.slotP h2
    obtain ⟨p1, vs1, hv1, hh1, hr1, mk1⟩ := S2.owL rfl z1
    rw [hv] at hv1
    cases hv1
    cases x with
    | int n =>
      cases w : ixD ds1.length n with
      | none => simp only [w] at h2; exact h2.elim
      | some j =>
        simp only [w] at h2
        cases r2
        exact ⟨p, vs1, n, j, rfl, rfl, hh1, by rw [hr1.length]; exact w, h2.nx (S2.write z1 hv (mk1 _ _ (hr1.set j (r1.mono s2))))⟩
    | _ => exact h2.elim)
end
/-! ### by names -/
section
variable {ι : Type} {K : PySem.W.Frag} {mg : Str → Option Value} {X : ι → Cx} {W : Am K} {P : Program} {w : World} {base : Heap} {pos : Pos} {a e it tg : Expr} {es : List Expr} {m ma : ME} {ms : MA} {s x : Sh} {xs : List Sh} {i j k : Nat} {ps : List Str} {fn : List D → FR} {y z : Str} {p p2 : Pos}
def VTr (K : PySem.W.Frag) (mg : Str → Option Value) (X : ι → Cx) (W : Am K) (s : Sh) (e : Expr) (m : ME) : Prop := ∃ t, (∀ i, PE (X i) e t) ∧ RdT K mg W s t m
def VTf (K : PySem.W.Frag) (mg : Str → Option Value) (X : ι → Cx) (W : Am K) (s : Sh) (e : Expr) (m : ME) : Prop := ∃ t, (∀ i, PE (X i) e t) ∧ RdTf K mg W s t m
def VTas (K : PySem.W.Frag) (mg : Str → Option Value) (X : ι → Cx) (W : Am K) (xs : List Sh) (es : List Expr) (m : MA) : Prop := ∃ t, (∀ i, PA (X i) es t) ∧ RdX K mg W (rpTs K xs) t m
/-- paths into the tree of slot i -/
def VPt (K : PySem.W.Frag) (mg : Str → Option Value) (X : ι → Cx) (W : Am K) (i : Nat) (e : Expr) (m : MP) : Prop := ∃ t, (∀ i, PE (X i) e t) ∧ RdX K mg W (rpPt i) t m
theorem vtr_sh (h : VE K mg X W e m) : VTr K mg X W .s e m := let ⟨_, p, r⟩ := h; ⟨_, p, rt_sh r⟩
theorem vtr_F (h : VF K mg X W e ms) : VTr K mg X W (.l .s) e (vOf ms) := let ⟨_, p, r⟩ := h; ⟨_, p, rt_F r⟩
theorem vtf_of (h : VTr K mg X W s e m) : VTf K mg X W s e m := let ⟨_, p, r⟩ := h; ⟨_, p, rt_f r⟩
theorem vtf_flat (h : VE K mg X W e m) : VTf K mg X W s e (vFl m) := let ⟨_, p, r⟩ := h; ⟨_, p, rt_flat r⟩
theorem vtf_bor (h : VTf K mg X W s e m) : VTf K mg X W s e (vBorX s m) := let ⟨_, p, r⟩ := h; ⟨_, p, rt_bor r⟩
theorem ve_ofT (h : VTf K mg X W s e m) : VE K mg X W e m := let ⟨_, p, r⟩ := h; ⟨_, p, rd_ofT r⟩
theorem vtr_own (i : Nat) (hN : ∀ j, (X j).N[i]? = some y := by intro _; rfl) (hv : ∀ j, Vis (X j).env.scope y := by intro _; first | exact Or.inl rfl | exact Or.inr (Or.inl rfl) | exact Or.inr (Or.inr rfl)) (hd : (y == ("__debug__" : Str)) = false := by decide)
    (hcd : (y == ("__classdict__" : Str)) = false := by decide) : VTr K mg X W s (.Name y pos) (vOwnT i s) := ⟨_, fun i => pe_var (hN i) (hv i) hd hcd, rt_own i⟩
theorem vtf_own (i : Nat) (hN : ∀ j, (X j).N[i]? = some y := by intro _; rfl) (hv : ∀ j, Vis (X j).env.scope y := by intro _; first | exact Or.inl rfl | exact Or.inr (Or.inl rfl) | exact Or.inr (Or.inr rfl)) (hd : (y == ("__debug__" : Str)) = false := by decide)
    (hcd : (y == ("__classdict__" : Str)) = false := by decide) : VTf K mg X W s (.Name y pos) (vOwnTf i s) := ⟨_, fun i => pe_var (hN i) (hv i) hd hcd, rt_ownf i⟩
theorem vtas_nil : VTas K mg X W [] [] vNil := ⟨_, fun _ => pa_nil, rts_nil⟩
theorem vtas_cons (ha : VTr K mg X W x e m) (hr : VTas K mg X W xs es ms) (hs : ∀ j, starEach (e :: es) (X j).env = (false, eval e (X j).env) :: starEach es (X j).env := by intro _; rfl) : VTas K mg X W (x :: xs) (e :: es) (vCons m ms) :=
  let ⟨_, p, r⟩ := ha; let ⟨_, p', r'⟩ := hr; ⟨_, fun i => pa_cons (p i) (p' i) (hs i), rts_cons r r'⟩
theorem vtr_tup {x1} (h : VTas K mg X W xs es ms) : VTr K mg X W (.t xs) (.Tuple es x1 pos) (vTupD ms) := let ⟨_, p, r⟩ := h; ⟨_, fun i => pe_tup (p i), rt_tup r⟩
theorem vtr_lst (hx : ∀ z ∈ xs, z = x) (h : VTas K mg X W xs es ms) : VTr K mg X W (.l x) (.List es pos) (vOf (vLstD ms)) := let ⟨_, p, r⟩ := h; ⟨_, fun i => pe_lst (p i), rt_lst hx r⟩
theorem vtf_cal (o : Ok1 P w K mg y ps j (spT K mg s fn)) (hr : ∀ i, Room k (X i).A) (tk : ∀ i, Takes (X i) W.w) (ha : VA K mg X W (e :: es) ms) (hX : IsX X P w K mg base := by intro _; exact ⟨rfl, rfl, rfl, rfl, rfl⟩) (hj : j ≤ k := by decide) (hg : ∀ i, Gl (X i) y := by intro _; rfl) (hdb : (y == ("__debug__" : Str)) = false := by decide)
    (he : ∀ i, starEach (e :: es) (X i).env = (false, eval e (X i).env) :: starEach es (X i).env := by intro _; rfl) (hpl : ∀ i, (backTo pos (starEach es (X i).env)).any (·.1) = false := by intro _; rfl) : VTf K mg X W s (.Call (.Name y p) (e :: es) [] pos) (vCall fn ms) :=
  let ⟨_, _, g, kp, b, F⟩ := o; let ⟨_, p, r⟩ := ha; ⟨_, fun i => call_at (F base) (hX i) ((hr i).mono hj) (hg i) g kp b.b (fun σ => passAt (tk i) σ) (p i) hdb (he i) (hpl i), rt_call r⟩
theorem ve_calT {fn : FI} {mn : MA} (o : Ok1 P w K mg y ps j (spVI K mg 0 fn)) (hr : ∀ i, Room k (X i).A) (tk : ∀ i, Takes (X i) W.w) (hn : VF K mg X W e mn) (ha : VA K mg X W es ms) (hX : IsX X P w K mg base := by intro _; exact ⟨rfl, rfl, rfl, rfl, rfl⟩) (hj : j ≤ k := by decide) (hg : ∀ i, Gl (X i) y := by intro _; rfl) (hdb : (y == ("__debug__" : Str)) = false := by decide)
    (he : ∀ i, starEach (e :: es) (X i).env = (false, eval e (X i).env) :: starEach es (X i).env := by intro _; rfl) (hpl : ∀ i, (backTo pos (starEach es (X i).env)).any (·.1) = false := by intro _; rfl) : VE K mg X W (.Call (.Name y p) (e :: es) [] pos) (vCallT fn mn ms) :=
  let ⟨_, _, g, kp, b, F⟩ := o; let ⟨_, p0, r0⟩ := hn; let ⟨_, p, r⟩ := ha; ⟨_, fun i => call_at (F base) (hX i) ((hr i).mono hj) (hg i) g kp b.b (fun σ => passAt (tk i) σ) (pa_cons (p0 i) (p i) (he i)) hdb (he i) (hpl i), rd_callT r0 r⟩
theorem vtr_lc {elt : Expr} {ifs : List Expr} {scope : Scope} {own : List (Str × Nat)} {mi : MA} {gm : D → Env → Option Env} {mt : MB} {me : ME} (hc : ∀ j, (X j).calm = true) (hN : ∀ j, (X j).N.Nodup) (hi : VI K mg X W tg it mi) (ok : ∀ j, BlkOk (X j).N (X j).env.scope scope own)
    (hg : VG K (blkF X scope) (own.map (·.2)) tg gm) (ht : VTs K mg (blkF X scope) (W.to Wn) ifs mt) (he : VTr K mg (blkF X scope) (W.to Wn) x elt me) (hs : ∀ j x, foldedSetIterable it (X j).env x = pure x := by intro _ _; rfl) :
    VTr K mg X W (.l x) (.ListComp elt [⟨tg, it, ifs, 0⟩] scope pos) (vOf (vLc mi gm mt me (own.map (·.2)))) := by
  obtain ⟨wi, pi, ri⟩ := hi
  obtain ⟨g, pg, rg⟩ := hg
  obtain ⟨t, pt, rt⟩ := ht
  obtain ⟨te, pe, re⟩ := he
  exact ⟨_, fun i => pe_lc (hc i) (hN i) (pi i) (ok i) (fun s H C cl fp => pg (i, s, H, C, cl, fp)) (fun s H C cl fp => pt (i, s, H, C, cl, fp)) (fun s H C cl fp => pe (i, s, H, C, cl, fp)) (hs i), rt_lc ri rg rt re⟩
theorem vpt_0 (i : Nat) (hN : ∀ j, (X j).N[i]? = some y := by intro _; rfl) (hv : ∀ j, Vis (X j).env.scope y := by intro _; first | exact Or.inl rfl | exact Or.inr (Or.inl rfl) | exact Or.inr (Or.inr rfl)) (hd : (y == ("__debug__" : Str)) = false := by decide)
    (hcd : (y == ("__classdict__" : Str)) = false := by decide) : VPt K mg X W i (.Name y pos) (vP0 i) := ⟨_, fun i => pe_var (hN i) (hv i) hd hcd, rp_0 i⟩
theorem vpt_S {mp : MP} (ho : VPt K mg X W i a mp) (hi : VE K mg X W e m) (hs : PlainIx e) (hK : ∀ j, (X j).K = K := by intro _; rfl) : VPt K mg X W i (.Subscript a e pos) (vPS i mp m) := let ⟨_, p, r⟩ := ho; let ⟨_, p', r'⟩ := hi; ⟨_, fun i => pe_ix (hK i ▸ ix_seq : IxR (X i) (rIx K)) (p i) (p' i) hs, rp_S r r'⟩
end
section
variable {X : Cx} {W : Am X.K} {pos : Pos} {a c e ix it tg : Expr} {es : List Expr} {m mx : ME} {ms : MA} {k : RK} {s x : Sh} {i : Nat} {mp : MP} {y : Str} {body : List Stmt} {mm : MS}
theorem vs_retT (h : VTf X.K X.mg (at1 X) W s e m) : VS X W (.t s) (.Return (some e) pos) (vRet m) := let ⟨_, p, r⟩ := h; ⟨_, ps_ret (p ()), rs_retT r⟩
theorem vs_asgT (i : Nat) {pos' : Pos} (hN : X.N.Nodup) (he : VTf X.K X.mg (at1 X) W s e m) (hi : X.N[i]? = some y := by rfl) (hx : Loc X.env.scope y := by first | exact Or.inl rfl | exact Or.inr rfl) (hs : swapsWith e (some (.Name y pos')) pos.line X.env = pure false := by rfl) (hf : X.fn y = true ∨ X.env.scope.names.lookup y = some .local := by first | exact .inl rfl | exact .inr rfl) :
    VS X W k (.Assign [.Name y pos'] e pos) (vAsgT i s m) := let ⟨_, p, r⟩ := he; ⟨_, ps_set hN hi hx (p ()) hs hf, rs_asgT r⟩
theorem vs_setLcT {elt : Expr} {ifs : List Expr} {scope : Scope} {own : List (Str × Nat)} {mi : MA} {gm : D → Env → Option Env} {mt : MB} {me : ME} {cpos pos' : Pos} (i : Nat) (hc : X.calm = true) (hN : X.N.Nodup) (hi : VI X.K X.mg (at1 X) W tg it mi) (ok : BlkOk X.N X.env.scope scope own)
    (hg : VG X.K (blkF (at1 X) scope) (own.map (·.2)) tg gm) (ht : VTs X.K X.mg (blkF (at1 X) scope) (W.to Wn) ifs mt) (he : VTr X.K X.mg (blkF (at1 X) scope) (W.to Wn) x elt me)
    (hsw : swapsWith (.ListComp elt [⟨tg, it, ifs, 0⟩] scope cpos) (some (.Name y pos')) pos.line X.env = pure true) (hi' : X.N[i]? = some y := by rfl) (hyl : X.env.scope.names.lookup y = some .local := by rfl) (hs : ∀ x, foldedSetIterable it X.env x = pure x := by intro _; rfl) :
    VS X W k (.Assign [.Name y pos'] (.ListComp elt [⟨tg, it, ifs, 0⟩] scope cpos) pos) (vAsgT i (.l x) (vOf (vLc mi gm mt me (own.map (·.2))))) := by
  obtain ⟨wi, pi, ri⟩ := hi
  obtain ⟨g, pg, rg⟩ := hg
  obtain ⟨t, pt, rt⟩ := ht
  obtain ⟨te, pe, re⟩ := he
  exact ⟨_, ps_setLc hc hN hi' hyl hsw (pi ()) ok (fun s H C cl fp => pg ((), s, H, C, cl, fp)) (fun s H C cl fp => pt ((), s, H, C, cl, fp)) (fun s H C cl fp => pe ((), s, H, C, cl, fp)) hs, rs_asgT (rt_f (rt_lc ri rg rt re))⟩
theorem vs_appT {apos cpos : Pos} (hp : VPt X.K X.mg (at1 X) W i a mp) (he : VTr X.K X.mg (at1 X) W x e m) (hbase : attributeBase a "append" X.env (eval a X.env) = eval a X.env := by rfl)
    (hfew : ((backTo cpos (starEach [e] X.env)).all (fun x => !x.1) && (backToKw cpos (keywordEach [] X.env)).all (fun x => x.1.isSome) && decide ([e].length + ([] : List Keyword).length + (if ([] : List Keyword).isEmpty then 0 else 1) < 30)) = true := by rfl)
    (hline : (apos.endLine == cpos.line) = true := by rfl) (hs1 : starEach [e] X.env = (false, eval e X.env) :: starEach [] X.env := by rfl) (hplain : (backTo cpos (starEach [] X.env)).any (·.1) = false := by rfl)
    (hs : swapsWith (.Call (.Attribute a "append" apos) [e] [] cpos) none pos.line X.env = pure false := by rfl) : VS X W k (.Expr (.Call (.Attribute a "append" apos) [e] [] cpos) pos) (vAppT i mp x m) :=
  let ⟨_, p, r⟩ := hp; let ⟨_, q, r'⟩ := he; ⟨_, ps_expr (pe_bm PySem.F.plainAttrs_list PySem.F.slot_list_append PySem.F.type_list_append mt_append (p ()) (pa_cons (q ()) pa_nil hs1) hbase hfew hline hs1 hplain) hs, rs_appT r r'⟩
theorem vs_clrT {apos cpos : Pos} (x : Sh) (hp : VPt X.K X.mg (at1 X) W i a mp) (hbase : attributeBase a "clear" X.env (eval a X.env) = eval a X.env := by rfl) (hline : (apos.endLine == cpos.line) = true := by rfl)
    (hs : swapsWith (.Call (.Attribute a "clear" apos) [] [] cpos) none pos.line X.env = pure false := by rfl) : VS X W k (.Expr (.Call (.Attribute a "clear" apos) [] [] cpos) pos) (vClrT i mp x) :=
  let ⟨_, p, r⟩ := hp; ⟨_, ps_expr (pe_bm0 PySem.F.plainAttrs_list PySem.F.slot_list_clear PySem.F.type_list_clear mt_clear (p ()) hbase hline) hs, rs_clrT r⟩
theorem vs_subT {tpos : Pos} (hp : VPt X.K X.mg (at1 X) W i a mp) (he : VTr X.K X.mg (at1 X) W x e m) (hx : VE X.K X.mg (at1 X) W ix mx) (hs : swapsWithSole [.Subscript a ix tpos] e pos.line X.env = pure false := by rfl) (hw : swappedStores [.Subscript a ix tpos] e X.env = pure none := by rfl)
    (h1 : (assignEach [.Subscript a ix tpos] X.env).map (·.2) = [assign (.Subscript a ix tpos) X.env] := by rfl)
    (ha : ∀ v, assign (.Subscript a ix tpos) X.env v = (do
      let ov ← holding [v] (eval a X.env)
      let iv ← holding [v, ov] (eval ix X.env)
      standAt tpos
      holding [v, ov, iv] (setItem ov iv v)
      release [v, ov, iv] []) := by intro _; rfl) : VS X W k (.Assign [.Subscript a ix tpos] e pos) (vSetT i mp x mx m) :=
  let ⟨_, p, r⟩ := hp; let ⟨_, q, r2⟩ := he; let ⟨_, q', r'⟩ := hx; ⟨_, ps_asg (q ()) (pg_sub (p ()) (q' ()) set_list ha) hs hw h1, rs_setT r r' r2⟩
theorem vs_forM {pos' : Pos} (n j : Nat) (hq : PassesOwn (model X.prog X.w) X.A X.env X.xe) (hc : X.calm = true) (hN : X.N.Nodup) (hp : VPt X.K X.mg (at1 X) W i a mp) (hb : VSs X W k body mm) (hn : n ≠ 0 := by decide) (hij : i ≠ j := by decide) (hi : X.N[j]? = some y := by rfl) (hx : Loc X.env.scope y := by first | exact Or.inl rfl | exact Or.inr rfl)
    (hf : X.fn y = true ∨ X.env.scope.names.lookup y = some .local := by first | exact .inl rfl | exact .inr rfl) (hs : ∀ z, foldedSetIterable a X.env z = pure z := by intro _; rfl) : VS X W k (.For (.Name y pos') a body [] pos) (vForM n i j mp mm) :=
  let ⟨_, p, r⟩ := hp; let ⟨_, p2, r2⟩ := hb; ⟨_, ps_for hq hc (pi_seq (p ())) (pg_name hN hi hx hf) p2 hs, rs_forM hn hij r r2⟩
theorem vs_appI (i : Nat) {p apos cpos : Pos} (he : VE X.K X.mg (at1 X) W e m) (hN : X.N[i]? = some y := by rfl) (hv : Vis X.env.scope y := by first | exact Or.inl rfl | exact Or.inr (Or.inl rfl) | exact Or.inr (Or.inr rfl)) (hd : (y == ("__debug__" : Str)) = false := by decide)
    (hcd : (y == ("__classdict__" : Str)) = false := by decide) (hbase : attributeBase (.Name y p) "append" X.env (eval (.Name y p) X.env) = eval (.Name y p) X.env := by rfl)
    (hfew : ((backTo cpos (starEach [e] X.env)).all (fun x => !x.1) && (backToKw cpos (keywordEach [] X.env)).all (fun x => x.1.isSome) && decide ([e].length + ([] : List Keyword).length + (if ([] : List Keyword).isEmpty then 0 else 1) < 30)) = true := by rfl)
    (hline : (apos.endLine == cpos.line) = true := by rfl) (hs1 : starEach [e] X.env = (false, eval e X.env) :: starEach [] X.env := by rfl) (hplain : (backTo cpos (starEach [] X.env)).any (·.1) = false := by rfl)
    (hs : swapsWith (.Call (.Attribute (.Name y p) "append" apos) [e] [] cpos) none pos.line X.env = pure false := by rfl) : VS X W k (.Expr (.Call (.Attribute (.Name y p) "append" apos) [e] [] cpos) pos) (vAppI i m) :=
  let ⟨_, q, r⟩ := he; ⟨_, ps_expr (pe_bm PySem.F.plainAttrs_list PySem.F.slot_list_append PySem.F.type_list_append mt_append (pe_var hN hv hd hcd) (pa_cons (q ()) pa_nil hs1) hbase hfew hline hs1 hplain) hs, rs_appI r⟩
theorem vs_subI (i : Nat) {p tpos : Pos} (he : VE X.K X.mg (at1 X) W e m) (hx : VE X.K X.mg (at1 X) W ix mx) (hN : X.N[i]? = some y := by rfl) (hv : Vis X.env.scope y := by first | exact Or.inl rfl | exact Or.inr (Or.inl rfl) | exact Or.inr (Or.inr rfl)) (hd : (y == ("__debug__" : Str)) = false := by decide)
    (hcd : (y == ("__classdict__" : Str)) = false := by decide) (hs : swapsWithSole [.Subscript (.Name y p) ix tpos] e pos.line X.env = pure false := by rfl) (hw : swappedStores [.Subscript (.Name y p) ix tpos] e X.env = pure none := by rfl)
    (h1 : (assignEach [.Subscript (.Name y p) ix tpos] X.env).map (·.2) = [assign (.Subscript (.Name y p) ix tpos) X.env] := by rfl)
    (ha : ∀ v, assign (.Subscript (.Name y p) ix tpos) X.env v = (do
      let ov ← holding [v] (eval (.Name y p) X.env)
      let iv ← holding [v, ov] (eval ix X.env)
      standAt tpos
      holding [v, ov, iv] (setItem ov iv v)
      release [v, ov, iv] []) := by intro _; rfl) : VS X W k (.Assign [.Subscript (.Name y p) ix tpos] e pos) (vSetI i mx m) :=
  let ⟨_, q, r⟩ := he; let ⟨_, q', r'⟩ := hx; ⟨_, ps_asg (q ()) (pg_sub (pe_var hN hv hd hcd) (q' ()) set_list ha) hs hw h1, rs_setI r r'⟩
end
end VL

/-! VL33: sorted(xs) of a list of ints. -/
namespace VL
open PySem PySem.Spec PyProof.Rows L2
theorem int_reps {K : PySem.W.Frag} {B : Hp} : ∀ {ns : List Int}, Reps K B (ns.map V.int) (ns.map D.int)
  | [] => .nil
  | n :: ns => .cons (.int n) int_reps
theorem sorted_is {ns ns' : List Int} (p : ns'.Perm ns) (s : ns'.Pairwise (· ≤ ·)) : ns' = ns.mergeSort (fun a b => decide (a ≤ b)) := by
  have s2 : (ns.mergeSort (fun a b => decide (a ≤ b))).Pairwise (· ≤ ·) := by
    have := List.pairwise_mergeSort (le := fun (a b : Int) => decide (a ≤ b)) (fun a b c h1 h2 => by simp at *; omega) (fun a b => by simp; omega) ns
    exact this.imp fun h => by simpa using h
  exact List.Perm.eq_of_pairwise (le := fun a b : Int => a ≤ b) (fun a b _ _ h1 h2 => by omega) s s2 (p.trans (List.mergeSort_perm ns _).symm)
theorem cd_sorted {X : Cx} : CallR X (.builtin "sorted") (rDatF X.K bfSortL) := by
  intro pins s σ H xs us Q I r ⟨G, B, σ', e, ds, d, S, rs, hd, h⟩
  unfold bfSortL at hd
  split at hd
  · obtain ⟨ns, h1, h2⟩ := Option.bind_eq_some_iff.mp hd
    split at h2
    · rename_i h64
      cases h2
      cases rs with
      | cons r0 rr =>
        cases rr
        cases r0 with
        | lst h3 q3 =>
          obtain rfl := ints_rep h1 q3
          exact cr_sorted pins s σ H _ us Q I r ⟨_, ns, rfl, same_sqL S.sub h3, h64, fun ns' p hp hs => by
            rw [sorted_is hp hs]
            exact new_F S int_reps h p⟩
    · cases h2
  · cases hd
theorem vf_bl {K : PySem.W.Frag} {mg : Str → Option Value} {W : Am K} {ι : Type} {X : ι → Cx} {e : Expr} {es : List Expr} {ms : MA} {pos : Pos} {id : String} {x : Str} {p : Pos} {f : List D → Option (List D)} (hc : ∀ j, CallR (X j) (.builtin id) (rDatF K f)) (hm : ∀ j, (X j).mg x = none) (hv : bootBuiltins x = some (.builtin id)) (ha : VA K mg X W (e :: es) ms) (hg : ∀ j, Gl (X j) x := by intro _; rfl) (hn : x ≠ "__name__" := by decide) (hdb : (x == ("__debug__" : Str)) = false := by decide)
    (he : ∀ j, starEach (e :: es) (X j).env = (false, eval e (X j).env) :: starEach es (X j).env := by intro _; rfl) (hpl : ∀ j, (backTo pos (starEach es (X j).env)).any (·.1) = false := by intro _; rfl) : VF K mg X W (.Call (.Name x p) (e :: es) [] pos) (vBl f ms) :=
  let ⟨_, p, r⟩ := ha; ⟨_, fun i => pe_callB (hc i) (hg i) (hm i) hv (p i) hn hdb (he i) (hpl i), rd_bl' r⟩
end VL

/-! VL34: a tree handed in for good: the callee may change it, the caller has it no more. -/
namespace VL
open PySem PySem.Spec PyProof.Rows L2
section
variable {K : PySem.W.Frag} {mg : Str → Option Value} {W : Am K} {k : RK} {G : Gr} {B H : Hp} {σ : L2.St} {e : Env} {s : Sh}
theorem ins_any {s0 s : Sl} {v : Option V} {a : Addr} : ∀ {j i : Nat} {ds : List D}, j ≤ ds.length → (insL j s0 (ds.map Sl.sh))[i]? = some s → OwnS H v s a → i = j
  | 0, 0, _, _, _, _ => rfl
  | 0, i + 1, ds, _, h, q => by
    rw [insL, List.getElem?_cons_succ, List.getElem?_map] at h
    cases z : ds[i]? with
    | none => rw [z] at h; cases h
    | some d => rw [z] at h; cases h; exact q.elim
  | j + 1, _, [], hl, _, _ => by simp at hl
  | j + 1, 0, d :: ds, _, h, q => by cases h; exact q.elim
  | j + 1, i + 1, d :: ds, hl, h, q => by
    rw [List.map_cons, insL, List.getElem?_cons_succ] at h
    rw [ins_any (by simpa using hl) h q]
/-- what goes with the tree -/
def RchM (H : Hp) (s : Sh) (v : V) (d : D) (a : Addr) : Prop := d.flat = false ∧ Reach H s v a
/-- the tree (or what is flat) as it is handed in -/
def MovOk (K : PySem.W.Frag) (B H : Hp) (s : Sh) (v : V) (d : D) : Prop := if d.flat = true then Rep K B v d else Tr K B H s v d ∧ ∀ a, Reach H s v a → B a = none
open Classical in
noncomputable def grM (P : Addr → Prop) (B H : Hp) : Gr := ⟨fun a => if P a then none else H a, B, [], fun _ => 0, fun _ => 0⟩
open Classical in
theorem start_stoM {N : List Str} {v : V} {us : List V} {ds : List D} {d : D} {j : Nat} (sm : Same B H) (mv : MovOk K B H s v d) (r : Reps K B us ds) (hl : ds.length + 1 ≤ N.length) (hj : j ≤ ds.length) :
    Sto K (grM (RchM H s v d) B H) B H (L2.start N (insL j v us)) (insL j (movS s d) (ds.map Sl.sh) ++ List.replicate (N.length - (ds.length + 1)) .no) := by
  have ok : SlOk K (grM (RchM H s v d) B H) B H (some v) (movS s d) := by
    unfold MovOk at mv
    unfold movS
    by_cases hf : d.flat = true
    · rw [if_pos hf] at mv ⊢; exact .sh mv
    · rw [if_neg hf] at mv ⊢; exact .tr mv.1 fun a q => ⟨mv.2 a q, if_pos ⟨(Bool.not_eq_true _).mp hf, q⟩⟩
  have A := AllS.app (AllS.ins ok j r) (AllS.nos (N.length - (ds.length + 1)))
  have e1 : L2.start N (insL j v us) = (insL j v us).map some ++ List.replicate (N.length - (ds.length + 1)) none := by
    unfold L2.start
    rw [insL_len, r.length]
  rw [e1]
  have low : ∀ {i : Nat} {t : Sl} {u : Option V} {a : Addr}, (insL j (movS s d) (ds.map Sl.sh) ++ List.replicate (N.length - (ds.length + 1)) .no)[i]? = some t → OwnS H u t a → i = j := fun {i t u a} h w => by
    by_cases q : i < (insL j (movS s d) (ds.map Sl.sh)).length
    · rw [List.getElem?_append_left q] at h
      exact ins_any hj h w
    · rw [List.getElem?_append_right (by omega), List.getElem?_replicate] at h
      split at h <;> cases h
      exact w.elim
  exact { len := A.1, sl := A.2, dis := fun i k s t v w a h1 h2 _ _ h5 h6 => (low h1 h5).trans (low h2 h6).symm, sub := sm, b0 := Same.refl B,
          keep := fun a o h _ => by
            have h : (if RchM H s v d a then none else H a) = some o := h
            by_cases q : RchM H s v d a
            · rw [if_pos q] at h; cases h
            · rw [if_neg q] at h; exact h
          dom := fun a h => by
            have h : (if RchM H s v d a then none else H a) ≠ none := h
            by_cases q : RchM H s v d a
            · rw [if_pos q] at h; exact absurd rfl h
            · rw [if_neg q] at h; exact h
          new := fun a h => .inl h
          iom := fun a h => (nomatch (show a ∈ ([] : List Addr) from h)) }
/-- what is new to be read, where P was handed in for good -/
def NewsM (P : Addr → Prop) (B H B' : Hp) : Prop := ∀ a, B' a ≠ none → B a ≠ none ∨ H a = none ∨ P a
open Classical in
theorem Sto.outM {P : Addr → Prop} {B' H' : Hp} {σ' : L2.St} {e' : Env} (S : Sto K (grM P B H) B' H' σ' e') : (∀ a o, ¬ P a → H a = some o → H' a = some o) ∧ Same B B' ∧ Same B' H' ∧ NewsM P B H B' := by
  refine ⟨fun a o h1 h2 => S.keep a o ((if_neg h1).trans h2) (by simp [grM]), S.b0, S.sub, fun a h => ?_⟩
  rcases S.new a h with w | w
  · exact .inl w
  · by_cases q : P a
    · exact .inr (.inr q)
    · have w : (if P a then none else H a) = none := w
      rw [if_neg q] at w
      exact .inr (.inl w)
theorem Sto.callM {P : Addr → Prop} (S : Sto K G B H σ e) {B' H' : Hp} (hP : ∀ a, P a → G.H a = none ∧ ¬ Owned H σ e a) (h1 : ∀ a o, ¬ P a → H a = some o → H' a = some o) (h2 : Same B B') (h3 : Same B' H') (h4 : NewsM P B H B') : Sto K G B' H' σ e := by
  have hO : ∀ a, Owned H σ e a → H' a = H a := fun a q => by
    cases z : H a with
    | none => exact absurd z (S.apart q).2.2
    | some o => exact h1 _ _ (fun w => (hP a w).2 q) z
  refine S.mv' h2 h3 hO (fun a q => ?_) (fun a o q1 q2 => ?_) (fun a q => ?_) fun a q => ?_
  · cases z : B' a with
    | none => rfl
    | some o =>
      rcases h4 a (by rw [z]; simp) with w | w | w
      · exact absurd (S.apart q).1 w
      · exact absurd w (S.apart q).2.2
      · exact absurd q (hP a w).2
  · exact h1 _ _ (fun w => by rw [(hP a w).1] at q1; cases q1) (S.keep a o q1 q2)
  · cases w : H a with
    | none => exact absurd w (S.dom a q)
    | some o => rw [h1 _ _ (fun w => q (hP a w).1) w]; simp
  · rcases h4 a q with w | w | w
    · exact S.new a w
    · exact .inr (S.fresh w)
    · exact .inr (hP a w).1
/-- the promise -/
def spMV (K : PySem.W.Frag) (mg : Str → Option Value) (j : Nat) (s : Sh) (fn : FM) : Sp := fun vs H Q E => ∃ (B : Hp) (v : V) (us : List V) (ds : List D) (d : D), vs = insL j v us ∧ Same B H ∧ MovOk K B H s v d ∧ Reps K B us ds ∧ match fn ds d with
  | .ok r => ∀ v' B' H', (∀ a o, ¬ RchM H s v d a → H a = some o → H' a = some o) → Same B B' → Same B' H' → NewsM (RchM H s v d) B H B' → Rep K B' v' r → Q v' H'
  | .err x => ∀ cls dd B' H', (∀ a o, ¬ RchM H s v d a → H a = some o → H' a = some o) → Same B B' → Same B' H' → NewsM (RchM H s v d) B H B' → XRep K mg B' cls dd x → E cls dd H'
  | .bot => False
theorem len_ofM {np n j : Nat} {m : MS} : ∀ vs H Q E, spMV K mg j s (runM np n j s m) vs H Q E → vs.length = np := fun vs H Q E h => by
  obtain ⟨B, v, us, ds, d, rfl, sm, mv, r, h⟩ := h
  rw [insL_len, r.length]
  by_cases q : ds.length + 1 = np ∧ j ≤ ds.length
  · exact q.1
  · unfold runM at h; rw [if_neg q] at h; exact h.elim
end
section
variable {P : Program} {w : World} {K : PySem.W.Frag} {mg : Str → Option Value} {base : Heap} {s : Sh}
theorem fn_MV {x qual : Str} {st : Stmt} {f : Addr} {fd : FuncData} {N ps : List Str} {k j : Nat} {m : MS} (F : Fun K x qual st f fd) (S : FnScope N ps (defScope st)) (hl : ps.length ≤ N.length)
    (hbody : ∀ (cdv : Value) (A : Around) (outer : List PySem.Env) (s : Shared) (H : Hp) (E : XK), Room k (A.deeper (envOfC qual (defScope st) s.heap.objs.size f cdv)) →
      VSs (cxOf (L2.CX P w) P w K mg base N qual (defScope st) f cdv A outer s H E) (Am.of K fun cls d _ H => E cls d H) .v (defBody st) m) :
    FnOk P w K mg base (L2.CX P w) (k + 1) f fd ps (spMV K mg j s (runM ps.length N.length j s m)) := by
  refine F.okX S len_ofM (fun cdv A outer s' H vs Q E hr h => ?_)
  obtain ⟨B, v, us, ds, d, rfl, sm, mv, r, h⟩ := h
  obtain ⟨t, pt, rt⟩ := hbody cdv A outer s' H E hr
  have q : ds.length + 1 = ps.length ∧ j ≤ ds.length := by
    by_cases q : ds.length + 1 = ps.length ∧ j ≤ ds.length
    · exact q
    · unfold runM at h; rw [if_neg q] at h; exact h.elim
  refine ⟨t, pt, rt _ trivial B H _ _ _ (start_stoM (s := s) sm mv r (by omega) q.2) ?_⟩
  unfold runM at h
  rw [if_pos q] at h
  rw [q.1]
  cases z : m (insL j (movS s d) (ds.map Sl.sh) ++ List.replicate (N.length - ps.length) .no) with
  | nx e' =>
    simp only [z] at h
    exact fun σ' B' H' S' _ => let ⟨a1, a2, a3, a4⟩ := S'.outM; h .non B' H' a1 a2 a3 a4 .non
  | rt d e' =>
    simp only [z] at h
    exact fun v σ' B' H' S' _ ro => let ⟨a1, a2, a3, a4⟩ := S'.outM; h v B' H' a1 a2 a3 a4 ro
  | bk e' => rw [z] at h; exact h.elim
  | ct e' => rw [z] at h; exact h.elim
  | err x e' =>
    simp only [z] at h
    exact fun c dd σ' B' H' S' _ xr => let ⟨a1, a2, a3, a4⟩ := S'.outM; h c dd B' H' a1 a2 a3 a4 xr
  | bot => rw [z] at h; exact h.elim
theorem Def1.MV {x : Str} {st : Stmt} {N ps : List Str} {k : Nat} {m : MS} (j : Nat) (s : Sh) (d : Def1 K mg x st ps) (S : FnScope N ps (defScope st)) (hl : ps.length ≤ N.length)
    (hbody : ∀ (base : Heap) (f : Addr) (cdv : Value) (A : Around) (outer : List PySem.Env) (s : Shared) (H : Hp) (E : XK), Room k (A.deeper (envOfC x (defScope st) s.heap.objs.size f cdv)) →
      VSs (cxOf (L2.CX P w) P w K mg base N x (defScope st) f cdv A outer s H E) (Am.of K fun cls d _ H => E cls d H) .v (defBody st) m) : Ok1 P w K mg x ps (k + 1) (spMV K mg j s (runM ps.length N.length j s m)) :=
  let ⟨f, fd, F, g, b⟩ := d; ⟨f, fd, g, F.kp, b, fun base => fn_MV F S hl (hbody base f)⟩
end
/-! calls -/
section
variable {K : PySem.W.Frag} {mg : Str → Option Value} {W : Am K} {G : Gr} {B H : Hp} {σ : L2.St} {e : Env} {s : Sh}
theorem rd_argM {i : Nat} {t : TA} {m : MA} (h : RdA K mg W t m) : RdX K mg W (rpI K i 0) (tCons (tVar i) t) (vArgM i m) where
  run := fun G hG B H σ e Q S q => by
    unfold vArgM at q
    have go : ∀ s, e[i]? = some s → s ≠ .no → Po K mg W (rpI K i 0) G σ B Q (m e) → tCons (tVar i) t σ H Q := fun s z n q => by
      obtain ⟨v, hv, ok⟩ := S.sl i _ z
      have hs : ∃ v', v = some v' := by
        cases ok with
        | no => exact absurd rfl n
        | sh _ => exact ⟨_, rfl⟩
        | ow _ _ _ _ _ => exact ⟨_, rfl⟩
        | tk => exact ⟨_, rfl⟩
        | tr _ _ => exact ⟨_, rfl⟩
      obtain ⟨v', rfl⟩ := hs
      refine ⟨_, hv, h.run G hG B H σ e _ S ?_⟩
      cases u : m e with
      | ok a e1 => rw [u] at q; exact fun us B1 H1 S1 s1 r1 => q _ B1 H1 S1 s1 ⟨_, us, hv, rfl, r1⟩
      | err x e1 => rw [u] at q; exact q
      | bot => rw [u] at q; exact q.elim
    cases z : e[i]? with
    | none => rw [z] at q; exact q.elim
    | some s =>
      rw [z] at q
      cases s with
      | no => exact q.elim
      | tk _ => exact q.elim
      | ow _ _ => exact q.elim
      | sh _ => exact go _ z (by simp) q
      | tr _ _ => exact go _ z (by simp) q
theorem rd_callM {i j : Nat} {fn : FM} {t : TA} {m : MA} (ha : RdX K mg W (rpI K i j) t m) : RdE K mg W (tCallS (spMV K mg j s fn) (WE W.w) t) (vCallM i s fn m) where
  run := fun G hG B H σ e Q S q => by
    refine ha.run G hG B H σ e _ S (Po.bind q fun ds e1 vs B1 H1 S1 s1 r1 h1 => ?_)
    obtain ⟨v, us, hv, rfl, r1⟩ := r1
    cases z : e1[i]? with
    | none => rw [z] at h1; exact h1.elim
    | some x =>
      rw [z] at h1
      obtain ⟨v1, hv1, ok⟩ := S1.sl i _ z
      rw [hv] at hv1
      cases hv1
      cases x with
      | no => exact h1.elim
      | tk _ => exact h1.elim
      | ow _ _ => exact h1.elim
      | sh d =>
        dsimp only at h1
        split at h1
        · rename_i hf
          cases ok with
          | sh r =>
            have no : ∀ a, ¬ RchM H1 s v d a := fun a w => by have := w.1; rw [hf] at this; cases this
            refine ⟨B1, v, us, ds, d, rfl, S1.sub, (by unfold MovOk; rw [if_pos hf]; exact r), r1, ?_⟩
            cases u : fn ds d with
            | ok r' => rw [u] at h1; exact fun v' B' H' a1 a2 a3 a4 rr => h1 v' B' H' (S1.callM (fun a w => (no a w).elim) a1 a2 a3 a4) a2 rr
            | err x' => rw [u] at h1; exact fun c dd B' H' a1 a2 a3 a4 rr => h1 c dd B' H' (S1.callM (fun a w => (no a w).elim) a1 a2 a3 a4) a2 rr
            | bot => rw [u] at h1; exact h1
        · exact h1.elim
      | tr s' d =>
        dsimp only at h1
        split at h1
        · rename_i hs2
          have hs := Sh.eqb_eq hs2.1
          have hf := hs2.2
          subst hs
          cases ok with
          | tr tt f =>
            have hP : ∀ a, RchM H1 s v d a → G.H a = none ∧ ¬ Owned H1 σ (e1.set i .no) a := fun a w => ⟨(f a w.2).2, S1.lost z hv ⟨v, rfl, w.2⟩⟩
            refine ⟨B1, v, us, ds, d, rfl, S1.sub, (by unfold MovOk; rw [hf]; exact ⟨tt, fun a q => (f a q).1⟩), r1, ?_⟩
            cases u : fn ds d with
            | ok r' => rw [u] at h1; exact fun v' B' H' a1 a2 a3 a4 rr => h1 v' B' H' ((S1.lose i).callM hP a1 a2 a3 a4) a2 rr
            | err x' => rw [u] at h1; exact fun c dd B' H' a1 a2 a3 a4 rr => h1 c dd B' H' ((S1.lose i).callM hP a1 a2 a3 a4) a2 rr
            | bot => rw [u] at h1; exact h1
        · exact h1.elim
end
section
variable {ι : Type} {K : PySem.W.Frag} {mg : Str → Option Value} {X : ι → Cx} {W : Am K} {P : Program} {w : World} {base : Heap} {pos : Pos} {e : Expr} {es : List Expr} {ma : ME} {ms : MA} {i j n k : Nat} {ps : List Str} {fn : FM} {x y : Str} {p p2 : Pos} {s : Sh}
theorem vai_hereM (i : Nat) (hr : VA K mg X W es ms) (hN : ∀ j, (X j).N[i]? = some y := by intro _; rfl) (hv : ∀ j, Vis (X j).env.scope y := by intro _; first | exact Or.inl rfl | exact Or.inr (Or.inl rfl) | exact Or.inr (Or.inr rfl)) (hd : (y == ("__debug__" : Str)) = false := by decide)
    (hcd : (y == ("__classdict__" : Str)) = false := by decide) (hs : ∀ j, starEach (.Name y p2 :: es) (X j).env = (false, eval (.Name y p2) (X j).env) :: starEach es (X j).env := by intro _; rfl) : VAI K mg X W i 0 (.Name y p2 :: es) (vArgM i ms) :=
  let ⟨_, q, r⟩ := hr; ⟨_, fun j => pa_cons (pe_var (hN j) (hv j) hd hcd) (q j) (hs j), rd_argM r⟩
theorem ve_calM (o : Ok1 P w K mg x ps n (spMV K mg j s fn)) (hr : ∀ i, Room k (X i).A) (tk : ∀ i, Takes (X i) W.w) (ha : VAI K mg X W i j (e :: es) ms) (hX : IsX X P w K mg base := by intro _; exact ⟨rfl, rfl, rfl, rfl, rfl⟩) (hj : n ≤ k := by decide) (hg : ∀ i, Gl (X i) x := by intro _; rfl) (hdb : (x == ("__debug__" : Str)) = false := by decide)
    (he : ∀ i, starEach (e :: es) (X i).env = (false, eval e (X i).env) :: starEach es (X i).env := by intro _; rfl) (hpl : ∀ i, (backTo pos (starEach es (X i).env)).any (·.1) = false := by intro _; rfl) : VE K mg X W (.Call (.Name x p) (e :: es) [] pos) (vCallM i s fn ms) :=
  let ⟨_, _, g, kp, b, F⟩ := o; let ⟨_, p, r⟩ := ha; ⟨_, fun i => call_at (F base) (hX i) ((hr i).mono hj) (hg i) g kp b.b (fun σ => passAt (tk i) σ) (p i) hdb (he i) (hpl i), rd_callM r⟩
end
end VL

/-! VL35: == and != of two that are alike, dicts within. -/
namespace VL
open PySem PySem.Spec PyProof.Rows L2
mutual
theorem sm_eq : ∀ {a b : D}, D.sm a b = true → a = b
  | .non, b, h => by cases b <;> first | rfl | (unfold D.sm at h; cases h)
  | .bl x, b, h => by
    cases b with
    | bl y => unfold D.sm at h; rw [eq_of_beq h]
    | _ => unfold D.sm at h; cases h
  | .int x, b, h => by
    cases b with
    | int y => unfold D.sm at h; rw [of_decide_eq_true h]
    | _ => unfold D.sm at h; cases h
  | .str x, b, h => by
    cases b with
    | str y => unfold D.sm at h; rw [of_decide_eq_true h]
    | _ => unfold D.sm at h; cases h
  | .lst x, b, h => by
    cases b with
    | lst y => unfold D.sm at h; rw [sms_eq h]
    | _ => unfold D.sm at h; cases h
  | .tup x, b, h => by
    cases b with
    | tup y => unfold D.sm at h; rw [sms_eq h]
    | _ => unfold D.sm at h; cases h
  | .dct k x, b, h => by
    cases b with
    | dct l y =>
      unfold D.sm at h
      rw [Bool.and_eq_true] at h
      rw [of_decide_eq_true h.1, sms_eq h.2]
    | _ => unfold D.sm at h; cases h
theorem sms_eq : ∀ {a b : List D}, D.sms a b = true → a = b
  | [], b, h => by cases b <;> first | rfl | (unfold D.sms at h; cases h)
  | x :: xs, b, h => by
    cases b with
    | cons y ys =>
      unfold D.sms at h
      rw [Bool.and_eq_true] at h
      rw [sm_eq h.1, sms_eq h.2]
    | nil => unfold D.sms at h; cases h
end
theorem eqoksN_at {n : Nat} : ∀ {ds : List D} {d : D} {i : Nat}, D.eqoksN n ds = true → ds[i]? = some d → D.eqokN n d = true
  | [], _, _, _, h => by simp at h
  | e :: ds, d, 0, h, q => by
    unfold D.eqoksN at h
    rw [Bool.and_eq_true] at h
    cases q
    exact h.1
  | e :: ds, d, i + 1, h, q => by
    unfold D.eqoksN at h
    rw [Bool.and_eq_true] at h
    exact eqoksN_at h.2 (by simpa using q)
theorem dget_nd {k : Key} {d : D} : ∀ {ks : List Key} {ds : List D} {i : Nat}, ks.Nodup → ks[i]? = some k → ds[i]? = some d → dctGet ks ds k = some d
  | [], _, _, _, h, _ => by simp at h
  | k0 :: ks, [], _, _, _, h => by simp at h
  | k0 :: ks, d0 :: ds, 0, _, h, q => by
    cases h
    cases q
    simp [dctGet]
  | k0 :: ks, d0 :: ds, i + 1, nd, h, q => by
    obtain ⟨h1, h2⟩ := List.nodup_cons.mp nd
    have h : ks[i]? = some k := by simpa using h
    have q : ds[i]? = some d := by simpa using q
    have ne : ¬ k0 = k := fun z => h1 (z ▸ List.mem_of_getElem? h)
    have ih := dget_nd h2 h q
    simp only [dctGet, List.zip_cons_cons, List.find?_cons, decide_eq_false ne] at ih ⊢
    exact ih
theorem kv_get : ∀ {kvs : List (Key × V)} {vs : List (Key × Value)} {i : Nat} {p : Key × V}, KV kvs vs → kvs[i]? = some p → ∃ q, vs[i]? = some q ∧ p.1 = q.1 ∧ RelV p.2 q.2
  | [], _, _, _, _, h => by simp at h
  | a :: kvs, vs, i, p, r, h => by
    unfold KV at r
    cases r with
    | @cons _ q _ qs h1 t =>
      cases i with
      | zero => cases h; exact ⟨q, rfl, h1⟩
      | succ i => exact kv_get (vs := qs) (i := i) t (by simpa using h)
section
variable {X : Cx} {pins : List (Addr × Obj)} {σ : L2.St} {H B : Hp} {s : Shared}
theorem tree_leaf (I : Inv X pins σ H s) (sb : Same B H) {d : D} {x y : V} {v u : Value} (h : d.eqok 0 = true) (r1 : Rep X.K B x d) (r2 : Rep X.K B y d) (h1 : RelV x v) (h2 : RelV y u) {n : Nat} (hn : 4 ≤ n) : PySem.W.EqTree X.prog X.w s n v u true := by
  obtain ⟨as, q1⟩ := Dp.reads I d.py x v (r1.dp sb h) h1
  obtain ⟨bs, q2⟩ := Dp.reads I d.py y u (r2.dp sb h) h2
  refine .leaf fun A hu => ?_
  have sh := shaped_py 0 d h
  have e := SeqAt.eqAt_reads d.py d.py A s v u as bs q1 q2 sh.1 sh.1 (by have := sh.2; omega)
  rw [deq_py 0 0 d d h h] at e
  have dd : D.deq d d = true := by
    cases d with
    | non => rw [D.deq]
    | bl b => rw [D.deq]; simp
    | int i => rw [D.deq]; simp
    | str z => rw [D.deq]; simp
    | _ => unfold D.eqok at h; cases h
  rw [dd] at e
  exact e
theorem all_trueN {m : Nat} : ((List.range m).all fun _ => true) = true := List.all_eq_true.mpr fun _ _ => rfl
theorem tree_ok (I : Inv X pins σ H s) (sb : Same B H) : ∀ (n : Nat) (d : D) (x y : V) (v u : Value), d.eqokN n = true → Rep X.K B x d → Rep X.K B y d → RelV x v → RelV y u → PySem.W.EqTree X.prog X.w s (n + 4) v u true
  | n, .non, x, y, v, u, h, r1, r2, h1, h2 => tree_leaf I sb (by unfold D.eqok; rfl) r1 r2 h1 h2 (by omega)
  | n, .bl b, x, y, v, u, h, r1, r2, h1, h2 => tree_leaf I sb (by unfold D.eqok; rfl) r1 r2 h1 h2 (by omega)
  | n, .int i, x, y, v, u, h, r1, r2, h1, h2 => tree_leaf I sb (by unfold D.eqok; rfl) r1 r2 h1 h2 (by omega)
  | n, .str z, x, y, v, u, h, r1, r2, h1, h2 => tree_leaf I sb (by unfold D.eqok; unfold D.eqokN at h; exact h) r1 r2 h1 h2 (by omega)
  | 0, .tup ds, x, y, v, u, h, r1, r2, h1, h2 => by unfold D.eqokN at h; cases h
  | 0, .lst ds, x, y, v, u, h, r1, r2, h1, h2 => by unfold D.eqokN at h; cases h
  | 0, .dct ks ds, x, y, v, u, h, r1, r2, h1, h2 => by unfold D.eqokN at h; cases h
  | n + 1, .tup ds, x, y, v, u, h, r1, r2, h1, h2 => by
    have h : D.eqoksN n ds = true := by unfold D.eqokN at h; exact h
    cases r1 with
    | @tup a xs _ s1 c1 =>
      cases r2 with
      | @tup b ys _ s2 c2 =>
        obtain rfl : v = Value.ref a := h1
        obtain rfl : u = Value.ref b := h2
        by_cases e : a = b
        · subst e; exact .same
        · obtain ⟨its, rv, pt, _⟩ := I.tuple (same_sqT sb s1)
          obtain ⟨its2, rv2, pt2, _⟩ := I.tuple (same_sqT sb s2)
          have l1 := rv.length
          have l2 := rv2.length
          have l3 := c1.length
          have l4 := c2.length
          have t := PySem.W.EqTree.tuples (prog := X.prog) (w := X.w) (n := n + 4) (e := fun _ => true) e pt pt2 (fun j j1 j2 => by
            simp only [List.size_toArray] at j1 j2
            obtain ⟨d, hd⟩ : ∃ d, ds[j]? = some d := ⟨_, List.getElem?_eq_getElem (by omega)⟩
            obtain ⟨p, hp, rp⟩ := c1.get hd
            obtain ⟨q, hq, rq⟩ := c2.get hd
            obtain ⟨p', hp', rp'⟩ := rv.get hp
            obtain ⟨q', hq', rq'⟩ := rv2.get hq
            have e1 : its.toArray[j] = p' := by
              have := (List.getElem?_eq_some_iff.mp hp').2
              simpa using this
            have e2 : its2.toArray[j] = q' := by
              have := (List.getElem?_eq_some_iff.mp hq').2
              simpa using this
            rw [e1, e2]
            exact tree_ok I sb n d p q p' q' (eqoksN_at h hd) rp rq rp' rq')
          have z : ((List.range (min its.toArray.size its2.toArray.size)).all (fun _ => true) && its.toArray.size == its2.toArray.size) = true := by
            rw [all_trueN, Bool.true_and]
            simp only [List.size_toArray, beq_iff_eq]
            omega
          rw [z] at t
          exact t
  | n + 1, .lst ds, x, y, v, u, h, r1, r2, h1, h2 => by
    have h : D.eqoksN n ds = true := by unfold D.eqokN at h; exact h
    cases r1 with
    | @lst a xs _ s1 c1 =>
      cases r2 with
      | @lst b ys _ s2 c2 =>
        obtain rfl : v = Value.ref a := h1
        obtain rfl : u = Value.ref b := h2
        by_cases e : a = b
        · subst e; exact .same
        · obtain ⟨its, rv, pt, _⟩ := I.list (same_sqL sb s1)
          obtain ⟨its2, rv2, pt2, _⟩ := I.list (same_sqL sb s2)
          have l1 := rv.length
          have l2 := rv2.length
          have l3 := c1.length
          have l4 := c2.length
          have t := PySem.W.EqTree.lists (prog := X.prog) (w := X.w) (n := n + 4) (e := fun _ => true) e pt.isList pt2.isList (by simp only [List.size_toArray]; omega) (fun j j1 j2 => by
            simp only [List.size_toArray] at j1 j2
            obtain ⟨d, hd⟩ : ∃ d, ds[j]? = some d := ⟨_, List.getElem?_eq_getElem (by omega)⟩
            obtain ⟨p, hp, rp⟩ := c1.get hd
            obtain ⟨q, hq, rq⟩ := c2.get hd
            obtain ⟨p', hp', rp'⟩ := rv.get hp
            obtain ⟨q', hq', rq'⟩ := rv2.get hq
            have e1 : its.toArray[j] = p' := by
              have := (List.getElem?_eq_some_iff.mp hp').2
              simpa using this
            have e2 : its2.toArray[j] = q' := by
              have := (List.getElem?_eq_some_iff.mp hq').2
              simpa using this
            rw [e1, e2]
            exact tree_ok I sb n d p q p' q' (eqoksN_at h hd) rp rq rp' rq')
          rw [all_trueN] at t
          exact t
  | n + 1, .dct ks ds, x, y, v, u, h, r1, r2, h1, h2 => by
    have h : (decide ks.Nodup && (decide (ks.length = ds.length) && D.eqoksN n ds)) = true := by unfold D.eqokN at h; exact h
    rw [Bool.and_eq_true, Bool.and_eq_true, decide_eq_true_iff, decide_eq_true_iff] at h
    obtain ⟨nd, ln, h⟩ := h
    cases r1 with
    | @dct a kvs _ _ a1 a2 a3 =>
      cases r2 with
      | @dct b lvs _ _ b1 b2 b3 =>
        obtain rfl : v = Value.ref a := h1
        obtain rfl : u = Value.ref b := h2
        by_cases e : a = b
        · subst e; exact .same
        · obtain ⟨_, ya, va, ra, da⟩ := dk_rd I.hok (rd_sub sb a1)
          obtain ⟨_, yb, vb, rb, db⟩ := dk_rd I.hok (rd_sub sb b1)
          have look : ∀ (k : Key) (w : Value), (k, w) ∈ va → ∃ (d : D) (p q : V) (y : Value), D.eqokN n d = true ∧ Rep X.K B p d ∧ Rep X.K B q d ∧ RelV p w ∧ valueAt vb k = some y ∧ RelV q y := fun k w hm => by
            obtain ⟨i, hi⟩ := List.mem_iff_getElem?.mp hm
            have li := (List.getElem?_eq_some_iff.mp hi).1
            have lr := ra.length
            obtain ⟨kv, hkv⟩ : ∃ kv, kvs[i]? = some kv := ⟨_, List.getElem?_eq_getElem (by omega)⟩
            have rel : kv.1 = k ∧ RelV kv.2 w := by
              obtain ⟨u', e1, e2, e3⟩ := kv_get ra hkv
              rw [hi] at e1
              cases e1
              exact ⟨e2, e3⟩
            have hk : ks[i]? = some k := by rw [← a2, List.getElem?_map, hkv, ← rel.1]; rfl
            have l0 : kvs.length = ks.length := by rw [← a2, List.length_map]
            obtain ⟨d, hd⟩ : ∃ d, ds[i]? = some d := ⟨_, List.getElem?_eq_getElem (by omega)⟩
            obtain ⟨p, hp, rp⟩ := a3.get hd
            have ep : p = kv.2 := by
              rw [List.getElem?_map, hkv] at hp
              cases hp; rfl
            subst ep
            have dg := dget_nd nd hk hd
            rw [← b2] at dg
            obtain ⟨q, hq, rq⟩ := dct_get b3 dg
            have rv := rb.val k
            rw [hq] at rv
            obtain ⟨y, hy, ry⟩ := rv.some_of
            exact ⟨d, kv.2, q, y, eqoksN_at h hd, rp, rq, rel.2, hy, ry⟩
          have t := PySem.W.EqTree.dicts (prog := X.prog) (w := X.w) (n := n + 4) (e := fun _ => true) e ya yb da db (fun k w y hm hv => by
            obtain ⟨d, p, q, y', e1, e2, e3, e4, e5, e6⟩ := look k w hm
            rw [hv] at e5
            cases e5
            exact tree_ok I sb n d p q w y e1 e2 e3 e4 e6)
          have z : (va.length == vb.length && va.all fun p => (valueAt vb p.1).isSome && true) = true := by
            rw [Bool.and_eq_true, beq_iff_eq, List.all_eq_true]
            refine ⟨?_, fun p hp => ?_⟩
            · have q1 : kvs.length = ks.length := by rw [← a2, List.length_map]
              have q2 : lvs.length = ks.length := by rw [← b2, List.length_map]
              have := ra.length
              have := rb.length
              omega
            · obtain ⟨_, _, _, y, _, _, _, _, e5, _⟩ := look p.1 p.2 hp
              rw [e5]; rfl
          rw [z] at t
          exact t
end
section
variable {X : Cx}
theorem od_eqN (hu : X.A.units + 64 < cLine) : OpR X (compareOp .Eq) (rDat X.K opEqN) := by
  intro pins s σ H x y v u Q I rx ry ⟨G, B, σ', e, a, b, d, S, r1, r2, hd, h⟩
  unfold opEqN at hd
  split at hd
  · rename_i ds
    split at hd
    · rename_i z
      cases hd
      rw [Bool.and_eq_true] at z
      obtain rfl := sm_eq z.2
      have hn : D.eqoksN 19 ds = true := by
        have := z.1
        unfold D.eqokN at this
        exact this
      have sb := S.sub
      cases r1 with
      | @tup a xs _ s1 c1 =>
        cases r2 with
        | @tup b ys _ s2 c2 =>
          obtain rfl : v = Value.ref a := rx
          obtain rfl : u = Value.ref b := ry
          obtain ⟨its, rv, pt, _⟩ := I.tuple (same_sqT sb s1)
          obtain ⟨its2, rv2, pt2, _⟩ := I.tuple (same_sqT sb s2)
          have l1 := rv.length
          have l2 := rv2.length
          have l3 := c1.length
          have l4 := c2.length
          refine PySem.W.eq_tuplesT (n := 19 + 4) (e := fun _ => true) pt pt2 (fun j j1 j2 => by
            simp only [List.size_toArray] at j1 j2
            obtain ⟨d, hd⟩ : ∃ d, ds[j]? = some d := ⟨_, List.getElem?_eq_getElem (by omega)⟩
            obtain ⟨p, hp, rp⟩ := c1.get hd
            obtain ⟨q, hq, rq⟩ := c2.get hd
            obtain ⟨p', hp', rp'⟩ := rv.get hp
            obtain ⟨q', hq', rq'⟩ := rv2.get hq
            have e1 : its.toArray[j] = p' := by
              have := (List.getElem?_eq_some_iff.mp hp').2
              simpa using this
            have e2 : its2.toArray[j] = q' := by
              have := (List.getElem?_eq_some_iff.mp hq').2
              simpa using this
            rw [e1, e2]
            exact tree_ok I sb 19 d p q p' q' (eqoksN_at hn hd) rp rq rp' rq') (by omega) ?_
          have z : ((List.range (min its.toArray.size its2.toArray.size)).all (fun _ => true) && its.toArray.size == its2.toArray.size) = true := by
            rw [all_trueN, Bool.true_and]
            simp only [List.size_toArray, beq_iff_eq]
            omega
          rw [z]
          exact ⟨.bl _, H, I, rfl, h _ B H S (Same.refl B) (.bl _)⟩
    · cases hd
  · cases hd
end
theorem foldl_max : ∀ (ns : List Int) (n : Int), (ns.foldl (fun a b => if b > a then b else a) n ∈ n :: ns) ∧ ∀ y ∈ n :: ns, y ≤ ns.foldl (fun a b => if b > a then b else a) n
  | [], n => ⟨List.mem_singleton.mpr rfl, fun y hy => by rw [List.mem_singleton.mp hy]; exact Int.le_refl _⟩
  | m :: ns, n => by
    obtain ⟨h1, h2⟩ := foldl_max ns (if m > n then m else n)
    rw [List.foldl_cons]
    refine ⟨?_, fun y hy => ?_⟩
    · rcases List.mem_cons.mp h1 with e | e
      · rw [e]; split <;> simp
      · simp [e]
    · have h0 := h2 (if m > n then m else n) List.mem_cons_self
      rcases List.mem_cons.mp hy with rfl | hy
      · refine Int.le_trans ?_ h0
        split <;> omega
      · rcases List.mem_cons.mp hy with rfl | hy
        · refine Int.le_trans ?_ h0
          split <;> omega
        · exact h2 y (List.mem_cons_of_mem _ hy)
theorem cd_maxL {X : Cx} (hc : X.calm = true) : CallR X (.builtin "max") (rDatC X.K bfMaxL) := by
  intro pins s σ H xs us Q I r ⟨G, B, σ', e, ds, d, S, rs, hd, h⟩
  unfold bfMaxL at hd
  split at hd
  · obtain ⟨ns, h1, h2⟩ := Option.bind_eq_some_iff.mp hd
    cases rs with
    | cons r0 rr =>
      cases rr
      cases r0 with
      | lst h3 q2 =>
        obtain rfl := ints_rep h1 q2
        cases ns with
        | nil => cases h2
        | cons n ns =>
          cases h2
          refine cr_max hc pins s σ H _ us Q I r ⟨_, n :: ns, rfl, same_sqL S.sub h3, by simp, fun m m1 m2 => ?_⟩
          obtain ⟨f1, f2⟩ := foldl_max ns n
          have e : m = ns.foldl (fun a b => if b > a then b else a) n := Int.le_antisymm (f2 m m1) (m2 _ f1)
          rw [e]
          exact h _ B H S (Same.refl B) (.int _)
  · cases hd
section
variable {K : PySem.W.Frag} {mg : Str → Option Value} {W : Am K} {k : RK}
theorem rs_forDX {i j : Nat} {g : TG} {o : List Nat} {gm : D → Env → Option Env} {b : MS} {wi : TI} {f : D → Option (List D)} (hg : RdG K o g gm) (hf : ∀ x rs, f x = some rs → ∃ ks ds, x = .dct ks ds)
    (hw : ∀ (σ : L2.St) (H : Hp) (p d : Addr) (xs : List V) (x : Obj) (kvs : List (Key × V)) (ds rs : List D) (R : It → Hp → Prop) (B : Hp), σ[i]? = some (some (.ref p)) → SqT K H p xs → xs[j]? = some (.ref d) → B d = some (.frz x (.dK kvs)) → H d = some (.frz x (.dK kvs)) → Reps K B (kvs.map (·.2)) ds → f (.dct (kvs.map (·.1)) ds) = some rs → (∀ J, ItOk K B J rs → R J H) → wi σ H R) :
    RdS K mg W k (tForD wi g (fun Wx => canS K mg (W.to Wx) k b) W.w) (vForDX f i j gm b) := fun G hG B H σ e D S h => by
  unfold vForDX at h
  split at h
  · rename_i es z
    split at h
    · rename_i x hx
      split at h
      · rename_i rs q
        obtain ⟨v, hv, ok⟩ := S.sl i _ z
        cases ok with
        | sh r =>
          cases r with
          | @tup p xs _ hq rr =>
            obtain ⟨w, hwx, r⟩ := rr.get hx
            obtain ⟨ks, ds, rfl⟩ := hf x rs q
            cases r with
            | @dct a kvs _ _ h1 h2 h3 =>
              subst h2
              rcases h1 with hB | ⟨od, hB⟩
              · refine .inl ⟨a, .dK kvs, S.sub _ _ hB, trivial, fun od => ?_⟩
                have nB : B a ≠ none := by rw [hB]; simp
                have S1 := S.lock (od := od) hB
                have nH : H a ≠ none := fun y => nB (S.sub.free y)
                have eH : lkH a (.frz od (.dK kvs)) H = upd H a (.frz od (.dK kvs)) := lk_upd nH
                have l : LkOk B (lkH a (.frz od (.dK kvs)) B) a kvs := ⟨fun c y => lk_ne y, .inl hB, .inr ⟨od, lk_at nB⟩⟩
                have h1 := PoS.lock (od := od) S hB h
                rw [← eH]
                refine hw σ _ p a xs od kvs ds rs _ (lkH a (.frz od (.dK kvs)) B) hv (same_sqT S1.sub (sqT_lk l hq)) hwx (lk_at nB) (lk_at nH) (Reps.lk l h3) q fun J it => ?_
                exact for_go (W := W.to (wLk a od (.dK kvs) W.w)) hg rs_can (W.lk G a _ (fun o y => .inl ⟨kvs, by rw [S.b0 _ _ y] at hB; cases hB; rfl⟩) hG) S1 it h1
              · refine .inr (hw σ H p a xs od kvs ds rs _ B hv (same_sqT S.sub hq) hwx hB (S.sub _ _ hB) h3 q fun J it => ?_)
                exact for_go (W := W) hg rs_can hG S it h
      · exact h.elim
    · exact h.elim
  · exact h.elim
end
section
variable {X : Cx} {W : Am X.K} {k : RK} {pos : Pos} {x : Str} {tg : Expr} {body : List Stmt} {mm : MS}
theorem vs_forIX {o : List Nat} {g : D → Env → Option Env} {p apos cpos tpos ipos jpos : Pos} {elts : List Expr} {kk jj : Nat} (i j : Nat) (hp : PassesOwn (model X.prog X.w) X.A X.env X.xe) (hc : X.calm = true) (tk : Takes X W.w) (hg : VG X.K (at1 X) o (.Tuple elts kk tpos) g) (hb : ∀ Wx, Takes X Wx → VSs X (W.to Wx) k body mm)
    (hN : X.N[i]? = some x := by rfl) (hv : Vis X.env.scope x := by first | exact Or.inl rfl | exact Or.inr (Or.inl rfl) | exact Or.inr (Or.inr rfl)) (hd : (x == ("__debug__" : Str)) = false := by decide) (hcd : (x == ("__classdict__" : Str)) = false := by decide) (hpl : PlainIx (.Constant (.int (j : Int)) jj jpos) := by intro _ _; rfl)
    (hbase : attributeBase (.Subscript (.Name x p) (.Constant (.int (j : Int)) jj jpos) ipos) "items" X.env (eval (.Subscript (.Name x p) (.Constant (.int (j : Int)) jj jpos) ipos) X.env) = eval (.Subscript (.Name x p) (.Constant (.int (j : Int)) jj jpos) ipos) X.env := by rfl) (hline : (apos.endLine == cpos.line) = true := by rfl)
    (hs : ∀ z, foldedSetIterable (.Call (.Attribute (.Subscript (.Name x p) (.Constant (.int (j : Int)) jj jpos) ipos) "items" apos) [] [] cpos) X.env z = pure z := by intro _; rfl) : VS X W k (.For (.Tuple elts kk tpos) (.Call (.Attribute (.Subscript (.Name x p) (.Constant (.int (j : Int)) jj jpos) ipos) "items" apos) [] [] cpos) body [] pos) (vForDX dItems i j g mm) := by
  obtain ⟨_, p', r'⟩ := hg
  refine ⟨_, ps_forD (tb := fun Wx => canS X.K X.mg (W.to Wx) k mm) hp hc tk (pi_items (pe_ix (ix_seq : IxR X (rIx X.K)) (pe_var hN hv hd hcd) pe_int hpl) hbase hline) (p' ()) (fun Wx t => (hb Wx t).can) hs, rs_forDX r' dItems_is fun σ H p d xs x kvs ds rs R B hv hq hx hB hH r q h => ?_⟩
  unfold dItems at q
  dsimp only at q
  split at q
  · cases q
    exact ⟨_, hv, .inr (.inl ⟨p, xs, (j : Int), .ref d, rfl, rfl, hq, atI_nat hx, d, x, kvs, rfl, hH, h _ (iti_ok hB r)⟩)⟩
  · cases q
end
/-- a def that isn't reached, told to hand back a new list -/
theorem Def1.botF {P : Program} {w : World} {K : PySem.W.Frag} {mg : Str → Option Value} {x : Str} {st : Stmt} {ps : List Str} {k : Nat} (d : Def1 K mg x st ps) : Ok1 P w K mg x ps k (spF K mg fun _ => .bot) :=
  let ⟨f, fd, F, g, b⟩ := d; ⟨f, fd, g, F.kp, b, fun base => ⟨fun vs H Q E ⟨_, _, _, _, h⟩ => h.elim, fun A outer s H args us vs Q E hr h0 hb hv ⟨_, _, _, _, h⟩ => h.elim⟩⟩
end VL

namespace VL
open PySem PySem.Spec PyProof.Rows L2
def g_WHOLE : D := .tup [(.int 1), (.int 1)]
noncomputable section
/-- _law_reels -/
def b__law_reels : MS := (vSeq (vRet (vDisp (vPC (vC (.str "a")) (vOp opAdd (vC (.int 60)) (vOp opMod (vVar 0) (vC (.int 300)))) (vPC (vC (.str "reelb")) (vOp opPow (vC (.int 10)) (vC (.int 9))) vPN))))
    vNext)
def fn__law_reels : List D → FR := runB 1 1 b__law_reels
/-- _law_stream -/
def b__law_stream_1 : MS := (vSeq (vApp 2 (vOp opMod (vVar 3) (vC (.int 10000000019))))
    (vSeq (vAsg (vOp opFdiv (vVar 3) (vC (.int 10000000019))) (gNam 3))
    vNext))
def b__law_stream_2 : MS := (vSeq (vAsg (vOp opAdd (vOp opAdd (vOp opMod (vOp opMul (vVar 5) (vOp opAdd (vOp opFdiv (vVar 5) (vC (.int 1009))) (vC (.int 69621)))) (vC (.int 2147483647))) (vVar 4)) (vC (.int 1))) (gNam 5))
    (vSeq (vApp 2 (vVar 5))
    vNext))
def b__law_stream : MS := (vSeq (vAsgF 2 (vLstD vNil))
    (vSeq (vIf (vTest (vOp opGe (vVar 0) (vOp opPow (vC (.int 10)) (vC (.int 40)))))
    (vSeq (vAsg (vOp opFdiv (vVar 0) (vC (.int 7))) (gNam 3))
    (vSeq (vFor (vRng1 (vCons (vVar 1) vNil)) (gNam 4)
    b__law_stream_1)
    (vSeq (vRetF (vRevF (vVar 2)))
    vNext)))
    vNext)
    (vSeq (vAsg (vOp opMod (vOp opMul (vOp opAdd (vOp opMod (vVar 0) (vC (.int 2147483647))) (vC (.int 1))) (vC (.int 48271))) (vC (.int 2147483647))) (gNam 5))
    (vSeq (vFor (vRng1 (vCons (vVar 1) vNil)) (gNam 4)
    b__law_stream_2)
    (vSeq (vRetF (vOwn 2))
    vNext)))))
def fn__law_stream : List D → FR := runB 2 6 b__law_stream
/-- _law_lowest -/
def c__law_lowest_1 : MB := (vTest (vOp opNe (vVar 3) (vC (.int 0))))
def b__law_lowest_1 : MS := (vSeq (vPar 2 3 (vVar 3) (vOp opMod (vVar 2) (vVar 3)))
    vNext)
def b__law_lowest : MS := (vSeq (vAsg (vBf bfAbs (vCons (vVar 0) vNil)) (gNam 2))
    (vSeq (vAsg (vVar 1) (gNam 3))
    (vSeq (vWhile c__law_lowest_1
    b__law_lowest_1)
    (vSeq (vRet (vTupD (vCons (vOp opFdiv (vVar 0) (vVar 2)) (vCons (vOp opFdiv (vVar 1) (vVar 2)) vNil))))
    vNext))))
def fn__law_lowest : List D → FR := runB 2 4 b__law_lowest
/-- _law_clip -/
def b__law_clip : MS := (vSeq (vAsg (vOp opIx (vOf (vLstD (vCons (vC (.str "a")) (vCons (vC (.str "reelb")) vNil)))) (vOp opMod (vOp opFdiv (vPop 0) (vC (.int 3))) (vC (.int 2)))) (gNam 3))
    (vSeq (vAsg (vOp opAdd (vC (.int 1)) (vOp opMod (vOp opFdiv (vPop 0) (vC (.int 3))) (vVar 2))) (gNam 4))
    (vSeq (vAsg (vOp opSub (vOp opMod (vOp opFdiv (vPop 0) (vC (.int 3))) (vC (.int 13))) (vC (.int 6))) (gNam 5))
    (vSeq (vAsg (vOp opAdd (vC (.int 1)) (vOp opMod (vOp opFdiv (vPop 0) (vC (.int 3))) (vC (.int 5)))) (gNam 6))
    (vSeq (vAsg (vOp opAdd (vOp opFdiv (vOp opMul (vOp opSub (vVar 4) (vC (.int 1))) (vBf bfAbs (vCons (vVar 5) vNil))) (vVar 6)) (vC (.int 1))) (gNam 7))
    (vSeq (vIf (vTest (vOp opGe (vVar 7) (vOp opIx (vVar 1) (vVar 3))))
    (vSeq (vAsg (vC (.int 0)) (gNam 5))
    (vSeq (vAsg (vC (.int 1)) (gNam 7))
    vNext))
    vNext)
    (vSeq (vAsg (vOp opMod (vPop 0) (vOp opSub (vOp opIx (vVar 1) (vVar 3)) (vVar 7))) (gNam 8))
    (vSeq (vAsg (vOp opMod (vOp opFdiv (vPop 0) (vC (.int 3))) (vC (.int 7))) (gNam 9))
    (vSeq (vAsg (vOp opAdd (vOp opMul (vOp opMul (vVar 8) (vC (.int 7))) (vVar 6)) (vOp opMul (vVar 9) (vVar 6))) (gNam 10))
    (vSeq (vIf (vTest (vOp opLt (vVar 5) (vC (.int 0))))
    (vSeq (vAsg (vOp opSub (vVar 10) (vOp opMul (vOp opMul (vC (.int 7)) (vOp opSub (vVar 4) (vC (.int 1)))) (vVar 5))) (gNam 10))
    vNext)
    vNext)
    (vSeq (vRet (vTupD (vCons (vC (.str "clip")) (vCons (vVar 3) (vCons (vCall fn__law_lowest (vCons (vVar 10) (vCons (vOp opMul (vC (.int 7)) (vVar 6)) vNil))) (vCons (vCall fn__law_lowest (vCons (vVar 5) (vCons (vVar 6) vNil))) (vCons (vVar 4) vNil)))))))
    vNext)))))))))))
def fn__law_clip : FI := runI 3 11 0 b__law_clip
/-- _law_track -/
def b__law_track_1 : MS := (vSeq (vAsg (vOp opMod (vOp opFdiv (vPop 0) (vC (.int 3))) (vC (.int 5))) (gNam 5))
    (vSeq (vIf (vAnd (vTest (vOp opEq (vVar 5) (vC (.int 0)))) (vOr (vBorT (vTest (vOp opEq (vVar 3) (vOf (vLstD vNil))))) (vBorT (vTest (vOp opNe (vOp opIx (vOp opIx (vVar 3) (vUn opNeg (vC (.int 1)))) (vC (.int 0))) (vC (.str "gap")))))))
    (vSeq (vApp 3 (vTupD (vCons (vC (.str "gap")) (vCons (vOp opAdd (vC (.int 1)) (vOp opMod (vOp opFdiv (vPop 0) (vC (.int 3))) (vVar 2))) vNil))))
    vNext)
    (vSeq (vIf (vTest (vOp opEq (vVar 5) (vC (.int 1))))
    (vSeq (vApp 3 (vTupD (vCons (vC (.str "nest")) (vCons (vC (.str "low")) (vCons (vOp opMod (vOp opFdiv (vPop 0) (vC (.int 3))) (vC (.int 9))) (vCons (vOp opAdd (vC (.int 1)) (vOp opMod (vOp opFdiv (vPop 0) (vC (.int 3))) (vVar 2))) vNil))))))
    vNext)
    (vSeq (vApp 3 (vCallI 0 fn__law_clip (vArgI 0 (vCons (vVar 1) (vCons (vVar 2) vNil)))))
    vNext))
    vNext))
    vNext))
def b__law_track : MS := (vSeq (vAsgF 3 (vLstD vNil))
    (vSeq (vFor (vRng1 (vCons (vOp opMod (vOp opFdiv (vPop 0) (vC (.int 3))) (vC (.int 6))) vNil)) (gNam 4)
    b__law_track_1)
    (vSeq (vIf (vAnd (vBorT (vTest (vOp opNe (vVar 3) (vOf (vLstD vNil))))) (vBorT (vTest (vOp opEq (vOp opIx (vOp opIx (vVar 3) (vUn opNeg (vC (.int 1)))) (vC (.int 0))) (vC (.str "gap"))))))
    (vSeq (vDrop (vPop 3))
    vNext)
    vNext)
    (vSeq (vRetF (vOwn 3))
    vNext))))
def fn__law_track : FI := runI 3 6 0 b__law_track
/-- _law_room -/
def b__law_room_2 : MS := (vSeq (vIf (vBorT (vTest (vOp opEq (vOp opIx (vOp opIx (vVar 6) (vVar 7)) (vC (.int 0))) (vC (.str "nest")))))
    (vSeq (vSetI 6 (vVar 7) (vTupD (vCons (vC (.str "nest")) (vCons (vC (.str "deep")) (vCons (vBor (vOp opIx (vOp opIx (vVar 6) (vVar 7)) (vC (.int 2)))) (vCons (vBor (vOp opIx (vOp opIx (vVar 6) (vVar 7)) (vC (.int 3)))) vNil))))))
    vNext)
    vNext)
    vNext)
def b__law_room_1 : MS := (vSeq (vFor (vRng1 (vCons (vBor (vBf bfLen (vCons (vVar 6) vNil))) vNil)) (gNam 7)
    b__law_room_2)
    vNext)
def el__law_room_3 : ME := (vOf (vCallIF 4 fn__law_track (vArgI 4 (vCons (vVar 3) (vCons (vVar 2) vNil)))))
def b__law_room : MS := (vSeq (vAsg (vCall fn__law_reels (vCons (vOp opFdiv (vVar 0) (vC (.int 7))) vNil)) (gNam 3))
    (vSeq (vAsgF 4 (vCallF fn__law_stream (vCons (vVar 0) (vCons (vC (.int 400)) vNil))))
    (vSeq (vAsgT 5 (.t [(.l (.l .s)), (.l .s)]) (vTupD (vCons (vOf (vLstD (vCons (vOf (vCallIF 4 fn__law_track (vArgI 4 (vCons (vVar 3) (vCons (vVar 2) vNil))))) (vCons (vOf (vCallIF 4 fn__law_track (vArgI 4 (vCons (vVar 3) (vCons (vVar 2) vNil))))) vNil)))) (vCons (vOf (vLstD vNil)) vNil))))
    (vSeq (vForM 1 5 6 (vPS 5 (vP0 5) (vC (.int 0))) b__law_room_1)
    (vSeq (vAsg (vTupD (vCons (vOf (vLstD (vCons (vOf (vLstD (vCons (vCallI 4 fn__law_clip (vArgI 4 (vCons (vVar 3) (vCons (vVar 2) vNil)))) (vCons (vTupD (vCons (vC (.str "gap")) (vCons (vC (.int 3)) vNil))) (vCons (vCallI 4 fn__law_clip (vArgI 4 (vCons (vVar 3) (vCons (vVar 2) vNil)))) vNil))))) vNil))) (vCons (vOf (vLstD vNil)) vNil))) (gNam 8))
    (vSeq (vAsg (vTupD (vCons (vOf (vLc (vRng1 (vCons (vVar 1) vNil)) (gNam 7) vYes el__law_room_3 [7])) (vCons (vOf (vLstD vNil)) vNil))) (gNam 9))
    (vSeq (vRet (vTupD (vCons (vVar 3) (vCons (vDisp (vPC (vC (.str "top")) (vVar 9) (vPC (vC (.str "low")) (vVar 5) (vPC (vC (.str "deep")) (vVar 8) vPN)))) vNil))))
    vNext)))))))
def fn__law_room : List D → FR := runB 3 10 b__law_room
/-- _law_copied -/
def el__law_copied_2 : ME := (vOf (vBl bfListK (vCons (vVar 4) vNil)))
def b__law_copied_1 : MS := (vSeq (vSetK 1 (vVar 2) (vTupD (vCons (vOf (vLc (vSeqI (vOp opIx (vVar 3) (vC (.int 0)))) (gNam 4) vYes el__law_copied_2 [4])) (vCons (vOf (vBl bfListK (vCons (vOp opIx (vVar 3) (vC (.int 1))) vNil))) vNil))))
    vNext)
def b__law_copied : MS := (vSeq (vAsgK 1 vK0)
    (vSeq (vForDX dItems 0 1 (gTup' (gCon (gNam 2) (gCon (gNam 3) gNil')))
    b__law_copied_1)
    (vSeq (vRet (vTupD (vCons (vOfK (vKC (vCons (vOp opIx (vVar 0) (vC (.int 0))) vNil))) (vCons (vVar 1) vNil))))
    vNext)))
def fn__law_copied : List D → FR := runB 1 5 b__law_copied
/-- _law_cell_at -/
def b__law_cell_at : MS := (vSeq (vIf (vTest (vOp opLt (vVar 1) (vBf bfLen (vCons (vVar 0) vNil))))
    (vSeq (vRet (vOp opIx (vVar 0) (vVar 1)))
    vNext)
    vNext)
    (vSeq (vRet (vC (.int 0)))
    vNext))
def fn__law_cell_at : List D → FR := runB 2 2 b__law_cell_at
/-- room_of -/
def b_room_of : MS := (vSeq (vIf (vTest (vOp opEq (vOp opIx (vVar 0) (vC (.int 0))) (vC (.str "mix"))))
    (vSeq (vRet (vC (.int 0)))
    vNext)
    vNext)
    (vSeq (vRet (vOp opIx (vVar 0) (vUn opNeg (vC (.int 1)))))
    vNext))
def fn_room_of : List D → FR := runB 1 1 b_room_of
/-- mix_spans -/
def b_mix_spans_1 : MS := (vSeq (vIf (vTest (vOp opEq (vOp opIx (vVar 3) (vC (.int 0))) (vC (.str "mix"))))
    (vSeq (vApp 1 (vTupD (vCons (vOp opSub (vVar 2) (vOp opFdiv (vOp opIx (vVar 3) (vC (.int 1))) (vC (.int 2)))) (vCons (vVar 2) (vCons (vOp opSub (vOp opAdd (vVar 2) (vOp opIx (vVar 3) (vC (.int 1)))) (vOp opFdiv (vOp opIx (vVar 3) (vC (.int 1))) (vC (.int 2)))) vNil)))))
    vNext)
    vNext)
    (vSeq (vAsg (vOp opAdd (vVar 2) (vCall fn_room_of (vCons (vVar 3) vNil))) (gNam 2))
    vNext))
def b_mix_spans : MS := (vSeq (vAsgF 1 (vLstD vNil))
    (vSeq (vAsg (vC (.int 0)) (gNam 2))
    (vSeq (vFor (vSeqI (vVar 0)) (gNam 3)
    b_mix_spans_1)
    (vSeq (vRetF (vOwn 1))
    vNext))))
def fn_mix_spans : List D → FR := runB 1 4 b_mix_spans
/-- item_at -/
def b_item_at_1 : MS := (vSeq (vIf (vAnd (vTest (vOp opNe (vOp opIx (vVar 4) (vC (.int 0))) (vC (.str "mix")))) (vAnd (vTest (vOp opLe (vVar 2) (vVar 1))) (vTest (vOp opLt (vVar 1) (vOp opAdd (vVar 2) (vOp opIx (vVar 4) (vUn opNeg (vC (.int 1)))))))))
    (vSeq (vRet (vTupD (vCons (vVar 3) (vCons (vOp opSub (vVar 1) (vVar 2)) vNil))))
    vNext)
    vNext)
    (vSeq (vAsg (vOp opAdd (vVar 2) (vCall fn_room_of (vCons (vVar 4) vNil))) (gNam 2))
    vNext))
def b_item_at : MS := (vSeq (vAsg (vC (.int 0)) (gNam 2))
    (vSeq (vFor (vEnum (vCons (vVar 0) vNil)) (gTup' (gCon (gNam 3) (gCon (gNam 4) gNil')))
    b_item_at_1)
    (vSeq (vRet (vC .non))
    vNext)))
def fn_item_at : List D → FR := runB 2 5 b_item_at
/-- shared_by -/
def c_shared_by_1 : MB := (vTest (vOp opNe (vVar 1) (vC (.int 0))))
def b_shared_by_1 : MS := (vSeq (vPar 0 1 (vVar 1) (vOp opMod (vVar 0) (vVar 1)))
    vNext)
def b_shared_by : MS := (vSeq (vWhile c_shared_by_1
    b_shared_by_1)
    (vSeq (vRet (vBf bfAbs (vCons (vVar 0) vNil)))
    vNext))
def fn_shared_by : List D → FR := runB 2 2 b_shared_by
/-- is_whole -/
def b_is_whole : MS := (vSeq (vRet (vAndV (vIsi "int" (vVar 0)) (vNotV (vIsi "bool" (vVar 0)))))
    vNext)
def fn_is_whole : List D → FR := runB 1 1 b_is_whole
/-- fraction -/
def b_fraction : MS := (vSeq (vIf (vOr (vNot (vTest (vCall fn_is_whole (vCons (vVar 0) vNil)))) (vOr (vNot (vTest (vCall fn_is_whole (vCons (vVar 1) vNil)))) (vTest (vOp opEq (vVar 1) (vC (.int 0))))))
    (vSeq (vRaise "NoNumber")
    vNext)
    vNext)
    (vSeq (vAsg (vCall fn_shared_by (vCons (vVar 0) (vCons (vVar 1) vNil))) (gNam 2))
    (vSeq (vIf (vTest (vOp opLt (vVar 1) (vC (.int 0))))
    (vSeq (vAsg (vUn opNeg (vVar 2)) (gNam 2))
    vNext)
    vNext)
    (vSeq (vRet (vTupD (vCons (vOp opFdiv (vVar 0) (vVar 2)) (vCons (vOp opFdiv (vVar 1) (vVar 2)) vNil))))
    vNext))))
def fn_fraction : List D → FR := runB 2 3 b_fraction
/-- mix_shares -/
def b_mix_shares : MS := (vSeq (vRet (vTupD (vCons (vCall fn_fraction (vCons (vOp opSub (vVar 0) (vVar 1)) (vCons (vOp opAdd (vVar 0) (vC (.int 1))) vNil))) (vCons (vCall fn_fraction (vCons (vOp opAdd (vVar 1) (vC (.int 1))) (vCons (vOp opAdd (vVar 0) (vC (.int 1))) vNil))) vNil))))
    vNext)
def fn_mix_shares : List D → FR := runB 2 2 b_mix_shares
/-- floor_of -/
def b_floor_of : MS := (vSeq (vRet (vOp opFdiv (vOp opIx (vVar 0) (vC (.int 0))) (vOp opIx (vVar 0) (vC (.int 1)))))
    vNext)
def fn_floor_of : List D → FR := runB 1 1 b_floor_of
/-- sum_of -/
def b_sum_of : MS := (vSeq (vRet (vCall fn_fraction (vCons (vOp opAdd (vOp opMul (vOp opIx (vVar 0) (vC (.int 0))) (vOp opIx (vVar 1) (vC (.int 1)))) (vOp opMul (vOp opIx (vVar 1) (vC (.int 0))) (vOp opIx (vVar 0) (vC (.int 1))))) (vCons (vOp opMul (vOp opIx (vVar 0) (vC (.int 1))) (vOp opIx (vVar 1) (vC (.int 1)))) vNil))))
    vNext)
def fn_sum_of : List D → FR := runB 2 2 b_sum_of
/-- times_of -/
def b_times_of : MS := (vSeq (vRet (vCall fn_fraction (vCons (vOp opMul (vOp opIx (vVar 0) (vC (.int 0))) (vOp opIx (vVar 1) (vC (.int 0)))) (vCons (vOp opMul (vOp opIx (vVar 0) (vC (.int 1))) (vOp opIx (vVar 1) (vC (.int 1)))) vNil))))
    vNext)
def fn_times_of : List D → FR := runB 2 2 b_times_of
/-- place_at -/
def b_place_at : MS := (vSeq (vRet (vCall fn_sum_of (vCons (vOp opIx (vVar 0) (vC (.int 2))) (vCons (vCall fn_times_of (vCons (vOp opIx (vVar 0) (vC (.int 3))) (vCons (vTupD (vCons (vVar 1) (vCons (vC (.int 1)) vNil))) vNil))) vNil))))
    vNext)
def fn_place_at : List D → FR := runB 2 2 b_place_at
/-- picture_at -/
def b_picture_at : MS := (vSeq (vRet (vCall fn_floor_of (vCons (vCall fn_place_at (vCons (vVar 0) (vCons (vVar 1) vNil))) vNil)))
    vNext)
def fn_picture_at : List D → FR := runB 2 2 b_picture_at
/-- told_mix -/
def b_told_mix : MS := (vSeq (vAsg (vVar 1) (gTup' (gCon (gNam 3) (gCon (gNam 4) (gCon (gNam 5) gNil')))))
    (vSeq (vAsg (vCall fn_item_at (vCons (vVar 0) (vCons (vVar 4) vNil))) (gTup' (gCon (gNam 6) (gCon (gNam 7) gNil'))))
    (vSeq (vAsg (vOp opIx (vVar 0) (vOp opSub (vVar 6) (vC (.int 2)))) (gNam 8))
    (vSeq (vAsg (vOp opIx (vVar 0) (vVar 6)) (gNam 9))
    (vSeq (vAsg (vCall fn_mix_shares (vCons (vOp opSub (vVar 5) (vVar 3)) (vCons (vOp opSub (vVar 2) (vVar 3)) vNil))) (gTup' (gCon (gNam 10) (gCon (gNam 11) gNil'))))
    (vSeq (vRetF (vLstD (vCons (vTupD (vCons (vOp opIx (vVar 8) (vC (.int 1))) (vCons (vCall fn_picture_at (vCons (vVar 8) (vCons (vOp opSub (vOp opAdd (vOp opIx (vVar 8) (vUn opNeg (vC (.int 1)))) (vVar 2)) (vVar 4)) vNil))) (vCons (vVar 10) vNil)))) (vCons (vTupD (vCons (vOp opIx (vVar 9) (vC (.int 1))) (vCons (vCall fn_picture_at (vCons (vVar 9) (vCons (vOp opSub (vVar 2) (vVar 4)) vNil))) (vCons (vVar 11) vNil)))) vNil))))
    vNext))))))
def fn_told_mix : List D → FR := runB 3 12 b_told_mix
/-- told_at__0 -/
def fn_told_at__0 : List D → FR := fun _ => .bot
/-- told_on__1 -/
def b_told_on__1_1 : MS := (vSeq (vIf (vAnd (vTest (vOp opLe (vOp opIx (vVar 3) (vC (.int 0))) (vVar 1))) (vTest (vOp opLt (vVar 1) (vOp opIx (vVar 3) (vC (.int 2))))))
    (vSeq (vRetF (vCallF fn_told_mix (vCons (vVar 0) (vCons (vVar 3) (vCons (vVar 1) vNil)))))
    vNext)
    vNext)
    vNext)
def b_told_on__1 : MS := (vSeq (vFor (vSeqI (vOf (vCallF fn_mix_spans (vCons (vVar 0) vNil)))) (gNam 3)
    b_told_on__1_1)
    (vSeq (vAsg (vCall fn_item_at (vCons (vVar 0) (vCons (vVar 1) vNil))) (gNam 4))
    (vSeq (vIf (vOr (vTest (vOp opIs (vVar 4) (vC .non))) (vTest (vOp opEq (vOp opIx (vOp opIx (vVar 0) (vOp opIx (vVar 4) (vC (.int 0)))) (vC (.int 0))) (vC (.str "gap")))))
    (vSeq (vRetF (vLstD vNil))
    vNext)
    vNext)
    (vSeq (vAsg (vOp opIx (vVar 0) (vOp opIx (vVar 4) (vC (.int 0)))) (gNam 5))
    (vSeq (vIf (vTest (vOp opEq (vOp opIx (vVar 5) (vC (.int 0))) (vC (.str "nest"))))
    (vSeq (vRetF (vCallF fn_told_at__0 (vCons (vVar 2) (vCons (vOp opIx (vVar 5) (vC (.int 1))) (vCons (vOp opAdd (vOp opIx (vVar 5) (vC (.int 2))) (vOp opIx (vVar 4) (vC (.int 1)))) vNil)))))
    vNext)
    vNext)
    (vSeq (vRetF (vLstD (vCons (vTupD (vCons (vOp opIx (vVar 5) (vC (.int 1))) (vCons (vCall fn_picture_at (vCons (vVar 5) (vCons (vOp opIx (vVar 4) (vC (.int 1))) vNil))) (vCons (vC g_WHOLE) vNil)))) vNil)))
    vNext))))))
def fn_told_on__1 : List D → FR := runB 3 6 b_told_on__1
/-- told_at__1 -/
def b_told_at__1_1 : MS := (vSeq (vAsgF 4 (vCallF fn_told_on__1 (vCons (vVar 3) (vCons (vVar 2) (vCons (vVar 0) vNil)))))
    (vSeq (vIf (vBorT (vTest (vOp opNe (vVar 4) (vOf (vLstD vNil)))))
    (vSeq (vRetF (vOwn 4))
    vNext)
    vNext)
    vNext))
def b_told_at__1 : MS := (vSeq (vFor (vSeqI (vOp opIx (vOp opIx (vOp opIx (vVar 0) (vC (.int 1))) (vVar 1)) (vC (.int 0)))) (gNam 3)
    b_told_at__1_1)
    (vSeq (vRetF (vLstD vNil))
    vNext))
def fn_told_at__1 : List D → FR := runB 3 5 b_told_at__1
/-- told_on__2 -/
def b_told_on__2_1 : MS := (vSeq (vIf (vAnd (vTest (vOp opLe (vOp opIx (vVar 3) (vC (.int 0))) (vVar 1))) (vTest (vOp opLt (vVar 1) (vOp opIx (vVar 3) (vC (.int 2))))))
    (vSeq (vRetF (vCallF fn_told_mix (vCons (vVar 0) (vCons (vVar 3) (vCons (vVar 1) vNil)))))
    vNext)
    vNext)
    vNext)
def b_told_on__2 : MS := (vSeq (vFor (vSeqI (vOf (vCallF fn_mix_spans (vCons (vVar 0) vNil)))) (gNam 3)
    b_told_on__2_1)
    (vSeq (vAsg (vCall fn_item_at (vCons (vVar 0) (vCons (vVar 1) vNil))) (gNam 4))
    (vSeq (vIf (vOr (vTest (vOp opIs (vVar 4) (vC .non))) (vTest (vOp opEq (vOp opIx (vOp opIx (vVar 0) (vOp opIx (vVar 4) (vC (.int 0)))) (vC (.int 0))) (vC (.str "gap")))))
    (vSeq (vRetF (vLstD vNil))
    vNext)
    vNext)
    (vSeq (vAsg (vOp opIx (vVar 0) (vOp opIx (vVar 4) (vC (.int 0)))) (gNam 5))
    (vSeq (vIf (vTest (vOp opEq (vOp opIx (vVar 5) (vC (.int 0))) (vC (.str "nest"))))
    (vSeq (vRetF (vCallF fn_told_at__1 (vCons (vVar 2) (vCons (vOp opIx (vVar 5) (vC (.int 1))) (vCons (vOp opAdd (vOp opIx (vVar 5) (vC (.int 2))) (vOp opIx (vVar 4) (vC (.int 1)))) vNil)))))
    vNext)
    vNext)
    (vSeq (vRetF (vLstD (vCons (vTupD (vCons (vOp opIx (vVar 5) (vC (.int 1))) (vCons (vCall fn_picture_at (vCons (vVar 5) (vCons (vOp opIx (vVar 4) (vC (.int 1))) vNil))) (vCons (vC g_WHOLE) vNil)))) vNil)))
    vNext))))))
def fn_told_on__2 : List D → FR := runB 3 6 b_told_on__2
/-- told_at__2 -/
def b_told_at__2_1 : MS := (vSeq (vAsgF 4 (vCallF fn_told_on__2 (vCons (vVar 3) (vCons (vVar 2) (vCons (vVar 0) vNil)))))
    (vSeq (vIf (vBorT (vTest (vOp opNe (vVar 4) (vOf (vLstD vNil)))))
    (vSeq (vRetF (vOwn 4))
    vNext)
    vNext)
    vNext))
def b_told_at__2 : MS := (vSeq (vFor (vSeqI (vOp opIx (vOp opIx (vOp opIx (vVar 0) (vC (.int 1))) (vVar 1)) (vC (.int 0)))) (gNam 3)
    b_told_at__2_1)
    (vSeq (vRetF (vLstD vNil))
    vNext))
def fn_told_at__2 : List D → FR := runB 3 5 b_told_at__2
/-- told_on__3 -/
def b_told_on__3_1 : MS := (vSeq (vIf (vAnd (vTest (vOp opLe (vOp opIx (vVar 3) (vC (.int 0))) (vVar 1))) (vTest (vOp opLt (vVar 1) (vOp opIx (vVar 3) (vC (.int 2))))))
    (vSeq (vRetF (vCallF fn_told_mix (vCons (vVar 0) (vCons (vVar 3) (vCons (vVar 1) vNil)))))
    vNext)
    vNext)
    vNext)
def b_told_on__3 : MS := (vSeq (vFor (vSeqI (vOf (vCallF fn_mix_spans (vCons (vVar 0) vNil)))) (gNam 3)
    b_told_on__3_1)
    (vSeq (vAsg (vCall fn_item_at (vCons (vVar 0) (vCons (vVar 1) vNil))) (gNam 4))
    (vSeq (vIf (vOr (vTest (vOp opIs (vVar 4) (vC .non))) (vTest (vOp opEq (vOp opIx (vOp opIx (vVar 0) (vOp opIx (vVar 4) (vC (.int 0)))) (vC (.int 0))) (vC (.str "gap")))))
    (vSeq (vRetF (vLstD vNil))
    vNext)
    vNext)
    (vSeq (vAsg (vOp opIx (vVar 0) (vOp opIx (vVar 4) (vC (.int 0)))) (gNam 5))
    (vSeq (vIf (vTest (vOp opEq (vOp opIx (vVar 5) (vC (.int 0))) (vC (.str "nest"))))
    (vSeq (vRetF (vCallF fn_told_at__2 (vCons (vVar 2) (vCons (vOp opIx (vVar 5) (vC (.int 1))) (vCons (vOp opAdd (vOp opIx (vVar 5) (vC (.int 2))) (vOp opIx (vVar 4) (vC (.int 1)))) vNil)))))
    vNext)
    vNext)
    (vSeq (vRetF (vLstD (vCons (vTupD (vCons (vOp opIx (vVar 5) (vC (.int 1))) (vCons (vCall fn_picture_at (vCons (vVar 5) (vCons (vOp opIx (vVar 4) (vC (.int 1))) vNil))) (vCons (vC g_WHOLE) vNil)))) vNil)))
    vNext))))))
def fn_told_on__3 : List D → FR := runB 3 6 b_told_on__3
/-- told_at__3 -/
def b_told_at__3_1 : MS := (vSeq (vAsgF 4 (vCallF fn_told_on__3 (vCons (vVar 3) (vCons (vVar 2) (vCons (vVar 0) vNil)))))
    (vSeq (vIf (vBorT (vTest (vOp opNe (vVar 4) (vOf (vLstD vNil)))))
    (vSeq (vRetF (vOwn 4))
    vNext)
    vNext)
    vNext))
def b_told_at__3 : MS := (vSeq (vFor (vSeqI (vOp opIx (vOp opIx (vOp opIx (vVar 0) (vC (.int 1))) (vVar 1)) (vC (.int 0)))) (gNam 3)
    b_told_at__3_1)
    (vSeq (vRetF (vLstD vNil))
    vNext))
def fn_told_at__3 : List D → FR := runB 3 5 b_told_at__3
/-- told_on -/
def b_told_on_1 : MS := (vSeq (vIf (vAnd (vTest (vOp opLe (vOp opIx (vVar 3) (vC (.int 0))) (vVar 1))) (vTest (vOp opLt (vVar 1) (vOp opIx (vVar 3) (vC (.int 2))))))
    (vSeq (vRetF (vCallF fn_told_mix (vCons (vVar 0) (vCons (vVar 3) (vCons (vVar 1) vNil)))))
    vNext)
    vNext)
    vNext)
def b_told_on : MS := (vSeq (vFor (vSeqI (vOf (vCallF fn_mix_spans (vCons (vVar 0) vNil)))) (gNam 3)
    b_told_on_1)
    (vSeq (vAsg (vCall fn_item_at (vCons (vVar 0) (vCons (vVar 1) vNil))) (gNam 4))
    (vSeq (vIf (vOr (vTest (vOp opIs (vVar 4) (vC .non))) (vTest (vOp opEq (vOp opIx (vOp opIx (vVar 0) (vOp opIx (vVar 4) (vC (.int 0)))) (vC (.int 0))) (vC (.str "gap")))))
    (vSeq (vRetF (vLstD vNil))
    vNext)
    vNext)
    (vSeq (vAsg (vOp opIx (vVar 0) (vOp opIx (vVar 4) (vC (.int 0)))) (gNam 5))
    (vSeq (vIf (vTest (vOp opEq (vOp opIx (vVar 5) (vC (.int 0))) (vC (.str "nest"))))
    (vSeq (vRetF (vCallF fn_told_at__3 (vCons (vVar 2) (vCons (vOp opIx (vVar 5) (vC (.int 1))) (vCons (vOp opAdd (vOp opIx (vVar 5) (vC (.int 2))) (vOp opIx (vVar 4) (vC (.int 1)))) vNil)))))
    vNext)
    vNext)
    (vSeq (vRetF (vLstD (vCons (vTupD (vCons (vOp opIx (vVar 5) (vC (.int 1))) (vCons (vCall fn_picture_at (vCons (vVar 5) (vCons (vOp opIx (vVar 4) (vC (.int 1))) vNil))) (vCons (vC g_WHOLE) vNil)))) vNil)))
    vNext))))))
def fn_told_on : List D → FR := runB 3 6 b_told_on
/-- told_at -/
def b_told_at_1 : MS := (vSeq (vAsgF 4 (vCallF fn_told_on (vCons (vVar 3) (vCons (vVar 2) (vCons (vVar 0) vNil)))))
    (vSeq (vIf (vBorT (vTest (vOp opNe (vVar 4) (vOf (vLstD vNil)))))
    (vSeq (vRetF (vOwn 4))
    vNext)
    vNext)
    vNext))
def b_told_at : MS := (vSeq (vFor (vSeqI (vOp opIx (vOp opIx (vOp opIx (vVar 0) (vC (.int 1))) (vVar 1)) (vC (.int 0)))) (gNam 3)
    b_told_at_1)
    (vSeq (vRetF (vLstD vNil))
    vNext))
def fn_told_at : List D → FR := runB 3 5 b_told_at
/-- _law_kinds -/
def b__law_kinds_1 : MS := (vSeq (vIf (vOr (vNot (vTest (vIsi "tuple" (vVar 1)))) (vOr (vTest (vOp opNe (vBf bfLen (vCons (vVar 1) vNil)) (vC (.int 3)))) (vNot (vTest (vIsi "str" (vOp opIx (vVar 1) (vC (.int 0))))))))
    (vSeq (vRet (vC (.bl false)))
    vNext)
    vNext)
    (vSeq (vIf (vOr (vNot (vTest (vIsi "int" (vOp opIx (vVar 1) (vC (.int 1)))))) (vOr (vTest (vIsi "bool" (vOp opIx (vVar 1) (vC (.int 1))))) (vNot (vTest (vIsi "tuple" (vOp opIx (vVar 1) (vC (.int 2))))))))
    (vSeq (vRet (vC (.bl false)))
    vNext)
    vNext)
    vNext))
def b__law_kinds : MS := (vSeq (vIf (vNot (vTest (vIsi "list" (vVar 0))))
    (vSeq (vRet (vC (.bl false)))
    vNext)
    vNext)
    (vSeq (vFor (vSeqI (vVar 0)) (gNam 1)
    b__law_kinds_1)
    (vSeq (vRet (vC (.bl true)))
    vNext)))
def fn__law_kinds : List D → FR := runB 1 2 b__law_kinds
/-- _law_due -/
def b__law_due_1 : MS := (vSeq (vIf (vAnd (vTest (vOp opLe (vVar 3) (vVar 1))) (vTest (vOp opLt (vVar 1) (vOp opAdd (vVar 3) (vOp opIx (vVar 4) (vUn opNeg (vC (.int 1))))))))
    (vSeq (vIf (vTest (vOp opEq (vOp opIx (vVar 4) (vC (.int 0))) (vC (.str "gap"))))
    (vSeq (vRetF (vLstD vNil))
    vNext)
    vNext)
    (vSeq (vIf (vTest (vOp opEq (vOp opIx (vVar 4) (vC (.int 0))) (vC (.str "nest"))))
    (vSeq (vRetF (vCallF fn_told_at (vCons (vVar 2) (vCons (vOp opIx (vVar 4) (vC (.int 1))) (vCons (vOp opSub (vOp opAdd (vOp opIx (vVar 4) (vC (.int 2))) (vVar 1)) (vVar 3)) vNil)))))
    vNext)
    vNext)
    (vSeq (vAsg (vOp opAdd (vOp opMul (vOp opIx (vOp opIx (vVar 4) (vC (.int 2))) (vC (.int 0))) (vOp opIx (vOp opIx (vVar 4) (vC (.int 3))) (vC (.int 1)))) (vOp opMul (vOp opMul (vOp opSub (vVar 1) (vVar 3)) (vOp opIx (vOp opIx (vVar 4) (vC (.int 3))) (vC (.int 0)))) (vOp opIx (vOp opIx (vVar 4) (vC (.int 2))) (vC (.int 1))))) (gNam 5))
    (vSeq (vRetF (vLstD (vCons (vTupD (vCons (vOp opIx (vVar 4) (vC (.int 1))) (vCons (vOp opFdiv (vVar 5) (vOp opMul (vOp opIx (vOp opIx (vVar 4) (vC (.int 2))) (vC (.int 1))) (vOp opIx (vOp opIx (vVar 4) (vC (.int 3))) (vC (.int 1))))) (vCons (vTupD (vCons (vC (.int 1)) (vCons (vC (.int 1)) vNil))) vNil)))) vNil)))
    vNext))))
    vNext)
    (vSeq (vAsg (vOp opAdd (vVar 3) (vOp opIx (vVar 4) (vUn opNeg (vC (.int 1))))) (gNam 3))
    vNext))
def b__law_due : MS := (vSeq (vAsg (vC (.int 0)) (gNam 3))
    (vSeq (vFor (vSeqI (vVar 0)) (gNam 4)
    b__law_due_1)
    (vSeq (vRetF (vLstD vNil))
    vNext)))
def fn__law_due : List D → FR := runB 3 6 b__law_due
/-- law -/
def el_law_2 : ME := (vOp opIx (vVar 9) (vUn opNeg (vC (.int 1))))
def el_law_1 : ME := (vBf bfSum (vCons (vOf (vLc (vSeqI (vVar 7)) (gNam 9) vYes el_law_2 [9])) vNil))
def b_law_4 : MS := (vSeq (vAsgF 8 (vCallF fn_told_on (vCons (vVar 7) (vCons (vVar 5) (vCons (vVar 1) vNil)))))
    (vSeq (vIf (vOr (vNot (vBorT (vTest (vCall fn__law_kinds (vCons (vVar 8) vNil))))) (vBorT (vTest (vOp opNe (vVar 8) (vOf (vCallF fn__law_due (vCons (vVar 7) (vCons (vVar 5) (vCons (vVar 1) vNil)))))))))
    (vSeq (vRet (vC (.bl false)))
    vNext)
    vNext)
    (vSeq (vIf (vTest (vOp opEq (vVar 6) (vOf (vLstD vNil))))
    (vSeq (vAsg (vOf (vBorF (vBl bfListK (vCons (vVar 8) vNil)))) (gNam 6))
    vNext)
    vNext)
    (vSeq (vApp 8 (vTupD (vCons (vC (.str "x")) (vCons (vC (.int 0)) (vCons (vTupD (vCons (vC (.int 1)) (vCons (vC (.int 1)) vNil))) vNil)))))
    vNext))))
def b_law_3 : MS := (vSeq (vAsg (vOf (vLstD vNil)) (gNam 6))
    (vSeq (vFor (vSeqI (vVar 3)) (gNam 7)
    b_law_4)
    (vSeq (vIf (vTest (vOp opNe (vOf (vCallF fn_told_at (vCons (vVar 1) (vCons (vC (.str "top")) (vCons (vVar 5) vNil))))) (vVar 6)))
    (vSeq (vRet (vC (.bl false)))
    vNext)
    vNext)
    vNext)))
def b_law : MS := (vSeq (vAsg (vCall fn__law_room (vCons (vCall fn__law_cell_at (vCons (vVar 0) (vCons (vC (.int 0)) vNil))) (vCons (vOp opAdd (vC (.int 1)) (vOp opMod (vCall fn__law_cell_at (vCons (vVar 0) (vCons (vC (.int 1)) vNil))) (vC (.int 2)))) (vCons (vC (.int 10)) vNil)))) (gNam 1))
    (vSeq (vAsg (vCall fn__law_copied (vCons (vVar 1) vNil)) (gNam 2))
    (vSeq (vAsg (vOp opIx (vOp opIx (vOp opIx (vVar 1) (vC (.int 1))) (vC (.str "top"))) (vC (.int 0))) (gNam 3))
    (vSeq (vAsg (vBf bfMaxL (vCons (vOf (vLc (vSeqI (vVar 3)) (gNam 7) vYes el_law_1 [7])) vNil)) (gNam 4))
    (vSeq (vFor (vRng1 (vCons (vOp opAdd (vVar 4) (vC (.int 3))) vNil)) (gNam 5)
    b_law_3)
    (vSeq (vRet (vOp opEqN (vVar 1) (vVar 2)))
    vNext))))))
def fn_law : List D → FR := runB 1 10 b_law
end
def topS (i : Nat) : Stmt := PySem.Challenge.pw_reelcut_k23_tracks_told.main.body.getD i (.Pass ⟨0, 0, 0, 0⟩)
/-- what the top has made -/
structure Top (K : PySem.W.Frag) (w : World) (mg : Str → Option Value) : Prop where
  d_is_whole : Def1 K mg "is_whole" (topS 4) ["x"]
  d_shared_by : Def1 K mg "shared_by" (topS 5) ["one", "other"]
  d_fraction : Def1 K mg "fraction" (topS 6) ["top", "bottom"]
  d_sum_of : Def1 K mg "sum_of" (topS 7) ["one", "other"]
  d_times_of : Def1 K mg "times_of" (topS 8) ["one", "other"]
  d_floor_of : Def1 K mg "floor_of" (topS 9) ["one"]
  d_place_at : Def1 K mg "place_at" (topS 11) ["clip", "k"]
  d_picture_at : Def1 K mg "picture_at" (topS 12) ["clip", "k"]
  d_room_of : Def1 K mg "room_of" (topS 14) ["item"]
  d_item_at : Def1 K mg "item_at" (topS 15) ["track", "moment"]
  d_mix_spans : Def1 K mg "mix_spans" (topS 17) ["track"]
  d_mix_shares : Def1 K mg "mix_shares" (topS 18) ["length", "j"]
  d_told_mix : Def1 K mg "told_mix" (topS 21) ["track", "span", "moment"]
  d_told_on : Def1 K mg "told_on" (topS 22) ["track", "moment", "room"]
  d_told_at : Def1 K mg "told_at" (topS 23) ["room", "name", "moment"]
  d__law_cell_at : Def1 K mg "_law_cell_at" (topS 25) ["_law_script", "_law_k"]
  d__law_stream : Def1 K mg "_law_stream" (topS 26) ["_law_cell", "_law_size"]
  d__law_lowest : Def1 K mg "_law_lowest" (topS 27) ["_law_top", "_law_bottom"]
  d__law_clip : Def1 K mg "_law_clip" (topS 28) ["_law_xs", "_law_reels_here", "_law_size"]
  d__law_track : Def1 K mg "_law_track" (topS 29) ["_law_xs", "_law_reels_here", "_law_size"]
  d__law_reels : Def1 K mg "_law_reels" (topS 30) ["_law_cell"]
  d__law_room : Def1 K mg "_law_room" (topS 31) ["_law_cell", "_law_tracks", "_law_size"]
  d__law_copied : Def1 K mg "_law_copied" (topS 32) ["_law_room_here"]
  d__law_due : Def1 K mg "_law_due" (topS 33) ["_law_track_here", "_law_moment", "_law_room_here"]
  d__law_kinds : Def1 K mg "_law_kinds" (topS 34) ["_law_found"]
  d_law : Def1 K mg "law" (topS 35) ["_law_script"]
  z_abs : mg "abs" = none
  z_bool : mg "bool" = none
  z_dict : mg "dict" = none
  z_enumerate : mg "enumerate" = none
  z_int : mg "int" = none
  z_isinstance : mg "isinstance" = none
  z_len : mg "len" = none
  z_list : mg "list" = none
  z_max : mg "max" = none
  z_range : mg "range" = none
  z_str : mg "str" = none
  z_sum : mg "sum" = none
  z_tuple : mg "tuple" = none
  x_NoNumber : ∃ C, ExcCls K mg "NoNumber" C
  g_WHOLE : GCon K mg "WHOLE" g_WHOLE
section
variable {P : Program} {w : World} {K : PySem.W.Frag} {mg : Str → Option Value}
theorem sc__law_reels : FnScope ["_law_cell"] ["_law_cell"] (defScope (topS 30)) := ⟨rfl, rfl, rfl, by decide +kernel, rfl, by decide +kernel, by decide +kernel⟩
theorem ok__law_reels (T : Top K w mg) : Ok1 P w K mg "_law_reels" ["_law_cell"] 1 (spV K mg fn__law_reels) :=
  Def1.V T.d__law_reels sc__law_reels (by decide) fun base f cdv A outer s H E hr => ((vss_cons (vs_ret (ve_disp (vq_cons ve_str (ve_bin (fun _ => od_add) ve_int (ve_bin (fun _ => od_mod) (ve_var 0) ve_int)) (vq_cons ve_str (ve_bin (fun _ => od_pow) ve_int ve_int) vq_nil))))
    vss_nil) : VSs _ _ _ _ b__law_reels)
theorem sc__law_stream : FnScope ["_law_cell", "_law_size", "_law_found", "_law_rest", "_law_k", "_law_number"] ["_law_cell", "_law_size"] (defScope (topS 26)) := ⟨rfl, rfl, rfl, by decide +kernel, rfl, by decide +kernel, by decide +kernel⟩
theorem ok__law_stream (T : Top K w mg) : Ok1 P w K mg "_law_stream" ["_law_cell", "_law_size"] 1 (spF K mg fn__law_stream) :=
  Def1.F T.d__law_stream sc__law_stream (by decide) fun base f cdv A outer s H E hr => ((vss_cons (vs_setF 2 sc__law_stream.nd (vf_lst va_nil))
    (vss_cons (vs_if (vt_cmp (fun _ => od_ge) (ve_var 0) (ve_bin (fun _ => od_pow) ve_int ve_int) (nomark _))
    (vss_cons (vs_set 3 sc__law_stream.nd (ve_bin (fun _ => od_fdiv) (ve_var 0) ve_int))
    (vss_cons (vs_for (passes_of rfl) rfl (vi_rng1 (fun _ => T.z_range) (va_cons (ve_var 1) va_nil)) (vg_name 4 (fun _ => sc__law_stream.nd))
    (vss_cons (vs_app 2 (ve_bin (fun _ => od_mod) (ve_var 3) ve_int))
    (vss_cons (vs_set 3 sc__law_stream.nd (ve_bin (fun _ => od_fdiv) (ve_var 3) ve_int))
    vss_nil)))
    (vss_cons (vs_retF (vf_rev (ve_var 2)))
    vss_nil)))
    vss_nil)
    (vss_cons (vs_set 5 sc__law_stream.nd (ve_bin (fun _ => od_mod) (ve_bin (fun _ => od_mul) (ve_bin (fun _ => od_add) (ve_bin (fun _ => od_mod) (ve_var 0) ve_int) ve_int) ve_int) ve_int))
    (vss_cons (vs_for (passes_of rfl) rfl (vi_rng1 (fun _ => T.z_range) (va_cons (ve_var 1) va_nil)) (vg_name 4 (fun _ => sc__law_stream.nd))
    (vss_cons (vs_set 5 sc__law_stream.nd (ve_bin (fun _ => od_add) (ve_bin (fun _ => od_add) (ve_bin (fun _ => od_mod) (ve_bin (fun _ => od_mul) (ve_var 5) (ve_bin (fun _ => od_add) (ve_bin (fun _ => od_fdiv) (ve_var 5) ve_int) ve_int)) ve_int) (ve_var 4)) ve_int))
    (vss_cons (vs_app 2 (ve_var 5))
    vss_nil)))
    (vss_cons (vs_retF (vf_own 2))
    vss_nil))))) : VSs _ _ _ _ b__law_stream)
theorem sc__law_lowest : FnScope ["_law_top", "_law_bottom", "_law_one", "_law_other"] ["_law_top", "_law_bottom"] (defScope (topS 27)) := ⟨rfl, rfl, rfl, by decide +kernel, rfl, by decide +kernel, by decide +kernel⟩
theorem ok__law_lowest (T : Top K w mg) : Ok1 P w K mg "_law_lowest" ["_law_top", "_law_bottom"] 1 (spV K mg fn__law_lowest) :=
  Def1.V T.d__law_lowest sc__law_lowest (by decide) fun base f cdv A outer s H E hr => ((vss_cons (vs_set 2 sc__law_lowest.nd (ve_bf (fun _ => cd_abs) (fun _ => T.z_abs) (by decide +kernel) (va_cons (ve_var 0) va_nil)))
    (vss_cons (vs_set 3 sc__law_lowest.nd (ve_var 1))
    (vss_cons (vs_while (passes_of rfl) (vt_cmp (fun _ => od_ne hr.units) (ve_var 3) ve_int (nomark _))
    (vss_cons (vs_par rfl sc__law_lowest.nd (by decide) (ve_var 3) (ve_bin (fun _ => od_mod) (ve_var 2) (ve_var 3)))
    vss_nil))
    (vss_cons (vs_ret (ve_tup (va_cons (ve_bin (fun _ => od_fdiv) (ve_var 0) (ve_var 2)) (va_cons (ve_bin (fun _ => od_fdiv) (ve_var 1) (ve_var 2)) va_nil))))
    vss_nil)))) : VSs _ _ _ _ b__law_lowest)
theorem sc__law_clip : FnScope ["_law_xs", "_law_reels_here", "_law_size", "_law_reel", "_law_length", "_law_top", "_law_bottom", "_law_far", "_law_low", "_law_rest", "_law_start"] ["_law_xs", "_law_reels_here", "_law_size"] (defScope (topS 28)) := ⟨rfl, rfl, rfl, by decide +kernel, rfl, by decide +kernel, by decide +kernel⟩
theorem ok__law_clip (T : Top K w mg) : Ok1 P w K mg "_law_clip" ["_law_xs", "_law_reels_here", "_law_size"] 2 (spVI K mg 0 fn__law_clip) :=
  Def1.VI 0 T.d__law_clip sc__law_clip (by decide) fun base f cdv A outer s H E hr => ((vss_cons (vs_set 3 sc__law_clip.nd (ve_ix (fun _ => hu_of hr) (ve_of (vf_lst (va_cons ve_str (va_cons ve_str va_nil)))) (ve_bin (fun _ => od_mod) (ve_bin (fun _ => od_fdiv) (ve_pop 0) ve_int) ve_int) (fun _ _ => rfl)))
    (vss_cons (vs_set 4 sc__law_clip.nd (ve_bin (fun _ => od_add) ve_int (ve_bin (fun _ => od_mod) (ve_bin (fun _ => od_fdiv) (ve_pop 0) ve_int) (ve_var 2))))
    (vss_cons (vs_set 5 sc__law_clip.nd (ve_bin (fun _ => od_sub) (ve_bin (fun _ => od_mod) (ve_bin (fun _ => od_fdiv) (ve_pop 0) ve_int) ve_int) ve_int))
    (vss_cons (vs_set 6 sc__law_clip.nd (ve_bin (fun _ => od_add) ve_int (ve_bin (fun _ => od_mod) (ve_bin (fun _ => od_fdiv) (ve_pop 0) ve_int) ve_int)))
    (vss_cons (vs_set 7 sc__law_clip.nd (ve_bin (fun _ => od_add) (ve_bin (fun _ => od_fdiv) (ve_bin (fun _ => od_mul) (ve_bin (fun _ => od_sub) (ve_var 4) ve_int) (ve_bf (fun _ => cd_abs) (fun _ => T.z_abs) (by decide +kernel) (va_cons (ve_var 5) va_nil))) (ve_var 6)) ve_int))
    (vss_cons (vs_if (vt_cmp (fun _ => od_ge) (ve_var 7) (ve_ix (fun _ => hu_of hr) (ve_var 1) (ve_var 3) (fun _ _ => rfl)) (nomark _))
    (vss_cons (vs_set 5 sc__law_clip.nd ve_int)
    (vss_cons (vs_set 7 sc__law_clip.nd ve_int)
    vss_nil))
    vss_nil)
    (vss_cons (vs_set 8 sc__law_clip.nd (ve_bin (fun _ => od_mod) (ve_pop 0) (ve_bin (fun _ => od_sub) (ve_ix (fun _ => hu_of hr) (ve_var 1) (ve_var 3) (fun _ _ => rfl)) (ve_var 7))))
    (vss_cons (vs_set 9 sc__law_clip.nd (ve_bin (fun _ => od_mod) (ve_bin (fun _ => od_fdiv) (ve_pop 0) ve_int) ve_int))
    (vss_cons (vs_set 10 sc__law_clip.nd (ve_bin (fun _ => od_add) (ve_bin (fun _ => od_mul) (ve_bin (fun _ => od_mul) (ve_var 8) ve_int) (ve_var 6)) (ve_bin (fun _ => od_mul) (ve_var 9) (ve_var 6))))
    (vss_cons (vs_if (vt_cmp (fun _ => od_lt) (ve_var 5) ve_int (nomark _))
    (vss_cons (vs_set 10 sc__law_clip.nd (ve_bin (fun _ => od_sub) (ve_var 10) (ve_bin (fun _ => od_mul) (ve_bin (fun _ => od_mul) ve_int (ve_bin (fun _ => od_sub) (ve_var 4) ve_int)) (ve_var 5))))
    vss_nil)
    vss_nil)
    (vss_cons (vs_ret (ve_tup (va_cons ve_str (va_cons (ve_var 3) (va_cons (ve_cal (ok__law_lowest T) (fun _ => hr) (fun _ => (takes_of rfl rfl rfl rfl)) (va_cons (ve_var 10) (va_cons (ve_bin (fun _ => od_mul) ve_int (ve_var 6)) va_nil))) (va_cons (ve_cal (ok__law_lowest T) (fun _ => hr) (fun _ => (takes_of rfl rfl rfl rfl)) (va_cons (ve_var 5) (va_cons (ve_var 6) va_nil))) (va_cons (ve_var 4) va_nil)))))))
    vss_nil))))))))))) : VSs _ _ _ _ b__law_clip)
theorem sc__law_track : FnScope ["_law_xs", "_law_reels_here", "_law_size", "_law_track_here", "_law_k", "_law_form"] ["_law_xs", "_law_reels_here", "_law_size"] (defScope (topS 29)) := ⟨rfl, rfl, rfl, by decide +kernel, rfl, by decide +kernel, by decide +kernel⟩
theorem ok__law_track (T : Top K w mg) : Ok1 P w K mg "_law_track" ["_law_xs", "_law_reels_here", "_law_size"] 3 (spFI K mg 0 fn__law_track) :=
  Def1.FI 0 T.d__law_track sc__law_track (by decide) fun base f cdv A outer s H E hr => ((vss_cons (vs_setF 3 sc__law_track.nd (vf_lst va_nil))
    (vss_cons (vs_for (passes_of rfl) rfl (vi_rng1 (fun _ => T.z_range) (va_cons (ve_bin (fun _ => od_mod) (ve_bin (fun _ => od_fdiv) (ve_pop 0) ve_int) ve_int) va_nil)) (vg_name 4 (fun _ => sc__law_track.nd))
    (vss_cons (vs_set 5 sc__law_track.nd (ve_bin (fun _ => od_mod) (ve_bin (fun _ => od_fdiv) (ve_pop 0) ve_int) ve_int))
    (vss_cons (vs_if (vt_w (vw_and (vt_cmp (fun _ => od_eq hr.units) (ve_var 5) ve_int (nomark _)) (vw_and1 (vt_w (vw_or (vt_bor (vt_cmp (fun _ => od_eq hr.units) (ve_var 3) (ve_of (vf_lst va_nil)) (nomark _))) (vw_or1 (vt_bor (vt_cmp (fun _ => od_ne hr.units) (ve_ix (fun _ => hu_of hr) (ve_ix (fun _ => hu_of hr) (ve_var 3) (ve_un (fun _ => ud_neg) ve_int) (fun _ _ => rfl)) ve_int (fun _ _ => rfl)) ve_str (nomark _)))))))))
    (vss_cons (vs_app 3 (ve_tup (va_cons ve_str (va_cons (ve_bin (fun _ => od_add) ve_int (ve_bin (fun _ => od_mod) (ve_bin (fun _ => od_fdiv) (ve_pop 0) ve_int) (ve_var 2))) va_nil))))
    vss_nil)
    (vss_cons (vs_if (vt_cmp (fun _ => od_eq hr.units) (ve_var 5) ve_int (nomark _))
    (vss_cons (vs_app 3 (ve_tup (va_cons ve_str (va_cons ve_str (va_cons (ve_bin (fun _ => od_mod) (ve_bin (fun _ => od_fdiv) (ve_pop 0) ve_int) ve_int) (va_cons (ve_bin (fun _ => od_add) ve_int (ve_bin (fun _ => od_mod) (ve_bin (fun _ => od_fdiv) (ve_pop 0) ve_int) (ve_var 2))) va_nil))))))
    vss_nil)
    (vss_cons (vs_app 3 (ve_calI (ok__law_clip T) (fun _ => hr) (fun _ => (takes_of rfl rfl rfl rfl)) (vai_here 0 (va_cons (ve_var 1) (va_cons (ve_var 2) va_nil)))))
    vss_nil))
    vss_nil))
    vss_nil)))
    (vss_cons (vs_if (vt_w (vw_and (vt_bor (vt_cmp (fun _ => od_ne hr.units) (ve_var 3) (ve_of (vf_lst va_nil)) (nomark _))) (vw_and1 (vt_bor (vt_cmp (fun _ => od_eq hr.units) (ve_ix (fun _ => hu_of hr) (ve_ix (fun _ => hu_of hr) (ve_var 3) (ve_un (fun _ => ud_neg) ve_int) (fun _ _ => rfl)) ve_int (fun _ _ => rfl)) ve_str (nomark _))))))
    (vss_cons (vs_expr (ve_pop 3))
    vss_nil)
    vss_nil)
    (vss_cons (vs_retF (vf_own 3))
    vss_nil)))) : VSs _ _ _ _ b__law_track)
theorem sc__law_room : FnScope ["_law_cell", "_law_tracks", "_law_size", "_law_reels_here", "_law_xs", "_law_low", "_law_track_here", "_law_k", "_law_deep", "_law_top"] ["_law_cell", "_law_tracks", "_law_size"] (defScope (topS 31)) := ⟨rfl, rfl, rfl, by decide +kernel, rfl, by decide +kernel, by decide +kernel⟩
theorem ok__law_room (T : Top K w mg) : Ok1 P w K mg "_law_room" ["_law_cell", "_law_tracks", "_law_size"] 4 (spV K mg fn__law_room) :=
  Def1.V T.d__law_room sc__law_room (by decide) fun base f cdv A outer s H E hr => ((vss_cons (vs_set 3 sc__law_room.nd (ve_cal (ok__law_reels T) (fun _ => hr) (fun _ => (takes_of rfl rfl rfl rfl)) (va_cons (ve_bin (fun _ => od_fdiv) (ve_var 0) ve_int) va_nil)))
    (vss_cons (vs_setF 4 sc__law_room.nd (vf_cal (ok__law_stream T) (fun _ => hr) (fun _ => (takes_of rfl rfl rfl rfl)) (va_cons (ve_var 0) (va_cons ve_int va_nil))))
    (vss_cons (vs_asgT 5 sc__law_room.nd (vtf_of (vtr_tup (vtas_cons (vtr_lst (x := (.l .s)) (by simp) (vtas_cons (vtr_F (vf_calI (ok__law_track T) (fun _ => hr) (fun _ => (takes_of rfl rfl rfl rfl)) (vai_here 4 (va_cons (ve_var 3) (va_cons (ve_var 2) va_nil))))) (vtas_cons (vtr_F (vf_calI (ok__law_track T) (fun _ => hr) (fun _ => (takes_of rfl rfl rfl rfl)) (vai_here 4 (va_cons (ve_var 3) (va_cons (ve_var 2) va_nil))))) vtas_nil))) (vtas_cons (vtr_F (vf_lst va_nil)) vtas_nil)))))
    (vss_cons (vs_forM 1 6 (passes_of rfl) rfl sc__law_room.nd (vpt_S (vpt_0 5) ve_int (fun _ _ => rfl))
    (vss_cons (vs_for (passes_of rfl) rfl (vi_rng1 (fun _ => T.z_range) (va_cons (ve_bor (ve_bf (fun _ => cd_len (.inr trivial)) (fun _ => T.z_len) (by decide +kernel) (va_cons (ve_var 6) va_nil))) va_nil)) (vg_name 7 (fun _ => sc__law_room.nd))
    (vss_cons (vs_if (vt_bor (vt_cmp (fun _ => od_eq hr.units) (ve_ix (fun _ => hu_of hr) (ve_ix (fun _ => hu_of hr) (ve_var 6) (ve_var 7) (fun _ _ => rfl)) ve_int (fun _ _ => rfl)) ve_str (nomark _)))
    (vss_cons (vs_subI 6 (ve_tup (va_cons ve_str (va_cons ve_str (va_cons (ve_bor (ve_ix (fun _ => hu_of hr) (ve_ix (fun _ => hu_of hr) (ve_var 6) (ve_var 7) (fun _ _ => rfl)) ve_int (fun _ _ => rfl))) (va_cons (ve_bor (ve_ix (fun _ => hu_of hr) (ve_ix (fun _ => hu_of hr) (ve_var 6) (ve_var 7) (fun _ _ => rfl)) ve_int (fun _ _ => rfl))) va_nil))))) (ve_var 7))
    vss_nil)
    vss_nil)
    vss_nil))
    vss_nil))
    (vss_cons (vs_set 8 sc__law_room.nd (ve_tup (va_cons (ve_of (vf_lst (va_cons (ve_of (vf_lst (va_cons (ve_calI (ok__law_clip T) (fun _ => hr) (fun _ => (takes_of rfl rfl rfl rfl)) (vai_here 4 (va_cons (ve_var 3) (va_cons (ve_var 2) va_nil)))) (va_cons (ve_tup (va_cons ve_str (va_cons ve_int va_nil))) (va_cons (ve_calI (ok__law_clip T) (fun _ => hr) (fun _ => (takes_of rfl rfl rfl rfl)) (vai_here 4 (va_cons (ve_var 3) (va_cons (ve_var 2) va_nil)))) va_nil))))) va_nil))) (va_cons (ve_of (vf_lst va_nil)) va_nil))))
    (vss_cons (vs_set 9 sc__law_room.nd (ve_tup (va_cons (ve_of (vf_lc (fun _ => rfl) (fun _ => sc__law_room.nd) (vi_rng1 (fun _ => T.z_range) (va_cons (ve_var 1) va_nil)) (own := [("_law_k", 7)]) (fun _ => blkOk_by (by kernel_rfl)) (vg_name 7 (fun _ => sc__law_room.nd)) vts_nil (ve_of (vf_calI (ok__law_track T) (fun _ => hr) (fun _ => takes0) (vai_here 4 (va_cons (ve_var 3) (va_cons (ve_var 2) va_nil))))))) (va_cons (ve_of (vf_lst va_nil)) va_nil))))
    (vss_cons (vs_ret (ve_tup (va_cons (ve_var 3) (va_cons (ve_disp (vq_cons ve_str (ve_var 9) (vq_cons ve_str (ve_var 5) (vq_cons ve_str (ve_var 8) vq_nil)))) va_nil))))
    vss_nil))))))) : VSs _ _ _ _ b__law_room)
theorem sc__law_copied : FnScope ["_law_room_here", "_law_tables", "_law_name", "_law_table", "_law_track_here"] ["_law_room_here"] (defScope (topS 32)) := ⟨rfl, rfl, rfl, by decide +kernel, rfl, by decide +kernel, by decide +kernel⟩
theorem ok__law_copied (T : Top K w mg) : Ok1 P w K mg "_law_copied" ["_law_room_here"] 1 (spV K mg fn__law_copied) :=
  Def1.V T.d__law_copied sc__law_copied (by decide) fun base f cdv A outer s H E hr => ((vss_cons (vs_setK 1 sc__law_copied.nd vd_nil)
    (vss_cons (vs_forIX 0 1 (passes_of rfl) rfl (takes_of rfl rfl rfl rfl) (vg_tup (fun _ => rfl) (vgs_cons (vg_name 2 (fun _ => sc__law_copied.nd)) (vgs_cons (vg_name 3 (fun _ => sc__law_copied.nd)) vgs_nil))) (fun Wx tk => (vss_cons (vs_subK 1 (hu_of hr) (ve_tup (va_cons (ve_of (vf_lc (fun _ => rfl) (fun _ => sc__law_copied.nd) (vi_seq (ve_ix (fun _ => hu_of hr) (ve_var 3) ve_int (fun _ _ => rfl))) (own := [("_law_track_here", 4)]) (fun _ => blkOk_by (by kernel_rfl)) (vg_name 4 (fun _ => sc__law_copied.nd)) vts_nil (ve_of (vf_ty (fun _ => cd_listK rfl) (fun _ => T.z_list) (by decide +kernel) (va_cons (ve_var 4) va_nil))))) (va_cons (ve_of (vf_ty (fun _ => cd_listK rfl) (fun _ => T.z_list) (by decide +kernel) (va_cons (ve_ix (fun _ => hu_of hr) (ve_var 3) ve_int (fun _ _ => rfl)) va_nil))) va_nil))) (ve_var 2))
    vss_nil)))
    (vss_cons (vs_ret (ve_tup (va_cons (ve_ofK (vd_dict (fun _ => T.z_dict) (va_cons (ve_ix (fun _ => hu_of hr) (ve_var 0) ve_int (fun _ _ => rfl)) va_nil))) (va_cons (ve_var 1) va_nil))))
    vss_nil))) : VSs _ _ _ _ b__law_copied)
theorem sc__law_cell_at : FnScope ["_law_script", "_law_k"] ["_law_script", "_law_k"] (defScope (topS 25)) := ⟨rfl, rfl, rfl, by decide +kernel, rfl, by decide +kernel, by decide +kernel⟩
theorem ok__law_cell_at (T : Top K w mg) : Ok1 P w K mg "_law_cell_at" ["_law_script", "_law_k"] 1 (spV K mg fn__law_cell_at) :=
  Def1.V T.d__law_cell_at sc__law_cell_at (by decide) fun base f cdv A outer s H E hr => ((vss_cons (vs_if (vt_cmp (fun _ => od_lt) (ve_var 1) (ve_bf (fun _ => cd_len (.inr trivial)) (fun _ => T.z_len) (by decide +kernel) (va_cons (ve_var 0) va_nil)) (nomark _))
    (vss_cons (vs_ret (ve_ix (fun _ => hu_of hr) (ve_var 0) (ve_var 1) (fun _ _ => rfl)))
    vss_nil)
    vss_nil)
    (vss_cons (vs_ret ve_int)
    vss_nil)) : VSs _ _ _ _ b__law_cell_at)
theorem sc_room_of : FnScope ["item"] ["item"] (defScope (topS 14)) := ⟨rfl, rfl, rfl, by decide +kernel, rfl, by decide +kernel, by decide +kernel⟩
theorem ok_room_of (T : Top K w mg) : Ok1 P w K mg "room_of" ["item"] 1 (spV K mg fn_room_of) :=
  Def1.V T.d_room_of sc_room_of (by decide) fun base f cdv A outer s H E hr => ((vss_cons (vs_if (vt_cmp (fun _ => od_eq hr.units) (ve_ix (fun _ => hu_of hr) (ve_var 0) ve_int (fun _ _ => rfl)) ve_str (nomark _))
    (vss_cons (vs_ret ve_int)
    vss_nil)
    vss_nil)
    (vss_cons (vs_ret (ve_ix (fun _ => hu_of hr) (ve_var 0) (ve_un (fun _ => ud_neg) ve_int) (fun _ _ => rfl)))
    vss_nil)) : VSs _ _ _ _ b_room_of)
theorem sc_mix_spans : FnScope ["track", "found", "begin", "item"] ["track"] (defScope (topS 17)) := ⟨rfl, rfl, rfl, by decide +kernel, rfl, by decide +kernel, by decide +kernel⟩
theorem ok_mix_spans (T : Top K w mg) : Ok1 P w K mg "mix_spans" ["track"] 2 (spF K mg fn_mix_spans) :=
  Def1.F T.d_mix_spans sc_mix_spans (by decide) fun base f cdv A outer s H E hr => ((vss_cons (vs_setF 1 sc_mix_spans.nd (vf_lst va_nil))
    (vss_cons (vs_set 2 sc_mix_spans.nd ve_int)
    (vss_cons (vs_for (passes_of rfl) rfl (vi_seq (ve_var 0)) (vg_name 3 (fun _ => sc_mix_spans.nd))
    (vss_cons (vs_if (vt_cmp (fun _ => od_eq hr.units) (ve_ix (fun _ => hu_of hr) (ve_var 3) ve_int (fun _ _ => rfl)) ve_str (nomark _))
    (vss_cons (vs_app 1 (ve_tup (va_cons (ve_bin (fun _ => od_sub) (ve_var 2) (ve_bin (fun _ => od_fdiv) (ve_ix (fun _ => hu_of hr) (ve_var 3) ve_int (fun _ _ => rfl)) ve_int)) (va_cons (ve_var 2) (va_cons (ve_bin (fun _ => od_sub) (ve_bin (fun _ => od_add) (ve_var 2) (ve_ix (fun _ => hu_of hr) (ve_var 3) ve_int (fun _ _ => rfl))) (ve_bin (fun _ => od_fdiv) (ve_ix (fun _ => hu_of hr) (ve_var 3) ve_int (fun _ _ => rfl)) ve_int)) va_nil)))))
    vss_nil)
    vss_nil)
    (vss_cons (vs_set 2 sc_mix_spans.nd (ve_bin (fun _ => od_add) (ve_var 2) (ve_cal (ok_room_of T) (fun _ => hr) (fun _ => (takes_of rfl rfl rfl rfl)) (va_cons (ve_var 3) va_nil))))
    vss_nil)))
    (vss_cons (vs_retF (vf_own 1))
    vss_nil)))) : VSs _ _ _ _ b_mix_spans)
theorem sc_item_at : FnScope ["track", "moment", "begin", "place", "item"] ["track", "moment"] (defScope (topS 15)) := ⟨rfl, rfl, rfl, by decide +kernel, rfl, by decide +kernel, by decide +kernel⟩
theorem ok_item_at (T : Top K w mg) : Ok1 P w K mg "item_at" ["track", "moment"] 2 (spV K mg fn_item_at) :=
  Def1.V T.d_item_at sc_item_at (by decide) fun base f cdv A outer s H E hr => ((vss_cons (vs_set 2 sc_item_at.nd ve_int)
    (vss_cons (vs_for (passes_of rfl) rfl (vi_enum (fun _ => T.z_enumerate) (va_cons (ve_var 0) va_nil)) (vg_tup (fun _ => rfl) (vgs_cons (vg_name 3 (fun _ => sc_item_at.nd)) (vgs_cons (vg_name 4 (fun _ => sc_item_at.nd)) vgs_nil)))
    (vss_cons (vs_if (vt_w (vw_and (vt_cmp (fun _ => od_ne hr.units) (ve_ix (fun _ => hu_of hr) (ve_var 4) ve_int (fun _ _ => rfl)) ve_str (nomark _)) (vw_and (vt_cmp (fun _ => od_le) (ve_var 2) (ve_var 1) (nomark _)) (vw_and1 (vt_cmp (fun _ => od_lt) (ve_var 1) (ve_bin (fun _ => od_add) (ve_var 2) (ve_ix (fun _ => hu_of hr) (ve_var 4) (ve_un (fun _ => ud_neg) ve_int) (fun _ _ => rfl))) (nomark _))))))
    (vss_cons (vs_ret (ve_tup (va_cons (ve_var 3) (va_cons (ve_bin (fun _ => od_sub) (ve_var 1) (ve_var 2)) va_nil))))
    vss_nil)
    vss_nil)
    (vss_cons (vs_set 2 sc_item_at.nd (ve_bin (fun _ => od_add) (ve_var 2) (ve_cal (ok_room_of T) (fun _ => hr) (fun _ => (takes_of rfl rfl rfl rfl)) (va_cons (ve_var 4) va_nil))))
    vss_nil)))
    (vss_cons (vs_ret ve_non)
    vss_nil))) : VSs _ _ _ _ b_item_at)
theorem sc_shared_by : FnScope ["one", "other"] ["one", "other"] (defScope (topS 5)) := ⟨rfl, rfl, rfl, by decide +kernel, rfl, by decide +kernel, by decide +kernel⟩
theorem ok_shared_by (T : Top K w mg) : Ok1 P w K mg "shared_by" ["one", "other"] 1 (spV K mg fn_shared_by) :=
  Def1.V T.d_shared_by sc_shared_by (by decide) fun base f cdv A outer s H E hr => ((vss_cons (vs_while (passes_of rfl) (vt_cmp (fun _ => od_ne hr.units) (ve_var 1) ve_int (nomark _))
    (vss_cons (vs_par rfl sc_shared_by.nd (by decide) (ve_var 1) (ve_bin (fun _ => od_mod) (ve_var 0) (ve_var 1)))
    vss_nil))
    (vss_cons (vs_ret (ve_bf (fun _ => cd_abs) (fun _ => T.z_abs) (by decide +kernel) (va_cons (ve_var 0) va_nil)))
    vss_nil)) : VSs _ _ _ _ b_shared_by)
theorem sc_is_whole : FnScope ["x"] ["x"] (defScope (topS 4)) := ⟨rfl, rfl, rfl, by decide +kernel, rfl, by decide +kernel, by decide +kernel⟩
theorem ok_is_whole (T : Top K w mg) : Ok1 P w K mg "is_whole" ["x"] 1 (spV K mg fn_is_whole) :=
  Def1.V T.d_is_whole sc_is_whole (by decide) fun base f cdv A outer s H E hr => ((vss_cons (vs_ret (ve_and (ve_isi kit_int (fun _ => T.z_isinstance) (fun _ => T.z_int) (by decide +kernel) (by decide +kernel) (ve_var 0)) (ve_one (ve_not (ve_isi kit_bool (fun _ => T.z_isinstance) (fun _ => T.z_bool) (by decide +kernel) (by decide +kernel) (ve_var 0))))))
    vss_nil) : VSs _ _ _ _ b_is_whole)
theorem sc_fraction : FnScope ["top", "bottom", "share"] ["top", "bottom"] (defScope (topS 6)) := ⟨rfl, rfl, rfl, by decide +kernel, rfl, by decide +kernel, by decide +kernel⟩
theorem ok_fraction (T : Top K w mg) : Ok1 P w K mg "fraction" ["top", "bottom"] 2 (spV K mg fn_fraction) :=
  Def1.V T.d_fraction sc_fraction (by decide) fun base f cdv A outer s H E hr => ((vss_cons (vs_if (vt_w (vw_or (vt_not (vt_val (ve_cal (ok_is_whole T) (fun _ => hr) (fun _ => (takes_of rfl rfl rfl rfl)) (va_cons (ve_var 0) va_nil)))) (vw_or (vt_not (vt_val (ve_cal (ok_is_whole T) (fun _ => hr) (fun _ => (takes_of rfl rfl rfl rfl)) (va_cons (ve_var 1) va_nil)))) (vw_or1 (vt_cmp (fun _ => od_eq hr.units) (ve_var 1) ve_int (nomark _))))))
    (vss_cons (T.x_NoNumber.elim fun _ h => vs_raise0 h (takes_of rfl rfl rfl rfl) rfl)
    vss_nil)
    vss_nil)
    (vss_cons (vs_set 2 sc_fraction.nd (ve_cal (ok_shared_by T) (fun _ => hr) (fun _ => (takes_of rfl rfl rfl rfl)) (va_cons (ve_var 0) (va_cons (ve_var 1) va_nil))))
    (vss_cons (vs_if (vt_cmp (fun _ => od_lt) (ve_var 1) ve_int (nomark _))
    (vss_cons (vs_set 2 sc_fraction.nd (ve_un (fun _ => ud_neg) (ve_var 2)))
    vss_nil)
    vss_nil)
    (vss_cons (vs_ret (ve_tup (va_cons (ve_bin (fun _ => od_fdiv) (ve_var 0) (ve_var 2)) (va_cons (ve_bin (fun _ => od_fdiv) (ve_var 1) (ve_var 2)) va_nil))))
    vss_nil)))) : VSs _ _ _ _ b_fraction)
theorem sc_mix_shares : FnScope ["length", "j"] ["length", "j"] (defScope (topS 18)) := ⟨rfl, rfl, rfl, by decide +kernel, rfl, by decide +kernel, by decide +kernel⟩
theorem ok_mix_shares (T : Top K w mg) : Ok1 P w K mg "mix_shares" ["length", "j"] 3 (spV K mg fn_mix_shares) :=
  Def1.V T.d_mix_shares sc_mix_shares (by decide) fun base f cdv A outer s H E hr => ((vss_cons (vs_ret (ve_tup (va_cons (ve_cal (ok_fraction T) (fun _ => hr) (fun _ => (takes_of rfl rfl rfl rfl)) (va_cons (ve_bin (fun _ => od_sub) (ve_var 0) (ve_var 1)) (va_cons (ve_bin (fun _ => od_add) (ve_var 0) ve_int) va_nil))) (va_cons (ve_cal (ok_fraction T) (fun _ => hr) (fun _ => (takes_of rfl rfl rfl rfl)) (va_cons (ve_bin (fun _ => od_add) (ve_var 1) ve_int) (va_cons (ve_bin (fun _ => od_add) (ve_var 0) ve_int) va_nil))) va_nil))))
    vss_nil) : VSs _ _ _ _ b_mix_shares)
theorem sc_floor_of : FnScope ["one"] ["one"] (defScope (topS 9)) := ⟨rfl, rfl, rfl, by decide +kernel, rfl, by decide +kernel, by decide +kernel⟩
theorem ok_floor_of (T : Top K w mg) : Ok1 P w K mg "floor_of" ["one"] 1 (spV K mg fn_floor_of) :=
  Def1.V T.d_floor_of sc_floor_of (by decide) fun base f cdv A outer s H E hr => ((vss_cons (vs_ret (ve_bin (fun _ => od_fdiv) (ve_ix (fun _ => hu_of hr) (ve_var 0) ve_int (fun _ _ => rfl)) (ve_ix (fun _ => hu_of hr) (ve_var 0) ve_int (fun _ _ => rfl))))
    vss_nil) : VSs _ _ _ _ b_floor_of)
theorem sc_sum_of : FnScope ["one", "other"] ["one", "other"] (defScope (topS 7)) := ⟨rfl, rfl, rfl, by decide +kernel, rfl, by decide +kernel, by decide +kernel⟩
theorem ok_sum_of (T : Top K w mg) : Ok1 P w K mg "sum_of" ["one", "other"] 3 (spV K mg fn_sum_of) :=
  Def1.V T.d_sum_of sc_sum_of (by decide) fun base f cdv A outer s H E hr => ((vss_cons (vs_ret (ve_cal (ok_fraction T) (fun _ => hr) (fun _ => (takes_of rfl rfl rfl rfl)) (va_cons (ve_bin (fun _ => od_add) (ve_bin (fun _ => od_mul) (ve_ix (fun _ => hu_of hr) (ve_var 0) ve_int (fun _ _ => rfl)) (ve_ix (fun _ => hu_of hr) (ve_var 1) ve_int (fun _ _ => rfl))) (ve_bin (fun _ => od_mul) (ve_ix (fun _ => hu_of hr) (ve_var 1) ve_int (fun _ _ => rfl)) (ve_ix (fun _ => hu_of hr) (ve_var 0) ve_int (fun _ _ => rfl)))) (va_cons (ve_bin (fun _ => od_mul) (ve_ix (fun _ => hu_of hr) (ve_var 0) ve_int (fun _ _ => rfl)) (ve_ix (fun _ => hu_of hr) (ve_var 1) ve_int (fun _ _ => rfl))) va_nil))))
    vss_nil) : VSs _ _ _ _ b_sum_of)
theorem sc_times_of : FnScope ["one", "other"] ["one", "other"] (defScope (topS 8)) := ⟨rfl, rfl, rfl, by decide +kernel, rfl, by decide +kernel, by decide +kernel⟩
theorem ok_times_of (T : Top K w mg) : Ok1 P w K mg "times_of" ["one", "other"] 3 (spV K mg fn_times_of) :=
  Def1.V T.d_times_of sc_times_of (by decide) fun base f cdv A outer s H E hr => ((vss_cons (vs_ret (ve_cal (ok_fraction T) (fun _ => hr) (fun _ => (takes_of rfl rfl rfl rfl)) (va_cons (ve_bin (fun _ => od_mul) (ve_ix (fun _ => hu_of hr) (ve_var 0) ve_int (fun _ _ => rfl)) (ve_ix (fun _ => hu_of hr) (ve_var 1) ve_int (fun _ _ => rfl))) (va_cons (ve_bin (fun _ => od_mul) (ve_ix (fun _ => hu_of hr) (ve_var 0) ve_int (fun _ _ => rfl)) (ve_ix (fun _ => hu_of hr) (ve_var 1) ve_int (fun _ _ => rfl))) va_nil))))
    vss_nil) : VSs _ _ _ _ b_times_of)
theorem sc_place_at : FnScope ["clip", "k"] ["clip", "k"] (defScope (topS 11)) := ⟨rfl, rfl, rfl, by decide +kernel, rfl, by decide +kernel, by decide +kernel⟩
theorem ok_place_at (T : Top K w mg) : Ok1 P w K mg "place_at" ["clip", "k"] 4 (spV K mg fn_place_at) :=
  Def1.V T.d_place_at sc_place_at (by decide) fun base f cdv A outer s H E hr => ((vss_cons (vs_ret (ve_cal (ok_sum_of T) (fun _ => hr) (fun _ => (takes_of rfl rfl rfl rfl)) (va_cons (ve_ix (fun _ => hu_of hr) (ve_var 0) ve_int (fun _ _ => rfl)) (va_cons (ve_cal (ok_times_of T) (fun _ => hr) (fun _ => (takes_of rfl rfl rfl rfl)) (va_cons (ve_ix (fun _ => hu_of hr) (ve_var 0) ve_int (fun _ _ => rfl)) (va_cons (ve_tup (va_cons (ve_var 1) (va_cons ve_int va_nil))) va_nil))) va_nil))))
    vss_nil) : VSs _ _ _ _ b_place_at)
theorem sc_picture_at : FnScope ["clip", "k"] ["clip", "k"] (defScope (topS 12)) := ⟨rfl, rfl, rfl, by decide +kernel, rfl, by decide +kernel, by decide +kernel⟩
theorem ok_picture_at (T : Top K w mg) : Ok1 P w K mg "picture_at" ["clip", "k"] 5 (spV K mg fn_picture_at) :=
  Def1.V T.d_picture_at sc_picture_at (by decide) fun base f cdv A outer s H E hr => ((vss_cons (vs_ret (ve_cal (ok_floor_of T) (fun _ => hr) (fun _ => (takes_of rfl rfl rfl rfl)) (va_cons (ve_cal (ok_place_at T) (fun _ => hr) (fun _ => (takes_of rfl rfl rfl rfl)) (va_cons (ve_var 0) (va_cons (ve_var 1) va_nil))) va_nil)))
    vss_nil) : VSs _ _ _ _ b_picture_at)
theorem sc_told_mix : FnScope ["track", "span", "moment", "first", "border", "last", "place", "far", "ahead", "behind", "out_share", "in_share"] ["track", "span", "moment"] (defScope (topS 21)) := ⟨rfl, rfl, rfl, by decide +kernel, rfl, by decide +kernel, by decide +kernel⟩
theorem ok_told_mix (T : Top K w mg) : Ok1 P w K mg "told_mix" ["track", "span", "moment"] 6 (spF K mg fn_told_mix) :=
  Def1.F T.d_told_mix sc_told_mix (by decide) fun base f cdv A outer s H E hr => ((vss_cons (vs_asg (ve_var 1) (vg_tup (fun _ => rfl) (vgs_cons (vg_name 3 (fun _ => sc_told_mix.nd)) (vgs_cons (vg_name 4 (fun _ => sc_told_mix.nd)) (vgs_cons (vg_name 5 (fun _ => sc_told_mix.nd)) vgs_nil)))))
    (vss_cons (vs_asg (ve_cal (ok_item_at T) (fun _ => hr) (fun _ => (takes_of rfl rfl rfl rfl)) (va_cons (ve_var 0) (va_cons (ve_var 4) va_nil))) (vg_tup (fun _ => rfl) (vgs_cons (vg_name 6 (fun _ => sc_told_mix.nd)) (vgs_cons (vg_name 7 (fun _ => sc_told_mix.nd)) vgs_nil))))
    (vss_cons (vs_set 8 sc_told_mix.nd (ve_ix (fun _ => hu_of hr) (ve_var 0) (ve_bin (fun _ => od_sub) (ve_var 6) ve_int) (fun _ _ => rfl)))
    (vss_cons (vs_set 9 sc_told_mix.nd (ve_ix (fun _ => hu_of hr) (ve_var 0) (ve_var 6) (fun _ _ => rfl)))
    (vss_cons (vs_asg (ve_cal (ok_mix_shares T) (fun _ => hr) (fun _ => (takes_of rfl rfl rfl rfl)) (va_cons (ve_bin (fun _ => od_sub) (ve_var 5) (ve_var 3)) (va_cons (ve_bin (fun _ => od_sub) (ve_var 2) (ve_var 3)) va_nil))) (vg_tup (fun _ => rfl) (vgs_cons (vg_name 10 (fun _ => sc_told_mix.nd)) (vgs_cons (vg_name 11 (fun _ => sc_told_mix.nd)) vgs_nil))))
    (vss_cons (vs_retF (vf_lst (va_cons (ve_tup (va_cons (ve_ix (fun _ => hu_of hr) (ve_var 8) ve_int (fun _ _ => rfl)) (va_cons (ve_cal (ok_picture_at T) (fun _ => hr) (fun _ => (takes_of rfl rfl rfl rfl)) (va_cons (ve_var 8) (va_cons (ve_bin (fun _ => od_sub) (ve_bin (fun _ => od_add) (ve_ix (fun _ => hu_of hr) (ve_var 8) (ve_un (fun _ => ud_neg) ve_int) (fun _ _ => rfl)) (ve_var 2)) (ve_var 4)) va_nil))) (va_cons (ve_var 10) va_nil)))) (va_cons (ve_tup (va_cons (ve_ix (fun _ => hu_of hr) (ve_var 9) ve_int (fun _ _ => rfl)) (va_cons (ve_cal (ok_picture_at T) (fun _ => hr) (fun _ => (takes_of rfl rfl rfl rfl)) (va_cons (ve_var 9) (va_cons (ve_bin (fun _ => od_sub) (ve_var 2) (ve_var 4)) va_nil))) (va_cons (ve_var 11) va_nil)))) va_nil))))
    vss_nil)))))) : VSs _ _ _ _ b_told_mix)
theorem ok_told_at__0 (T : Top K w mg) : Ok1 P w K mg "told_at" ["room", "name", "moment"] 1 (spF K mg fn_told_at__0) := Def1.botF T.d_told_at
theorem sc_told_on__1 : FnScope ["track", "moment", "room", "span", "found", "item"] ["track", "moment", "room"] (defScope (topS 22)) := ⟨rfl, rfl, rfl, by decide +kernel, rfl, by decide +kernel, by decide +kernel⟩
theorem ok_told_on__1 (T : Top K w mg) : Ok1 P w K mg "told_on" ["track", "moment", "room"] 7 (spF K mg fn_told_on__1) :=
  Def1.F T.d_told_on sc_told_on__1 (by decide) fun base f cdv A outer s H E hr => ((vss_cons (vs_for (passes_of rfl) rfl (vi_seq (ve_of (vf_cal (ok_mix_spans T) (fun _ => hr) (fun _ => (takes_of rfl rfl rfl rfl)) (va_cons (ve_var 0) va_nil)))) (vg_name 3 (fun _ => sc_told_on__1.nd))
    (vss_cons (vs_if (vt_w (vw_and (vt_cmp (fun _ => od_le) (ve_ix (fun _ => hu_of hr) (ve_var 3) ve_int (fun _ _ => rfl)) (ve_var 1) (nomark _)) (vw_and1 (vt_cmp (fun _ => od_lt) (ve_var 1) (ve_ix (fun _ => hu_of hr) (ve_var 3) ve_int (fun _ _ => rfl)) (nomark _)))))
    (vss_cons (vs_retF (vf_cal (ok_told_mix T) (fun _ => hr) (fun _ => (takes_of rfl rfl rfl rfl)) (va_cons (ve_var 0) (va_cons (ve_var 3) (va_cons (ve_var 1) va_nil)))))
    vss_nil)
    vss_nil)
    vss_nil))
    (vss_cons (vs_set 4 sc_told_on__1.nd (ve_cal (ok_item_at T) (fun _ => hr) (fun _ => (takes_of rfl rfl rfl rfl)) (va_cons (ve_var 0) (va_cons (ve_var 1) va_nil))))
    (vss_cons (vs_if (vt_w (vw_or (vt_cmp (fun _ => od_is) (ve_var 4) ve_non (nomark _)) (vw_or1 (vt_cmp (fun _ => od_eq hr.units) (ve_ix (fun _ => hu_of hr) (ve_ix (fun _ => hu_of hr) (ve_var 0) (ve_ix (fun _ => hu_of hr) (ve_var 4) ve_int (fun _ _ => rfl)) (fun _ _ => rfl)) ve_int (fun _ _ => rfl)) ve_str (nomark _)))))
    (vss_cons (vs_retF (vf_lst va_nil))
    vss_nil)
    vss_nil)
    (vss_cons (vs_set 5 sc_told_on__1.nd (ve_ix (fun _ => hu_of hr) (ve_var 0) (ve_ix (fun _ => hu_of hr) (ve_var 4) ve_int (fun _ _ => rfl)) (fun _ _ => rfl)))
    (vss_cons (vs_if (vt_cmp (fun _ => od_eq hr.units) (ve_ix (fun _ => hu_of hr) (ve_var 5) ve_int (fun _ _ => rfl)) ve_str (nomark _))
    (vss_cons (vs_retF (vf_cal (ok_told_at__0 T) (fun _ => hr) (fun _ => (takes_of rfl rfl rfl rfl)) (va_cons (ve_var 2) (va_cons (ve_ix (fun _ => hu_of hr) (ve_var 5) ve_int (fun _ _ => rfl)) (va_cons (ve_bin (fun _ => od_add) (ve_ix (fun _ => hu_of hr) (ve_var 5) ve_int (fun _ _ => rfl)) (ve_ix (fun _ => hu_of hr) (ve_var 4) ve_int (fun _ _ => rfl))) va_nil)))))
    vss_nil)
    vss_nil)
    (vss_cons (vs_retF (vf_lst (va_cons (ve_tup (va_cons (ve_ix (fun _ => hu_of hr) (ve_var 5) ve_int (fun _ _ => rfl)) (va_cons (ve_cal (ok_picture_at T) (fun _ => hr) (fun _ => (takes_of rfl rfl rfl rfl)) (va_cons (ve_var 5) (va_cons (ve_ix (fun _ => hu_of hr) (ve_var 4) ve_int (fun _ _ => rfl)) va_nil))) (va_cons (ve_con T.g_WHOLE) va_nil)))) va_nil)))
    vss_nil)))))) : VSs _ _ _ _ b_told_on__1)
theorem sc_told_at__1 : FnScope ["room", "name", "moment", "track", "found"] ["room", "name", "moment"] (defScope (topS 23)) := ⟨rfl, rfl, rfl, by decide +kernel, rfl, by decide +kernel, by decide +kernel⟩
theorem ok_told_at__1 (T : Top K w mg) : Ok1 P w K mg "told_at" ["room", "name", "moment"] 8 (spF K mg fn_told_at__1) :=
  Def1.F T.d_told_at sc_told_at__1 (by decide) fun base f cdv A outer s H E hr => ((vss_cons (vs_for (passes_of rfl) rfl (vi_seq (ve_ix (fun _ => hu_of hr) (ve_ix (fun _ => hu_of hr) (ve_ix (fun _ => hu_of hr) (ve_var 0) ve_int (fun _ _ => rfl)) (ve_var 1) (fun _ _ => rfl)) ve_int (fun _ _ => rfl))) (vg_name 3 (fun _ => sc_told_at__1.nd))
    (vss_cons (vs_setF 4 sc_told_at__1.nd (vf_cal (ok_told_on__1 T) (fun _ => hr) (fun _ => (takes_of rfl rfl rfl rfl)) (va_cons (ve_var 3) (va_cons (ve_var 2) (va_cons (ve_var 0) va_nil)))))
    (vss_cons (vs_if (vt_bor (vt_cmp (fun _ => od_ne hr.units) (ve_var 4) (ve_of (vf_lst va_nil)) (nomark _)))
    (vss_cons (vs_retF (vf_own 4))
    vss_nil)
    vss_nil)
    vss_nil)))
    (vss_cons (vs_retF (vf_lst va_nil))
    vss_nil)) : VSs _ _ _ _ b_told_at__1)
theorem sc_told_on__2 : FnScope ["track", "moment", "room", "span", "found", "item"] ["track", "moment", "room"] (defScope (topS 22)) := ⟨rfl, rfl, rfl, by decide +kernel, rfl, by decide +kernel, by decide +kernel⟩
theorem ok_told_on__2 (T : Top K w mg) : Ok1 P w K mg "told_on" ["track", "moment", "room"] 9 (spF K mg fn_told_on__2) :=
  Def1.F T.d_told_on sc_told_on__2 (by decide) fun base f cdv A outer s H E hr => ((vss_cons (vs_for (passes_of rfl) rfl (vi_seq (ve_of (vf_cal (ok_mix_spans T) (fun _ => hr) (fun _ => (takes_of rfl rfl rfl rfl)) (va_cons (ve_var 0) va_nil)))) (vg_name 3 (fun _ => sc_told_on__2.nd))
    (vss_cons (vs_if (vt_w (vw_and (vt_cmp (fun _ => od_le) (ve_ix (fun _ => hu_of hr) (ve_var 3) ve_int (fun _ _ => rfl)) (ve_var 1) (nomark _)) (vw_and1 (vt_cmp (fun _ => od_lt) (ve_var 1) (ve_ix (fun _ => hu_of hr) (ve_var 3) ve_int (fun _ _ => rfl)) (nomark _)))))
    (vss_cons (vs_retF (vf_cal (ok_told_mix T) (fun _ => hr) (fun _ => (takes_of rfl rfl rfl rfl)) (va_cons (ve_var 0) (va_cons (ve_var 3) (va_cons (ve_var 1) va_nil)))))
    vss_nil)
    vss_nil)
    vss_nil))
    (vss_cons (vs_set 4 sc_told_on__2.nd (ve_cal (ok_item_at T) (fun _ => hr) (fun _ => (takes_of rfl rfl rfl rfl)) (va_cons (ve_var 0) (va_cons (ve_var 1) va_nil))))
    (vss_cons (vs_if (vt_w (vw_or (vt_cmp (fun _ => od_is) (ve_var 4) ve_non (nomark _)) (vw_or1 (vt_cmp (fun _ => od_eq hr.units) (ve_ix (fun _ => hu_of hr) (ve_ix (fun _ => hu_of hr) (ve_var 0) (ve_ix (fun _ => hu_of hr) (ve_var 4) ve_int (fun _ _ => rfl)) (fun _ _ => rfl)) ve_int (fun _ _ => rfl)) ve_str (nomark _)))))
    (vss_cons (vs_retF (vf_lst va_nil))
    vss_nil)
    vss_nil)
    (vss_cons (vs_set 5 sc_told_on__2.nd (ve_ix (fun _ => hu_of hr) (ve_var 0) (ve_ix (fun _ => hu_of hr) (ve_var 4) ve_int (fun _ _ => rfl)) (fun _ _ => rfl)))
    (vss_cons (vs_if (vt_cmp (fun _ => od_eq hr.units) (ve_ix (fun _ => hu_of hr) (ve_var 5) ve_int (fun _ _ => rfl)) ve_str (nomark _))
    (vss_cons (vs_retF (vf_cal (ok_told_at__1 T) (fun _ => hr) (fun _ => (takes_of rfl rfl rfl rfl)) (va_cons (ve_var 2) (va_cons (ve_ix (fun _ => hu_of hr) (ve_var 5) ve_int (fun _ _ => rfl)) (va_cons (ve_bin (fun _ => od_add) (ve_ix (fun _ => hu_of hr) (ve_var 5) ve_int (fun _ _ => rfl)) (ve_ix (fun _ => hu_of hr) (ve_var 4) ve_int (fun _ _ => rfl))) va_nil)))))
    vss_nil)
    vss_nil)
    (vss_cons (vs_retF (vf_lst (va_cons (ve_tup (va_cons (ve_ix (fun _ => hu_of hr) (ve_var 5) ve_int (fun _ _ => rfl)) (va_cons (ve_cal (ok_picture_at T) (fun _ => hr) (fun _ => (takes_of rfl rfl rfl rfl)) (va_cons (ve_var 5) (va_cons (ve_ix (fun _ => hu_of hr) (ve_var 4) ve_int (fun _ _ => rfl)) va_nil))) (va_cons (ve_con T.g_WHOLE) va_nil)))) va_nil)))
    vss_nil)))))) : VSs _ _ _ _ b_told_on__2)
theorem sc_told_at__2 : FnScope ["room", "name", "moment", "track", "found"] ["room", "name", "moment"] (defScope (topS 23)) := ⟨rfl, rfl, rfl, by decide +kernel, rfl, by decide +kernel, by decide +kernel⟩
theorem ok_told_at__2 (T : Top K w mg) : Ok1 P w K mg "told_at" ["room", "name", "moment"] 10 (spF K mg fn_told_at__2) :=
  Def1.F T.d_told_at sc_told_at__2 (by decide) fun base f cdv A outer s H E hr => ((vss_cons (vs_for (passes_of rfl) rfl (vi_seq (ve_ix (fun _ => hu_of hr) (ve_ix (fun _ => hu_of hr) (ve_ix (fun _ => hu_of hr) (ve_var 0) ve_int (fun _ _ => rfl)) (ve_var 1) (fun _ _ => rfl)) ve_int (fun _ _ => rfl))) (vg_name 3 (fun _ => sc_told_at__2.nd))
    (vss_cons (vs_setF 4 sc_told_at__2.nd (vf_cal (ok_told_on__2 T) (fun _ => hr) (fun _ => (takes_of rfl rfl rfl rfl)) (va_cons (ve_var 3) (va_cons (ve_var 2) (va_cons (ve_var 0) va_nil)))))
    (vss_cons (vs_if (vt_bor (vt_cmp (fun _ => od_ne hr.units) (ve_var 4) (ve_of (vf_lst va_nil)) (nomark _)))
    (vss_cons (vs_retF (vf_own 4))
    vss_nil)
    vss_nil)
    vss_nil)))
    (vss_cons (vs_retF (vf_lst va_nil))
    vss_nil)) : VSs _ _ _ _ b_told_at__2)
theorem sc_told_on__3 : FnScope ["track", "moment", "room", "span", "found", "item"] ["track", "moment", "room"] (defScope (topS 22)) := ⟨rfl, rfl, rfl, by decide +kernel, rfl, by decide +kernel, by decide +kernel⟩
theorem ok_told_on__3 (T : Top K w mg) : Ok1 P w K mg "told_on" ["track", "moment", "room"] 11 (spF K mg fn_told_on__3) :=
  Def1.F T.d_told_on sc_told_on__3 (by decide) fun base f cdv A outer s H E hr => ((vss_cons (vs_for (passes_of rfl) rfl (vi_seq (ve_of (vf_cal (ok_mix_spans T) (fun _ => hr) (fun _ => (takes_of rfl rfl rfl rfl)) (va_cons (ve_var 0) va_nil)))) (vg_name 3 (fun _ => sc_told_on__3.nd))
    (vss_cons (vs_if (vt_w (vw_and (vt_cmp (fun _ => od_le) (ve_ix (fun _ => hu_of hr) (ve_var 3) ve_int (fun _ _ => rfl)) (ve_var 1) (nomark _)) (vw_and1 (vt_cmp (fun _ => od_lt) (ve_var 1) (ve_ix (fun _ => hu_of hr) (ve_var 3) ve_int (fun _ _ => rfl)) (nomark _)))))
    (vss_cons (vs_retF (vf_cal (ok_told_mix T) (fun _ => hr) (fun _ => (takes_of rfl rfl rfl rfl)) (va_cons (ve_var 0) (va_cons (ve_var 3) (va_cons (ve_var 1) va_nil)))))
    vss_nil)
    vss_nil)
    vss_nil))
    (vss_cons (vs_set 4 sc_told_on__3.nd (ve_cal (ok_item_at T) (fun _ => hr) (fun _ => (takes_of rfl rfl rfl rfl)) (va_cons (ve_var 0) (va_cons (ve_var 1) va_nil))))
    (vss_cons (vs_if (vt_w (vw_or (vt_cmp (fun _ => od_is) (ve_var 4) ve_non (nomark _)) (vw_or1 (vt_cmp (fun _ => od_eq hr.units) (ve_ix (fun _ => hu_of hr) (ve_ix (fun _ => hu_of hr) (ve_var 0) (ve_ix (fun _ => hu_of hr) (ve_var 4) ve_int (fun _ _ => rfl)) (fun _ _ => rfl)) ve_int (fun _ _ => rfl)) ve_str (nomark _)))))
    (vss_cons (vs_retF (vf_lst va_nil))
    vss_nil)
    vss_nil)
    (vss_cons (vs_set 5 sc_told_on__3.nd (ve_ix (fun _ => hu_of hr) (ve_var 0) (ve_ix (fun _ => hu_of hr) (ve_var 4) ve_int (fun _ _ => rfl)) (fun _ _ => rfl)))
    (vss_cons (vs_if (vt_cmp (fun _ => od_eq hr.units) (ve_ix (fun _ => hu_of hr) (ve_var 5) ve_int (fun _ _ => rfl)) ve_str (nomark _))
    (vss_cons (vs_retF (vf_cal (ok_told_at__2 T) (fun _ => hr) (fun _ => (takes_of rfl rfl rfl rfl)) (va_cons (ve_var 2) (va_cons (ve_ix (fun _ => hu_of hr) (ve_var 5) ve_int (fun _ _ => rfl)) (va_cons (ve_bin (fun _ => od_add) (ve_ix (fun _ => hu_of hr) (ve_var 5) ve_int (fun _ _ => rfl)) (ve_ix (fun _ => hu_of hr) (ve_var 4) ve_int (fun _ _ => rfl))) va_nil)))))
    vss_nil)
    vss_nil)
    (vss_cons (vs_retF (vf_lst (va_cons (ve_tup (va_cons (ve_ix (fun _ => hu_of hr) (ve_var 5) ve_int (fun _ _ => rfl)) (va_cons (ve_cal (ok_picture_at T) (fun _ => hr) (fun _ => (takes_of rfl rfl rfl rfl)) (va_cons (ve_var 5) (va_cons (ve_ix (fun _ => hu_of hr) (ve_var 4) ve_int (fun _ _ => rfl)) va_nil))) (va_cons (ve_con T.g_WHOLE) va_nil)))) va_nil)))
    vss_nil)))))) : VSs _ _ _ _ b_told_on__3)
theorem sc_told_at__3 : FnScope ["room", "name", "moment", "track", "found"] ["room", "name", "moment"] (defScope (topS 23)) := ⟨rfl, rfl, rfl, by decide +kernel, rfl, by decide +kernel, by decide +kernel⟩
theorem ok_told_at__3 (T : Top K w mg) : Ok1 P w K mg "told_at" ["room", "name", "moment"] 12 (spF K mg fn_told_at__3) :=
  Def1.F T.d_told_at sc_told_at__3 (by decide) fun base f cdv A outer s H E hr => ((vss_cons (vs_for (passes_of rfl) rfl (vi_seq (ve_ix (fun _ => hu_of hr) (ve_ix (fun _ => hu_of hr) (ve_ix (fun _ => hu_of hr) (ve_var 0) ve_int (fun _ _ => rfl)) (ve_var 1) (fun _ _ => rfl)) ve_int (fun _ _ => rfl))) (vg_name 3 (fun _ => sc_told_at__3.nd))
    (vss_cons (vs_setF 4 sc_told_at__3.nd (vf_cal (ok_told_on__3 T) (fun _ => hr) (fun _ => (takes_of rfl rfl rfl rfl)) (va_cons (ve_var 3) (va_cons (ve_var 2) (va_cons (ve_var 0) va_nil)))))
    (vss_cons (vs_if (vt_bor (vt_cmp (fun _ => od_ne hr.units) (ve_var 4) (ve_of (vf_lst va_nil)) (nomark _)))
    (vss_cons (vs_retF (vf_own 4))
    vss_nil)
    vss_nil)
    vss_nil)))
    (vss_cons (vs_retF (vf_lst va_nil))
    vss_nil)) : VSs _ _ _ _ b_told_at__3)
theorem sc_told_on : FnScope ["track", "moment", "room", "span", "found", "item"] ["track", "moment", "room"] (defScope (topS 22)) := ⟨rfl, rfl, rfl, by decide +kernel, rfl, by decide +kernel, by decide +kernel⟩
theorem ok_told_on (T : Top K w mg) : Ok1 P w K mg "told_on" ["track", "moment", "room"] 13 (spF K mg fn_told_on) :=
  Def1.F T.d_told_on sc_told_on (by decide) fun base f cdv A outer s H E hr => ((vss_cons (vs_for (passes_of rfl) rfl (vi_seq (ve_of (vf_cal (ok_mix_spans T) (fun _ => hr) (fun _ => (takes_of rfl rfl rfl rfl)) (va_cons (ve_var 0) va_nil)))) (vg_name 3 (fun _ => sc_told_on.nd))
    (vss_cons (vs_if (vt_w (vw_and (vt_cmp (fun _ => od_le) (ve_ix (fun _ => hu_of hr) (ve_var 3) ve_int (fun _ _ => rfl)) (ve_var 1) (nomark _)) (vw_and1 (vt_cmp (fun _ => od_lt) (ve_var 1) (ve_ix (fun _ => hu_of hr) (ve_var 3) ve_int (fun _ _ => rfl)) (nomark _)))))
    (vss_cons (vs_retF (vf_cal (ok_told_mix T) (fun _ => hr) (fun _ => (takes_of rfl rfl rfl rfl)) (va_cons (ve_var 0) (va_cons (ve_var 3) (va_cons (ve_var 1) va_nil)))))
    vss_nil)
    vss_nil)
    vss_nil))
    (vss_cons (vs_set 4 sc_told_on.nd (ve_cal (ok_item_at T) (fun _ => hr) (fun _ => (takes_of rfl rfl rfl rfl)) (va_cons (ve_var 0) (va_cons (ve_var 1) va_nil))))
    (vss_cons (vs_if (vt_w (vw_or (vt_cmp (fun _ => od_is) (ve_var 4) ve_non (nomark _)) (vw_or1 (vt_cmp (fun _ => od_eq hr.units) (ve_ix (fun _ => hu_of hr) (ve_ix (fun _ => hu_of hr) (ve_var 0) (ve_ix (fun _ => hu_of hr) (ve_var 4) ve_int (fun _ _ => rfl)) (fun _ _ => rfl)) ve_int (fun _ _ => rfl)) ve_str (nomark _)))))
    (vss_cons (vs_retF (vf_lst va_nil))
    vss_nil)
    vss_nil)
    (vss_cons (vs_set 5 sc_told_on.nd (ve_ix (fun _ => hu_of hr) (ve_var 0) (ve_ix (fun _ => hu_of hr) (ve_var 4) ve_int (fun _ _ => rfl)) (fun _ _ => rfl)))
    (vss_cons (vs_if (vt_cmp (fun _ => od_eq hr.units) (ve_ix (fun _ => hu_of hr) (ve_var 5) ve_int (fun _ _ => rfl)) ve_str (nomark _))
    (vss_cons (vs_retF (vf_cal (ok_told_at__3 T) (fun _ => hr) (fun _ => (takes_of rfl rfl rfl rfl)) (va_cons (ve_var 2) (va_cons (ve_ix (fun _ => hu_of hr) (ve_var 5) ve_int (fun _ _ => rfl)) (va_cons (ve_bin (fun _ => od_add) (ve_ix (fun _ => hu_of hr) (ve_var 5) ve_int (fun _ _ => rfl)) (ve_ix (fun _ => hu_of hr) (ve_var 4) ve_int (fun _ _ => rfl))) va_nil)))))
    vss_nil)
    vss_nil)
    (vss_cons (vs_retF (vf_lst (va_cons (ve_tup (va_cons (ve_ix (fun _ => hu_of hr) (ve_var 5) ve_int (fun _ _ => rfl)) (va_cons (ve_cal (ok_picture_at T) (fun _ => hr) (fun _ => (takes_of rfl rfl rfl rfl)) (va_cons (ve_var 5) (va_cons (ve_ix (fun _ => hu_of hr) (ve_var 4) ve_int (fun _ _ => rfl)) va_nil))) (va_cons (ve_con T.g_WHOLE) va_nil)))) va_nil)))
    vss_nil)))))) : VSs _ _ _ _ b_told_on)
theorem sc_told_at : FnScope ["room", "name", "moment", "track", "found"] ["room", "name", "moment"] (defScope (topS 23)) := ⟨rfl, rfl, rfl, by decide +kernel, rfl, by decide +kernel, by decide +kernel⟩
theorem ok_told_at (T : Top K w mg) : Ok1 P w K mg "told_at" ["room", "name", "moment"] 14 (spF K mg fn_told_at) :=
  Def1.F T.d_told_at sc_told_at (by decide) fun base f cdv A outer s H E hr => ((vss_cons (vs_for (passes_of rfl) rfl (vi_seq (ve_ix (fun _ => hu_of hr) (ve_ix (fun _ => hu_of hr) (ve_ix (fun _ => hu_of hr) (ve_var 0) ve_int (fun _ _ => rfl)) (ve_var 1) (fun _ _ => rfl)) ve_int (fun _ _ => rfl))) (vg_name 3 (fun _ => sc_told_at.nd))
    (vss_cons (vs_setF 4 sc_told_at.nd (vf_cal (ok_told_on T) (fun _ => hr) (fun _ => (takes_of rfl rfl rfl rfl)) (va_cons (ve_var 3) (va_cons (ve_var 2) (va_cons (ve_var 0) va_nil)))))
    (vss_cons (vs_if (vt_bor (vt_cmp (fun _ => od_ne hr.units) (ve_var 4) (ve_of (vf_lst va_nil)) (nomark _)))
    (vss_cons (vs_retF (vf_own 4))
    vss_nil)
    vss_nil)
    vss_nil)))
    (vss_cons (vs_retF (vf_lst va_nil))
    vss_nil)) : VSs _ _ _ _ b_told_at)
theorem sc__law_kinds : FnScope ["_law_found", "_law_one"] ["_law_found"] (defScope (topS 34)) := ⟨rfl, rfl, rfl, by decide +kernel, rfl, by decide +kernel, by decide +kernel⟩
theorem ok__law_kinds (T : Top K w mg) : Ok1 P w K mg "_law_kinds" ["_law_found"] 1 (spV K mg fn__law_kinds) :=
  Def1.V T.d__law_kinds sc__law_kinds (by decide) fun base f cdv A outer s H E hr => ((vss_cons (vs_if (vt_not (vt_val (ve_isi kit_list (fun _ => T.z_isinstance) (fun _ => T.z_list) (by decide +kernel) (by decide +kernel) (ve_var 0))))
    (vss_cons (vs_ret ve_bl)
    vss_nil)
    vss_nil)
    (vss_cons (vs_for (passes_of rfl) rfl (vi_seq (ve_var 0)) (vg_name 1 (fun _ => sc__law_kinds.nd))
    (vss_cons (vs_if (vt_w (vw_or (vt_not (vt_val (ve_isi kit_tuple (fun _ => T.z_isinstance) (fun _ => T.z_tuple) (by decide +kernel) (by decide +kernel) (ve_var 1)))) (vw_or (vt_cmp (fun _ => od_ne hr.units) (ve_bf (fun _ => cd_len (.inr trivial)) (fun _ => T.z_len) (by decide +kernel) (va_cons (ve_var 1) va_nil)) ve_int (nomark _)) (vw_or1 (vt_not (vt_val (ve_isi kit_str (fun _ => T.z_isinstance) (fun _ => T.z_str) (by decide +kernel) (by decide +kernel) (ve_ix (fun _ => hu_of hr) (ve_var 1) ve_int (fun _ _ => rfl)))))))))
    (vss_cons (vs_ret ve_bl)
    vss_nil)
    vss_nil)
    (vss_cons (vs_if (vt_w (vw_or (vt_not (vt_val (ve_isi kit_int (fun _ => T.z_isinstance) (fun _ => T.z_int) (by decide +kernel) (by decide +kernel) (ve_ix (fun _ => hu_of hr) (ve_var 1) ve_int (fun _ _ => rfl))))) (vw_or (vt_val (ve_isi kit_bool (fun _ => T.z_isinstance) (fun _ => T.z_bool) (by decide +kernel) (by decide +kernel) (ve_ix (fun _ => hu_of hr) (ve_var 1) ve_int (fun _ _ => rfl)))) (vw_or1 (vt_not (vt_val (ve_isi kit_tuple (fun _ => T.z_isinstance) (fun _ => T.z_tuple) (by decide +kernel) (by decide +kernel) (ve_ix (fun _ => hu_of hr) (ve_var 1) ve_int (fun _ _ => rfl)))))))))
    (vss_cons (vs_ret ve_bl)
    vss_nil)
    vss_nil)
    vss_nil)))
    (vss_cons (vs_ret ve_bl)
    vss_nil))) : VSs _ _ _ _ b__law_kinds)
theorem sc__law_due : FnScope ["_law_track_here", "_law_moment", "_law_room_here", "_law_begin", "_law_item", "_law_top"] ["_law_track_here", "_law_moment", "_law_room_here"] (defScope (topS 33)) := ⟨rfl, rfl, rfl, by decide +kernel, rfl, by decide +kernel, by decide +kernel⟩
theorem ok__law_due (T : Top K w mg) : Ok1 P w K mg "_law_due" ["_law_track_here", "_law_moment", "_law_room_here"] 15 (spF K mg fn__law_due) :=
  Def1.F T.d__law_due sc__law_due (by decide) fun base f cdv A outer s H E hr => ((vss_cons (vs_set 3 sc__law_due.nd ve_int)
    (vss_cons (vs_for (passes_of rfl) rfl (vi_seq (ve_var 0)) (vg_name 4 (fun _ => sc__law_due.nd))
    (vss_cons (vs_if (vt_w (vw_and (vt_cmp (fun _ => od_le) (ve_var 3) (ve_var 1) (nomark _)) (vw_and1 (vt_cmp (fun _ => od_lt) (ve_var 1) (ve_bin (fun _ => od_add) (ve_var 3) (ve_ix (fun _ => hu_of hr) (ve_var 4) (ve_un (fun _ => ud_neg) ve_int) (fun _ _ => rfl))) (nomark _)))))
    (vss_cons (vs_if (vt_cmp (fun _ => od_eq hr.units) (ve_ix (fun _ => hu_of hr) (ve_var 4) ve_int (fun _ _ => rfl)) ve_str (nomark _))
    (vss_cons (vs_retF (vf_lst va_nil))
    vss_nil)
    vss_nil)
    (vss_cons (vs_if (vt_cmp (fun _ => od_eq hr.units) (ve_ix (fun _ => hu_of hr) (ve_var 4) ve_int (fun _ _ => rfl)) ve_str (nomark _))
    (vss_cons (vs_retF (vf_cal (ok_told_at T) (fun _ => hr) (fun _ => (takes_of rfl rfl rfl rfl)) (va_cons (ve_var 2) (va_cons (ve_ix (fun _ => hu_of hr) (ve_var 4) ve_int (fun _ _ => rfl)) (va_cons (ve_bin (fun _ => od_sub) (ve_bin (fun _ => od_add) (ve_ix (fun _ => hu_of hr) (ve_var 4) ve_int (fun _ _ => rfl)) (ve_var 1)) (ve_var 3)) va_nil)))))
    vss_nil)
    vss_nil)
    (vss_cons (vs_set 5 sc__law_due.nd (ve_bin (fun _ => od_add) (ve_bin (fun _ => od_mul) (ve_ix (fun _ => hu_of hr) (ve_ix (fun _ => hu_of hr) (ve_var 4) ve_int (fun _ _ => rfl)) ve_int (fun _ _ => rfl)) (ve_ix (fun _ => hu_of hr) (ve_ix (fun _ => hu_of hr) (ve_var 4) ve_int (fun _ _ => rfl)) ve_int (fun _ _ => rfl))) (ve_bin (fun _ => od_mul) (ve_bin (fun _ => od_mul) (ve_bin (fun _ => od_sub) (ve_var 1) (ve_var 3)) (ve_ix (fun _ => hu_of hr) (ve_ix (fun _ => hu_of hr) (ve_var 4) ve_int (fun _ _ => rfl)) ve_int (fun _ _ => rfl))) (ve_ix (fun _ => hu_of hr) (ve_ix (fun _ => hu_of hr) (ve_var 4) ve_int (fun _ _ => rfl)) ve_int (fun _ _ => rfl)))))
    (vss_cons (vs_retF (vf_lst (va_cons (ve_tup (va_cons (ve_ix (fun _ => hu_of hr) (ve_var 4) ve_int (fun _ _ => rfl)) (va_cons (ve_bin (fun _ => od_fdiv) (ve_var 5) (ve_bin (fun _ => od_mul) (ve_ix (fun _ => hu_of hr) (ve_ix (fun _ => hu_of hr) (ve_var 4) ve_int (fun _ _ => rfl)) ve_int (fun _ _ => rfl)) (ve_ix (fun _ => hu_of hr) (ve_ix (fun _ => hu_of hr) (ve_var 4) ve_int (fun _ _ => rfl)) ve_int (fun _ _ => rfl)))) (va_cons (ve_tup (va_cons ve_int (va_cons ve_int va_nil))) va_nil)))) va_nil)))
    vss_nil))))
    vss_nil)
    (vss_cons (vs_set 3 sc__law_due.nd (ve_bin (fun _ => od_add) (ve_var 3) (ve_ix (fun _ => hu_of hr) (ve_var 4) (ve_un (fun _ => ud_neg) ve_int) (fun _ _ => rfl))))
    vss_nil)))
    (vss_cons (vs_retF (vf_lst va_nil))
    vss_nil))) : VSs _ _ _ _ b__law_due)
theorem sc_law : FnScope ["_law_script", "_law_room_here", "_law_copy", "_law_tracks", "_law_last", "_law_moment", "_law_whole", "_law_track_here", "_law_found", "_law_item"] ["_law_script"] (defScope (topS 35)) := ⟨rfl, rfl, rfl, by decide +kernel, rfl, by decide +kernel, by decide +kernel⟩
theorem ok_law (T : Top K w mg) : Ok1 P w K mg "law" ["_law_script"] 16 (spV K mg fn_law) :=
  Def1.V T.d_law sc_law (by decide) fun base f cdv A outer s H E hr => ((vss_cons (vs_set 1 sc_law.nd (ve_cal (ok__law_room T) (fun _ => hr) (fun _ => (takes_of rfl rfl rfl rfl)) (va_cons (ve_cal (ok__law_cell_at T) (fun _ => hr) (fun _ => (takes_of rfl rfl rfl rfl)) (va_cons (ve_var 0) (va_cons ve_int va_nil))) (va_cons (ve_bin (fun _ => od_add) ve_int (ve_bin (fun _ => od_mod) (ve_cal (ok__law_cell_at T) (fun _ => hr) (fun _ => (takes_of rfl rfl rfl rfl)) (va_cons (ve_var 0) (va_cons ve_int va_nil))) ve_int)) (va_cons ve_int va_nil)))))
    (vss_cons (vs_set 2 sc_law.nd (ve_cal (ok__law_copied T) (fun _ => hr) (fun _ => (takes_of rfl rfl rfl rfl)) (va_cons (ve_var 1) va_nil)))
    (vss_cons (vs_set 3 sc_law.nd (ve_ix (fun _ => hu_of hr) (ve_ix (fun _ => hu_of hr) (ve_ix (fun _ => hu_of hr) (ve_var 1) ve_int (fun _ _ => rfl)) ve_str (fun _ _ => rfl)) ve_int (fun _ _ => rfl)))
    (vss_cons (vs_set 4 sc_law.nd (ve_bf (fun _ => cd_maxL rfl) (fun _ => T.z_max) (by decide +kernel) (va_cons (ve_of (vf_lc (fun _ => rfl) (fun _ => sc_law.nd) (vi_seq (ve_var 3)) (own := [("_law_track_here", 7)]) (fun _ => blkOk_by (by kernel_rfl)) (vg_name 7 (fun _ => sc_law.nd)) vts_nil (ve_bf (fun _ => cd_sum rfl) (fun _ => T.z_sum) (by decide +kernel) (va_cons (ve_of (vf_lc (fun _ => rfl) (fun _ => sc_law.nd) (vi_seq (ve_var 7)) (own := [("_law_item", 9)]) (fun _ => blkOk_by (by kernel_rfl)) (vg_name 9 (fun _ => sc_law.nd)) vts_nil (ve_ix (fun _ => hu_of hr) (ve_var 9) (ve_un (fun _ => ud_neg) ve_int) (fun _ _ => rfl)))) va_nil)))) va_nil)))
    (vss_cons (vs_for (passes_of rfl) rfl (vi_rng1 (fun _ => T.z_range) (va_cons (ve_bin (fun _ => od_add) (ve_var 4) ve_int) va_nil)) (vg_name 5 (fun _ => sc_law.nd))
    (vss_cons (vs_set 6 sc_law.nd (ve_of (vf_lst va_nil)))
    (vss_cons (vs_for (passes_of rfl) rfl (vi_seq (ve_var 3)) (vg_name 7 (fun _ => sc_law.nd))
    (vss_cons (vs_setF 8 sc_law.nd (vf_cal (ok_told_on T) (fun _ => hr) (fun _ => (takes_of rfl rfl rfl rfl)) (va_cons (ve_var 7) (va_cons (ve_var 5) (va_cons (ve_var 1) va_nil)))))
    (vss_cons (vs_if (vt_w (vw_or (vt_not (vt_bor (vt_val (ve_cal (ok__law_kinds T) (fun _ => hr) (fun _ => (takes_of rfl rfl rfl rfl)) (va_cons (ve_var 8) va_nil))))) (vw_or1 (vt_bor (vt_cmp (fun _ => od_ne hr.units) (ve_var 8) (ve_of (vf_cal (ok__law_due T) (fun _ => hr) (fun _ => (takes_of rfl rfl rfl rfl)) (va_cons (ve_var 7) (va_cons (ve_var 5) (va_cons (ve_var 1) va_nil))))) (nomark _))))))
    (vss_cons (vs_ret ve_bl)
    vss_nil)
    vss_nil)
    (vss_cons (vs_if (vt_cmp (fun _ => od_eq hr.units) (ve_var 6) (ve_of (vf_lst va_nil)) (nomark _))
    (vss_cons (vs_set 6 sc_law.nd (ve_of (vf_bor (vf_ty (fun _ => cd_listK rfl) (fun _ => T.z_list) (by decide +kernel) (va_cons (ve_var 8) va_nil)))))
    vss_nil)
    vss_nil)
    (vss_cons (vs_app 8 (ve_tup (va_cons ve_str (va_cons ve_int (va_cons (ve_tup (va_cons ve_int (va_cons ve_int va_nil))) va_nil)))))
    vss_nil)))))
    (vss_cons (vs_if (vt_cmp (fun _ => od_ne hr.units) (ve_of (vf_cal (ok_told_at T) (fun _ => hr) (fun _ => (takes_of rfl rfl rfl rfl)) (va_cons (ve_var 1) (va_cons ve_str (va_cons (ve_var 5) va_nil))))) (ve_var 6) (nomark _))
    (vss_cons (vs_ret ve_bl)
    vss_nil)
    vss_nil)
    vss_nil))))
    (vss_cons (vs_ret (ve_cmp (fun _ => od_eqN hr.units) (ve_var 1) (ve_var 2) (nomark _)))
    vss_nil)))))) : VSs _ _ _ _ b_law)
end
/-! the head -/
def dd_is_whole : He.DefD := defD "is_whole" (topS 4)
def dd_shared_by : He.DefD := defD "shared_by" (topS 5)
def dd_fraction : He.DefD := defD "fraction" (topS 6)
def dd_sum_of : He.DefD := defD "sum_of" (topS 7)
def dd_times_of : He.DefD := defD "times_of" (topS 8)
def dd_floor_of : He.DefD := defD "floor_of" (topS 9)
def dd_place_at : He.DefD := defD "place_at" (topS 11)
def dd_picture_at : He.DefD := defD "picture_at" (topS 12)
def dd_room_of : He.DefD := defD "room_of" (topS 14)
def dd_item_at : He.DefD := defD "item_at" (topS 15)
def dd_mix_spans : He.DefD := defD "mix_spans" (topS 17)
def dd_mix_shares : He.DefD := defD "mix_shares" (topS 18)
def dd_told_mix : He.DefD := defD "told_mix" (topS 21)
def dd_told_on : He.DefD := defD "told_on" (topS 22)
def dd_told_at : He.DefD := defD "told_at" (topS 23)
def dd__law_cell_at : He.DefD := defD "_law_cell_at" (topS 25)
def dd__law_stream : He.DefD := defD "_law_stream" (topS 26)
def dd__law_lowest : He.DefD := defD "_law_lowest" (topS 27)
def dd__law_clip : He.DefD := defD "_law_clip" (topS 28)
def dd__law_track : He.DefD := defD "_law_track" (topS 29)
def dd__law_reels : He.DefD := defD "_law_reels" (topS 30)
def dd__law_room : He.DefD := defD "_law_room" (topS 31)
def dd__law_copied : He.DefD := defD "_law_copied" (topS 32)
def dd__law_due : He.DefD := defD "_law_due" (topS 33)
def dd__law_kinds : He.DefD := defD "_law_kinds" (topS 34)
def dd_law : He.DefD := defD "law" (topS 35)
def dds : List He.DefD := [dd_is_whole, dd_shared_by, dd_fraction, dd_sum_of, dd_times_of, dd_floor_of, dd_place_at, dd_picture_at, dd_room_of, dd_item_at, dd_mix_spans, dd_mix_shares, dd_told_mix, dd_told_on, dd_told_at, dd__law_cell_at, dd__law_stream, dd__law_lowest, dd__law_clip, dd__law_track, dd__law_reels, dd__law_room, dd__law_copied, dd__law_due, dd__law_kinds, dd_law]
def fas : List He.Fa := [.glo "is_whole", .glo "shared_by", .glo "fraction", .glo "sum_of", .glo "times_of", .glo "floor_of", .glo "place_at", .glo "picture_at", .glo "room_of", .glo "item_at", .glo "mix_spans", .glo "mix_shares", .glo "told_mix", .glo "told_on", .glo "told_at", .glo "_law_cell_at", .glo "_law_stream", .glo "_law_lowest", .glo "_law_clip", .glo "_law_track", .glo "_law_reels", .glo "_law_room", .glo "_law_copied", .glo "_law_due", .glo "_law_kinds", .glo "law", .free "abs", .free "bool", .free "dict", .free "enumerate", .free "int", .free "isinstance", .free "len", .free "list", .free "max", .free "range", .free "str", .free "sum", .free "tuple", .glo "NoNumber", .exc "NoNumber"]
def loose0 : List Str := ["CutError", "NoNumber", "is_whole", "shared_by", "fraction", "sum_of", "times_of", "floor_of", "place_at", "picture_at", "room_of", "item_at", "mix_spans", "mix_shares", "WHOLE", "told_mix", "told_on", "told_at", "_law_cell_at", "_law_stream", "_law_lowest", "_law_clip", "_law_track", "_law_reels", "_law_room", "_law_copied", "_law_due", "_law_kinds"]
abbrev looseN : List Str := loose0
abbrev R0 : PySem.W.OpenRow := PySem.W.OpenLaw.row PySem.Challenge.rw_reelcut_k23_tracks_told
def tbs : List He.Tab := []
def fx0 : PySem.W.Frag → Bool := fun K => ((He.Fa.glo "WHOLE").ok K && He.tupB K "WHOLE" [(.int 1), (.int 1)]) && (true)
abbrev hk0 : PySem.W.Hook := hookY 4 fas dds tbs fx0
def ob0 (s : PySem.W.SharedT) : He.AlT × Bool := obY 4 fas dds tbs fx0 (HandSHeadRun.getT s)
theorem ob0_eq (s : PySem.W.SharedT) : ob0 s = hk0.obs s.abs := obY_eq (HandSHeadRun.getT_eq s)
theorem run0 (w : World) : HandSHeadRun.RunEq R0 (PySem.W.view R0.prog [35]) hk0 ob0 2560 looseN w := by
  intro os
  kernel_rfl
theorem top_of {K : PySem.W.Frag} {w : World} {h : Heap} {mg : Str → Option Value} (X : K.In h) (G : h.Ns mainGlobals mg) (c : He.SaysT fas dds tbs w K) (d : fx0 K = true) : Top K w mg where
  d_is_whole := def1_of (c.d.def_ 0 (d := dd_is_whole) rfl) X G (c.d.fact 0 (f := .glo "is_whole") rfl) fun _ _ _ _ _ _ us hl => match us, hl with | [_], _ => rfl
  d_shared_by := def1_of (c.d.def_ 1 (d := dd_shared_by) rfl) X G (c.d.fact 1 (f := .glo "shared_by") rfl) fun _ _ _ _ _ _ us hl => match us, hl with | [_, _], _ => rfl
  d_fraction := def1_of (c.d.def_ 2 (d := dd_fraction) rfl) X G (c.d.fact 2 (f := .glo "fraction") rfl) fun _ _ _ _ _ _ us hl => match us, hl with | [_, _], _ => rfl
  d_sum_of := def1_of (c.d.def_ 3 (d := dd_sum_of) rfl) X G (c.d.fact 3 (f := .glo "sum_of") rfl) fun _ _ _ _ _ _ us hl => match us, hl with | [_, _], _ => rfl
  d_times_of := def1_of (c.d.def_ 4 (d := dd_times_of) rfl) X G (c.d.fact 4 (f := .glo "times_of") rfl) fun _ _ _ _ _ _ us hl => match us, hl with | [_, _], _ => rfl
  d_floor_of := def1_of (c.d.def_ 5 (d := dd_floor_of) rfl) X G (c.d.fact 5 (f := .glo "floor_of") rfl) fun _ _ _ _ _ _ us hl => match us, hl with | [_], _ => rfl
  d_place_at := def1_of (c.d.def_ 6 (d := dd_place_at) rfl) X G (c.d.fact 6 (f := .glo "place_at") rfl) fun _ _ _ _ _ _ us hl => match us, hl with | [_, _], _ => rfl
  d_picture_at := def1_of (c.d.def_ 7 (d := dd_picture_at) rfl) X G (c.d.fact 7 (f := .glo "picture_at") rfl) fun _ _ _ _ _ _ us hl => match us, hl with | [_, _], _ => rfl
  d_room_of := def1_of (c.d.def_ 8 (d := dd_room_of) rfl) X G (c.d.fact 8 (f := .glo "room_of") rfl) fun _ _ _ _ _ _ us hl => match us, hl with | [_], _ => rfl
  d_item_at := def1_of (c.d.def_ 9 (d := dd_item_at) rfl) X G (c.d.fact 9 (f := .glo "item_at") rfl) fun _ _ _ _ _ _ us hl => match us, hl with | [_, _], _ => rfl
  d_mix_spans := def1_of (c.d.def_ 10 (d := dd_mix_spans) rfl) X G (c.d.fact 10 (f := .glo "mix_spans") rfl) fun _ _ _ _ _ _ us hl => match us, hl with | [_], _ => rfl
  d_mix_shares := def1_of (c.d.def_ 11 (d := dd_mix_shares) rfl) X G (c.d.fact 11 (f := .glo "mix_shares") rfl) fun _ _ _ _ _ _ us hl => match us, hl with | [_, _], _ => rfl
  d_told_mix := def1_of (c.d.def_ 12 (d := dd_told_mix) rfl) X G (c.d.fact 12 (f := .glo "told_mix") rfl) fun _ _ _ _ _ _ us hl => match us, hl with | [_, _, _], _ => rfl
  d_told_on := def1_of (c.d.def_ 13 (d := dd_told_on) rfl) X G (c.d.fact 13 (f := .glo "told_on") rfl) fun _ _ _ _ _ _ us hl => match us, hl with | [_, _, _], _ => rfl
  d_told_at := def1_of (c.d.def_ 14 (d := dd_told_at) rfl) X G (c.d.fact 14 (f := .glo "told_at") rfl) fun _ _ _ _ _ _ us hl => match us, hl with | [_, _, _], _ => rfl
  d__law_cell_at := def1_of (c.d.def_ 15 (d := dd__law_cell_at) rfl) X G (c.d.fact 15 (f := .glo "_law_cell_at") rfl) fun _ _ _ _ _ _ us hl => match us, hl with | [_, _], _ => rfl
  d__law_stream := def1_of (c.d.def_ 16 (d := dd__law_stream) rfl) X G (c.d.fact 16 (f := .glo "_law_stream") rfl) fun _ _ _ _ _ _ us hl => match us, hl with | [_, _], _ => rfl
  d__law_lowest := def1_of (c.d.def_ 17 (d := dd__law_lowest) rfl) X G (c.d.fact 17 (f := .glo "_law_lowest") rfl) fun _ _ _ _ _ _ us hl => match us, hl with | [_, _], _ => rfl
  d__law_clip := def1_of (c.d.def_ 18 (d := dd__law_clip) rfl) X G (c.d.fact 18 (f := .glo "_law_clip") rfl) fun _ _ _ _ _ _ us hl => match us, hl with | [_, _, _], _ => rfl
  d__law_track := def1_of (c.d.def_ 19 (d := dd__law_track) rfl) X G (c.d.fact 19 (f := .glo "_law_track") rfl) fun _ _ _ _ _ _ us hl => match us, hl with | [_, _, _], _ => rfl
  d__law_reels := def1_of (c.d.def_ 20 (d := dd__law_reels) rfl) X G (c.d.fact 20 (f := .glo "_law_reels") rfl) fun _ _ _ _ _ _ us hl => match us, hl with | [_], _ => rfl
  d__law_room := def1_of (c.d.def_ 21 (d := dd__law_room) rfl) X G (c.d.fact 21 (f := .glo "_law_room") rfl) fun _ _ _ _ _ _ us hl => match us, hl with | [_, _, _], _ => rfl
  d__law_copied := def1_of (c.d.def_ 22 (d := dd__law_copied) rfl) X G (c.d.fact 22 (f := .glo "_law_copied") rfl) fun _ _ _ _ _ _ us hl => match us, hl with | [_], _ => rfl
  d__law_due := def1_of (c.d.def_ 23 (d := dd__law_due) rfl) X G (c.d.fact 23 (f := .glo "_law_due") rfl) fun _ _ _ _ _ _ us hl => match us, hl with | [_, _, _], _ => rfl
  d__law_kinds := def1_of (c.d.def_ 24 (d := dd__law_kinds) rfl) X G (c.d.fact 24 (f := .glo "_law_kinds") rfl) fun _ _ _ _ _ _ us hl => match us, hl with | [_], _ => rfl
  d_law := def1_of (c.d.def_ 25 (d := dd_law) rfl) X G (c.d.fact 25 (f := .glo "law") rfl) fun _ _ _ _ _ _ us hl => match us, hl with | [_], _ => rfl
  z_abs := He.free_ok X G (c.d.fact 26 (f := .free "abs") rfl)
  z_bool := He.free_ok X G (c.d.fact 27 (f := .free "bool") rfl)
  z_dict := He.free_ok X G (c.d.fact 28 (f := .free "dict") rfl)
  z_enumerate := He.free_ok X G (c.d.fact 29 (f := .free "enumerate") rfl)
  z_int := He.free_ok X G (c.d.fact 30 (f := .free "int") rfl)
  z_isinstance := He.free_ok X G (c.d.fact 31 (f := .free "isinstance") rfl)
  z_len := He.free_ok X G (c.d.fact 32 (f := .free "len") rfl)
  z_list := He.free_ok X G (c.d.fact 33 (f := .free "list") rfl)
  z_max := He.free_ok X G (c.d.fact 34 (f := .free "max") rfl)
  z_range := He.free_ok X G (c.d.fact 35 (f := .free "range") rfl)
  z_str := He.free_ok X G (c.d.fact 36 (f := .free "str") rfl)
  z_sum := He.free_ok X G (c.d.fact 37 (f := .free "sum") rfl)
  z_tuple := He.free_ok X G (c.d.fact 38 (f := .free "tuple") rfl)
  x_NoNumber := excCls_of X G (c.d.fact 39 (f := .glo "NoNumber") rfl) (c.d.fact 40 (f := .exc "NoNumber") rfl)
  g_WHOLE := gcon_tup X G (vs := [(.int 1), (.int 1)]) (He.ba d).1 rfl
end VL

/-! PL: running the plain functions: each combinator as a frame over what stands at its place. -/
namespace VL
open PySem
def RS.seq (r : RS) (b : MS) : RS := match r with
  | .nx e1 => b e1
  | r => r
@[simp] theorem sq1 {e b} : RS.seq (.nx e) b = b e := (rfl)
@[simp] theorem sq2 {d e b} : RS.seq (.rt d e) b = .rt d e := (rfl)
@[simp] theorem sq3 {x e b} : RS.seq (.err x e) b = .err x e := (rfl)
@[simp] theorem sq4 {b} : RS.seq .bot b = .bot := (rfl)
@[simp] theorem sq5 {e b} : RS.seq (.bk e) b = .bk e := (rfl)
@[simp] theorem sq6 {e b} : RS.seq (.ct e) b = .ct e := (rfl)
@[simp] theorem e_seq {a b e} : vSeq a b e = RS.seq (a e) b := by unfold vSeq; cases (a e) <;> rfl
@[simp] theorem e_next {e} : vNext e = .nx e := (rfl)
@[simp] theorem e_pass {e} : vPass e = .nx e := (rfl)
@[simp] theorem e_break {e} : vBreak e = .bk e := (rfl)
@[simp] theorem e_cont {e} : vCont e = .ct e := (rfl)
@[simp] theorem of1 {α : Type} {a : α} {e} : Res.of (some a) e = .ok a e := (rfl)
@[simp] theorem of2 {α : Type} {e} : (Res.of (none : Option α) e) = .bot := (rfl)
@[simp] theorem e_c {d e} : vC d e = .ok d e := (rfl)
def fVar (i : Nat) (e : Env) : Option Sl → Res D
  | some (.sh d) => .ok d e
  | some (.ow b ds) => .ok (outD b ds) (e.set i (.sh (outD b ds)))
  | some (.tr _ d) => .ok d (e.set i (.sh d))
  | _ => .bot
@[simp] theorem fv5 {i e s d} : fVar i e (some (.tr s d)) = .ok d (e.set i (.sh d)) := (rfl)
@[simp] theorem fv1 {i e d} : fVar i e (some (.sh d)) = .ok d e := (rfl)
@[simp] theorem fv2 {i e ds} : fVar i e (some (.ow .l ds)) = .ok (.lst ds) (e.set i (.sh (.lst ds))) := (rfl)
@[simp] theorem fv4 {i e n ds} : fVar i e (some (.ow (.p n) ds)) = .ok (.lst ds) (e.set i (.sh (.lst ds))) := (rfl)
@[simp] theorem fv3 {i e d} : fVar i e (some (.ow .d [d])) = .ok d (e.set i (.sh d)) := (rfl)
@[simp] theorem e_var {i e} : vVar i e = fVar i e e[i]? := by 
  unfold vVar
  cases e[i]? with
  | none => rfl
  | some s => cases s with
    | ow b ds => cases b <;> rfl
    | _ => rfl
/-! one place -/
def fUn (op : D → Option D) : Res D → Res D
  | .ok x e => .of (op x) e
  | .err x e => .err x e
  | .bot => .bot
@[simp] theorem fu1 {op x e} : fUn op (.ok x e) = .of (op x) e := (rfl)
@[simp] theorem fu2 {op x e} : fUn op (.err x e) = .err x e := (rfl)
@[simp] theorem e_un {op a e} : vUn op a e = fUn op (a e) := by unfold vUn; cases (a e) <;> rfl
@[simp] theorem e_isi {t a e} : vIsi t a e = fUn (opIsi t) (a e) := e_un
/-! two places -/
def fOp2 (op : D → D → Option D) (x : D) : Res D → Res D
  | .ok y e => .of (op x y) e
  | .err x e => .err x e
  | .bot => .bot
def fOp (op : D → D → Option D) (r : Res D) (b : ME) : Res D := match r with
  | .ok x e => fOp2 op x (b e)
  | .err x e => .err x e
  | .bot => .bot
@[simp] theorem fo1 {op x e b} : fOp op (.ok x e) b = fOp2 op x (b e) := (rfl)
@[simp] theorem fo2 {op x e b} : fOp op (.err x e) b = .err x e := (rfl)
@[simp] theorem fo3 {op x e y} : fOp2 op x (.ok y e) = .of (op x y) e := (rfl)
@[simp] theorem fo4 {op x e y} : fOp2 op x (.err y e) = .err y e := (rfl)
@[simp] theorem e_op {op a b e} : vOp op a b e = fOp op (a e) b := by
  unfold vOp
  cases (a e) with
  | ok x e1 => show (b e1).bind _ = fOp2 op x (b e1); cases (b e1) <;> rfl
  | err x e1 => rfl
  | bot => rfl
/-! arguments -/
def fCon2 (x : D) : Res (List D) → Res (List D)
  | .ok xs e => .ok (x :: xs) e
  | .err x e => .err x e
  | .bot => .bot
def fCon (r : Res D) (b : MA) : Res (List D) := match r with
  | .ok x e => fCon2 x (b e)
  | .err x e => .err x e
  | .bot => .bot
@[simp] theorem fc1 {x e b} : fCon (.ok x e) b = fCon2 x (b e) := (rfl)
@[simp] theorem fc2 {x e b} : fCon (.err x e) b = .err x e := (rfl)
@[simp] theorem fc3 {x e xs} : fCon2 x (.ok xs e) = .ok (x :: xs) e := (rfl)
@[simp] theorem fc4 {x e y} : fCon2 x (.err y e) = .err y e := (rfl)
@[simp] theorem e_nil {e} : vNil e = .ok [] e := (rfl)
@[simp] theorem e_cons {a b e} : vCons a b e = fCon (a e) b := by
  unfold vCons
  cases (a e) with
  | ok x e1 => show (b e1).bind _ = fCon2 x (b e1); cases (b e1) <;> rfl
  | err x e1 => rfl
  | bot => rfl
theorem vmax_eq : vmax = 1000000 := (rfl)
def fTup : Res (List D) → Res D
  | .ok xs e => if xs.length ≤ vmax then .ok (.tup xs) e else .bot
  | .err x e => .err x e
  | .bot => .bot
@[simp] theorem ft1 {xs e} : fTup (.ok xs e) = if xs.length ≤ 1000000 then .ok (.tup xs) e else .bot := by
  rw [← vmax_eq, fTup]
@[simp] theorem ft2 {xs e} : fTup (.err xs e) = .err xs e := (rfl)
@[simp] theorem e_tup {a e} : vTupD a e = fTup (a e) := by unfold vTupD fTup; cases (a e) <;> rfl
def fLst : Res (List D) → Res (List D)
  | .ok xs e => if xs.length ≤ vmax then .ok xs e else .bot
  | .err x e => .err x e
  | .bot => .bot
@[simp] theorem fl1 {xs e} : fLst (.ok xs e) = if xs.length ≤ 1000000 then .ok xs e else .bot := by
  rw [← vmax_eq, fLst]
@[simp] theorem fl2 {xs e} : fLst (.err xs e) = .err xs e := (rfl)
@[simp] theorem e_lst {a e} : vLstD a e = fLst (a e) := by unfold vLstD fLst; cases (a e) <;> rfl
def fOf : Res (List D) → Res D
  | .ok xs e => .ok (.lst xs) e
  | .err x e => .err x e
  | .bot => .bot
@[simp] theorem ff1 {xs e} : fOf (.ok xs e) = .ok (.lst xs) e := (rfl)
@[simp] theorem ff2 {xs e} : fOf (.err xs e) = .err xs e := (rfl)
@[simp] theorem e_of {a e} : vOf a e = fOf (a e) := by unfold vOf fOf; cases (a e) <;> rfl
/-! calls -/
def fCal2 (r : FR) (e : Env) : Res D := match r with
  | .ok d => .ok d e
  | .err x => .err x e
  | .bot => .bot
def fCal (fn : List D → FR) : Res (List D) → Res D
  | .ok xs e => fCal2 (fn xs) e
  | .err x e => .err x e
  | .bot => .bot
@[simp] theorem fk1 {fn xs e} : fCal fn (.ok xs e) = fCal2 (fn xs) e := (rfl)
@[simp] theorem fk2 {fn xs e} : fCal fn (.err xs e) = .err xs e := (rfl)
@[simp] theorem fk3 {d e} : fCal2 (.ok d) e = .ok d e := (rfl)
@[simp] theorem fk4 {d e} : fCal2 (.err d) e = .err d e := (rfl)
@[simp] theorem e_call {fn a e} : vCall fn a e = fCal fn (a e) := by
  unfold vCall
  cases (a e) with
  | ok x e1 => show _ = fCal2 (fn x) e1; dsimp only [Res.bind]; cases (fn x) <;> rfl
  | err x e1 => rfl
  | bot => rfl
def fCaF2 (r : FR) (e : Env) : Res (List D) := match r with
  | .ok (.lst d) => .ok d e
  | .ok _ => .bot
  | .err x => .err x e
  | .bot => .bot
def fCaF (fn : List D → FR) : Res (List D) → Res (List D)
  | .ok xs e => fCaF2 (fn xs) e
  | .err x e => .err x e
  | .bot => .bot
@[simp] theorem fk5 {fn xs e} : fCaF fn (.ok xs e) = fCaF2 (fn xs) e := (rfl)
@[simp] theorem fk6 {fn xs e} : fCaF fn (.err xs e) = .err xs e := (rfl)
@[simp] theorem fk7 {d e} : fCaF2 (.ok (.lst d)) e = .ok d e := (rfl)
@[simp] theorem fk8 {d e} : fCaF2 (.err d) e = .err d e := (rfl)
@[simp] theorem e_callF {fn a e} : vCallF fn a e = fCaF fn (a e) := by
  unfold vCallF
  cases (a e) with
  | ok x e1 =>
    show _ = fCaF2 (fn x) e1
    dsimp only [Res.bind]
    cases (fn x) with
    | ok d => cases d <;> rfl
    | err x => rfl
    | bot => rfl
  | err x e1 => rfl
  | bot => rfl
def fBuf (f : List D → Option D) : Res (List D) → Res D
  | .ok xs e => .of (f xs) e
  | .err x e => .err x e
  | .bot => .bot
@[simp] theorem fb1 {f xs e} : fBuf f (.ok xs e) = .of (f xs) e := (rfl)
@[simp] theorem fb2 {f xs e} : fBuf f (.err xs e) = .err xs e := (rfl)
@[simp] theorem e_bf {f a e} : vBf f a e = fBuf f (a e) := by unfold vBf fBuf; cases (a e) <;> rfl
def fBul (f : List D → Option (List D)) : Res (List D) → Res (List D)
  | .ok xs e => .of (f xs) e
  | .err x e => .err x e
  | .bot => .bot
@[simp] theorem fb3 {f xs e} : fBul f (.ok xs e) = .of (f xs) e := (rfl)
@[simp] theorem e_bl {f a e} : vBl f a e = fBul f (a e) := by unfold vBl fBul; cases (a e) <;> rfl
/-! owned lists looked at -/
@[simp] theorem frz0 : frz [] = [] := (rfl)
def frS : Sl → Sl
  | .ow b ds => .sh (outD b ds)
  | .tr _ d => .sh d
  | s => s
@[simp] theorem frs7 {s d} : frS (.tr s d) = .sh d := (rfl)
@[simp] theorem frz1 {s r} : frz (s :: r) = frS s :: frz r := by
  unfold frz
  rw [List.map_cons]
  cases s <;> rfl
@[simp] theorem frs1 {d} : frS (.sh d) = .sh d := (rfl)
@[simp] theorem frs2 {ds} : frS (.ow .l ds) = .sh (.lst ds) := (rfl)
@[simp] theorem frs6 {n ds} : frS (.ow (.p n) ds) = .sh (.lst ds) := (rfl)
@[simp] theorem frs5 {d} : frS (.ow .d [d]) = .sh d := (rfl)
@[simp] theorem frs3 : frS .no = .no := (rfl)
@[simp] theorem frs4 {n} : frS (.tk n) = .tk n := (rfl)
def fBor (e : Env) : Res D → Res D
  | .ok d _ => if d.flat then .ok d e else .bot
  | .err x _ => .err x e
  | .bot => .bot
@[simp] theorem fr1 {e d e1} : fBor e (.ok d e1) = if d.flat then .ok d e else .bot := (rfl)
@[simp] theorem fr2 {e d e1} : fBor e (.err d e1) = .err d e := (rfl)
@[simp] theorem e_bor {a e} : vBor a e = fBor e (a (frz e)) := by unfold vBor; cases (a (frz e)) <;> rfl
def fBorF (e : Env) : Res (List D) → Res (List D)
  | .ok d _ => if D.flats d then .ok d e else .bot
  | .err x _ => .err x e
  | .bot => .bot
@[simp] theorem fr3 {e d e1} : fBorF e (.ok d e1) = if D.flats d then .ok d e else .bot := (rfl)
@[simp] theorem fr4 {e d e1} : fBorF e (.err d e1) = .err d e := (rfl)
@[simp] theorem e_borF {a e} : vBorF a e = fBorF e (a (frz e)) := by unfold vBorF; cases (a (frz e)) <;> rfl
def fBorT (e : Env) : Res Bool → Res Bool
  | .ok d _ => .ok d e
  | .err x _ => .err x e
  | .bot => .bot
@[simp] theorem fr5 {e d e1} : fBorT e (.ok d e1) = .ok d e := (rfl)
@[simp] theorem fr6 {e d e1} : fBorT e (.err d e1) = .err d e := (rfl)
@[simp] theorem e_borT {a e} : vBorT a e = fBorT e (a (frz e)) := by unfold vBorT; cases (a (frz e)) <;> rfl
def fOwn (i : Nat) (e : Env) : Option Sl → Res (List D)
  | some (.ow .l ds) => .ok ds (e.set i .no)
  | _ => .bot
@[simp] theorem fw1 {i e ds} : fOwn i e (some (.ow .l ds)) = .ok ds (e.set i .no) := (rfl)
@[simp] theorem e_own {i e} : vOwn i e = fOwn i e e[i]? := by 
  unfold vOwn
  cases e[i]? with
  | none => rfl
  | some s => cases s with
    | ow b ds => cases b <;> rfl
    | _ => rfl
/-! tests -/
def fTst : Res D → Res Bool
  | .ok (.bl b) e => .ok b e
  | .ok _ _ => .bot
  | .err x e => .err x e
  | .bot => .bot
@[simp] theorem fs1 {b e} : fTst (.ok (.bl b) e) = .ok b e := (rfl)
@[simp] theorem fs2 {b e} : fTst (.err b e) = .err b e := (rfl)
@[simp] theorem e_test {a e} : vTest a e = fTst (a e) := by
  unfold vTest Res.bind
  cases a e with
  | ok x e1 => cases x <;> rfl
  | err x e1 => rfl
  | bot => rfl
def fAnd (r : Res Bool) (b : MB) : Res Bool := match r with
  | .ok x e => if x = true then b e else .ok false e
  | .err x e => .err x e
  | .bot => .bot
@[simp] theorem fa1 {x e b} : fAnd (.ok x e) b = if x = true then b e else .ok false e := (rfl)
@[simp] theorem fa2 {x e b} : fAnd (.err x e) b = .err x e := (rfl)
@[simp] theorem e_and {a b e} : vAnd a b e = fAnd (a e) b := by unfold vAnd fAnd; cases (a e) <;> rfl
def fOr (r : Res Bool) (b : MB) : Res Bool := match r with
  | .ok x e => if x = true then .ok true e else b e
  | .err x e => .err x e
  | .bot => .bot
@[simp] theorem fa3 {x e b} : fOr (.ok x e) b = if x = true then .ok true e else b e := (rfl)
@[simp] theorem fa4 {x e b} : fOr (.err x e) b = .err x e := (rfl)
@[simp] theorem e_or {a b e} : vOr a b e = fOr (a e) b := by unfold vOr fOr; cases (a e) <;> rfl
def fNot : Res Bool → Res Bool
  | .ok b e => .ok (!b) e
  | .err x e => .err x e
  | .bot => .bot
@[simp] theorem fn1 {b e} : fNot (.ok b e) = .ok (!b) e := (rfl)
@[simp] theorem fn2 {b e} : fNot (.err b e) = .err b e := (rfl)
@[simp] theorem e_not {a e} : vNot a e = fNot (a e) := by unfold vNot fNot; cases (a e) <;> rfl
@[simp] theorem e_yes {e} : vYes e = .ok true e := (rfl)
def fAndV (r : Res D) (b : ME) : Res D := match r with
  | .ok (.bl x) e => if x = true then b e else .ok (.bl false) e
  | .ok _ _ => .bot
  | .err x e => .err x e
  | .bot => .bot
@[simp] theorem fa5 {x e b} : fAndV (.ok (.bl x) e) b = if x = true then b e else .ok (.bl false) e := (rfl)
@[simp] theorem fa6 {x e b} : fAndV (.err x e) b = .err x e := (rfl)
@[simp] theorem e_andV {a b e} : vAndV a b e = fAndV (a e) b := by
  unfold vAndV Res.bind
  cases a e with
  | ok x e1 => cases x with
    | bl c => cases c <;> rfl
    | _ => rfl
  | err x e1 => rfl
  | bot => rfl
def fOrV (r : Res D) (b : ME) : Res D := match r with
  | .ok (.bl x) e => if x = true then .ok (.bl true) e else b e
  | .ok _ _ => .bot
  | .err x e => .err x e
  | .bot => .bot
@[simp] theorem fa7 {x e b} : fOrV (.ok (.bl x) e) b = if x = true then .ok (.bl true) e else b e := (rfl)
@[simp] theorem fa8 {x e b} : fOrV (.err x e) b = .err x e := (rfl)
@[simp] theorem e_orV {a b e} : vOrV a b e = fOrV (a e) b := by
  unfold vOrV Res.bind
  cases a e with
  | ok x e1 => cases x with
    | bl c => cases c <;> rfl
    | _ => rfl
  | err x e1 => rfl
  | bot => rfl
def opNot : D → Option D
  | .bl c => some (.bl (!c))
  | _ => none
@[simp] theorem opNot1 {c} : opNot (.bl c) = some (.bl (!c)) := (rfl)
@[simp] theorem e_notV {a e} : vNotV a e = fUn opNot (a e) := by
  unfold vNotV vUn
  cases (a e) <;> rfl
def fCh3 (op : D → D → Option D) (y : D) : Res D → Res D
  | .ok z e => .of (op y z) e
  | .err x e => .err x e
  | .bot => .bot
def fCh2 (op op' : D → D → Option D) (x : D) (r : Res D) (c : ME) : Res D := match r with
  | .ok y e => (match op x y with
    | some (.bl true) => fCh3 op' y (c e)
    | some (.bl false) => .ok (.bl false) e
    | _ => .bot)
  | .err x e => .err x e
  | .bot => .bot
def fCh (op op' : D → D → Option D) (r : Res D) (b c : ME) : Res D := match r with
  | .ok x e => fCh2 op op' x (b e) c
  | .err x e => .err x e
  | .bot => .bot
@[simp] theorem fh1 {op op' x e b c} : fCh op op' (.ok x e) b c = fCh2 op op' x (b e) c := (rfl)
@[simp] theorem fh2 {op op' y e x c} {k : Bool} (h : op x y = some (.bl k)) : fCh2 op op' x (.ok y e) c = if k = true then fCh3 op' y (c e) else .ok (.bl false) e := by
  unfold fCh2
  simp only [h]
  cases k <;> rfl
@[simp] theorem fh3 {op y e z} : fCh3 op y (.ok z e) = .of (op y z) e := (rfl)
@[simp] theorem e_chain {op op' a b c e} : vChain op op' a b c e = fCh op op' (a e) b c := by
  unfold vChain
  cases (a e) with
  | ok x e1 =>
    show (b e1).bind _ = fCh2 op op' x (b e1) c
    cases (b e1) with
    | ok y e2 =>
      show _ = fCh2 op op' x (.ok y e2) c
      dsimp only [fCh2, Res.bind]
      cases op x y with
      | none => rfl
      | some d => cases d with
        | bl k => cases k with
          | true =>
            show _ = fCh3 op' y (c e2)
            simp only []
            cases (c e2) <;> rfl
          | false => rfl
        | _ => rfl
    | err x e1 => rfl
    | bot => rfl
  | err x e1 => rfl
  | bot => rfl
/-! slices -/
def fPart : Res D → Res (Option Int)
  | .ok x e => .of (asI x) e
  | .err x e => .err x e
  | .bot => .bot
@[simp] theorem fp1 {i e} : fPart (.ok (.int i) e) = .ok (some i) e := (rfl)
@[simp] theorem e_part {a e} : vPart a e = fPart (a e) := by unfold vPart fPart; cases (a e) <;> rfl
@[simp] theorem e_nopart {e} : vNoPart e = .ok none e := (rfl)
@[simp] theorem rb1 {α β : Type} {a : α} {e} {f : α → Env → Res β} : (Res.ok a e).bind f = f a e := (rfl)
@[simp] theorem e_sl {a lo hi e} : vSl a lo hi e = (a e).bind fun x e1 => (lo e1).bind fun l e2 => (hi e2).bind fun h e3 => .of (slT l h x) e3 := (rfl)
@[simp] theorem e_slF {a lo hi e} : vSlF a lo hi e = (a e).bind fun x e1 => (lo e1).bind fun l e2 => (hi e2).bind fun h e3 => .of (slL l h x) e3 := (rfl)
@[simp] theorem e_rev {a e} : vRevF a e = (a e).bind fun x e1 => .of (revL x) e1 := (rfl)
/-! statements -/
def fIf (r : Res Bool) (a b : MS) : RS := match r with
  | .ok x e => if x = true then a e else b e
  | .err x e => .err x e
  | .bot => .bot
@[simp] theorem fi1 {x e a b} : fIf (.ok x e) a b = if x = true then a e else b e := (rfl)
@[simp] theorem fi2 {x e a b} : fIf (.err x e) a b = .err x e := (rfl)
@[simp] theorem e_if {c a b e} : vIf c a b e = fIf (c e) a b := by unfold vIf fIf; cases (c e) <;> rfl
def fRet : Res D → RS
  | .ok x e => .rt x e
  | .err x e => .err x e
  | .bot => .bot
@[simp] theorem fe1 {x e} : fRet (.ok x e) = .rt x e := (rfl)
@[simp] theorem fe2 {x e} : fRet (.err x e) = .err x e := (rfl)
@[simp] theorem e_ret {a e} : vRet a e = fRet (a e) := by unfold vRet fRet; cases (a e) <;> rfl
def fRetF : Res (List D) → RS
  | .ok x e => .rt (.lst x) e
  | .err x e => .err x e
  | .bot => .bot
@[simp] theorem fe3 {x e} : fRetF (.ok x e) = .rt (.lst x) e := (rfl)
@[simp] theorem fe4 {x e} : fRetF (.err x e) = .err x e := (rfl)
@[simp] theorem e_retF {a e} : vRetF a e = fRetF (a e) := by unfold vRetF fRetF; cases (a e) <;> rfl
@[simp] theorem e_retN {e} : vRetN e = .rt .non e := (rfl)
def fDrop : Res D → RS
  | .ok _ e => .nx e
  | .err x e => .err x e
  | .bot => .bot
@[simp] theorem fe5 {x e} : fDrop (.ok x e) = .nx e := (rfl)
@[simp] theorem fe6 {x e} : fDrop (.err x e) = .err x e := (rfl)
@[simp] theorem e_drop {a e} : vDrop a e = fDrop (a e) := by unfold vDrop fDrop; cases (a e) <;> rfl
@[simp] theorem e_raise {x e} : vRaise x e = .err ⟨x, none⟩ e := (rfl)
def fAsg2 : Option Env → RS
  | some e => .nx e
  | none => .bot
def fAsg (r : Res D) (g : D → Env → Option Env) : RS := match r with
  | .ok x e => fAsg2 (g x e)
  | .err x e => .err x e
  | .bot => .bot
@[simp] theorem fe7 {x e g} : fAsg (.ok x e) g = fAsg2 (g x e) := (rfl)
@[simp] theorem fe8 {x e g} : fAsg (.err x e) g = .err x e := (rfl)
@[simp] theorem fe9 {e} : fAsg2 (some e) = .nx e := (rfl)
@[simp] theorem e_asg {a g e} : vAsg a g e = fAsg (a e) g := by
  unfold vAsg
  cases (a e) with
  | ok x e1 => show _ = fAsg2 (g x e1); dsimp only [Res.thenS]; cases (g x e1) <;> rfl
  | err x e1 => rfl
  | bot => rfl
@[simp] theorem e_nam {i d e} : gNam i d e = if i < e.length then some (e.set i (.sh d)) else none := (rfl)
@[simp] theorem e_gnil {e} : gNil' [] e = some e := (rfl)
@[simp] theorem e_gcon {g r d ds e} : gCon g r (d :: ds) e = (g d e).bind fun e1 => r ds e1 := by dsimp only [gCon]; cases g d e <;> rfl
@[simp] theorem e_gtup {r ds e} : gTup' r (.tup ds) e = r ds e := (rfl)
@[simp] theorem e_gtupL {r ds e} : gTup' r (.lst ds) e = r ds e := (rfl)
def fAsF (i : Nat) : Res (List D) → RS
  | .ok ds e => if i < e.length then .nx (e.set i (.ow .l ds)) else .bot
  | .err x e => .err x e
  | .bot => .bot
@[simp] theorem fg1 {i ds e} : fAsF i (.ok ds e) = if i < e.length then .nx (e.set i (.ow .l ds)) else .bot := (rfl)
@[simp] theorem fg2 {i ds e} : fAsF i (.err ds e) = .err ds e := (rfl)
@[simp] theorem e_asgF {i a e} : vAsgF i a e = fAsF i (a e) := by unfold vAsgF fAsF; cases (a e) <;> rfl
def fPar2 (i j : Nat) (x : D) : Res D → RS
  | .ok y e => if i < e.length ∧ j < e.length then .nx ((e.set i (.sh x)).set j (.sh y)) else .bot
  | .err x e => .err x e
  | .bot => .bot
def fPar (i j : Nat) (r : Res D) (b : ME) : RS := match r with
  | .ok x e => fPar2 i j x (b e)
  | .err x e => .err x e
  | .bot => .bot
@[simp] theorem fg3 {i j x e b} : fPar i j (.ok x e) b = fPar2 i j x (b e) := (rfl)
@[simp] theorem fg4 {i j x e y} : fPar2 i j x (.ok y e) = if i < e.length ∧ j < e.length then .nx ((e.set i (.sh x)).set j (.sh y)) else .bot := (rfl)
@[simp] theorem e_par {i j a b e} : vPar i j a b e = fPar i j (a e) b := by
  unfold vPar
  cases (a e) with
  | ok x e1 => show (b e1).thenS _ = fPar2 i j x (b e1); cases (b e1) <;> rfl
  | err x e1 => rfl
  | bot => rfl
def fApp3 (i : Nat) (d : D) (e : Env) : Option Sl → RS
  | some (.ow .l ds) => if ds.length < vmax then .nx (e.set i (.ow .l (ds ++ [d]))) else .bot
  | _ => .bot
def fApp2 (i : Nat) : Res D → RS
  | .ok d e => fApp3 i d e e[i]?
  | .err x e => .err x e
  | .bot => .bot
def fApp (i : Nat) (e : Env) (a : ME) : Option Sl → RS
  | some (.ow .l _) => fApp2 i (a e)
  | _ => .bot
@[simp] theorem fj1 {i e a ds} : fApp i e a (some (.ow .l ds)) = fApp2 i (a e) := (rfl)
@[simp] theorem fj2 {i d e} : fApp2 i (.ok d e) = fApp3 i d e e[i]? := (rfl)
@[simp] theorem fj3 {i d e} : fApp2 i (.err d e) = .err d e := (rfl)
@[simp] theorem fj4 {i d e ds} : fApp3 i d e (some (.ow .l ds)) = if ds.length < 1000000 then .nx (e.set i (.ow .l (ds ++ [d]))) else .bot := by
  rw [← vmax_eq, fApp3]
@[simp] theorem e_app {i a e} : vApp i a e = fApp i e a e[i]? := by
  unfold vApp
  cases h : e[i]? with
  | none => rfl
  | some s => cases s with
    | ow b ds =>
      cases b with
      | d => rfl
      | p _ => rfl
      | l =>
      show _ = fApp2 i (a e)
      simp only []
      cases (a e) with
      | ok d e1 =>
        show _ = fApp3 i d e1 e1[i]?
        dsimp only [Res.thenS]
        cases e1[i]? with
        | none => rfl
        | some s => cases s with
          | ow b ds => cases b <;> rfl
          | _ => rfl
      | err x e1 => rfl
      | bot => rfl
    | _ => rfl
def fFor (r : Res (List D)) (g : D → Env → Option Env) (b : MS) : RS := match r with
  | .ok ds e => forL g b ds e
  | .err x e => .err x e
  | .bot => .bot
@[simp] theorem fl3 {ds e g b} : fFor (.ok ds e) g b = forL g b ds e := (rfl)
@[simp] theorem e_for {it g b e} : vFor it g b e = fFor (it e) g b := by unfold vFor fFor; cases (it e) <;> rfl
@[simp] theorem e_seqI {m e} : vSeqI m e = (m e).bind fun d e1 => .of (seqD d) e1 := (rfl)
@[simp] theorem seqD1 {ds} : seqD (.lst ds) = some ds := (rfl)
@[simp] theorem seqD2 {ds} : seqD (.tup ds) = some ds := (rfl)
def fRng : Res (List D) → Res (List D)
  | .ok [.int j] e => .of (rngD [.int j]) e
  | .ok _ _ => .bot
  | .err x e => .err x e
  | .bot => .bot
theorem e_rng1 {m e} : vRng1 m e = (m e).bind fun ds e1 => match ds with
  | [_] => .of (rngD ds) e1
  | _ => .bot := (rfl)
theorem rng1_of {m e e1} {j : Int} (h : m e = .ok [.int j] e1) (h1 : -(2 ^ 62) ≤ j) (h2 : j < 2 ^ 62) : vRng1 m e = .ok ((List.range j.toNat).map fun (i : Nat) => .int (i : Int)) e1 := by
  rw [e_rng1, h]
  show Res.of (if -(2 ^ 62) ≤ j ∧ j < 2 ^ 62 then some ((List.range j.toNat).map fun (i : Nat) => D.int (0 + (i : Int))) else none) e1 = _
  rw [if_pos ⟨h1, h2⟩]
  simp only [Int.zero_add]
  rfl
theorem rng2_of {m e e1} {i j : Int} (h : m e = .ok [.int i, .int j] e1) (h1 : -(2 ^ 62) ≤ i ∧ i < 2 ^ 62 ∧ -(2 ^ 62) ≤ j ∧ j < 2 ^ 62) : vRng2 m e = .ok ((List.range (j - i).toNat).map fun (n : Nat) => .int (i + (n : Int))) e1 := by
  show (m e).bind _ = _
  rw [h]
  show Res.of (if -(2 ^ 62) ≤ i ∧ i < 2 ^ 62 ∧ -(2 ^ 62) ≤ j ∧ j < 2 ^ 62 then some ((List.range (j - i).toNat).map fun (n : Nat) => D.int (i + (n : Int))) else none) e1 = _
  rw [if_pos h1]
  rfl
/-! a def -/
def fRun : RS → FR
  | .nx _ => .ok .non
  | .rt d _ => .ok d
  | .err x _ => .err x
  | _ => .bot
@[simp] theorem fz1 {e} : fRun (.nx e) = .ok .non := (rfl)
@[simp] theorem fz2 {d e} : fRun (.rt d e) = .ok d := (rfl)
@[simp] theorem fz3 {d e} : fRun (.err d e) = .err d := (rfl)
@[simp] theorem e_run {np n b ds} : runB np n b ds = if ds.length = np then fRun (b (ds.map Sl.sh ++ List.replicate (n - np) .no)) else .bot := by
  unfold runB fRun
  split
  · split <;> simp_all
  · rfl
/-! operators on what they take -/
@[simp] theorem o_add {i j} : opAdd (.int i) (.int j) = some (.int (i + j)) := (rfl)
@[simp] theorem o_sub {i j} : opSub (.int i) (.int j) = some (.int (i - j)) := (rfl)
theorem o_mul {i j} (h : mulOk i j = true) : opMul (.int i) (.int j) = some (.int (i * j)) := by unfold opMul; simp [h]
theorem mulOk_l {i j : Int} (h1 : -(2 ^ 64) < i) (h2 : i < 2 ^ 64) : mulOk i j = true := by
  unfold mulOk
  have : i.natAbs < 2 ^ 64 := by omega
  simp [this]
theorem mulOk_r {i j : Int} (h1 : -(2 ^ 64) < j) (h2 : j < 2 ^ 64) : mulOk i j = true := by
  unfold mulOk
  have : j.natAbs < 2 ^ 64 := by omega
  simp [this]
theorem log2_lt {n k : Nat} (h : n < 2 ^ k) (hk : 0 < k) : n.log2 < k := by
  by_cases z : n = 0
  · subst z
    have : Nat.log2 0 = 0 := (rfl)
    omega
  · exact (Nat.log2_lt z).mpr h
theorem mulOk_b {i j : Int} (h1 : i.natAbs < 2 ^ 400000) (h2 : j.natAbs < 2 ^ 400000) : mulOk i j = true := by
  unfold mulOk
  have a := log2_lt h1 (by decide)
  have b := log2_lt h2 (by decide)
  have : i.natAbs.log2 + j.natAbs.log2 < 1000000 := by omega
  simp only [this, decide_true, Bool.or_true]
theorem o_fdiv {i j} (h : divOk j = true) : opFdiv (.int i) (.int j) = some (.int (i.fdiv j)) := by unfold opFdiv; simp [h]
theorem divOk_s {j : Int} (h : j ≠ 0) (h1 : -(2 ^ 64) < j) (h2 : j < 2 ^ 64) : divOk j = true := by
  unfold divOk
  have q : j.natAbs < 2 ^ 64 := by omega
  have := log2_lt q (by decide)
  have : j.natAbs.log2 < 9000 := by omega
  simp [this, h]
theorem divOk_b {j : Int} (h : j ≠ 0) (h1 : j.natAbs < 2 ^ 8000) : divOk j = true := by
  unfold divOk
  have := log2_lt h1 (by decide)
  have : j.natAbs.log2 < 9000 := by omega
  simp [this, h]
theorem o_mod {i j : Int} (h : j ≠ 0) : opMod (.int i) (.int j) = some (.int (i.fmod j)) := by unfold opMod; simp [h]
@[simp] theorem o_neg {i} : opNeg (.int i) = some (.int (-i)) := (rfl)
@[simp] theorem o_lt {i j} : opLt (.int i) (.int j) = some (.bl (decide (i < j))) := (rfl)
@[simp] theorem o_le {i j} : opLe (.int i) (.int j) = some (.bl (decide (i ≤ j))) := (rfl)
@[simp] theorem o_gt {i j} : opGt (.int i) (.int j) = some (.bl (decide (j < i))) := (rfl)
@[simp] theorem o_ge {i j} : opGe (.int i) (.int j) = some (.bl (decide (j ≤ i))) := (rfl)
@[simp] theorem eqok_int {n i} : D.eqok n (.int i) = true := by unfold D.eqok; rfl
@[simp] theorem eqok_bl {n i} : D.eqok n (.bl i) = true := by unfold D.eqok; rfl
@[simp] theorem eqok_non {n} : D.eqok n .non = true := by unfold D.eqok; rfl
@[simp] theorem eqok_str {n s} : D.eqok n (.str s) = strS s := by unfold D.eqok; rfl
@[simp] theorem eqok_tup {n ds} : D.eqok (n + 1) (.tup ds) = D.eqoks n ds := by rw [D.eqok]
@[simp] theorem eqok_lst {n ds} : D.eqok (n + 1) (.lst ds) = D.eqoks n ds := by rw [D.eqok]
@[simp] theorem eqoks_nil {n} : D.eqoks n [] = true := by rw [D.eqoks]
@[simp] theorem eqoks_cons {n d ds} : D.eqoks n (d :: ds) = (D.eqok n d && D.eqoks n ds) := by rw [D.eqoks]
@[simp] theorem deq_int {i j} : D.deq (.int i) (.int j) = decide (i = j) := by rw [D.deq]
@[simp] theorem deq_bl {i j} : D.deq (.bl i) (.bl j) = (i == j) := by rw [D.deq]
@[simp] theorem deq_str {i j} : D.deq (.str i) (.str j) = decide (i = j) := by rw [D.deq]
@[simp] theorem deq_tup {i j} : D.deq (.tup i) (.tup j) = D.deqs i j := by rw [D.deq]
@[simp] theorem deq_lst {i j} : D.deq (.lst i) (.lst j) = D.deqs i j := by rw [D.deq]
@[simp] theorem deqs_nil : D.deqs [] [] = true := by rw [D.deqs]
@[simp] theorem deqs_cons {x xs y ys} : D.deqs (x :: xs) (y :: ys) = (D.deq x y && D.deqs xs ys) := by rw [D.deqs]
@[simp] theorem deqs_nc {y ys} : D.deqs [] (y :: ys) = false := by rw [D.deqs] <;> simp
@[simp] theorem deqs_cn {y ys} : D.deqs (y :: ys) [] = false := by rw [D.deqs] <;> simp
theorem o_eq {a b : D} (h : a.eqok 20 = true) (h2 : b.eqok 20 = true) : opEq a b = some (.bl (D.deq a b)) := by unfold opEq; simp [h, h2]
theorem o_ne {a b : D} (h : a.eqok 20 = true) (h2 : b.eqok 20 = true) : opNe a b = some (.bl (!D.deq a b)) := by unfold opNe; simp [h, h2]
@[simp] theorem o_eqI {i j} : opEq (.int i) (.int j) = some (.bl (decide (i = j))) := by rw [o_eq] <;> simp
@[simp] theorem o_neI {i j} : opNe (.int i) (.int j) = some (.bl (!decide (i = j))) := by rw [o_ne] <;> simp
@[simp] theorem flat_int {i} : D.flat (.int i) = true := by rw [D.flat]
@[simp] theorem flat_bl {i} : D.flat (.bl i) = true := by rw [D.flat]
@[simp] theorem flat_str {i} : D.flat (.str i) = true := by rw [D.flat]
@[simp] theorem flat_non : D.flat .non = true := by rw [D.flat]
@[simp] theorem flat_tup {ds} : D.flat (.tup ds) = D.flats ds := by rw [D.flat]
@[simp] theorem flats_nil : D.flats [] = true := by rw [D.flats]
@[simp] theorem flats_cons {d ds} : D.flats (d :: ds) = (D.flat d && D.flats ds) := by rw [D.flats]
@[simp] theorem isi_int {i} : opIsi "int" (.int i) = some (.bl true) := (rfl)
@[simp] theorem isi_bool {i} : opIsi "bool" (.int i) = some (.bl false) := (rfl)
@[simp] theorem isi_tup {ds} : opIsi "tuple" (.tup ds) = some (.bl true) := (rfl)
@[simp] theorem isi_lst {ds} : opIsi "list" (.lst ds) = some (.bl true) := (rfl)
@[simp] theorem isi_boolB {b} : opIsi "bool" (.bl b) = some (.bl true) := (rfl)
@[simp] theorem len_tup {xs} : bfLen [.tup xs] = some (.int xs.length) := (rfl)
@[simp] theorem len_lst {xs} : bfLen [.lst xs] = some (.int xs.length) := (rfl)
@[simp] theorem abs_int {i} : bfAbs [.int i] = some (.int (if i < 0 then -i else i)) := (rfl)
@[simp] theorem min_int {i j} : bfMin [.int i, .int j] = some (.int (if j < i then j else i)) := (rfl)
@[simp] theorem max_int {i j} : bfMax [.int i, .int j] = some (.int (if j > i then j else i)) := (rfl)
@[simp] theorem ix_tup {xs i} : opIx (.tup xs) (.int i) = atD xs i := (rfl)
@[simp] theorem ix_lst {xs i} : opIx (.lst xs) (.int i) = atD xs i := (rfl)
@[simp] theorem at_0 {x xs} : atD (x :: xs) 0 = some x := by
  unfold atD ixD
  have h : (0 : Int) < ((x :: xs).length : Nat) := by rw [List.length_cons]; omega
  rw [if_pos (by decide), if_pos h]
  rfl
theorem at_nat {xs : List D} {i : Nat} (h : i < xs.length) : atD xs (i : Int) = some xs[i] := by
  unfold atD ixD
  rw [if_pos (by omega), if_pos (by omega)]
  simp [h]
theorem at_of {xs : List D} {i : Int} {n : Nat} {d : D} (hn : i = n) (h : xs[n]? = some d) : atD xs i = some d := by
  subst hn
  obtain ⟨q, e⟩ := List.getElem?_eq_some_iff.mp h
  rw [at_nat q, e]
@[simp] theorem at_1 {x y xs} : atD (x :: y :: xs) 1 = some y := at_of (n := 1) rfl rfl
@[simp] theorem at_2 {x y z xs} : atD (x :: y :: z :: xs) 2 = some z := at_of (n := 2) rfl rfl
@[simp] theorem at_3 {x y z u xs} : atD (x :: y :: z :: u :: xs) 3 = some u := at_of (n := 3) rfl rfl
@[simp] theorem at_4 {x y z u v xs} : atD (x :: y :: z :: u :: v :: xs) 4 = some v := at_of (n := 4) rfl rfl
@[simp] theorem at_5 {x y z u v a xs} : atD (x :: y :: z :: u :: v :: a :: xs) 5 = some a := at_of (n := 5) rfl rfl
theorem at_last {xs : List D} {d : D} : atD (xs ++ [d]) (-1) = some d := by
  unfold atD ixD
  rw [if_neg (by decide), if_pos (by simp only [List.length_append, List.length_cons, List.length_nil]; omega)]
  have e : ((-1 : Int) + ((xs ++ [d]).length : Nat)).toNat = xs.length := by
    simp only [List.length_append, List.length_cons, List.length_nil]; omega
  simp only [Option.bind_some, e]
  simp
/-! loops -/
theorem forL_inv {g : D → Env → Option Env} {b : MS} (I : Env → Prop) : ∀ (ds : List D) (e : Env), I e → (∀ d ∈ ds, ∀ e, I e → ∃ e1, g d e = some e1 ∧ ∃ e2, b e1 = .nx e2 ∧ I e2) → ∃ e', forL g b ds e = .nx e' ∧ I e'
  | [], e, h, _ => ⟨e, rfl, h⟩
  | d :: ds, e, h, st => by
    obtain ⟨e1, h1, e2, h2, h3⟩ := st d List.mem_cons_self e h
    obtain ⟨e', q, i⟩ := forL_inv I ds e2 h3 fun d hd => st d (List.mem_cons_of_mem _ hd)
    refine ⟨e', ?_, i⟩
    rw [forL]
    simp only [h1, h2]
    exact q
/-- .. by the place -/
theorem forL_at {g : D → Env → Option Env} {b : MS} (I : Nat → Env → Prop) : ∀ (ds : List D) (k : Nat) (e : Env), I k e → (∀ i d, ds[i]? = some d → ∀ e, I (k + i) e → ∃ e1, g d e = some e1 ∧ ∃ e2, b e1 = .nx e2 ∧ I (k + i + 1) e2) → ∃ e', forL g b ds e = .nx e' ∧ I (k + ds.length) e'
  | [], k, e, h, _ => ⟨e, rfl, h⟩
  | d :: ds, k, e, h, st => by
    obtain ⟨e1, h1, e2, h2, h3⟩ := st 0 d rfl e h
    obtain ⟨e', q, i⟩ := forL_at I ds (k + 1) e2 h3 fun i d hd e he => by
      have := st (i + 1) d (by simpa using hd) e (by rw [show k + (i + 1) = k + 1 + i by omega]; exact he)
      rw [show k + (i + 1) + 1 = k + 1 + i + 1 by omega] at this
      exact this
    refine ⟨e', ?_, by rw [show k + (d :: ds).length = k + 1 + ds.length by rw [List.length_cons]; omega]; exact i⟩
    rw [forL]
    simp only [h1, h2]
    exact q
theorem lcL_map {g : D → Env → Option Env} {t : MB} {el : ME} {own : List Nat} {e : Env} (h : D → D) : ∀ (ds acc : List D), (∀ d ∈ ds, ∃ e1, g d e = some e1 ∧ t e1 = .ok true e1 ∧ el e1 = .ok (h d) e1 ∧ wipeE e1 own = e) → wipeE e own = e → acc.length + ds.length ≤ 1000000 → lcL g t el own ds acc e = .ok (acc ++ ds.map h) e
  | [], acc, _, w, _ => by rw [lcL, w]; simp
  | d :: ds, acc, st, w, hl => by
    obtain ⟨e1, h1, h2, h3, h4⟩ := st d List.mem_cons_self
    have hv : acc.length < vmax := by rw [vmax_eq]; simp at hl; omega
    rw [lcL]
    simp only [h1, h2, Res.bindN, if_true, h3, hv, h4]
    rw [lcL_map h ds (acc ++ [h d]) (fun d hd => st d (List.mem_cons_of_mem _ hd)) w (by simp at hl ⊢; omega)]
    simp
theorem vLc_map {it : MA} {g : D → Env → Option Env} {t : MB} {el : ME} {own : List Nat} {e e0 e1 : Env} {ds : List D} (h : D → D) (hi : it e = .ok ds e0) (hw : wipeE e0 own = e1) (st : ∀ d ∈ ds, ∃ e2, g d e1 = some e2 ∧ t e2 = .ok true e2 ∧ el e2 = .ok (h d) e2 ∧ wipeE e2 own = e1) (w : wipeE e1 own = e1) (hl : ds.length ≤ 1000000) : vLc it g t el own e = .ok (ds.map h) e1 := by
  show (it e).bind _ = _
  rw [hi]
  show lcL g t el own ds [] (wipeE e0 own) = _
  rw [hw, lcL_map h ds [] st w (by simpa using hl)]
  rfl
theorem o_div {i j : Int} (h0 : 0 < j) (h : divOk j = true) : opFdiv (.int i) (.int j) = some (.int (i / j)) := by rw [o_fdiv h, Int.fdiv_eq_ediv_of_nonneg _ (by omega)]
theorem o_rem {i j : Int} (h0 : 0 < j) : opMod (.int i) (.int j) = some (.int (i % j)) := by rw [o_mod (by omega), Int.fmod_eq_emod_of_nonneg _ (by omega)]
theorem o_pow {i j : Int} (h : 0 ≤ j) (h1 : j ≤ 1000) (h2 : i.natAbs ≤ 1000) : opPow (.int i) (.int j) = some (.int (i ^ j.toNat)) := by
  show (if 0 ≤ j ∧ j ≤ 1000 ∧ i.natAbs ≤ 1000 then some (D.int (i ^ j.toNat)) else none) = _
  rw [if_pos ⟨h, h1, h2⟩]
theorem slT_to {xs : List D} {v : Int} (h : 0 ≤ v) : slT none (some v) (.lst xs) = some (.lst (xs.take v.toNat)) := by
  unfold slT cutD sIxD
  simp only [if_neg (show ¬ v < 0 by omega), List.drop_zero, Nat.sub_zero, Option.some.injEq, D.lst.injEq]
  rw [← List.take_take, List.take_length]
theorem slT_from {xs : List D} {v : Int} (h : 0 ≤ v) : slT (some v) none (.lst xs) = some (.lst (xs.drop v.toNat)) := by
  unfold slT cutD sIxD
  simp only [if_neg (show ¬ v < 0 by omega), Option.some.injEq, D.lst.injEq]
  by_cases q : v.toNat ≤ xs.length
  · rw [Nat.min_eq_left q, List.take_of_length_le (by rw [List.length_drop]; omega)]
  · rw [Nat.min_eq_right (by omega), List.drop_of_length_le (Nat.le_refl _), List.drop_of_length_le (by omega)]
    simp
theorem slT_two {xs : List D} {u v : Int} (h : 0 ≤ u) (h1 : u ≤ v) : slT (some u) (some v) (.lst xs) = some (.lst ((xs.drop u.toNat).take (v.toNat - u.toNat))) := by
  unfold slT cutD sIxD
  simp only [if_neg (show ¬ v < 0 by omega), if_neg (show ¬ u < 0 by omega), Option.some.injEq, D.lst.injEq]
  by_cases q : u.toNat ≤ xs.length
  · rw [Nat.min_eq_left q]
    by_cases q2 : v.toNat ≤ xs.length
    · rw [Nat.min_eq_left q2]
    · rw [Nat.min_eq_right (by omega), List.take_of_length_le (by rw [List.length_drop]; omega), List.take_of_length_le (by rw [List.length_drop]; omega)]
  · rw [Nat.min_eq_right (show xs.length ≤ u.toNat by omega), List.drop_of_length_le (Nat.le_refl _), List.drop_of_length_le (show xs.length ≤ u.toNat by omega)]
    simp
theorem lcL_ex {g : D → Env → Option Env} {t : MB} {el : ME} {own : List Nat} {e : Env} (P : D → Prop) : ∀ (ds acc : List D), (∀ d ∈ ds, ∃ e1, g d e = some e1 ∧ t e1 = .ok true e1 ∧ ∃ y, el e1 = .ok y e1 ∧ P y ∧ wipeE e1 own = e) → wipeE e own = e → acc.length + ds.length ≤ 1000000 → ∃ zs, lcL g t el own ds acc e = .ok (acc ++ zs) e ∧ zs.length = ds.length ∧ ∀ z ∈ zs, P z
  | [], acc, _, w, _ => ⟨[], by rw [lcL, w]; simp, rfl, by simp⟩
  | d :: ds, acc, st, w, hl => by
    obtain ⟨e1, h1, h2, y, h3, hp, h4⟩ := st d List.mem_cons_self
    have hv : acc.length < vmax := by rw [vmax_eq]; simp at hl; omega
    obtain ⟨zs, q, l, a⟩ := lcL_ex P ds (acc ++ [y]) (fun d hd => st d (List.mem_cons_of_mem _ hd)) w (by simp at hl ⊢; omega)
    refine ⟨y :: zs, ?_, by simp [l], by
      intro z hz
      rcases List.mem_cons.mp hz with rfl | hz
      · exact hp
      · exact a z hz⟩
    rw [lcL]
    simp only [h1, h2, Res.bindN, if_true, h3, hv, h4]
    rw [q]
    simp
theorem vLc_ex {it : MA} {g : D → Env → Option Env} {t : MB} {el : ME} {own : List Nat} {e e0 e1 : Env} {ds : List D} (P : D → Prop) (hi : it e = .ok ds e0) (hw : wipeE e0 own = e1) (st : ∀ d ∈ ds, ∃ e2, g d e1 = some e2 ∧ t e2 = .ok true e2 ∧ ∃ y, el e2 = .ok y e2 ∧ P y ∧ wipeE e2 own = e1) (w : wipeE e1 own = e1) (hl : ds.length ≤ 1000000) :
    ∃ zs, vLc it g t el own e = .ok zs e1 ∧ zs.length = ds.length ∧ ∀ z ∈ zs, P z := by
  obtain ⟨zs, q, l, a⟩ := lcL_ex (g := g) (t := t) (el := el) (own := own) P ds [] st w (by simpa using hl)
  refine ⟨zs, ?_, l, a⟩
  show (it e).bind _ = _
  rw [hi]
  show lcL g t el own ds [] (wipeE e0 own) = _
  rw [hw, q]
  rfl
@[simp] theorem wipe0 {e} : wipeE e [] = e := (rfl)
@[simp] theorem wipe1 {e v vs} : wipeE e (v :: vs) = (wipeE e vs).set v .no := (rfl)
theorem o_addL {xs ys : List D} (h : xs.length + ys.length ≤ 1000000) : opAdd (.lst xs) (.lst ys) = some (.lst (xs ++ ys)) := by
  show (if xs.length + ys.length ≤ vmax then some (D.lst (xs ++ ys)) else none) = _
  exact if_pos h
theorem at_ints {ns : List Int} {i : Nat} (h : i < ns.length) : atD (ns.map D.int) (i : Int) = some (.int ns[i]) := at_of rfl (by simp [h])
/-- small by bits -/
def Bd (n : Nat) (x : Int) : Prop := x.natAbs < 2 ^ n
theorem Bd.mono {n m : Nat} {x : Int} (h : Bd n x) (q : n ≤ m) : Bd m x := Nat.lt_of_lt_of_le h (Nat.pow_le_pow_right (by decide) q)
theorem Bd.mul {n m : Nat} {x y : Int} (h : Bd n x) (q : Bd m y) : Bd (n + m) (x * y) := by
  unfold Bd
  rw [Int.natAbs_mul, Nat.pow_add]
  exact Nat.mul_lt_mul'' h q
theorem Bd.add {n : Nat} {x y : Int} (h : Bd n x) (q : Bd n y) : Bd (n + 1) (x + y) := by
  unfold Bd at *
  rw [Nat.pow_succ]
  omega
theorem Bd.sub {n : Nat} {x y : Int} (h : Bd n x) (q : Bd n y) : Bd (n + 1) (x - y) := by
  unfold Bd at *
  rw [Nat.pow_succ]
  omega
theorem Bd.mulOk {x y : Int} (h : Bd 400000 x) (q : Bd 400000 y) : VL.mulOk x y = true := mulOk_b h q
theorem Bd.divOk {x : Int} (h : Bd 8000 x) (q : x ≠ 0) : VL.divOk x = true := divOk_b q h
theorem Bd.le {n : Nat} {x y : Int} (h : Bd n y) (q : x.natAbs ≤ y.natAbs) : Bd n x := Nat.lt_of_le_of_lt q h
@[simp] theorem o_isB {a b : Bool} : opIs (.bl a) (.bl b) = some (.bl (a == b)) := (rfl)
@[simp] theorem o_isnotB {a b : Bool} : opIsNot (.bl a) (.bl b) = some (.bl (!(a == b))) := (rfl)
@[simp] theorem o_isN {x : D} : opIs x .non = some (.bl x.isNon) := by cases x <;> rfl
@[simp] theorem o_isnotN {x : D} : opIsNot x .non = some (.bl (!x.isNon)) := by cases x <;> rfl
@[simp] theorem isNon_tup {xs} : D.isNon (.tup xs) = false := (rfl)
@[simp] theorem isNon_int {xs} : D.isNon (.int xs) = false := (rfl)
@[simp] theorem isNon_lst {xs} : D.isNon (.lst xs) = false := (rfl)
@[simp] theorem isNon_str {xs} : D.isNon (.str xs) = false := (rfl)
@[simp] theorem isNon_non : D.isNon .non = true := (rfl)
theorem at_mem {xs : List D} {i : Int} (h : 0 ≤ i) (h1 : i < xs.length) : ∃ y ∈ xs, atD xs i = some y := by
  have q : i.toNat < xs.length := by omega
  exact ⟨xs[i.toNat], List.getElem_mem q, at_of (n := i.toNat) (by omega) (by simp [q])⟩
/-- one turn of a loop -/
def turn (g : D → Env → Option Env) (b : MS) (d : D) (e : Env) : RS := match g d e with
  | some e1 => b e1
  | none => .bot
theorem turn_of {g : D → Env → Option Env} {b : MS} {d : D} {e e2 : Env} (h : turn g b d e = .nx e2) : ∃ e1, g d e = some e1 ∧ b e1 = .nx e2 := by
  unfold turn at h
  split at h
  · exact ⟨_, by assumption, h⟩
  · cases h
theorem turn_nam {i b d e} : turn (gNam i) b d e = if i < e.length then b (e.set i (.sh d)) else .bot := by
  unfold turn gNam
  by_cases h : i < e.length <;> simp [h]
/-- by the place -/
theorem loop_at {g : D → Env → Option Env} {b : MS} (I : Nat → Env → Prop) (ds : List D) (e : Env) (h : I 0 e) (st : ∀ i d, ds[i]? = some d → ∀ e, I i e → ∃ e2, turn g b d e = .nx e2 ∧ I (i + 1) e2) : ∃ e', forL g b ds e = .nx e' ∧ I ds.length e' := by
  have := forL_at (g := g) (b := b) I ds 0 e h fun i d hd e he => by
    rw [Nat.zero_add] at *
    obtain ⟨e2, h1, h2⟩ := st i d hd e he
    obtain ⟨e1, h3, h4⟩ := turn_of h1
    exact ⟨e1, h3, e2, h4, h2⟩
  rwa [Nat.zero_add] at this
theorem loop_inv {g : D → Env → Option Env} {b : MS} (I : Env → Prop) (ds : List D) (e : Env) (h : I e) (st : ∀ d ∈ ds, ∀ e, I e → ∃ e2, turn g b d e = .nx e2 ∧ I e2) : ∃ e', forL g b ds e = .nx e' ∧ I e' :=
  forL_inv I ds e h fun d hd e he => by
    obtain ⟨e2, h1, h2⟩ := st d hd e he
    obtain ⟨e1, h3, h4⟩ := turn_of h1
    exact ⟨e1, h3, e2, h4, h2⟩
theorem rng_at {m i : Nat} {d : D} (h : ((List.range m).map fun (i : Nat) => D.int (i : Int))[i]? = some d) : i < m ∧ d = .int (i : Int) := by
  have hi : i < m := by
    have := (List.getElem?_eq_some_iff.mp h).1
    simpa using this
  exact ⟨hi, by simpa [hi] using h.symm⟩
/-! texts -/
theorem str_len (x y : Str) : (x ++ y).length = x.length + y.length := by
  show (x.cps ++ y.cps).size = _
  rw [Array.size_append]
  rfl
theorem str_one (c : Nat) : (⟨#[c]⟩ : Str).length = 1 := rfl
theorem str_at {z : Str} {i : Int} (h : z.length ≤ 1000000) (h0 : 0 ≤ i) (h1 : i < z.length) : ∃ c, opIx (.str z) (.int i) = some (.str ⟨#[c]⟩) ∧ c ∈ z.cps := by
  show ∃ c, (if z.length ≤ vmax then (ixD z.cps.toList.length i).bind fun j => (z.cps.toList[j]?).map fun c => D.str ⟨#[c]⟩ else none) = _ ∧ _
  have q : i.toNat < z.cps.toList.length := by
    have : z.length = z.cps.toList.length := rfl
    omega
  refine ⟨z.cps.toList[i.toNat], ?_, by simp⟩
  rw [if_pos (show z.length ≤ vmax from h)]
  unfold ixD
  rw [if_pos h0, if_pos (by omega)]
  simp only [Option.bind_some]
  rw [List.getElem?_eq_getElem q]
  try rfl
theorem o_addS {x y : Str} (h : x.length + y.length ≤ 1000000) : opAdd (.str x) (.str y) = some (.str (x ++ y)) := if_pos h
theorem strS_add {x y : Str} (h : strS x = true) (h1 : strS y = true) : strS (x ++ y) = true := by
  unfold strS at *
  show (x.cps ++ y.cps).all _ = true
  rw [Array.all_append, h, h1]
  try rfl
theorem strS_one {c : Nat} {z : Str} (h : c ∈ z.cps) (h1 : strS z = true) : strS ⟨#[c]⟩ = true := by
  unfold strS at *
  have := (Array.all_eq_true_iff_forall_mem.mp h1) c h
  simpa using this
theorem cutSD_sub {z : Str} {lo hi : Option Int} : (∀ c ∈ (cutSD z lo hi).cps, c ∈ z.cps) ∧ (cutSD z lo hi).length ≤ z.length := by
  constructor
  · intro c hc
    have h : c ∈ ((z.cps.toList.drop (sIxD z.length 0 lo)).take (sIxD z.length z.length hi - sIxD z.length 0 lo)) := by
      simpa [cutSD] using hc
    simpa using List.mem_of_mem_drop (List.mem_of_mem_take h)
  · show (((z.cps.toList.drop (sIxD z.length 0 lo)).take (sIxD z.length z.length hi - sIxD z.length 0 lo)).toArray).size ≤ z.cps.size
    simp
    omega
theorem strS_of {y z : Str} (h : ∀ c ∈ y.cps, c ∈ z.cps) (h1 : strS z = true) : strS y = true := by
  unfold strS at *
  rw [Array.all_eq_true_iff_forall_mem] at *
  exact fun c hc => h1 c (h c hc)
theorem slT_str {z : Str} {lo hi : Option Int} (h : z.length ≤ 1000000) : slT lo hi (.str z) = some (.str (cutSD z lo hi)) := if_pos h
theorem o_addT {x y : D} {xs ys : List D} (h : xs.length + ys.length + 2 ≤ 1000000) : opAdd (.tup (x :: xs)) (.tup (y :: ys)) = some (.tup (x :: xs ++ y :: ys)) := if_pos h
theorem str_eq (a b : String) (h : decide (Str.ofString a = Str.ofString b) = false) : Str.ofString a ≠ Str.ofString b := of_decide_eq_false h
theorem ints_of {P : Int → Prop} : ∀ {zs : List D}, (∀ z ∈ zs, ∃ k, z = D.int k ∧ P k) → ∃ ks : List Int, zs = ks.map D.int ∧ ∀ k ∈ ks, P k
  | [], _ => ⟨[], rfl, by simp⟩
  | z :: zs, h => by
    obtain ⟨k, rfl, p⟩ := h z List.mem_cons_self
    obtain ⟨ks, rfl, q⟩ := ints_of (zs := zs) fun z hz => h z (List.mem_cons_of_mem _ hz)
    exact ⟨k :: ks, rfl, fun x hx => by
      rcases List.mem_cons.mp hx with rfl | hx
      · exact p
      · exact q x hx⟩
mutual
theorem deq_self : ∀ (n : Nat) (d : D), d.eqok n = true → D.deq d d = true
  | n, .non, _ => by rw [D.deq]
  | n, .bl b, _ => by simp
  | n, .int i, _ => by simp
  | n, .str s, _ => by simp
  | n, .dct _ _, h => by unfold D.eqok at h; cases h
  | 0, .tup _, h => by unfold D.eqok at h; cases h
  | 0, .lst _, h => by unfold D.eqok at h; cases h
  | n + 1, .tup ds, h => by
    rw [eqok_tup] at h
    rw [deq_tup]
    exact deqs_self n ds h
  | n + 1, .lst ds, h => by
    rw [eqok_lst] at h
    rw [deq_lst]
    exact deqs_self n ds h
theorem deqs_self : ∀ (n : Nat) (ds : List D), D.eqoks n ds = true → D.deqs ds ds = true
  | n, [], _ => by simp
  | n, d :: ds, h => by
    rw [eqoks_cons, Bool.and_eq_true] at h
    rw [deqs_cons, deq_self n d h.1, deqs_self n ds h.2]
    rfl
end
theorem eqoks_all {n : Nat} : ∀ {ds : List D}, (∀ d ∈ ds, D.eqok n d = true) → D.eqoks n ds = true
  | [], _ => by simp
  | d :: ds, h => by rw [eqoks_cons, h d List.mem_cons_self, eqoks_all fun d hd => h d (List.mem_cons_of_mem _ hd)]; rfl
theorem eqoks_ints {n : Nat} {ns : List Int} : D.eqoks n (ns.map D.int) = true := eqoks_all fun d hd => by
  obtain ⟨i, _, rfl⟩ := List.mem_map.mp hd
  simp
theorem o_eqS {a : D} (h : a.eqok 20 = true) : opEq a a = some (.bl true) := by rw [o_eq h h, deq_self 20 a h]
theorem o_neS {a : D} (h : a.eqok 20 = true) : opNe a a = some (.bl false) := by rw [o_ne h h, deq_self 20 a h]; rfl
theorem pop_of {i : Nat} {e : Env} {xs : List D} {d : D} (h : e[i]? = some (.ow .l (xs ++ [d]))) : vPop i e = .ok d (e.set i (.ow .l xs)) := by
  unfold vPop
  simp [h, Kd.isL]
@[simp] theorem rev1 {xs} : revL (.lst xs) = some xs.reverse := (rfl)
@[simp] theorem e_enum {m e} : vEnum m e = (m e).bind fun ds e1 => .of (enumD ds) e1 := (rfl)
@[simp] theorem enum1 {ds} : enumD [.lst ds] = some (ds.zipIdx.map fun p => .tup [.int ((p.2 : Nat) : Int), p.1]) := (rfl)
@[simp] theorem list1 {ds} : bfList [.lst ds] = some ds := (rfl)
theorem intsD_map : ∀ (ns : List Int), intsD (ns.map D.int) = some ns
  | [] => rfl
  | n :: ns => by
    show (intsD (ns.map D.int)).map (n :: ·) = _
    rw [intsD_map ns]
    rfl
theorem sum_ints {ns : List Int} : bfSum [.lst (ns.map D.int)] = some (.int ns.sum) := by
  show (intsD (ns.map D.int)).map _ = _
  rw [intsD_map]
  rfl
theorem boolsD_all : ∀ {ds : List D}, (∀ d ∈ ds, d = .bl true) → ∃ bs : List Bool, boolsD ds = some bs ∧ bs.all id = true
  | [], _ => ⟨[], rfl, rfl⟩
  | d :: ds, h => by
    obtain ⟨bs, e, a⟩ := boolsD_all fun d hd => h d (List.mem_cons_of_mem _ hd)
    have := h d List.mem_cons_self
    subst this
    refine ⟨true :: bs, ?_, by simpa using a⟩
    show (boolsD ds).map (true :: ·) = _
    rw [e]
    rfl
theorem all_true {ds : List D} (h : ∀ d ∈ ds, d = .bl true) : bfAll [.lst ds] = some (.bl true) := by
  obtain ⟨bs, e, a⟩ := boolsD_all h
  show (boolsD ds).map _ = _
  rw [e]
  show some (D.bl (bs.all id)) = _
  rw [a]
theorem forL_nx {g b d ds e e2} (h : turn g b d e = .nx e2) : forL g b (d :: ds) e = forL g b ds e2 := by
  obtain ⟨e1, h1, h2⟩ := turn_of h
  rw [forL]
  simp only [h1, h2]
theorem forL_rt {g b d ds e e2 x} (h : turn g b d e = .rt x e2) : forL g b (d :: ds) e = .rt x e2 := by
  unfold turn at h
  rw [forL]
  split at h
  · rename_i h1
    simp only [h1, h]
  · cases h
theorem turn_nam' {i b d e} (h : i < e.length) : turn (gNam i) b d e = b (e.set i (.sh d)) := by rw [turn_nam, if_pos h]
/-! tokens, try -/
@[simp] theorem clr0 {n} : clrE n [] = [] := (rfl)
@[simp] theorem clr1 {n s r} : clrE n (s :: r) = clrTk n s :: clrE n r := (rfl)
@[simp] theorem ctk1 {n d} : clrTk n (.sh d) = .sh d := (rfl)
@[simp] theorem ctk2 {n b d} : clrTk n (.ow b d) = .ow b d := (rfl)
@[simp] theorem ctk3 {n} : clrTk n .no = .no := (rfl)
@[simp] theorem ctk4 {n} : clrTk n (.tk n) = .no := if_pos rfl
@[simp] theorem po1 {n i s e} : RS.post n i s (.nx e) = .nx ((clrE n e).set i s) := (rfl)
@[simp] theorem po2 {n i s d e} : RS.post n i s (.rt d e) = .rt d ((clrE n e).set i s) := (rfl)
def fTryAs (names : List Str) (anc : Str → Str → Bool) (y : Str) (i : Nat) (h : Str → MS) : RS → RS
  | .err x e1 => match x.val with
    | none => if x.cls ∈ names then (if anc x.cls y = true then RS.post 0 i .no (h x.cls ((clrE 0 e1).set i (.tk 0))) else .err x e1) else .bot
    | some _ => .bot
  | r => r
@[simp] theorem ta1 {names anc y i h e} : fTryAs names anc y i h (.nx e) = .nx e := (rfl)
@[simp] theorem ta2 {names anc y i h d e} : fTryAs names anc y i h (.rt d e) = .rt d e := (rfl)
@[simp] theorem ta3 {names anc y i h c e} : fTryAs names anc y i h (.err ⟨c, none⟩ e) = if c ∈ names then (if anc c y = true then RS.post 0 i .no (h c ((clrE 0 e).set i (.tk 0))) else .err ⟨c, none⟩ e) else .bot := (rfl)
@[simp] theorem e_tryAs {names anc y i b h e} : vTryAs names anc y i b h e = fTryAs names anc y i h (b e) := by
  unfold vTryAs
  cases (b e) <;> rfl
def fIsE (b : Bool) (e : Env) : Option Sl → Res D
  | some (.tk 0) => .ok (.bl b) e
  | _ => .bot
@[simp] theorem ie1 {b e} : fIsE b e (some (.tk 0)) = .ok (.bl b) e := (rfl)
@[simp] theorem e_isE {i b e} : vIsE i b e = fIsE b e e[i]? := by
  unfold vIsE
  cases e[i]? with
  | none => rfl
  | some s => cases s with
    | tk n => cases n <;> rfl
    | _ => rfl
theorem forO_nx {n i g b e e1 ds} (h : e[i]? = some (.ow .l ds)) (h1 : forL g b ds ((clrE n e).set i (.tk n)) = .nx e1) (h2 : e1[i]? = some (.tk n)) : vForO n i g b e = .nx ((clrE n e1).set i (.ow .l ds)) := by
  unfold vForO
  simp only [h, h1, h2, if_true]
theorem set_of {i : Nat} {ix a : ME} {e e1 e2 : Env} {ds : List D} {d : D} {k : Int} {j : Nat} (ha : a e = .ok d e1) (h1 : e1[i]? = some (.ow .l ds)) (hx : ix e1 = .ok (.int k) e2) (h2 : e2[i]? = some (.ow .l ds)) (hk : ixD ds.length k = some j) : vSet i ix a e = .nx (e2.set i (.ow .l (ds.set j d))) := by
  unfold vSet
  simp only [ha, Res.thenS, h1, hx, h2, hk]
theorem ix_last {n : Nat} : ixD (n + 1) (-1) = some n := by
  unfold ixD
  rw [if_neg (by decide), if_pos (by omega)]
  congr 1
  omega
theorem set_last {xs : List D} {x y : D} : (xs ++ [x]).set xs.length y = xs ++ [y] := by
  rw [List.set_append_right _ _ (Nat.le_refl _)]
  simp
theorem lcL_flt {g : D → Env → Option Env} {t : MB} {el : ME} {own : List Nat} {e : Env} (P : D → Prop) : ∀ (ds acc : List D), (∀ d ∈ ds, ∃ e1, g d e = some e1 ∧ wipeE e1 own = e ∧ ∃ k, t e1 = .ok k e1 ∧ (k = true → ∃ y, el e1 = .ok y e1 ∧ P y)) → wipeE e own = e → acc.length + ds.length ≤ 1000000 → ∃ zs, lcL g t el own ds acc e = .ok (acc ++ zs) e ∧ zs.length ≤ ds.length ∧ ∀ z ∈ zs, P z
  | [], acc, _, w, _ => ⟨[], by rw [lcL, w]; simp, Nat.le_refl _, by simp⟩
  | d :: ds, acc, st, w, hl => by
    obtain ⟨e1, h1, h4, k, h2, hy⟩ := st d List.mem_cons_self
    have hv : acc.length < vmax := by rw [vmax_eq]; simp at hl; omega
    cases k with
    | true =>
      obtain ⟨y, h3, hp⟩ := hy rfl
      obtain ⟨zs, q, l, a⟩ := lcL_flt P ds (acc ++ [y]) (fun d hd => st d (List.mem_cons_of_mem _ hd)) w (by simp at hl ⊢; omega)
      refine ⟨y :: zs, ?_, by simp; omega, by
        intro z hz
        rcases List.mem_cons.mp hz with rfl | hz
        · exact hp
        · exact a z hz⟩
      rw [lcL]
      simp only [h1, h2, Res.bindN, if_true, h3, hv, h4]
      rw [q]
      simp
    | false =>
      obtain ⟨zs, q, l, a⟩ := lcL_flt P ds acc (fun d hd => st d (List.mem_cons_of_mem _ hd)) w (by simp at hl ⊢; omega)
      refine ⟨zs, ?_, by simp; omega, a⟩
      rw [lcL]
      simp only [h1, h2, Res.bindN, if_neg Bool.false_ne_true, h4]
      exact q
theorem vLc_flt {it : MA} {g : D → Env → Option Env} {t : MB} {el : ME} {own : List Nat} {e e0 e1 : Env} {ds : List D} (P : D → Prop) (hi : it e = .ok ds e0) (hw : wipeE e0 own = e1) (st : ∀ d ∈ ds, ∃ e2, g d e1 = some e2 ∧ wipeE e2 own = e1 ∧ ∃ k, t e2 = .ok k e2 ∧ (k = true → ∃ y, el e2 = .ok y e2 ∧ P y)) (w : wipeE e1 own = e1) (hl : ds.length ≤ 1000000) :
    ∃ zs, vLc it g t el own e = .ok zs e1 ∧ zs.length ≤ ds.length ∧ ∀ z ∈ zs, P z := by
  obtain ⟨zs, q, l, a⟩ := lcL_flt (g := g) (t := t) (el := el) (own := own) P ds [] st w (by simpa using hl)
  refine ⟨zs, ?_, l, a⟩
  show (it e).bind _ = _
  rw [hi]
  show lcL g t el own ds [] (wipeE e0 own) = _
  rw [hw, q]
  rfl
theorem of_all {α : Type} {f : α → D} {P : α → Prop} : ∀ {zs : List D}, (∀ z ∈ zs, ∃ k, z = f k ∧ P k) → ∃ ks : List α, zs = ks.map f ∧ ∀ k ∈ ks, P k
  | [], _ => ⟨[], rfl, by simp⟩
  | z :: zs, h => by
    obtain ⟨k, rfl, p⟩ := h z List.mem_cons_self
    obtain ⟨ks, rfl, q⟩ := of_all (zs := zs) fun z hz => h z (List.mem_cons_of_mem _ hz)
    exact ⟨k :: ks, rfl, fun x hx => by
      rcases List.mem_cons.mp hx with rfl | hx
      · exact p
      · exact q x hx⟩
/-- a whole number, no truth -/
def D.isI : D → Bool
  | .int _ => true
  | _ => false
def fDisp : Res (List (D × D)) → Res D
  | .ok ps e => .of (dispD ps) e
  | .err x e => .err x e
  | .bot => .bot
@[simp] theorem fdi1 {ps e} : fDisp (.ok ps e) = .of (dispD ps) e := (rfl)
@[simp] theorem e_disp {r e} : vDisp r e = fDisp (r e) := by unfold vDisp; cases (r e) <;> rfl
@[simp] theorem e_pn {e} : vPN e = .ok [] e := (rfl)
@[simp] theorem e_pc {k v r e} : vPC k v r e = (k e).bind fun x e1 => (v e1).bind fun y e2 => (r e2).bind fun ps e3 => .ok ((x, y) :: ps) e3 := (rfl)
theorem boolsD_none : ∀ {ds : List D}, (∀ d ∈ ds, d = .bl false) → ∃ bs : List Bool, boolsD ds = some bs ∧ bs.any id = false
  | [], _ => ⟨[], rfl, rfl⟩
  | d :: ds, h => by
    obtain ⟨bs, e, a⟩ := boolsD_none fun d hd => h d (List.mem_cons_of_mem _ hd)
    have := h d List.mem_cons_self
    subst this
    refine ⟨false :: bs, ?_, by simpa using a⟩
    show (boolsD ds).map (false :: ·) = _
    rw [e]
    rfl
theorem any_false {ds : List D} (h : ∀ d ∈ ds, d = .bl false) : bfAny [.lst ds] = some (.bl false) := by
  obtain ⟨bs, e, a⟩ := boolsD_none h
  show (boolsD ds).map _ = _
  rw [e]
  show some (D.bl (bs.any id)) = _
  rw [a]
theorem str_int {i : Int} (h : i.natAbs < 2 ^ 1900) : ∃ z, bfStr [.int i] = some (.str z) := by
  refine ⟨(toString i : String), ?_⟩
  show (if i.natAbs.log2 < 1920 then some (D.str (toString i : String)) else none) = _
  rw [if_pos (Nat.lt_trans (log2_lt h (by decide)) (by decide))]
theorem forL_err {g b d ds e e2 x} (h : turn g b d e = .err x e2) : forL g b (d :: ds) e = .err x e2 := by
  unfold turn at h
  rw [forL]
  split at h
  · rename_i h1
    simp only [h1, h]
  · cases h
theorem vLc_err {it : MA} {g : D → Env → Option Env} {t : MB} {el : ME} {own : List Nat} {e e1 : Env} {x : Xc} (h : it e = .err x e1) : vLc it g t el own e = .err x e1 := by
  show (it e).bind _ = _
  rw [h]
  rfl
theorem slT_tupL {x : D} {xs : List D} {y : D} : slT none (some (-1)) (.tup (x :: (xs ++ [y]))) = some (.tup (x :: xs)) := by
  have h2 : sIxD (x :: (xs ++ [y])).length (x :: (xs ++ [y])).length (some (-1)) = xs.length + 1 := by
    show (if (-1 : Int) < 0 then ((-1 : Int) + ((x :: (xs ++ [y])).length : Nat)).toNat else min (-1 : Int).toNat (x :: (xs ++ [y])).length) = _
    rw [if_pos (by decide)]
    simp only [List.length_cons, List.length_append, List.length_nil]
    omega
  show (if sIxD (x :: (xs ++ [y])).length 0 none = 0 ∧ sIxD (x :: (xs ++ [y])).length (x :: (xs ++ [y])).length (some (-1)) = (x :: (xs ++ [y])).length then none else some (D.tup (cutD (x :: (xs ++ [y])) none (some (-1))))) = _
  rw [if_neg (by rw [h2]; simp)]
  unfold cutD
  rw [h2]
  show some (D.tup (((x :: (xs ++ [y])).drop 0).take (xs.length + 1 - 0))) = _
  simp
mutual
theorem eqok_succ : ∀ (n : Nat) (d : D), d.eqok n = true → d.eqok (n + 1) = true
  | n, .non, _ => by simp
  | n, .bl b, _ => by simp
  | n, .int i, _ => by simp
  | n, .str s, h => by simpa using h
  | n, .dct _ _, h => by unfold D.eqok at h; cases h
  | 0, .tup _, h => by unfold D.eqok at h; cases h
  | 0, .lst _, h => by unfold D.eqok at h; cases h
  | n + 1, .tup ds, h => by
    rw [eqok_tup] at *
    exact eqoks_succ n ds h
  | n + 1, .lst ds, h => by
    rw [eqok_lst] at *
    exact eqoks_succ n ds h
theorem eqoks_succ : ∀ (n : Nat) (ds : List D), D.eqoks n ds = true → D.eqoks (n + 1) ds = true
  | n, [], _ => by simp
  | n, d :: ds, h => by
    rw [eqoks_cons, Bool.and_eq_true] at h
    rw [eqoks_cons, eqok_succ n d h.1, eqoks_succ n ds h.2]
    rfl
end
/-! dicts of one's own -/
def fAsK (i : Nat) : Res (List Ky × List D) → RS
  | .ok kd e => if i < e.length then .nx (e.set i (.ow .d [.dct kd.1 kd.2])) else .bot
  | .err x e => .err x e
  | .bot => .bot
@[simp] theorem fak1 {i kd e} : fAsK i (.ok kd e) = if i < e.length then .nx (e.set i (.ow .d [.dct kd.1 kd.2])) else .bot := (rfl)
@[simp] theorem fak2 {i x e} : fAsK i (.err x e) = .err x e := (rfl)
@[simp] theorem e_asgK {i a e} : vAsgK i a e = fAsK i (a e) := by unfold vAsgK fAsK; cases (a e) <;> rfl
@[simp] theorem e_k0 {e} : vK0 e = .ok ([], []) e := (rfl)
@[simp] theorem e_kd {r e} : vKD r e = (r e).bind fun ps e1 => .of (dispK ps) e1 := (rfl)
@[simp] theorem e_kc {a e} : vKC a e = (a e).bind fun xs e1 => .of (copyK xs) e1 := (rfl)
@[simp] theorem copyK1 {ks ds} : copyK [.dct ks ds] = some (ks, ds) := (rfl)
@[simp] theorem e_ofK {a e} : vOfK a e = (a e).bind fun kd e1 => .ok (.dct kd.1 kd.2) e1 := (rfl)
def fBorK (e : Env) : Res (List Ky × List D) → Res (List Ky × List D)
  | .ok kd _ => if D.flats kd.2 then .ok kd e else .bot
  | .err x _ => .err x e
  | .bot => .bot
@[simp] theorem fbk1 {e kd e1} : fBorK e (.ok kd e1) = if D.flats kd.2 then .ok kd e else .bot := (rfl)
@[simp] theorem fbk2 {e x e1} : fBorK e (.err x e1) = .err x e := (rfl)
@[simp] theorem e_borK {a e} : vBorK a e = fBorK e (a (frz e)) := by unfold vBorK; cases (a (frz e)) <;> rfl
theorem setK_of {i : Nat} {ix a : ME} {e e1 e2 : Env} {ds0 : List D} {ks : List Ky} {ds : List D} {d kd : D} {k : Ky} (ha : a e = .ok d e1) (h1 : e1[i]? = some (.ow .d ds0)) (hx : ix e1 = .ok kd e2) (h2 : e2[i]? = some (.ow .d [.dct ks ds])) (hk : keyD kd = some k) (hl : ks.length < 1000000) :
    vSetK i ix a e = .nx (e2.set i (.ow .d [.dct (putD ks ds k d).1 (putD ks ds k d).2])) := by
  unfold vSetK
  simp only [ha, Res.thenS, h1, hx, h2, hk]
  exact if_pos hl
/-! what a dict holds -/
theorem get_of : ∀ {ks : List Ky} {ds : List D} {k : Ky}, ks.length = ds.length → k ∈ ks → ∃ d ∈ ds, dctGet ks ds k = some d
  | [], ds, k, _, h => by simp at h
  | k0 :: ks, [], k, hl, _ => by simp at hl
  | k0 :: ks, d0 :: ds, k, hl, h => by
    by_cases e : k0 = k
    · exact ⟨d0, by simp, by simp [dctGet, e]⟩
    · have hm : k ∈ ks := by
        rcases List.mem_cons.mp h with h | h
        · exact absurd h.symm e
        · exact h
      obtain ⟨d, h1, h2⟩ := get_of (ds := ds) (by simpa using hl) hm
      refine ⟨d, by simp [h1], ?_⟩
      simp only [dctGet, List.zip_cons_cons, List.find?_cons, decide_eq_false e] at h2 ⊢
      exact h2
theorem get_none : ∀ {ks : List Ky} {ds : List D} {k : Ky}, k ∉ ks → dctGet ks ds k = none
  | [], ds, k, _ => by simp [dctGet]
  | k0 :: ks, [], k, _ => by simp [dctGet]
  | k0 :: ks, d0 :: ds, k, h => by
    have e : ¬ k0 = k := fun z => h (by simp [z])
    have h2 := get_none (ds := ds) (fun z => h (List.mem_cons_of_mem _ z) : k ∉ ks)
    simp only [dctGet, List.zip_cons_cons, List.find?_cons, decide_eq_false e] at h2 ⊢
    exact h2
theorem hits_self : ∀ {ks : List Ky} {ds : List D} (ls : List Ky) (es : List D), ls.length = es.length → (ls ++ ks).Nodup → (∀ d ∈ ds, D.deq d d = true) → hitsD (ls ++ ks) (es ++ ds) ks ds = true
  | [], ds, ls, es, _, _, _ => by unfold hitsD; rfl
  | k :: ks, [], ls, es, _, _, _ => by unfold hitsD; rfl
  | k :: ks, d :: ds, ls, es, hl, nd, h => by
    have nk : k ∉ ls := fun z => by
      rw [List.nodup_append] at nd
      exact nd.2.2 k z k (by simp) rfl
    have g : ∀ (ls : List Ky) (es : List D), ls.length = es.length → k ∉ ls → dctGet (ls ++ k :: ks) (es ++ d :: ds) k = some d := by
      intro ls
      induction ls with
      | nil => intro es hl _; have : es = [] := by simpa using hl.symm
               subst this; simp [dctGet]
      | cons l ls ih =>
        intro es hl nk
        cases es with
        | nil => simp at hl
        | cons e es =>
          have := ih es (by simpa using hl) (fun z => nk (List.mem_cons_of_mem _ z))
          have ne : ¬ l = k := fun z => nk (by simp [z])
          simp only [dctGet, List.cons_append, List.zip_cons_cons, List.find?_cons, decide_eq_false ne] at this ⊢
          exact this
    have ih := hits_self (ks := ks) (ds := ds) (ls ++ [k]) (es ++ [d]) (by simp [hl]) (by simpa using nd) (fun x hx => h x (List.mem_cons_of_mem _ hx))
    rw [List.append_assoc, List.append_assoc] at ih
    unfold hitsD
    rw [g ls es hl nk]
    simp only [h d List.mem_cons_self, Bool.true_and]
    exact ih
theorem o_neK {ks : List Ky} {ds : List D} (nd : ks.Nodup) (h : D.eqoks 20 ds = true) : opNe (.dct ks ds) (.dct ks ds) = some (.bl false) := by
  have e : hitsD ks ds ks ds = true := by
    have := hits_self (ks := ks) (ds := ds) [] [] rfl (by simpa using nd) (fun d hd => by
      have : ∀ {ds : List D}, D.eqoks 20 ds = true → ∀ d ∈ ds, D.eqok 20 d = true := fun {ds} => by
        induction ds with
        | nil => intro _ d hd; simp at hd
        | cons x xs ih =>
          intro h d hd
          rw [eqoks_cons, Bool.and_eq_true] at h
          rcases List.mem_cons.mp hd with rfl | hd
          · exact h.1
          · exact ih h.2 d hd
      exact deq_self 20 d (this h d hd))
    simpa using this
  have n1 : D.eqok 20 (.dct ks ds) = false := by unfold D.eqok; rfl
  unfold opNe opEqK
  simp [n1, h, e]
theorem put_mem {ks : List Ky} {ds : List D} {k : Ky} {d : D} (hl : ks.length = ds.length) : (putD ks ds k d).1.length = (putD ks ds k d).2.length ∧ (∀ j, j ∈ (putD ks ds k d).1 ↔ j = k ∨ j ∈ ks) ∧ (ks.Nodup → (putD ks ds k d).1.Nodup) ∧ (∀ x ∈ (putD ks ds k d).2, x = d ∨ x ∈ ds) ∧ (putD ks ds k d).1.length ≤ ks.length + 1 := by
  unfold putD
  by_cases h : (ks.any fun j => decide (j = k)) = true
  · rw [if_pos h]
    obtain ⟨j, hj, e⟩ := List.any_eq_true.mp h
    have e := of_decide_eq_true e
    subst e
    refine ⟨by simp; omega, fun i => ⟨fun q => .inr q, fun q => by rcases q with rfl | q <;> assumption⟩, fun q => q, fun x hx => ?_, by simp⟩
    obtain ⟨p, hp, rfl⟩ := List.mem_map.mp hx
    by_cases q : p.1 = j
    · rw [if_pos q]; exact .inl rfl
    · rw [if_neg q]; exact .inr (List.of_mem_zip hp).2
  · rw [if_neg h]
    have nk : k ∉ ks := fun z => h (List.any_eq_true.mpr ⟨k, z, decide_eq_true rfl⟩)
    refine ⟨by simp [hl], fun j => by simp [or_comm], fun q => ?_, fun x hx => ?_, by simp⟩
    · rw [List.nodup_append]
      refine ⟨q, by simp, fun a ha b hb => ?_⟩
      simp at hb
      subst hb
      exact fun z => nk (z ▸ ha)
    · simp at hx
      rcases hx with hx | hx
      · exact .inr hx
      · exact .inl hx
@[simp] theorem e_catF {a b e} : vCatF a b e = (a e).bind fun x e1 => (b e1).bind fun y e2 => .of (catL x y) e2 := (rfl)
theorem o_catL {xs ys : List D} (h : xs.length + ys.length ≤ 1000000) : catL (.lst xs) (.lst ys) = some (xs ++ ys) := if_pos h
def fRI (x f : Str) : Res D → RS
  | .ok (.int n) e1 => .err ⟨x, some (f, n)⟩ e1
  | .err y e1 => .err y e1
  | _ => .bot
@[simp] theorem fri1 {x f n e} : fRI x f (.ok (.int n) e) = .err ⟨x, some (f, n)⟩ e := (rfl)
@[simp] theorem fri2 {x f y e} : fRI x f (.err y e) = .err y e := (rfl)
@[simp] theorem e_raiseI {x f m e} : vRaiseI x f m e = fRI x f (m e) := by
  unfold vRaiseI
  cases m e with
  | ok d e1 => cases d <;> rfl
  | err y e1 => rfl
  | bot => rfl
def fTM (names : List Str) (anc : Str → Str → Bool) (cl : List Cl) : RS → RS
  | .err x e1 => if x.cls ∈ names then vHandle anc cl x e1 else .bot
  | r => r
@[simp] theorem ftm1 {names anc cl e} : fTM names anc cl (.nx e) = .nx e := (rfl)
@[simp] theorem ftm2 {names anc cl d e} : fTM names anc cl (.rt d e) = .rt d e := (rfl)
@[simp] theorem ftm3 {names anc cl x e} : fTM names anc cl (.err x e) = if x.cls ∈ names then vHandle anc cl x e else .bot := (rfl)
@[simp] theorem e_tryM {names anc cl b e} : vTryM names anc cl b e = fTM names anc cl (b e) := by
  unfold vTryM
  cases b e <;> rfl
@[simp] theorem hd1 {anc x e} : vHandle anc [] x e = .err x e := (rfl)
@[simp] theorem hd2 {anc y h r x e} : vHandle anc ((y, none, h) :: r) x e = if anc x.cls y = true then noX (h x e) else vHandle anc r x e := (rfl)
@[simp] theorem hd3 {anc y i h r x e} : vHandle anc ((y, some i, h) :: r) x e = if anc x.cls y = true then (h x ((clrE 0 e).set i (.tk 0))).post 0 i .no else vHandle anc r x e := (rfl)
@[simp] theorem nox1 {e} : noX (.nx e) = .nx e := (rfl)
@[simp] theorem nox2 {d e} : noX (.rt d e) = .rt d e := (rfl)
def fXf (f : Str) (x : Xc) (e : Env) : Option Sl → Res D
  | some (.tk 0) => (match x.val with
    | some (g, n) => if g = f then .ok (.int n) e else .bot
    | none => .bot)
  | _ => .bot
@[simp] theorem fxf1 {f c g n e} : fXf f ⟨c, some (g, n)⟩ e (some (.tk 0)) = if g = f then .ok (.int n) e else .bot := (rfl)
@[simp] theorem e_xf {i f x e} : vXf i f x e = fXf f x e e[i]? := by
  unfold vXf fXf
  cases e[i]? with
  | none => rfl
  | some s => cases s <;> rfl
/-! loops over lists that stand there item by item -/
def fTurn (b : MS) : Option Env → RS
  | some e => b e
  | none => .bot
theorem fturn1 {b e} : fTurn b (some e) = b e := (rfl)
def fLp (g : D → Env → Option Env) (b : MS) (ds : List D) : RS → RS
  | .nx e => forL g b ds e
  | .ct e => forL g b ds e
  | .bk e => .nx e
  | .rt d e => .rt d e
  | .err x e => .err x e
  | .bot => .bot
theorem flp1 {g b ds e} : fLp g b ds (.nx e) = forL g b ds e := (rfl)
theorem flp2 {g b ds d e} : fLp g b ds (.rt d e) = .rt d e := (rfl)
theorem flp3 {g b ds x e} : fLp g b ds (.err x e) = .err x e := (rfl)
theorem forL_0 {g b e} : forL g b [] e = .nx e := (rfl)
theorem forL_f {g b d ds e} : forL g b (d :: ds) e = fLp g b ds (fTurn b (g d e)) := by
  rw [forL]
  cases g d e with
  | none => rfl
  | some e1 =>
    show (match b e1 with
      | .nx e2 => forL g b ds e2
      | .ct e2 => forL g b ds e2
      | .bk e2 => .nx e2
      | .rt d e2 => .rt d e2
      | .err x e2 => .err x e2
      | .bot => .bot) = fLp g b ds (b e1)
    cases b e1 <;> rfl
theorem lt_t {a b : Int} (h : a < b) : (a < b) = True := eq_true h
theorem lt_n {a b : Int} (h : ¬ a < b) : (a < b) = False := eq_false h
theorem le_t {a b : Int} (h : a ≤ b) : (a ≤ b) = True := eq_true h
theorem le_n {a b : Int} (h : ¬ a ≤ b) : (a ≤ b) = False := eq_false h
theorem eq_t {a b : Int} (h : a = b) : (a = b) = True := eq_true h
theorem eq_n {a b : Int} (h : ¬ a = b) : (a = b) = False := eq_false h
def fSt4 (i : Nat) (d : D) (e2 : Env) (k : D) (ds : List D) : RS := match k with
  | .int k => match ixD ds.length k with
    | some j => .nx (e2.set i (.ow .l (ds.set j d)))
    | none => .bot
  | _ => .bot
def fSt3 (i : Nat) (d : D) (k : D) (e2 : Env) : Option Sl → RS
  | some (.ow .l ds) => fSt4 i d e2 k ds
  | _ => .bot
def fSt2 (i : Nat) (d : D) : Res D → RS
  | .ok k e2 => fSt3 i d k e2 e2[i]?
  | .err x e2 => .err x e2
  | .bot => .bot
def fSt1 (i : Nat) (ix : ME) (d : D) (e1 : Env) : Option Sl → RS
  | some (.ow .l _) => fSt2 i d (ix e1)
  | _ => .bot
def fSt (i : Nat) (ix : ME) : Res D → RS
  | .ok d e1 => fSt1 i ix d e1 e1[i]?
  | .err x e1 => .err x e1
  | .bot => .bot
theorem fst1 {i ix d e} : fSt i ix (.ok d e) = fSt1 i ix d e e[i]? := (rfl)
theorem fst2 {i ix x e} : fSt i ix (.err x e) = .err x e := (rfl)
theorem fst3 {i ix d e ds} : fSt1 i ix d e (some (.ow .l ds)) = fSt2 i d (ix e) := (rfl)
theorem fst4 {i d k e} : fSt2 i d (.ok k e) = fSt3 i d k e e[i]? := (rfl)
theorem fst5 {i d k e ds} : fSt3 i d k e (some (.ow .l ds)) = fSt4 i d e k ds := (rfl)
theorem fst6 {i d e x xs} : fSt4 i d e (.int 0) (x :: xs) = .nx (e.set i (.ow .l (d :: xs))) := by
  have h : ixD (x :: xs).length 0 = some 0 := by
    unfold ixD
    rw [if_pos (by decide), if_pos (by simp)]
    rfl
  show (match ixD (x :: xs).length 0 with
    | some j => RS.nx (e.set i (.ow .l ((x :: xs).set j d)))
    | none => .bot) = _
  rw [h]
  rfl
theorem e_set {i ix a e} : vSet i ix a e = fSt i ix (a e) := by
  unfold vSet
  cases a e with
  | ok d e1 =>
    show (match e1[i]? with
      | some (.ow .l _) => (ix e1).thenS fun k e2 => match e2[i]? with
        | some (.ow .l ds) => match k with
          | .int k => match ixD ds.length k with
            | some j => .nx (e2.set i (.ow .l (ds.set j d)))
            | none => .bot
          | _ => .bot
        | _ => .bot
      | _ => .bot) = fSt1 i ix d e1 e1[i]?
    cases e1[i]? with
    | none => rfl
    | some s =>
      cases s with
      | ow b ds =>
        cases b with
        | p _ => rfl
        | l =>
          show (ix e1).thenS _ = fSt2 i d (ix e1)
          cases ix e1 with
          | ok k e2 =>
            show (match e2[i]? with
              | some (.ow .l ds) => match k with
                | .int k => match ixD ds.length k with
                  | some j => .nx (e2.set i (.ow .l (ds.set j d)))
                  | none => .bot
                | _ => .bot
              | _ => .bot) = fSt3 i d k e2 e2[i]?
            cases e2[i]? with
            | none => rfl
            | some s2 =>
              cases s2 with
              | ow b2 ds2 =>
                cases b2 <;> rfl
              | _ => rfl
          | err x e2 => rfl
          | bot => rfl
        | d => rfl
      | _ => rfl
  | err x e1 => rfl
  | bot => rfl
def fBm (op : D → D → Option D) (b : ME) : Res D → Res D
  | .ok (.lst xs) e1 => (b e1).bind fun y e2 => .of (op (.lst xs) y) e2
  | .err x e1 => .err x e1
  | _ => .bot
@[simp] theorem fbm1 {op b xs e} : fBm op b (.ok (.lst xs) e) = (b e).bind fun y e2 => .of (op (.lst xs) y) e2 := (rfl)
@[simp] theorem e_bm1 {op a b e} : vBm1 op a b e = fBm op b (a e) := by
  unfold vBm1
  cases a e with
  | ok d e1 => cases d <;> rfl
  | err x e1 => rfl
  | bot => rfl
@[simp] theorem int1 {i} : bfInt [.int i] = some (.int i) := (rfl)
@[simp] theorem int2 {b} : bfInt [.bl b] = some (.int (if b then 1 else 0)) := (rfl)
@[simp] theorem listK1 {ds} : bfListK [.lst ds] = some ds := (rfl)
@[simp] theorem listK2 {ds} : bfListK [.tup ds] = some ds := (rfl)
theorem listK3 {ks ds} (h : ks.length = ds.length) : bfListK [.dct ks ds] = some (ks.map kyD) := if_pos h
/-! lists handed in to be changed -/
theorem insL0 {α : Type} {a : α} {l : List α} : insL 0 a l = a :: l := (rfl)
theorem insL1 {α : Type} {a b : α} {l : List α} : insL 1 a (b :: l) = b :: a :: l := (rfl)
def fRunI (j : Nat) : RS → FRI
  | .nx e => .of j e (.ok .non)
  | .rt d e => .of j e (.ok d)
  | .err x e => .of j e (.err x)
  | _ => .bot
@[simp] theorem fri_nx {j e} : fRunI j (.nx e) = .of j e (.ok .non) := (rfl)
@[simp] theorem fri_rt {j d e} : fRunI j (.rt d e) = .of j e (.ok d) := (rfl)
@[simp] theorem fri_er {j x e} : fRunI j (.err x e) = .of j e (.err x) := (rfl)
def friF (f : List D → FRI) : Option Sl → FRI
  | some (.ow (.p 0) es) => f es
  | _ => .bot
theorem fri_of {j e f} : FRI.of j e f = friF f e[j]? := by
  unfold FRI.of friF
  cases e[j]? with
  | none => rfl
  | some s => cases s with
    | ow b ds => cases b with
      | p n => cases n <;> rfl
      | _ => rfl
    | _ => rfl
theorem friF1 {f es} : friF f (some (.ow (.p 0) es)) = f es := (rfl)
theorem e_runI {np n j b ds es} : runI np n j b ds es = if ds.length + 1 = np ∧ j ≤ ds.length then fRunI j (b (insL j (.ow (.p 0) es) (ds.map Sl.sh) ++ List.replicate (n - np) .no)) else .bot := by
  unfold runI fRunI
  split
  · split <;> simp_all
  · rfl
def fArI (m : MA) (e : Env) : Option Sl → Res (List D)
  | some (.ow _ _) => m e
  | _ => .bot
theorem fari1 {m e k ds} : fArI m e (some (.ow k ds)) = m e := (rfl)
theorem e_argI {i m e} : vArgI i m e = fArI m e e[i]? := by
  unfold vArgI fArI
  cases e[i]? with
  | none => rfl
  | some s => cases s <;> rfl
def fPut {α : Type} (i : Nat) (k : Kd) (e : Env) (f : D → Option α) (r : FRI) : Res α := match r with
  | .ok d es => .of (f d) (e.set i (.ow k es))
  | .err x es => .err x (e.set i (.ow k es))
  | .bot => .bot
theorem fput1 {α : Type} {i k e} {f : D → Option α} {d es} : fPut i k e f (.ok d es) = .of (f d) (e.set i (.ow k es)) := (rfl)
theorem fput2 {α : Type} {i k e} {f : D → Option α} {d es} : fPut i k e f (.err d es) = .err d (e.set i (.ow k es)) := (rfl)
def fClI2 {α : Type} (i : Nat) (fn : FI) (f : D → Option α) (ds : List D) (e : Env) : Option Sl → Res α
  | some (.ow k es) => if k.isL = true then fPut i k e f (fn ds es) else .bot
  | _ => .bot
def fClI {α : Type} (i : Nat) (fn : FI) (f : D → Option α) : Res (List D) → Res α
  | .ok ds e => fClI2 i fn f ds e e[i]?
  | .err x e => .err x e
  | .bot => .bot
theorem fcli1 {α : Type} {i fn} {f : D → Option α} {ds e} : fClI i fn f (.ok ds e) = fClI2 i fn f ds e e[i]? := (rfl)
theorem fcli2 {α : Type} {i fn} {f : D → Option α} {ds e es} : fClI2 i fn f ds e (some (.ow .l es)) = fPut i .l e f (fn ds es) := (rfl)
theorem fcli3 {α : Type} {i fn} {f : D → Option α} {ds e n es} : fClI2 i fn f ds e (some (.ow (.p n) es)) = fPut i (.p n) e f (fn ds es) := (rfl)
theorem e_callI {i fn m e} : vCallI i fn m e = fClI i fn some (m e) := by
  unfold vCallI fClI
  cases m e with
  | ok ds e1 =>
    show (match e1[i]? with
      | some (.ow k es) => if k.isL = true then putI i k e1 (fn ds es) some else .bot
      | _ => .bot) = fClI2 i fn some ds e1 e1[i]?
    unfold fClI2
    cases e1[i]? with
    | none => rfl
    | some s => cases s <;> rfl
  | err x e1 => rfl
  | bot => rfl
theorem e_callIF {i fn m e} : vCallIF i fn m e = fClI i fn asL (m e) := by
  unfold vCallIF fClI
  cases m e with
  | ok ds e1 =>
    show (match e1[i]? with
      | some (.ow k es) => if k.isL = true then putI i k e1 (fn ds es) asL else .bot
      | _ => .bot) = fClI2 i fn asL ds e1 e1[i]?
    unfold fClI2
    cases e1[i]? with
    | none => rfl
    | some s => cases s <;> rfl
  | err x e1 => rfl
  | bot => rfl
theorem asL1 {ds} : asL (.lst ds) = some ds := (rfl)
/-! own trees -/
abbrev shLL : Sh := .l (.l .s)
abbrev shTB : Sh := .t [.l (.l .s), .l .s]
@[simp] theorem eqb1 : Sh.eqb (.l (.l .s)) (.l (.l .s)) = true := (rfl)
@[simp] theorem eqb2 : Sh.eqb (.t [.l (.l .s), .l .s]) (.t [.l (.l .s), .l .s]) = true := (rfl)
@[simp] theorem eqb3 : Sh.eqb (.l .s) (.l .s) = true := (rfl)
@[simp] theorem eqb4 : Sh.eqb .s .s = true := (rfl)
def fAgT (i : Nat) (s : Sh) : Res D → RS
  | .ok d e => if i < e.length then .nx (e.set i (if d.flat = true then .sh d else .tr s d)) else .bot
  | .err x e => .err x e
  | .bot => .bot
@[simp] theorem fagt1 {i s d e} : fAgT i s (.ok d e) = if i < e.length then .nx (e.set i (if d.flat = true then .sh d else .tr s d)) else .bot := (rfl)
@[simp] theorem fagt2 {i s x e} : fAgT i s (.err x e) = .err x e := (rfl)
@[simp] theorem e_asgT {i s m e} : vAsgT i s m e = fAgT i s (m e) := by unfold vAsgT fAgT; cases m e <;> rfl
def fOwT (i : Nat) (s : Sh) (e : Env) : Option Sl → Res D
  | some (.tr s' d) => if Sh.eqb s s' = true then .ok d (e.set i .no) else .bot
  | _ => .bot
@[simp] theorem fowt1 {i s e s' d} : fOwT i s e (some (.tr s' d)) = if Sh.eqb s s' = true then .ok d (e.set i .no) else .bot := (rfl)
@[simp] theorem e_ownT {i s e} : vOwnT i s e = fOwT i s e e[i]? := by
  unfold vOwnT fOwT
  cases e[i]? with
  | none => rfl
  | some x => cases x <;> rfl
def fOwTf (i : Nat) (s : Sh) (e : Env) : Option Sl → Res D
  | some (.tr s' d) => if Sh.eqb s s' = true then .ok d (e.set i .no) else .bot
  | some (.sh d) => if d.flat = true then .ok d e else .bot
  | _ => .bot
@[simp] theorem fowf1 {i s e s' d} : fOwTf i s e (some (.tr s' d)) = if Sh.eqb s s' = true then .ok d (e.set i .no) else .bot := (rfl)
@[simp] theorem fowf2 {i s e d} : fOwTf i s e (some (.sh d)) = if d.flat = true then .ok d e else .bot := (rfl)
@[simp] theorem e_ownTf {i s e} : vOwnTf i s e = fOwTf i s e e[i]? := by
  unfold vOwnTf fOwTf
  cases e[i]? with
  | none => rfl
  | some x => cases x <;> rfl
def fFl : Res D → Res D
  | .ok d e => if d.flat = true then .ok d e else .bot
  | .err x e => .err x e
  | .bot => .bot
@[simp] theorem ffl1 {d e} : fFl (.ok d e) = if d.flat = true then .ok d e else .bot := (rfl)
@[simp] theorem ffl2 {x e} : fFl (.err x e) = .err x e := (rfl)
@[simp] theorem e_fl {m e} : vFl m e = fFl (m e) := by unfold vFl fFl; cases m e <;> rfl
def fP0 (e : Env) : Option Sl → Res (List Nat)
  | some (.tr _ _) => .ok [] e
  | _ => .bot
@[simp] theorem fp01 {e s d} : fP0 e (some (.tr s d)) = .ok [] e := (rfl)
@[simp] theorem e_P0 {i e} : vP0 i e = fP0 e e[i]? := by
  unfold vP0 fP0
  cases e[i]? with
  | none => rfl
  | some x => cases x <;> rfl
/-- a store into a tree's list -/
theorem setT_of {i : Nat} {mp : MP} {x s : Sh} {ix me : ME} {e e0 e1 e2 : Env} {π : List Nat} {d a : D} {ds : List D} {k : Int} {j : Nat} (h1 : me e = .ok a e0) (h2 : mp e0 = .ok π e1) (h3 : e1[i]? = some (.tr s d)) (h4 : lstAt x π s d = some ds) (h5 : ix (e1.set i .no) = .ok (.int k) e2) (h6 : ixD ds.length k = some j) : vSetT i mp x ix me e = .nx (e2.set i (.tr s (setP π d (.lst (ds.set j a))))) := by
  unfold vSetT
  simp only [h1, Res.thenS, h2, h3, h4, h5, h6]
theorem setT_err {i : Nat} {mp : MP} {x : Sh} {ix me : ME} {e e0 : Env} {y : Xc} (h1 : me e = .err y e0) : vSetT i mp x ix me e = .err y e0 := by
  unfold vSetT
  simp only [h1, Res.thenS]
theorem appT_of {i : Nat} {mp : MP} {x s : Sh} {me : ME} {e e1 e2 : Env} {π : List Nat} {d a : D} {ds : List D} (h2 : mp e = .ok π e1) (h3 : e1[i]? = some (.tr s d)) (h4 : lstAt x π s d = some ds) (h5 : me (e1.set i .no) = .ok a e2) (h6 : ds.length < 1000000) : vAppT i mp x me e = .nx (e2.set i (.tr s (setP π d (.lst (ds ++ [a]))))) := by
  unfold vAppT
  simp only [h2, Res.thenS, h3, h4, h5, vmax_eq, h6, if_true]
theorem clrT_of {i : Nat} {mp : MP} {x s : Sh} {e e1 : Env} {π : List Nat} {d : D} {ds : List D} (h2 : mp e = .ok π e1) (h3 : e1[i]? = some (.tr s d)) (h4 : lstAt x π s d = some ds) : vClrT i mp x e = .nx (e1.set i (.tr s (setP π d (.lst [])))) := by
  unfold vClrT
  simp only [h2, Res.thenS, h3, h4]
theorem pS_of {i : Nat} {mp : MP} {ix : ME} {e e1 e2 : Env} {π : List Nat} {s : Sh} {d k : D} {j : Nat} (h2 : mp e = .ok π e1) (h3 : e1[i]? = some (.tr s d)) (h5 : ix (e1.set i .no) = .ok k e2) (h6 : pathIx π d k = some j) (h7 : (shP (π ++ [j]) s).isSome = true) : vPS i mp ix e = .ok (π ++ [j]) (e2.set i (.tr s d)) := by
  unfold vPS
  simp only [h2, Res.bind, h3, h5, h6, h7, if_true]
/-- the j-th part of a table told -/
theorem p_at {i : Nat} {e : Env} {a b : D} {j : Nat} (h : e[i]? = some (.tr shTB (.tup [a, b]))) (hj : j < 2) : vPS i (vP0 i) (vC (.int (j : Int))) e = .ok [j] e := by
  have hl : i < e.length := (List.getElem?_eq_some_iff.mp h).1
  have q := pS_of (i := i) (mp := vP0 i) (ix := vC (.int (j : Int))) (e := e) (e1 := e) (e2 := e.set i .no) (π := []) (s := shTB) (d := .tup [a, b]) (k := .int (j : Int)) (j := j) (by rw [e_P0, h]; rfl) h rfl (by
    show ixD 2 (j : Int) = some j
    unfold ixD
    rw [if_pos (by omega), if_pos (by omega)]
    simp) (by
    match j, hj with
    | 0, _ => rfl
    | 1, _ => rfl)
  rw [q]
  congr 1
  refine List.ext_getElem? fun l => ?_
  by_cases w : i = l
  · subst w
    rw [List.getElem?_set_self (by rw [List.length_set]; exact hl), h]
  · rw [List.getElem?_set_ne w, List.getElem?_set_ne w]
/-- each list of a told table changed, in turns -/
theorem forM_tup {n i j : Nat} {s : Sh} {b : MS} {rest : List D} {e0 : Env} (hij : i ≠ j) (hi : i < e0.length) (hj : j < e0.length) (hc : clrM n e0 = e0) (ei : e0[i]? = some .no) (ej : e0[j]? = some .no) (P : List D → Prop)
    (hb : ∀ es, P es → ∃ es', b ((e0.set j (.ow (.p n) es)).set i (.tk n)) = .nx ((e0.set j (.ow (.p n) es')).set i (.tk n))) :
    ∀ (m k : Nat) (ts : List D), m + k = ts.length → (∀ l, k ≤ l → l < ts.length → ∃ es, ts[l]? = some (.lst es) ∧ P es) → ∃ ts' : List D, ts'.length = ts.length ∧ forM n i j [0] s b m k (.tup (.lst ts :: rest)) e0 = .nx (e0.set i (.tr s (.tup (.lst ts' :: rest))))
  | 0, k, ts, _, _ => ⟨ts, rfl, rfl⟩
  | m + 1, k, ts, hk, ht => by
    obtain ⟨es, h1, h2⟩ := ht k (Nat.le_refl _) (by omega)
    obtain ⟨es', h3⟩ := hb es h2
    have g : getP ([0] ++ [k]) (.tup (.lst ts :: rest)) = some (.lst es) := by
      show (ts[k]?).bind (getP []) = _
      rw [h1]; rfl
    obtain ⟨ts', l1, q⟩ := forM_tup (s := s) (rest := rest) hij hi hj hc ei ej P hb m (k + 1) (ts.set k (.lst es')) (by rw [List.length_set]; omega) fun l g1 g2 => by
      rw [List.length_set] at g2
      obtain ⟨es2, g3, g4⟩ := ht l (by omega) g2
      exact ⟨es2, by rw [List.getElem?_set_ne (by omega)]; exact g3, g4⟩
    refine ⟨ts', by rw [l1, List.length_set], ?_⟩
    have a1 : ((e0.set j (.ow (.p n) es')).set i (.tk n))[i]? = some (.tk n) := List.getElem?_set_self (by rw [List.length_set]; exact hi)
    have a2 : ((e0.set j (.ow (.p n) es')).set i (.tk n))[j]? = some (.ow (.p n) es') := by rw [List.getElem?_set_ne hij]; exact List.getElem?_set_self hj
    have a3 : clrM n ((e0.set j (.ow (.p n) es')).set i (.tk n)) = e0 := by
      have b1 : clrM n ((e0.set j (.ow (.p n) es')).set i (.tk n)) = ((clrM n e0).set j .no).set i .no := by
        unfold clrM
        rw [List.map_set, List.map_set]
        show ((e0.map (clrMs n)).set j (if n = n then .no else .ow (.p n) es')).set i (if n = n then .no else .tk n) = _
        rw [if_pos rfl, if_pos rfl]
      rw [b1, hc]
      refine List.ext_getElem? fun l => ?_
      by_cases w : i = l
      · subst w
        rw [List.getElem?_set_self (by rw [List.length_set]; exact hi), ei]
      · rw [List.getElem?_set_ne w]
        by_cases w2 : j = l
        · subst w2
          rw [List.getElem?_set_self hj, ej]
        · rw [List.getElem?_set_ne w2]
    have a4 : setP ([0] ++ [k]) (.tup (.lst ts :: rest)) (.lst es') = .tup (.lst (ts.set k (.lst es')) :: rest) := by
      show D.tup (.lst ts :: rest |>.set 0 (match ts[k]? with
        | some y => .lst (ts.set k (.lst es'))
        | none => .lst ts)) = _
      rw [h1]; rfl
    unfold forM
    rw [g]
    simp only [h3, a1, a2, a3, a4, and_self, if_true]
    exact q
end VL

/-! NT: whole numbers, common divisors, fractions. -/
namespace VL
open PySem
theorem gcd_fmod (a b : Int) : Int.gcd b (a.fmod b) = Int.gcd a b := by
  have e : a.fmod b = a - b * a.fdiv b := Int.fmod_def a b
  apply Nat.dvd_antisymm
  · apply Int.dvd_gcd
    · have h1 := Int.gcd_dvd_left b (a.fmod b)
      have h2 := Int.gcd_dvd_right b (a.fmod b)
      have h3 : a = a.fmod b + b * a.fdiv b := by omega
      have h4 := Int.dvd_add h2 (Int.dvd_mul_of_dvd_left (c := a.fdiv b) h1)
      rw [← h3] at h4
      exact h4
    · exact Int.gcd_dvd_left b (a.fmod b)
  · apply Int.dvd_gcd
    · exact Int.gcd_dvd_right a b
    · rw [e]
      exact Int.dvd_sub (Int.gcd_dvd_left a b) (Int.dvd_mul_of_dvd_left (Int.gcd_dvd_right a b))
theorem fmod_pos (a : Int) {b : Int} (h : 0 < b) : 0 ≤ a.fmod b ∧ a.fmod b < b := ⟨Int.fmod_nonneg_of_pos a h, Int.fmod_lt_of_pos a h⟩
theorem fmod_neg (a : Int) {b : Int} (h : b < 0) : b < a.fmod b ∧ a.fmod b ≤ 0 := by
  have e := Int.neg_fmod_neg (-a) (-b)
  rw [Int.neg_neg, Int.neg_neg] at e
  have := fmod_pos (-a) (b := -b) (by omega)
  omega
theorem fmod_lt (a : Int) {b : Int} (h : b ≠ 0) : (a.fmod b).natAbs < b.natAbs := by
  rcases Int.lt_or_gt_of_ne h with h | h
  · have := fmod_neg a h
    omega
  · have := fmod_pos a h
    omega
theorem fdiv_fmod (a b : Int) : b * a.fdiv b + a.fmod b = a := by
  have := Int.fmod_def a b
  omega
theorem while_gcd (c : MB) (b : MS) (E : Int → Int → Env) (hc : ∀ x y, c (E x y) = .ok (decide (y ≠ 0)) (E x y)) (hb : ∀ x y, y ≠ 0 → b (E x y) = .nx (E y (x.fmod y))) :
    ∀ (n : Nat) (x y : Int), y.natAbs < n → ∃ g, vWhile c b (E x y) = .nx (E g 0) ∧ g.natAbs = Int.gcd x y ∧ (0 ≤ x → 0 ≤ y → 0 ≤ g)
  | 0, x, y, h => by omega
  | n + 1, x, y, h => by
    by_cases hy : y = 0
    · subst hy
      refine ⟨x, ?_, by simp, fun h _ => h⟩
      rw [vWhile_eq, hc]
      simp [Res.thenS]
    · obtain ⟨g, h1, h2, h3⟩ := while_gcd c b E hc hb n y (x.fmod y) (by have := fmod_lt x hy; omega)
      refine ⟨g, ?_, by rw [h2, gcd_fmod], fun hx hy0 => h3 hy0 (fmod_pos x (by omega)).1⟩
      rw [vWhile_eq, hc]
      simp only [Res.thenS, hy, ne_eq, not_false_eq_true, decide_true, if_true, hb x y hy]
      exact h1
/-- in lowest terms -/
def Red (p q : Int) : Prop := 0 < q ∧ Int.gcd p q = 1
theorem dvd_of_cop {a b c : Int} (h : a ∣ b * c) (g : Int.gcd a b = 1) : a ∣ c := by
  have h' := Int.natAbs_dvd_natAbs.mpr h
  rw [Int.natAbs_mul] at h'
  exact Int.natAbs_dvd_natAbs.mp (Nat.Coprime.dvd_of_dvd_mul_left g h')
theorem Red.eq {p q p' q' : Int} (h : Red p q) (h' : Red p' q') (e : p * q' = p' * q) : p = p' ∧ q = q' := by
  have d1 : q ∣ q' := dvd_of_cop (b := p) ⟨p', by rw [e, Int.mul_comm]⟩ (by rw [Int.gcd_comm]; exact h.2)
  have d2 : q' ∣ q := dvd_of_cop (b := p') ⟨p, by rw [← e, Int.mul_comm]⟩ (by rw [Int.gcd_comm]; exact h'.2)
  have eq : q = q' := Int.le_antisymm (Int.le_of_dvd h'.1 d1) (Int.le_of_dvd h.1 d2)
  subst eq
  exact ⟨Int.eq_of_mul_eq_mul_right (by have := h.1; omega) e, rfl⟩
/-- brought to lowest terms -/
theorem red_of {a b s : Int} (hb : b ≠ 0) (hs : s.natAbs = Int.gcd a b) (hp : 0 ≤ s * b) : a = a.fdiv s * s ∧ b = b.fdiv s * s ∧ Red (a.fdiv s) (b.fdiv s) ∧ s ≠ 0 := by
  have g0 : 0 < Int.gcd a b := Int.gcd_pos_of_ne_zero_right a hb
  have s0 : s ≠ 0 := by omega
  have da : s ∣ a := by
    have := Int.gcd_dvd_left a b
    rw [← hs] at this
    exact Int.natAbs_dvd.mp this
  have db : s ∣ b := by
    have := Int.gcd_dvd_right a b
    rw [← hs] at this
    exact Int.natAbs_dvd.mp this
  have ea := (Int.fdiv_mul_cancel da).symm
  have eb := (Int.fdiv_mul_cancel db).symm
  refine ⟨ea, eb, ⟨?_, ?_⟩, s0⟩
  · generalize b.fdiv s = q at *
    subst eb
    have e : s * (q * s) = q * (s * s) := by rw [Int.mul_left_comm]
    rw [e] at hp
    have ss : 0 < s * s := by
      rcases Int.lt_or_gt_of_ne s0 with h | h
      · exact Int.mul_pos_of_neg_of_neg h h
      · exact Int.mul_pos h h
    have q0 : q ≠ 0 := by rintro rfl; simp at hb
    rcases Int.lt_or_gt_of_ne q0 with h | h
    · have := Int.mul_neg_of_neg_of_pos h ss
      omega
    · exact h
  · have e := Int.gcd_mul_right (a.fdiv s) s (b.fdiv s)
    rw [← ea, ← eb, hs] at e
    exact Nat.eq_of_mul_eq_mul_right g0 (by omega)
theorem Red.le {p q a b : Int} (h : Red p q) (hb : b ≠ 0) (e : p * b = a * q) : q.natAbs ≤ b.natAbs := by
  have d : q ∣ b := dvd_of_cop (b := p) ⟨a, by rw [e, Int.mul_comm]⟩ (by rw [Int.gcd_comm]; exact h.2)
  exact Nat.le_of_dvd (by omega) (Int.natAbs_dvd_natAbs.mpr d)
theorem Red.lep {p q a b : Int} (h : Red p q) (hb : b ≠ 0) (e : p * b = a * q) : p.natAbs ≤ a.natAbs := by
  by_cases z : a = 0
  · subst z
    rw [Int.zero_mul] at e
    rcases Int.mul_eq_zero.mp e with e | e
    · subst e; simp
    · exact absurd e hb
  · have d : p ∣ a := dvd_of_cop (b := q) ⟨b, by rw [e, Int.mul_comm]⟩ h.2
    exact Nat.le_of_dvd (by omega) (Int.natAbs_dvd_natAbs.mpr d)
/-- a fraction's parts in lowest terms -/
def rn (a b : Int) : Int := a / (Int.gcd a b : Int)
def rd (a b : Int) : Int := b / (Int.gcd a b : Int)
theorem can_red {a b : Int} (hb : 0 < b) : Red (rn a b) (rd a b) ∧ rn a b * b = a * rd a b := by
  have g0 : 0 < Int.gcd a b := Int.gcd_pos_of_ne_zero_right a (by omega)
  obtain ⟨e1, e2, r, s0⟩ := red_of (a := a) (b := b) (s := (Int.gcd a b : Int)) (by omega) (by omega) (Int.mul_nonneg (by omega) (by omega))
  rw [Int.fdiv_eq_ediv_of_nonneg _ (by omega), Int.fdiv_eq_ediv_of_nonneg _ (by omega)] at r
  rw [Int.fdiv_eq_ediv_of_nonneg _ (by omega)] at e1 e2
  refine ⟨r, ?_⟩
  unfold rn rd
  generalize a / (Int.gcd a b : Int) = p at *
  generalize b / (Int.gcd a b : Int) = q at *
  generalize (Int.gcd a b : Int) = s at *
  rw [e1, e2]
  grind
theorem can_of {a b p q : Int} (hb : 0 < b) (r : Red p q) (c : p * b = a * q) : p = rn a b ∧ q = rd a b := by
  obtain ⟨r', c'⟩ := can_red (a := a) hb
  refine r.eq r' (Int.eq_of_mul_eq_mul_right (a := b) (by omega) ?_)
  generalize rn a b = x at *
  generalize rd a b = y at *
  grind
theorem can_cross {a b a' b' : Int} (hb : 0 < b) (hb' : 0 < b') (e : a * b' = a' * b) : rn a b = rn a' b' ∧ rd a b = rd a' b' := by
  obtain ⟨r, c⟩ := can_red (a := a) hb
  refine can_of hb' r (Int.eq_of_mul_eq_mul_right (a := b) (by omega) ?_)
  generalize rn a b = x at *
  generalize rd a b = y at *
  grind
theorem can_self {p q : Int} (r : Red p q) : rn p q = p ∧ rd p q = q := by
  obtain ⟨h1, h2⟩ := can_of (a := p) r.1 r rfl
  exact ⟨h1.symm, h2.symm⟩
theorem rn_le {a b : Int} (hb : 0 < b) : (rn a b).natAbs ≤ a.natAbs := (can_red (a := a) hb).1.lep (by omega) (can_red hb).2
theorem rd_le {a b : Int} (hb : 0 < b) : (rd a b).natAbs ≤ b.natAbs := (can_red (a := a) hb).1.le (by omega) (can_red hb).2
theorem rd_pos {a b : Int} (hb : 0 < b) : 0 < rd a b := (can_red (a := a) hb).1.1
theorem ediv_cross {u v V B : Int} (h : 0 < v) (h1 : 0 < B) (e : u * B = V * v) : u / v = V / B := by
  rw [← Int.mul_ediv_mul_of_pos u v h1, Int.mul_comm B u, e, Int.mul_comm V v, Int.mul_comm B v, Int.mul_ediv_mul_of_pos V B h]
theorem rn_div {a b : Int} (hb : 0 < b) : rn a b / rd a b = a / b := ediv_cross (rd_pos hb) hb (can_red hb).2
end VL

set_option exponentiation.threshold 3000
namespace VL
open PySem
/-! what the fractions' defs tell -/
@[simp] theorem whole_int (i : Int) : fn_is_whole [.int i] = .ok (.bl true) := by
  simp [fn_is_whole, b_is_whole]
theorem shared_ok (a b : Int) : fn_shared_by [.int a, .int b] = .ok (.int (Int.gcd a b)) := by
  obtain ⟨g, h1, h2, _⟩ := while_gcd c_shared_by_1 b_shared_by_1 (fun x y => [.sh (.int x), .sh (.int y)]) (fun x y => by simp [c_shared_by_1]) (fun x y h => by simp [b_shared_by_1, o_mod h]) _ a b (Nat.lt_succ_self _)
  have e : vWhile c_shared_by_1 b_shared_by_1 [.sh (.int a), .sh (.int b)] = .nx [.sh (.int g), .sh (.int 0)] := h1
  simp [fn_shared_by, b_shared_by, e]
  omega
/-- small enough to be divided by -/
abbrev Sm (b : Int) : Prop := Bd 8000 b
theorem Sm.of {b : Int} (h1 : -(2 ^ 64) < b) (h2 : b < 2 ^ 64) : Sm b := by
  have q : Bd 64 b := by unfold Bd; omega
  exact q.mono (by decide)
theorem fraction_ok (a b : Int) (hb : b ≠ 0) (hs : Sm b) : ∃ p q, fn_fraction [.int a, .int b] = .ok (.tup [.int p, .int q]) ∧ Red p q ∧ p * b = a * q := by
  have g1 : (Int.gcd a b : Int) ≠ 0 := by have := Int.gcd_pos_of_ne_zero_right a hb; omega
  have gs : (Int.gcd a b) ≤ b.natAbs := Nat.le_of_dvd (by omega) (Int.natAbs_dvd_natAbs.mpr (Int.gcd_dvd_right a b))
  by_cases h : b < 0
  · obtain ⟨e1, e2, r, s0⟩ := red_of (a := a) (b := b) (s := -(Int.gcd a b : Int)) hb (by omega) (by rw [Int.neg_mul, ← Int.mul_neg]; exact Int.mul_nonneg (by omega) (by omega))
    have d : divOk (-(Int.gcd a b : Int)) = true := Bd.divOk (hs.le (by omega)) s0
    refine ⟨_, _, ?_, r, ?_⟩
    · simp [fn_fraction, b_fraction, hb, shared_ok, h, o_fdiv d]
    · generalize a.fdiv (-(Int.gcd a b : Int)) = p at *
      generalize b.fdiv (-(Int.gcd a b : Int)) = q at *
      generalize (-(Int.gcd a b : Int)) = s at *
      rw [e1, e2]
      grind
  · obtain ⟨e1, e2, r, s0⟩ := red_of (a := a) (b := b) (s := (Int.gcd a b : Int)) hb (by omega) (Int.mul_nonneg (by omega) (by omega))
    have d : divOk (Int.gcd a b : Int) = true := Bd.divOk (hs.le (by omega)) s0
    refine ⟨_, _, ?_, r, ?_⟩
    · simp [fn_fraction, b_fraction, hb, shared_ok, h, o_fdiv d]
    · generalize a.fdiv (Int.gcd a b : Int) = p at *
      generalize b.fdiv (Int.gcd a b : Int) = q at *
      generalize (Int.gcd a b : Int) = s at *
      rw [e1, e2]
      grind

/-- a fraction in lowest terms, its parts small -/
structure Fr (n : Nat) (p q : Int) : Prop where
  r : Red p q
  bp : Bd n p
  bq : Bd n q
theorem sum_ok {n : Nat} {p q r s : Int} (h1 : Fr n p q) (h2 : Fr n r s) (hn : n ≤ 3000) : ∃ u v, fn_sum_of [.tup [.int p, .int q], .tup [.int r, .int s]] = .ok (.tup [.int u, .int v]) ∧ Red u v ∧ u * (q * s) = (p * s + r * q) * v := by
  have q0 := h1.r.1
  have s0 := h2.r.1
  have qs : 0 < q * s := Int.mul_pos q0 s0
  obtain ⟨u, v, e, r, c⟩ := fraction_ok (p * s + r * q) (q * s) (by omega) ((h1.bq.mul h2.bq).mono (by omega))
  refine ⟨u, v, ?_, r, c⟩
  simp [fn_sum_of, b_sum_of, o_mul ((h1.bp.mono (show n ≤ 400000 by omega)).mulOk (h2.bq.mono (show n ≤ 400000 by omega))), o_mul ((h2.bp.mono (show n ≤ 400000 by omega)).mulOk (h1.bq.mono (show n ≤ 400000 by omega))),
    o_mul ((h1.bq.mono (show n ≤ 400000 by omega)).mulOk (h2.bq.mono (show n ≤ 400000 by omega))), e]

theorem fr_mono {n m : Nat} {a b : Int} (f : Fr n a b) (h : n ≤ m) : Fr m a b := ⟨f.r, f.bp.mono h, f.bq.mono h⟩

theorem times_ok {n : Nat} {p q r s : Int} (h1 : Fr n p q) (h2 : Fr n r s) (hn : n ≤ 3000) : ∃ u v, fn_times_of [.tup [.int p, .int q], .tup [.int r, .int s]] = .ok (.tup [.int u, .int v]) ∧ Red u v ∧ u * (q * s) = (p * r) * v := by
  have q0 := h1.r.1
  have s0 := h2.r.1
  have qs : 0 < q * s := Int.mul_pos q0 s0
  obtain ⟨u, v, e, r, c⟩ := fraction_ok (p * r) (q * s) (by omega) ((h1.bq.mul h2.bq).mono (by omega))
  refine ⟨u, v, ?_, r, c⟩
  simp [fn_times_of, b_times_of, o_mul ((h1.bp.mono (show n ≤ 400000 by omega)).mulOk (h2.bp.mono (show n ≤ 400000 by omega))),
    o_mul ((h1.bq.mono (show n ≤ 400000 by omega)).mulOk (h2.bq.mono (show n ≤ 400000 by omega))), e]

theorem floor_ok {p q : Int} (h : 0 < q) (hb : Bd 8000 q) : fn_floor_of [.tup [.int p, .int q]] = .ok (.int (p / q)) := by
  simp [fn_floor_of, b_floor_of, o_div h (hb.divOk (by omega))]

theorem fraction_can {a b : Int} (hb : 0 < b) (hs : Sm b) : fn_fraction [.int a, .int b] = .ok (.tup [.int (rn a b), .int (rd a b)]) := by
  obtain ⟨p, q, e, r, c⟩ := fraction_ok a b (by omega) hs
  obtain ⟨h1, h2⟩ := can_of hb r c
  rw [e, h1, h2]

theorem place_can {n : Nat} {a b c d k : Int} {D0 D1 D4 : D} (f1 : Fr n a b) (f2 : Fr n c d) (hk : Bd n k) (hn : n ≤ 1000) : fn_place_at [.tup [D0, D1, .tup [.int a, .int b], .tup [.int c, .int d], D4], .int k] = .ok (.tup [.int (rn (a * d + k * c * b) (b * d)), .int (rd (a * d + k * c * b) (b * d))]) := by
  have b0 := f1.r.1
  have d0 := f2.r.1
  have n0 : 0 < n := by
    rcases Nat.eq_zero_or_pos n with h | h
    · subst h
      have := f1.bq
      unfold Bd at this
      omega
    · exact h
  obtain ⟨t, w, e1, r1, c1⟩ := times_ok f2 (r := k) (s := 1) ⟨⟨by decide, by simp⟩, hk, by unfold Bd; exact Nat.one_lt_two_pow (by omega)⟩ (by omega)
  rw [Int.mul_one] at c1
  have w0 := r1.1
  have ft : Fr (n + n) t w := ⟨r1, (f2.bp.mul hk).le (r1.lep (by omega) c1), (f2.bq.mono (by omega)).le (r1.le (by omega) c1)⟩
  have fa : Fr (n + n) a b := ⟨f1.r, f1.bp.mono (by omega), f1.bq.mono (by omega)⟩
  obtain ⟨u, v, e2, r2, c2⟩ := sum_ok fa ft (by omega)
  have bw : 0 < b * w := Int.mul_pos b0 w0
  have bd : 0 < b * d := Int.mul_pos b0 d0
  obtain ⟨h1, h2⟩ := can_of (a := a * d + k * c * b) bd r2 (by
    apply Int.eq_of_mul_eq_mul_right (a := w) (by omega)
    grind)
  rw [← h1, ← h2]
  simp [fn_place_at, b_place_at, e1, e2]
theorem place_fr {n : Nat} {a b c d k : Int} (f1 : Fr n a b) (f2 : Fr n c d) (hk : Bd n k) : Fr (n + n + n + 1) (rn (a * d + k * c * b) (b * d)) (rd (a * d + k * c * b) (b * d)) := by
  have bd : 0 < b * d := Int.mul_pos f1.r.1 f2.r.1
  refine ⟨(can_red bd).1, Bd.le ?_ (rn_le bd), (((f1.bq.mul f2.bq).mono (show _ ≤ n + n + n + 1 by omega))).le (rd_le bd)⟩
  exact ((f1.bp.mul f2.bq).mono (show _ ≤ n + n + n by omega)).add ((hk.mul f2.bp).mul f1.bq)
theorem picture_can {n : Nat} {a b c d k : Int} {D0 D1 D4 : D} (f1 : Fr n a b) (f2 : Fr n c d) (hk : Bd n k) (hn : n ≤ 1000) : fn_picture_at [.tup [D0, D1, .tup [.int a, .int b], .tup [.int c, .int d], D4], .int k] = .ok (.int ((a * d + k * c * b) / (b * d))) := by
  have bd : 0 < b * d := Int.mul_pos f1.r.1 f2.r.1
  have f := place_fr f1 f2 hk
  rw [← rn_div bd]
  simp [fn_picture_at, b_picture_at, place_can f1 f2 hk hn, floor_ok f.r.1 (f.bq.mono (by omega))]

/-! items of tracks -/
theorem wClip : strS "clip" = true := by decide +kernel
theorem wMix : strS "mix" = true := by decide +kernel
theorem wGap : strS "gap" = true := by decide +kernel
theorem wNest : strS "nest" = true := by decide +kernel
theorem w_ne : ("clip" : Str) ≠ "mix" ∧ ("clip" : Str) ≠ "gap" ∧ ("clip" : Str) ≠ "nest" ∧ ("mix" : Str) ≠ "clip" ∧ ("mix" : Str) ≠ "gap" ∧ ("mix" : Str) ≠ "nest" ∧ ("gap" : Str) ≠ "clip" ∧ ("gap" : Str) ≠ "mix" ∧ ("gap" : Str) ≠ "nest" ∧ ("nest" : Str) ≠ "clip" ∧ ("nest" : Str) ≠ "mix" ∧ ("nest" : Str) ≠ "gap" := by decide +kernel
theorem s_eq {x y : Str} (h : strS x = true) (h2 : strS y = true) : opEq (.str x) (.str y) = some (.bl (decide (x = y))) := by rw [o_eq (by simp [h]) (by simp [h2]), deq_str]
theorem s_ne {x y : Str} (h : strS x = true) (h2 : strS y = true) : opNe (.str x) (.str y) = some (.bl (!decide (x = y))) := by rw [o_ne (by simp [h]) (by simp [h2]), deq_str]
@[simp] theorem q_cc : opEq (.str "clip") (.str "clip") = some (.bl true) := by rw [s_eq wClip wClip, decide_eq_true rfl]
@[simp] theorem q_cm : opEq (.str "clip") (.str "mix") = some (.bl false) := by rw [s_eq wClip wMix, decide_eq_false w_ne.1]
@[simp] theorem q_cg : opEq (.str "clip") (.str "gap") = some (.bl false) := by rw [s_eq wClip wGap, decide_eq_false w_ne.2.1]
@[simp] theorem q_cn : opEq (.str "clip") (.str "nest") = some (.bl false) := by rw [s_eq wClip wNest, decide_eq_false w_ne.2.2.1]
@[simp] theorem q_mc : opEq (.str "mix") (.str "clip") = some (.bl false) := by rw [s_eq wMix wClip, decide_eq_false w_ne.2.2.2.1]
@[simp] theorem q_mm : opEq (.str "mix") (.str "mix") = some (.bl true) := by rw [s_eq wMix wMix, decide_eq_true rfl]
@[simp] theorem q_mg : opEq (.str "mix") (.str "gap") = some (.bl false) := by rw [s_eq wMix wGap, decide_eq_false w_ne.2.2.2.2.1]
@[simp] theorem q_mn : opEq (.str "mix") (.str "nest") = some (.bl false) := by rw [s_eq wMix wNest, decide_eq_false w_ne.2.2.2.2.2.1]
@[simp] theorem q_gc : opEq (.str "gap") (.str "clip") = some (.bl false) := by rw [s_eq wGap wClip, decide_eq_false w_ne.2.2.2.2.2.2.1]
@[simp] theorem q_gm : opEq (.str "gap") (.str "mix") = some (.bl false) := by rw [s_eq wGap wMix, decide_eq_false w_ne.2.2.2.2.2.2.2.1]
@[simp] theorem q_gg : opEq (.str "gap") (.str "gap") = some (.bl true) := by rw [s_eq wGap wGap, decide_eq_true rfl]
@[simp] theorem q_gn : opEq (.str "gap") (.str "nest") = some (.bl false) := by rw [s_eq wGap wNest, decide_eq_false w_ne.2.2.2.2.2.2.2.2.1]
@[simp] theorem q_nc : opEq (.str "nest") (.str "clip") = some (.bl false) := by rw [s_eq wNest wClip, decide_eq_false w_ne.2.2.2.2.2.2.2.2.2.1]
@[simp] theorem q_nm : opEq (.str "nest") (.str "mix") = some (.bl false) := by rw [s_eq wNest wMix, decide_eq_false w_ne.2.2.2.2.2.2.2.2.2.2.1]
@[simp] theorem q_ng : opEq (.str "nest") (.str "gap") = some (.bl false) := by rw [s_eq wNest wGap, decide_eq_false w_ne.2.2.2.2.2.2.2.2.2.2.2]
@[simp] theorem q_nn : opEq (.str "nest") (.str "nest") = some (.bl true) := by rw [s_eq wNest wNest, decide_eq_true rfl]
@[simp] theorem r_cc : opNe (.str "clip") (.str "clip") = some (.bl false) := by rw [s_ne wClip wClip, decide_eq_true rfl]; rfl
@[simp] theorem r_cm : opNe (.str "clip") (.str "mix") = some (.bl true) := by rw [s_ne wClip wMix, decide_eq_false w_ne.1]; rfl
@[simp] theorem r_cg : opNe (.str "clip") (.str "gap") = some (.bl true) := by rw [s_ne wClip wGap, decide_eq_false w_ne.2.1]; rfl
@[simp] theorem r_cn : opNe (.str "clip") (.str "nest") = some (.bl true) := by rw [s_ne wClip wNest, decide_eq_false w_ne.2.2.1]; rfl
@[simp] theorem r_mc : opNe (.str "mix") (.str "clip") = some (.bl true) := by rw [s_ne wMix wClip, decide_eq_false w_ne.2.2.2.1]; rfl
@[simp] theorem r_mm : opNe (.str "mix") (.str "mix") = some (.bl false) := by rw [s_ne wMix wMix, decide_eq_true rfl]; rfl
@[simp] theorem r_mg : opNe (.str "mix") (.str "gap") = some (.bl true) := by rw [s_ne wMix wGap, decide_eq_false w_ne.2.2.2.2.1]; rfl
@[simp] theorem r_mn : opNe (.str "mix") (.str "nest") = some (.bl true) := by rw [s_ne wMix wNest, decide_eq_false w_ne.2.2.2.2.2.1]; rfl
@[simp] theorem r_gc : opNe (.str "gap") (.str "clip") = some (.bl true) := by rw [s_ne wGap wClip, decide_eq_false w_ne.2.2.2.2.2.2.1]; rfl
@[simp] theorem r_gm : opNe (.str "gap") (.str "mix") = some (.bl true) := by rw [s_ne wGap wMix, decide_eq_false w_ne.2.2.2.2.2.2.2.1]; rfl
@[simp] theorem r_gg : opNe (.str "gap") (.str "gap") = some (.bl false) := by rw [s_ne wGap wGap, decide_eq_true rfl]; rfl
@[simp] theorem r_gn : opNe (.str "gap") (.str "nest") = some (.bl true) := by rw [s_ne wGap wNest, decide_eq_false w_ne.2.2.2.2.2.2.2.2.1]; rfl
@[simp] theorem r_nc : opNe (.str "nest") (.str "clip") = some (.bl true) := by rw [s_ne wNest wClip, decide_eq_false w_ne.2.2.2.2.2.2.2.2.2.1]; rfl
@[simp] theorem r_nm : opNe (.str "nest") (.str "mix") = some (.bl true) := by rw [s_ne wNest wMix, decide_eq_false w_ne.2.2.2.2.2.2.2.2.2.2.1]; rfl
@[simp] theorem r_ng : opNe (.str "nest") (.str "gap") = some (.bl true) := by rw [s_ne wNest wGap, decide_eq_false w_ne.2.2.2.2.2.2.2.2.2.2.2]; rfl
@[simp] theorem r_nn : opNe (.str "nest") (.str "nest") = some (.bl false) := by rw [s_ne wNest wNest, decide_eq_true rfl]; rfl
@[simp] theorem am2 {x y} : atD [x, y] (-1) = some y := at_last (xs := [x])
@[simp] theorem am4 {x y z u} : atD [x, y, z, u] (-1) = some u := at_last (xs := [x, y, z])
@[simp] theorem am5 {x y z u v} : atD [x, y, z, u, v] (-1) = some v := at_last (xs := [x, y, z, u])
inductive Itm where
  | gap (n : Int) | mix (n : Int) | nest (z : Str) (s n : Int) | clip (z : Str) (a b c d n : Int)
deriving DecidableEq
def clipD (z : Str) (a b c d n : Int) : D := .tup [.str "clip", .str z, .tup [.int a, .int b], .tup [.int c, .int d], .int n]
def Itm.d : Itm → D
  | .gap n => .tup [.str "gap", .int n]
  | .mix n => .tup [.str "mix", .int n]
  | .nest z s n => .tup [.str "nest", .str z, .int s, .int n]
  | .clip z a b c d n => clipD z a b c d n
theorem dG {n} : (Itm.gap n).d = .tup [.str "gap", .int n] := (rfl)
theorem dM {n} : (Itm.mix n).d = .tup [.str "mix", .int n] := (rfl)
theorem dN {z s n} : (Itm.nest z s n).d = .tup [.str "nest", .str z, .int s, .int n] := (rfl)
theorem dC {z a b c d n} : (Itm.clip z a b c d n).d = .tup [.str "clip", .str z, .tup [.int a, .int b], .tup [.int c, .int d], .int n] := (rfl)
def Itm.n : Itm → Int
  | .gap n => n
  | .mix n => n
  | .nest _ _ n => n
  | .clip _ _ _ _ _ n => n
def Itm.room : Itm → Int
  | .gap n => n
  | .mix _ => 0
  | .nest _ _ n => n
  | .clip _ _ _ _ _ n => n
def Itm.isMix : Itm → Bool
  | .mix _ => true
  | _ => false
def Itm.isGap : Itm → Bool
  | .gap _ => true
  | _ => false
def Itm.isClip : Itm → Bool
  | .clip _ _ _ _ _ _ => true
  | _ => false
/-- good by itself, numbers of m bits -/
def Itm.Ok (m : Nat) : Itm → Prop
  | .gap n => 1 ≤ n
  | .mix n => 1 ≤ n
  | .nest z _ n => strS z = true ∧ 1 ≤ n
  | .clip z a b c d n => strS z = true ∧ Fr m a b ∧ Fr m c d ∧ 1 ≤ n ∧ Bd m n
abbrev TD (ts : List Itm) : D := .lst (ts.map Itm.d)
theorem Itm.Ok.n1 {m : Nat} : ∀ {t : Itm}, t.Ok m → 1 ≤ t.n
  | .gap _, h => h
  | .mix _, h => h
  | .nest _ _ _, h => h.2
  | .clip _ _ _ _ _ _, h => h.2.2.2.1
theorem Itm.Ok.room {m : Nat} {t : Itm} (h : t.Ok m) : 0 ≤ t.room := by
  have := h.n1
  cases t with
  | mix n => exact Int.le_refl 0
  | gap n => exact Int.le_trans (by decide) this
  | nest z s n => exact Int.le_trans (by decide) this
  | clip z a b c d n => exact Int.le_trans (by decide) this
theorem Itm.Ok.e {m : Nat} : ∀ {t : Itm}, t.Ok m → D.eqok 19 t.d = true
  | .gap _, h => by simp [Itm.d, wGap]
  | .mix _, h => by simp [Itm.d, wMix]
  | .nest _ _ _, h => by simp [Itm.d, wNest, h.1]
  | .clip _ _ _ _ _ _, h => by simp [Itm.d, clipD, wClip, h.1]
theorem Itm.flat (t : Itm) : D.flat t.d = true := by cases t <;> simp [Itm.d, clipD]
theorem Itm.last (t : Itm) : opIx t.d (.int (-1)) = some (.int t.n) := by cases t <;> simp [Itm.d, clipD, Itm.n]
theorem fl_all : ∀ {ds : List D}, (∀ d ∈ ds, D.flat d = true) → D.flats ds = true
  | [], _ => by simp
  | d :: ds, h => by rw [flats_cons, h d List.mem_cons_self, fl_all fun d hd => h d (List.mem_cons_of_mem _ hd)]; rfl
theorem Itm.flats (ts : List Itm) : D.flats (ts.map Itm.d) = true := fl_all fun d hd => by
  obtain ⟨t, _, rfl⟩ := List.mem_map.mp hd
  exact t.flat
theorem Itm.eqs {m : Nat} {ts : List Itm} (h : ∀ t ∈ ts, t.Ok m) : D.eqok 20 (TD ts) = true := by
  rw [eqok_lst]
  refine eqoks_all fun d hd => ?_
  obtain ⟨t, ht, rfl⟩ := List.mem_map.mp hd
  exact (h t ht).e
/-- a fraction brought to lowest terms -/
def shD (a b : Int) : D := .tup [.int (rn a b), .int (rd a b)]

theorem Itm.room_ok (t : Itm) : fn_room_of [t.d] = .ok (.int t.room) := by
  cases t <;> simp [fn_room_of, b_room_of, Itm.d, clipD, Itm.room]

/-! spans of mixes -/
def spans : Int → List Itm → List (Int × Int × Int)
  | _, [] => []
  | b, .mix n :: ts => (b - n / 2, b, b + n - n / 2) :: spans b ts
  | b, .gap n :: ts => spans (b + n) ts
  | b, .nest _ _ n :: ts => spans (b + n) ts
  | b, .clip _ _ _ _ _ n :: ts => spans (b + n) ts
def spanD (p : Int × Int × Int) : D := .tup [.int p.1, .int p.2.1, .int p.2.2]
theorem spans_len : ∀ (b : Int) (ts : List Itm), (spans b ts).length ≤ ts.length
  | _, [] => by simp [spans]
  | b, .mix n :: ts => by have := spans_len b ts; simp [spans]; omega
  | b, .gap n :: ts => by have := spans_len (b + n) ts; simp [spans]; omega
  | b, .nest _ _ n :: ts => by have := spans_len (b + n) ts; simp [spans]; omega
  | b, .clip _ _ _ _ _ n :: ts => by have := spans_len (b + n) ts; simp [spans]; omega
theorem spans_loop {v0 : Sl} : ∀ (ts : List Itm) (S : List D) (b : Int) (v3 : Sl), S.length + ts.length ≤ 900000 →
    ∃ b' v3', forL (gNam 3) b_mix_spans_1 (ts.map Itm.d) [v0, .ow .l S, .sh (.int b), v3] = .nx [v0, .ow .l (S ++ (spans b ts).map spanD), .sh (.int b'), v3']
  | [], S, b, v3, _ => ⟨b, v3, by simp [forL, spans]⟩
  | t :: ts, S, b, v3, hl => by
    have l1 : S.length < 1000000 := by simp at hl; omega
    have d2 : divOk 2 = true := by decide +kernel
    rw [List.map_cons]
    cases t with
    | mix n =>
      have run : turn (gNam 3) b_mix_spans_1 (Itm.mix n).d [v0, .ow .l S, .sh (.int b), v3] = .nx [v0, .ow .l (S ++ [spanD (b - n / 2, b, b + n - n / 2)]), .sh (.int b), .sh (Itm.mix n).d] := by
        have rm := (Itm.mix n).room_ok
        rw [turn_nam' (by simp)]
        simp only [Itm.d, Itm.room] at rm ⊢
        simp [b_mix_spans_1, o_div, d2, l1, rm, spanD]
      obtain ⟨b', v', e⟩ := spans_loop (v0 := v0) ts (S ++ [spanD (b - n / 2, b, b + n - n / 2)]) b (.sh (Itm.mix n).d) (by simp at hl ⊢; omega)
      exact ⟨b', v', by rw [forL_nx run, e]; simp [spans]⟩
    | gap n =>
      have run : turn (gNam 3) b_mix_spans_1 (Itm.gap n).d [v0, .ow .l S, .sh (.int b), v3] = .nx [v0, .ow .l S, .sh (.int (b + n)), .sh (Itm.gap n).d] := by
        have rm := (Itm.gap n).room_ok
        rw [turn_nam' (by simp)]
        simp only [Itm.d, Itm.room] at rm ⊢
        simp [b_mix_spans_1, rm]
      obtain ⟨b', v', e⟩ := spans_loop (v0 := v0) ts S (b + n) (.sh (Itm.gap n).d) (by simp at hl ⊢; omega)
      exact ⟨b', v', by rw [forL_nx run, e]; simp [spans]⟩
    | nest z s n =>
      have run : turn (gNam 3) b_mix_spans_1 (Itm.nest z s n).d [v0, .ow .l S, .sh (.int b), v3] = .nx [v0, .ow .l S, .sh (.int (b + n)), .sh (Itm.nest z s n).d] := by
        have rm := (Itm.nest z s n).room_ok
        rw [turn_nam' (by simp)]
        simp only [Itm.d, Itm.room] at rm ⊢
        simp [b_mix_spans_1, rm]
      obtain ⟨b', v', e⟩ := spans_loop (v0 := v0) ts S (b + n) (.sh (Itm.nest z s n).d) (by simp at hl ⊢; omega)
      exact ⟨b', v', by rw [forL_nx run, e]; simp [spans]⟩
    | clip z p q r s n =>
      have run : turn (gNam 3) b_mix_spans_1 (Itm.clip z p q r s n).d [v0, .ow .l S, .sh (.int b), v3] = .nx [v0, .ow .l S, .sh (.int (b + n)), .sh (Itm.clip z p q r s n).d] := by
        have rm := (Itm.clip z p q r s n).room_ok
        rw [turn_nam' (by simp)]
        simp only [Itm.d, Itm.room, clipD] at rm ⊢
        simp [b_mix_spans_1, rm]
      obtain ⟨b', v', e⟩ := spans_loop (v0 := v0) ts S (b + n) (.sh (Itm.clip z p q r s n).d) (by simp at hl ⊢; omega)
      exact ⟨b', v', by rw [forL_nx run, e]; simp [spans]⟩
theorem spans_ok {ts : List Itm} (hl : ts.length ≤ 900000) : fn_mix_spans [TD ts] = .ok (.lst ((spans 0 ts).map spanD)) := by
  obtain ⟨b', v', e⟩ := spans_loop (v0 := .sh (TD ts)) ts [] 0 .no (by simpa using hl)
  simp at e
  simp [fn_mix_spans, b_mix_spans, e]

/-- the begin of a place -/
def bg : Nat → List Itm → Int
  | 0, _ => 0
  | _ + 1, [] => 0
  | p + 1, t :: ts => t.room + bg p ts
theorem bg_nn {m : Nat} : ∀ (p : Nat) (ts : List Itm), (∀ t ∈ ts, t.Ok m) → 0 ≤ bg p ts
  | 0, _, _ => by simp [bg]
  | _ + 1, [], _ => by simp [bg]
  | p + 1, t :: ts, h => by
    have := bg_nn p ts fun t ht => h t (List.mem_cons_of_mem _ ht)
    have := (h t List.mem_cons_self).room
    rw [bg]
    omega
theorem bg_succ : ∀ {p : Nat} {ts : List Itm} {t : Itm}, ts[p]? = some t → bg (p + 1) ts = bg p ts + t.room
  | 0, t :: ts, _, h => by cases h; simp [bg]
  | p + 1, u :: ts, t, h => by
    rw [bg, bg, bg_succ (p := p) (by simpa using h)]
    omega
theorem Itm.room_n {t : Itm} (h : t.isMix = false) : t.room = t.n := by cases t <;> first | rfl | cases h

/-! where a moment lies: (place, how far behind its begin) -/
def fnd (m : Int) : Nat → Int → List Itm → Option (Nat × Int)
  | _, _, [] => none
  | i, b, t :: ts => if t.isMix = false ∧ b ≤ m ∧ m < b + t.n then some (i, m - b) else fnd m (i + 1) (b + t.room) ts
def fndD : Option (Nat × Int) → D
  | some (j, x) => .tup [.int (j : Int), .int x]
  | none => .non
theorem at_loop {v0 : Sl} {m : Int} : ∀ (ts : List Itm) (i : Nat) (b : Int) (v3 v4 : Sl),
    (∀ p, fnd m i b ts = some p → ∃ e', forL (gTup' (gCon (gNam 3) (gCon (gNam 4) gNil'))) b_item_at_1 (((ts.map Itm.d).zipIdx i).map fun p => .tup [.int ((p.2 : Nat) : Int), p.1]) [v0, .sh (.int m), .sh (.int b), v3, v4] = .rt (fndD (some p)) e') ∧
    (fnd m i b ts = none → ∃ b' v3' v4', forL (gTup' (gCon (gNam 3) (gCon (gNam 4) gNil'))) b_item_at_1 (((ts.map Itm.d).zipIdx i).map fun p => .tup [.int ((p.2 : Nat) : Int), p.1]) [v0, .sh (.int m), .sh (.int b), v3, v4] = .nx [v0, .sh (.int m), .sh (.int b'), v3', v4'])
  | [], i, b, v3, v4 => ⟨fun p h => by simp [fnd] at h, fun _ => ⟨b, v3, v4, rfl⟩⟩
  | t :: ts, i, b, v3, v4 => by
    have rm := t.room_ok
    have la := t.last
    rw [List.map_cons, List.zipIdx_cons, List.map_cons]
    have a0 : ∃ w, opIx t.d (.int 0) = some w ∧ opNe w (.str "mix") = some (.bl (!t.isMix)) := by
      cases t <;> simp [Itm.d, clipD, Itm.isMix]
    obtain ⟨w, a0, ne⟩ := a0
    by_cases q : t.isMix = false ∧ b ≤ m ∧ m < b + t.n
    · have run : turn (gTup' (gCon (gNam 3) (gCon (gNam 4) gNil'))) b_item_at_1 (.tup [.int (i : Int), t.d]) [v0, .sh (.int m), .sh (.int b), v3, v4] = .rt (.tup [.int (i : Int), .int (m - b)]) [v0, .sh (.int m), .sh (.int b), .sh (.int (i : Int)), .sh t.d] := by
        simp [turn, b_item_at_1, a0, la, ne, q.1, q.2.1, q.2.2]
      rw [fnd, if_pos q]
      refine ⟨fun p hj => ?_, fun hj => by cases hj⟩
      cases hj
      exact ⟨_, forL_rt run⟩
    · have run : turn (gTup' (gCon (gNam 3) (gCon (gNam 4) gNil'))) b_item_at_1 (.tup [.int (i : Int), t.d]) [v0, .sh (.int m), .sh (.int b), v3, v4] = .nx [v0, .sh (.int m), .sh (.int (b + t.room)), .sh (.int (i : Int)), .sh t.d] := by
        cases q1 : t.isMix with
        | true => simp [turn, b_item_at_1, a0, la, ne, rm, q1]
        | false =>
          by_cases q2 : b ≤ m
          · have q3 : ¬ m < b + t.n := fun h => q ⟨q1, q2, h⟩
            simp [turn, b_item_at_1, a0, la, ne, rm, q1, q2, q3]
          · simp [turn, b_item_at_1, a0, la, ne, rm, q1, q2]
      rw [fnd, if_neg q, forL_nx run]
      exact at_loop ts (i + 1) (b + t.room) (.sh (.int (i : Int))) (.sh t.d)
theorem at_ok {ts : List Itm} {m : Int} : fn_item_at [TD ts, .int m] = .ok (fndD (fnd m 0 0 ts)) := by
  obtain ⟨h1, h2⟩ := at_loop (v0 := .sh (TD ts)) (m := m) ts 0 0 .no .no
  cases f : fnd m 0 0 ts with
  | none =>
    obtain ⟨b', v3', v4', e⟩ := h2 f
    simp [fn_item_at, b_item_at, e, fndD]
  | some p =>
    obtain ⟨e', e⟩ := h1 p f
    simp [fn_item_at, b_item_at, e]

/-! pictures -/
def pic (a b c d k : Int) : Int := (a * d + k * c * b) / (b * d)
theorem pic_ok {m : Nat} {z : Str} {a b c d n k : Int} (f1 : Fr m a b) (f2 : Fr m c d) (hk : Bd m k) (hm : m ≤ 1000) : fn_picture_at [clipD z a b c d n, .int k] = .ok (.int (pic a b c d k)) := picture_can f1 f2 hk hm

/-! names, clips of reels: the words alone (out of S_nm, I_clip) -/
def LA (c : Nat) : Prop := 97 ≤ c ∧ c ≤ 122
theorem la_has {c : Nat} (h : LA c) : (Str.ofString "abcdefghijklmnopqrstuvwxyz").cps.contains c = true := by
  have q : ∀ k : Fin 26, (Str.ofString "abcdefghijklmnopqrstuvwxyz").cps.contains (97 + k.val) = true := by decide +kernel
  have := q ⟨c - 97, by have := h.1; have := h.2; omega⟩
  rwa [show 97 + (c - 97) = c by have := h.1; omega] at this
theorem has_la {c : Nat} (h : c ∈ (Str.ofString "abcdefghijklmnopqrstuvwxyz").cps) : LA c := by
  have q : (Str.ofString "abcdefghijklmnopqrstuvwxyz").cps.all (fun c => decide (97 ≤ c) && decide (c ≤ 122)) = true := by decide +kernel
  have := (Array.all_eq_true_iff_forall_mem.mp q) c h
  rw [Bool.and_eq_true] at this
  exact ⟨of_decide_eq_true this.1, of_decide_eq_true this.2⟩
theorem takeWhile_all {p : Nat → Bool} : ∀ {l : List Nat}, (∀ c ∈ l, p c = true) → l.takeWhile p = l
  | [], _ => rfl
  | c :: l, h => by rw [List.takeWhile_cons, if_pos (h c List.mem_cons_self), takeWhile_all fun d hd => h d (List.mem_cons_of_mem _ hd)]
theorem strip_all {z w : Str} (h : ∀ c ∈ z.cps.toList, w.cps.contains c = true) (n : z.length ≠ 0) : Txt.stripChars z w = "" := by
  have tw : z.cps.toList.takeWhile w.cps.contains = z.cps.toList := takeWhile_all h
  have lo : stripLo w.cps.contains true z = z.length := by
    unfold stripLo
    rw [if_pos rfl, tw]
    rfl
  have hi : stripHi w.cps.contains true z z.length = z.length := by
    unfold stripHi
    have : z.cps.toList.drop z.length = [] := List.drop_of_length_le (Nat.le_refl _)
    rw [if_pos rfl, this]
    rfl
  unfold Txt.stripChars Txt.stripBy stripSame stripped
  rw [lo, hi]
  have e : (z.length == 0) = false := by simpa using n
  rw [e]
  show (⟨z.cps.extract z.length z.length⟩ : Str) = _
  rw [Array.extract_empty_of_stop_le_start (Nat.le_refl _)]
  rfl
theorem str_app (x y : Str) : (x ++ y).cps.toList = x.cps.toList ++ y.cps.toList := by
  show (x.cps ++ y.cps).toList = _
  simp
theorem cut_to {z : Str} {v : Int} (h : 0 ≤ v) : (cutSD z none (some v)).cps.toList = z.cps.toList.take v.toNat := by
  unfold cutSD sIxD
  dsimp only
  rw [if_neg (by omega)]
  simp only [Nat.sub_zero, List.drop_zero]
  have l : z.length = z.cps.toList.length := rfl
  by_cases q : v.toNat ≤ z.length
  · rw [Nat.min_eq_left q]
  · rw [Nat.min_eq_right (by omega), List.take_of_length_le (by omega), List.take_of_length_le (by omega)]
theorem cut_from {z : Str} {v : Int} (h : 0 ≤ v) : (cutSD z (some v) none).cps.toList = z.cps.toList.drop v.toNat := by
  unfold cutSD sIxD
  dsimp only
  rw [if_neg (by omega)]
  have l : z.length = z.cps.toList.length := rfl
  by_cases q : v.toNat ≤ z.length
  · rw [Nat.min_eq_left q, List.take_of_length_le (by rw [List.length_drop]; omega)]
  · rw [Nat.min_eq_right (by omega), List.drop_of_length_le (show z.cps.toList.length ≤ v.toNat by omega), List.drop_of_length_le (by omega), List.take_nil]
theorem la_strS {z : Str} (h : ∀ c ∈ z.cps.toList, LA c) : strS z = true := by
  unfold strS
  rw [Array.all_eq_true_iff_forall_mem]
  exact fun c hc => decide_eq_true (by have := (h c (by simpa using hc)).2; omega)
/-- whether a text is a name -/
def nmB (z : Str) : Bool := !(decide (z = "") || decide (8 < z.length)) && decide (Txt.stripChars z "abcdefghijklmnopqrstuvwxyz" = "")
structure Nm (z : Str) : Prop where
  l1 : 1 ≤ z.length
  l8 : z.length ≤ 8
  la : ∀ c ∈ z.cps.toList, LA c
theorem Nm.s {z : Str} (h : Nm z) : strS z = true := la_strS h.la
structure InR (RD : D) (z : Str) (N : Int) : Prop where
  nm : Nm z
  ni : opNotIn (.str z) RD = some (.bl false)
  ix : opIx RD (.str z) = some (.int N)
/-- a good clip of a reel of N pictures -/
structure GC (m : Nat) (N a b c d n : Int) : Prop where
  f1 : Fr m a b
  f2 : Fr m c d
  n1 : 1 ≤ n
  nb : Bd m n
  p0 : 0 ≤ pic a b c d 0 ∧ pic a b c d 0 < N
  p1 : 0 ≤ pic a b c d (n - 1) ∧ pic a b c d (n - 1) < N

theorem stream_ok (c : Int) (m : Nat) (hm : m ≤ 1000) : ∃ xs : List Int, fn__law_stream [.int c, .int m] = .ok (.lst (xs.map D.int)) ∧ xs.length = m ∧ ∀ x ∈ xs, 0 ≤ x ∧ x < 10000000019 := by
  by_cases big : 10000000000000000000000000000000000000000 ≤ c
  · obtain ⟨e1, h1, xs, x, k, rfl, hl, hb⟩ := loop_at (g := gNam 4) (b := b__law_stream_1) (fun i e => ∃ (xs : List Int) (x : Int) (k : Sl), e = [.sh (.int c), .sh (.int m), .ow .l (xs.map D.int), .sh (.int x), k, .no] ∧ xs.length = i ∧ ∀ x ∈ xs, 0 ≤ x ∧ x < 10000000019)
      ((List.range m).map fun (i : Nat) => .int (i : Int)) [.sh (.int c), .sh (.int m), .ow .l [], .sh (.int (c / 7)), .no, .no] ⟨[], _, _, rfl, rfl, by simp⟩ (by
      rintro i d hd e ⟨xs, x, k, rfl, hl, hb⟩
      obtain ⟨hi, rfl⟩ := rng_at hd
      have l : xs.length < 1000000 := by omega
      have run : turn (gNam 4) b__law_stream_1 (.int i) [.sh (.int c), .sh (.int m), .ow .l (xs.map D.int), .sh (.int x), k, .no] = .nx [.sh (.int c), .sh (.int m), .ow .l ((xs ++ [x % 10000000019]).map D.int), .sh (.int (x / 10000000019)), .sh (.int i), .no] := by
        simp [turn_nam, b__law_stream_1, o_rem, o_div, divOk_s, l]
      refine ⟨_, run, _, _, _, rfl, by simp [hl], fun y hy => ?_⟩
      rcases List.mem_append.mp hy with hy | hy
      · exact hb y hy
      · simp at hy
        omega)
    have r := rng1_of (m := vCons (vVar 1) vNil) (e := [.sh (.int c), .sh (.int m), .ow .l [], .sh (.int (c / 7)), .no, .no]) (e1 := [.sh (.int c), .sh (.int m), .ow .l [], .sh (.int (c / 7)), .no, .no]) (j := m) (by simp) (by omega) (by omega)
    rw [Int.toNat_natCast] at r
    refine ⟨xs.reverse, by simp [fn__law_stream, b__law_stream, o_pow, o_div, divOk_s, big, r, h1], by simpa using hl, fun x hx => hb x (by simpa using hx)⟩
  · obtain ⟨e1, h1, xs, x, k, rfl, hl, hx, hb⟩ := loop_at (g := gNam 4) (b := b__law_stream_2) (fun i e => ∃ (xs : List Int) (x : Int) (k : Sl), e = [.sh (.int c), .sh (.int m), .ow .l (xs.map D.int), .no, k, .sh (.int x)] ∧ xs.length = i ∧ (0 ≤ x ∧ x < 2147484800) ∧ ∀ x ∈ xs, 0 ≤ x ∧ x < 10000000019)
      ((List.range m).map fun (i : Nat) => .int (i : Int)) [.sh (.int c), .sh (.int m), .ow .l [], .no, .no, .sh (.int ((c % 2147483647 + 1) * 48271 % 2147483647))] ⟨[], _, _, rfl, rfl, by omega, by simp⟩ (by
      rintro i d hd e ⟨xs, x, k, rfl, hl, hx, hb⟩
      obtain ⟨hi, rfl⟩ := rng_at hd
      have l : xs.length < 1000000 := by omega
      have m1 := mulOk_l (i := x) (j := x / 1009 + 69621) (by omega) (by omega)
      have run : turn (gNam 4) b__law_stream_2 (.int i) [.sh (.int c), .sh (.int m), .ow .l (xs.map D.int), .no, k, .sh (.int x)] = .nx [.sh (.int c), .sh (.int m), .ow .l ((xs ++ [x * (x / 1009 + 69621) % 2147483647 + (i : Int) + 1]).map D.int), .no, .sh (.int i), .sh (.int (x * (x / 1009 + 69621) % 2147483647 + (i : Int) + 1))] := by
        simp [turn_nam, b__law_stream_2, o_mul m1, o_rem, o_div, divOk_s, l]
      refine ⟨_, run, _, _, _, rfl, by simp [hl], by omega, fun y hy => ?_⟩
      rcases List.mem_append.mp hy with hy | hy
      · exact hb y hy
      · simp at hy
        omega)
    have r := rng1_of (m := vCons (vVar 1) vNil) (e := [.sh (.int c), .sh (.int m), .ow .l [], .no, .no, .sh (.int ((c % 2147483647 + 1) * 48271 % 2147483647))]) (e1 := [.sh (.int c), .sh (.int m), .ow .l [], .no, .no, .sh (.int ((c % 2147483647 + 1) * 48271 % 2147483647))]) (j := m) (by simp) (by omega) (by omega)
    rw [Int.toNat_natCast] at r
    refine ⟨xs, by simp [fn__law_stream, b__law_stream, o_pow, o_rem, o_mul, mulOk_r, big, r, h1], by simpa using hl, hb⟩

theorem cell_ok (ns : List Int) (k : Int) (h : 0 ≤ k) : ∃ c, fn__law_cell_at [.lst (ns.map D.int), .int k] = .ok (.int c) := by
  by_cases q : k.toNat < ns.length
  · refine ⟨ns[k.toNat], ?_⟩
    have e : atD (ns.map D.int) k = some (.int ns[k.toNat]) := at_of (n := k.toNat) (by omega) (by simp [q])
    have : k < (ns.length : Int) := by omega
    simp [fn__law_cell_at, b__law_cell_at, this, e]
  · have : ¬ k < (ns.length : Int) := by omega
    exact ⟨0, by simp [fn__law_cell_at, b__law_cell_at, this]⟩

/-! a list of draws, popped from its end: next one first -/
def PS (rs : List Int) : Sl := .ow .l (rs.reverse.map D.int)
theorem ps_of {xs : List Int} : Sl.ow .l (xs.map D.int) = PS xs.reverse := by unfold PS; rw [List.reverse_reverse]
/-- .. handed in -/
def PP (rs : List Int) : Sl := .ow (.p 0) (rs.reverse.map D.int)
def fPop (i : Nat) (e : Env) : Option Sl → Res D
  | some (.ow k ds) => if k.isL = true then (match ds.getLast? with
    | some d => .ok d (e.set i (.ow k ds.dropLast))
    | none => .bot) else .bot
  | _ => .bot
theorem e_popI {i e} : vPop i e = fPop i e e[i]? := by
  unfold vPop fPop
  cases e[i]? with
  | none => rfl
  | some s => cases s <;> rfl
theorem fpop1 {i e x rs} : fPop i e (some (PS (x :: rs))) = .ok (.int x) (e.set i (PS rs)) := by
  unfold PS
  simp [fPop, Kd.isL]
theorem fpop2 {i e x rs} : fPop i e (some (PP (x :: rs))) = .ok (.int x) (e.set i (PP rs)) := by
  unfold PP
  simp [fPop, Kd.isL]
theorem frsP {rs} : frS (PS rs) = .sh (.lst (rs.reverse.map D.int)) := (rfl)
theorem frsPP {rs} : frS (PP rs) = .sh (.lst (rs.reverse.map D.int)) := (rfl)
theorem clrP {n rs} : clrTk n (PS rs) = PS rs := (rfl)
theorem clrPP {n rs} : clrTk n (PP rs) = PP rs := (rfl)
/-- the list of draws -/
def dr (rs : List Int) : List D := rs.reverse.map D.int
theorem pp_of {rs} : Sl.ow (.p 0) (dr rs) = PP rs := (rfl)
theorem ps_dr {rs} : Sl.ow .l (dr rs) = PS rs := (rfl)
theorem friPP {f : List D → FRI} {rs} : friF f (some (PP rs)) = f (dr rs) := (rfl)
theorem fariPS {m e rs} : fArI m e (some (PS rs)) = m e := (rfl)
theorem fariPP {m e rs} : fArI m e (some (PP rs)) = m e := (rfl)
theorem fcliPS {α : Type} {i fn} {f : D → Option α} {ds e rs} : fClI2 i fn f ds e (some (PS rs)) = fPut i .l e f (fn ds (dr rs)) := (rfl)
theorem fcliPP {α : Type} {i fn} {f : D → Option α} {ds e rs} : fClI2 i fn f ds e (some (PP rs)) = fPut i (.p 0) e f (fn ds (dr rs)) := (rfl)
theorem max_im {i j : Int} : bfMax [.int i, .int j] = some (.int (if i < j then j else i)) := by
  rw [max_int]

/-! the laws' own clips -/
theorem lowest_ok {a b : Int} (hb : 0 < b) (hs : Sm b) : fn__law_lowest [.int a, .int b] = .ok (shD a b) := by
  obtain ⟨ab, hab, ha0, hag⟩ : ∃ ab : Int, ab = (if a < 0 then -a else a) ∧ 0 ≤ ab ∧ Int.gcd ab b = Int.gcd a b := by
    refine ⟨_, rfl, by split <;> omega, ?_⟩
    split
    · rw [Int.neg_gcd]
    · rfl
  obtain ⟨g, h1, h2, h3⟩ := while_gcd c__law_lowest_1 b__law_lowest_1 (fun x y => [.sh (.int a), .sh (.int b), .sh (.int x), .sh (.int y)]) (fun x y => by simp [c__law_lowest_1]) (fun x y h => by simp [b__law_lowest_1, o_mod h]) _ ab b (Nat.lt_succ_self _)
  have g0 := h3 ha0 (by omega)
  rw [hag] at h2
  have g1 : 0 < Int.gcd a b := Int.gcd_pos_of_ne_zero_right a (by omega)
  have eg : g = (Int.gcd a b : Int) := by omega
  have gs : (Int.gcd a b) ≤ b.natAbs := Nat.le_of_dvd (by omega) (Int.natAbs_dvd_natAbs.mpr (Int.gcd_dvd_right a b))
  have d : divOk g = true := Bd.divOk (hs.le (by omega)) (by omega)
  have e : vWhile c__law_lowest_1 b__law_lowest_1 [.sh (.int a), .sh (.int b), .sh (.int ab), .sh (.int b)] = .nx [.sh (.int a), .sh (.int b), .sh (.int g), .sh (.int 0)] := h1
  subst eg
  have ab1 : bfAbs [.int a] = some (.int ab) := by rw [hab]; rfl
  simp [fn__law_lowest, b__law_lowest, ab1, -abs_int, e, o_div (show (0 : Int) < (Int.gcd a b : Int) by omega) d, shD, rn, rd]
theorem pic_red {S P t B k : Int} (hP : 0 < P) (hB : 0 < B) : pic (rn S P) (rd S P) (rn t B) (rd t B) k = (S * B + k * t * P) / (P * B) := by
  obtain ⟨r1, c1⟩ := can_red (a := S) hP
  obtain ⟨r2, c2⟩ := can_red (a := t) hB
  unfold pic
  refine ediv_cross (Int.mul_pos r1.1 r2.1) (Int.mul_pos hP hB) ?_
  generalize rn S P = a at *
  generalize rd S P = b at *
  generalize rn t B = c at *
  generalize rd t B = d at *
  grind
theorem pic_7 {S t B k : Int} (hB : 0 < B) : pic (rn S (7 * B)) (rd S (7 * B)) (rn t B) (rd t B) k = (S + 7 * (k * t)) / (7 * B) := by
  rw [pic_red (by omega) hB]
  have e1 : S * B + k * t * (7 * B) = B * (S + 7 * (k * t)) := by grind
  have e2 : 7 * B * B = B * (7 * B) := by grind
  rw [e1, e2, Int.mul_ediv_mul_of_pos _ _ hB]
theorem lclip_gc {low rest t B n N u : Int} (hB : 1 ≤ B ∧ B ≤ 5) (ht : -6 ≤ t ∧ t ≤ 6) (n1 : 1 ≤ n) (n2 : n ≤ 100) (hr : 0 ≤ rest ∧ rest ≤ 6) (hl : 0 ≤ low) (hN : N ≤ 1000000000) (hu : u = (n - 1) * (if t < 0 then -t else t)) (hf : low < N - (u / B + 1)) :
    GC 40 N (rn (low * 7 * B + rest * B - (if t < 0 then 7 * (n - 1) * t else 0)) (7 * B)) (rd (low * 7 * B + rest * B - (if t < 0 then 7 * (n - 1) * t else 0)) (7 * B)) (rn t B) (rd t B) n := by
  have u0 : 0 ≤ u := by
    rw [hu]
    exact Int.mul_nonneg (by omega) (by split <;> omega)
  have u1 : u ≤ 600 := by
    rw [hu]
    have : (if t < 0 then -t else t) ≤ 6 := by split <;> omega
    have h2 : 0 ≤ (if t < 0 then -t else t) := by split <;> omega
    have := Int.mul_le_mul (show n - 1 ≤ 100 by omega) this h2 (by omega)
    omega
  obtain ⟨S, hS, hS2⟩ : ∃ S, S = low * 7 * B + rest * B - (if t < 0 then 7 * (n - 1) * t else 0) ∧ S = low * 7 * B + rest * B + (if t < 0 then 7 * u else 0) := by
    refine ⟨_, rfl, ?_⟩
    split
    · rename_i h
      rw [if_pos h] at hu
      have : 7 * (n - 1) * t = -(7 * u) := by rw [hu]; grind
      omega
    · omega
  rw [← hS]
  have k1 : (n - 1) * t = if t < 0 then -u else u := by
    split
    · rename_i h
      rw [if_pos h] at hu
      rw [hu]; grind
    · rename_i h
      rw [if_neg h] at hu
      exact hu.symm
  have P0 : 0 < 7 * B := by omega
  have bS : S.natAbs < 2 ^ 40 := by
    have hBc : B = 1 ∨ B = 2 ∨ B = 3 ∨ B = 4 ∨ B = 5 := by omega
    rcases hBc with rfl | rfl | rfl | rfl | rfl <;> (split at hS2 <;> omega)
  refine ⟨⟨(can_red P0).1, Bd.le bS (rn_le P0), Bd.le (y := 7 * B) (by unfold Bd; omega) (rd_le P0)⟩, ⟨(can_red (by omega)).1, Bd.le (y := t) (by unfold Bd; omega) (rn_le (by omega)), Bd.le (y := B) (by unfold Bd; omega) (rd_le (by omega))⟩, n1, by unfold Bd; omega, ?_, ?_⟩
  · rw [pic_7 (by omega), Int.zero_mul]
    have hBc : B = 1 ∨ B = 2 ∨ B = 3 ∨ B = 4 ∨ B = 5 := by omega
    rcases hBc with rfl | rfl | rfl | rfl | rfl <;> (split at hS2 <;> omega)
  · rw [pic_7 (by omega), k1]
    have hBc : B = 1 ∨ B = 2 ∨ B = 3 ∨ B = 4 ∨ B = 5 := by omega
    rcases hBc with rfl | rfl | rfl | rfl | rfl <;> (split at hS2 <;> split <;> omega)
/-- the reels of these laws -/
def RDn (N : Int) : D := .dct [.inr "a", .inr "reelb"] [.int N, .int 1000000000]
theorem nm_a : Nm "a" := by
  refine ⟨by decide +kernel, by decide +kernel, fun c hc => ?_⟩
  have : ("a" : Str).cps.toList = [97] := by decide +kernel
  rw [this] at hc
  simp at hc
  subst hc
  exact ⟨by decide, by decide⟩
theorem nm_reelb : Nm "reelb" := by
  refine ⟨by decide +kernel, by decide +kernel, fun c hc => ?_⟩
  have : ("reelb" : Str).cps.toList = [114, 101, 101, 108, 98] := by decide +kernel
  rw [this] at hc
  simp at hc
  rcases hc with rfl | rfl | rfl | rfl | rfl <;> exact ⟨by decide, by decide⟩
theorem ab_ne : ("a" : Str) ≠ "reelb" := by decide +kernel
theorem inR_a (N : Int) : InR (RDn N) "a" N := ⟨nm_a, by simp [RDn, opNotIn, opIn, keyD, dctGet], by simp [RDn, opIx, keyD, dctGet]⟩
theorem inR_b (N : Int) : InR (RDn N) "reelb" 1000000000 := ⟨nm_reelb, by simp [RDn, opNotIn, opIn, keyD, dctGet, ab_ne], by simp [RDn, opIx, keyD, dctGet, ab_ne]⟩
/-- a clip of these reels -/
def Itm.Dv : Itm → Prop
  | .clip _ _ b c d _ => b ∣ 420 ∧ d ∣ 60 ∧ -6 ≤ c ∧ c ≤ 6
  | _ => True
theorem rd_dvd {a b : Int} (hb : 0 < b) : rd a b ∣ b := by
  obtain ⟨r, e⟩ := can_red (a := a) hb
  exact dvd_of_cop (b := rn a b) ⟨a, by rw [e, Int.mul_comm]⟩ (by rw [Int.gcd_comm]; exact r.2)
structure LC (N sz : Int) (t : Itm) : Prop where
  dv : t.Dv
  of : ∃ z a b c d n M, t = .clip z a b c d n ∧ InR (RDn N) z M ∧ 60 ≤ M ∧ M ≤ 1000000000 ∧ GC 40 M a b c d n ∧ n ≤ sz
theorem lclip_ok {N sz : Int} {x0 x1 x2 x3 x4 x5 : Int} {L : List Int} (hN : 60 ≤ N ∧ N ≤ 359) (hs : 1 ≤ sz ∧ sz ≤ 100) (h : ∀ x ∈ [x0, x1, x2, x3, x4, x5], 0 ≤ x) :
    ∃ t, fn__law_clip [RDn N, .int sz] (dr (x0 :: x1 :: x2 :: x3 :: x4 :: x5 :: L)) = .ok t.d (dr L) ∧ LC N sz t := by
  have p0 := h x0 (by simp)
  have p1 := h x1 (by simp)
  have p2 := h x2 (by simp)
  have p3 := h x3 (by simp)
  have p4 := h x4 (by simp)
  have p5 := h x5 (by simp)
  have d3 : divOk 3 = true := by decide +kernel
  have e3 : ∀ x : Int, opFdiv (.int x) (.int 3) = some (.int (x / 3)) := fun x => o_div (by decide) d3
  -- the reel
  obtain ⟨z, M, hz, inr, M1, M2⟩ : ∃ z M, atD [.str "a", .str "reelb"] (x0 / 3 % 2) = some (.str z) ∧ InR (RDn N) z M ∧ 60 ≤ M ∧ M ≤ 1000000000 := by
    have : x0 / 3 % 2 = 0 ∨ x0 / 3 % 2 = 1 := by omega
    rcases this with e | e
    · exact ⟨"a", N, by rw [e]; simp, inR_a N, by omega, by omega⟩
    · exact ⟨"reelb", _, by rw [e]; simp, inR_b N, by omega, by omega⟩
  obtain ⟨n, hn, n1, n2⟩ : ∃ n, n = 1 + x1 / 3 % sz ∧ 1 ≤ n ∧ n ≤ sz := by
    have := Int.emod_nonneg (x1 / 3) (show sz ≠ 0 by omega)
    have := Int.emod_lt_of_pos (x1 / 3) (show 0 < sz by omega)
    exact ⟨_, rfl, by omega, by omega⟩
  obtain ⟨t0, ht0, t1, t2⟩ : ∃ t, t = x2 / 3 % 13 - 6 ∧ -6 ≤ t ∧ t ≤ 6 := ⟨_, rfl, by omega, by omega⟩
  obtain ⟨B, hB, B1, B2⟩ : ∃ B, B = 1 + x3 / 3 % 5 ∧ 1 ≤ B ∧ B ≤ 5 := ⟨_, rfl, by omega, by omega⟩
  obtain ⟨v, hv, v0, v1⟩ : ∃ v, v = (if t0 < 0 then -t0 else t0) ∧ 0 ≤ v ∧ v ≤ 6 := ⟨_, rfl, by split <;> omega, by split <;> omega⟩
  have u0 : 0 ≤ (n - 1) * v := Int.mul_nonneg (by omega) v0
  have dB : divOk B = true := divOk_s (by omega) (by omega) (by omega)
  have d7B : Sm (7 * B) := Sm.of (by omega) (by omega)
  have sB : Sm B := Sm.of (by omega) (by omega)
  have av : bfAbs [.int t0] = some (.int v) := by rw [hv]; rfl
  have f0 : 0 ≤ (n - 1) * v / B := Int.ediv_nonneg u0 (by omega)
  have m1 : opMul (.int (n - 1)) (.int v) = some (.int ((n - 1) * v)) := o_mul (mulOk_r (by omega) (by omega))
  have eM : opIx (RDn N) (.str z) = some (.int M) := inr.ix
  -- the step that is taken
  obtain ⟨t, u, hu, ht, hlow, key⟩ : ∃ t u, u = (n - 1) * (if t < 0 then -t else t) ∧ (-6 ≤ t ∧ t ≤ 6) ∧ 0 < M - (u / B + 1) ∧ ((M ≤ (n - 1) * v / B + 1 ∧ t = 0 ∧ u / B + 1 = 1) ∨ (¬ M ≤ (n - 1) * v / B + 1 ∧ t = t0 ∧ u = (n - 1) * v)) := by
    by_cases hf : M ≤ (n - 1) * v / B + 1
    · refine ⟨0, 0, by simp, by omega, by simp; omega, .inl ⟨hf, rfl, by simp⟩⟩
    · exact ⟨t0, (n - 1) * v, by rw [hv], ⟨t1, t2⟩, by omega, .inr ⟨hf, rfl, rfl⟩⟩
  obtain ⟨low, hl, l0, l1⟩ : ∃ low, low = x4 % (M - (u / B + 1)) ∧ 0 ≤ low ∧ low < M - (u / B + 1) := ⟨_, rfl, Int.emod_nonneg _ (by omega), Int.emod_lt_of_pos _ hlow⟩
  obtain ⟨rest, hrest, r0, r1⟩ : ∃ r, r = x5 / 3 % 7 ∧ 0 ≤ r ∧ r ≤ 6 := ⟨_, rfl, by omega, by omega⟩
  have gc := lclip_gc (low := low) (rest := rest) (N := M) ⟨B1, B2⟩ ht n1 (by omega) ⟨r0, r1⟩ l0 M2 hu l1
  have bl7 : opMul (.int low) (.int 7) = some (.int (low * 7)) := o_mul (mulOk_r (by decide) (by decide))
  have bl7B : opMul (.int (low * 7)) (.int B) = some (.int (low * 7 * B)) := o_mul (mulOk_r (by omega) (by omega))
  have brB : opMul (.int rest) (.int B) = some (.int (rest * B)) := o_mul (mulOk_r (by omega) (by omega))
  have b7n : opMul (.int 7) (.int (n - 1)) = some (.int (7 * (n - 1))) := o_mul (mulOk_l (by decide) (by decide))
  have b7nt : opMul (.int (7 * (n - 1))) (.int t) = some (.int (7 * (n - 1) * t)) := o_mul (mulOk_r (by omega) (by omega))
  have b7B : opMul (.int 7) (.int B) = some (.int (7 * B)) := o_mul (mulOk_l (by decide) (by decide))
  have lw1 := lowest_ok (a := low * 7 * B + rest * B - (if t < 0 then 7 * (n - 1) * t else 0)) (b := 7 * B) (by omega) d7B
  have lw2 := lowest_ok (a := t) (b := B) (by omega) sB
  refine ⟨.clip z _ _ _ _ n, ?_, ⟨?dv, _, _, _, _, _, _, _, rfl, inr, M1, M2, gc, n2⟩⟩
  case dv =>
    have q1 : B ∣ 60 ∧ 7 * B ∣ 420 := by
      have : B = 1 ∨ B = 2 ∨ B = 3 ∨ B = 4 ∨ B = 5 := by omega
      rcases this with e | e | e | e | e <;> rw [e] <;> decide
    have q2 := rn_le (a := t) (b := B) (by omega)
    exact ⟨Int.dvd_trans (rd_dvd (by omega)) q1.2, Int.dvd_trans (rd_dvd (by omega)) q1.1, by omega, by omega⟩
  have hn' : 1 + x1 / 3 % sz = n := hn.symm
  have ht' : x2 / 3 % 13 - 6 = t0 := ht0.symm
  have hB' : 1 + x3 / 3 % 5 = B := hB.symm
  have hr' : x5 / 3 % 7 = rest := hrest.symm
  have hl' : x4 % (M - (u / B + 1)) = low := hl.symm
  have dt : (Itm.clip z (rn (low * 7 * B + rest * B - (if t < 0 then 7 * (n - 1) * t else 0)) (7 * B)) (rd (low * 7 * B + rest * B - (if t < 0 then 7 * (n - 1) * t else 0)) (7 * B)) (rn t B) (rd t B) n).d = .tup [.str "clip", .str z, shD (low * 7 * B + rest * B - (if t < 0 then 7 * (n - 1) * t else 0)) (7 * B), shD t B, .int n] := rfl
  rw [dt]
  have fd : opFdiv (.int ((n - 1) * v)) (.int B) = some (.int ((n - 1) * v / B)) := o_div (by omega) dB
  have rm : opMod (.int x4) (.int (M - (u / B + 1))) = some (.int low) := by rw [o_rem hlow, hl']
  have rs : opMod (.int (x1 / 3)) (.int sz) = some (.int (x1 / 3 % sz)) := o_rem (by omega)
  rcases key with ⟨hf, rfl, hu1⟩ | ⟨hf, rfl, rfl⟩
  · rw [hu1] at rm
    simp only [if_neg (show ¬ (0 : Int) < 0 by decide), Int.sub_zero] at lw1 ⊢
    simp [fn__law_clip, b__law_clip, e_runI, insL0, pp_of, e_popI, fpop2, fri_of, friPP, e3, o_rem, hz, hn', ht', hB', hr', rs, av, -abs_int, m1, fd, eM, hf, rm, bl7, bl7B, brB, b7B, lw1, lw2]
  · by_cases tn : t < 0
    · simp only [if_pos tn] at lw1 ⊢
      simp [fn__law_clip, b__law_clip, e_runI, insL0, pp_of, e_popI, fpop2, fri_of, friPP, e3, o_rem, hz, hn', ht', hB', hr', rs, av, -abs_int, m1, fd, eM, hf, rm, bl7, bl7B, brB, b7B, b7n, b7nt, lw1, lw2, tn]
    · simp only [if_neg tn, Int.sub_zero] at lw1 ⊢
      simp [fn__law_clip, b__law_clip, e_runI, insL0, pp_of, e_popI, fpop2, fri_of, friPP, e3, o_rem, hz, hn', ht', hB', hr', rs, av, -abs_int, m1, fd, eM, hf, rm, bl7, bl7B, brB, b7B, lw1, lw2, tn]

/-! the tables of the laws k45, k46, k47, k49, k51 -/
theorem tends {m : Nat} {ts : List Itm} (h : ∀ t ∈ ts, t.Ok m) : ∃ b0, opEq (TD ts) (.lst []) = some (.bl b0) ∧ opNe (TD ts) (.lst []) = some (.bl (!b0)) ∧ (b0 = true → ts = []) ∧ (b0 = false → ∃ us, ∃ u : Itm, ts = us ++ [u] ∧ atD (ts.map Itm.d) (-1) = some u.d ∧ u.Ok m) := by
  have ek := Itm.eqs h
  rcases List.eq_nil_or_concat ts with rfl | ⟨us, u, h2⟩
  · exact ⟨true, by rw [o_eq (by simp) (by simp)]; simp, by rw [o_ne (by simp) (by simp)]; simp, fun _ => rfl, fun h => by cases h⟩
  · have h2 : ts = us ++ [u] := by simpa using h2
    subst h2
    refine ⟨false, ?_, ?_, fun h => by simp at h, fun _ => ⟨us, u, rfl, by rw [List.map_append]; exact at_last, h u (by simp)⟩⟩
    · rw [o_eq ek (by simp)]
      cases us <;> simp
    · rw [o_ne ek (by simp)]
      cases us <;> simp
theorem gap_at (t : Itm) : ∃ w, opIx t.d (.int 0) = some w ∧ opEq w (.str "gap") = some (.bl t.isGap) ∧ opNe w (.str "gap") = some (.bl (!t.isGap)) := by
  cases t <;> exact ⟨_, by simp [Itm.d, clipD]; rfl, by simp [Itm.isGap], by simp [Itm.isGap]⟩
theorem clip_at (t : Itm) : ∃ w, opIx t.d (.int 0) = some w ∧ opEq w (.str "clip") = some (.bl t.isClip) := by
  cases t <;> exact ⟨_, by simp [Itm.d, clipD]; rfl, by simp [Itm.isClip]⟩

/-- what their tracks hold at first -/
inductive LI (N sz : Int) : Itm → Prop
  | g {n : Int} : 1 ≤ n → n ≤ sz → LI N sz (.gap n)
  | n {s n : Int} : 0 ≤ s → s ≤ 8 → 1 ≤ n → n ≤ sz → LI N sz (.nest "low" s n)
  | c {t : Itm} : LC N sz t → LI N sz t
theorem s_low : strS "low" = true := by decide +kernel
theorem LC.ok {N sz : Int} {t : Itm} (h : LC N sz t) : t.Ok 40 := by
  obtain ⟨z, a, b, c, d, n, M, rfl, ir, _, _, g, _⟩ := h.of
  exact ⟨ir.nm.s, g.f1, g.f2, g.n1, g.nb⟩
theorem LI.ok {N sz : Int} {t : Itm} (h : LI N sz t) : t.Ok 40 := by
  cases h with
  | g h1 _ => exact h1
  | n _ _ h1 _ => exact ⟨s_low, h1⟩
  | c h => exact h.ok
theorem LI.sz {N sz : Int} {t : Itm} (h : LI N sz t) : t.n ≤ sz := by
  cases h with
  | g _ h => exact h
  | n _ _ _ h => exact h
  | c h =>
    obtain ⟨z, a, b, c, d, n, M, rfl, _, _, _, _, h⟩ := h.of
    exact h
theorem LI.nomix {N sz : Int} {t : Itm} (h : LI N sz t) : t.isMix = false := by
  cases h with
  | g _ _ => rfl
  | n _ _ _ _ => rfl
  | c h =>
    obtain ⟨z, a, b, c, d, n, M, rfl, _⟩ := h.of
    rfl
/-- no gap behind a gap -/
def NG (ts : List Itm) : Prop := ∀ (i : Nat) (a b : Itm), ts[i]? = some a → ts[i + 1]? = some b → a.isGap = true → b.isGap = false
theorem NG.snoc {ts : List Itm} {u : Itm} (h : NG ts) (hu : u.isGap = false ∨ ∀ a, ts[ts.length - 1]? = some a → a.isGap = false) : NG (ts ++ [u]) := fun i a b ha hb g => by
  by_cases c : i + 1 < ts.length
  · rw [List.getElem?_append_left (by omega)] at ha hb
    exact h i a b ha hb g
  · have l := (List.getElem?_eq_some_iff.mp hb).1
    simp at l
    have e : i + 1 = ts.length := by omega
    rw [e, List.getElem?_append_right (by omega)] at hb
    simp at hb
    subst hb
    rw [List.getElem?_append_left (by omega)] at ha
    rcases hu with h | h
    · exact h
    · have := h a (by rw [← e]; exact ha)
      rw [this] at g
      cases g
theorem NG.init {ts : List Itm} {u : Itm} (h : NG (ts ++ [u])) : NG ts := fun i a b ha hb g => by
  have l := (List.getElem?_eq_some_iff.mp hb).1
  exact h i a b (by rw [List.getElem?_append_left (by omega)]; exact ha) (by rw [List.getElem?_append_left (by omega)]; exact hb) g
theorem six {L : List Int} (h : 6 ≤ L.length) : ∃ x0 x1 x2 x3 x4 x5 L', L = x0 :: x1 :: x2 :: x3 :: x4 :: x5 :: L' := by
  match L, h with
  | x0 :: x1 :: x2 :: x3 :: x4 :: x5 :: L, _ => exact ⟨_, _, _, _, _, _, _, rfl⟩
theorem ltrack_turn {N sz : Int} (hN : 60 ≤ N ∧ N ≤ 359) (hs : 1 ≤ sz ∧ sz ≤ 100) {L : List Int} (hL : 7 ≤ L.length) (h0 : ∀ x ∈ L, 0 ≤ x) {d : D} {T : List Itm} (ok : ∀ t ∈ T, LI N sz t) (lt : T.length ≤ 100) (ng : NG T) {v4 v5 : Sl} :
    ∃ (u : Itm) (k : Nat) (v5' : Sl), k ≤ 7 ∧ turn (gNam 4) b__law_track_1 d [PP L, .sh (RDn N), .sh (.int sz), .ow .l (T.map Itm.d), v4, v5] = .nx [PP (L.drop k), .sh (RDn N), .sh (.int sz), .ow .l ((T ++ [u]).map Itm.d), .sh d, v5'] ∧ LI N sz u ∧ NG (T ++ [u]) := by
  obtain ⟨f, L, rfl⟩ : ∃ f L', L = f :: L' := by
    match L, hL with
    | f :: L, _ => exact ⟨_, _, rfl⟩
  obtain ⟨x0, x1, x2, x3, x4, x5, L, rfl⟩ := six (L := L) (by simp at hL; omega)
  obtain ⟨t, et, lc⟩ := lclip_ok (x0 := x0) (x1 := x1) (x2 := x2) (x3 := x3) (x4 := x4) (x5 := x5) (L := L) (sz := sz) hN hs (fun x hx => h0 x (List.mem_cons_of_mem _ (by
    simp only [List.mem_cons, List.not_mem_nil, or_false] at hx ⊢
    rcases hx with h | h | h | h | h | h <;> simp [h])))
  have d3 : divOk 3 = true := by decide +kernel
  have e3 : ∀ x : Int, opFdiv (.int x) (.int 3) = some (.int (x / 3)) := fun x => o_div (by decide) d3
  have rs : ∀ x : Int, opMod (.int x) (.int sz) = some (.int (x % sz)) := fun x => o_rem (by omega)
  have l1 : T.length < 1000000 := by omega
  have x0p := h0 x0 (by simp)
  have x1p := h0 x1 (by simp)
  have fp := h0 f (by simp)
  have m0 : 0 ≤ x0 / 3 % sz ∧ x0 / 3 % sz < sz := ⟨Int.emod_nonneg _ (by omega), Int.emod_lt_of_pos _ (by omega)⟩
  have m1 : 0 ≤ x1 / 3 % sz ∧ x1 / 3 % sz < sz := ⟨Int.emod_nonneg _ (by omega), Int.emod_lt_of_pos _ (by omega)⟩
  obtain ⟨b0, E0, N0, hb0, hb⟩ := tends (fun t ht => (ok t ht).ok)
  have tg : t.isGap = false := by
    obtain ⟨z, a, b, c, d, n, M, rfl, _⟩ := lc.of
    rfl
  by_cases n1 : f / 3 % 5 = 1
  · have n0 : ¬ f / 3 % 5 = 0 := by omega
    exact ⟨.nest "low" (x0 / 3 % 9) (1 + x1 / 3 % sz), 3, .sh (.int (f / 3 % 5)), by omega, by simp [turn_nam, b__law_track_1, e_popI, fpop2, e3, o_rem, n1, rs, l1, dN], .n (by omega) (by omega) (by omega) (by omega), ng.snoc (.inl rfl)⟩
  · by_cases n0 : f / 3 % 5 = 0
    · cases b0 with
      | true =>
        have := hb0 rfl
        subst this
        have E1 : opEq (.lst []) (.lst []) = some (.bl true) := E0
        exact ⟨.gap (1 + x0 / 3 % sz), 2, .sh (.int 0), by omega, by simp [turn_nam, b__law_track_1, e_popI, fpop2, e3, o_rem, n0, E1, rs, dG], .g (by omega) (by omega), fun i a b ha hb g => by simp at hb⟩
      | false =>
        obtain ⟨us, u, eu, al, oku⟩ := hb rfl
        obtain ⟨w, a0, g1, g2⟩ := gap_at u
        have lu : ∀ a, T[T.length - 1]? = some a → a = u := fun a ha => by
          rw [eu] at ha
          simp at ha
          exact ha.symm
        cases hg : u.isGap with
        | false =>
          rw [hg] at g2
          exact ⟨.gap (1 + x0 / 3 % sz), 2, .sh (.int 0), by omega, by simp [turn_nam, b__law_track_1, e_popI, fpop2, e3, o_rem, n0, E0, al, a0, g2, rs, l1, dG], .g (by omega) (by omega), ng.snoc (.inr fun a ha => by rw [lu a ha]; exact hg)⟩
        | true =>
          rw [hg] at g2
          exact ⟨t, 7, .sh (.int 0), by omega, by simp [turn_nam, b__law_track_1, e_popI, fpop2, e3, o_rem, n0, E0, al, a0, g2, e_callI, e_argI, fariPP, fcli1, fcliPP, et, fput1, pp_of, l1], .c lc, ng.snoc (.inl tg)⟩
    · exact ⟨t, 7, .sh (.int (f / 3 % 5)), by omega, by simp [turn_nam, b__law_track_1, e_popI, fpop2, e3, o_rem, n0, n1, e_callI, e_argI, fariPP, fcli1, fcliPP, et, fput1, pp_of, l1], .c lc, ng.snoc (.inl tg)⟩
theorem fpop_o {i : Nat} {e : Env} {xs : List D} {d : D} : fPop i e (some (.ow .l (xs ++ [d]))) = .ok d (e.set i (.ow .l xs)) := by
  simp [fPop, Kd.isL]
theorem ltrack_ok {N sz : Int} (hN : 60 ≤ N ∧ N ≤ 359) (hs : 1 ≤ sz ∧ sz ≤ 100) {L : List Int} (hL : 36 ≤ L.length) (h0 : ∀ x ∈ L, 0 ≤ x) :
    ∃ (T : List Itm) (k : Nat), k ≤ 36 ∧ fn__law_track [RDn N, .int sz] (dr L) = .ok (TD T) (dr (L.drop k)) ∧ (∀ t ∈ T, LI N sz t) ∧ T.length ≤ 5 ∧ NG T ∧ (∀ u, T[T.length - 1]? = some u → u.isGap = false) := by
  obtain ⟨f, L, rfl⟩ : ∃ f L', L = f :: L' := by
    match L, hL with
    | f :: L, _ => exact ⟨_, _, rfl⟩
  have d3 : divOk 3 = true := by decide +kernel
  have e3 : ∀ x : Int, opFdiv (.int x) (.int 3) = some (.int (x / 3)) := fun x => o_div (by decide) d3
  have fp := h0 f (by simp)
  obtain ⟨n, hn, n5⟩ : ∃ n : Nat, f / 3 % 6 = (n : Int) ∧ n ≤ 5 := ⟨(f / 3 % 6).toNat, by omega, by omega⟩
  simp only [List.length_cons] at hL
  obtain ⟨e1, h1, T, k, v4, v5, rfl, kl, lt, ok, ng⟩ := loop_at (g := gNam 4) (b := b__law_track_1) (fun i e => ∃ (T : List Itm) (k : Nat) (v4 v5 : Sl), e = [PP (L.drop k), .sh (RDn N), .sh (.int sz), .ow .l (T.map Itm.d), v4, v5] ∧ k ≤ 7 * i ∧ T.length = i ∧ (∀ t ∈ T, LI N sz t) ∧ NG T)
    ((List.range n).map fun (i : Nat) => D.int (i : Int)) [PP L, .sh (RDn N), .sh (.int sz), .ow .l [], .no, .no] ⟨[], 0, .no, .no, by simp, by omega, rfl, by simp, fun i a b ha => by simp at ha⟩ (by
    rintro i d hd e ⟨T, k, v4, v5, rfl, kl, lt, ok, ng⟩
    obtain ⟨hi, rfl⟩ := rng_at hd
    obtain ⟨u, k', v5', hk', run, lu, ng'⟩ := ltrack_turn hN hs (L := L.drop k) (by simp; omega) (fun x hx => h0 x (List.mem_cons_of_mem _ (List.mem_of_mem_drop hx))) (d := .int (i : Int)) ok (by omega) ng (v4 := v4) (v5 := v5)
    refine ⟨_, run, T ++ [u], k + k', _, _, by rw [List.drop_drop], by omega, by simp [lt], fun t ht => ?_, ng'⟩
    rcases List.mem_append.mp ht with ht | ht
    · exact ok t ht
    · rw [List.mem_singleton.mp ht]; exact lu)
  have r := rng1_of (m := vCons (vOp opMod (vOp opFdiv (vPop 0) (vC (.int 3))) (vC (.int 6))) vNil) (e := [PP (f :: L), .sh (RDn N), .sh (.int sz), .ow .l [], .no, .no]) (e1 := [PP L, .sh (RDn N), .sh (.int sz), .ow .l [], .no, .no]) (j := n) (by simp [e_popI, fpop2, e3, o_rem, hn]) (by omega) (by omega)
  rw [Int.toNat_natCast] at r
  simp only [List.length_map, List.length_range] at lt kl
  obtain ⟨b0, E0, N0, hb0, hb⟩ := tends (fun t ht => (ok t ht).ok)
  cases b0 with
  | true =>
    refine ⟨T, k + 1, by omega, by simp [fn__law_track, b__law_track, e_runI, insL0, pp_of, r, h1, N0, fri_of, friPP], ok, by omega, ng, fun u hu => ?_⟩
    rw [hb0 rfl] at hu
    simp at hu
  | false =>
    obtain ⟨us, u, eu, al, oku⟩ := hb rfl
    obtain ⟨w, a0, g1, g2⟩ := gap_at u
    have fu := u.flat
    cases hg : u.isGap with
    | false =>
      rw [hg] at g1
      refine ⟨T, k + 1, by omega, by simp [fn__law_track, b__law_track, e_runI, insL0, pp_of, r, h1, N0, al, a0, g1, fri_of, friPP], ok, by omega, ng, fun v hv => ?_⟩
      rw [eu] at hv
      simp at hv
      rw [← hv]
      exact hg
    | true =>
      rw [hg] at g1
      subst eu
      have pp : (us ++ [u]).map Itm.d = us.map Itm.d ++ [u.d] := by simp
      have N1 : opNe (.lst (us.map Itm.d ++ [u.d])) (.lst []) = some (.bl true) := by rw [← pp]; exact N0
      rw [pp] at h1 al
      refine ⟨us, k + 1, by omega, by simp [fn__law_track, b__law_track, e_runI, insL0, pp_of, r, h1, N1, al, a0, g1, fu, fri_of, friPP, e_popI, fpop_o], fun t ht => ok t (by simp [ht]), by simp at lt; omega, ng.init, fun v hv => ?_⟩
      have i1 := (List.getElem?_eq_some_iff.mp hv).1
      have q := ng (us.length - 1) v u (by rw [List.getElem?_append_left i1]; exact hv) (by rw [show us.length - 1 + 1 = us.length by omega, List.getElem?_append_right (by omega)]; simp)
      cases gv : v.isGap with
      | false => rfl
      | true => rw [q gv] at hg; cases hg

/-! where a moment lies (out of I_lies) -/
theorem fnd_some {m : Int} : ∀ {ts : List Itm} {i : Nat} {b : Int} {q : Nat} {x : Int}, fnd m i b ts = some (q, x) → ∃ k t, q = i + k ∧ ts[k]? = some t ∧ t.isMix = false ∧ 0 ≤ x ∧ x < t.n ∧ m = b + bg k ts + x
  | [], i, b, q, x, h => by cases h
  | t :: ts, i, b, q, x, h => by
    rw [fnd] at h
    by_cases c : t.isMix = false ∧ b ≤ m ∧ m < b + t.n
    · rw [if_pos c] at h
      cases h
      exact ⟨0, t, rfl, rfl, c.1, by omega, by omega, by simp [bg]; omega⟩
    · rw [if_neg c] at h
      obtain ⟨k, u, e1, e2, e3, e4, e5, e6⟩ := fnd_some h
      exact ⟨k + 1, u, by omega, by simpa using e2, e3, e4, e5, by rw [bg]; omega⟩
theorem td_at {ts : List Itm} {p : Nat} {t : Itm} {i : Int} (h : ts[p]? = some t) (hi : i = (p : Int)) : atD (ts.map Itm.d) i = some t.d := at_of (n := p) hi (by simp [h])

/-! k23: tellings, level by level (printed by k23p.py) -/
def tel (nt : Str → Int → List D) (T : List Itm) (m : Int) : List D := match fnd m 0 0 T with
  | none => []
  | some (i, x) => match T[i]? with
    | some (.nest z s _) => nt z (s + x)
    | some (.clip z a b c d _) => [.tup [.str z, .int (pic a b c d x), .tup [.int 1, .int 1]]]
    | _ => []
def tat (nt : Str → Int → List D) : List (List Itm) → Int → List D
  | [], _ => []
  | T :: TT, m => match tel nt T m with
    | [] => tat nt TT m
    | d :: ds => d :: ds
theorem spans_no : ∀ {b : Int} {T : List Itm}, (∀ t ∈ T, t.isMix = false) → spans b T = []
  | _, [], _ => rfl
  | b, t :: T, h => by
    have ih := fun b => spans_no (b := b) fun u hu => h u (List.mem_cons_of_mem _ hu)
    have nt := h t List.mem_cons_self
    cases t with
    | mix n => cases nt
    | gap n => exact ih _
    | nest z s n => exact ih _
    | clip z a b c d n => exact ih _
/-- a list of tellings -/
structure TL (l : List D) : Prop where
  e : ∀ d ∈ l, ∃ (z : Str) (i : Int), strS z = true ∧ d = .tup [.str z, .int i, .tup [.int 1, .int 1]]
  n : l.length ≤ 1
theorem TL.eq {l : List D} (h : TL l) : D.eqok 20 (.lst l) = true := by
  rw [eqok_lst]
  refine eqoks_all fun d hd => ?_
  obtain ⟨z, i, sz, rfl⟩ := h.e d hd
  simp [sz]
theorem TL.nil : TL [] := ⟨fun d hd => (by cases hd), by simp⟩
theorem TL.ne {l : List D} (h : TL l) : opNe (.lst l) (.lst []) = some (.bl (!l.isEmpty)) := by
  rw [o_ne h.eq (by simp)]
  cases l <;> simp
structure TrK (T : List Itm) : Prop where
  nm : ∀ t ∈ T, t.isMix = false
  ok : ∀ t ∈ T, t.Ok 40
  len : T.length ≤ 100
theorem tel_tl {nt : Str → Int → List D} {T : List Itm} (k : TrK T) (h : ∀ z s n, Itm.nest z s n ∈ T → ∀ x, 0 ≤ x → x < n → TL (nt z (s + x))) {m : Int} : TL (tel nt T m) := by
  unfold tel
  split
  · exact .nil
  · rename_i i x f
    obtain ⟨q, t, e1, e2, e3, e4, e5, e6⟩ := fnd_some f
    have iq : i = q := by omega
    subst iq
    rw [e2]
    cases t with
    | gap n => exact .nil
    | mix n => exact .nil
    | nest z s n => exact h z s n (List.mem_of_getElem? e2) x e4 e5
    | clip z a b c d n =>
      have o := k.ok _ (List.mem_of_getElem? e2)
      refine ⟨fun d hd => ?_, by simp⟩
      rw [List.mem_singleton.mp hd]
      exact ⟨z, _, o.1, rfl⟩
theorem tat_tl {nt : Str → Int → List D} : ∀ {TT : List (List Itm)}, (∀ T ∈ TT, TrK T ∧ ∀ z s n, Itm.nest z s n ∈ T → ∀ x, 0 ≤ x → x < n → TL (nt z (s + x))) → ∀ {m : Int}, TL (tat nt TT m)
  | [], _, _ => .nil
  | T :: TT, h, m => by
    have a := tel_tl (h T List.mem_cons_self).1 (h T List.mem_cons_self).2 (m := m)
    have b := tat_tl (TT := TT) (fun U hU => h U (List.mem_cons_of_mem _ hU)) (m := m)
    unfold tat
    cases e : tel nt T m with
    | nil => exact b
    | cons d ds => rw [e] at a; exact a

theorem on2 {nt : Str → Int → List D} {T : List Itm} {m : Int} {R : D} (k : TrK T) (h : ∀ z s n, Itm.nest z s n ∈ T → ∀ x, 0 ≤ x → x < n → fn_told_at__1 [R, .str z, .int (s + x)] = .ok (.lst (nt z (s + x)))) : fn_told_on__2 [TD T, .int m, R] = .ok (.lst (tel nt T m)) := by
  have sp := spans_ok (ts := T) (by have := k.len; omega)
  rw [spans_no k.nm] at sp
  have fa := at_ok (ts := T) (m := m)
  have f0 : ∀ e, forL (gNam 3) b_told_on__2_1 [] e = .nx e := fun _ => rfl
  simp only [List.map_nil] at sp
  unfold tel
  split
  · rename_i f
    rw [f] at fa
    generalize TD T = X at *
    simp [fn_told_on__2, b_told_on__2, sp, f0, fa, fndD]
  · rename_i i x f
    rw [f] at fa
    obtain ⟨q, t, e1, e2, e3, e4, e5, e6⟩ := fnd_some f
    have iq : i = q := by omega
    subst iq
    have a1 := td_at e2 (i := (i : Int)) rfl
    rw [e2]
    cases t with
    | mix n => cases e3
    | gap n => simp [fn_told_on__2, b_told_on__2, sp, f0, fa, fndD, a1, dG]
    | nest z s n =>
      have hc := h z s n (List.mem_of_getElem? e2) x e4 e5
      simp [fn_told_on__2, b_told_on__2, sp, f0, fa, fndD, a1, dN, hc]
    | clip z a b c d n =>
      have o := k.ok _ (List.mem_of_getElem? e2)
      have i2 : opIx (Itm.clip z a b c d n).d (.int 1) = some (.str z) := by simp [dC]
      have i0 : opIx (Itm.clip z a b c d n).d (.int 0) = some (.str "clip") := by simp [dC]
      have e5 : x < n := e5
      have p1 : fn_picture_at [(Itm.clip z a b c d n).d, .int x] = .ok (.int (pic a b c d x)) := pic_ok o.2.1 o.2.2.1 (o.2.2.2.2.le (by omega)) (by decide)
      simp [fn_told_on__2, b_told_on__2, sp, f0, fa, fndD, a1, i0, i2, p1, g_WHOLE]
theorem at2_loop {nt : Str → Int → List D} {R : D} {z : Str} {m : Int} : ∀ (TT : List (List Itm)) (v3 v4 : Sl), (∀ T ∈ TT, TrK T ∧ (∀ z s n, Itm.nest z s n ∈ T → ∀ x, 0 ≤ x → x < n → fn_told_at__1 [R, .str z, .int (s + x)] = .ok (.lst (nt z (s + x)))) ∧ TL (tel nt T m)) →
    (tat nt TT m = [] ∧ ∃ e', forL (gNam 3) b_told_at__2_1 (TT.map fun T => TD T) [.sh R, .sh (.str z), .sh (.int m), v3, v4] = .nx e') ∨ (∃ e', forL (gNam 3) b_told_at__2_1 (TT.map fun T => TD T) [.sh R, .sh (.str z), .sh (.int m), v3, v4] = .rt (.lst (tat nt TT m)) e')
  | [], v3, v4, _ => .inl ⟨rfl, _, rfl⟩
  | T :: TT, v3, v4, h => by
    obtain ⟨k, hn, tl⟩ := h T List.mem_cons_self
    have o := on2 (nt := nt) (m := m) (R := R) k hn
    have ne := tl.ne
    rw [List.map_cons]
    unfold tat
    cases e : tel nt T m with
    | nil =>
      rw [e] at o ne
      have ne' : opNe (.lst []) (.lst []) = some (.bl false) := ne
      have t : turn (gNam 3) b_told_at__2_1 (TD T) [.sh R, .sh (.str z), .sh (.int m), v3, v4] = .nx [.sh R, .sh (.str z), .sh (.int m), .sh (TD T), .ow .l []] := by
        generalize TD T = X at *
        simp [turn_nam, b_told_at__2_1, o, frz, outD, ne']
      rw [forL_nx t]
      exact at2_loop TT _ _ fun U hU => h U (List.mem_cons_of_mem _ hU)
    | cons d ds =>
      rw [e] at o ne
      have ne' : opNe (.lst (d :: ds)) (.lst []) = some (.bl true) := ne
      right
      refine ⟨_, forL_rt (e2 := [.sh R, .sh (.str z), .sh (.int m), .sh (TD T), .no]) ?_⟩
      generalize TD T = X at *
      simp [turn_nam, b_told_at__2_1, o, frz, outD, ne']
theorem at2 {nt : Str → Int → List D} {R TB X : D} {z : Str} {m : Int} {TT : List (List Itm)} (h1 : opIx R (.int 1) = some TB) (h2 : opIx TB (.str z) = some (.tup [.lst (TT.map fun T => TD T), X])) (h : ∀ T ∈ TT, TrK T ∧ (∀ z s n, Itm.nest z s n ∈ T → ∀ x, 0 ≤ x → x < n → fn_told_at__1 [R, .str z, .int (s + x)] = .ok (.lst (nt z (s + x)))) ∧ TL (tel nt T m)) : fn_told_at__2 [R, .str z, .int m] = .ok (.lst (tat nt TT m)) := by
  rcases at2_loop (R := R) (z := z) TT .no .no h with ⟨e, e', q⟩ | ⟨e', q⟩
  · rw [e]
    simp [fn_told_at__2, b_told_at__2, h1, h2, q]
  · simp [fn_told_at__2, b_told_at__2, h1, h2, q]
theorem on3 {nt : Str → Int → List D} {T : List Itm} {m : Int} {R : D} (k : TrK T) (h : ∀ z s n, Itm.nest z s n ∈ T → ∀ x, 0 ≤ x → x < n → fn_told_at__2 [R, .str z, .int (s + x)] = .ok (.lst (nt z (s + x)))) : fn_told_on__3 [TD T, .int m, R] = .ok (.lst (tel nt T m)) := by
  have sp := spans_ok (ts := T) (by have := k.len; omega)
  rw [spans_no k.nm] at sp
  have fa := at_ok (ts := T) (m := m)
  have f0 : ∀ e, forL (gNam 3) b_told_on__3_1 [] e = .nx e := fun _ => rfl
  simp only [List.map_nil] at sp
  unfold tel
  split
  · rename_i f
    rw [f] at fa
    generalize TD T = X at *
    simp [fn_told_on__3, b_told_on__3, sp, f0, fa, fndD]
  · rename_i i x f
    rw [f] at fa
    obtain ⟨q, t, e1, e2, e3, e4, e5, e6⟩ := fnd_some f
    have iq : i = q := by omega
    subst iq
    have a1 := td_at e2 (i := (i : Int)) rfl
    rw [e2]
    cases t with
    | mix n => cases e3
    | gap n => simp [fn_told_on__3, b_told_on__3, sp, f0, fa, fndD, a1, dG]
    | nest z s n =>
      have hc := h z s n (List.mem_of_getElem? e2) x e4 e5
      simp [fn_told_on__3, b_told_on__3, sp, f0, fa, fndD, a1, dN, hc]
    | clip z a b c d n =>
      have o := k.ok _ (List.mem_of_getElem? e2)
      have i2 : opIx (Itm.clip z a b c d n).d (.int 1) = some (.str z) := by simp [dC]
      have i0 : opIx (Itm.clip z a b c d n).d (.int 0) = some (.str "clip") := by simp [dC]
      have e5 : x < n := e5
      have p1 : fn_picture_at [(Itm.clip z a b c d n).d, .int x] = .ok (.int (pic a b c d x)) := pic_ok o.2.1 o.2.2.1 (o.2.2.2.2.le (by omega)) (by decide)
      simp [fn_told_on__3, b_told_on__3, sp, f0, fa, fndD, a1, i0, i2, p1, g_WHOLE]
theorem at3_loop {nt : Str → Int → List D} {R : D} {z : Str} {m : Int} : ∀ (TT : List (List Itm)) (v3 v4 : Sl), (∀ T ∈ TT, TrK T ∧ (∀ z s n, Itm.nest z s n ∈ T → ∀ x, 0 ≤ x → x < n → fn_told_at__2 [R, .str z, .int (s + x)] = .ok (.lst (nt z (s + x)))) ∧ TL (tel nt T m)) →
    (tat nt TT m = [] ∧ ∃ e', forL (gNam 3) b_told_at__3_1 (TT.map fun T => TD T) [.sh R, .sh (.str z), .sh (.int m), v3, v4] = .nx e') ∨ (∃ e', forL (gNam 3) b_told_at__3_1 (TT.map fun T => TD T) [.sh R, .sh (.str z), .sh (.int m), v3, v4] = .rt (.lst (tat nt TT m)) e')
  | [], v3, v4, _ => .inl ⟨rfl, _, rfl⟩
  | T :: TT, v3, v4, h => by
    obtain ⟨k, hn, tl⟩ := h T List.mem_cons_self
    have o := on3 (nt := nt) (m := m) (R := R) k hn
    have ne := tl.ne
    rw [List.map_cons]
    unfold tat
    cases e : tel nt T m with
    | nil =>
      rw [e] at o ne
      have ne' : opNe (.lst []) (.lst []) = some (.bl false) := ne
      have t : turn (gNam 3) b_told_at__3_1 (TD T) [.sh R, .sh (.str z), .sh (.int m), v3, v4] = .nx [.sh R, .sh (.str z), .sh (.int m), .sh (TD T), .ow .l []] := by
        generalize TD T = X at *
        simp [turn_nam, b_told_at__3_1, o, frz, outD, ne']
      rw [forL_nx t]
      exact at3_loop TT _ _ fun U hU => h U (List.mem_cons_of_mem _ hU)
    | cons d ds =>
      rw [e] at o ne
      have ne' : opNe (.lst (d :: ds)) (.lst []) = some (.bl true) := ne
      right
      refine ⟨_, forL_rt (e2 := [.sh R, .sh (.str z), .sh (.int m), .sh (TD T), .no]) ?_⟩
      generalize TD T = X at *
      simp [turn_nam, b_told_at__3_1, o, frz, outD, ne']
theorem at3 {nt : Str → Int → List D} {R TB X : D} {z : Str} {m : Int} {TT : List (List Itm)} (h1 : opIx R (.int 1) = some TB) (h2 : opIx TB (.str z) = some (.tup [.lst (TT.map fun T => TD T), X])) (h : ∀ T ∈ TT, TrK T ∧ (∀ z s n, Itm.nest z s n ∈ T → ∀ x, 0 ≤ x → x < n → fn_told_at__2 [R, .str z, .int (s + x)] = .ok (.lst (nt z (s + x)))) ∧ TL (tel nt T m)) : fn_told_at__3 [R, .str z, .int m] = .ok (.lst (tat nt TT m)) := by
  rcases at3_loop (R := R) (z := z) TT .no .no h with ⟨e, e', q⟩ | ⟨e', q⟩
  · rw [e]
    simp [fn_told_at__3, b_told_at__3, h1, h2, q]
  · simp [fn_told_at__3, b_told_at__3, h1, h2, q]
theorem on4 {nt : Str → Int → List D} {T : List Itm} {m : Int} {R : D} (k : TrK T) (h : ∀ z s n, Itm.nest z s n ∈ T → ∀ x, 0 ≤ x → x < n → fn_told_at__3 [R, .str z, .int (s + x)] = .ok (.lst (nt z (s + x)))) : fn_told_on [TD T, .int m, R] = .ok (.lst (tel nt T m)) := by
  have sp := spans_ok (ts := T) (by have := k.len; omega)
  rw [spans_no k.nm] at sp
  have fa := at_ok (ts := T) (m := m)
  have f0 : ∀ e, forL (gNam 3) b_told_on_1 [] e = .nx e := fun _ => rfl
  simp only [List.map_nil] at sp
  unfold tel
  split
  · rename_i f
    rw [f] at fa
    generalize TD T = X at *
    simp [fn_told_on, b_told_on, sp, f0, fa, fndD]
  · rename_i i x f
    rw [f] at fa
    obtain ⟨q, t, e1, e2, e3, e4, e5, e6⟩ := fnd_some f
    have iq : i = q := by omega
    subst iq
    have a1 := td_at e2 (i := (i : Int)) rfl
    rw [e2]
    cases t with
    | mix n => cases e3
    | gap n => simp [fn_told_on, b_told_on, sp, f0, fa, fndD, a1, dG]
    | nest z s n =>
      have hc := h z s n (List.mem_of_getElem? e2) x e4 e5
      simp [fn_told_on, b_told_on, sp, f0, fa, fndD, a1, dN, hc]
    | clip z a b c d n =>
      have o := k.ok _ (List.mem_of_getElem? e2)
      have i2 : opIx (Itm.clip z a b c d n).d (.int 1) = some (.str z) := by simp [dC]
      have i0 : opIx (Itm.clip z a b c d n).d (.int 0) = some (.str "clip") := by simp [dC]
      have e5 : x < n := e5
      have p1 : fn_picture_at [(Itm.clip z a b c d n).d, .int x] = .ok (.int (pic a b c d x)) := pic_ok o.2.1 o.2.2.1 (o.2.2.2.2.le (by omega)) (by decide)
      simp [fn_told_on, b_told_on, sp, f0, fa, fndD, a1, i0, i2, p1, g_WHOLE]
theorem at4_loop {nt : Str → Int → List D} {R : D} {z : Str} {m : Int} : ∀ (TT : List (List Itm)) (v3 v4 : Sl), (∀ T ∈ TT, TrK T ∧ (∀ z s n, Itm.nest z s n ∈ T → ∀ x, 0 ≤ x → x < n → fn_told_at__3 [R, .str z, .int (s + x)] = .ok (.lst (nt z (s + x)))) ∧ TL (tel nt T m)) →
    (tat nt TT m = [] ∧ ∃ e', forL (gNam 3) b_told_at_1 (TT.map fun T => TD T) [.sh R, .sh (.str z), .sh (.int m), v3, v4] = .nx e') ∨ (∃ e', forL (gNam 3) b_told_at_1 (TT.map fun T => TD T) [.sh R, .sh (.str z), .sh (.int m), v3, v4] = .rt (.lst (tat nt TT m)) e')
  | [], v3, v4, _ => .inl ⟨rfl, _, rfl⟩
  | T :: TT, v3, v4, h => by
    obtain ⟨k, hn, tl⟩ := h T List.mem_cons_self
    have o := on4 (nt := nt) (m := m) (R := R) k hn
    have ne := tl.ne
    rw [List.map_cons]
    unfold tat
    cases e : tel nt T m with
    | nil =>
      rw [e] at o ne
      have ne' : opNe (.lst []) (.lst []) = some (.bl false) := ne
      have t : turn (gNam 3) b_told_at_1 (TD T) [.sh R, .sh (.str z), .sh (.int m), v3, v4] = .nx [.sh R, .sh (.str z), .sh (.int m), .sh (TD T), .ow .l []] := by
        generalize TD T = X at *
        simp [turn_nam, b_told_at_1, o, frz, outD, ne']
      rw [forL_nx t]
      exact at4_loop TT _ _ fun U hU => h U (List.mem_cons_of_mem _ hU)
    | cons d ds =>
      rw [e] at o ne
      have ne' : opNe (.lst (d :: ds)) (.lst []) = some (.bl true) := ne
      right
      refine ⟨_, forL_rt (e2 := [.sh R, .sh (.str z), .sh (.int m), .sh (TD T), .no]) ?_⟩
      generalize TD T = X at *
      simp [turn_nam, b_told_at_1, o, frz, outD, ne']
theorem at4 {nt : Str → Int → List D} {R TB X : D} {z : Str} {m : Int} {TT : List (List Itm)} (h1 : opIx R (.int 1) = some TB) (h2 : opIx TB (.str z) = some (.tup [.lst (TT.map fun T => TD T), X])) (h : ∀ T ∈ TT, TrK T ∧ (∀ z s n, Itm.nest z s n ∈ T → ∀ x, 0 ≤ x → x < n → fn_told_at__3 [R, .str z, .int (s + x)] = .ok (.lst (nt z (s + x)))) ∧ TL (tel nt T m)) : fn_told_at [R, .str z, .int m] = .ok (.lst (tat nt TT m)) := by
  rcases at4_loop (R := R) (z := z) TT .no .no h with ⟨e, e', q⟩ | ⟨e', q⟩
  · rw [e]
    simp [fn_told_at, b_told_at, h1, h2, q]
  · simp [fn_told_at, b_told_at, h1, h2, q]

/-! k23: the room drawn -/
def rn2 : Itm → Itm
  | .nest _ s n => .nest "deep" s n
  | t => t
def isNst : Itm → Bool
  | .nest _ _ _ => true
  | _ => false
theorem nst_at (t : Itm) : ∃ w, opIx t.d (.int 0) = some w ∧ opEq w (.str "nest") = some (.bl (isNst t)) := by
  cases t <;> exact ⟨_, by simp [Itm.d, clipD]; rfl, by simp [isNst]⟩
theorem rn_turn {S0 S1 S2 S3 S4 v7 S8 S9 : Sl} {U : List Itm} {i : Nat} {t : Itm} (h : U[i]? = some t) : turn (gNam 7) b__law_room_2 (.int (i : Int)) [S0, S1, S2, S3, S4, .tk 1, .ow (.p 1) (U.map Itm.d), v7, S8, S9] = .nx [S0, S1, S2, S3, S4, .tk 1, .ow (.p 1) ((U.set i (rn2 t)).map Itm.d), .sh (.int (i : Int)), S8, S9] := by
  have a1 := td_at h (i := (i : Int)) rfl
  obtain ⟨w, n0, n1⟩ := nst_at t
  have li := (List.getElem?_eq_some_iff.mp h).1
  cases c : isNst t with
  | false =>
    rw [c] at n1
    have e : rn2 t = t := by cases t <;> first | rfl | cases c
    have e2 : U.set i t = U := by
      apply List.ext_getElem?
      intro j
      rw [List.getElem?_set]
      split
      · rename_i z; subst z; first | rw [h, if_pos li] | rw [h]
      · rfl
    rw [e, e2]
    simp [turn_nam, b__law_room_2, frz, outD, a1, n0, n1]
  | true =>
    rw [c] at n1
    cases t with
    | nest z s n =>
      have x1 : ixD (U.map Itm.d).length (i : Int) = some i := by
        unfold ixD
        rw [if_pos (by omega), if_pos (by simp; omega)]
        simp
      have i2 : opIx (Itm.nest z s n).d (.int 2) = some (.int s) := by simp [dN]
      have i3 : opIx (Itm.nest z s n).d (.int 3) = some (.int n) := by simp [dN]
      have e : (rn2 (.nest z s n)).d = .tup [.str "nest", .str "deep", .int s, .int n] := by simp [rn2, dN]
      rw [List.map_set, e]
      simp only [List.length_map] at x1
      simp [turn_nam, b__law_room_2, vSetI, Res.thenS, frz, outD, a1, n0, n1, i2, i3, x1]
    | _ => cases c
theorem rn_body {S0 S1 S2 S3 S4 S8 S9 : Sl} {T : List Itm} (hl : T.length ≤ 100) (v7 : Sl) (hv : clrMs 1 v7 = v7) : ∃ v7', clrMs 1 v7' = v7' ∧ b__law_room_1 [S0, S1, S2, S3, S4, .tk 1, .ow (.p 1) (T.map Itm.d), v7, S8, S9] = .nx [S0, S1, S2, S3, S4, .tk 1, .ow (.p 1) ((T.map rn2).map Itm.d), v7', S8, S9] := by
  obtain ⟨e1, h1, v7', hv', rfl⟩ := loop_at (g := gNam 7) (b := b__law_room_2) (fun i e => ∃ v7, clrMs 1 v7 = v7 ∧ e = [S0, S1, S2, S3, S4, .tk 1, .ow (.p 1) (((T.take i).map rn2 ++ T.drop i).map Itm.d), v7, S8, S9]) ((List.range T.length).map fun (i : Nat) => D.int (i : Int)) [S0, S1, S2, S3, S4, .tk 1, .ow (.p 1) (T.map Itm.d), v7, S8, S9] ⟨v7, hv, by simp⟩ (by
    rintro i d hd e ⟨v, _, rfl⟩
    have il : i < T.length := by
      have := (List.getElem?_eq_some_iff.mp hd).1
      simpa using this
    rw [List.getElem?_map] at hd
    rw [List.getElem?_range il] at hd
    cases hd
    have hU : ((T.take i).map rn2 ++ T.drop i)[i]? = some T[i] := by
      rw [List.getElem?_append_right (by simp; omega), List.length_map, List.length_take, Nat.min_eq_left (by omega), Nat.sub_self, List.getElem?_drop, Nat.add_zero, List.getElem?_eq_getElem il]
    refine ⟨_, rn_turn hU, .sh (.int (i : Int)), rfl, ?_⟩
    have e : ((T.take i).map rn2 ++ T.drop i).set i (rn2 T[i]) = (T.take (i + 1)).map rn2 ++ T.drop (i + 1) := by
      rw [List.set_append_right _ _ (by simp; omega), List.length_map, List.length_take, Nat.min_eq_left (by omega), Nat.sub_self, List.drop_eq_getElem_cons il, List.take_succ_eq_append_getElem il, List.map_append]
      simp
      try (rw [List.drop_eq_getElem_cons il]; rfl)
    rw [e])
  simp only [List.length_map, List.length_range, List.take_length, List.drop_length, List.append_nil] at h1
  refine ⟨v7', hv', ?_⟩
  have rg := rng1_of (m := vCons (vBor (vBf bfLen (vCons (vVar 6) vNil))) vNil) (e := [S0, S1, S2, S3, S4, .tk 1, .ow (.p 1) (T.map Itm.d), v7, S8, S9]) (e1 := [S0, S1, S2, S3, S4, .tk 1, .ow (.p 1) (T.map Itm.d), v7, S8, S9]) (j := (T.length : Int)) (by
    have bl : bfLen [.lst (T.map Itm.d)] = some (.int (T.length : Int)) := by simp [bfLen, vmax_eq]
    simp [frz, outD, bl]) (by omega) (by omega)
  rw [Int.toNat_natCast] at rg
  simp [b__law_room_1, rg, h1]
theorem forM_nx {n i j m k : Nat} {π : List Nat} {sh : Sh} {b : MS} {d : D} {e e1 : Env} {es es' : List D} (g : getP (π ++ [k]) d = some (.lst es)) (hb : b ((e.set j (.ow (.p n) es)).set i (.tk n)) = .nx e1) (h1 : e1[i]? = some (.tk n)) (h2 : e1[j]? = some (.ow (.p n) es')) : forM n i j π sh b (m + 1) k d e = forM n i j π sh b m (k + 1) (setP (π ++ [k]) d (.lst es')) (clrM n e1) := by
  rw [forM, g]
  simp only [hb, h1, h2, and_self, if_true]
theorem rn_forM {S0 S1 S2 S3 S4 S8 S9 : Sl} {T1 T2 : List Itm} {X : D} (h1 : T1.length ≤ 100) (h2 : T2.length ≤ 100) (c0 : clrMs 1 S0 = S0) (c1 : clrMs 1 S1 = S1) (c2 : clrMs 1 S2 = S2) (c3 : clrMs 1 S3 = S3) (c4 : clrMs 1 S4 = S4) (c8 : clrMs 1 S8 = S8) (c9 : clrMs 1 S9 = S9) : ∃ v7, vForM 1 5 6 (vPS 5 (vP0 5) (vC (.int 0))) b__law_room_1 [S0, S1, S2, S3, S4, .tr shTB (.tup [.lst [TD T1, TD T2], X]), .no, .no, S8, S9] = .nx [S0, S1, S2, S3, S4, .tr shTB (.tup [.lst [TD (T1.map rn2), TD (T2.map rn2)], X]), .no, v7, S8, S9] := by
  obtain ⟨v7, q7, b1⟩ := rn_body (S0 := S0) (S1 := S1) (S2 := S2) (S3 := S3) (S4 := S4) (S8 := S8) (S9 := S9) h1 .no rfl
  obtain ⟨w7, r7, b2⟩ := rn_body (S0 := S0) (S1 := S1) (S2 := S2) (S3 := S3) (S4 := S4) (S8 := S8) (S9 := S9) h2 v7 q7
  refine ⟨w7, ?_⟩
  have p := p_at (i := 5) (e := [S0, S1, S2, S3, S4, .tr shTB (.tup [.lst [TD T1, TD T2], X]), .no, .no, S8, S9]) (a := .lst [TD T1, TD T2]) (b := X) (j := 0) rfl (by decide)
  have p' : vPS 5 (vP0 5) (vC (.int 0)) [S0, S1, S2, S3, S4, .tr shTB (.tup [.lst [TD T1, TD T2], X]), .no, .no, S8, S9] = .ok [0] [S0, S1, S2, S3, S4, .tr shTB (.tup [.lst [TD T1, TD T2], X]), .no, .no, S8, S9] := p
  have ls : lstAt (.l .s) [0] shTB (.tup [.lst [TD T1, TD T2], X]) = some [TD T1, TD T2] := rfl
  have cl : clrM 1 [S0, S1, S2, S3, S4, .no, .no, .no, S8, S9] = [S0, S1, S2, S3, S4, .no, .no, .no, S8, S9] := by
    show [clrMs 1 S0, clrMs 1 S1, clrMs 1 S2, clrMs 1 S3, clrMs 1 S4, Sl.no, Sl.no, Sl.no, clrMs 1 S8, clrMs 1 S9] = _
    rw [c0, c1, c2, c3, c4, c8, c9]
  have cl1 : clrM 1 [S0, S1, S2, S3, S4, .tk 1, .ow (.p 1) ((T1.map rn2).map Itm.d), v7, S8, S9] = [S0, S1, S2, S3, S4, .no, .no, v7, S8, S9] := by
    show [clrMs 1 S0, clrMs 1 S1, clrMs 1 S2, clrMs 1 S3, clrMs 1 S4, Sl.no, Sl.no, clrMs 1 v7, clrMs 1 S8, clrMs 1 S9] = _
    rw [c0, c1, c2, c3, c4, c8, c9, q7]
  have cl2 : clrM 1 [S0, S1, S2, S3, S4, .tk 1, .ow (.p 1) ((T2.map rn2).map Itm.d), w7, S8, S9] = [S0, S1, S2, S3, S4, .no, .no, w7, S8, S9] := by
    show [clrMs 1 S0, clrMs 1 S1, clrMs 1 S2, clrMs 1 S3, clrMs 1 S4, Sl.no, Sl.no, clrMs 1 w7, clrMs 1 S8, clrMs 1 S9] = _
    rw [c0, c1, c2, c3, c4, c8, c9, r7]
  have g1 : getP ([0] ++ [0]) (.tup [.lst [TD T1, TD T2], X]) = some (TD T1) := rfl
  have s1 : setP ([0] ++ [0]) (.tup [.lst [TD T1, TD T2], X]) (TD (T1.map rn2)) = .tup [.lst [TD (T1.map rn2), TD T2], X] := rfl
  have g2 : getP ([0] ++ [1]) (.tup [.lst [TD (T1.map rn2), TD T2], X]) = some (TD T2) := rfl
  have s2 : setP ([0] ++ [1]) (.tup [.lst [TD (T1.map rn2), TD T2], X]) (TD (T2.map rn2)) = .tup [.lst [TD (T1.map rn2), TD (T2.map rn2)], X] := rfl
  have go : forM 1 5 6 [0] shTB b__law_room_1 2 0 (.tup [.lst [TD T1, TD T2], X]) [S0, S1, S2, S3, S4, .no, .no, .no, S8, S9] = .nx [S0, S1, S2, S3, S4, .tr shTB (.tup [.lst [TD (T1.map rn2), TD (T2.map rn2)], X]), .no, w7, S8, S9] := by
    have q1 := forM_nx (n := 1) (i := 5) (j := 6) (m := 1) (k := 0) (π := [0]) (sh := shTB) (b := b__law_room_1) (e := [S0, S1, S2, S3, S4, .no, .no, .no, S8, S9]) g1 b1 rfl rfl
    have q2 := forM_nx (n := 1) (i := 5) (j := 6) (m := 0) (k := 1) (π := [0]) (sh := shTB) (b := b__law_room_1) (e := [S0, S1, S2, S3, S4, .no, .no, v7, S8, S9]) g2 b2 rfl rfl
    rw [cl1] at q1
    rw [cl2] at q2
    refine q1.trans ?_
    have s1' : setP ([0] ++ [0]) (.tup [.lst [TD T1, TD T2], X]) (.lst ((T1.map rn2).map Itm.d)) = .tup [.lst [TD (T1.map rn2), TD T2], X] := s1
    have s2' : setP ([0] ++ [1]) (.tup [.lst [TD (T1.map rn2), TD T2], X]) (.lst ((T2.map rn2).map Itm.d)) = .tup [.lst [TD (T1.map rn2), TD (T2.map rn2)], X] := s2
    rw [s1']
    refine q2.trans ?_
    rw [s2']
    rfl
  obtain ⟨e, he⟩ : ∃ e : Env, e = [S0, S1, S2, S3, S4, .tr shTB (.tup [.lst [TD T1, TD T2], X]), .no, .no, S8, S9] := ⟨_, rfl⟩
  have h5 : e[5]? = some (.tr shTB (.tup [.lst [TD T1, TD T2], X])) := by rw [he]; rfl
  have hl : 6 < e.length := by rw [he]; simp
  have hc : clrM 1 (e.set 5 .no) = [S0, S1, S2, S3, S4, .no, .no, .no, S8, S9] := by rw [he]; exact cl
  rw [← he] at p' ⊢
  unfold vForM
  simp only [p', Res.thenS, h5, ls, hl, if_true, hc]
  exact go

/-! k23: what is due, what kinds, the copy -/
def oneI (nt : Str → Int → List D) : Itm → Int → List D
  | .nest z s _, x => nt z (s + x)
  | .clip z a b c d _, x => [.tup [.str z, .int (pic a b c d x), .tup [.int 1, .int 1]]]
  | _, _ => []
def telB (nt : Str → Int → List D) (m : Int) : Int → List Itm → List D
  | _, [] => []
  | b, t :: T => if b ≤ m ∧ m < b + t.n then oneI nt t (m - b) else telB nt m (b + t.n) T
theorem tel_b {nt : Str → Int → List D} {m : Int} : ∀ (T : List Itm) (i : Nat) (b : Int), (∀ t ∈ T, t.isMix = false) → (match fnd m i b T with
    | none => []
    | some (j, x) => match T[j - i]? with
      | some (.nest z s _) => nt z (s + x)
      | some (.clip z a b c d _) => [.tup [.str z, .int (pic a b c d x), .tup [.int 1, .int 1]]]
      | _ => []) = telB nt m b T
  | [], i, b, _ => rfl
  | t :: T, i, b, h => by
    have nt' := h t List.mem_cons_self
    have ih := tel_b (nt := nt) (m := m) T (i + 1) (b + t.n) fun u hu => h u (List.mem_cons_of_mem _ hu)
    have rm := Itm.room_n nt'
    rw [fnd, telB]
    by_cases c : b ≤ m ∧ m < b + t.n
    · rw [if_pos ⟨nt', c.1, c.2⟩, if_pos c]
      show (match (t :: T)[i - i]? with
        | some (.nest z s _) => nt z (s + (m - b))
        | some (.clip z a b' c d _) => _
        | _ => []) = _
      rw [Nat.sub_self]
      cases t <;> rfl
    · rw [if_neg (fun z => c z.2), if_neg c, ← ih, rm]
      cases f : fnd m (i + 1) (b + t.n) T with
      | none => rfl
      | some p =>
        obtain ⟨j, x⟩ := p
        obtain ⟨q, u, e1, _⟩ := fnd_some f
        show (match (t :: T)[j - i]? with
          | some (.nest z s _) => nt z (s + x)
          | some (.clip z a b c d _) => _
          | _ => []) = _
        rw [show j - i = (j - (i + 1)) + 1 by omega, List.getElem?_cons_succ]
theorem tel_eq {nt : Str → Int → List D} {T : List Itm} {m : Int} (h : ∀ t ∈ T, t.isMix = false) : tel nt T m = telB nt m 0 T := by
  rw [← tel_b (nt := nt) (m := m) T 0 0 h]
  unfold tel
  cases fnd m 0 0 T with
  | none => rfl
  | some p => rfl
theorem mulD {n m : Nat} {x y : Int} (h1 : Bd n x) (h2 : Bd m y) (q1 : n ≤ 400000 := by decide) (q2 : m ≤ 400000 := by decide) : opMul (.int x) (.int y) = some (.int (x * y)) := o_mul ((h1.mono q1).mulOk (h2.mono q2))
theorem due_loop {nt : Str → Int → List D} {R X : D} {m : Int} : ∀ (T : List Itm) (b : Int) (v4 v5 : Sl), (∀ t ∈ T, t.isMix = false ∧ t.Ok 40) → (∀ z s n, Itm.nest z s n ∈ T → ∀ x, 0 ≤ x → x < n → fn_told_at [R, .str z, .int (s + x)] = .ok (.lst (nt z (s + x)))) →
    (telB nt m b T = [] ∧ ∃ e', forL (gNam 4) b__law_due_1 (T.map Itm.d) [.sh X, .sh (.int m), .sh R, .sh (.int b), v4, v5] = .nx e') ∨ (∃ e', forL (gNam 4) b__law_due_1 (T.map Itm.d) [.sh X, .sh (.int m), .sh R, .sh (.int b), v4, v5] = .rt (.lst (telB nt m b T)) e')
  | [], b, v4, v5, _, _ => .inl ⟨rfl, _, rfl⟩
  | t :: T, b, v4, v5, h, hn => by
    obtain ⟨nm, ok⟩ := h t List.mem_cons_self
    have tl := t.last
    rw [List.map_cons, telB]
    by_cases c1 : b ≤ m
    · by_cases c2 : m < b + t.n
      · rw [if_pos ⟨c1, c2⟩]
        right
        have q1 : decide (b ≤ m) = true := decide_eq_true c1
        have q2 : decide (m < b + t.n) = true := decide_eq_true c2
        cases t with
        | mix n => cases nm
        | gap n =>
          refine ⟨_, forL_rt (e2 := [.sh X, .sh (.int m), .sh R, .sh (.int b), .sh (Itm.gap n).d, v5]) ?_⟩
          have c2 : m < b + n := c2
          simp [turn_nam, b__law_due_1, c1, c2, dG, oneI]
        | nest z s n =>
          have hc := hn z s n (by simp) (m - b) (by omega) (by have c2 : m < b + n := c2; omega)
          rw [show s + (m - b) = s + m - b by omega] at hc
          refine ⟨_, forL_rt (e2 := [.sh X, .sh (.int m), .sh R, .sh (.int b), .sh (Itm.nest z s n).d, v5]) ?_⟩
          have c2 : m < b + n := c2
          have e : oneI nt (.nest z s n) (m - b) = nt z (s + m - b) := by show nt z (s + (m - b)) = _; rw [show s + (m - b) = s + m - b by omega]
          rw [e]
          simp [turn_nam, b__law_due_1, c1, c2, dN, hc]
        | clip z a b' c d n =>
          have c2 : m < b + n := c2
          have f1 := ok.2.1
          have f2 := ok.2.2.1
          have bx : Bd 40 (m - b) := ok.2.2.2.2.le (by omega)
          have bd : 0 < b' * d := Int.mul_pos f1.r.1 f2.r.1
          have m1 := mulD f1.bp f2.bq
          have m2 := mulD bx f2.bp
          have m3 := mulD (bx.mul f2.bp) f1.bq
          have m4 := mulD f1.bq f2.bq
          have dv : opFdiv (.int (a * d + (m - b) * c * b')) (.int (b' * d)) = some (.int ((a * d + (m - b) * c * b') / (b' * d))) := o_div bd (((f1.bq.mul f2.bq).mono (show _ ≤ 8000 by decide)).divOk (by omega))
          have e : oneI nt (.clip z a b' c d n) (m - b) = [.tup [.str z, .int ((a * d + (m - b) * c * b') / (b' * d)), .tup [.int 1, .int 1]]] := rfl
          have i0 : opIx (Itm.clip z a b' c d n).d (.int 0) = some (.str "clip") := by simp [dC]
          have i1 : opIx (Itm.clip z a b' c d n).d (.int 1) = some (.str z) := by simp [dC]
          have i2 : opIx (Itm.clip z a b' c d n).d (.int 2) = some (.tup [.int a, .int b']) := by simp [dC]
          have i3 : opIx (Itm.clip z a b' c d n).d (.int 3) = some (.tup [.int c, .int d]) := by simp [dC]
          have i4 : opIx (Itm.clip z a b' c d n).d (.int (-1)) = some (.int n) := tl
          rw [e]
          refine ⟨_, forL_rt (e2 := [.sh X, .sh (.int m), .sh R, .sh (.int b), .sh (Itm.clip z a b' c d n).d, .sh (.int (a * d + (m - b) * c * b'))]) ?_⟩
          generalize (Itm.clip z a b' c d n).d = TT' at *
          simp [turn_nam, b__law_due_1, c1, c2, i0, i1, i2, i3, i4, m1, m2, m3, m4, dv]
      · rw [if_neg (fun z => c2 z.2)]
        have run : turn (gNam 4) b__law_due_1 t.d [.sh X, .sh (.int m), .sh R, .sh (.int b), v4, v5] = .nx [.sh X, .sh (.int m), .sh R, .sh (.int (b + t.n)), .sh t.d, v5] := by
          simp [turn_nam, b__law_due_1, tl, c1, c2]
        rw [forL_nx run]
        exact due_loop T _ _ _ (fun u hu => h u (List.mem_cons_of_mem _ hu)) fun z s n hz => hn z s n (List.mem_cons_of_mem _ hz)
    · rw [if_neg (fun z => c1 z.1)]
      have run : turn (gNam 4) b__law_due_1 t.d [.sh X, .sh (.int m), .sh R, .sh (.int b), v4, v5] = .nx [.sh X, .sh (.int m), .sh R, .sh (.int (b + t.n)), .sh t.d, v5] := by
        simp [turn_nam, b__law_due_1, tl, c1]
      rw [forL_nx run]
      exact due_loop T _ _ _ (fun u hu => h u (List.mem_cons_of_mem _ hu)) fun z s n hz => hn z s n (List.mem_cons_of_mem _ hz)
theorem due_ok {nt : Str → Int → List D} {T : List Itm} {m : Int} {R : D} (k : TrK T) (hn : ∀ z s n, Itm.nest z s n ∈ T → ∀ x, 0 ≤ x → x < n → fn_told_at [R, .str z, .int (s + x)] = .ok (.lst (nt z (s + x)))) : fn__law_due [TD T, .int m, R] = .ok (.lst (tel nt T m)) := by
  rw [tel_eq k.nm]
  rcases due_loop (X := TD T) (m := m) T 0 .no .no (fun t ht => ⟨k.nm t ht, k.ok t ht⟩) hn with ⟨e, e', q⟩ | ⟨e', q⟩
  · rw [e]
    simp [fn__law_due, b__law_due, q]
  · simp [fn__law_due, b__law_due, q]
theorem kinds_ok {l : List D} (h : TL l) : fn__law_kinds [.lst l] = .ok (.bl true) := by
  have i0 : opIsi "list" (.lst l) = some (.bl true) := rfl
  cases l with
  | nil => 
    have f0 : ∀ e, forL (gNam 1) b__law_kinds_1 [] e = .nx e := fun _ => rfl
    simp [fn__law_kinds, b__law_kinds, i0, f0]
  | cons d l =>
    cases l with
    | cons d' l => have := h.n; simp at this
    | nil =>
      obtain ⟨z, i, sz, rfl⟩ := h.e d (by simp)
      have t1 : opIsi "tuple" (.tup [.str z, .int i, .tup [.int 1, .int 1]]) = some (.bl true) := rfl
      have t2 : opIsi "str" (.str z) = some (.bl true) := rfl
      have t3 : opIsi "int" (.int i) = some (.bl true) := rfl
      have t4 : opIsi "bool" (.int i) = some (.bl false) := rfl
      have t5 : opIsi "tuple" (.tup [.int 1, .int 1]) = some (.bl true) := rfl
      have run : turn (gNam 1) b__law_kinds_1 (.tup [.str z, .int i, .tup [.int 1, .int 1]]) [.sh (.lst [.tup [.str z, .int i, .tup [.int 1, .int 1]]]), .no] = .nx [.sh (.lst [.tup [.str z, .int i, .tup [.int 1, .int 1]]]), .sh (.tup [.str z, .int i, .tup [.int 1, .int 1]])] := by
        simp [turn_nam, b__law_kinds_1, t1, t2, t3, t4, t5]
      have lp : forL (gNam 1) b__law_kinds_1 [.tup [.str z, .int i, .tup [.int 1, .int 1]]] [.sh (.lst [.tup [.str z, .int i, .tup [.int 1, .int 1]]]), .no] = .nx [.sh (.lst [.tup [.str z, .int i, .tup [.int 1, .int 1]]]), .sh (.tup [.str z, .int i, .tup [.int 1, .int 1]])] := by
        rw [forL_nx run]; rfl
      simp [fn__law_kinds, b__law_kinds, i0, lp]

/-! k23: the room, copied, drawn -/
abbrev TTk (ts : List (List Itm)) : List D := ts.map fun T => TD T
def tb0 (ts : List (List Itm)) : D := .tup [.lst (TTk ts), .lst []]
def tb3 (A B C : D) : D := .dct [.inr "top", .inr "low", .inr "deep"] [A, B, C]
def rmD (N : Int) (A B C : D) : D := .tup [RDn N, tb3 A B C]
theorem n_tl : ("top" : Str) ≠ "low" ∧ ("top" : Str) ≠ "deep" ∧ ("low" : Str) ≠ "deep" ∧ ("low" : Str) ≠ "top" ∧ ("deep" : Str) ≠ "top" ∧ ("deep" : Str) ≠ "low" := by decide +kernel
theorem cp_turn {R : D} {ks : List Ky} {ds : List D} {z : Str} {ts : List (List Itm)} {v2 v3 : Sl} (hl : ts.length ≤ 100) (hk : ks.length ≤ 100) : turn (gTup' (gCon (gNam 2) (gCon (gNam 3) gNil'))) b__law_copied_1 (.tup [.str z, tb0 ts]) [.sh R, .ow .d [.dct ks ds], v2, v3, .no] = .nx [.sh R, .ow .d [.dct (putD ks ds (.inr z) (tb0 ts)).1 (putD ks ds (.inr z) (tb0 ts)).2], .sh (.str z), .sh (tb0 ts), .no] := by
  have q := vLc_map (it := vSeqI (vOp opIx (vVar 3) (vC (.int 0)))) (g := gNam 4) (t := vYes) (el := el__law_copied_2) (own := [4]) (e := [.sh R, .ow .d [.dct ks ds], .sh (.str z), .sh (tb0 ts), .no]) (e0 := [.sh R, .ow .d [.dct ks ds], .sh (.str z), .sh (tb0 ts), .no]) (e1 := [.sh R, .ow .d [.dct ks ds], .sh (.str z), .sh (tb0 ts), .no]) (ds := TTk ts) (fun d => d) (by simp [tb0]) (by simp) (by
    intro d hd
    obtain ⟨t, _, rfl⟩ := List.mem_map.mp hd
    exact ⟨[.sh R, .ow .d [.dct ks ds], .sh (.str z), .sh (tb0 ts), .sh (TD t)], by simp, by simp, by simp [el__law_copied_2], by simp⟩) (by simp) (by simp; omega)
  rw [List.map_id'] at q
  have x1 : opIx (tb0 ts) (.int 1) = some (.lst []) := by simp [tb0]
  have ev : vTupD (vCons (vOf (vLc (vSeqI (vOp opIx (vVar 3) (vC (.int 0)))) (gNam 4) vYes el__law_copied_2 [4])) (vCons (vOf (vBl bfListK (vCons (vOp opIx (vVar 3) (vC (.int 1))) vNil))) vNil)) [.sh R, .ow .d [.dct ks ds], .sh (.str z), .sh (tb0 ts), .no] = .ok (tb0 ts) [.sh R, .ow .d [.dct ks ds], .sh (.str z), .sh (tb0 ts), .no] := by
    have e0 : (.tup [.lst (TTk ts), .lst []] : D) = tb0 ts := rfl
    generalize tb0 ts = Y at *
    generalize TTk ts = tt at *
    simp [q, x1, e0]
  have st := setK_of (i := 1) (ix := vVar 2) (a := vTupD (vCons (vOf (vLc (vSeqI (vOp opIx (vVar 3) (vC (.int 0)))) (gNam 4) vYes el__law_copied_2 [4])) (vCons (vOf (vBl bfListK (vCons (vOp opIx (vVar 3) (vC (.int 1))) vNil))) vNil))) (e := [.sh R, .ow .d [.dct ks ds], .sh (.str z), .sh (tb0 ts), .no]) (ks := ks) (ds := ds) (k := .inr z) (d := tb0 ts) (kd := .str z) (e1 := [.sh R, .ow .d [.dct ks ds], .sh (.str z), .sh (tb0 ts), .no]) (e2 := [.sh R, .ow .d [.dct ks ds], .sh (.str z), .sh (tb0 ts), .no]) ev rfl (by simp) rfl rfl (by omega)
  generalize tb0 ts = Y at *
  simp [turn, b__law_copied_1, st]
theorem copied_ok {N : Int} {A B C : List (List Itm)} (hA : A.length ≤ 100) (hB : B.length ≤ 100) (hC : C.length ≤ 100) : fn__law_copied [rmD N (tb0 A) (tb0 B) (tb0 C)] = .ok (rmD N (tb0 A) (tb0 B) (tb0 C)) := by
  obtain ⟨n1, n2, n3, n4, n5, n6⟩ := n_tl
  have t1 := cp_turn (R := rmD N (tb0 A) (tb0 B) (tb0 C)) (ks := []) (ds := []) (z := "top") (v2 := .no) (v3 := .no) hA (by simp)
  have t2 := cp_turn (R := rmD N (tb0 A) (tb0 B) (tb0 C)) (ks := [.inr "top"]) (ds := [tb0 A]) (z := "low") (v2 := .sh (.str "top")) (v3 := .sh (tb0 A)) hB (by simp)
  have t3 := cp_turn (R := rmD N (tb0 A) (tb0 B) (tb0 C)) (ks := [.inr "top", .inr "low"]) (ds := [tb0 A, tb0 B]) (z := "deep") (v2 := .sh (.str "low")) (v3 := .sh (tb0 B)) hC (by simp)
  have p1 : putD [] [] (.inr "top") (tb0 A) = ([.inr "top"], [tb0 A]) := rfl
  have p2 : putD [.inr "top"] [tb0 A] (.inr "low") (tb0 B) = ([.inr "top", .inr "low"], [tb0 A, tb0 B]) := by simp [putD, n1]
  have p3 : putD [.inr "top", .inr "low"] [tb0 A, tb0 B] (.inr "deep") (tb0 C) = ([.inr "top", .inr "low", .inr "deep"], [tb0 A, tb0 B, tb0 C]) := by simp [putD, n2, n3]
  rw [p1] at t1
  rw [p2] at t2
  rw [p3] at t3
  have lp : forL (gTup' (gCon (gNam 2) (gCon (gNam 3) gNil'))) b__law_copied_1 [.tup [.str "top", tb0 A], .tup [.str "low", tb0 B], .tup [.str "deep", tb0 C]] [.sh (rmD N (tb0 A) (tb0 B) (tb0 C)), .ow .d [.dct [] []], .no, .no, .no] = .nx [.sh (rmD N (tb0 A) (tb0 B) (tb0 C)), .ow .d [.dct [.inr "top", .inr "low", .inr "deep"] [tb0 A, tb0 B, tb0 C]], .sh (.str "deep"), .sh (tb0 C), .no] := by
    rw [forL_nx t1, forL_nx t2, forL_nx t3]; rfl
  have fd : vForDX dItems 0 1 (gTup' (gCon (gNam 2) (gCon (gNam 3) gNil'))) b__law_copied_1 [.sh (rmD N (tb0 A) (tb0 B) (tb0 C)), .ow .d [.dct [] []], .no, .no, .no] = .nx [.sh (rmD N (tb0 A) (tb0 B) (tb0 C)), .ow .d [.dct [.inr "top", .inr "low", .inr "deep"] [tb0 A, tb0 B, tb0 C]], .sh (.str "deep"), .sh (tb0 C), .no] := lp
  have x0 : opIx (rmD N (tb0 A) (tb0 B) (tb0 C)) (.int 0) = some (RDn N) := by simp [rmD]
  have e0 : (.tup [RDn N, .dct [.inr "top", .inr "low", .inr "deep"] [tb0 A, tb0 B, tb0 C]] : D) = rmD N (tb0 A) (tb0 B) (tb0 C) := rfl
  generalize rmD N (tb0 A) (tb0 B) (tb0 C) = R at *
  generalize tb0 A = A at *
  generalize tb0 B = B at *
  generalize tb0 C = C at *
  obtain ⟨ks, ds, cK, cD⟩ : ∃ ks ds, copyK [RDn N] = some (ks, ds) ∧ D.dct ks ds = RDn N := ⟨_, _, rfl, rfl⟩
  clear t1 t2 t3 p1 p2 p3 lp
  generalize RDn N = rd at *
  simp [fn__law_copied, b__law_copied, fd, x0, outD, cK, cD, e0]
structure LT (N : Int) (T : List Itm) : Prop where
  li : ∀ t ∈ T, LI N 10 t
  len : T.length ≤ 5
theorem tops_lc {N : Int} (hN : 60 ≤ N ∧ N ≤ 359) {A0 A1 A5 A6 A8 A9 : Sl} : ∀ (ds : List D) (L : List Int) (acc : List D), 36 * ds.length ≤ L.length → (∀ x ∈ L, 0 ≤ x) → acc.length + ds.length ≤ 1000 →
    ∃ (Ts : List (List Itm)) (k : Nat), lcL (gNam 7) vYes el__law_room_3 [7] ds acc [A0, A1, .sh (.int 10), .sh (RDn N), PS L, A5, A6, .no, A8, A9] = .ok (acc ++ TTk Ts) [A0, A1, .sh (.int 10), .sh (RDn N), PS (L.drop k), A5, A6, .no, A8, A9] ∧ Ts.length = ds.length ∧ ∀ T ∈ Ts, LT N T
  | [], L, acc, _, _, _ => ⟨[], 0, by simp [lcL], rfl, by simp⟩
  | d :: ds, L, acc, hl, h0, ha => by
    obtain ⟨T, k, hk, ht, li, l5, _, _⟩ := ltrack_ok hN (sz := 10) (by decide) (L := L) (by simp at hl; omega) h0
    obtain ⟨Ts, k2, e, l, hc⟩ := tops_lc hN (A0 := A0) (A1 := A1) (A5 := A5) (A6 := A6) (A8 := A8) (A9 := A9) ds (L.drop k) (acc ++ [TD T]) (by simp at hl ⊢; omega) (fun x hx => h0 x (List.mem_of_mem_drop hx)) (by simp at ha ⊢; omega)
    refine ⟨T :: Ts, k + k2, ?_, by simp [l], fun U hU => ?_⟩
    · have hv : acc.length < vmax := by rw [vmax_eq]; simp at ha; omega
      have al : asL (TD T) = some (T.map Itm.d) := rfl
      rw [lcL]
      simp [-List.map_drop, el__law_room_3, al, e_callIF, e_argI, fariPS, fcli1, fcliPS, ht, fput1, ps_dr, Res.bindN, hv]
      simp [el__law_room_3] at e
      rw [e]
    · rcases List.mem_cons.mp hU with rfl | hU
      · exact ⟨li, l5⟩
      · exact hc U hU
theorem reels_ok {c : Int} : fn__law_reels [.int c] = .ok (RDn (60 + c % 300)) := by
  have p9 : opPow (.int 10) (.int 9) = some (.int 1000000000) := by rw [o_pow (by decide) (by decide) (by decide)]; rfl
  have dd : dispD [(.str "a", .int (60 + c % 300)), (.str "reelb", .int 1000000000)] = some (RDn (60 + c % 300)) := rfl
  simp [fn__law_reels, b__law_reels, o_rem, p9, dd]
theorem room_ok {c : Int} {nt : Nat} (h1 : 1 ≤ nt) (h2 : nt ≤ 2) : ∃ (N : Int) (Ts : List (List Itm)) (T1 T2 : List Itm) (a b : Itm), fn__law_room [.int c, .int (nt : Int), .int 10] = .ok (rmD N (tb0 Ts) (tb0 [T1.map rn2, T2.map rn2]) (tb0 [[a, .gap 3, b]])) ∧ Ts.length = nt ∧ (∀ T ∈ Ts, LT N T) ∧ LT N T1 ∧ LT N T2 ∧ LC N 10 a ∧ LC N 10 b := by
  have d7 : opFdiv (.int c) (.int 7) = some (.int (c / 7)) := o_div (by decide) (by decide +kernel)
  have er := reels_ok (c := c / 7)
  obtain ⟨N, hNd, hN⟩ : ∃ N, 60 + c / 7 % 300 = N ∧ 60 ≤ N ∧ N ≤ 359 := ⟨_, rfl, by omega, by omega⟩
  rw [hNd] at er
  obtain ⟨xs, hx, lx, bx⟩ := stream_ok c 400 (by decide)
  have hx' : fn__law_stream [.int c, .int 400] = .ok (.lst (xs.map D.int)) := hx
  have bx' : ∀ x ∈ xs.reverse, 0 ≤ x := fun x h => (bx x (by simpa using h)).1
  have lx' : xs.reverse.length = 400 := by simpa using lx
  have pq := ps_of (xs := xs)
  generalize xs.reverse = L at *
  obtain ⟨T1, k1, hk1, ht1, li1, l51, _, _⟩ := ltrack_ok hN (sz := 10) (by decide) (L := L) (by omega) bx'
  have b1 : ∀ x ∈ L.drop k1, 0 ≤ x := fun x h => bx' x (List.mem_of_mem_drop h)
  have len1 : 364 ≤ (L.drop k1).length := by simp; omega
  generalize L.drop k1 = L1 at *
  obtain ⟨T2, k2, hk2, ht2, li2, l52, _, _⟩ := ltrack_ok hN (sz := 10) (by decide) (L := L1) (by omega) b1
  have b2 : ∀ x ∈ L1.drop k2, 0 ≤ x := fun x h => b1 x (List.mem_of_mem_drop h)
  have len2 : 328 ≤ (L1.drop k2).length := by simp; omega
  generalize L1.drop k2 = L2 at *
  obtain ⟨y0, y1, y2, y3, y4, y5, L3, rfl⟩ := six (L := L2) (by omega)
  obtain ⟨a, ea, la⟩ := lclip_ok (x0 := y0) (x1 := y1) (x2 := y2) (x3 := y3) (x4 := y4) (x5 := y5) (L := L3) (sz := 10) hN (by decide) (fun x hx => b2 x (by
    simp only [List.mem_cons, List.not_mem_nil, or_false] at hx ⊢
    rcases hx with h | h | h | h | h | h <;> simp [h]))
  have b3 : ∀ x ∈ L3, 0 ≤ x := fun x h => b2 x (by simp [h])
  simp only [List.length_cons] at len2
  obtain ⟨z0, z1, z2, z3, z4, z5, L4, rfl⟩ := six (L := L3) (by omega)
  obtain ⟨b, eb, lb⟩ := lclip_ok (x0 := z0) (x1 := z1) (x2 := z2) (x3 := z3) (x4 := z4) (x5 := z5) (L := L4) (sz := 10) hN (by decide) (fun x hx => b3 x (by
    simp only [List.mem_cons, List.not_mem_nil, or_false] at hx ⊢
    rcases hx with h | h | h | h | h | h <;> simp [h]))
  have b4 : ∀ x ∈ L4, 0 ≤ x := fun x h => b3 x (by simp [h])
  simp only [List.length_cons] at len2
  obtain ⟨v7, fm⟩ := rn_forM (S0 := .sh (.int c)) (S1 := .sh (.int (nt : Int))) (S2 := .sh (.int 10)) (S3 := .sh (RDn N)) (S4 := PS (y0 :: y1 :: y2 :: y3 :: y4 :: y5 :: z0 :: z1 :: z2 :: z3 :: z4 :: z5 :: L4)) (S8 := .no) (S9 := .no) (T1 := T1) (T2 := T2) (X := .lst []) (by omega) (by omega) rfl rfl rfl rfl rfl rfl rfl
  obtain ⟨Ts, k, eT, lT, hT⟩ := tops_lc hN (A0 := .sh (.int c)) (A1 := .sh (.int (nt : Int))) (A5 := .tr shTB (tb0 [T1.map rn2, T2.map rn2])) (A6 := .no) (A8 := .sh (tb0 [[a, .gap 3, b]])) (A9 := .no) ((List.range nt).map fun (i : Nat) => D.int (i : Int)) L4 [] (by simp; omega) b4 (by simp; omega)
  have rg := rng1_of (m := vCons (vVar 1) vNil) (e := [.sh (.int c), .sh (.int (nt : Int)), .sh (.int 10), .sh (RDn N), PS L4, .tr shTB (tb0 [T1.map rn2, T2.map rn2]), .no, v7, .sh (tb0 [[a, .gap 3, b]]), .no]) (e1 := [.sh (.int c), .sh (.int (nt : Int)), .sh (.int 10), .sh (RDn N), PS L4, .tr shTB (tb0 [T1.map rn2, T2.map rn2]), .no, v7, .sh (tb0 [[a, .gap 3, b]]), .no]) (j := (nt : Int)) (by simp) (by omega) (by omega)
  rw [Int.toNat_natCast] at rg
  have lc : vLc (vRng1 (vCons (vVar 1) vNil)) (gNam 7) vYes el__law_room_3 [7] [.sh (.int c), .sh (.int (nt : Int)), .sh (.int 10), .sh (RDn N), PS L4, .tr shTB (tb0 [T1.map rn2, T2.map rn2]), .no, v7, .sh (tb0 [[a, .gap 3, b]]), .no] = .ok (TTk Ts) [.sh (.int c), .sh (.int (nt : Int)), .sh (.int 10), .sh (RDn N), PS (L4.drop k), .tr shTB (tb0 [T1.map rn2, T2.map rn2]), .no, .no, .sh (tb0 [[a, .gap 3, b]]), .no] := by
    show (vRng1 (vCons (vVar 1) vNil) _).bind _ = _
    rw [rg]
    exact eT
  refine ⟨N, Ts, T1, T2, a, b, ?_, by simpa using lT, hT, ⟨li1, l51⟩, ⟨li2, l52⟩, la, lb⟩
  have al1 : asL (TD T1) = some (T1.map Itm.d) := rfl
  have al2 : asL (TD T2) = some (T2.map Itm.d) := rfl
  have fl : ∀ x, D.flat (.lst x) = false := fun _ => rfl
  have d1 : TD T1 = .lst (T1.map Itm.d) := rfl
  have d2 : TD T2 = .lst (T2.map Itm.d) := rfl
  have dp : dispD [(.str "top", tb0 Ts), (.str "low", tb0 [T1.map rn2, T2.map rn2]), (.str "deep", tb0 [[a, .gap 3, b]])] = some (tb3 (tb0 Ts) (tb0 [T1.map rn2, T2.map rn2]) (tb0 [[a, .gap 3, b]])) := rfl
  have dl : (.tup [.lst [TD (T1.map rn2), TD (T2.map rn2)], .lst []] : D) = tb0 [T1.map rn2, T2.map rn2] := rfl
  have dd : (.tup [.lst [.lst [a.d, .tup [.str "gap", .int 3], b.d]], .lst []] : D) = tb0 [[a, .gap 3, b]] := by simp [tb0, dG]
  have dt : (.tup [.lst (TTk Ts), .lst []] : D) = tb0 Ts := rfl
  have rm : (.tup [RDn N, tb3 (tb0 Ts) (tb0 [T1.map rn2, T2.map rn2]) (tb0 [[a, .gap 3, b]])] : D) = rmD N (tb0 Ts) (tb0 [T1.map rn2, T2.map rn2]) (tb0 [[a, .gap 3, b]]) := rfl
  rw [dl] at fm
  generalize hA : tb0 Ts = A at *
  generalize hB : tb0 [T1.map rn2, T2.map rn2] = B at *
  generalize hC : tb0 [[a, .gap 3, b]] = C at *
  generalize TTk Ts = tt at *
  generalize hD1 : TD T1 = D1 at *
  generalize hD2 : TD T2 = D2 at *
  generalize T1.map Itm.d = E1 at *
  generalize T2.map Itm.d = E2 at *
  simp only [shTB] at fm lc
  rw [d1, d2] at fm
  simp [fn__law_room, b__law_room, d7, er, hx', pq, e_callIF, e_callI, e_argI, fariPS, fcli1, fcliPS, ht1, ht2, fput1, ps_dr, al1, al2, fl, fm, ea, eb, dd, lc, dt, dp, rm]

/-! k23: the three tables told; a room is like itself -/
theorem LC.nomix {N sz : Int} {t : Itm} (h : LC N sz t) : t.isMix = false := by
  obtain ⟨z, a, b, c, d, n, M, rfl, _⟩ := h.of
  rfl
theorem LI.low {N sz : Int} {z : Str} {s n : Int} (h : LI N sz (.nest z s n)) : z = "low" := by
  cases h with
  | n => rfl
  | c h =>
    obtain ⟨_, _, _, _, _, _, _, e, _⟩ := h.of
    cases e
theorem s_deep : strS "deep" = true := by decide +kernel
theorem rn2_ok {m : Nat} {t : Itm} (h : t.Ok m) : (rn2 t).Ok m := by
  cases t with
  | nest z s n => exact ⟨s_deep, h.2⟩
  | _ => exact h
theorem rn2_nm {t : Itm} (h : t.isMix = false) : (rn2 t).isMix = false := by
  cases t with
  | nest z s n => rfl
  | _ => exact h
theorem LT.k {N : Int} {T : List Itm} (h : LT N T) : TrK T := ⟨fun t ht => (h.li t ht).nomix, fun t ht => (h.li t ht).ok, by have := h.len; omega⟩
theorem LT.k2 {N : Int} {T : List Itm} (h : LT N T) : TrK (T.map rn2) := by
  refine ⟨fun t ht => ?_, fun t ht => ?_, by have := h.len; simp; omega⟩
  · obtain ⟨u, hu, rfl⟩ := List.mem_map.mp ht
    exact rn2_nm (h.li u hu).nomix
  · obtain ⟨u, hu, rfl⟩ := List.mem_map.mp ht
    exact rn2_ok (h.li u hu).ok
theorem kdeep {N : Int} {a b : Itm} (la : LC N 10 a) (lb : LC N 10 b) : TrK [a, .gap 3, b] := by
  refine ⟨fun t ht => ?_, fun t ht => ?_, by simp⟩
  · simp only [List.mem_cons, List.not_mem_nil, or_false] at ht
    rcases ht with rfl | rfl | rfl
    · exact la.nomix
    · rfl
    · exact lb.nomix
  · simp only [List.mem_cons, List.not_mem_nil, or_false] at ht
    rcases ht with rfl | rfl | rfl
    · exact la.ok
    · exact (by decide : (1 : Int) ≤ 3)
    · exact lb.ok
theorem ndeep {N : Int} {a b : Itm} (la : LC N 10 a) (lb : LC N 10 b) {z : Str} {s n : Int} : Itm.nest z s n ∈ [a, .gap 3, b] → False := by
  intro h
  simp only [List.mem_cons, List.not_mem_nil, or_false] at h
  rcases h with h | h | h
  · obtain ⟨_, _, _, _, _, _, _, e, _⟩ := la.of
    rw [e] at h; cases h
  · cases h
  · obtain ⟨_, _, _, _, _, _, _, e, _⟩ := lb.of
    rw [e] at h; cases h
theorem nlow {T : List Itm} {z : Str} {s n : Int} (h : Itm.nest z s n ∈ T.map rn2) : z = "deep" := by
  obtain ⟨u, _, e⟩ := List.mem_map.mp h
  cases u <;> simp [rn2] at e
  exact e.1.symm
theorem all_told {N : Int} {Ts : List (List Itm)} {T1 T2 : List Itm} {a b : Itm} (hT : ∀ T ∈ Ts, LT N T) (h1 : LT N T1) (h2 : LT N T2) (la : LC N 10 a) (lb : LC N 10 b) {R : D} (hR : R = rmD N (tb0 Ts) (tb0 [T1.map rn2, T2.map rn2]) (tb0 [[a, .gap 3, b]])) :
    ∃ nt : Str → Int → List D, ∀ m, (∀ T ∈ Ts, fn_told_on [TD T, .int m, R] = .ok (.lst (tel nt T m)) ∧ fn__law_due [TD T, .int m, R] = .ok (.lst (tel nt T m)) ∧ TL (tel nt T m)) ∧ fn_told_at [R, .str "top", .int m] = .ok (.lst (tat nt Ts m)) := by
  obtain ⟨n1, n2, n3, n4, n5, n6⟩ := n_tl
  have x1 : opIx R (.int 1) = some (tb3 (tb0 Ts) (tb0 [T1.map rn2, T2.map rn2]) (tb0 [[a, .gap 3, b]])) := by rw [hR]; simp [rmD]
  have xt : opIx (tb3 (tb0 Ts) (tb0 [T1.map rn2, T2.map rn2]) (tb0 [[a, .gap 3, b]])) (.str "top") = some (.tup [.lst (Ts.map fun T => TD T), .lst []]) := by simp [tb3, tb0, opIx, keyD, dctGet]
  have xl : opIx (tb3 (tb0 Ts) (tb0 [T1.map rn2, T2.map rn2]) (tb0 [[a, .gap 3, b]])) (.str "low") = some (.tup [.lst ([T1.map rn2, T2.map rn2].map fun T => TD T), .lst []]) := by simp [tb3, tb0, opIx, keyD, dctGet, n1, n4]
  have xd : opIx (tb3 (tb0 Ts) (tb0 [T1.map rn2, T2.map rn2]) (tb0 [[a, .gap 3, b]])) (.str "deep") = some (.tup [.lst ([[a, .gap 3, b]].map fun T => TD T), .lst []]) := by simp [tb3, tb0, opIx, keyD, dctGet, n5, n6, n2, n3]
  generalize tb3 (tb0 Ts) (tb0 [T1.map rn2, T2.map rn2]) (tb0 [[a, .gap 3, b]]) = TB at *
  clear hR
  obtain ⟨n0, hn0⟩ : ∃ n0 : Str → Int → List D, n0 = fun _ _ => [] := ⟨_, rfl⟩
  obtain ⟨nd, hnd⟩ : ∃ nd : Str → Int → List D, nd = fun _ m => tat n0 [[a, .gap 3, b]] m := ⟨_, rfl⟩
  obtain ⟨nl, hnl⟩ : ∃ nl : Str → Int → List D, nl = fun _ m => tat nd [T1.map rn2, T2.map rn2] m := ⟨_, rfl⟩
  have kd : ∀ T ∈ [[a, .gap 3, b]], TrK T ∧ (∀ z s n, Itm.nest z s n ∈ T → False) := fun T hx => by
    rw [List.mem_singleton.mp hx]
    exact ⟨kdeep la lb, fun z s n h => ndeep la lb h⟩
  have td : ∀ {T}, T ∈ [[a, .gap 3, b]] → ∀ m, TL (tel n0 T m) := fun {T} hx m => tel_tl (kd T hx).1 (fun z s n h => ((kd T hx).2 z s n h).elim)
  have d2 : ∀ m, fn_told_at__2 [R, .str "deep", .int m] = .ok (.lst (nd "deep" m)) := fun m => by
    rw [hnd]
    exact at2 x1 xd fun T hx => ⟨(kd T hx).1, fun z s n h => ((kd T hx).2 z s n h).elim, td hx m⟩
  have d3 : ∀ m, fn_told_at__3 [R, .str "deep", .int m] = .ok (.lst (nd "deep" m)) := fun m => by
    rw [hnd]
    exact at3 x1 xd fun T hx => ⟨(kd T hx).1, fun z s n h => ((kd T hx).2 z s n h).elim, td hx m⟩
  have dT : ∀ z m, TL (nd z m) := fun z m => by
    rw [hnd]
    exact tat_tl fun T hx => ⟨(kd T hx).1, fun z s n h => ((kd T hx).2 z s n h).elim⟩
  have kl : ∀ T ∈ [T1.map rn2, T2.map rn2], TrK T ∧ (∀ z s n, Itm.nest z s n ∈ T → z = "deep") := fun T hx => by
    simp only [List.mem_cons, List.not_mem_nil, or_false] at hx
    rcases hx with rfl | rfl
    · exact ⟨h1.k2, fun z s n h => nlow h⟩
    · exact ⟨h2.k2, fun z s n h => nlow h⟩
  have tl : ∀ {T}, T ∈ [T1.map rn2, T2.map rn2] → ∀ m, TL (tel nd T m) := fun {T} hx m => tel_tl (kl T hx).1 (fun z s n h x _ _ => dT z (s + x))
  have l3 : ∀ m, fn_told_at__3 [R, .str "low", .int m] = .ok (.lst (nl "low" m)) := fun m => by
    rw [hnl]
    exact at3 x1 xl fun T hx => ⟨(kl T hx).1, fun z s n h x _ _ => by rw [(kl T hx).2 z s n h]; exact d2 _, tl hx m⟩
  have l4 : ∀ m, fn_told_at [R, .str "low", .int m] = .ok (.lst (nl "low" m)) := fun m => by
    rw [hnl]
    exact at4 x1 xl fun T hx => ⟨(kl T hx).1, fun z s n h x _ _ => by rw [(kl T hx).2 z s n h]; exact d3 _, tl hx m⟩
  have lT : ∀ z m, TL (nl z m) := fun z m => by
    rw [hnl]
    exact tat_tl fun T hx => ⟨(kl T hx).1, fun z s n h x _ _ => dT z (s + x)⟩
  have zt : ∀ {T}, T ∈ Ts → ∀ {z s n}, Itm.nest z s n ∈ T → z = "low" := fun {T} hx {z s n} h => ((hT T hx).li _ h).low
  have tt : ∀ {T}, T ∈ Ts → ∀ m, TL (tel nl T m) := fun {T} hx m => tel_tl (hT T hx).k (fun z s n h x _ _ => lT z (s + x))
  refine ⟨nl, fun m => ⟨fun T hx => ⟨?_, ?_, tt hx m⟩, ?_⟩⟩
  · exact on4 (hT T hx).k fun z s n h x _ _ => by rw [zt hx h]; exact l3 _
  · exact due_ok (hT T hx).k fun z s n h x _ _ => by rw [zt hx h]; exact l4 _
  · exact at4 x1 xt fun T hx => ⟨(hT T hx).k, fun z s n h x _ _ => by rw [zt hx h]; exact l3 _, tt hx m⟩
mutual
theorem sm_self : ∀ d : D, D.sm d d = true
  | .non => by unfold D.sm; rfl
  | .bl x => by unfold D.sm; simp
  | .int x => by unfold D.sm; simp
  | .str x => by unfold D.sm; simp
  | .lst xs => by unfold D.sm; exact sms_self xs
  | .tup xs => by unfold D.sm; exact sms_self xs
  | .dct ks xs => by unfold D.sm; simp [sms_self xs]
theorem sms_self : ∀ ds : List D, D.sms ds ds = true
  | [] => by unfold D.sms; rfl
  | d :: ds => by unfold D.sms; simp [sm_self d, sms_self ds]
end
theorem eqNs {n : Nat} : ∀ {ds : List D}, (∀ d ∈ ds, D.eqokN n d = true) → D.eqoksN n ds = true
  | [], _ => by unfold D.eqoksN; rfl
  | d :: ds, h => by
    unfold D.eqoksN
    rw [h d List.mem_cons_self, eqNs fun x hx => h x (List.mem_cons_of_mem _ hx)]
    rfl
theorem eqNt {n : Nat} {ds : List D} (h : ∀ d ∈ ds, D.eqokN n d = true) : D.eqokN (n + 1) (.tup ds) = true := by
  unfold D.eqokN; exact eqNs h
theorem eqNl {n : Nat} {ds : List D} (h : ∀ d ∈ ds, D.eqokN n d = true) : D.eqokN (n + 1) (.lst ds) = true := by
  unfold D.eqokN; exact eqNs h
theorem eqNd {n : Nat} {ks : List Ky} {ds : List D} (h1 : ks.Nodup) (h2 : ks.length = ds.length) (h : ∀ d ∈ ds, D.eqokN n d = true) : D.eqokN (n + 1) (.dct ks ds) = true := by
  unfold D.eqokN; rw [decide_eq_true h1, decide_eq_true h2]; show (true && (true && D.eqoksN n ds)) = true; rw [eqNs h]; rfl
theorem eqNi {n : Nat} {i : Int} : D.eqokN n (.int i) = true := by unfold D.eqokN; rfl
theorem eqNz {n : Nat} {z : Str} (h : strS z = true) : D.eqokN n (.str z) = true := by unfold D.eqokN; exact h
theorem s_kind : strS "clip" = true ∧ strS "gap" = true ∧ strS "nest" = true := by decide +kernel
theorem eqN_it {t : Itm} {n : Nat} (k : t.isMix = false) (o : t.Ok 40) : D.eqokN (n + 2) t.d = true := by
  obtain ⟨s1, s2, s3⟩ := s_kind
  cases t with
  | mix => cases k
  | gap n => 
    rw [dG]
    refine eqNt fun d hd => ?_
    simp only [List.mem_cons, List.not_mem_nil, or_false] at hd
    rcases hd with rfl | rfl
    · exact eqNz s2
    · exact eqNi
  | nest z s n =>
    rw [dN]
    refine eqNt fun d hd => ?_
    simp only [List.mem_cons, List.not_mem_nil, or_false] at hd
    rcases hd with rfl | rfl | rfl | rfl
    · exact eqNz s3
    · exact eqNz o.1
    · exact eqNi
    · exact eqNi
  | clip z a b c d n =>
    rw [dC]
    refine eqNt fun d hd => ?_
    simp only [List.mem_cons, List.not_mem_nil, or_false] at hd
    rcases hd with rfl | rfl | rfl | rfl | rfl
    · exact eqNz s1
    · exact eqNz o.1
    · refine eqNt fun d hd => ?_
      simp only [List.mem_cons, List.not_mem_nil, or_false] at hd
      rcases hd with rfl | rfl <;> exact eqNi
    · refine eqNt fun d hd => ?_
      simp only [List.mem_cons, List.not_mem_nil, or_false] at hd
      rcases hd with rfl | rfl <;> exact eqNi
    · exact eqNi
theorem eqN_tb {ts : List (List Itm)} {n : Nat} (h : ∀ T ∈ ts, TrK T) : D.eqokN (n + 5) (tb0 ts) = true := by
  refine eqNt fun d hd => ?_
  simp only [List.mem_cons, List.not_mem_nil, or_false] at hd
  rcases hd with rfl | rfl
  · refine eqNl fun d hd => ?_
    obtain ⟨T, hT, rfl⟩ := List.mem_map.mp hd
    refine eqNl fun d hd => ?_
    obtain ⟨t, ht, rfl⟩ := List.mem_map.mp hd
    exact eqN_it ((h T hT).nm t ht) ((h T hT).ok t ht)
  · exact eqNl fun d hd => by cases hd
theorem room_self {N : Int} {A B C : List (List Itm)} (hA : ∀ T ∈ A, TrK T) (hB : ∀ T ∈ B, TrK T) (hC : ∀ T ∈ C, TrK T) : opEqN (rmD N (tb0 A) (tb0 B) (tb0 C)) (rmD N (tb0 A) (tb0 B) (tb0 C)) = some (.bl true) := by
  obtain ⟨n1, n2, n3, n4, n5, n6⟩ := n_tl
  have e : D.eqokN 20 (rmD N (tb0 A) (tb0 B) (tb0 C)) = true := by
    refine eqNt (n := 19) fun d hd => ?_
    simp only [List.mem_cons, List.not_mem_nil, or_false] at hd
    rcases hd with rfl | rfl
    · refine eqNd (n := 18) (by decide +kernel) rfl fun d hd => ?_
      simp only [List.mem_cons, List.not_mem_nil, or_false] at hd
      rcases hd with rfl | rfl <;> exact eqNi
    · refine eqNd (n := 18) (by decide +kernel) rfl fun d hd => ?_
      simp only [List.mem_cons, List.not_mem_nil, or_false] at hd
      rcases hd with rfl | rfl | rfl
      · exact eqN_tb (n := 13) hA
      · exact eqN_tb (n := 13) hB
      · exact eqN_tb (n := 13) hC
  have s := sm_self (rmD N (tb0 A) (tb0 B) (tb0 C))
  unfold rmD at *
  unfold opEqN
  simp [e, s]

/-! k23: the law -/
theorem max_in : ∀ (ns : List Int) (n : Int), (0 ≤ n ∧ n ≤ 50) → (∀ x ∈ ns, 0 ≤ x ∧ x ≤ 50) → 0 ≤ ns.foldl (fun a b => if b > a then b else a) n ∧ ns.foldl (fun a b => if b > a then b else a) n ≤ 50
  | [], n, h, _ => h
  | x :: ns, n, h, q => by
    have hx := q x List.mem_cons_self
    refine max_in ns _ ?_ fun y hy => q y (List.mem_cons_of_mem _ hy)
    dsimp only
    split
    · exact hx
    · exact h
theorem ints50 : ∀ {zs : List D}, (∀ z ∈ zs, ∃ i : Int, z = .int i ∧ 0 ≤ i ∧ i ≤ 50) → ∃ ns : List Int, intsD zs = some ns ∧ ns.length = zs.length ∧ ∀ x ∈ ns, 0 ≤ x ∧ x ≤ 50
  | [], _ => ⟨[], rfl, rfl, by simp⟩
  | z :: zs, h => by
    obtain ⟨ns, e, l, b⟩ := ints50 (zs := zs) fun y hy => h y (List.mem_cons_of_mem _ hy)
    obtain ⟨i, rfl, hi⟩ := h z List.mem_cons_self
    refine ⟨i :: ns, by simp [intsD, e], by simp [l], fun x hx => ?_⟩
    rcases List.mem_cons.mp hx with rfl | hx
    · exact hi
    · exact b x hx
theorem sum_in {N : Int} : ∀ {T : List Itm}, (∀ t ∈ T, LI N 10 t) → 0 ≤ (T.map Itm.n).sum ∧ (T.map Itm.n).sum ≤ 10 * (T.length : Int)
  | [], _ => by simp
  | t :: T, h => by
    have a := sum_in fun u hu => h u (List.mem_cons_of_mem _ hu)
    have t1 := (h t List.mem_cons_self).sz
    have t2 := (h t List.mem_cons_self).ok.n1
    simp only [List.map_cons, List.sum_cons, List.length_cons]
    omega
theorem el1_ok {N : Int} {T : List Itm} (h : LT N T) {A0 A1 A2 A3 A4 A5 A6 A8 : Sl} : ∃ i : Int, el_law_1 [A0, A1, A2, A3, A4, A5, A6, .sh (TD T), A8, .no] = .ok (.int i) [A0, A1, A2, A3, A4, A5, A6, .sh (TD T), A8, .no] ∧ 0 ≤ i ∧ i ≤ 50 := by
  have q := vLc_map (it := vSeqI (vVar 7)) (g := gNam 9) (t := vYes) (el := el_law_2) (own := [9]) (e := [A0, A1, A2, A3, A4, A5, A6, .sh (TD T), A8, .no]) (e0 := [A0, A1, A2, A3, A4, A5, A6, .sh (TD T), A8, .no]) (e1 := [A0, A1, A2, A3, A4, A5, A6, .sh (TD T), A8, .no]) (ds := T.map Itm.d) (fun d => (opIx d (.int (-1))).getD .non) (by simp) (by simp) (by
    intro d hd
    obtain ⟨t, _, rfl⟩ := List.mem_map.mp hd
    have tl := t.last
    exact ⟨[A0, A1, A2, A3, A4, A5, A6, .sh (TD T), A8, .sh t.d], by simp, by simp, by simp [el_law_2, tl], by simp⟩) (by simp) (by have := h.len; simp; omega)
  have e : (T.map Itm.d).map (fun d => (opIx d (.int (-1))).getD .non) = (T.map Itm.n).map D.int := by
    rw [List.map_map, List.map_map]
    refine List.map_congr_left fun t _ => ?_
    show (opIx t.d (.int (-1))).getD .non = _
    rw [t.last]
    rfl
  rw [e] at q
  have s := sum_ints (ns := T.map Itm.n)
  have b := sum_in h.li
  have l := h.len
  refine ⟨(T.map Itm.n).sum, ?_, b.1, by omega⟩
  generalize (T.map Itm.n).map D.int = Z at *
  generalize TD T = Y at *
  simp [-List.map_map, el_law_1, q, s]
def fin (nt : Str → Int → List D) (m : Int) : List D → List (List Itm) → List D
  | [], Ts => tat nt Ts m
  | d :: ds, _ => d :: ds
theorem o_ne_self {l : List D} (h : TL l) : opNe (.lst l) (.lst l) = some (.bl false) := by
  rw [o_ne h.eq h.eq]
  cases l with
  | nil => simp
  | cons d l =>
    cases l with
    | cons d' l => have := h.n; simp at this
    | nil =>
      obtain ⟨z, i, sz, rfl⟩ := h.e d (by simp)
      simp
theorem TL.flats {l : List D} (h : TL l) : D.flats l = true := by
  cases l with
  | nil => rfl
  | cons d l =>
    cases l with
    | cons d' l => have := h.n; simp at this
    | nil =>
      obtain ⟨z, i, sz, rfl⟩ := h.e d (by simp)
      rfl
def acc1 (l : List D) : List D → List D
  | [] => l
  | d :: ds => d :: ds
theorem law4 {nt : Str → Int → List D} {A0 R A2 A3 A4 A9 : Sl} {RR : D} {m : Int} (hR : R = .sh RR) : ∀ (Ts : List (List Itm)) (acc : List D) (v7 v8 : Sl), (∀ T ∈ Ts, fn_told_on [TD T, .int m, RR] = .ok (.lst (tel nt T m)) ∧ fn__law_due [TD T, .int m, RR] = .ok (.lst (tel nt T m)) ∧ TL (tel nt T m)) → TL acc →
    ∃ w7 w8, forL (gNam 7) b_law_4 (TTk Ts) [A0, R, A2, A3, A4, .sh (.int m), .sh (.lst acc), v7, v8, A9] = .nx [A0, R, A2, A3, A4, .sh (.int m), .sh (.lst (fin nt m acc Ts)), w7, w8, A9] ∧ TL (fin nt m acc Ts)
  | [], acc, v7, v8, _, ta => by
    have e : fin nt m acc [] = acc := by cases acc <;> rfl
    rw [e]
    exact ⟨v7, v8, rfl, ta⟩
  | T :: Ts, acc, v7, v8, h, ta => by
    obtain ⟨h1, h2, h3⟩ := h T List.mem_cons_self
    have kk := kinds_ok h3
    have ns := o_ne_self h3
    have e : fin nt m acc (T :: Ts) = fin nt m (acc1 (tel nt T m) acc) Ts := by
      cases acc with
      | cons d ds => rfl
      | nil =>
        show tat nt (T :: Ts) m = fin nt m (tel nt T m) Ts
        unfold tat
        cases tel nt T m <;> rfl
    have eq0 : opEq (.lst acc) (.lst []) = some (.bl acc.isEmpty) := by
      rw [o_eq ta.eq (by simp)]
      cases acc <;> simp
    obtain ⟨w7, w8, q, tq⟩ := law4 (nt := nt) (A0 := A0) (A2 := A2) (A3 := A3) (A4 := A4) (A9 := A9) hR Ts (acc1 (tel nt T m) acc) (.sh (TD T)) (.ow .l (tel nt T m ++ [.tup [.str "x", .int 0, .tup [.int 1, .int 1]]])) (fun U hU => h U (List.mem_cons_of_mem _ hU)) (by cases acc with | nil => exact h3 | cons d ds => exact ta)
    rw [e]
    refine ⟨w7, w8, ?_, tq⟩
    have hv : (tel nt T m).length < 1000000 := by have := h3.n; omega
    have hf := h3.flats
    show forL _ _ (TD T :: TTk Ts) _ = _
    rw [forL_nx (e2 := [A0, R, A2, A3, A4, .sh (.int m), .sh (.lst (acc1 (tel nt T m) acc)), .sh (TD T), .ow .l (tel nt T m ++ [.tup [.str "x", .int 0, .tup [.int 1, .int 1]]]), A9])]
    · exact q
    · subst hR
      generalize tel nt T m = tl at *
      generalize TD T = Y at *
      cases acc with
      | nil => simp [turn_nam, b_law_4, acc1, h1, h2, kk, ns, eq0, hv, hf]
      | cons d ds => simp [turn_nam, b_law_4, acc1, h1, h2, kk, ns, eq0, hv, hf]
theorem law_pure (ns : List Int) (hl : ns.length ≤ 63) : fn_law [.lst (ns.map D.int)] = .ok (.bl true) := by
  obtain ⟨c0, hc0⟩ := cell_ok ns 0 (by omega)
  obtain ⟨c1, hc1⟩ := cell_ok ns 1 (by omega)
  obtain ⟨nt, hn1, hn2, hn3⟩ : ∃ nt : Nat, 1 + c1 % 2 = (nt : Int) ∧ 1 ≤ nt ∧ nt ≤ 2 := ⟨(1 + c1 % 2).toNat, by omega, by omega, by omega⟩
  obtain ⟨N, Ts, T1, T2, a, b, er, lT, hT, h1, h2, la, lb⟩ := room_ok (c := c0) hn2 hn3
  have ec := copied_ok (N := N) (A := Ts) (B := [T1.map rn2, T2.map rn2]) (C := [[a, .gap 3, b]]) (by omega) (by simp) (by simp)
  have es := room_self (N := N) (A := Ts) (B := [T1.map rn2, T2.map rn2]) (C := [[a, .gap 3, b]]) (fun T h => (hT T h).k) (fun T hx => by
    simp only [List.mem_cons, List.not_mem_nil, or_false] at hx
    rcases hx with rfl | rfl
    · exact h1.k2
    · exact h2.k2) (fun T hx => by rw [List.mem_singleton.mp hx]; exact kdeep la lb)
  obtain ⟨tn, told⟩ := all_told hT h1 h2 la lb rfl
  have x1 : opIx (rmD N (tb0 Ts) (tb0 [T1.map rn2, T2.map rn2]) (tb0 [[a, .gap 3, b]])) (.int 1) = some (tb3 (tb0 Ts) (tb0 [T1.map rn2, T2.map rn2]) (tb0 [[a, .gap 3, b]])) := by simp [rmD]
  have xt : opIx (tb3 (tb0 Ts) (tb0 [T1.map rn2, T2.map rn2]) (tb0 [[a, .gap 3, b]])) (.str "top") = some (tb0 Ts) := by simp [tb3, opIx, keyD, dctGet]
  have x0 : opIx (tb0 Ts) (.int 0) = some (.lst (TTk Ts)) := by simp [tb0]
  generalize rmD N (tb0 Ts) (tb0 [T1.map rn2, T2.map rn2]) (tb0 [[a, .gap 3, b]]) = R at *
  generalize tb3 (tb0 Ts) (tb0 [T1.map rn2, T2.map rn2]) (tb0 [[a, .gap 3, b]]) = TB at *
  generalize tb0 Ts = B0 at *
  obtain ⟨X, hX⟩ : ∃ X, X = D.lst (ns.map D.int) := ⟨_, rfl⟩
  rw [← hX] at hc0 hc1 ⊢
  obtain ⟨zs, q, lz, pz⟩ := vLc_ex (it := vSeqI (vVar 3)) (g := gNam 7) (t := vYes) (el := el_law_1) (own := [7]) (e := [.sh X, .sh R, .sh R, .sh (.lst (TTk Ts)), .no, .no, .no, .no, .no, .no]) (e0 := [.sh X, .sh R, .sh R, .sh (.lst (TTk Ts)), .no, .no, .no, .no, .no, .no]) (e1 := [.sh X, .sh R, .sh R, .sh (.lst (TTk Ts)), .no, .no, .no, .no, .no, .no]) (ds := TTk Ts) (fun z => ∃ i : Int, z = .int i ∧ 0 ≤ i ∧ i ≤ 50) (by simp) (by simp) (by
    intro d hd
    obtain ⟨T, hx, rfl⟩ := List.mem_map.mp hd
    obtain ⟨i, e, b1, b2⟩ := el1_ok (hT T hx) (A0 := .sh X) (A1 := .sh R) (A2 := .sh R) (A3 := .sh (.lst (TTk Ts))) (A4 := .no) (A5 := .no) (A6 := .no) (A8 := .no)
    exact ⟨[.sh X, .sh R, .sh R, .sh (.lst (TTk Ts)), .no, .no, .no, .sh (TD T), .no, .no], by simp, by simp, _, e, ⟨i, rfl, b1, b2⟩, by simp⟩) (by simp) (by simp; omega)
  obtain ⟨is, ei, li, bi⟩ := ints50 pz
  obtain ⟨mx, em, m0, m1⟩ : ∃ mx : Int, bfMaxL [.lst zs] = some (.int mx) ∧ 0 ≤ mx ∧ mx ≤ 50 := by
    cases is with
    | nil => 
      rw [lz, List.length_map] at li
      simp only [List.length_nil] at li
      omega
    | cons i is =>
      have := max_in is i (bi i List.mem_cons_self) fun x hx => bi x (List.mem_cons_of_mem _ hx)
      exact ⟨_, by simp [bfMaxL, ei], this.1, this.2⟩
  have rg := rng1_of (m := vCons (vOp opAdd (vVar 4) (vC (.int 3))) vNil) (e := [.sh X, .sh R, .sh R, .sh (.lst (TTk Ts)), .sh (.int mx), .no, .no, .no, .no, .no]) (e1 := [.sh X, .sh R, .sh R, .sh (.lst (TTk Ts)), .sh (.int mx), .no, .no, .no, .no, .no]) (j := mx + 3) (by simp) (by omega) (by omega)
  obtain ⟨e1, lp, v5, v6, v7, v8, rfl⟩ := loop_at (g := gNam 5) (b := b_law_3) (fun _ e => ∃ v5 v6 v7 v8, e = [.sh X, .sh R, .sh R, .sh (.lst (TTk Ts)), .sh (.int mx), v5, v6, v7, v8, .no]) ((List.range (mx + 3).toNat).map fun (i : Nat) => D.int (i : Int)) [.sh X, .sh R, .sh R, .sh (.lst (TTk Ts)), .sh (.int mx), .no, .no, .no, .no, .no] ⟨_, _, _, _, rfl⟩ (by
    rintro i d hd e ⟨v5, v6, v7, v8, rfl⟩
    obtain ⟨j, _, rfl⟩ := List.mem_map.mp (List.mem_of_getElem? hd)
    obtain ⟨tt, ta⟩ := told (j : Int)
    obtain ⟨w7, w8, f, tf⟩ := law4 (nt := tn) (A0 := .sh X) (A2 := .sh R) (A3 := .sh (.lst (TTk Ts))) (A4 := .sh (.int mx)) (A9 := .no) (m := (j : Int)) rfl Ts [] v7 v8 tt .nil
    have ne := o_ne_self tf
    have ff : fin tn (j : Int) [] Ts = tat tn Ts (j : Int) := rfl
    rw [ff] at f ne
    refine ⟨[.sh X, .sh R, .sh R, .sh (.lst (TTk Ts)), .sh (.int mx), .sh (.int (j : Int)), .sh (.lst (tat tn Ts (j : Int))), w7, w8, .no], ?_, _, _, _, _, rfl⟩
    generalize TTk Ts = tk at *
    generalize tat tn Ts (j : Int) = fl at *
    simp [turn_nam, b_law_3, f, ta, ne])
  generalize TTk Ts = tk at *
  simp [fn_law, b_law, hc0, hc1, o_rem, hn1, er, ec, x1, xt, x0, q, em, rg, lp, es]

end VL

open PySem PySem.W PySem.Calls PyProof.Rows in
theorem PySem.Challenge.cw_reelcut_k23_tracks_told_holds : PySem.Challenge.rw_reelcut_k23_tracks_told.Holds := by
  w_on; o_law
  refine HandSHeadRun.head_any (r := VL.R0) (q := view VL.R0.prog [35]) (H := VL.hk0) (ob := VL.ob0) (M := 2560) (loose := VL.looseN)
    (d := HandSHeadRun.topDef VL.R0.prog 35) (kwd := []) VL.ob0_eq (by kernel_rfl) (fun s => by kernel_rfl) VL.run0 (by kernel_rfl) (by kernel_rfl)
    (by kernel_rfl) (by rfl) (by first | assumption | decide +kernel) (by decide +kernel) ⟨rfl, rfl, rfl, rfl, rfl, by decide +kernel⟩ ?hw ?hc
  case hw => w_witness2
  case hc =>
    refine VL.law_walk (l := PySem.Challenge.rw_reelcut_k23_tracks_told) (k := 16) (x := "_law_script")
      rfl (by kernel_rfl) (by kernel_rfl) ⟨rfl, by decide, by decide⟩ VL.law_pure ?_
    intro w mg h Y G
    obtain ⟨K, KX, c, d⟩ := Y
    exact ⟨K, KX, VL.ok_law (VL.top_of KX G c d)⟩
