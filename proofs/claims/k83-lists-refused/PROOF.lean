import PyProof.Rows.All
import Wide.All
import OpenK.AllK
import Wide.FinOn
import HandS.ForMost
import HandS.ForExc
import HandS.Flow
import HandS.TryOnly
import HandS.TryMany
import HandS.TryElse
import HandS.SuiteRaise
import HandS.IsInst
import HandS.Wide
import HandS.ExcIs
import HandS.ExcField
import HandS.ExcInit
import HandS.Dict
import HandS.Style
import HandS.Text
import HandS.StrMore
import HandS.Defaults
import HandS.HeadEnd
import HandS.Head2
import HandS.HeadHook1
import HandS.HeadHook2
import HandS.HeadHook3
import PySem.Challenge.RW_reelcut_k83_lists_refused
set_option Elab.async false
set_option linter.all false
set_option maxRecDepth 100000
set_option maxHeartbeats 4000000

/-! VP: the value layer's plain part: data, environments, results, combinators. -/
namespace VL
open PySem

abbrev Ky := Sum Int Str
def vmax : Nat := 1000000

inductive D where
  | non | bl (b : Bool) | int (i : Int) | str (s : Str) | tup (ds : List D) | lst (ds : List D) | dct (ks : List Ky) (ds : List D)
deriving Inhabited

mutual
/-- no list, no dict within -/
def D.flat : D → Bool
  | .lst _ => false
  | .dct _ _ => false
  | .tup ds => D.flats ds
  | .non => true
  | .bl _ => true
  | .int _ => true
  | .str _ => true
def D.flats : List D → Bool
  | [] => true
  | d :: ds => d.flat && D.flats ds
end
mutual
/-- == of Python -/
def D.deq : D → D → Bool
  | .non, .non => true
  | .bl a, .bl b => a == b
  | .bl a, .int j => (if a then 1 else 0) == j
  | .int i, .bl b => i == (if b then 1 else 0)
  | .int i, .int j => decide (i = j)
  | .str x, .str y => decide (x = y)
  | .lst xs, .lst ys => D.deqs xs ys
  | .tup xs, .tup ys => D.deqs xs ys
  | _, _ => false
def D.deqs : List D → List D → Bool
  | [], [] => true
  | x :: xs, y :: ys => D.deq x y && D.deqs xs ys
  | _, _ => false
end
/-- a text of signs that there are -/
def strS (s : Str) : Bool := s.cps.all (· < 0x110000)
mutual
/-- no dict within, nested at most n deep -/
def D.eqok (n : Nat) : D → Bool
  | .non => true
  | .bl _ => true
  | .int _ => true
  | .str s => strS s
  | .dct _ _ => false
  | .tup ds => match n with
    | 0 => false
    | n + 1 => D.eqoks n ds
  | .lst ds => match n with
    | 0 => false
    | n + 1 => D.eqoks n ds
def D.eqoks (n : Nat) : List D → Bool
  | [] => true
  | d :: ds => D.eqok n d && D.eqoks n ds
end

/-- an exception: its class's name, its own field -/
structure Xc where
  cls : Str
  val : Option (Str × Int)

/-- a slot: nothing, a value, a list of one's own (b: a dict, which stands alone in ds), a token -/
inductive Sl where
  | no | sh (d : D) | ow (b : Bool) (ds : List D) | tk (n : Nat)
deriving Inhabited
abbrev Env := List Sl
/-- what an own thing is, seen from outside -/
def outD : Bool → List D → D
  | false, ds => .lst ds
  | true, [d] => d
  | true, _ => .non

inductive Res (α : Type) where
  | ok (a : α) (e : Env) | err (x : Xc) (e : Env) | bot
def Res.bind {α β : Type} (r : Res α) (f : α → Env → Res β) : Res β := match r with
  | .ok a e => f a e
  | .err x e => .err x e
  | .bot => .bot
/-- a def's end -/
inductive FR where
  | ok (d : D) | err (x : Xc) | bot
/-- a statement's end -/
inductive RS where
  | nx (e : Env) | rt (d : D) (e : Env) | bk (e : Env) | ct (e : Env) | err (x : Xc) (e : Env) | bot

abbrev ME := Env → Res D
abbrev MA := Env → Res (List D)
abbrev MB := Env → Res Bool
abbrev MS := Env → RS

/-- from an option -/
def Res.of {α : Type} (o : Option α) (e : Env) : Res α := match o with
  | some a => .ok a e
  | none => .bot

/-! ### expressions -/
def vC (d : D) : ME := fun e => .ok d e
def slD : Option Sl → Option D
  | some (.sh d) => some d
  | some (.ow b ds) => some (outD b ds)
  | _ => none
/-- a name: an owned list is handed out, and owned no more -/
def vVar (i : Nat) : ME := fun e => match e[i]? with
  | some (.sh d) => .ok d e
  | some (.ow b ds) => .ok (outD b ds) (e.set i (.sh (outD b ds)))
  | _ => .bot
def vUn (op : D → Option D) (a : ME) : ME := fun e => (a e).bind fun x e1 => .of (op x) e1
def vOp (op : D → D → Option D) (a b : ME) : ME := fun e => (a e).bind fun x e1 => (b e1).bind fun y e2 => .of (op x y) e2
def vNil : MA := fun e => .ok [] e
def vCons (a : ME) (r : MA) : MA := fun e => (a e).bind fun x e1 => (r e1).bind fun xs e2 => .ok (x :: xs) e2
def vTup (a : MA) : ME := fun e => (a e).bind fun xs e1 => .ok (.tup xs) e1
/-- a new list: not yet anybody's -/
def vLstF (a : MA) : MA := a
/-- .. handed out -/
def vOf (a : MA) : ME := fun e => (a e).bind fun xs e1 => .ok (.lst xs) e1
def vCall (fn : List D → FR) (a : MA) : ME := fun e => (a e).bind fun xs e1 => match fn xs with
  | .ok d => .ok d e1
  | .err x => .err x e1
  | .bot => .bot
/-- a def that hands back a new list -/
def vCallF (fn : List D → FR) (a : MA) : MA := fun e => (a e).bind fun xs e1 => match fn xs with
  | .ok (.lst ds) => .ok ds e1
  | .ok _ => .bot
  | .err x => .err x e1
  | .bot => .bot
/-- a builtin function of plain values -/
def vBf (f : List D → Option D) (a : MA) : ME := fun e => (a e).bind fun xs e1 => .of (f xs) e1
def vBl (f : List D → Option (List D)) (a : MA) : MA := fun e => (a e).bind fun xs e1 => .of (f xs) e1

def frz (e : Env) : Env := e.map fun s => match s with
  | .ow b ds => .sh (outD b ds)
  | s => s
/-- look at owned lists, keep nothing of them -/
def vBor (a : ME) : ME := fun e => match a (frz e) with
  | .ok d _ => if d.flat then .ok d e else .bot
  | .err x _ => .err x e
  | .bot => .bot
def vBorF (a : MA) : MA := fun e => match a (frz e) with
  | .ok ds _ => if D.flats ds then .ok ds e else .bot
  | .err x _ => .err x e
  | .bot => .bot
def vBorT (a : MB) : MB := fun e => match a (frz e) with
  | .ok b _ => .ok b e
  | .err x _ => .err x e
  | .bot => .bot
/-- xs.pop() of an owned list -/
def vPop (i : Nat) : ME := fun e => match e[i]? with
  | some (.ow false ds) => match ds.getLast? with
    | some d => .ok d (e.set i (.ow false ds.dropLast))
    | none => .bot
  | _ => .bot

/-- where an index points -/
def ixD (n : Nat) (i : Int) : Option Nat := if 0 ≤ i then (if i < n then some i.toNat else none) else if -(n : Int) ≤ i then some (i + n).toNat else none
/-! ### operators on data -/
def opAdd : D → D → Option D
  | .int i, .int j => some (.int (i + j))
  | .str x, .str y => if x.length + y.length ≤ vmax then some (.str (x ++ y)) else none
  | .tup (x :: xs), .tup (y :: ys) => if xs.length + ys.length + 2 ≤ vmax then some (.tup (x :: xs ++ y :: ys)) else none
  | .lst xs, .lst ys => if xs.length + ys.length ≤ vmax then some (.lst (xs ++ ys)) else none
  | _, _ => none
def opSub : D → D → Option D
  | .int i, .int j => some (.int (i - j))
  | _, _ => none
/-- the product is not too great to be reckoned -/
def mulOk (i j : Int) : Bool := decide (i.natAbs < 2 ^ 64) || decide (j.natAbs < 2 ^ 64) || decide (i.natAbs.log2 + j.natAbs.log2 < 1000000)
def opMul : D → D → Option D
  | .int i, .int j => if mulOk i j then some (.int (i * j)) else none
  | .lst xs, .int j => if -(2 ^ 62) ≤ j ∧ j < 2 ^ 62 ∧ xs.length * j.toNat ≤ vmax then some (.lst (List.replicate j.toNat xs).flatten) else none
  | _, _ => none
def divOk (j : Int) : Bool := decide (j ≠ 0) && decide (j.natAbs.log2 < 9000)
def opFdiv : D → D → Option D
  | .int i, .int j => if divOk j then some (.int (i.fdiv j)) else none
  | _, _ => none
def opMod : D → D → Option D
  | .int i, .int j => if j ≠ 0 then some (.int (i.fmod j)) else none
  | _, _ => none
def opPow : D → D → Option D
  | .int i, .int j => if 0 ≤ j ∧ j ≤ 1000 ∧ i.natAbs ≤ 1000 then some (.int (i ^ j.toNat)) else none
  | _, _ => none
def opNeg : D → Option D
  | .int i => some (.int (-i))
  | _ => none
def opLt : D → D → Option D
  | .int i, .int j => some (.bl (decide (i < j)))
  | _, _ => none
def opLe : D → D → Option D
  | .int i, .int j => some (.bl (decide (i ≤ j)))
  | _, _ => none
def opGt : D → D → Option D
  | .int i, .int j => some (.bl (decide (j < i)))
  | _, _ => none
def opGe : D → D → Option D
  | .int i, .int j => some (.bl (decide (j ≤ i)))
  | _, _ => none
def dctGet (ks : List Ky) (ds : List D) (k : Ky) : Option D := ((ks.zip ds).find? fun p => decide (p.1 = k)).map (·.2)
/-- each entry stands in the other dict -/
def hitsD (ls : List Ky) (es : List D) : List Ky → List D → Bool
  | k :: ks, d :: ds => match dctGet ls es k with
    | some e => D.deq d e && hitsD ls es ks ds
    | none => false
  | _, _ => true
/-- == of dicts (n: != ) -/
def opEqK (n : Bool) : D → D → Option D
  | .dct ks ds, .dct ls es => if D.eqoks 20 ds && D.eqoks 20 es then some (.bl (n ^^ (ks.length == ls.length && hitsD ls es ks ds))) else none
  | _, _ => none
def opEq (a b : D) : Option D := if a.eqok 20 && b.eqok 20 then some (.bl (D.deq a b)) else opEqK false a b
def opNe (a b : D) : Option D := if a.eqok 20 && b.eqok 20 then some (.bl (!D.deq a b)) else opEqK true a b
def D.isNon : D → Bool
  | .non => true
  | _ => false
/-- is, is not: None, a truth -/
def opIs : D → D → Option D
  | x, .non => some (.bl x.isNon)
  | .bl a, .bl b => some (.bl (a == b))
  | _, _ => none
def opIsNot : D → D → Option D
  | x, .non => some (.bl (!x.isNon))
  | .bl a, .bl b => some (.bl (!(a == b)))
  | _, _ => none
def D.atom : D → Bool
  | .non => true
  | .bl _ => true
  | .int _ => true
  | .str _ => true
  | _ => false
def keyD : D → Option Ky
  | .int i => some (.inl i)
  | .str s => some (.inr s)
  | _ => none
def opIn : D → D → Option D
  | x, .tup xs => if x.atom && xs.all D.atom then some (.bl (xs.any fun y => D.deq y x)) else none
  | x, .lst xs => if x.atom && xs.all D.atom then some (.bl (xs.any fun y => D.deq y x)) else none
  | x, .dct ks ds => (keyD x).map fun k => .bl (dctGet ks ds k).isSome
  | _, _ => none
def opNotIn (x y : D) : Option D := match opIn x y with
  | some (.bl b) => some (.bl (!b))
  | _ => none
def atD (xs : List D) (i : Int) : Option D := (ixD xs.length i).bind fun j => xs[j]?
def opIx : D → D → Option D
  | .tup xs, .int i => atD xs i
  | .lst xs, .int i => atD xs i
  | .str z, .int i => if z.length ≤ vmax then (ixD z.cps.toList.length i).bind fun j => (z.cps.toList[j]?).map fun c => .str ⟨#[c]⟩ else none
  | .dct ks ds, k => (keyD k).bind fun k => dctGet ks ds k
  | _, _ => none
/-- len -/
def bfLen : List D → Option D
  | [.tup xs] => some (.int xs.length)
  | [.lst xs] => some (.int xs.length)
  | [.str z] => if z.length ≤ vmax then some (.int z.length) else none
  | [.dct ks _] => some (.int ks.length)
  | _ => none
def bfAbs : List D → Option D
  | [.int i] => some (.int (if i < 0 then -i else i))
  | _ => none
def bfMin : List D → Option D
  | [.int i, .int j] => some (.int (if j < i then j else i))
  | _ => none
def bfMax : List D → Option D
  | [.int i, .int j] => some (.int (if j > i then j else i))
  | _ => none
def D.isT : String → D → Bool
  | t, .non => t == "NoneType"
  | t, .bl _ => t == "bool" || t == "int"
  | t, .int _ => t == "int"
  | t, .str _ => t == "str"
  | t, .tup _ => t == "tuple"
  | t, .lst _ => t == "list"
  | t, .dct _ _ => t == "dict"
def opIsi (t : String) (x : D) : Option D := some (.bl (x.isT t))

/-- a slice's bound as a place among n (d where it is left out) -/
def sIxD (n d : Nat) : Option Int → Nat
  | none => d
  | some v => if v < 0 then (v + (n : Int)).toNat else min v.toNat n
def cutD (xs : List D) (lo hi : Option Int) : List D := (xs.drop (sIxD xs.length 0 lo)).take (sIxD xs.length xs.length hi - sIxD xs.length 0 lo)
/-- xs[lo:hi] of a list -/
def slL (lo hi : Option Int) : D → Option (List D)
  | .lst xs => some (cutD xs lo hi)
  | _ => none
/-- z[lo:hi] of a text -/
def cutSD (z : Str) (lo hi : Option Int) : Str := ⟨((z.cps.toList.drop (sIxD z.length 0 lo)).take (sIxD z.length z.length hi - sIxD z.length 0 lo)).toArray⟩
/-- .. of a tuple (not the whole), a list, a text -/
def slT (lo hi : Option Int) : D → Option D
  | .tup xs => if sIxD xs.length 0 lo = 0 ∧ sIxD xs.length xs.length hi = xs.length then none else some (.tup (cutD xs lo hi))
  | .lst xs => some (.lst (cutD xs lo hi))
  | .str z => if z.length ≤ vmax then some (.str (cutSD z lo hi)) else none
  | _ => none
abbrev MO := Env → Res (Option Int)
def vNoPart : MO := fun e => .ok none e
def asI : D → Option (Option Int)
  | .int i => some (some i)
  | _ => none
def vPart (a : ME) : MO := fun e => (a e).bind fun x e1 => .of (asI x) e1
def vSl (a : ME) (lo hi : MO) : ME := fun e => (a e).bind fun x e1 => (lo e1).bind fun l e2 => (hi e2).bind fun h e3 => .of (slT l h x) e3
def vSlF (a : ME) (lo hi : MO) : MA := fun e => (a e).bind fun x e1 => (lo e1).bind fun l e2 => (hi e2).bind fun h e3 => .of (slL l h x) e3
def revL : D → Option (List D)
  | .lst xs => some xs.reverse
  | _ => none
def vRevF (a : ME) : MA := fun e => (a e).bind fun x e1 => .of (revL x) e1
/-- list(x) -/
def bfList : List D → Option (List D)
  | [.lst xs] => some xs
  | [.tup xs] => some xs
  | _ => none
def intsD : List D → Option (List Int)
  | [] => some []
  | .int i :: r => (intsD r).map (i :: ·)
  | _ :: _ => none
def boolsD : List D → Option (List Bool)
  | [] => some []
  | .bl i :: r => (boolsD r).map (i :: ·)
  | _ :: _ => none
def bfSum : List D → Option D
  | [.lst xs] => (intsD xs).map fun ns => .int ns.sum
  | _ => none
def bfAll : List D → Option D
  | [.lst xs] => (boolsD xs).map fun ns => .bl (ns.all id)
  | _ => none
def bfAny : List D → Option D
  | [.lst xs] => (boolsD xs).map fun ns => .bl (ns.any id)
  | _ => none
def vIsi (t : String) (a : ME) : ME := vUn (opIsi t) a

/-! ### tests -/
def asB : D → Option Bool
  | .bl b => some b
  | _ => none
def vTest (a : ME) : MB := fun e => (a e).bind fun x e1 => .of (asB x) e1
def vAnd (a b : MB) : MB := fun e => (a e).bind fun x e1 => if x = true then b e1 else .ok false e1
def vOr (a b : MB) : MB := fun e => (a e).bind fun x e1 => if x = true then .ok true e1 else b e1
def vNot (a : MB) : MB := fun e => (a e).bind fun x e1 => .ok (!x) e1
def vB (a : MB) : ME := fun e => (a e).bind fun x e1 => .ok (.bl x) e1
def vChain (op op' : D → D → Option D) (a b c : ME) : ME := fun e => (a e).bind fun x e1 => (b e1).bind fun y e2 =>
  match op x y with
  | some (.bl true) => (c e2).bind fun z e3 => .of (op' y z) e3
  | some (.bl false) => .ok (.bl false) e2
  | _ => .bot

/-- as values -/
def vAndV (a b : ME) : ME := fun e => (a e).bind fun x e1 => match x with
  | .bl true => b e1
  | .bl false => .ok (.bl false) e1
  | _ => .bot
def vOrV (a b : ME) : ME := fun e => (a e).bind fun x e1 => match x with
  | .bl false => b e1
  | .bl true => .ok (.bl true) e1
  | _ => .bot
def vNotV (a : ME) : ME := vUn (fun d => match d with
  | .bl c => some (.bl (!c))
  | _ => none) a
def vTupD (ms : MA) : ME := fun e => (ms e).bind fun xs e1 => if xs.length ≤ vmax then .ok (.tup xs) e1 else .bot
def vLstD (ms : MA) : MA := fun e => (ms e).bind fun xs e1 => if xs.length ≤ vmax then .ok xs e1 else .bot
/-! ### statements -/
def vNext : MS := fun e => .nx e
def vSeq (a b : MS) : MS := fun e => match a e with
  | .nx e1 => b e1
  | r => r
def Res.thenS {α : Type} (r : Res α) (f : α → Env → RS) : RS := match r with
  | .ok a e => f a e
  | .err x e => .err x e
  | .bot => .bot
def vIf (c : MB) (a b : MS) : MS := fun e => (c e).thenS fun x e1 => if x = true then a e1 else b e1
def vRet (a : ME) : MS := fun e => (a e).thenS fun d e1 => .rt d e1
def vRetF (a : MA) : MS := fun e => (a e).thenS fun ds e1 => .rt (.lst ds) e1
/-- return of an owned name -/
def vOwn (i : Nat) : MA := fun e => match e[i]? with
  | some (.ow false ds) => .ok ds (e.set i .no)
  | _ => .bot
def vRetN : MS := fun e => .rt .non e
def vDrop (a : ME) : MS := fun e => (a e).thenS fun _ e1 => .nx e1
/-- raise X(..) -/
def vRaise (x : Str) : MS := fun e => .err ⟨x, none⟩ e
def vAsg (a : ME) (g : D → Env → Option Env) : MS := fun e => (a e).thenS fun d e1 => match g d e1 with
  | some e2 => .nx e2
  | none => .bot
/-- x = a new list: owned from now on -/
def vAsgF (i : Nat) (a : MA) : MS := fun e => (a e).thenS fun ds e1 => if i < e1.length then .nx (e1.set i (.ow false ds)) else .bot
def gNam (i : Nat) : D → Env → Option Env := fun d e => if i < e.length then some (e.set i (.sh d)) else none
def gNil' : List D → Env → Option Env := fun ds e => match ds with
  | [] => some e
  | _ => none
def gCon (g : D → Env → Option Env) (r : List D → Env → Option Env) : List D → Env → Option Env := fun ds e => match ds with
  | d :: ds => match g d e with
    | some e1 => r ds e1
    | none => none
  | [] => none
def gTup' (r : List D → Env → Option Env) : D → Env → Option Env := fun d e => match d with
  | .tup ds => r ds e
  | .lst ds => r ds e
  | _ => none
/-- a, b = e1, e2 -/
def vPar (i j : Nat) (a b : ME) : MS := fun e => (a e).thenS fun x e1 => (b e1).thenS fun y e2 => if i < e2.length ∧ j < e2.length then .nx ((e2.set i (.sh x)).set j (.sh y)) else .bot
def vApp (i : Nat) (a : ME) : MS := fun e => match e[i]? with
  | some (.ow false _) => (a e).thenS fun d e1 => match e1[i]? with
    | some (.ow false ds) => if ds.length < vmax then .nx (e1.set i (.ow false (ds ++ [d]))) else .bot
    | _ => .bot
  | _ => .bot
def vExt (i : Nat) (a : ME) : MS := fun e => match e[i]? with
  | some (.ow false _) => (a e).thenS fun d e1 => match e1[i]? with
    | some (.ow false ds) => match d with
      | .lst xs => if ds.length + xs.length < vmax then .nx (e1.set i (.ow false (ds ++ xs))) else .bot
      | _ => .bot
    | _ => .bot
  | _ => .bot
def vAug (i : Nat) (op : D → D → Option D) (m : ME) : MS := fun e => match e[i]? with
  | some (.sh x) => (m e).thenS fun y e1 => match op x y with
    | some z => if i < e1.length then .nx (e1.set i (.sh z)) else .bot
    | none => .bot
  | _ => .bot
def vSet (i : Nat) (ix a : ME) : MS := fun e => (a e).thenS fun d e1 => match e1[i]? with
  | some (.ow false _) => (ix e1).thenS fun k e2 => match e2[i]? with
    | some (.ow false ds) => match k with
      | .int k => match ixD ds.length k with
        | some j => .nx (e2.set i (.ow false (ds.set j d)))
        | none => .bot
      | _ => .bot
    | _ => .bot
  | _ => .bot
def vPass : MS := fun e => .nx e
def vBreak : MS := fun e => .bk e
def vCont : MS := fun e => .ct e
/-- a loop over items that stand -/
def forL (g : D → Env → Option Env) (b : MS) : List D → Env → RS
  | [], e => .nx e
  | d :: ds, e => match g d e with
    | none => .bot
    | some e1 => match b e1 with
      | .nx e2 => forL g b ds e2
      | .ct e2 => forL g b ds e2
      | .bk e2 => .nx e2
      | .rt d e2 => .rt d e2
      | .err x e2 => .err x e2
      | .bot => .bot
def vFor (it : MA) (g : D → Env → Option Env) (b : MS) : MS := fun e => (it e).thenS fun ds e1 => forL g b ds e1
def iterW (c : MB) (b : MS) : Nat → Env → Option RS
  | 0, _ => none
  | n + 1, e => match c e with
    | .ok false e1 => some (.nx e1)
    | .ok true e1 => match b e1 with
      | .nx e2 => iterW c b n e2
      | .ct e2 => iterW c b n e2
      | .bk e2 => some (.nx e2)
      | .rt d e2 => some (.rt d e2)
      | .err x e2 => some (.err x e2)
      | .bot => some .bot
    | .err x e1 => some (.err x e1)
    | .bot => some .bot
open Classical in
noncomputable def vWhile (c : MB) (b : MS) : MS := fun e => if h : ∃ n r, iterW c b n e = some r then (Classical.choose_spec h).choose else .bot

theorem iterW_more {c : MB} {b : MS} : ∀ {n : Nat} {e : Env} {r : RS}, iterW c b n e = some r → iterW c b (n + 1) e = some r
  | 0, e, r, h => by cases h
  | n + 1, e, r, h => by
    rw [iterW] at h ⊢
    cases hc : c e with
    | ok x e1 =>
      rw [hc] at h
      cases x with
      | false => exact h
      | true =>
        cases hb : b e1 with
        | nx e2 => simp only [hb] at h ⊢; exact iterW_more h
        | ct e2 => simp only [hb] at h ⊢; exact iterW_more h
        | bk e2 => simp only [hb] at h ⊢; exact h
        | rt d e2 => simp only [hb] at h ⊢; exact h
        | err x e2 => simp only [hb] at h ⊢; exact h
        | bot => simp only [hb] at h ⊢; exact h
    | err x e1 => rw [hc] at h; exact h
    | bot => rw [hc] at h; exact h
theorem iterW_le {c : MB} {b : MS} {n m : Nat} {e : Env} {r : RS} (h : n ≤ m) (q : iterW c b n e = some r) : iterW c b m e = some r := by
  induction h with
  | refl => exact q
  | step _ ih => exact iterW_more ih
theorem iterW_one {c : MB} {b : MS} {n m : Nat} {e : Env} {r r' : RS} (h : iterW c b n e = some r) (h' : iterW c b m e = some r') : r = r' := by
  have a := iterW_le (Nat.le_max_left n m) h
  have b := iterW_le (Nat.le_max_right n m) h'
  exact Option.some.inj (a.symm.trans b)
theorem vWhile_of {c : MB} {b : MS} {n : Nat} {e : Env} {r : RS} (h : iterW c b n e = some r) : vWhile c b e = r := by
  unfold vWhile
  have hx : ∃ n r, iterW c b n e = some r := ⟨n, r, h⟩
  rw [dif_pos hx]
  exact iterW_one (Classical.choose_spec (Classical.choose_spec hx)) h
theorem vWhile_some {c : MB} {b : MS} {e : Env} (h : vWhile c b e ≠ .bot) : ∃ n, iterW c b n e = some (vWhile c b e) := by
  by_cases hx : ∃ n r, iterW c b n e = some r
  · obtain ⟨n, r, q⟩ := hx
    exact ⟨n, by rw [vWhile_of q]; exact q⟩
  · unfold vWhile at h
    rw [dif_neg hx] at h
    exact absurd rfl h
/-- one turn -/
theorem vWhile_eq (c : MB) (b : MS) (e : Env) : vWhile c b e = (c e).thenS fun x e1 => if x = true then (match b e1 with
      | .nx e2 => vWhile c b e2
      | .ct e2 => vWhile c b e2
      | .bk e2 => .nx e2
      | .rt d e2 => .rt d e2
      | .err x e2 => .err x e2
      | .bot => .bot) else .nx e1 := by
  have back : ∀ {e2 : Env}, (∀ n r, iterW c b (n + 1) e = some r → iterW c b n e2 = some r) → (∀ n r, iterW c b n e2 = some r → iterW c b (n + 1) e = some r) → vWhile c b e = vWhile c b e2 := fun {e2} h1 h2 => by
    by_cases hx : ∃ n r, iterW c b n e2 = some r
    · obtain ⟨n, r, q⟩ := hx
      rw [vWhile_of q, vWhile_of (h2 n r q)]
    · have hy : ¬ ∃ n r, iterW c b n e = some r := fun ⟨n, r, q⟩ => by
        cases n with
        | zero => cases q
        | succ n => exact hx ⟨n, r, h1 n r q⟩
      unfold vWhile
      rw [dif_neg hx, dif_neg hy]
  cases hc : c e with
  | ok x e1 =>
    cases x with
    | false => exact vWhile_of (n := 1) (by unfold iterW; simp only [hc]; rfl)
    | true =>
      show _ = (match b e1 with
      | .nx e2 => vWhile c b e2
      | .ct e2 => vWhile c b e2
      | .bk e2 => .nx e2
      | .rt d e2 => .rt d e2
      | .err x e2 => .err x e2
      | .bot => .bot)
      cases hb : b e1 with
      | nx e2 => exact back (fun n r q => by unfold iterW at q; simp only [hc, hb] at q; exact q) fun n r q => by unfold iterW; simp only [hc, hb]; exact q
      | ct e2 => exact back (fun n r q => by unfold iterW at q; simp only [hc, hb] at q; exact q) fun n r q => by unfold iterW; simp only [hc, hb]; exact q
      | bk e2 => exact vWhile_of (n := 1) (by unfold iterW; simp only [hc, hb])
      | rt d e2 => exact vWhile_of (n := 1) (by unfold iterW; simp only [hc, hb])
      | err x e2 => exact vWhile_of (n := 1) (by unfold iterW; simp only [hc, hb])
      | bot => exact vWhile_of (n := 1) (by unfold iterW; simp only [hc, hb])
  | err x e1 => exact vWhile_of (n := 1) (by unfold iterW; simp only [hc]; rfl)
  | bot => exact vWhile_of (n := 1) (by unfold iterW; simp only [hc]; rfl)

/-! ### comprehensions: slots own are the block's own names -/
def wipeE (e : Env) : List Nat → Env
  | [] => e
  | v :: vs => (wipeE e vs).set v .no
/-- nothing may be raised here -/
def Res.bindN {α β : Type} (r : Res α) (f : α → Env → Res β) : Res β := match r with
  | .ok a e => f a e
  | _ => .bot
/-- the items kept, in order -/
def lcL (g : D → Env → Option Env) (t : MB) (el : ME) (own : List Nat) : List D → List D → Env → Res (List D)
  | [], acc, e => .ok acc (wipeE e own)
  | d :: ds, acc, e => match g d e with
    | none => .bot
    | some e1 => (t e1).bindN fun k e2 => if k = true then (el e2).bindN fun x e3 => if acc.length < vmax then lcL g t el own ds (acc ++ [x]) (wipeE e3 own) else .bot
      else lcL g t el own ds acc (wipeE e2 own)
def vLc (it : MA) (g : D → Env → Option Env) (t : MB) (el : ME) (own : List Nat) : MA := fun e => (it e).bind fun ds e1 => lcL g t el own ds [] (wipeE e1 own)
def vYes : MB := fun e => .ok true e

/-! ### what a loop walks -/
def seqD : D → Option (List D)
  | .lst ds => some ds
  | .tup ds => some ds
  | .str x => some (x.cps.toList.map fun c => .str ⟨#[c]⟩)
  | _ => none
def vSeqI (m : ME) : MA := fun e => (m e).bind fun d e1 => .of (seqD d) e1
def rngD : List D → Option (List D)
  | [.int j] => if -(2 ^ 62) ≤ j ∧ j < 2 ^ 62 then some ((List.range j.toNat).map fun (i : Nat) => .int (0 + (i : Int))) else none
  | [.int i, .int j] => if -(2 ^ 62) ≤ i ∧ i < 2 ^ 62 ∧ -(2 ^ 62) ≤ j ∧ j < 2 ^ 62 then some ((List.range (j - i).toNat).map fun (n : Nat) => .int (i + (n : Int))) else none
  | _ => none
def vRng1 (m : MA) : MA := fun e => (m e).bind fun ds e1 => match ds with
  | [_] => .of (rngD ds) e1
  | _ => .bot
def vRng2 (m : MA) : MA := fun e => (m e).bind fun ds e1 => match ds with
  | [_, _] => .of (rngD ds) e1
  | _ => .bot
def enumD : List D → Option (List D)
  | [.lst ds] => some (ds.zipIdx.map fun p => .tup [.int ((p.2 : Nat) : Int), p.1])
  | _ => none
def vEnum (m : MA) : MA := fun e => (m e).bind fun ds e1 => .of (enumD ds) e1

/-! ### try -/
/-- which clause takes an exception; the suite's state -/
def vTry (b : MS) (h : Xc → Env → Option MS) (el : MS) : MS := fun e => match b e with
  | .nx e1 => el e1
  | .err x e1 => match h x e1 with
    | some s => s e1
    | none => .err x e1
  | r => r

/-! ### a def -/
def runB (np n : Nat) (b : MS) (ds : List D) : FR := if ds.length = np then (match b (ds.map Sl.sh ++ List.replicate (n - np) .no) with
  | .nx _ => .ok .non
  | .rt d _ => .ok d
  | .err x _ => .err x
  | _ => .bot) else .bot

/-! ### tokens: a slot that holds what is told elsewhere -/
def clrTk (n : Nat) : Sl → Sl
  | .tk m => if m = n then .no else .tk m
  | s => s
def clrE (n : Nat) (e : Env) : Env := e.map (clrTk n)
/-- behind a token's time: slot i gets s -/
def RS.post (n i : Nat) (s : Sl) : RS → RS
  | .nx e => .nx ((clrE n e).set i s)
  | .rt d e => .rt d ((clrE n e).set i s)
  | .bk e => .bk ((clrE n e).set i s)
  | .ct e => .ct ((clrE n e).set i s)
  | .err _ _ => .bot
  | .bot => .bot
/-- try: body; except y as slot i -/
def vTryAs (names : List Str) (anc : Str → Str → Bool) (y : Str) (i : Nat) (b : MS) (h : Str → MS) : MS := fun e => match b e with
  | .err x e1 => match x.val with
    | none => if x.cls ∈ names then (if anc x.cls y = true then RS.post 0 i .no (h x.cls ((clrE 0 e1).set i (.tk 0))) else .err x e1) else .bot
    | some _ => .bot
  | r => r
/-- .. without a name -/
def vTryOnly (names : List Str) (anc : Str → Str → Bool) (y : Str) (b : MS) (h : MS) : MS := fun e => match b e with
  | .err x e1 => if x.cls ∈ names then (if anc x.cls y = true then (match h e1 with
      | .err _ _ => .bot
      | r => r) else .err x e1) else .bot
  | r => r
/-- isinstance(e, ..) of the caught one -/
def vIsE (i : Nat) (b : Bool) : ME := fun e => match e[i]? with
  | some (.tk 0) => .ok (.bl b) e
  | _ => .bot
/-- a loop over an own list, which the body leaves alone -/
def vForO (n i : Nat) (g : D → Env → Option Env) (b : MS) : MS := fun e => match e[i]? with
  | some (.ow false ds) => match forL g b ds ((clrE n e).set i (.tk n)) with
    | .nx e1 => match e1[i]? with
      | some (.tk m) => if m = n then .nx ((clrE n e1).set i (.ow false ds)) else .bot
      | _ => .bot
    | .rt d e1 => .rt d (clrE n e1)
    | .err x e1 => .err x (clrE n e1)
    | _ => .bot
  | _ => .bot
/-- which class is which one's, by a table -/
def ancOf (l : List (Str × List Str)) (x y : Str) : Bool := match l.find? fun p => decide (p.1 = x) with
  | some p => p.2.any fun z => decide (z = y)
  | none => false
/-! ### text of a number; displays of dicts -/
def bfStr : List D → Option D
  | [.int i] => if i.natAbs.log2 < 1920 then some (.str (toString i)) else none
  | _ => none
def keysD : List D → Option (List Ky)
  | [] => some []
  | d :: ds => match keyD d with
    | some k => (keysD ds).map (k :: ·)
    | none => none
def dispD (ps : List (D × D)) : Option D := match keysD (ps.map (·.1)) with
  | some ks => if ks.Nodup ∧ ks.length ≤ 15 then some (.dct ks (ps.map (·.2))) else none
  | none => none
abbrev MQ := Env → Res (List (D × D))
def vPN : MQ := fun e => .ok [] e
def vPC (k v : ME) (r : MQ) : MQ := fun e => (k e).bind fun x e1 => (v e1).bind fun y e2 => (r e2).bind fun ps e3 => .ok ((x, y) :: ps) e3
def vDisp (r : MQ) : ME := fun e => (r e).bind fun ps e1 => .of (dispD ps) e1
/-- z.strip(signs) and the like: a method of a text with one plain value handed in -/
def vM1 (op : Str → D → Option D) (a b : ME) : ME := fun e => (a e).bind fun x e1 => match x with
  | .str z => (b e1).bind fun y e2 => .of (op z y) e2
  | _ => .bot
def opStrip : Str → D → Option D
  | z, .str w => if z.length ≤ vmax then some (.str (Txt.stripChars z w)) else none
  | _, _ => none
/-! ### dicts of one's own -/
abbrev MK := Env → Res (List Ky × List D)
/-- in its place, or at the end -/
def putD (ks : List Ky) (ds : List D) (k : Ky) (d : D) : List Ky × List D := if (ks.any fun j => decide (j = k)) = true then (ks, (ks.zip ds).map fun p => if p.1 = k then d else p.2) else (ks ++ [k], ds ++ [d])
/-- x[k] = v of an own dict -/
def vSetK (i : Nat) (ix a : ME) : MS := fun e => (a e).thenS fun d e1 => match e1[i]? with
  | some (.ow true _) => (ix e1).thenS fun k e2 => match e2[i]? with
    | some (.ow true [.dct ks ds]) => match keyD k with
      | some k => if ks.length < vmax then .nx (e2.set i (.ow true [.dct (putD ks ds k d).1 (putD ks ds k d).2])) else .bot
      | none => .bot
    | _ => .bot
  | _ => .bot
/-- x = a new dict -/
def vAsgK (i : Nat) (a : MK) : MS := fun e => (a e).thenS fun kd e1 => if i < e1.length then .nx (e1.set i (.ow true [.dct kd.1 kd.2])) else .bot
/-- the empty one -/
def vK0 : MK := fun e => .ok ([], []) e
def dispK (ps : List (D × D)) : Option (List Ky × List D) := match keysD (ps.map (·.1)) with
  | some ks => if ks.Nodup ∧ ks.length ≤ 15 then some (ks, ps.map (·.2)) else none
  | none => none
def vKD (r : MQ) : MK := fun e => (r e).bind fun ps e1 => .of (dispK ps) e1
/-- dict(x) -/
def copyK : List D → Option (List Ky × List D)
  | [.dct ks ds] => some (ks, ds)
  | _ => none
def vKC (a : MA) : MK := fun e => (a e).bind fun xs e1 => .of (copyK xs) e1
/-- handed out -/
def vOfK (a : MK) : ME := fun e => (a e).bind fun kd e1 => .ok (.dct kd.1 kd.2) e1
def vBorK (a : MK) : MK := fun e => match a (frz e) with
  | .ok kd _ => if D.flats kd.2 then .ok kd e else .bot
  | .err x _ => .err x e
  | .bot => .bot
/-- a table of the module: its plain values by key -/
abbrev Tb := List (Str × D)
def tbGet (t : Tb) (z : Str) : Option D := (t.find? fun p => decide (p.1 = z)).map (·.2)
/-- asked -/
def tabIn (t : Tb) : D → Option D
  | .str z => some (.bl (tbGet t z).isSome)
  | _ => none
def tabNotIn (t : Tb) : D → Option D
  | .str z => some (.bl (!(tbGet t z).isSome))
  | _ => none
def tabIx (t : Tb) : D → Option D
  | .str z => tbGet t z
  | _ => none
/-! errors with a number of their own -/
/-- raise x(m), whose __init__ keeps the number as its field f -/
def vRaiseI (x f : Str) (m : ME) : MS := fun e => match m e with
  | .ok (.int n) e1 => .err ⟨x, some (f, n)⟩ e1
  | .err y e1 => .err y e1
  | _ => .bot
def noX : RS → RS
  | .err _ _ => .bot
  | r => r
/-- an except clause: the class, the name's slot, the suite -/
abbrev Cl := Str × Option Nat × (Xc → MS)
def vHandle (anc : Str → Str → Bool) : List Cl → Xc → Env → RS
  | [], x, e => .err x e
  | (y, none, h) :: r, x, e => if anc x.cls y = true then noX (h x e) else vHandle anc r x e
  | (y, some i, h) :: r, x, e => if anc x.cls y = true then (h x ((clrE 0 e).set i (.tk 0))).post 0 i .no else vHandle anc r x e
def vTryM (names : List Str) (anc : Str → Str → Bool) (cl : List Cl) (b : MS) : MS := fun e => match b e with
  | .err x e1 => if x.cls ∈ names then vHandle anc cl x e1 else .bot
  | r => r
/-- e.f of the caught one -/
def vXf (i : Nat) (f : Str) (x : Xc) : ME := fun e => match e[i]? with
  | some (.tk 0) => (match x.val with
    | some (g, n) => if g = f then .ok (.int n) e else .bot
    | none => .bot)
  | _ => .bot
/-- a + b, a new list -/
def catL : D → D → Option (List D)
  | .lst xs, .lst ys => if xs.length + ys.length ≤ vmax then some (xs ++ ys) else none
  | _, _ => none
def vCatF (a b : ME) : MA := fun e => (a e).bind fun x e1 => (b e1).bind fun y e2 => .of (catL x y) e2
end VL

/-! VL1: the value layer's core: data over a heap (Rep), the state (Sto), readings and their meaning (Rd). -/
namespace VL
open PySem PySem.Spec PyProof.Rows L2

mutual
inductive Rep (K : PySem.W.Frag) (B : Hp) : V → D → Prop
  | non : Rep K B .non .non
  | bl (b : Bool) : Rep K B (.bl b) (.bl b)
  | int (i : Int) : Rep K B (.int i) (.int i)
  | str (x : Str) : Rep K B (.str x) (.str x)
  | tup {a : Addr} {xs : List V} {ds : List D} : SqT K B a xs → Reps K B xs ds → Rep K B (.ref a) (.tup ds)
  | lst {a : Addr} {xs : List V} {ds : List D} : SqL K B a xs → Reps K B xs ds → Rep K B (.ref a) (.lst ds)
  | dct {a : Addr} {kvs : List (Key × V)} {ks : List Ky} {ds : List D} : Rd B a (.dK kvs) → kvs.map (·.1) = ks → Reps K B (kvs.map (·.2)) ds → Rep K B (.ref a) (.dct ks ds)
inductive Reps (K : PySem.W.Frag) (B : Hp) : List V → List D → Prop
  | nil : Reps K B [] []
  | cons {v : V} {vs : List V} {d : D} {ds : List D} : Rep K B v d → Reps K B vs ds → Reps K B (v :: vs) (d :: ds)
end
section
variable {K : PySem.W.Frag} {B B' H H' : Hp}
theorem same_rd {a : Addr} {u : HO} (s : Same B B') (h : Rd B a u) : Rd B' a u := by
  rcases h with h | ⟨o, h⟩
  · exact .inl (s _ _ h)
  · exact .inr ⟨o, s _ _ h⟩
theorem same_sqT {a : Addr} {xs : List V} (s : Same B B') (h : SqT K B a xs) : SqT K B' a xs := by
  rcases h with h | h
  · exact .inl (same_rd s h)
  · exact .inr h
theorem same_sqL {a : Addr} {xs : List V} (s : Same B B') (h : SqL K B a xs) : SqL K B' a xs := s.seq h
mutual
theorem Rep.mono (s : Same B B') : ∀ {v : V} {d : D}, Rep K B v d → Rep K B' v d
  | _, _, .non => .non
  | _, _, .bl b => .bl b
  | _, _, .int i => .int i
  | _, _, .str x => .str x
  | _, _, .tup h r => .tup (same_sqT s h) (Reps.mono s r)
  | _, _, .lst h r => .lst (same_sqL s h) (Reps.mono s r)
  | _, _, .dct h e r => .dct (same_rd s h) e (Reps.mono s r)
theorem Reps.mono (s : Same B B') : ∀ {v : List V} {d : List D}, Reps K B v d → Reps K B' v d
  | _, _, .nil => .nil
  | _, _, .cons h r => .cons (Rep.mono s h) (Reps.mono s r)
end
theorem Reps.length : ∀ {vs : List V} {ds : List D}, Reps K B vs ds → vs.length = ds.length
  | _, _, .nil => rfl
  | _, _, .cons _ r => congrArg (· + 1) r.length
theorem Reps.get : ∀ {vs : List V} {ds : List D} {i : Nat} {d : D}, Reps K B vs ds → ds[i]? = some d → ∃ v, vs[i]? = some v ∧ Rep K B v d
  | _, _, _, _, .nil, h => by simp at h
  | _, _, 0, _, .cons r _, h => by simp at h; subst h; exact ⟨_, rfl, r⟩
  | _, _, i + 1, _, .cons _ t, h => by
    obtain ⟨v, e, r⟩ := Reps.get (i := i) t (by simpa using h)
    exact ⟨v, by simpa using e, r⟩
theorem Reps.append : ∀ {vs ws : List V} {ds es : List D}, Reps K B vs ds → Reps K B ws es → Reps K B (vs ++ ws) (ds ++ es)
  | _, _, _, _, .nil, s => s
  | _, _, _, _, .cons r t, s => .cons r (Reps.append t s)
theorem Reps.take : ∀ (n : Nat) {vs : List V} {ds : List D}, Reps K B vs ds → Reps K B (vs.take n) (ds.take n)
  | 0, _, _, _ => .nil
  | _ + 1, _, _, .nil => .nil
  | n + 1, _, _, .cons r t => .cons r (Reps.take n t)
theorem Reps.drop : ∀ (n : Nat) {vs : List V} {ds : List D}, Reps K B vs ds → Reps K B (vs.drop n) (ds.drop n)
  | 0, _, _, r => r
  | _ + 1, _, _, .nil => .nil
  | n + 1, _, _, .cons _ t => Reps.drop n t
theorem Reps.set : ∀ (n : Nat) {vs : List V} {ds : List D} {v : V} {d : D}, Rep K B v d → Reps K B vs ds → Reps K B (vs.set n v) (ds.set n d)
  | _, _, _, _, _, _, .nil => .nil
  | 0, _, _, _, _, q, .cons _ t => .cons q t
  | n + 1, _, _, _, _, q, .cons r t => .cons r (Reps.set n q t)
theorem Reps.dropLast {vs : List V} {ds : List D} (r : Reps K B vs ds) : Reps K B vs.dropLast ds.dropLast := by
  rw [List.dropLast_eq_take, List.dropLast_eq_take, r.length]
  exact r.take _
theorem Reps.reverse : ∀ {vs : List V} {ds : List D}, Reps K B vs ds → Reps K B vs.reverse ds.reverse
  | _, _, .nil => .nil
  | _, _, .cons r t => by
    rw [List.reverse_cons, List.reverse_cons]
    exact (Reps.reverse t).append (.cons r .nil)
theorem Reps.rep {vs : List V} {ds : List D} (r : Reps K B vs ds) : ∀ n : Nat, Reps K B (List.replicate n vs).flatten (List.replicate n ds).flatten
  | 0 => .nil
  | n + 1 => by
    rw [List.replicate_succ, List.replicate_succ, List.flatten_cons, List.flatten_cons]
    exact r.append (Reps.rep r n)
theorem Rep.ints : ∀ {ns : List Int}, Reps K B (ns.map V.int) (ns.map D.int)
  | [] => .nil
  | n :: ns => .cons (.int n) Rep.ints
/-- flat data leans on tuples alone -/
def Tups (B B' : Hp) : Prop := ∀ a xs, Rd B a (.tup xs) → Rd B' a (.tup xs)
mutual
theorem Rep.flat (s : Tups B B') : ∀ {v : V} {d : D}, d.flat = true → Rep K B v d → Rep K B' v d
  | _, _, _, .non => .non
  | _, _, _, .bl b => .bl b
  | _, _, _, .int i => .int i
  | _, _, _, .str x => .str x
  | _, _, f, .tup h r => by
    unfold D.flat at f
    refine .tup ?_ (Reps.flat s f r)
    rcases h with h | h
    · exact .inl (s _ _ h)
    · exact .inr h
  | _, _, f, .lst h r => by cases f
  | _, _, f, .dct h e r => by cases f
theorem Reps.flat (s : Tups B B') : ∀ {v : List V} {d : List D}, D.flats d = true → Reps K B v d → Reps K B' v d
  | _, _, _, .nil => .nil
  | _, _, f, .cons h r => by
    unfold D.flats at f
    rw [Bool.and_eq_true] at f
    exact .cons (Rep.flat s f.1 h) (Reps.flat s f.2 r)
end
end

/-- the entry of a def: its heap, what may be read of it, the lists that are its to change -/
structure Gr where
  H : Hp
  B : Hp
  io : List Addr
  tok : Nat → Addr

/-- what an own thing's object holds -/
inductive OwR (K : PySem.W.Frag) (B : Hp) : Bool → HO → List D → Prop
  | lst {vs : List V} {ds : List D} : Reps K B vs ds → OwR K B false (.lst vs) ds
  | dct {kvs : List (Key × V)} {ks : List Ky} {es : List D} : kvs.map (·.1) = ks → Reps K B (kvs.map (·.2)) es → OwR K B true (.dK kvs) [.dct ks es]
theorem OwR.mono {K : PySem.W.Frag} {B B' : Hp} (s : Same B B') {b : Bool} {o : HO} {ds : List D} (h : OwR K B b o ds) : OwR K B' b o ds := by
  cases h with
  | lst r => exact .lst (r.mono s)
  | dct e r => exact .dct e (r.mono s)
theorem OwR.rep {K : PySem.W.Frag} {B : Hp} {p : Addr} {b : Bool} {o : HO} {ds : List D} (h : OwR K B b o ds) (e : B p = some o) : Rep K B (.ref p) (outD b ds) := by
  cases h with
  | lst r => exact .lst (SqL.of e) r
  | dct e2 r => exact .dct (.inl e) e2 r
/-- no tuple, no errors' fields -/
theorem OwR.kind {K : PySem.W.Frag} {B : Hp} {b : Bool} {o : HO} {ds : List D} (h : OwR K B b o ds) : (∃ vs, o = .lst vs) ∨ ∃ kvs, o = .dK kvs := by
  cases h with
  | lst r => exact .inl ⟨_, rfl⟩
  | dct e2 r => exact .inr ⟨_, rfl⟩
inductive SlOk (K : PySem.W.Frag) (G : Gr) (B H : Hp) : Option V → Sl → Prop
  | no {v : Option V} : SlOk K G B H v .no
  | sh {v : V} {d : D} : Rep K B v d → SlOk K G B H (some v) (.sh d)
  | ow {b : Bool} {p : Addr} {o : HO} {ds : List D} : B p = none → G.H p = none → H p = some o → OwR K B b o ds → SlOk K G B H (some (.ref p)) (.ow b ds)
  | tk {n : Nat} : SlOk K G B H (some (.ref (G.tok n))) (.tk n)

structure Sto (K : PySem.W.Frag) (G : Gr) (B H : Hp) (σ : L2.St) (e : Env) : Prop where
  len : σ.length = e.length
  sl : ∀ (i : Nat) (s : Sl), e[i]? = some s → ∃ v, σ[i]? = some v ∧ SlOk K G B H v s
  dis : ∀ (i j : Nat) (p : Addr) (b b' : Bool) (ds ds' : List D), e[i]? = some (.ow b ds) → e[j]? = some (.ow b' ds') → σ[i]? = some (some (.ref p)) → σ[j]? = some (some (.ref p)) → i = j
  sub : Same B H
  b0 : Same G.B B
  keep : ∀ a o, G.H a = some o → a ∉ G.io → H a = some o
  dom : ∀ a, G.H a ≠ none → H a ≠ none
  new : ∀ a, B a ≠ none → G.B a ≠ none ∨ G.H a = none
  iom : ∀ a, a ∈ G.io → G.H a ≠ none

section
variable {K : PySem.W.Frag} {G : Gr} {B B' H H' : Hp} {σ : L2.St} {e : Env}
theorem same_none (s : Same B H) {p : Addr} (h : H p = none) : B p = none := s.free h
theorem same_upd' {p : Addr} {o : HO} (h : H p = none) : Same H (upd H p o) := fun b x q => by
  rw [upd_ne (ne_of_none q h)]
  exact q
theorem same_upd2 (s : Same B H) {p : Addr} {o : HO} : Same (upd B p o) (upd H p o) := fun b x q => by
  unfold upd at q ⊢
  split
  · rename_i z; rw [if_pos z] at q; exact q
  · rename_i z; rw [if_neg z] at q; exact s _ _ q
/-- a new object, readable from now on -/
theorem Sto.alloc (S : Sto K G B H σ e) {p : Addr} {o : HO} (hp : H p = none) : Sto K G (upd B p o) (upd H p o) σ e where
  len := S.len
  sl := fun i s h => by
    obtain ⟨v, e1, ok⟩ := S.sl i s h
    refine ⟨v, e1, ?_⟩
    have sb : Same B (upd B p o) := same_upd' (same_none S.sub hp)
    cases ok with
    | no => exact .no
    | tk => exact .tk
    | sh r => exact .sh (r.mono sb)
    | @ow _ q vs ds h1 h2 h3 h4 =>
      have ne : q ≠ p := ne_of_none h3 hp
      exact .ow (by rw [upd_ne ne]; exact h1) h2 (by rw [upd_ne ne]; exact h3) (h4.mono sb)
  dis := S.dis
  sub := same_upd2 S.sub
  b0 := S.b0.trans (same_upd' (same_none S.sub hp))
  keep := fun a x h1 h2 => by
    have h3 := S.keep a x h1 h2
    rw [upd_ne (ne_of_none h3 hp)]
    exact h3
  dom := fun a h => by
    by_cases q : a = p
    · rw [q, upd_same]; simp
    · rw [upd_ne q]; exact S.dom a h
  new := fun a h => by
    by_cases q : a = p
    · refine .inr ?_
      cases z : G.H a with
      | none => rfl
      | some x => exact absurd (q ▸ hp) (S.dom a (by rw [z]; simp))
    · rw [upd_ne q] at h; exact S.new a h
  iom := S.iom
/-- a new object that is nobody's yet -/
theorem Sto.loose (S : Sto K G B H σ e) {p : Addr} {o : HO} (hp : H p = none) : Sto K G B (upd H p o) σ e where
  len := S.len
  sl := fun i s h => by
    obtain ⟨v, e1, ok⟩ := S.sl i s h
    refine ⟨v, e1, ?_⟩
    cases ok with
    | no => exact .no
    | tk => exact .tk
    | sh r => exact .sh r
    | @ow _ q vs ds h1 h2 h3 h4 =>
      have ne : q ≠ p := ne_of_none h3 hp
      exact .ow h1 h2 (by rw [upd_ne ne]; exact h3) h4
  dis := S.dis
  sub := S.sub.trans (same_upd' hp)
  b0 := S.b0
  keep := fun a x h1 h2 => by
    have h3 := S.keep a x h1 h2
    rw [upd_ne (ne_of_none h3 hp)]
    exact h3
  dom := fun a h => by
    by_cases q : a = p
    · rw [q, upd_same]; simp
    · rw [upd_ne q]; exact S.dom a h
  new := S.new
  iom := S.iom
/-- G-fresh -/
theorem Sto.fresh (S : Sto K G B H σ e) {p : Addr} (hp : H p = none) : G.H p = none := by
  cases z : G.H p with
  | none => rfl
  | some x => exact absurd hp (S.dom p (by rw [z]; simp))
/-- a list that nobody has, put into B -/
theorem Sto.take (S : Sto K G B H σ e) {p : Addr} {o : HO} (hp : H p = some o) (hb : B p = none) (hg : G.H p = none) (ho : ∀ (i : Nat) (b : Bool) (ds : List D), e[i]? = some (.ow b ds) → σ[i]? ≠ some (some (.ref p))) : Sto K G (upd B p o) H σ e where
  len := S.len
  sl := fun i s h => by
    obtain ⟨v, e1, ok⟩ := S.sl i s h
    refine ⟨v, e1, ?_⟩
    have sb : Same B (upd B p o) := same_upd' hb
    cases ok with
    | no => exact .no
    | tk => exact .tk
    | sh r => exact .sh (r.mono sb)
    | @ow _ q vs ds h1 h2 h3 h4 =>
      have ne : q ≠ p := fun z => ho i _ _ h (by rw [e1, z])
      exact .ow (by rw [upd_ne ne]; exact h1) h2 h3 (h4.mono sb)
  dis := S.dis
  sub := fun b x q => by
    by_cases z : b = p
    · rw [z, upd_same] at q; rw [z, hp]; exact q
    · rw [upd_ne z] at q; exact S.sub _ _ q
  b0 := S.b0.trans (same_upd' hb)
  keep := S.keep
  dom := S.dom
  new := fun a h => by
    by_cases q : a = p
    · exact .inr (q ▸ hg)
    · rw [upd_ne q] at h; exact S.new a h
  iom := S.iom
/-- a slot forgotten -/
theorem Sto.drop (S : Sto K G B H σ e) (i : Nat) (v : Option V) : Sto K G B H (σ.set i v) (e.set i .no) where
  len := by rw [List.length_set, List.length_set]; exact S.len
  sl := fun j s h => by
    by_cases q : i = j
    · subst q
      have hl : i < e.length := by
        have := (List.getElem?_eq_some_iff.mp h).1
        rw [List.length_set] at this; exact this
      rw [List.getElem?_set_self hl] at h
      cases h
      exact ⟨v, List.getElem?_set_self (by rw [S.len]; exact hl), .no⟩
    · rw [List.getElem?_set_ne q] at h
      rw [List.getElem?_set_ne q]
      exact S.sl j s h
  dis := fun j k p b b' ds ds' h1 h2 h3 h4 => by
    have nj : i ≠ j := fun q => by
      subst q
      have hl := (List.getElem?_eq_some_iff.mp h1).1
      rw [List.length_set] at hl
      rw [List.getElem?_set_self hl] at h1
      cases h1
    have nk : i ≠ k := fun q => by
      subst q
      have hl := (List.getElem?_eq_some_iff.mp h2).1
      rw [List.length_set] at hl
      rw [List.getElem?_set_self hl] at h2
      cases h2
    rw [List.getElem?_set_ne nj] at h1 h3
    rw [List.getElem?_set_ne nk] at h2 h4
    exact S.dis j k p b b' ds ds' h1 h2 h3 h4
  sub := S.sub
  b0 := S.b0
  keep := S.keep
  dom := S.dom
  new := S.new
  iom := S.iom
/-- a slot forgotten, its place as it was -/
theorem Sto.lose (S : Sto K G B H σ e) (i : Nat) : Sto K G B H σ (e.set i .no) := by
  by_cases hl : i < σ.length
  · have q := S.drop i σ[i]
    have z : σ.set i σ[i] = σ := List.set_getElem_self hl
    rw [z] at q
    exact q
  · have z : e.set i .no = e := List.set_eq_of_length_le (by have := S.len; omega)
    rw [z]
    exact S
/-- a value stored -/
theorem Sto.put (S : Sto K G B H σ e) (i : Nat) {v : V} {s : Sl} (hs : SlOk K G B H (some v) s) (ho : ∀ (b : Bool) (ds : List D) (p : Addr), s = Sl.ow b ds → v = V.ref p → ∀ (j : Nat) (b' : Bool) (ds' : List D), j ≠ i → e[j]? = some (.ow b' ds') → σ[j]? ≠ some (some (.ref p))) : Sto K G B H (σ.set i (some v)) (e.set i s) where
  len := by rw [List.length_set, List.length_set]; exact S.len
  sl := fun j s' h => by
    by_cases q : i = j
    · subst q
      have hl : i < e.length := by
        have := (List.getElem?_eq_some_iff.mp h).1
        rw [List.length_set] at this; exact this
      rw [List.getElem?_set_self hl] at h
      cases h
      exact ⟨_, List.getElem?_set_self (by rw [S.len]; exact hl), hs⟩
    · rw [List.getElem?_set_ne q] at h
      rw [List.getElem?_set_ne q]
      exact S.sl j s' h
  dis := fun j k p b b' ds ds' h1 h2 h3 h4 => by
    have low : ∀ {j : Nat} {s' : Sl}, (e.set i s)[j]? = some s' → j < e.length := fun {j s'} h => by
      have hl := (List.getElem?_eq_some_iff.mp h).1
      rw [List.length_set] at hl
      exact hl
    by_cases qj : i = j
    · by_cases qk : i = k
      · exact qj.symm.trans qk
      · exfalso
        subst qj
        have hl := low h1
        rw [List.getElem?_set_self hl] at h1
        rw [List.getElem?_set_self (by rw [S.len]; exact hl)] at h3
        rw [List.getElem?_set_ne qk] at h2 h4
        exact ho b ds p (Option.some.inj h1) (Option.some.inj (Option.some.inj h3)) k b' ds' (Ne.symm qk) h2 h4
    · by_cases qk : i = k
      · exfalso
        subst qk
        have hl := low h2
        rw [List.getElem?_set_self hl] at h2
        rw [List.getElem?_set_self (by rw [S.len]; exact hl)] at h4
        rw [List.getElem?_set_ne qj] at h1 h3
        exact ho b' ds' p (Option.some.inj h2) (Option.some.inj (Option.some.inj h4)) j b ds (Ne.symm qj) h1 h3
      · rw [List.getElem?_set_ne qj] at h1 h3
        rw [List.getElem?_set_ne qk] at h2 h4
        exact S.dis j k p b b' ds ds' h1 h2 h3 h4
  sub := S.sub
  b0 := S.b0
  keep := S.keep
  dom := S.dom
  new := S.new
  iom := S.iom
/-- an owned list is written -/
theorem Sto.write (S : Sto K G B H σ e) {i : Nat} {b : Bool} {p : Addr} {ds ds' : List D} {o' : HO} (he : e[i]? = some (.ow b ds)) (hσ : σ[i]? = some (some (.ref p))) (r : OwR K B b o' ds') : Sto K G B (upd H p o') σ (e.set i (.ow b ds')) := by
  obtain ⟨v, e1, ok⟩ := S.sl i _ he
  rw [hσ] at e1
  cases e1
  cases ok with
  | ow hb hg hh hr =>
    have hl : i < e.length := (List.getElem?_eq_some_iff.mp he).1
    refine ⟨by rw [List.length_set]; exact S.len, fun j s h => ?_, fun j k q c c' es es' h1 h2 h3 h4 => ?_, fun b x q => ?_, S.b0, fun a o h1 h2 => ?_, fun a h => ?_, S.new, S.iom⟩
    · by_cases q : i = j
      · subst q
        rw [List.getElem?_set_self hl] at h
        cases h
        exact ⟨_, hσ, .ow hb hg upd_same r⟩
      · rw [List.getElem?_set_ne q] at h
        obtain ⟨v, e1, ok⟩ := S.sl j s h
        refine ⟨v, e1, ?_⟩
        cases ok with
        | no => exact .no
        | tk => exact .tk
        | sh r => exact .sh r
        | @ow _ q' vs ds2 h1 h2 h3 h4 =>
          have ne : q' ≠ p := fun z => q (S.dis i j p _ _ ds ds2 he h hσ (by rw [e1, z]))
          exact .ow h1 h2 (by rw [upd_ne ne]; exact h3) h4
    · have back : ∀ {j : Nat} {c : Bool} {es : List D}, (e.set i (.ow b ds'))[j]? = some (.ow c es) → ∃ c0 es0, e[j]? = some (.ow c0 es0) := fun {j c es} h => by
        by_cases q : i = j
        · subst q; exact ⟨b, ds, he⟩
        · rw [List.getElem?_set_ne q] at h; exact ⟨c, es, h⟩
      obtain ⟨x1, a1, b1⟩ := back h1
      obtain ⟨x2, a2, b2⟩ := back h2
      exact S.dis j k q x1 x2 a1 a2 b1 b2 h3 h4
    · have ne : b ≠ p := ne_of_none q hb
      rw [upd_ne ne]
      exact S.sub _ _ q
    · have ne : a ≠ p := fun z => by
        subst z
        rw [hg] at h1; cases h1
      rw [upd_ne ne]
      exact S.keep a o h1 h2
    · by_cases q : a = p
      · rw [q, upd_same]; simp
      · rw [upd_ne q]; exact S.dom a h
/-- an owned list handed out -/
theorem Sto.hand (S : Sto K G B H σ e) {i : Nat} {b : Bool} {p : Addr} {ds : List D} {o : HO} (he : e[i]? = some (.ow b ds)) (hσ : σ[i]? = some (some (.ref p))) (hh : H p = some o) (hr : OwR K B b o ds) (hb : B p = none) (hg : G.H p = none) :
    Sto K G (upd B p o) H σ (e.set i (.sh (outD b ds))) := by
  have hl : i < e.length := (List.getElem?_eq_some_iff.mp he).1
  have S1 := S.lose i
  have S2 := S1.take hh hb hg fun j c es h q => by
    by_cases z : i = j
    · subst z; rw [List.getElem?_set_self hl] at h; cases h
    · rw [List.getElem?_set_ne z] at h
      exact z (S.dis i j p _ _ ds es he h hσ q)
  have sb : Same B (upd B p o) := same_upd' hb
  have S3 := S2.put i (v := .ref p) (s := .sh (outD b ds)) (.sh ((hr.mono sb).rep upd_same)) fun _ _ _ z => nomatch z
  have z1 : σ.set i (some (.ref p)) = σ := by
    have hl' : i < σ.length := by rw [S.len]; exact hl
    have q : σ[i] = some (.ref p) := by
      rw [List.getElem?_eq_getElem hl'] at hσ; exact Option.some.inj hσ
    rw [← q]; exact List.set_getElem_self hl'
  have z2 : (e.set i .no).set i (.sh (outD b ds)) = e.set i (.sh (outD b ds)) := List.set_set ..
  rw [z1, z2] at S3
  exact S3
/-- what nobody has is written -/
theorem Sto.poke (S : Sto K G B H σ e) {p : Addr} {o : HO} (hb : B p = none) (hg : G.H p = none) (ho : ∀ (i : Nat) (b : Bool) (ds : List D), e[i]? = some (.ow b ds) → σ[i]? ≠ some (some (.ref p))) : Sto K G B (upd H p o) σ e where
  len := S.len
  sl := fun i s h => by
    obtain ⟨v, e1, ok⟩ := S.sl i s h
    refine ⟨v, e1, ?_⟩
    cases ok with
    | no => exact .no
    | tk => exact .tk
    | sh r => exact .sh r
    | @ow b q vs ds h1 h2 h3 h4 =>
      have ne : q ≠ p := fun z => ho i b ds h (by rw [e1, z])
      exact .ow h1 h2 (by rw [upd_ne ne]; exact h3) h4
  dis := S.dis
  sub := fun b x q => by
    rw [upd_ne (ne_of_none q hb)]
    exact S.sub _ _ q
  b0 := S.b0
  keep := fun a x h1 h2 => by
    rw [upd_ne (ne_of_none h1 hg)]
    exact S.keep a x h1 h2
  dom := fun a h => by
    by_cases q : a = p
    · rw [q, upd_same]; simp
    · rw [upd_ne q]; exact S.dom a h
  new := S.new
  iom := S.iom
/-- what is owned there -/
def Owned (σ : L2.St) (e : Env) (p : Addr) : Prop := ∃ (i : Nat) (b : Bool) (ds : List D), e[i]? = some (.ow b ds) ∧ σ[i]? = some (some (.ref p))
end

open Classical in
/-- B and all owned lists -/
noncomputable def full (B H : Hp) (σ : L2.St) (e : Env) : Hp := fun a => match B a with
  | some o => some o
  | none => if Owned σ e a then H a else none
/-- owned by a name of the frame -/
def OwnF (σ : L2.St) (e : Env) (a : Addr) : Prop := ∃ (i : Nat) (b : Bool) (ds : List D), e[i]? = some (.ow b ds) ∧ σ[i]? = some (some (.ref a))
open Classical in
noncomputable def reb (G : Gr) (B H : Hp) (σ : L2.St) (e : Env) : Gr := ⟨fun a => if OwnF σ e a then none else H a, B, G.io, G.tok⟩
/-- the n-th token tells p -/
def GT (G : Gr) (n : Nat) (p : Addr) : Gr := { G with tok := fun m => if m = n then p else G.tok m }
/-- what surrounds: the wish for exceptions, what is known of the entry -/
structure Am (K : PySem.W.Frag) where
  w : WX
  g : Gr → Prop
  full : ∀ (G : Gr) (B H : Hp) (σ : L2.St) (e : Env), g G → Sto K G B H σ e → g ⟨H, full B H σ e, [], G.tok⟩
  reb : ∀ (G : Gr) (B H : Hp) (σ : L2.St) (e : Env), g G → Sto K G B H σ e → g (reb G B H σ e)
  gtk : ∀ (G : Gr) (n : Nat) (p : Addr), n ≠ 0 → g G → g (GT G n p)
def Am.of (K : PySem.W.Frag) (w : WX) : Am K := ⟨w, fun _ => True, fun _ _ _ _ _ _ _ => trivial, fun _ _ _ _ _ _ _ => trivial, fun _ _ _ _ _ => trivial⟩
/-- another wish -/
def Am.to {K : PySem.W.Frag} (W : Am K) (w : WX) : Am K := ⟨w, W.g, W.full, W.reb, W.gtk⟩
/-- an exception that flies -/
def XRep (K : PySem.W.Frag) (mg : Str → Option Value) (B : Hp) (cls : Value) (dd : Option Addr) (x : Xc) : Prop :=
  ∃ C, mg x.cls = some (.ref C) ∧ cls = .ref C ∧ match x.val with
    | none => dd = none
    | some (f, n) => ∃ a, dd = some a ∧ B a = some (.xd [(f, .int n)])

/-- what is due of a result -/
abbrev RP (α β : Type) := Gr → Hp → Hp → L2.St → Env → β → α → Prop
section
variable (K : PySem.W.Frag) (mg : Str → Option Value) (W : Am K)
def Po {α β : Type} (R : RP α β) (G : Gr) (σ : L2.St) (B : Hp) (Q : β → Hp → Prop) (r : Res α) : Prop := match r with
  | .ok a e' => ∀ b B' H', Sto K G B' H' σ e' → Same B B' → R G B' H' σ e' b a → Q b H'
  | .err x e' => ∀ cls dd B' H', Sto K G B' H' σ e' → Same B B' → XRep K mg B' cls dd x → W.w cls dd σ H'
  | .bot => False
def rpE : RP D V := fun _ B _ _ _ v d => Rep K B v d
def rpA : RP (List D) (List V) := fun _ B _ _ _ vs ds => Reps K B vs ds
def rpB : RP Bool Bool := fun _ _ _ _ _ b a => b = a
/-- a new list, nobody's -/
def rpF : RP (List D) V := fun G B H σ e v ds => ∃ p vs, v = .ref p ∧ H p = some (.lst vs) ∧ B p = none ∧ G.H p = none ∧ ¬ Owned σ e p ∧ Reps K B vs ds
def Frz (e : Env) : Prop := ∀ (i : Nat) (b : Bool) (ds : List D), e[i]? ≠ some (.ow b ds)
structure RdX {α β : Type} (R : RP α β) (t : L2.St → Hp → (β → Hp → Prop) → Prop) (m : Env → Res α) : Prop where
  run : ∀ (G : Gr), W.g G → ∀ (B H : Hp) (σ : L2.St) (e : Env) (Q : β → Hp → Prop), Sto K G B H σ e → Po K mg W R G σ B Q (m e) → t σ H Q
end
section
variable {K : PySem.W.Frag} {mg : Str → Option Value} {W : Am K} {α β γ δ : Type} {G : Gr} {B B' H H' : Hp} {σ : L2.St} {e : Env}
theorem Po.base {R : RP α β} {Q : β → Hp → Prop} {r : Res α} (s : Same B B') (h : Po K mg W R G σ B Q r) : Po K mg W R G σ B' Q r := by
  cases r with
  | ok a e' => exact fun b B2 H2 S q p => h b B2 H2 S (s.trans q) p
  | err x e' => exact fun c d B2 H2 S q p => h c d B2 H2 S (s.trans q) p
  | bot => exact h
theorem Po.bind {R : RP α β} {R' : RP γ δ} {Q : β → Hp → Prop} {Q' : δ → Hp → Prop} {r : Res α} {f : α → Env → Res γ} (h : Po K mg W R' G σ B Q' (r.bind f))
    (k : ∀ a e1 b B1 H1, Sto K G B1 H1 σ e1 → Same B B1 → R G B1 H1 σ e1 b a → Po K mg W R' G σ B1 Q' (f a e1) → Q b H1) : Po K mg W R G σ B Q r := by
  cases r with
  | ok a e1 => exact fun b B1 H1 S q p => k a e1 b B1 H1 S q p (Po.base q h)
  | err x e' => exact h
  | bot => exact h
theorem Po.here {R : RP α β} {Q : β → Hp → Prop} {a : α} {b : β} (h : Po K mg W R G σ B Q (.ok a e)) (S : Sto K G B H σ e) (p : R G B H σ e b a) : Q b H := h b B H S (Same.refl B) p
theorem Po.of {R : RP α β} {Q : β → Hp → Prop} {o : Option α} (h : Po K mg W R G σ B Q (.of o e)) : ∃ a, o = some a ∧ Po K mg W R G σ B Q (.ok a e) := by
  cases o with
  | none => exact False.elim h
  | some a => exact ⟨a, rfl, h⟩
theorem frz_frz (e : Env) : Frz (frz e) := fun i b ds h => by
  unfold frz at h
  rw [List.getElem?_map] at h
  cases z : e[i]? with
  | none => rw [z] at h; cases h
  | some s => rw [z] at h; cases s <;> cases h
end
end VL

/-! VL2: the readings of expressions and their meanings. -/
namespace VL
open PySem PySem.Spec PyProof.Rows L2
section
variable {K : PySem.W.Frag} {mg : Str → Option Value} {W : Am K} {G : Gr} {B H : Hp} {σ : L2.St} {e : Env}
abbrev RdE (K : PySem.W.Frag) (mg : Str → Option Value) (W : Am K) (t : TE) (m : ME) : Prop := RdX K mg W (rpE K) t m
abbrev RdA (K : PySem.W.Frag) (mg : Str → Option Value) (W : Am K) (t : TA) (m : MA) : Prop := RdX K mg W (rpA K) t m
abbrev RdB (K : PySem.W.Frag) (mg : Str → Option Value) (W : Am K) (t : TT) (m : MB) : Prop := RdX K mg W rpB t m
abbrev RdF (K : PySem.W.Frag) (mg : Str → Option Value) (W : Am K) (t : TE) (m : MA) : Prop := RdX K mg W (rpF K) t m

theorem Sto.at (S : Sto K G B H σ e) {i : Nat} {s : Sl} (h : e[i]? = some s) : ∃ v, σ[i]? = some v ∧ SlOk K G B H v s := S.sl i s h
theorem rd_var (i : Nat) : RdE K mg W (tVar i) (vVar i) where
  run := fun G hG B H σ e Q S h => by
    unfold vVar at h
    cases z : e[i]? with
    | none => rw [z] at h; exact h.elim
    | some s =>
      rw [z] at h
      obtain ⟨v, hv, ok⟩ := S.sl i s z
      cases ok with
      | no => exact h.elim
      | tk => exact h.elim
      | sh r => exact ⟨_, hv, Po.here h S r⟩
      | @ow b p vs ds hb hg hh hr =>
        exact ⟨_, hv, h (.ref p) _ H (S.hand z hv hh hr hb hg) (same_upd' hb) ((hr.mono (same_upd' hb)).rep upd_same)⟩
theorem rd_c {v : V} {d : D} (r : ∀ B, Rep K B v d) : RdE K mg W (tC v) (vC d) where
  run := fun G hG B H σ e Q S h => Po.here h S (r B)
theorem rd_int (i : Int) : RdE K mg W (tC (.int i)) (vC (.int i)) := rd_c fun _ => .int i
theorem rd_bl (b : Bool) : RdE K mg W (tC (.bl b)) (vC (.bl b)) := rd_c fun _ => .bl b
theorem rd_non : RdE K mg W (tC .non) (vC .non) := rd_c fun _ => .non
theorem rd_str (x : Str) : RdE K mg W (tC (.str x)) (vC (.str x)) := rd_c fun _ => .str x

/-- an operator by values: what it gives of data -/
def Op2 (K : PySem.W.Frag) (mg : Str → Option Value) (W : Am K) (r : R2) (op : D → D → Option D) : Prop :=
  ∀ (G : Gr) (B H : Hp) (σ : L2.St) (e : Env) (x y : V) (a b d : D) (Q : VK), Sto K G B H σ e → Rep K B x a → Rep K B y b → op a b = some d → Po K mg W (rpE K) G σ B Q (.ok d e) → r x y H Q
def Op1 (K : PySem.W.Frag) (mg : Str → Option Value) (W : Am K) (r : V → Hp → VK → Prop) (op : D → Option D) : Prop :=
  ∀ (G : Gr) (B H : Hp) (σ : L2.St) (e : Env) (x : V) (a d : D) (Q : VK), Sto K G B H σ e → Rep K B x a → op a = some d → Po K mg W (rpE K) G σ B Q (.ok d e) → r x H Q
theorem rd_op {r : R2} {op : D → D → Option D} {ta tb : TE} {ma mb : ME} (hr : Op2 K mg W r op) (ha : RdE K mg W ta ma) (hb : RdE K mg W tb mb) : RdE K mg W (tOp r ta tb) (vOp op ma mb) where
  run := fun G hG B H σ e Q S h => by
    refine ha.run G hG B H σ e _ S (Po.bind h fun a e1 x B1 H1 S1 s1 r1 h1 => ?_)
    refine hb.run G hG B1 H1 σ e1 _ S1 (Po.bind h1 fun b e2 y B2 H2 S2 s2 r2 h2 => ?_)
    obtain ⟨d, hd, h3⟩ := h2.of
    exact hr G B2 H2 σ e2 x y a b d Q S2 (Rep.mono s2 r1) r2 hd h3
theorem rd_un {r : V → Hp → VK → Prop} {op : D → Option D} {ta : TE} {ma : ME} (hr : Op1 K mg W r op) (ha : RdE K mg W ta ma) : RdE K mg W (tUn r ta) (vUn op ma) where
  run := fun G hG B H σ e Q S h => by
    refine ha.run G hG B H σ e _ S (Po.bind h fun a e1 x B1 H1 S1 s1 r1 h1 => ?_)
    obtain ⟨d, hd, h3⟩ := h1.of
    exact hr G B1 H1 σ e1 x a d Q S1 r1 hd h3

/-! arguments -/
theorem rd_nil : RdA K mg W tNil vNil where
  run := fun G hG B H σ e Q S h => Po.here h S .nil
theorem rd_cons {ta : TE} {t : TA} {ma : ME} {m : MA} (ha : RdE K mg W ta ma) (hr : RdA K mg W t m) : RdA K mg W (tCons ta t) (vCons ma m) where
  run := fun G hG B H σ e Q S h => by
    refine ha.run G hG B H σ e _ S (Po.bind h fun a e1 x B1 H1 S1 s1 r1 h1 => ?_)
    refine hr.run G hG B1 H1 σ e1 _ S1 (Po.bind h1 fun b e2 y B2 H2 S2 s2 r2 h2 => ?_)
    exact Po.here h2 S2 (.cons (Rep.mono s2 r1) r2)

/-- how many items a display has -/
def TLen (t : TA) (n : Nat) : Prop := ∀ (σ : L2.St) (H : Hp) (Q : List V → Hp → Prop), t σ H Q → True
theorem rd_tup {t : TA} {m : MA} (h : RdA K mg W t m) : RdE K mg W (tTup t) (fun e => (m e).bind fun xs e1 => if xs.length ≤ vmax then .ok (.tup xs) e1 else .bot) where
  run := fun G hG B H σ e Q S q => by
    refine h.run G hG B H σ e _ S (Po.bind q fun a e1 x B1 H1 S1 s1 r1 h1 => ?_)
    split at h1
    · rename_i hl
      refine ⟨by rw [Reps.length r1, sizeLine_eq]; exact Nat.le_trans hl (by decide), fun p hp => ?_⟩
      exact h1 _ _ _ (S1.alloc hp) (same_upd' (same_none S1.sub hp)) (.tup (SqT.of upd_same) (Reps.mono (same_upd' (same_none S1.sub hp)) r1))
    · exact h1.elim
theorem not_owned_new (S : Sto K G B H σ e) {p : Addr} (hp : H p = none) : ¬ Owned σ e p := fun ⟨i, b, ds, h1, h2⟩ => by
  obtain ⟨v, e1, ok⟩ := S.sl i _ h1
  rw [h2] at e1
  cases e1
  cases ok with
  | ow _ _ h3 _ => rw [hp] at h3; cases h3
/-- a new list -/
theorem fresh_list (S : Sto K G B H σ e) {ds : List D} {vs : List V} {Q : VK} (r : Reps K B vs ds) (h : Po K mg W (rpF K) G σ B Q (.ok ds e)) : ∀ p, H p = none → Q (.ref p) (upd H p (.lst vs)) := fun p hp =>
  h _ B _ (S.loose hp) (Same.refl B) ⟨p, vs, rfl, upd_same, same_none S.sub hp, S.fresh hp, not_owned_new S hp, r⟩
theorem rd_lst {t : TA} {m : MA} (h : RdA K mg W t m) : RdF K mg W (tLst t) (fun e => (m e).bind fun xs e1 => if xs.length ≤ vmax then .ok xs e1 else .bot) where
  run := fun G hG B H σ e Q S q => by
    refine h.run G hG B H σ e _ S (Po.bind q fun a e1 x B1 H1 S1 s1 r1 h1 => ?_)
    split at h1
    · rename_i hl
      exact ⟨by rw [Reps.length r1, sizeLine_eq]; exact Nat.le_trans hl (by decide), fresh_list S1 r1 h1⟩
    · exact h1.elim
/-- a new list handed out -/
theorem rd_of {t : TE} {m : MA} (h : RdF K mg W t m) : RdE K mg W t (vOf m) where
  run := fun G hG B H σ e Q S q => by
    refine h.run G hG B H σ e _ S (Po.bind q fun ds e1 x B1 H1 S1 s1 r1 h1 => ?_)
    obtain ⟨p, vs, rfl, hp, hb, hg, no, r⟩ := r1
    exact h1 _ _ _ (S1.take hp hb hg fun i b ds z1 z2 => no ⟨i, b, ds, z1, z2⟩) (same_upd' hb) (.lst (SqL.of upd_same) (r.mono (same_upd' hb)))

/-! looking at owned lists -/
theorem full_same {B H : Hp} {σ : L2.St} {e : Env} : Same B (full B H σ e) := fun a o h => by unfold full; rw [h]
theorem full_sub (S : Sto K G B H σ e) : Same (full B H σ e) H := fun a o h => by
  unfold full at h
  split at h
  · rename_i o' h'; exact (S.sub _ _ h').trans h
  · split at h
    · exact h
    · cases h
theorem frz_get {e : Env} {i : Nat} {s : Sl} (h : (frz e)[i]? = some s) : ∃ s0, e[i]? = some s0 ∧ s = (match s0 with
    | .ow b ds => .sh (outD b ds)
    | s => s) := by
  unfold frz at h
  rw [List.getElem?_map] at h
  cases z : e[i]? with
  | none => rw [z] at h; cases h
  | some s0 => rw [z] at h; exact ⟨s0, rfl, (Option.some.inj h).symm⟩
theorem Sto.full (S : Sto K G B H σ e) : Sto K ⟨H, full B H σ e, [], G.tok⟩ (full B H σ e) H σ (frz e) where
  len := by unfold frz; rw [List.length_map]; exact S.len
  sl := fun i s h => by
    obtain ⟨s0, h0, hs⟩ := frz_get h
    obtain ⟨v, e1, ok⟩ := S.sl i s0 h0
    refine ⟨v, e1, ?_⟩
    subst hs
    cases ok with
    | no => exact .no
    | tk => exact .tk
    | sh r => exact .sh (r.mono full_same)
    | @ow b p vs ds hb hg hh hr =>
      refine .sh ((hr.mono full_same).rep ?_)
      unfold VL.full
      rw [hb]
      exact (if_pos ⟨i, b, ds, h0, e1⟩).trans hh
  dis := fun i j p b b' ds ds' h1 => absurd h1 (frz_frz e i b ds)
  sub := full_sub S
  b0 := Same.refl _
  keep := fun a o h _ => h
  dom := fun a h => h
  new := fun a h => .inl h
  iom := fun a h => by simp at h
/-- .. and back: what is new beside the owned ones -/
def tupsOf (B B' : Hp) : Hp := fun a => match B a with
  | some o => some o
  | none => match B' a with
    | some (.tup xs) => some (.tup xs)
    | some (.frz o (.tup xs)) => some (.frz o (.tup xs))
    | some (.xd fs) => some (.xd fs)
    | _ => none
theorem tupsOf_same {B B' : Hp} : Same B (tupsOf B B') := fun a o h => by unfold tupsOf; rw [h]
theorem tupsOf_some {B B' : Hp} {a : Addr} {o : HO} (h : tupsOf B B' a = some o) : B a = some o ∨ (B a = none ∧ B' a = some o ∧ (∀ xs, o ≠ .lst xs) ∧ ∀ kvs, o ≠ .dK kvs) := by
  unfold tupsOf at h
  split at h
  · rename_i o' h'; exact .inl (h'.trans h)
  · rename_i h'
    split at h
    · rename_i xs h2; cases h; exact .inr ⟨h', h2, (fun _ z => nomatch z), (fun _ z => nomatch z)⟩
    · rename_i ob xs h2; cases h; exact .inr ⟨h', h2, (fun _ z => nomatch z), (fun _ z => nomatch z)⟩
    · rename_i fs h2; cases h; exact .inr ⟨h', h2, (fun _ z => nomatch z), (fun _ z => nomatch z)⟩
    · cases h
theorem tupsOf_tups {B B' B0 : Hp} (s : Same B B') : Tups B' (tupsOf B B') := fun a xs h => by
  rcases h with h | ⟨o, h⟩
  · refine .inl ?_
    unfold tupsOf
    cases z : B a with
    | some o => have q := s _ _ z; rw [h] at q; exact q.symm
    | none => rw [h]
  · refine .inr ⟨o, ?_⟩
    unfold tupsOf
    cases z : B a with
    | some o => have q := s _ _ z; rw [h] at q; exact q.symm
    | none => rw [h]
theorem Sto.back {B' H' : Hp} {e' : Env} (S : Sto K G B H σ e) (S' : Sto K ⟨H, VL.full B H σ e, [], G.tok⟩ B' H' σ e') : Sto K G (tupsOf B B') H' σ e := by
  have sB : Same B B' := full_same.trans S'.b0
  have hk : ∀ a o, H a = some o → H' a = some o := fun a o h => S'.keep a o h (by simp)
  have sub : Same (tupsOf B B') H' := fun a o h => by
    rcases tupsOf_some h with h | ⟨_, h, _⟩
    · exact hk _ _ (S.sub _ _ h)
    · exact S'.sub _ _ h
  refine ⟨S.len, fun i s h => ?_, S.dis, sub, S.b0.trans tupsOf_same, fun a o h1 h2 => hk _ _ (S.keep a o h1 h2), fun a h => S'.dom a (S.dom a h), fun a h => ?_, S.iom⟩
  · obtain ⟨v, e1, ok⟩ := S.sl i s h
    refine ⟨v, e1, ?_⟩
    cases ok with
    | no => exact .no
    | tk => exact .tk
    | sh r => exact .sh (r.mono tupsOf_same)
    | @ow b p vs ds hb hg hh hr =>
      refine .ow ?_ hg (hk _ _ hh) (hr.mono tupsOf_same)
      cases z : tupsOf B B' p with
      | none => rfl
      | some o =>
        rcases tupsOf_some z with q | ⟨_, q, ne⟩
        · rw [hb] at q; cases q
        · have q2 := S'.sub _ _ q
          rw [hk _ _ hh] at q2
          cases q2
          rcases hr.kind with ⟨vs, w⟩ | ⟨kvs, w⟩
          · exact absurd w (ne.1 vs)
          · exact absurd w (ne.2 kvs)
  · cases z : tupsOf B B' a with
    | none => exact absurd z h
    | some o =>
      rcases tupsOf_some z with q | ⟨q0, q, ne⟩
      · exact S.new a (by rw [q]; simp)
      · rcases S'.new a (by rw [q]; simp) with w | w
        · have w : VL.full B H σ e a ≠ none := w
          have ho : Owned σ e a := Classical.byContradiction fun no => w (by
            unfold VL.full
            rw [q0]
            exact if_neg no)
          · obtain ⟨i, b, ds, h1, h2⟩ := ho
            obtain ⟨v, e1, ok⟩ := S.sl i _ h1
            rw [h2] at e1
            cases e1
            cases ok with
            | ow hb hg hh hr =>
              have q2 := S'.sub _ _ q
              rw [hk _ _ hh] at q2
              cases q2
              rcases hr.kind with ⟨vs, w⟩ | ⟨kvs, w⟩
              · exact absurd w (ne.1 vs)
              · exact absurd w (ne.2 kvs)
        · exact .inr (S.fresh w)
end
end VL

/-! VL3: looking at owned lists; calls; tests. -/
namespace VL
open PySem PySem.Spec PyProof.Rows L2
section
variable {K : PySem.W.Frag} {mg : Str → Option Value} {W : Am K} {G : Gr} {B H : Hp} {σ : L2.St} {e : Env}
theorem XRep.tups {B B' : Hp} {cls : Value} {dd : Option Addr} {x : Xc} (s : Same B B') (h : XRep K mg B' cls dd x) : XRep K mg (tupsOf B B') cls dd x := by
  obtain ⟨C, h1, h2, h3⟩ := h
  refine ⟨C, h1, h2, ?_⟩
  cases z : x.val with
  | none => rw [z] at h3; exact h3
  | some p =>
    rw [z] at h3
    obtain ⟨f, n⟩ := p
    obtain ⟨a, e1, e2⟩ := h3
    refine ⟨a, e1, ?_⟩
    unfold tupsOf
    cases q : B a with
    | some o => have w := s _ _ q; rw [e2] at w; exact w.symm
    | none => rw [e2]
theorem XRep.mono {B B' : Hp} {cls : Value} {dd : Option Addr} {x : Xc} (s : Same B B') (h : XRep K mg B cls dd x) : XRep K mg B' cls dd x := by
  obtain ⟨C, h1, h2, h3⟩ := h
  refine ⟨C, h1, h2, ?_⟩
  cases z : x.val with
  | none => rw [z] at h3; exact h3
  | some p =>
    rw [z] at h3
    obtain ⟨f, n⟩ := p
    obtain ⟨a, e1, e2⟩ := h3
    exact ⟨a, e1, s _ _ e2⟩
theorem frz_of_frz {e : Env} (h : Frz e) : frz e = e := by
  unfold frz
  refine List.ext_getElem? fun i => ?_
  rw [List.getElem?_map]
  cases z : e[i]? with
  | none => rfl
  | some s =>
    cases s with
    | no => rfl
    | tk => rfl
    | sh d => rfl
    | ow b ds => exact (h i b ds z).elim
theorem rd_bor {t : TE} {m : ME} (h : RdE K mg W t m) : RdE K mg W t (vBor m) where
  run := fun G hG B H σ e Q S q => by
    refine h.run ⟨H, VL.full B H σ e, [], G.tok⟩ (W.full G B H σ e hG S) (VL.full B H σ e) H σ (frz e) Q S.full ?_
    unfold vBor at q
    cases z : m (frz e) with
    | ok d e' =>
      rw [z] at q
      by_cases f : d.flat = true
      · simp only [f, if_true] at q
        exact fun v B' H' S' s' r' => q v (tupsOf B B') H' (S.back S') tupsOf_same (Rep.flat (tupsOf_tups (B0 := B) (full_same.trans s')) f r')
      · simp only [f] at q
        exact q.elim
    | err x e' =>
      rw [z] at q
      exact fun c d B' H' S' s' r' => q c d (tupsOf B B') H' (S.back S') tupsOf_same (r'.tups (full_same.trans s'))
    | bot => rw [z] at q; exact q
theorem rd_borT {t : TT} {m : MB} (h : RdB K mg W t m) : RdB K mg W t (vBorT m) where
  run := fun G hG B H σ e Q S q => by
    refine h.run ⟨H, VL.full B H σ e, [], G.tok⟩ (W.full G B H σ e hG S) (VL.full B H σ e) H σ (frz e) Q S.full ?_
    unfold vBorT at q
    cases z : m (frz e) with
    | ok d e' =>
      rw [z] at q
      exact fun v B' H' S' s' r' => q v (tupsOf B B') H' (S.back S') tupsOf_same r'
    | err x e' =>
      rw [z] at q
      exact fun c d B' H' S' s' r' => q c d (tupsOf B B') H' (S.back S') tupsOf_same (r'.tups (full_same.trans s'))
    | bot => rw [z] at q; exact q
theorem rd_borF {t : TE} {m : MA} (h : RdF K mg W t m) : RdF K mg W t (vBorF m) where
  run := fun G hG B H σ e Q S q => by
    refine h.run ⟨H, VL.full B H σ e, [], G.tok⟩ (W.full G B H σ e hG S) (VL.full B H σ e) H σ (frz e) Q S.full ?_
    unfold vBorF at q
    cases z : m (frz e) with
    | ok d e' =>
      rw [z] at q
      by_cases f : D.flats d = true
      · simp only [f, if_true] at q
        refine fun v B' H' S' s' r' => ?_
        obtain ⟨p, vs, rfl, hp, hb, hg, no, r⟩ := r'
        have hn : tupsOf B B' p = none := by
          cases w : tupsOf B B' p with
          | none => rfl
          | some o =>
            rcases tupsOf_some w with q1 | ⟨_, q1, _⟩
            · have q2 := S'.b0 _ _ (full_same _ _ q1); rw [hb] at q2; cases q2
            · rw [hb] at q1; cases q1
        have hH : H p = none := hg
        exact q (.ref p) (tupsOf B B') H' (S.back S') tupsOf_same ⟨p, vs, rfl, hp, hn, S.fresh hH, not_owned_new S hH, Reps.flat (tupsOf_tups (B0 := B) (full_same.trans s')) f r⟩
      · simp only [f] at q
        exact q.elim
    | err x e' =>
      rw [z] at q
      exact fun c d B' H' S' s' r' => q c d (tupsOf B B') H' (S.back S') tupsOf_same (r'.tups (full_same.trans s'))
    | bot => rw [z] at q; exact q

/-! what a def promises, from its meaning -/
/-- all that is new in B' is new to H, or stood in B -/
def News' (B H B' : Hp) : Prop := ∀ a, B' a ≠ none → B a ≠ none ∨ H a = none
def spV (K : PySem.W.Frag) (mg : Str → Option Value) (fn : List D → FR) : Sp := fun vs H Q E => ∃ (B : Hp) (ds : List D), Same B H ∧ Reps K B vs ds ∧ match fn ds with
  | .ok d => ∀ v B' H', Same H H' → Same B B' → Same B' H' → News' B H B' → Rep K B' v d → Q v H'
  | .err x => ∀ cls dd B' H', Same H H' → Same B B' → Same B' H' → News' B H B' → XRep K mg B' cls dd x → E cls dd H'
  | .bot => False
/-- .. a new list -/
def spF (K : PySem.W.Frag) (mg : Str → Option Value) (fn : List D → FR) : Sp := fun vs H Q E => ∃ (B : Hp) (ds : List D), Same B H ∧ Reps K B vs ds ∧ match fn ds with
  | .ok (.lst rs) => ∀ p ws B' H', Same H H' → Same B B' → Same B' H' → News' B H B' → H p = none → B' p = none → H' p = some (.lst ws) → Reps K B' ws rs → Q (.ref p) H'
  | .ok _ => False
  | .err x => ∀ cls dd B' H', Same H H' → Same B B' → Same B' H' → News' B H B' → XRep K mg B' cls dd x → E cls dd H'
  | .bot => False
theorem Sto.call {B' H' : Hp} (S : Sto K G B H σ e) (h1 : Same H H') (h2 : Same B B') (h3 : Same B' H') (h4 : News' B H B') : Sto K G B' H' σ e := by
  refine ⟨S.len, fun i s h => ?_, S.dis, h3, S.b0.trans h2, fun a o q1 q2 => h1 _ _ (S.keep a o q1 q2), fun a q => ?_, fun a q => ?_, S.iom⟩
  · obtain ⟨v, e1, ok⟩ := S.sl i s h
    refine ⟨v, e1, ?_⟩
    cases ok with
    | no => exact .no
    | tk => exact .tk
    | sh r => exact .sh (r.mono h2)
    | @ow b p vs ds hb hg hh hr =>
      refine .ow ?_ hg (h1 _ _ hh) (hr.mono h2)
      cases z : B' p with
      | none => rfl
      | some o =>
        rcases h4 p (by rw [z]; simp) with w | w
        · exact absurd hb w
        · rw [hh] at w; cases w
  · cases z : H a with
    | none => exact absurd z (S.dom a q)
    | some o => rw [h1 _ _ z]; simp
  · rcases h4 a q with w | w
    · exact S.new a w
    · exact .inr (S.fresh w)
theorem rd_call {fn : List D → FR} {t : TA} {m : MA} (ha : RdA K mg W t m) : RdE K mg W (tCallS (spV K mg fn) (WE W.w) t) (vCall fn m) where
  run := fun G hG B H σ e Q S q => by
    refine ha.run G hG B H σ e _ S (Po.bind q fun ds e1 vs B1 H1 S1 s1 r1 h1 => ?_)
    refine ⟨B1, ds, S1.sub, r1, ?_⟩
    cases z : fn ds with
    | ok d => rw [z] at h1; exact fun v B' H' a1 a2 a3 a4 r => h1 v B' H' (S1.call a1 a2 a3 a4) a2 r
    | err x => rw [z] at h1; exact fun c dd B' H' a1 a2 a3 a4 r => h1 c dd B' H' (S1.call a1 a2 a3 a4) a2 r
    | bot => rw [z] at h1; exact h1
theorem rd_callF {fn : List D → FR} {t : TA} {m : MA} (ha : RdA K mg W t m) : RdF K mg W (tCallS (spF K mg fn) (WE W.w) t) (vCallF fn m) where
  run := fun G hG B H σ e Q S q => by
    refine ha.run G hG B H σ e _ S (Po.bind q fun ds e1 vs B1 H1 S1 s1 r1 h1 => ?_)
    refine ⟨B1, ds, S1.sub, r1, ?_⟩
    cases z : fn ds with
    | ok d =>
      rw [z] at h1
      cases d with
      | lst rs =>
        exact fun p ws B' H' a1 a2 a3 a4 hp hb hh r => h1 (.ref p) B' H' (S1.call a1 a2 a3 a4) a2 ⟨p, ws, rfl, hh, hb, S1.fresh hp, not_owned_new S1 hp, r⟩
      | _ => exact h1
    | err x => rw [z] at h1; exact fun c dd B' H' a1 a2 a3 a4 r => h1 c dd B' H' (S1.call a1 a2 a3 a4) a2 r
    | bot => rw [z] at h1; exact h1

/-! tests -/
theorem rd_test {t : TE} {m : ME} (h : RdE K mg W t m) : RdB K mg W (tTest t) (vTest m) where
  run := fun G hG B H σ e Q S q => by
    refine h.run G hG B H σ e _ S (Po.bind q fun d e1 v B1 H1 S1 s1 r1 h1 => ?_)
    obtain ⟨b, hb, h2⟩ := h1.of
    cases d with
    | bl c =>
      cases hb
      cases r1
      exact ⟨_, rfl, Po.here h2 S1 rfl⟩
    | _ => cases hb
theorem rd_tB {t : TE} {m : ME} (h : RdE K mg W t m) : RdB K mg W (tB t) (vTest m) := rd_test h
theorem rd_and {t u : TT} {a b : MB} (ha : RdB K mg W t a) (hb : RdB K mg W u b) : RdB K mg W (tAnd t u) (vAnd a b) where
  run := fun G hG B H σ e Q S q => by
    refine ha.run G hG B H σ e _ S (Po.bind q fun d e1 v B1 H1 S1 s1 r1 h1 => ?_)
    have r1 : v = d := r1
    subst r1
    cases v with
    | true => exact hb.run G hG B1 H1 σ e1 Q S1 h1
    | false => exact Po.here h1 S1 rfl
theorem rd_or {t u : TT} {a b : MB} (ha : RdB K mg W t a) (hb : RdB K mg W u b) : RdB K mg W (tOr t u) (vOr a b) where
  run := fun G hG B H σ e Q S q => by
    refine ha.run G hG B H σ e _ S (Po.bind q fun d e1 v B1 H1 S1 s1 r1 h1 => ?_)
    have r1 : v = d := r1
    subst r1
    cases v with
    | false => exact hb.run G hG B1 H1 σ e1 Q S1 h1
    | true => exact Po.here h1 S1 rfl
theorem rd_not {t : TT} {a : MB} (ha : RdB K mg W t a) : RdB K mg W (tNot t) (vNot a) where
  run := fun G hG B H σ e Q S q => by
    refine ha.run G hG B H σ e _ S (Po.bind q fun d e1 v B1 H1 S1 s1 r1 h1 => ?_)
    have r1 : v = d := r1
    subst r1
    exact Po.here h1 S1 rfl
/-- as values -/
theorem rd_andV {t u : TE} {a b : ME} (ha : RdE K mg W t a) (hb : RdE K mg W u b) : RdE K mg W (tAndV t u) (fun e => (a e).bind fun x e1 => match x with
    | .bl true => b e1
    | .bl false => .ok (.bl false) e1
    | _ => .bot) where
  run := fun G hG B H σ e Q S q => by
    refine ha.run G hG B H σ e _ S (Po.bind q fun d e1 v B1 H1 S1 s1 r1 h1 => ?_)
    cases d with
    | bl c =>
      cases r1
      cases c with
      | true => exact ⟨true, rfl, (if_pos rfl).mpr (hb.run G hG B1 H1 σ e1 Q S1 h1)⟩
      | false => exact ⟨false, rfl, (if_neg Bool.false_ne_true).mpr (Po.here h1 S1 (.bl false))⟩
    | _ => exact h1.elim
theorem rd_orV {t u : TE} {a b : ME} (ha : RdE K mg W t a) (hb : RdE K mg W u b) : RdE K mg W (tOrV t u) (fun e => (a e).bind fun x e1 => match x with
    | .bl false => b e1
    | .bl true => .ok (.bl true) e1
    | _ => .bot) where
  run := fun G hG B H σ e Q S q => by
    refine ha.run G hG B H σ e _ S (Po.bind q fun d e1 v B1 H1 S1 s1 r1 h1 => ?_)
    cases d with
    | bl c =>
      cases r1
      cases c with
      | false => exact ⟨false, rfl, (if_neg Bool.false_ne_true).mpr (hb.run G hG B1 H1 σ e1 Q S1 h1)⟩
      | true => exact ⟨true, rfl, (if_pos rfl).mpr (Po.here h1 S1 (.bl true))⟩
    | _ => exact h1.elim
theorem rd_notV {t : TE} {a : ME} (ha : RdE K mg W t a) : RdE K mg W (tNotV t) (vUn (fun d => match d with
    | .bl c => some (.bl (!c))
    | _ => none) a) where
  run := fun G hG B H σ e Q S q => by
    refine ha.run G hG B H σ e _ S (Po.bind q fun d e1 v B1 H1 S1 s1 r1 h1 => ?_)
    cases d with
    | bl c =>
      cases r1
      exact ⟨c, rfl, Po.here h1 S1 (.bl _)⟩
    | _ => exact h1.elim
/-- a op b op' c -/
theorem rd_chain {r r' : R2} {op op' : D → D → Option D} {ta tb tc : TE} {a b c : ME} (hr : Op2 K mg W r op) (hr' : Op2 K mg W r' op') (hB : ∀ x y z, op x y = some z → ∃ k, z = .bl k) (ha : RdE K mg W ta a) (hb : RdE K mg W tb b) (hc : RdE K mg W tc c) :
    RdE K mg W (tChain r r' ta tb tc) (vChain op op' a b c) where
  run := fun G hG B H σ e Q S q => by
    refine ha.run G hG B H σ e _ S (Po.bind q fun x e1 vx B1 H1 S1 s1 r1 h1 => ?_)
    refine hb.run G hG B1 H1 σ e1 _ S1 (Po.bind h1 fun y e2 vy B2 H2 S2 s2 r2 h2 => ?_)
    cases z : op x y with
    | none => rw [z] at h2; exact h2.elim
    | some d =>
      rw [z] at h2
      obtain ⟨k, rfl⟩ := hB x y d z
      refine hr G B2 H2 σ e2 vx vy x y (.bl k) _ S2 (Rep.mono s2 r1) r2 z fun v B3 H3 S3 s3 r3 => ?_
      cases r3
      refine ⟨k, rfl, ?_⟩
      cases k with
      | true =>
        refine (if_pos rfl).mpr ?_
        refine hc.run G hG B3 H3 σ e2 _ S3 (Po.base s3 (Po.bind h2 fun w e4 vw B4 H4 S4 s4 r4 h4 => ?_))
        obtain ⟨d, hd, h5⟩ := h4.of
        exact hr' G B4 H4 σ e4 vy vw y w d Q S4 (Rep.mono s4 r2) r4 hd h5
      | false => exact (if_neg Bool.false_ne_true).mpr (h2 (.bl false) B3 H3 S3 s3 (.bl false))
end
end VL

/-! VL4: operators on data. -/
namespace VL
open PySem PySem.Spec PyProof.Rows L2
/-- an operator, told on data -/
def rDat (K : PySem.W.Frag) (op : D → D → Option D) : R2 := fun x y H Q => ∃ (G : Gr) (B : Hp) (σ : L2.St) (e : Env) (a b d : D), Sto K G B H σ e ∧ Rep K B x a ∧ Rep K B y b ∧ op a b = some d ∧
  ∀ v B' H', Sto K G B' H' σ e → Same B B' → Rep K B' v d → Q v H'
def rDat1 (K : PySem.W.Frag) (op : D → Option D) : V → Hp → VK → Prop := fun x H Q => ∃ (G : Gr) (B : Hp) (σ : L2.St) (e : Env) (a d : D), Sto K G B H σ e ∧ Rep K B x a ∧ op a = some d ∧
  ∀ v B' H', Sto K G B' H' σ e → Same B B' → Rep K B' v d → Q v H'
section
variable {K : PySem.W.Frag} {mg : Str → Option Value} {W : Am K} {G : Gr} {B H : Hp} {σ : L2.St} {e : Env}
theorem op2_dat {op : D → D → Option D} : Op2 K mg W (rDat K op) op := fun G B H σ e x y a b d Q S r1 r2 hd h => ⟨G, B, σ, e, a, b, d, S, r1, r2, hd, h⟩
theorem op1_dat {op : D → Option D} : Op1 K mg W (rDat1 K op) op := fun G B H σ e x a d Q S r1 hd h => ⟨G, B, σ, e, a, d, S, r1, hd, h⟩
theorem vok : vmax ≤ sizeLine := by rw [sizeLine_eq]; decide
theorem vle {n : Nat} (h : n ≤ vmax) : n ≤ sizeLine := Nat.le_trans h vok
theorem rd_sub (s : Same B H) {a : Addr} {u : HO} (h : Rd B a u) : Rd H a u := same_rd s h
end
section
variable {X : Cx}
theorem od_add : OpR X (binaryOp .Add) (rDat X.K opAdd) := by
  intro pins s σ H x y v u Q I rx ry ⟨G, B, σ', e, a, b, d, S, r1, r2, hd, h⟩
  unfold opAdd at hd
  split at hd
  · cases hd; cases r1; cases r2
    exact op_add pins s σ H _ _ v u Q I rx ry ⟨_, _, rfl, rfl, h _ B H S (Same.refl B) (.int _)⟩
  · cases r1; cases r2
    split at hd
    · rename_i z
      cases hd
      exact op_add_str pins s σ H _ _ v u Q I rx ry ⟨_, _, rfl, rfl, vle z, h _ B H S (Same.refl B) (.str _)⟩
    · cases hd
  · split at hd
    · rename_i z
      cases hd
      cases r1 with
      | @tup p vs _ h1 q1 =>
        cases r2 with
        | @tup p' vs' _ h2 q2 =>
          have l1 := q1.length
          have l2 := q2.length
          rw [List.length_cons] at l1 l2
          refine op_catT pins s σ H _ _ v u Q I rx ry ⟨p, p', vs, vs', rfl, rfl, same_sqT S.sub h1, same_sqT S.sub h2, fun q => by rw [q] at l1; simp at l1, vle (by omega), fun q => by rw [q] at l2; simp at l2, fun _ t ht => ?_⟩
          exact h _ _ _ (S.alloc ht) (same_upd' (same_none S.sub ht)) (.tup (SqT.of upd_same) (Reps.mono (same_upd' (same_none S.sub ht)) (q1.append q2)))
    · cases hd
  · split at hd
    · rename_i z
      cases hd
      cases r1 with
      | @lst p vs _ h1 q1 =>
        cases r2 with
        | @lst p' vs' _ h2 q2 =>
          have l1 := q1.length
          have l2 := q2.length
          cases rx
          cases ry
          obtain ⟨its, w1, ⟨⟨cls1, dd1, data1, sl1⟩, n1, e1, c1, _, d1⟩, _⟩ := I.list (same_sqL S.sub h1)
          obtain ⟨its2, w2, ⟨⟨cls2, dd2, data2, sl2⟩, n2, e2, c2, _, d2⟩, _⟩ := I.list (same_sqL S.sub h2)
          simp only at c1 d1 c2 d2
          subst c1 d1 c2 d2
          have m1 := w1.length
          have m2 := w2.length
          have hz : vs.length + vs'.length ≤ sizeLine := vle (by omega)
          refine concat_meets ⟨_, e1, rfl⟩ ⟨_, e2, rfl⟩ noFill_list_add seq_list_add PySem.F.slot_list_add PySem.F.entry_list_add (PySem.F.args_list_add_2 _ _) (list_addW p p' its.toArray its2.toArray n1 n2 dd1 dd2 sl1 sl2 (by simp only [List.size_toArray]; omega)) ⟨e1, e2, ?_⟩
          have ea : its.toArray ++ its2.toArray = (its ++ its2).toArray := by simp
          rw [ea]
          have hf : H s.heap.objs.size = none := I.hok.fresh (Nat.le_refl _)
          refine ⟨.ref _, _, I.laid (t' := s.toks) (o := .lst (vs ++ vs')) (fun b ob q => Heap.get?_push_of_some _ q) (Nat.le_refl _) ?_, rfl, h _ _ _ (S.alloc hf) (same_upd' (same_none S.sub hf)) (.lst (SqL.of upd_same) (Reps.mono (same_upd' (same_none S.sub hf)) (q1.append q2)))⟩
          exact ⟨by rw [List.length_append]; exact hz, _, 0, w1.append w2, Heap.get?_push_size _ rfl⟩
    · cases hd
  · cases hd
theorem od_sub : OpR X (binaryOp .Sub) (rDat X.K opSub) := by
  intro pins s σ H x y v u Q I rx ry ⟨G, B, σ', e, a, b, d, S, r1, r2, hd, h⟩
  unfold opSub at hd
  split at hd
  · cases hd; cases r1; cases r2
    exact op_sub pins s σ H _ _ v u Q I rx ry ⟨_, _, rfl, rfl, h _ B H S (Same.refl B) (.int _)⟩
  · cases hd
theorem mulOk_ok {i j : Int} (h : mulOk i j = true) : IntMulOk i j := by
  unfold mulOk at h
  rw [Bool.or_eq_true, Bool.or_eq_true] at h
  rcases h with (h | h) | h
  · have h := of_decide_eq_true h
    exact CMul.ok (.inl ⟨by omega, by omega⟩)
  · have h := of_decide_eq_true h
    exact CMul.ok (.inr ⟨by omega, by omega⟩)
  · have h := of_decide_eq_true h
    exact CMulW.ok h
theorem od_mul : OpR X (binaryOp .Mult) (rDat X.K opMul) := by
  intro pins s σ H x y v u Q I rx ry ⟨G, B, σ', e, a, b, d, S, r1, r2, hd, h⟩
  unfold opMul at hd
  split at hd
  · split at hd
    · rename_i z
      cases hd; cases r1; cases r2
      obtain ⟨t, rfl⟩ := rx
      obtain ⟨t', rfl⟩ := ry
      exact mul_int ⟨.int _, H, I.tok _, ⟨_, rfl⟩, h _ B H S (Same.refl B) (.int _)⟩ (mulOk_ok z)
    · cases hd
  · rename_i xs j
    split at hd
    · rename_i z
      cases hd
      cases r2
      cases r1 with
      | @lst p vs _ h1 q1 =>
        cases rx
        obtain ⟨t, rfl⟩ := ry
        obtain ⟨its, w1, ⟨⟨cls1, dd1, data1, sl1⟩, n1, e1, c1, _, d1⟩, _⟩ := I.list (same_sqL S.sub h1)
        simp only at c1 d1
        subst c1 d1
        have l1 := q1.length
        have m1 := w1.length
        have hz : its.toArray.size * j.toNat ≤ sizeLine := by
          rw [List.size_toArray, ← m1, l1]
          exact vle z.2.2
        have hz16 : its.toArray.size * j.toNat ≤ 2 ^ 24 := by
          rw [List.size_toArray, ← m1, l1]
          exact Nat.le_trans z.2.2 (by decide)
        refine wpAny_binaryOp_repeat_ref (T := "list") (U := "int") (by decide) ⟨_, e1, rfl⟩ (fun s' => typeIs_int s' j t) noFill_list_mul PySem.F.fills_int_mul PySem.F.slot_int_rmul repeat_list PySem.F.slot_int_index.lookup
          (call_meets PySem.F.slot_int_rmul (typeIs_int s j t) PySem.F.entry_int_rmul (PySem.F.args_int_rmul_2 _ _) (lm_int_rmul_list_any j t p its.toArray n1 dd1 sl1)
            ⟨e1, rfl, ⟨_, e1, rfl⟩, call_meets PySem.F.slot_list_mul ⟨_, e1, rfl⟩ PySem.F.entry_list_mul (PySem.F.args_list_mul_2 _ _)
              (lm_list_mul_any p its.toArray n1 dd1 sl1 j t (by simp [Builtin.List.listFitsIndex]; omega) (by omega) (by simp [Builtin.List.listTooLong, sizeLine]; omega)) ⟨e1, ?_⟩⟩)
        rw [listMul_foldl_if]
        have hf : H s.heap.objs.size = none := I.hok.fresh (Nat.le_refl _)
        refine ⟨.ref _, _, I.laid (t' := s.toks) (o := .lst (List.replicate j.toNat vs).flatten) (fun b ob q => Heap.get?_push_of_some _ q) (Nat.le_refl _) ?_, rfl, h _ _ _ (S.alloc hf) (same_upd' (same_none S.sub hf)) (.lst (SqL.of upd_same) (Reps.mono (same_upd' (same_none S.sub hf)) (q1.rep j.toNat)))⟩
        refine ⟨?_, _, 0, w1.rep j.toNat, Heap.get?_push_size _ rfl⟩
        rw [PyProof.Rows.lm_len_rep_flat, l1, Nat.mul_comm]
        exact vle z.2.2
    · cases hd
  · cases hd
theorem od_fdiv : OpR X (binaryOp .FloorDiv) (rDat X.K opFdiv) := by
  intro pins s σ H x y v u Q I rx ry ⟨G, B, σ', e, a, b, d, S, r1, r2, hd, h⟩
  unfold opFdiv at hd
  split at hd
  · split at hd
    · rename_i z
      cases hd; cases r1; cases r2
      obtain ⟨t, rfl⟩ := rx
      obtain ⟨t', rfl⟩ := ry
      unfold divOk at z
      rw [Bool.and_eq_true] at z
      exact floordiv_int (of_decide_eq_true z.1) ⟨.int _, H, I.tok _, ⟨_, rfl⟩, h _ B H S (Same.refl B) (.int _)⟩ (.inl (PyProof.noPylong_of_log2 (of_decide_eq_true z.2)))
    · cases hd
  · cases hd
theorem od_mod : OpR X (binaryOp .Mod) (rDat X.K opMod) := by
  intro pins s σ H x y v u Q I rx ry ⟨G, B, σ', e, a, b, d, S, r1, r2, hd, h⟩
  unfold opMod at hd
  split at hd
  · split at hd
    · rename_i z
      cases hd; cases r1; cases r2
      exact op_modN pins s σ H _ _ v u Q I rx ry ⟨_, _, rfl, rfl, z, h _ B H S (Same.refl B) (.int _)⟩
    · cases hd
  · cases hd
theorem od_pow : OpR X (binaryOp .Pow) (rDat X.K opPow) := by
  intro pins s σ H x y v u Q I rx ry ⟨G, B, σ', e, a, b, d, S, r1, r2, hd, h⟩
  unfold opPow at hd
  split at hd
  · split at hd
    · rename_i z
      cases hd; cases r1; cases r2
      exact op_pow pins s σ H _ _ v u Q I rx ry ⟨_, _, rfl, rfl, ⟨z.1, by have := z.2.1; omega, Nat.lt_of_le_of_lt z.2.2 (by decide)⟩, h _ B H S (Same.refl B) (.int _)⟩
    · cases hd
  · cases hd
theorem ud_neg : UnR X (unaryOp .USub) (rDat1 X.K opNeg) := by
  intro pins s σ H x v Q I rx ⟨G, B, σ', e, a, d, S, r1, hd, h⟩
  unfold opNeg at hd
  split at hd
  · cases hd; cases r1
    exact un_neg pins s σ H _ v Q I rx ⟨_, rfl, h _ B H S (Same.refl B) (.int _)⟩
  · cases hd
theorem od_lt : OpR X (compareOp .Lt) (rDat X.K opLt) := by
  intro pins s σ H x y v u Q I rx ry ⟨G, B, σ', e, a, b, d, S, r1, r2, hd, h⟩
  unfold opLt at hd
  split at hd
  · cases hd; cases r1; cases r2
    exact op_lt pins s σ H _ _ v u Q I rx ry ⟨_, _, rfl, rfl, h _ B H S (Same.refl B) (.bl _)⟩
  · cases hd
theorem od_le : OpR X (compareOp .LtE) (rDat X.K opLe) := by
  intro pins s σ H x y v u Q I rx ry ⟨G, B, σ', e, a, b, d, S, r1, r2, hd, h⟩
  unfold opLe at hd
  split at hd
  · cases hd; cases r1; cases r2
    exact op_le pins s σ H _ _ v u Q I rx ry ⟨_, _, rfl, rfl, h _ B H S (Same.refl B) (.bl _)⟩
  · cases hd
theorem od_gt : OpR X (compareOp .Gt) (rDat X.K opGt) := by
  intro pins s σ H x y v u Q I rx ry ⟨G, B, σ', e, a, b, d, S, r1, r2, hd, h⟩
  unfold opGt at hd
  split at hd
  · cases hd; cases r1; cases r2
    exact op_gt pins s σ H _ _ v u Q I rx ry ⟨_, _, rfl, rfl, h _ B H S (Same.refl B) (.bl _)⟩
  · cases hd
theorem od_ge : OpR X (compareOp .GtE) (rDat X.K opGe) := by
  intro pins s σ H x y v u Q I rx ry ⟨G, B, σ', e, a, b, d, S, r1, r2, hd, h⟩
  unfold opGe at hd
  split at hd
  · cases hd; cases r1; cases r2
    exact op_ge pins s σ H _ _ v u Q I rx ry ⟨_, _, rfl, rfl, h _ B H S (Same.refl B) (.bl _)⟩
  · cases hd
end

/-! ### == -/
mutual
def D.py : D → PyData
  | .non => .none
  | .bl b => .bool b
  | .int i => .int i
  | .str s => .str s
  | .tup ds => .tuple (D.pys ds)
  | .lst ds => .list (D.pys ds)
  | .dct _ _ => .none
def D.pys : List D → List PyData
  | [] => []
  | d :: ds => d.py :: D.pys ds
end
mutual
theorem deq_py : ∀ (n m : Nat) (a b : D), a.eqok n = true → b.eqok m = true → PyData.eqv a.py b.py = D.deq a b
  | n, m, .non, b, _, h2 => by cases b <;> first | rfl | (unfold D.eqok at h2; cases h2)
  | n, m, .bl x, b, _, h2 => by cases b <;> first | rfl | (unfold D.eqok at h2; cases h2)
  | n, m, .int x, b, _, h2 => by
    cases b with
    | int y => simp [D.py, PyData.eqv, D.deq, Bool.beq_eq_decide_eq]
    | dct _ _ => unfold D.eqok at h2; cases h2
    | _ => rfl
  | n, m, .str x, b, _, h2 => by
    cases b with
    | str y => simp [D.py, PyData.eqv, D.deq, Bool.beq_eq_decide_eq]
    | dct _ _ => unfold D.eqok at h2; cases h2
    | _ => rfl
  | n, m, .dct _ _, b, h1, _ => by unfold D.eqok at h1; cases h1
  | n, m, .tup xs, b, h1, h2 => by
    cases b with
    | tup ys =>
      unfold D.eqok at h1 h2
      cases n with
      | zero => cases h1
      | succ n =>
        cases m with
        | zero => cases h2
        | succ m =>
          have q := deqs_py n m xs ys h1 h2
          simp only [D.py, PyData.eqv, D.deq]
          exact q
    | dct _ _ => unfold D.eqok at h2; cases h2
    | _ => rfl
  | n, m, .lst xs, b, h1, h2 => by
    cases b with
    | lst ys =>
      unfold D.eqok at h1 h2
      cases n with
      | zero => cases h1
      | succ n =>
        cases m with
        | zero => cases h2
        | succ m =>
          have q := deqs_py n m xs ys h1 h2
          simp only [D.py, PyData.eqv, D.deq]
          exact q
    | dct _ _ => unfold D.eqok at h2; cases h2
    | _ => rfl
theorem deqs_py : ∀ (n m : Nat) (a b : List D), D.eqoks n a = true → D.eqoks m b = true → PyData.eqvAll (D.pys a) (D.pys b) = D.deqs a b
  | n, m, [], [], _, _ => rfl
  | n, m, [], _ :: _, _, _ => rfl
  | n, m, _ :: _, [], _, _ => rfl
  | n, m, x :: xs, y :: ys, h1, h2 => by
    unfold D.eqoks at h1 h2
    rw [Bool.and_eq_true] at h1 h2
    have q1 := deq_py n m x y h1.1 h2.1
    have q2 := deqs_py n m xs ys h1.2 h2.2
    simp only [D.pys, PyData.eqvAll, D.deqs]
    rw [q1, q2]
end
mutual
theorem shaped_py : ∀ (n : Nat) (a : D), a.eqok n = true → a.py.canLay0 = true ∧ a.py.depth ≤ n + 1
  | n, .non, _ => ⟨by simp [D.py, PyData.canLay0], by simp [D.py, PyData.depth]⟩
  | n, .bl x, _ => ⟨by simp [D.py, PyData.canLay0], by simp [D.py, PyData.depth]⟩
  | n, .int x, _ => ⟨by simp [D.py, PyData.canLay0], by simp [D.py, PyData.depth]⟩
  | n, .str x, h1 => ⟨by simp only [D.py, PyData.canLay0]; unfold D.eqok at h1; exact h1, by simp [D.py, PyData.depth]⟩
  | n, .dct _ _, h1 => by unfold D.eqok at h1; cases h1
  | n, .tup xs, h1 => by
    unfold D.eqok at h1
    cases n with
    | zero => cases h1
    | succ n =>
      obtain ⟨q1, q2⟩ := shapeds_py n xs h1
      simp only [D.py, PyData.canLay0, PyData.depth]
      exact ⟨q1, by omega⟩
  | n, .lst xs, h1 => by
    unfold D.eqok at h1
    cases n with
    | zero => cases h1
    | succ n =>
      obtain ⟨q1, q2⟩ := shapeds_py n xs h1
      simp only [D.py, PyData.canLay0, PyData.depth]
      exact ⟨q1, by omega⟩
theorem shapeds_py : ∀ (n : Nat) (a : List D), D.eqoks n a = true → PyData.canLayAll0 (D.pys a) = true ∧ PyData.depthAll (D.pys a) ≤ n + 1
  | n, [], _ => ⟨by simp [D.pys, PyData.canLayAll0], by simp [D.pys, PyData.depthAll]⟩
  | n, x :: xs, h1 => by
    unfold D.eqoks at h1
    rw [Bool.and_eq_true] at h1
    obtain ⟨a1, a2⟩ := shaped_py n x h1.1
    obtain ⟨b1, b2⟩ := shapeds_py n xs h1.2
    simp only [D.pys, PyData.canLayAll0, PyData.depthAll]
    exact ⟨by rw [a1, b1]; rfl, by omega⟩
end
section
variable {K : PySem.W.Frag} {B H : Hp}
mutual
theorem Rep.dp (s : Same B H) : ∀ {n : Nat} {v : V} {d : D}, d.eqok n = true → Rep K B v d → Dp K H v d.py
  | _, _, _, _, .non => .non
  | _, _, _, _, .bl b => .bl b
  | _, _, _, _, .int i => .int i
  | _, _, _, _, .str x => .str x
  | n, _, _, f, .tup h r => by
    unfold D.eqok at f
    cases n with
    | zero => cases f
    | succ n => exact .tup (same_sqT s h) (Reps.dp s f r)
  | n, _, _, f, .lst h r => by
    unfold D.eqok at f
    cases n with
    | zero => cases f
    | succ n => exact .lst (same_sqL s h) (Reps.dp s f r)
  | _, _, _, f, .dct h e r => by unfold D.eqok at f; cases f
theorem Reps.dp (s : Same B H) : ∀ {n : Nat} {v : List V} {d : List D}, D.eqoks n d = true → Reps K B v d → DpAll K H v (D.pys d)
  | _, _, _, _, .nil => .nil
  | _, _, _, f, .cons h r => by
    unfold D.eqoks at f
    rw [Bool.and_eq_true] at f
    exact .cons (Rep.dp s f.1 h) (Reps.dp s f.2 r)
end
theorem dct_get : ∀ {kvs : List (Key × V)} {ds : List D} {k : Key} {d : D}, Reps K B (kvs.map (·.2)) ds → dctGet (kvs.map (·.1)) ds k = some d → ∃ v, valV kvs k = some v ∧ Rep K B v d
  | [], ds, k, d, _, h => by simp [dctGet] at h
  | (k0, v0) :: kvs, [], k, d, r, _ => by cases r
  | (k0, v0) :: kvs, d0 :: ds, k, d, r, h => by
    cases r with
    | cons r0 rr =>
      by_cases e : k0 = k
      · subst e
        refine ⟨v0, valV_pos rfl, ?_⟩
        simp [dctGet] at h
        subst h
        exact r0
      · have h2 : dctGet (kvs.map (·.1)) ds k = some d := by
          simp only [dctGet, List.map_cons, List.zip_cons_cons, List.find?_cons, decide_eq_false e] at h ⊢
          exact h
        obtain ⟨v, h3, h4⟩ := dct_get rr h2
        exact ⟨v, (valV_neg e).trans h3, h4⟩
theorem dct_none : ∀ {kvs : List (Key × V)} {ds : List D} {k : Key}, Reps K B (kvs.map (·.2)) ds → dctGet (kvs.map (·.1)) ds k = none → valV kvs k = none
  | [], ds, k, _, h => rfl
  | (k0, v0) :: kvs, [], k, r, _ => by cases r
  | (k0, v0) :: kvs, d0 :: ds, k, r, h => by
    cases r with
    | cons r0 rr =>
      by_cases e : k0 = k
      · subst e
        simp [dctGet] at h
      · have h2 : dctGet (kvs.map (·.1)) ds k = none := by
          simp only [dctGet, List.map_cons, List.zip_cons_cons, List.find?_cons, decide_eq_false e] at h ⊢
          exact h
        rw [valV_neg e]
        exact dct_none rr h2
theorem dct_ok {n : Nat} : ∀ {ks : List Ky} {ds : List D} {k : Ky} {d : D}, D.eqoks n ds = true → dctGet ks ds k = some d → D.eqok n d = true
  | [], ds, k, d, _, h => by simp [dctGet] at h
  | k0 :: ks, [], k, d, _, h => by simp [dctGet] at h
  | k0 :: ks, d0 :: ds, k, d, ho, h => by
    unfold D.eqoks at ho
    rw [Bool.and_eq_true] at ho
    by_cases e : k0 = k
    · subst e
      simp [dctGet] at h
      subst h
      exact ho.1
    · have h2 : dctGet ks ds k = some d := by
        simp only [dctGet, List.zip_cons_cons, List.find?_cons, decide_eq_false e] at h ⊢
        exact h
      exact dct_ok ho.2 h2
theorem shaped_of {n : Nat} (hn : n < 64) {d : D} (h : d.eqok n = true) : SeqAt.shaped d.py = true := by
  obtain ⟨q1, q2⟩ := shaped_py n d h
  unfold SeqAt.shaped
  rw [q1]
  exact decide_eq_true (by omega)
end
section
variable {X : Cx} {pins : List (Addr × Obj)} {σ : L2.St} {H B : Hp} {s : Shared}
/-- the entries of two dicts side by side -/
theorem hits_run {A : Around} (I : Inv X pins σ H s) (sb : Same B H) {lvs : List (Key × V)} {es : List D} {vb : List (Key × Value)} (hu : A.units + 63 < cLine) (rb : KV lvs vb) (re : Reps X.K B (lvs.map (·.2)) es) (he : D.eqoks 20 es = true) :
    ∀ {kvs : List (Key × V)} {ds : List D} {va : List (Key × Value)}, KV kvs va → Reps X.K B (kvs.map (·.2)) ds → D.eqoks 20 ds = true → PySem.W.KeqHits A s vb va (hitsD (lvs.map (·.1)) es (kvs.map (·.1)) ds)
  | [], ds, va, ra, rd, hd => by
    cases ra
    cases rd
    exact .nil
  | (k, v) :: kvs, ds, va, ra, rd, hd => by
    cases ra with
    | cons h t =>
      cases rd with
      | @cons _ _ d ds' r0 rr =>
        rename_i q qs
        obtain ⟨h1, h2⟩ := h
        obtain ⟨k', u⟩ := q
        have h1 : k = k' := h1
        subst h1
        unfold D.eqoks at hd
        rw [Bool.and_eq_true] at hd
        have ih := hits_run I sb hu rb re he t rr hd.2
        rw [List.map_cons]
        unfold hitsD
        cases z : dctGet (lvs.map (·.1)) es k with
        | none =>
          have q := rb.val k
          rw [dct_none re z] at q
          refine .miss ?_
          cases w : valueAt vb k with
          | none => rfl
          | some y => rw [w] at q; exact q.elim
        | some e =>
          obtain ⟨w, hw, rw'⟩ := dct_get re z
          have q := rb.val k
          rw [hw] at q
          obtain ⟨y, hy, ry⟩ := q.some_of
          have he' : D.eqok 20 e = true := dct_ok he z
          obtain ⟨as, r1⟩ := Dp.reads I d.py v u (r0.dp sb hd.1) h2
          obtain ⟨bs, r2⟩ := Dp.reads I e.py w y (rw'.dp sb he') ry
          have := SeqAt.eqAt_reads d.py e.py A s u y as bs r1 r2 (shaped_py 20 d hd.1).1 (shaped_py 20 e he').1 (by have := (shaped_py 20 d hd.1).2; omega)
          rw [deq_py 20 20 d e hd.1 he'] at this
          exact .hit hy this ih
theorem od_eq (hu : X.A.units + 64 < cLine) : OpR X (compareOp .Eq) (rDat X.K opEq) := by
  intro pins s σ H x y v u Q I rx ry ⟨G, B, σ', e, a, b, d, S, r1, r2, hd, h⟩
  unfold opEq at hd
  split at hd
  · rename_i z
    cases hd
    rw [Bool.and_eq_true] at z
    refine op_eqD hu pins s σ H x y v u Q I rx ry ⟨a.py, b.py, r1.dp S.sub z.1, r2.dp S.sub z.2, shaped_of (by decide) z.1, shaped_of (by decide) z.2, ?_⟩
    rw [deq_py 20 20 a b z.1 z.2]
    exact h _ B H S (Same.refl B) (.bl _)
  · unfold opEqK at hd
    split at hd
    · rename_i ks ds ls es
      split at hd
      · rename_i z
        cases hd
        rw [Bool.and_eq_true] at z
        cases r1 with
        | @dct p kvs _ _ a1 a2 a3 =>
          cases r2 with
          | @dct p' lvs _ _ b1 b2 b3 =>
            subst a2 b2
            obtain rfl : v = Value.ref p := rx
            obtain rfl : u = Value.ref p' := ry
            obtain ⟨_, ya, va, ra, da⟩ := dk_rd I.hok (rd_sub S.sub a1)
            obtain ⟨_, yb, vb, rb, db⟩ := dk_rd I.hok (rd_sub S.sub b1)
            refine PySem.W.keq_eq (knd := mixKind X.prog X.w) ya yb da db (by omega) (fun _ => hits_run (A := X.A.in1) I S.sub (by show X.A.units + 1 + 63 < cLine; omega) rb b3 z.2 ra a3 z.1) ?_
            rw [← ra.length, ← rb.length]
            rw [List.length_map, List.length_map, Bool.false_xor] at h
            exact ⟨.bl _, H, I, rfl, h _ B H S (Same.refl B) (.bl _)⟩
      · cases hd
    · cases hd
theorem od_ne (hu : X.A.units + 64 < cLine) : OpR X (compareOp .NotEq) (rDat X.K opNe) := by
  intro pins s σ H x y v u Q I rx ry ⟨G, B, σ', e, a, b, d, S, r1, r2, hd, h⟩
  unfold opNe at hd
  split at hd
  · rename_i z
    cases hd
    rw [Bool.and_eq_true] at z
    refine op_neD hu pins s σ H x y v u Q I rx ry ⟨a.py, b.py, r1.dp S.sub z.1, r2.dp S.sub z.2, shaped_of (by decide) z.1, shaped_of (by decide) z.2, ?_⟩
    rw [deq_py 20 20 a b z.1 z.2]
    exact h _ B H S (Same.refl B) (.bl _)
  · unfold opEqK at hd
    split at hd
    · rename_i ks ds ls es
      split at hd
      · rename_i z
        cases hd
        rw [Bool.and_eq_true] at z
        cases r1 with
        | @dct p kvs _ _ a1 a2 a3 =>
          cases r2 with
          | @dct p' lvs _ _ b1 b2 b3 =>
            subst a2 b2
            obtain rfl : v = Value.ref p := rx
            obtain rfl : u = Value.ref p' := ry
            obtain ⟨_, ya, va, ra, da⟩ := dk_rd I.hok (rd_sub S.sub a1)
            obtain ⟨_, yb, vb, rb, db⟩ := dk_rd I.hok (rd_sub S.sub b1)
            refine PySem.W.keq_ne (knd := mixKind X.prog X.w) ya yb da db (by omega) (fun _ => hits_run (A := X.A.in1) I S.sub (by show X.A.units + 1 + 63 < cLine; omega) rb b3 z.2 ra a3 z.1) ?_
            rw [← ra.length, ← rb.length]
            rw [List.length_map, List.length_map, Bool.true_xor] at h
            exact ⟨.bl _, H, I, rfl, h _ B H S (Same.refl B) (.bl _)⟩
      · cases hd
    · cases hd
end
end VL

/-! VL5: is, in, subscripts, slices, built-in functions, isinstance. -/
namespace VL
open PySem PySem.Spec PyProof.Rows L2
section
variable {K : PySem.W.Frag} {B H : Hp}
theorem Rep.isNon {v : V} {d : D} (r : Rep K B v d) : decide (v = .non) = d.isNon := by
  cases r <;> first | rfl | (rw [decide_eq_false (by intro z; cases z)]; rfl)
theorem Rep.atom {v : V} {d : D} (r : Rep K B v d) (h : d.atom = true) : flatV v = true := by
  cases r <;> first | rfl | cases h
theorem Rep.eqV {v w : V} {a b : D} (r : Rep K B v a) (q : Rep K B w b) (ha : a.atom = true) (hb : b.atom = true) : eqV v w = D.deq a b := by
  cases r <;> first
    | exact (Bool.false_ne_true ha).elim
    | (cases q <;> first
        | exact (Bool.false_ne_true hb).elim
        | rfl
        | (simp [L2.eqV, D.deq, Bool.beq_eq_decide_eq]))
theorem Reps.atoms : ∀ {vs : List V} {ds : List D}, Reps K B vs ds → ds.all D.atom = true → vs.all flatV = true
  | _, _, .nil, _ => rfl
  | _, _, .cons r t, h => by
    rw [List.all_cons, Bool.and_eq_true] at h ⊢
    exact ⟨r.atom h.1, t.atoms h.2⟩
theorem Reps.inV {v : V} {a : D} (r : Rep K B v a) (ha : a.atom = true) : ∀ {vs : List V} {ds : List D}, Reps K B vs ds → ds.all D.atom = true → inV v vs = ds.any fun y => D.deq y a
  | _, _, .nil, _ => rfl
  | _, _, .cons q t, h => by
    rw [List.all_cons, Bool.and_eq_true] at h
    have ih := Reps.inV r ha t h.2
    unfold L2.inV at ih ⊢
    rw [List.any_cons, List.any_cons, ih, q.eqV r h.1 ha]
theorem atD_at {vs : List V} {ds : List D} {i : Int} {d : D} (r : Reps K B vs ds) (h : atD ds i = some d) : ∃ v, atI vs i = some v ∧ Rep K B v d := by
  unfold atD at h
  unfold atI
  rw [r.length]
  have e : ixN ds.length i = ixD ds.length i := rfl
  rw [e]
  cases z : ixD ds.length i with
  | none => rw [z] at h; cases h
  | some j => rw [z] at h; exact r.get h
theorem keyD_V {v : V} {d : D} {k : Ky} (r : Rep K B v d) (h : keyD d = some k) : v = kV k := by
  cases r <;> cases h <;> rfl
theorem dct_at {a : Addr} {kvs : List (Key × V)} {ds : List D} {v : V} {k : Ky} (s : Same B H) (h : Rd B a (.dK kvs)) (r : Reps K B (kvs.map (·.2)) ds) (hv : v = kV k) : ∃ o, DGet H a v o ∧ o.isSome = (dctGet (kvs.map (·.1)) ds k).isSome ∧ ∀ d, dctGet (kvs.map (·.1)) ds k = some d → ∃ w, o = some w ∧ Rep K B w d := by
  refine ⟨valV kvs k, .inl ⟨kvs, k, same_rd s h, hv, rfl⟩, ?_, fun d e => dct_get r e⟩
  cases e : dctGet (kvs.map (·.1)) ds k with
  | none => rw [dct_none r e] <;> rfl
  | some d =>
    obtain ⟨w, e2, _⟩ := dct_get r e
    rw [e2] <;> rfl
end
section
variable {X : Cx}
theorem od_is : OpR X (compareOp .Is) (rDat X.K opIs) := by
  intro pins s σ H x y v u Q I rx ry ⟨G, B, σ', e, a, b, d, S, r1, r2, hd, h⟩
  unfold opIs at hd
  split at hd
  · cases hd; cases r2
    refine op_isN pins s σ H _ _ v u Q I rx ry ⟨rfl, ?_⟩
    rw [r1.isNon]
    exact h _ B H S (Same.refl B) (.bl _)
  · cases hd; cases r1; cases r2
    refine op_isBl pins s σ H _ _ v u Q I rx ry ⟨_, _, rfl, rfl, ?_⟩
    rw [← Bool.beq_eq_decide_eq]
    exact h _ B H S (Same.refl B) (.bl _)
  · cases hd
theorem od_isnot : OpR X (compareOp .IsNot) (rDat X.K opIsNot) := by
  intro pins s σ H x y v u Q I rx ry ⟨G, B, σ', e, a, b, d, S, r1, r2, hd, h⟩
  unfold opIsNot at hd
  split at hd
  · cases hd; cases r2
    refine op_notN pins s σ H _ _ v u Q I rx ry ⟨rfl, ?_⟩
    rw [r1.isNon]
    exact h _ B H S (Same.refl B) (.bl _)
  · cases hd; cases r1; cases r2
    refine op_notBl pins s σ H _ _ v u Q I rx ry ⟨_, _, rfl, rfl, ?_⟩
    rw [← Bool.beq_eq_decide_eq]
    exact h _ B H S (Same.refl B) (.bl _)
  · cases hd
theorem od_in (hu : X.A.units + 1 < cLine) : OpR X (compareOp .In) (rDat X.K opIn) := by
  intro pins s σ H x y v u Q I rx ry ⟨G, B, σ', e, a, b, d, S, r1, r2, hd, h⟩
  unfold opIn at hd
  split at hd
  · split at hd
    · rename_i z
      cases hd
      rw [Bool.and_eq_true] at z
      cases r2 with
      | tup h1 q1 =>
        refine op_in_seq pins s σ H _ _ v u Q I rx ry ⟨_, _, rfl, .inr (same_sqT S.sub h1), r1.atom z.1, q1.atoms z.2, ?_⟩
        rw [if_neg Bool.false_ne_true, Reps.inV r1 z.1 q1 z.2]
        exact h _ B H S (Same.refl B) (.bl _)
    · cases hd
  · split at hd
    · rename_i z
      cases hd
      rw [Bool.and_eq_true] at z
      cases r2 with
      | lst h1 q1 =>
        refine op_in_seq pins s σ H _ _ v u Q I rx ry ⟨_, _, rfl, .inl (same_sqL S.sub h1), r1.atom z.1, q1.atoms z.2, ?_⟩
        rw [if_neg Bool.false_ne_true, Reps.inV r1 z.1 q1 z.2]
        exact h _ B H S (Same.refl B) (.bl _)
    · cases hd
  · cases r2 with
    | dct h1 he q1 =>
      subst he
      cases z : keyD a with
      | none => rw [z] at hd; cases hd
      | some k =>
        rw [z] at hd
        cases hd
        obtain ⟨o, g, hs, _⟩ := dct_at S.sub h1 q1 (keyD_V r1 z)
        cases ry
        refine d_in hu I g rx fun s3 I3 => ⟨.bl o.isSome, H, I3, rfl, ?_⟩
        rw [hs]
        exact h _ B H S (Same.refl B) (.bl _)
  · cases hd
theorem od_notin (hu : X.A.units + 1 < cLine) : OpR X (compareOp .NotIn) (rDat X.K opNotIn) := by
  intro pins s σ H x y v u Q I rx ry ⟨G, B, σ', e, a, b, d, S, r1, r2, hd, h⟩
  unfold opNotIn at hd
  split at hd
  · rename_i k hk
    cases hd
    unfold opIn at hk
    split at hk
    · split at hk
      · rename_i z
        cases hk
        rw [Bool.and_eq_true] at z
        cases r2 with
        | tup h1 q1 =>
          refine op_notIn_seq pins s σ H _ _ v u Q I rx ry ⟨_, _, rfl, .inr (same_sqT S.sub h1), r1.atom z.1, q1.atoms z.2, ?_⟩
          rw [if_pos rfl, Reps.inV r1 z.1 q1 z.2]
          exact h _ B H S (Same.refl B) (.bl _)
      · cases hk
    · split at hk
      · rename_i z
        cases hk
        rw [Bool.and_eq_true] at z
        cases r2 with
        | lst h1 q1 =>
          refine op_notIn_seq pins s σ H _ _ v u Q I rx ry ⟨_, _, rfl, .inl (same_sqL S.sub h1), r1.atom z.1, q1.atoms z.2, ?_⟩
          rw [if_pos rfl, Reps.inV r1 z.1 q1 z.2]
          exact h _ B H S (Same.refl B) (.bl _)
      · cases hk
    · cases r2 with
      | dct h1 he q1 =>
        subst he
        cases z : keyD a with
        | none => rw [z] at hk; cases hk
        | some k =>
          rw [z] at hk
          cases hk
          obtain ⟨o, g, hs, _⟩ := dct_at S.sub h1 q1 (keyD_V r1 z)
          cases ry
          refine d_notIn hu I g rx fun s3 I3 => ⟨.bl (!o.isSome), H, I3, rfl, ?_⟩
          rw [hs]
          exact h _ B H S (Same.refl B) (.bl _)
    · cases hk
  · cases hd
theorem od_ix (hu : X.A.units + 1 < cLine) : IxR X (rDat X.K opIx) := by
  intro value slice pins s σ H x y v u Q I rx ry ⟨G, B, σ', e, a, b, d, S, r1, r2, hd, h⟩ hs
  unfold opIx at hd
  split at hd
  · cases r1 with
    | tup h1 q1 =>
      cases r2
      obtain ⟨w, hw, rw'⟩ := atD_at q1 hd
      exact ix_tup value slice pins s σ H _ _ v u Q I rx ry ⟨_, _, _, w, rfl, rfl, same_sqT S.sub h1, hw, h w B H S (Same.refl B) rw'⟩ hs
  · cases r1 with
    | lst h1 q1 =>
      cases r2
      obtain ⟨w, hw, rw'⟩ := atD_at q1 hd
      exact ix_list value slice pins s σ H _ _ v u Q I rx ry ⟨_, _, _, w, rfl, rfl, same_sqL S.sub h1, hw, h w B H S (Same.refl B) rw'⟩ hs
  · split at hd
    · rename_i z i hz
      cases r1; cases r2
      cases e1 : ixD z.cps.toList.length i with
      | none => rw [e1] at hd; cases hd
      | some j =>
        rw [e1] at hd
        have hd : (z.cps.toList[j]?).map (fun c => D.str ⟨#[c]⟩) = some d := hd
        cases e2 : z.cps.toList[j]? with
        | none => rw [e2] at hd; cases hd
        | some c =>
          rw [e2] at hd
          cases hd
          refine ix_str value slice pins s σ H _ _ v u Q I rx ry ⟨_, _, c, rfl, rfl, vle hz, ?_, h _ B H S (Same.refl B) (.str _)⟩ hs
          unfold atI
          have e : ixN z.cps.toList.length i = ixD z.cps.toList.length i := rfl
          rw [e, e1]
          exact e2
    · cases hd
  · cases r1 with
    | dct h1 he q1 =>
      subst he
      cases z : keyD b with
      | none => rw [z] at hd; cases hd
      | some k =>
        rw [z] at hd
        obtain ⟨o, g, _, hv⟩ := dct_at S.sub h1 q1 (keyD_V r2 z)
        obtain ⟨w, ew, rw'⟩ := hv d hd
        subst ew
        cases rx
        refine tail_any (dict_typeIs I g) PySem.F.slot_dict_getitem.lookup (d_getItem hu I g ry fun w' s3 I3 rr => ⟨w, H, I3, rr, h w B H S (Same.refl B) rw'⟩) hs
  · cases hd

/-! built-in functions -/
def rDatC (K : PySem.W.Frag) (f : List D → Option D) : List V → Hp → VK → Prop := fun vs H Q => ∃ (G : Gr) (B : Hp) (σ : L2.St) (e : Env) (ds : List D) (d : D), Sto K G B H σ e ∧ Reps K B vs ds ∧ f ds = some d ∧
  ∀ v B' H', Sto K G B' H' σ e → Same B B' → Rep K B' v d → Q v H'
def rDatF (K : PySem.W.Frag) (f : List D → Option (List D)) : List V → Hp → VK → Prop := fun vs H Q => ∃ (G : Gr) (B : Hp) (σ : L2.St) (e : Env) (ds rs : List D), Sto K G B H σ e ∧ Reps K B vs ds ∧ f ds = some rs ∧
  ∀ v B' H', Sto K G B' H' σ e → Same B B' → rpF K G B' H' σ e v rs → Q v H'
theorem rd_bf {K : PySem.W.Frag} {mg : Str → Option Value} {W : Am K} {f : List D → Option D} {t : TA} {m : MA} (ha : RdA K mg W t m) : RdE K mg W (tCB (rDatC K f) t) (vBf f m) where
  run := fun G hG B H σ e Q S q => by
    refine ha.run G hG B H σ e _ S (Po.bind q fun ds e1 vs B1 H1 S1 s1 r1 h1 => ?_)
    obtain ⟨d, hd, h2⟩ := h1.of
    exact ⟨G, B1, σ, e1, ds, d, S1, r1, hd, h2⟩
theorem rd_bl' {K : PySem.W.Frag} {mg : Str → Option Value} {W : Am K} {f : List D → Option (List D)} {t : TA} {m : MA} (ha : RdA K mg W t m) : RdF K mg W (tCB (rDatF K f) t) (vBl f m) where
  run := fun G hG B H σ e Q S q => by
    refine ha.run G hG B H σ e _ S (Po.bind q fun ds e1 vs B1 H1 S1 s1 r1 h1 => ?_)
    obtain ⟨d, hd, h2⟩ := h1.of
    exact ⟨G, B1, σ, e1, ds, d, S1, r1, hd, h2⟩
theorem cd_len (hc : X.calm = true ∨ True) : CallR X (.builtin "len") (rDatC X.K bfLen) := by
  intro pins s σ H xs us Q I r ⟨G, B, σ', e, ds, d, S, rs, hd, h⟩
  unfold bfLen at hd
  split at hd
  · cases hd
    cases rs with
    | cons r0 rr =>
      cases rr
      cases r0 with
      | tup h1 q1 =>
        refine call_len pins s σ H _ us Q I r ⟨_, _, rfl, .inr ⟨_, same_sqT S.sub h1, rfl⟩, ?_⟩
        rw [q1.length]
        exact h _ B H S (Same.refl B) (.int _)
  · cases hd
    cases rs with
    | cons r0 rr =>
      cases rr
      cases r0 with
      | lst h1 q1 =>
        refine call_len pins s σ H _ us Q I r ⟨_, _, rfl, .inl ⟨_, same_sqL S.sub h1, rfl⟩, ?_⟩
        rw [q1.length]
        exact h _ B H S (Same.refl B) (.int _)
  · split at hd
    · rename_i z
      cases hd
      cases rs with
      | cons r0 rr =>
        cases rr
        cases r0
        exact call_len pins s σ H _ us Q I r ⟨_, _, rfl, ⟨vle z, rfl⟩, h _ B H S (Same.refl B) (.int _)⟩
    · cases hd
  · cases hd
    cases rs with
    | cons r0 rr =>
      cases rr
      cases r0 with
      | dct h1 he q1 =>
        subst he
        obtain ⟨u, rfl, ru⟩ := vals1 r
        cases ru
        refine d_len I (same_rd S.sub h1) fun t s' I' => ⟨.int _, H, I', ⟨t, rfl⟩, ?_⟩
        have q := h _ B H S (Same.refl B) (.int _)
        rw [List.length_map] at q
        exact q
  · cases hd
theorem cd_abs : CallR X (.builtin "abs") (rDatC X.K bfAbs) := by
  intro pins s σ H xs us Q I r ⟨G, B, σ', e, ds, d, S, rs, hd, h⟩
  unfold bfAbs at hd
  split at hd
  · cases hd
    cases rs with
    | cons r0 rr =>
      cases rr
      cases r0
      exact call_abs pins s σ H _ us Q I r ⟨_, rfl, h _ B H S (Same.refl B) (.int _)⟩
  · cases hd
theorem cd_min (hc : X.calm = true) : CallR X (.builtin "min") (rDatC X.K bfMin) := by
  intro pins s σ H xs us Q I r ⟨G, B, σ', e, ds, d, S, rs, hd, h⟩
  unfold bfMin at hd
  split at hd
  · cases hd
    cases rs with
    | cons r0 rr =>
      cases rr with
      | cons r1 rr =>
        cases rr
        cases r0
        cases r1
        exact call_min2 hc pins s σ H _ us Q I r ⟨_, _, rfl, h _ B H S (Same.refl B) (.int _)⟩
  · cases hd
theorem cd_max (hc : X.calm = true) : CallR X (.builtin "max") (rDatC X.K bfMax) := by
  intro pins s σ H xs us Q I r ⟨G, B, σ', e, ds, d, S, rs, hd, h⟩
  unfold bfMax at hd
  split at hd
  · cases hd
    cases rs with
    | cons r0 rr =>
      cases rr with
      | cons r1 rr =>
        cases rr
        cases r0
        cases r1
        exact call_max2 hc pins s σ H _ us Q I r ⟨_, _, rfl, h _ B H S (Same.refl B) (.int _)⟩
  · cases hd
theorem ints_rep {K : PySem.W.Frag} {B : Hp} : ∀ {ds : List D} {ns : List Int} {vs : List V}, intsD ds = some ns → Reps K B vs ds → vs = ns.map V.int
  | [], ns, vs, h, r => by cases h; cases r; rfl
  | d :: ds, ns, vs, h, r => by
    cases r with
    | cons r0 rr =>
      cases d with
      | int i =>
        unfold intsD at h
        obtain ⟨ms, h1, rfl⟩ := Option.map_eq_some_iff.mp h
        cases r0
        rw [ints_rep h1 rr] <;> rfl
      | _ => cases h
theorem bools_rep {K : PySem.W.Frag} {B : Hp} : ∀ {ds : List D} {ns : List Bool} {vs : List V}, boolsD ds = some ns → Reps K B vs ds → vs = ns.map V.bl
  | [], ns, vs, h, r => by cases h; cases r; rfl
  | d :: ds, ns, vs, h, r => by
    cases r with
    | cons r0 rr =>
      cases d with
      | bl i =>
        unfold boolsD at h
        obtain ⟨ms, h1, rfl⟩ := Option.map_eq_some_iff.mp h
        cases r0
        rw [bools_rep h1 rr] <;> rfl
      | _ => cases h
theorem cd_sum (hc : X.calm = true) : CallR X (.builtin "sum") (rDatC X.K bfSum) := by
  intro pins s σ H xs us Q I r ⟨G, B, σ', e, ds, d, S, rs, hd, h⟩
  unfold bfSum at hd
  split at hd
  · obtain ⟨ns, h1, rfl⟩ := Option.map_eq_some_iff.mp hd
    cases rs with
    | cons r0 rr =>
      cases rr
      cases r0 with
      | lst h2 q2 =>
        obtain rfl := ints_rep h1 q2
        exact cr_sum hc pins s σ H _ us Q I r ⟨_, ns, rfl, same_sqL S.sub h2, h _ B H S (Same.refl B) (.int _)⟩
  · cases hd
theorem cd_all (hc : X.calm = true) : CallR X (.builtin "all") (rDatC X.K bfAll) := by
  intro pins s σ H xs us Q I r ⟨G, B, σ', e, ds, d, S, rs, hd, h⟩
  unfold bfAll at hd
  split at hd
  · obtain ⟨ns, h1, rfl⟩ := Option.map_eq_some_iff.mp hd
    cases rs with
    | cons r0 rr =>
      cases rr
      cases r0 with
      | lst h2 q2 =>
        obtain rfl := bools_rep h1 q2
        exact cr_all hc pins s σ H _ us Q I r ⟨_, ns, rfl, same_sqL S.sub h2, h _ B H S (Same.refl B) (.bl _)⟩
  · cases hd
theorem cd_any (hc : X.calm = true) : CallR X (.builtin "any") (rDatC X.K bfAny) := by
  intro pins s σ H xs us Q I r ⟨G, B, σ', e, ds, d, S, rs, hd, h⟩
  unfold bfAny at hd
  split at hd
  · obtain ⟨ns, h1, rfl⟩ := Option.map_eq_some_iff.mp hd
    cases rs with
    | cons r0 rr =>
      cases rr
      cases r0 with
      | lst h2 q2 =>
        obtain rfl := bools_rep h1 q2
        exact cr_any hc pins s σ H _ us Q I r ⟨_, ns, rfl, same_sqL S.sub h2, h _ B H S (Same.refl B) (.bl _)⟩
  · cases hd
/-- what a new list is, from its place -/
theorem new_F {K : PySem.W.Frag} {G : Gr} {B H : Hp} {σ : L2.St} {e : Env} {Q : VK} {rs : List D} {vs : List V} (S : Sto K G B H σ e) (r : Reps K B vs rs) (h : ∀ v B' H', Sto K G B' H' σ e → Same B B' → rpF K G B' H' σ e v rs → Q v H') :
    ∀ p, H p = none → Q (.ref p) (upd H p (.lst vs)) := fun p hp => h _ B _ (S.loose hp) (Same.refl B) ⟨p, vs, rfl, upd_same, same_none S.sub hp, S.fresh hp, not_owned_new S hp, r⟩
theorem cd_list : CallR X (.type "list") (rDatF X.K bfList) := by
  intro pins s σ H xs us Q I r ⟨G, B, σ', e, ds, d, S, rs, hd, h⟩
  unfold bfList at hd
  split at hd
  · cases hd
    cases rs with
    | cons r0 rr =>
      cases rr
      cases r0 with
      | lst h2 q2 => exact call_list_of pins s σ H _ us Q I r ⟨_, _, rfl, .inl (same_sqL S.sub h2), new_F S q2 h⟩
  · cases hd
    cases rs with
    | cons r0 rr =>
      cases rr
      cases r0 with
      | tup h2 q2 => exact call_list_of pins s σ H _ us Q I r ⟨_, _, rfl, .inr (same_sqT S.sub h2), new_F S q2 h⟩
  · cases hd

/-! isinstance -/
def kitAll (t : String) : Bool := kitB "NoneType" t == some (t == "NoneType") && kitB "bool" t == some (t == "bool" || t == "int") && kitB "int" t == some (t == "int") && kitB "str" t == some (t == "str") &&
  kitB "tuple" t == some (t == "tuple") && kitB "list" t == some (t == "list") && kitB "dict" t == some (t == "dict")
theorem kit_int : kitAll "int" = true := by decide +kernel
theorem kit_bool : kitAll "bool" = true := by decide +kernel
theorem kit_str : kitAll "str" = true := by decide +kernel
theorem kit_tuple : kitAll "tuple" = true := by decide +kernel
theorem kit_list : kitAll "list" = true := by decide +kernel
theorem kit_dict : kitAll "dict" = true := by decide +kernel
theorem Rep.kit {K : PySem.W.Frag} {B H : Hp} {v : V} {d : D} {t : String} (s : Same B H) (r : Rep K B v d) (h : kitAll t = true) : ∃ u, TyX K H v u ∧ PySem.W.kitOne K u (.type t) = some (d.isT t) := by
  unfold kitAll at h
  simp only [Bool.and_eq_true, beq_iff_eq] at h
  obtain ⟨⟨⟨⟨⟨⟨h1, h2⟩, h3⟩, h4⟩, h5⟩, h6⟩, h7⟩ := h
  cases r with
  | non => exact ⟨_, .base .non, kit_ty h1⟩
  | bl b => exact ⟨_, .base (.bl b), kit_ty h2⟩
  | int i => exact ⟨_, .base (.int i), kit_ty h3⟩
  | str x => exact ⟨_, .base (.str x), kit_ty h4⟩
  | tup h r =>
    rcases same_sqT s h with (q | ⟨o, q⟩) | ⟨o, its, n, hk, hc, _⟩
    · exact ⟨_, .base (.tup q), kit_ty h5⟩
    · exact ⟨_, .fTuple q, kit_ty h5⟩
    · exact ⟨_, .kTuple hk hc, kit_ty h5⟩
  | lst h r =>
    rcases same_sqL s h with (q | ⟨o, q⟩) | ⟨o, its, n, hk, hc, _⟩
    · exact ⟨_, .base (.lst q), kit_ty h6⟩
    · exact ⟨_, .base (.frz q), kit_ty h6⟩
    · exact ⟨_, .kList hk hc, kit_ty h6⟩
  | dct h _ r =>
    rcases same_rd s h with q | ⟨o, q⟩
    · exact ⟨_, .base (.dK q), kit_ty h7⟩
    · exact ⟨_, .fDict q, kit_ty h7⟩
theorem rd_isi {K : PySem.W.Frag} {mg : Str → Option Value} {W : Am K} {t : String} {ta : TE} {ma : ME} (hk : kitAll t = true) (ha : RdE K mg W ta ma) : RdE K mg W (tCB (rIsi K) (tCons ta (tCons (tC (.ty t)) tNil))) (vIsi t ma) where
  run := fun G hG B H σ e Q S q => by
    refine ha.run G hG B H σ e _ S (Po.bind q fun d e1 v B1 H1 S1 s1 r1 h1 => ?_)
    obtain ⟨u, ty, ek⟩ := r1.kit S1.sub hk
    exact ⟨v, .ty t, u, _, _, rfl, .ty t, ty, ek, Po.here h1 S1 (.bl _)⟩

/-! slices -/
theorem cut_V {vs : List V} {n : Nat} (lo hi : Option Int) (h : vs.length = n) : cutV vs lo hi = (vs.drop (sIxD n 0 lo)).take (sIxD n n hi - sIxD n 0 lo) := by
  subst h
  rfl
theorem rd_part {K : PySem.W.Frag} {mg : Str → Option Value} {W : Am K} {t : TE} {m : ME} (h : RdE K mg W t m) : RdX K mg W (fun _ _ _ _ _ b a => b = a) (tPart t) (vPart m) where
  run := fun G hG B H σ e Q S q => by
    refine h.run G hG B H σ e _ S (Po.bind q fun d e1 v B1 H1 S1 s1 r1 h1 => ?_)
    obtain ⟨a, ha, h2⟩ := h1.of
    cases d with
    | int i => cases ha; cases r1; exact ⟨_, rfl, Po.here h2 S1 rfl⟩
    | _ => cases ha
theorem rd_nopart {K : PySem.W.Frag} {mg : Str → Option Value} {W : Am K} : RdX K mg W (fun _ _ _ _ _ b a => b = a) tNoPart vNoPart where
  run := fun G hG B H σ e Q S q => Po.here q S rfl
/-- a slice told on data -/
def rDatS (K : PySem.W.Frag) : V → Option Int → Option Int → Hp → VK → Prop := fun x lo hi H Q => ∃ (G : Gr) (B : Hp) (σ : L2.St) (e : Env) (a d : D), Sto K G B H σ e ∧ Rep K B x a ∧ slT lo hi a = some d ∧
  ∀ v B' H', Sto K G B' H' σ e → Same B B' → Rep K B' v d → Q v H'
theorem sl_dat : SlR X (rDatS X.K) := by
  intro pins s σ H x v vl vu lo hi sl Q I rx hs pl pu ⟨G, B, σ', e, a, d, S, r1, hd, h⟩
  cases a with
  | tup ds =>
    by_cases hw : sIxD ds.length 0 lo = 0 ∧ sIxD ds.length ds.length hi = ds.length
    · have hd : (if sIxD ds.length 0 lo = 0 ∧ sIxD ds.length ds.length hi = ds.length then none else some (D.tup (cutD ds lo hi))) = some d := hd
      rw [if_pos hw] at hd
      cases hd
    · have hd : (if sIxD ds.length 0 lo = 0 ∧ sIxD ds.length ds.length hi = ds.length then none else some (D.tup (cutD ds lo hi))) = some d := hd
      rw [if_neg hw] at hd
      cases hd
      cases r1 with
      | tup q1 q2 =>
        have hl := q2.length
        refine sl_tup pins s σ H _ v vl vu lo hi sl Q I rx hs pl pu ⟨_, _, rfl, same_sqT S.sub q1, ?_, fun p hp => h _ _ _ (S.alloc hp) (same_upd' (same_none S.sub hp)) (.tup (SqT.of upd_same) (Reps.mono (same_upd' (same_none S.sub hp)) ?_))⟩
        · rw [hl]; exact hw
        · rw [cut_V _ _ hl]
          exact (q2.drop _).take _
  | lst ds =>
    cases hd
    cases r1 with
    | lst q1 q2 =>
      have hl := q2.length
      refine sl_list pins s σ H _ v vl vu lo hi sl Q I rx hs pl pu ⟨_, _, rfl, same_sqL S.sub q1, fun p hp => h _ _ _ (S.alloc hp) (same_upd' (same_none S.sub hp)) (.lst (SqL.of upd_same) (Reps.mono (same_upd' (same_none S.sub hp)) ?_))⟩
      rw [cut_V _ _ hl]
      exact (q2.drop _).take _
  | str z =>
    by_cases hz : z.length ≤ vmax
    · have hd : (if z.length ≤ vmax then some (D.str (cutSD z lo hi)) else none) = some d := hd
      rw [if_pos hz] at hd
      cases hd
      cases r1
      exact sl_str pins s σ H _ v vl vu lo hi sl Q I rx hs pl pu ⟨z, rfl, vle hz, h _ B H S (Same.refl B) (.str _)⟩
    · have hd : (if z.length ≤ vmax then some (D.str (cutSD z lo hi)) else none) = some d := hd
      rw [if_neg hz] at hd
      cases hd
  | _ => cases hd
theorem rd_slT {K : PySem.W.Frag} {mg : Str → Option Value} {W : Am K} {t : TE} {m : ME} {tl th : TO} {ml mh : MO} (h : RdE K mg W t m) (hl : RdX K mg W (fun _ _ _ _ _ b a => b = a) tl ml) (hh : RdX K mg W (fun _ _ _ _ _ b a => b = a) th mh) :
    RdE K mg W (tSl (rDatS K) t tl th) (vSl m ml mh) where
  run := fun G hG B H σ e Q S q => by
    refine h.run G hG B H σ e _ S (Po.bind q fun d e1 v B1 H1 S1 s1 r1 h1 => ?_)
    refine hl.run G hG B1 H1 σ e1 _ S1 (Po.bind h1 fun lo e2 lo' B2 H2 S2 s2 r2 h2 => ?_)
    refine hh.run G hG B2 H2 σ e2 _ S2 (Po.bind h2 fun hi e3 hi' B3 H3 S3 s3 r3 h3 => ?_)
    have r2 : lo' = lo := r2
    have r3 : hi' = hi := r3
    subst r2 r3
    obtain ⟨x, hx, h4⟩ := h3.of
    exact ⟨G, B3, σ, e3, d, x, S3, Rep.mono (s2.trans s3) r1, hx, h4⟩
theorem rd_slF {K : PySem.W.Frag} {mg : Str → Option Value} {W : Am K} {t : TE} {m : ME} {tl th : TO} {ml mh : MO} (h : RdE K mg W t m) (hl : RdX K mg W (fun _ _ _ _ _ b a => b = a) tl ml) (hh : RdX K mg W (fun _ _ _ _ _ b a => b = a) th mh) :
    RdF K mg W (tSl (rSlL K) t tl th) (vSlF m ml mh) where
  run := fun G hG B H σ e Q S q => by
    refine h.run G hG B H σ e _ S (Po.bind q fun d e1 v B1 H1 S1 s1 r1 h1 => ?_)
    refine hl.run G hG B1 H1 σ e1 _ S1 (Po.bind h1 fun lo e2 lo' B2 H2 S2 s2 r2 h2 => ?_)
    refine hh.run G hG B2 H2 σ e2 _ S2 (Po.bind h2 fun hi e3 hi' B3 H3 S3 s3 r3 h3 => ?_)
    have r2 : lo' = lo := r2
    have r3 : hi' = hi := r3
    subst r2 r3
    obtain ⟨x, hx, h4⟩ := h3.of
    cases d with
    | lst ds =>
      cases hx
      cases Rep.mono (s2.trans s3) r1 with
      | lst q1 q2 =>
        have hl := q2.length
        refine ⟨_, _, rfl, same_sqL S3.sub q1, fresh_list S3 ?_ h4⟩
        rw [cut_V _ _ hl]
        exact (q2.drop _).take _
    | _ => cases hx
theorem rd_revF {K : PySem.W.Frag} {mg : Str → Option Value} {W : Am K} {t : TE} {m : ME} (h : RdE K mg W t m) : RdF K mg W (tRevL K t) (vRevF m) where
  run := fun G hG B H σ e Q S q => by
    refine h.run G hG B H σ e _ S (Po.bind q fun d e1 v B1 H1 S1 s1 r1 h1 => ?_)
    obtain ⟨x, hx, h4⟩ := h1.of
    cases d with
    | lst ds =>
      cases hx
      cases r1 with
      | lst q1 q2 => exact ⟨_, _, rfl, same_sqL S1.sub q1, fresh_list S1 q2.reverse h4⟩
    | _ => cases hx
end
end VL

/-! VL6: statements, loops, comprehensions. -/
namespace VL
open PySem PySem.Spec PyProof.Rows L2
section
variable (K : PySem.W.Frag) (mg : Str → Option Value) (W : Am K)
/-- what a return hands back: a value, or (k) a new list -/
def RetOk (k : Bool) (G : Gr) (B H : Hp) (σ : L2.St) (e : Env) (v : V) (d : D) : Prop := if k = true then ∃ rs, d = .lst rs ∧ rpF K G B H σ e v rs else Rep K B v d
def PoS (k : Bool) (G : Gr) (B : Hp) (D : Ends) (r : RS) : Prop := match r with
  | .nx e' => ∀ σ' B' H', Sto K G B' H' σ' e' → Same B B' → D.nx σ' H'
  | .rt d e' => ∀ v σ' B' H', Sto K G B' H' σ' e' → Same B B' → RetOk K k G B' H' σ' e' v d → D.rt v H'
  | .bk e' => ∀ σ' B' H', Sto K G B' H' σ' e' → Same B B' → D.bk σ' H'
  | .ct e' => ∀ σ' B' H', Sto K G B' H' σ' e' → Same B B' → D.ct σ' H'
  | .err x e' => ∀ cls dd σ' B' H', Sto K G B' H' σ' e' → Same B B' → XRep K mg B' cls dd x → W.w cls dd σ' H'
  | .bot => False
def RdS (k : Bool) (t : TS) (m : MS) : Prop := ∀ (G : Gr), W.g G → ∀ (B H : Hp) (σ : L2.St) (e : Env) (D : Ends), Sto K G B H σ e → PoS K mg W k G B D (m e) → t D σ H
/-- nothing but the slots own is touched -/
def Tch (own : List Nat) (σ σ' : L2.St) : Prop := σ'.length = σ.length ∧ ∀ i, i ∉ own → σ'[i]? = σ[i]?
/-- a target -/
def RdG (own : List Nat) (g : TG) (m : D → Env → Option Env) : Prop := ∀ (G : Gr) (B H : Hp) (σ : L2.St) (e e' : Env) (v : V) (d : D) (Q : L2.St → Hp → Prop), Sto K G B H σ e → Rep K B v d → m d e = some e' → (∀ σ', Sto K G B H σ' e' → Tch own σ σ' → Q σ' H) → g v σ H Q
def RdGs (own : List Nat) (g : TGs) (m : List D → Env → Option Env) : Prop := ∀ (G : Gr) (B H : Hp) (σ : L2.St) (e e' : Env) (v : List V) (d : List D) (Q : L2.St → Hp → Prop), Sto K G B H σ e → Reps K B v d → m d e = some e' → (∀ σ', Sto K G B H σ' e' → Tch own σ σ' → Q σ' H) → g v σ H Q
end
section
variable {K : PySem.W.Frag} {mg : Str → Option Value} {W : Am K} {k : Bool} {G : Gr} {B H : Hp} {σ : L2.St} {e : Env}
theorem PoS.base {B' : Hp} {D : Ends} {r : RS} (s : Same B B') (h : PoS K mg W k G B D r) : PoS K mg W k G B' D r := by
  cases r with
  | nx e' => exact fun σ2 B2 H2 S q => h σ2 B2 H2 S (s.trans q)
  | rt d e' => exact fun v σ2 B2 H2 S q => h v σ2 B2 H2 S (s.trans q)
  | bk e' => exact fun σ2 B2 H2 S q => h σ2 B2 H2 S (s.trans q)
  | ct e' => exact fun σ2 B2 H2 S q => h σ2 B2 H2 S (s.trans q)
  | err x e' => exact fun c d σ2 B2 H2 S q => h c d σ2 B2 H2 S (s.trans q)
  | bot => exact h
theorem PoS.thenS {α β : Type} {R : RP α β} {D : Ends} {Q : β → Hp → Prop} {r : Res α} {f : α → Env → RS} (h : PoS K mg W k G B D (r.thenS f))
    (q : ∀ a e1 b B1 H1, Sto K G B1 H1 σ e1 → Same B B1 → R G B1 H1 σ e1 b a → PoS K mg W k G B1 D (f a e1) → Q b H1) : Po K mg W R G σ B Q r := by
  cases r with
  | ok a e1 => exact fun b B1 H1 S s p => q a e1 b B1 H1 S s p (PoS.base s h)
  | err x e' => exact fun c d B' H' S s p => h c d σ B' H' S s p
  | bot => exact h
theorem PoS.nx {D : Ends} (h : PoS K mg W k G B D (.nx e)) (S : Sto K G B H σ e) : D.nx σ H := h σ B H S (Same.refl B)

theorem rs_next : RdS K mg W k tNext vNext := fun G hG B H σ e D S h => h.nx S
theorem rs_seq {t u : TS} {a b : MS} (ha : RdS K mg W k t a) (hb : RdS K mg W k u b) : RdS K mg W k (tSeq t u) (vSeq a b) := fun G hG B H σ e D S h => by
  refine ha G hG B H σ e _ S ?_
  unfold vSeq at h
  cases z : a e with
  | nx e1 => rw [z] at h; exact fun σ' B' H' S' s => hb G hG B' H' σ' e1 D S' (PoS.base s h)
  | rt d e1 => rw [z] at h; exact h
  | bk e1 => rw [z] at h; exact h
  | ct e1 => rw [z] at h; exact h
  | err x e1 => rw [z] at h; exact h
  | bot => rw [z] at h; exact h
theorem rs_break : RdS K mg W k tBreak vBreak := fun G hG B H σ e D S h => h σ B H S (Same.refl B)
theorem rs_cont : RdS K mg W k tCont vCont := fun G hG B H σ e D S h => h σ B H S (Same.refl B)
theorem rs_drop {t : TE} {m : ME} (ha : RdE K mg W t m) : RdS K mg W k (tDrop t) (vDrop m) := fun G hG B H σ e D S h =>
  ha.run G hG B H σ e _ S (PoS.thenS h fun _ _ _ _ _ S1 _ _ h1 => h1.nx S1)
theorem rs_ret {t : TE} {m : ME} (ha : RdE K mg W t m) : RdS K mg W false (tRet t) (vRet m) := fun G hG B H σ e D S h =>
  ha.run G hG B H σ e _ S (PoS.thenS h fun d e1 v B1 H1 S1 _ r1 h1 => h1 v σ B1 H1 S1 (Same.refl B1) (by unfold RetOk; rw [if_neg Bool.false_ne_true]; exact r1))
theorem rs_retF {t : TE} {m : MA} (ha : RdF K mg W t m) : RdS K mg W true (tRet t) (vRetF m) := fun G hG B H σ e D S h =>
  ha.run G hG B H σ e _ S (PoS.thenS h fun d e1 v B1 H1 S1 _ r1 h1 => h1 v σ B1 H1 S1 (Same.refl B1) (by unfold RetOk; rw [if_pos rfl]; exact ⟨d, rfl, r1⟩))
theorem rs_retN : RdS K mg W false tRetN vRetN := fun G hG B H σ e D S h => h .non σ B H S (Same.refl B) (by unfold RetOk; rw [if_neg Bool.false_ne_true]; exact .non)
theorem rs_if {c : TT} {t u : TS} {mc : MB} {a b : MS} (hc : RdB K mg W c mc) (ha : RdS K mg W k t a) (hb : RdS K mg W k u b) : RdS K mg W k (tIfS c t u) (vIf mc a b) := fun G hG B H σ e D S h =>
  hc.run G hG B H σ e _ S (PoS.thenS h fun d e1 v B1 H1 S1 _ r1 h1 => by
    have r1 : v = d := r1
    subst r1
    cases v with
    | true => rw [if_pos rfl] at h1 ⊢; exact ha G hG B1 H1 σ e1 D S1 h1
    | false => rw [if_neg Bool.false_ne_true] at h1 ⊢; exact hb G hG B1 H1 σ e1 D S1 h1)
theorem rs_never : RdS K mg W k tNever (fun _ => .bot) := fun G hG B H σ e D S h => h
/-- the owned name handed back -/
theorem rd_own (i : Nat) : RdF K mg W (tVar i) (vOwn i) where
  run := fun G hG B H σ e Q S h => by
    unfold vOwn at h
    cases z : e[i]? with
    | none => rw [z] at h; exact h.elim
    | some s =>
      rw [z] at h
      obtain ⟨v, hv, ok⟩ := S.sl i s z
      cases ok with
      | no => exact h.elim
      | tk => exact h.elim
      | sh r => exact h.elim
      | @ow b p vs ds hb hg hh hr =>
        cases hr with
        | dct e1 r1 => exact h.elim
        | lst hr =>
          refine ⟨_, hv, h (.ref p) B H (S.lose i) (Same.refl B) ⟨p, _, rfl, hh, hb, hg, fun ⟨j, b, es, h1, h2⟩ => ?_, hr⟩⟩
          by_cases q : i = j
          · subst q
            have hl := (List.getElem?_eq_some_iff.mp h1).1
            rw [List.length_set] at hl
            rw [List.getElem?_set_self hl] at h1
            cases h1
          · rw [List.getElem?_set_ne q] at h1
            exact q (S.dis i j p _ _ ds es z h1 hv h2)

/-! stores -/
theorem Tch.refl (own : List Nat) (σ : L2.St) : Tch own σ σ := ⟨rfl, fun _ _ => rfl⟩
theorem Tch.trans {o1 o2 : List Nat} {σ1 σ2 σ3 : L2.St} (a : Tch o1 σ1 σ2) (b : Tch o2 σ2 σ3) : Tch (o1 ++ o2) σ1 σ3 := ⟨b.1.trans a.1, fun i h => by
  rw [List.mem_append, not_or] at h
  exact (b.2 i h.2).trans (a.2 i h.1)⟩
theorem rg_name (i : Nat) : RdG K [i] (gName i) (gNam i) := fun G B H σ e e' v d Q S r he q => by
  unfold gNam at he
  split at he
  · cases he
    exact q _ (S.put i (.sh r) fun _ _ _ z => nomatch z) ⟨List.length_set, fun j h => by
      rw [List.getElem?_set_ne]
      exact fun z => h (by rw [z]; exact List.mem_singleton.mpr rfl)⟩
  · cases he
theorem rg_nil : RdGs K [] gNil gNil' := fun G B H σ e e' v d Q S r he q => by
  cases r with
  | nil => cases he; exact ⟨rfl, q σ S (Tch.refl _ _)⟩
  | cons _ _ => cases he
theorem rg_cons {o1 o2 : List Nat} {t : TG} {u : TGs} {g : D → Env → Option Env} {r : List D → Env → Option Env} (ht : RdG K o1 t g) (hu : RdGs K o2 u r) : RdGs K (o1 ++ o2) (gCons t u) (gCon g r) := fun G B H σ e e' v d Q S rr he q => by
  cases rr with
  | nil => cases he
  | @cons v vs d ds r0 rs =>
    unfold gCon at he
    cases z : g d e with
    | none => simp only [z] at he; cases he
    | some e1 =>
      simp only [z] at he
      exact ⟨v, vs, rfl, ht G B H σ e e1 v d _ S r0 z fun σ' S' t1 => hu G B H σ' e1 e' vs ds Q S' rs he fun σ2 S2 t2 => q σ2 S2 (t1.trans t2)⟩
theorem gCon_len {g : D → Env → Option Env} {r : List D → Env → Option Env} {n : Nat} (hr : ∀ ds e e', r ds e = some e' → ds.length = n) : ∀ ds e e', gCon g r ds e = some e' → ds.length = n + 1 := fun ds e e' h => by
  cases ds with
  | nil => cases h
  | cons d ds =>
    unfold gCon at h
    cases z : g d e with
    | none => simp only [z] at h; cases h
    | some e1 => simp only [z] at h; rw [List.length_cons, hr _ _ _ h]
theorem gNil_len : ∀ ds e e', gNil' ds e = some e' → ds.length = 0 := fun ds e e' h => by
  cases ds with
  | nil => rfl
  | cons _ _ => cases h
/-- (a, b, ..) = a tuple or a list of that length -/
def gSeq (K : PySem.W.Frag) (n : Nat) (t : TGs) : TG := fun v σ H Q => ∃ a xs, v = .ref a ∧ (SqT K H a xs ∨ SqL K H a xs) ∧ xs.length = n ∧ t xs σ H Q
theorem pg_seq {X : Cx} {pos : Pos} {es : List Expr} {k : Nat} {t : TGs} {n : Nat} (hc : X.calm = true) (h : PGs X es t)
    (hn : (assignEach es X.env).length = n := by rfl) (hst : (assignEach es X.env).findIdx? (·.1) = none := by rfl) : PG X (.Tuple es k pos) (gSeq X.K n t) := by
  refine ⟨fun pins s σ H v u Q I r hw => ?_⟩
  obtain ⟨a, xs, e1, hq, hl, hw⟩ := hw
  rcases hq with hq | hq
  · exact (pg_tup hc h hn hst).run pins s σ H _ _ Q I r ⟨a, xs, e1, hq, hl, hw⟩
  · subst e1
    cases r
    obtain ⟨its, rv, ⟨o, n', e, hcl, hd, hda⟩, hz⟩ := I.list hq
    have hL : s.heap.IsList a its.toArray := ⟨o, e, hcl, n', hda⟩
    have hn2 : (assignEach es X.env).length = its.toArray.size := by simp [hn, ← hl, rv.length]
    rw [assign_Tuple]
    refine wpAny_bind (wpAny_standAt ?_)
    unfold unpack
    rw [hn2, hst]
    refine wpAny_bind (wpAny_holding (PySem.W.kun_itemsOf (I.ok.hd hc) hL fun h' hx => ?_))
    have I1 : Inv X pins σ H { s with heap := h' } := I.kept (t' := s.toks) fun b o e => hx b o (Nat.ne_of_lt (Heap.lt_size e)) e
    exact h.run pins _ σ H xs _ Q I1 (by simpa using rv) hw
theorem rg_tup {n : Nat} {o : List Nat} {u : TGs} {r : List D → Env → Option Env} (hu : RdGs K o u r) (hn : ∀ ds e e', r ds e = some e' → ds.length = n) : RdG K o (gSeq K n u) (gTup' r) := fun G B H σ e e' v d Q S rr he q => by
  cases d with
  | tup ds =>
    cases rr with
    | tup h1 h2 =>
      refine ⟨_, _, rfl, .inl (same_sqT S.sub h1), ?_, hu G B H σ e e' _ ds Q S h2 he q⟩
      rw [h2.length]
      exact hn _ _ _ he
  | lst ds =>
    cases rr with
    | lst h1 h2 =>
      refine ⟨_, _, rfl, .inr (same_sqL S.sub h1), ?_, hu G B H σ e e' _ ds Q S h2 he q⟩
      rw [h2.length]
      exact hn _ _ _ he
  | _ => cases he
theorem rs_asg {t : TE} {m : ME} {g : TG} {o : List Nat} {mg' : D → Env → Option Env} (ha : RdE K mg W t m) (hg : RdG K o g mg') : RdS K mg W k (tAsg t g) (vAsg m mg') := fun G hG B H σ e D S h =>
  ha.run G hG B H σ e _ S (PoS.thenS h fun d e1 v B1 H1 S1 _ r1 h1 => by
    cases z : mg' d e1 with
    | none => rw [z] at h1; exact h1.elim
    | some e2 => rw [z] at h1; exact hg G B1 H1 σ e1 e2 v d _ S1 r1 z fun σ' S' _ => h1.nx S')
theorem rs_asgF {t : TE} {m : MA} {i : Nat} (ha : RdF K mg W t m) : RdS K mg W k (tAsg t (gName i)) (vAsgF i m) := fun G hG B H σ e D S h =>
  ha.run G hG B H σ e _ S (PoS.thenS h fun ds e1 v B1 H1 S1 _ r1 h1 => by
    by_cases hl : i < e1.length
    · rw [if_pos hl] at h1
      obtain ⟨p, vs, rfl, hp, hb, hg, no, r⟩ := r1
      exact h1.nx (S1.put i (.ow hb hg hp (.lst r)) fun b ds' p' e1' e2' j b' ds'' hj hjs => by
        cases e2'
        exact fun q => no ⟨j, b', ds'', hjs, q⟩)
    · rw [if_neg hl] at h1; exact h1.elim)
theorem rs_par {i j : Nat} {ta tb : TE} {a b : ME} (ha : RdE K mg W ta a) (hb : RdE K mg W tb b) : RdS K mg W k (tPar i j (tCons ta (tCons tb tNil))) (vPar i j a b) := fun G hG B H σ e D S h =>
  ha.run G hG B H σ e _ S (PoS.thenS h fun d e1 v B1 H1 S1 s1 r1 h1 => hb.run G hG B1 H1 σ e1 _ S1 (PoS.thenS h1 fun d' e2 v' B2 H2 S2 s2 r2 h2 => by
    by_cases hl : i < e2.length ∧ j < e2.length
    · rw [if_pos hl] at h2
      exact ⟨v, v', rfl, h2.nx ((S2.put i (.sh (r1.mono s2)) fun _ _ _ z => nomatch z).put j (.sh r2) fun _ _ _ z => nomatch z)⟩
    · rw [if_neg hl] at h2; exact h2.elim))
theorem rs_aug {i : Nat} {t : TE} {m : ME} {r : TIp} {op : D → D → Option D} (hr : Op2 K mg W r op) (ha : RdE K mg W t m) : RdS K mg W k (tAug i t r) (vAug i op m) := fun G hG B H σ e D S h => by
  unfold vAug at h
  cases z : e[i]? with
  | none => rw [z] at h; exact h.elim
  | some s =>
    rw [z] at h
    obtain ⟨v, hv, ok⟩ := S.sl i s z
    cases ok with
    | no => exact h.elim
    | tk => exact h.elim
    | @sh v x r0 =>
      refine ⟨v, hv, ha.run G hG B H σ e _ S (PoS.thenS h fun y e1 w B1 H1 S1 s1 r1 h1 => ?_)⟩
      cases q : op x y with
      | none => simp only [q] at h1; exact h1.elim
      | some d =>
        simp only [q] at h1
        refine hr G B1 H1 σ e1 v w x y d _ S1 (r0.mono s1) r1 q fun u B2 H2 S2 s2 r2 => ?_
        by_cases hl : i < e1.length
        · rw [if_pos hl] at h1
          exact (PoS.base s2 h1).nx (S2.put i (.sh r2) fun _ _ _ z => nomatch z)
        · rw [if_neg hl] at h1; exact h1.elim
    | ow _ _ _ _ => exact h.elim
/-- an owned list in a slot -/
theorem Sto.ow (S : Sto K G B H σ e) {i : Nat} {ds : List D} (z : e[i]? = some (.ow false ds)) : ∃ p vs, σ[i]? = some (some (.ref p)) ∧ H p = some (.lst vs) ∧ Reps K B vs ds := by
  obtain ⟨v, hv, ok⟩ := S.sl i _ z
  cases ok with
  | ow hb hg hh hr => cases hr with
    | lst hr => exact ⟨_, _, hv, hh, hr⟩
theorem PoS.slot {D' : Ends} {i : Nat} {f : List VL.D → RS} (h : PoS K mg W k G B D' (match e[i]? with
  | some (.ow false ds) => f ds
  | _ => .bot)) : ∃ ds, e[i]? = some (.ow false ds) ∧ PoS K mg W k G B D' (f ds) := by
  cases z : e[i]? with
  | none => rw [z] at h; exact h.elim
  | some s =>
    rw [z] at h
    cases s with
    | no => exact h.elim
    | tk => exact h.elim
    | sh _ => exact h.elim
    | ow b ds => cases b with
      | false => exact ⟨ds, rfl, h⟩
      | true => exact h.elim
/-- xs.append(e) of an owned list -/
theorem rs_app {i : Nat} {t : TE} {m : ME} (ha : RdE K mg W t m) : RdS K mg W k (tDrop (tBM K "list" rAppend (tVar i) (tCons t tNil))) (vApp i m) := fun G hG B H σ e D S h => by
  unfold vApp at h
  obtain ⟨ds, z, h⟩ := PoS.slot h
  obtain ⟨p, vs, hv, hh, hr⟩ := S.ow z
  refine ⟨_, hv, .inl ⟨rfl, vs, .inl (.inl hh)⟩, ha.run G hG B H σ e _ S (PoS.thenS h fun d e1 v B1 H1 S1 s1 r1 h1 => ?_)⟩
  obtain ⟨ds1, z1, h1⟩ := PoS.slot h1
  obtain ⟨p1, vs1, hv1, hh1, hr1⟩ := S1.ow z1
  rw [hv] at hv1
  cases hv1
  by_cases hl : ds1.length < vmax
  · rw [if_pos hl] at h1
    exact ⟨p, vs1, v, rfl, rfl, hh1, by rw [hr1.length]; exact Nat.lt_of_lt_of_le hl vok, h1.nx (S1.write z1 hv (.lst (hr1.append (.cons r1 .nil))))⟩
  · rw [if_neg hl] at h1; exact h1.elim
/-- xs.extend(e) -/
theorem rs_ext {i : Nat} {t : TE} {m : ME} (ha : RdE K mg W t m) : RdS K mg W k (tDrop (tBM K "list" (fun x vs H Q => ∃ l b xs zs, x = .ref l ∧ vs = [.ref b] ∧ H l = some (.lst xs) ∧ SqL K H b zs ∧ xs.length + zs.length ≤ sizeLine ∧ Q .non (upd H l (.lst (xs ++ zs)))) (tVar i) (tCons t tNil))) (vExt i m) := fun G hG B H σ e D S h => by
  unfold vExt at h
  obtain ⟨ds, z, h⟩ := PoS.slot h
  obtain ⟨p, vs, hv, hh, hr⟩ := S.ow z
  refine ⟨_, hv, .inl ⟨rfl, vs, .inl (.inl hh)⟩, ha.run G hG B H σ e _ S (PoS.thenS h fun d e1 v B1 H1 S1 s1 r1 h1 => ?_)⟩
  obtain ⟨ds1, z1, h1⟩ := PoS.slot h1
  obtain ⟨p1, vs1, hv1, hh1, hr1⟩ := S1.ow z1
  rw [hv] at hv1
  cases hv1
  cases d with
  | lst xs =>
    by_cases hl : ds1.length + xs.length < vmax
    · have h1 : PoS K mg W k G B1 D (if ds1.length + xs.length < vmax then .nx (e1.set i (.ow false (ds1 ++ xs))) else .bot) := h1
      rw [if_pos hl] at h1
      cases r1 with
      | lst q1 q2 =>
        exact ⟨p, _, vs1, _, rfl, rfl, hh1, same_sqL S1.sub q1, by rw [hr1.length, q2.length]; exact Nat.le_trans (Nat.le_of_lt hl) vok, h1.nx (S1.write z1 hv (.lst (hr1.append q2)))⟩
    · have h1 : PoS K mg W k G B1 D (if ds1.length + xs.length < vmax then .nx (e1.set i (.ow false (ds1 ++ xs))) else .bot) := h1
      rw [if_neg hl] at h1; exact h1.elim
  | _ => exact h1.elim
/-- xs[i] = e of an owned list -/
theorem rs_set {i : Nat} {t tx : TE} {m mx : ME} (ha : RdE K mg W t m) (hx : RdE K mg W tx mx) : RdS K mg W k (tAsg t (gSub (tVar i) tx rSetL)) (vSet i mx m) := fun G hG B H σ e D S h =>
  ha.run G hG B H σ e _ S (PoS.thenS h fun d e1 v B1 H1 S1 s1 r1 h1 => by
    obtain ⟨ds, z, h1⟩ := PoS.slot h1
    obtain ⟨p, vs, hv, hh, hr⟩ := S1.ow z
    refine ⟨_, hv, hx.run G hG B1 H1 σ e1 _ S1 (PoS.thenS h1 fun x e2 vx B2 H2 S2 s2 r2 h2 => ?_)⟩
    obtain ⟨ds1, z1, h2⟩ := PoS.slot h2
    obtain ⟨p1, vs1, hv1, hh1, hr1⟩ := S2.ow z1
    rw [hv] at hv1
    cases hv1
    cases x with
    | int n =>
      cases w : ixD ds1.length n with
      | none => simp only [w] at h2; exact h2.elim
      | some j =>
        simp only [w] at h2
        cases r2
        exact ⟨p, vs1, n, j, rfl, rfl, hh1, by rw [hr1.length]; exact w, h2.nx (S2.write z1 hv (.lst (hr1.set j (r1.mono s2))))⟩
    | _ => exact h2.elim)
/-- xs.pop() of an owned list -/
theorem rd_pop {i : Nat} : RdE K mg W (tBM0 K "list" rPop (tVar i)) (vPop i) where
  run := fun G hG B H σ e Q S h => by
    unfold vPop at h
    cases z : e[i]? with
    | none => rw [z] at h; exact h.elim
    | some s =>
      rw [z] at h
      cases s with
      | no => exact h.elim
      | tk => exact h.elim
      | sh _ => exact h.elim
      | ow b ds =>
        cases b with
        | true => exact h.elim
        | false =>
        obtain ⟨p, vs, hv, hh, hr⟩ := S.ow z
        cases w : ds.getLast? with
        | none => simp only [w] at h; exact h.elim
        | some d =>
          simp only [w] at h
          rw [List.getLast?_eq_getElem?] at w
          obtain ⟨y, hy, ry⟩ := hr.get w
          refine ⟨_, hv, .inl ⟨rfl, vs, .inl (.inl hh)⟩, p, vs, y, rfl, rfl, hh, by rw [hr.length]; exact hy, h y B _ (S.write z hv (.lst hr.dropLast)) (Same.refl B) ry⟩

/-! loops -/
/-- what an iterator yields: data ds, one after the other, whatever stands beside -/
def ItOk (K : PySem.W.Frag) (B : Hp) (J : It) (ds : List D) : Prop := ∀ (i : Nat) (B' H' : Hp), Same B B' → Same B' H' →
  (∀ d, ds[i]? = some d → J.go i H' ∧ ∀ x H2, J.yld i H' x H2 → ∃ B2, Same B' B2 ∧ Same B2 H2 ∧ Same H' H2 ∧ News' B' H' B2 ∧ Rep K B2 x d) ∧ (ds[i]? = none → J.stop i H')
/-- an iterable's reading -/
structure RdI (K : PySem.W.Frag) (mg : Str → Option Value) (W : Am K) (t : TI) (m : MA) : Prop where
  run : ∀ (G : Gr), W.g G → ∀ (B H : Hp) (σ : L2.St) (e : Env) (Q : It → Hp → Prop), Sto K G B H σ e → Po K mg W (fun G B' H' σ e J ds => ItOk K B' J ds) G σ B Q (m e) → t σ H Q
theorem rs_for {wi : TI} {mi : MA} {g : TG} {o : List Nat} {gm : D → Env → Option Env} {t : TS} {b : MS} (hi : RdI K mg W wi mi) (hg : RdG K o g gm) (hb : RdS K mg W k t b) : RdS K mg W k (tFor wi g t) (vFor mi gm b) := fun G hG B H σ e D S h => by
  refine hi.run G hG B H σ e _ S (PoS.thenS h fun ds e1 J B1 H1 S1 s1 it h1 => ?_)
  refine ⟨fun i m σ' H' => m = ds.length - i ∧ ∃ e' B', Sto K G B' H' σ' e' ∧ Same B1 B' ∧ PoS K mg W k G B1 D (forL gm b (ds.drop i) e'), ⟨_, rfl, e1, B1, S1, Same.refl B1, h1⟩, ?_⟩
  rintro i m σ2 H2 ⟨rfl, e2, B2, S2, s2, h2⟩
  obtain ⟨hgo, hstop⟩ := it i B2 H2 s2 S2.sub
  cases z : ds[i]? with
  | none =>
    have hl : ds.length ≤ i := List.getElem?_eq_none_iff.mp z
    rw [List.drop_eq_nil_of_le hl] at h2
    exact .inl ⟨hstop z, (PoS.base s2 h2).nx S2⟩
  | some d =>
    have hl : i < ds.length := (List.getElem?_eq_some_iff.mp z).1
    have hd : ds.drop i = d :: ds.drop (i + 1) := by
      rw [List.drop_eq_getElem_cons hl]
      have : ds[i] = d := (List.getElem?_eq_some_iff.mp z).2
      rw [this]
    rw [hd] at h2
    obtain ⟨go, yl⟩ := hgo d z
    refine .inr ⟨go, fun σ' H' => ∃ e' B', Sto K G B' H' σ' e' ∧ Same B1 B' ∧ PoS K mg W k G B1 D (forL gm b (ds.drop (i + 1)) e'), fun σ' H' ⟨e', B', q1, q2, q3⟩ => ⟨ds.length - (i + 1), by omega, rfl, e', B', q1, q2, q3⟩, fun x H3 hy => ?_⟩
    obtain ⟨B3, t1, t2, t3, t4, rx⟩ := yl x H3 hy
    have S3 : Sto K G B3 H3 σ2 e2 := S2.call t3 t1 t2 t4
    unfold forL at h2
    have s13 : Same B1 B3 := s2.trans t1
    cases w : gm d e2 with
    | none => rw [w] at h2; exact h2.elim
    | some e3 =>
      rw [w] at h2
      refine hg G B3 H3 σ2 e2 e3 x d _ S3 rx w fun σ4 S4 _ => ?_
      refine hb G hG B3 H3 σ4 e3 _ S4 ?_
      cases q : b e3 with
      | nx e4 => simp only [q] at h2; exact fun σ' B' H' S' s' => ⟨e4, B', S', s13.trans s', h2⟩
      | ct e4 => simp only [q] at h2; exact fun σ' B' H' S' s' => ⟨e4, B', S', s13.trans s', h2⟩
      | bk e4 => simp only [q] at h2; exact fun σ' B' H' S' s' => h2 σ' B' H' S' (s13.trans s')
      | rt d e4 => simp only [q] at h2; exact fun v σ' B' H' S' s' => h2 v σ' B' H' S' (s13.trans s')
      | err x e4 => simp only [q] at h2; exact fun c dd σ' B' H' S' s' => h2 c dd σ' B' H' S' (s13.trans s')
      | bot => simp only [q] at h2; exact h2
theorem rs_while {c : TT} {mc : MB} {t : TS} {b : MS} (hc : RdB K mg W c mc) (hb : RdS K mg W k t b) : RdS K mg W k (tWhile c t) (vWhile mc b) := fun G hG B H σ e D S h => by
  have hne : vWhile mc b e ≠ .bot := fun z => by rw [z] at h; exact h
  obtain ⟨n, hn⟩ := vWhile_some hne
  refine ⟨fun m σ' H' => ∃ e' B' r, Sto K G B' H' σ' e' ∧ Same B B' ∧ iterW mc b m e' = some r ∧ PoS K mg W k G B D r, ⟨n, e, B, _, S, Same.refl B, hn, h⟩, ?_⟩
  rintro m σ1 H1 ⟨e1, B1, r, S1, s1, hit, hr⟩
  cases m with
  | zero => cases hit
  | succ m =>
    rw [iterW] at hit
    refine hc.run G hG B1 H1 σ1 e1 _ S1 ?_
    cases z : mc e1 with
    | ok x e2 =>
      rw [z] at hit
      intro y B2 H2 S2 s2 r2
      have r2 : y = x := r2
      subst r2
      cases y with
      | false =>
        rw [if_neg Bool.false_ne_true]
        cases hit
        exact hr σ1 B2 H2 S2 (s1.trans s2)
      | true =>
        rw [if_pos rfl]
        refine ⟨fun σ' H' => ∃ e' B' r, Sto K G B' H' σ' e' ∧ Same B B' ∧ iterW mc b m e' = some r ∧ PoS K mg W k G B D r, fun σ' H' q => ⟨m, Nat.lt_succ_self m, q⟩, hb G hG B2 H2 σ1 e2 _ S2 ?_⟩
        have s12 : Same B B2 := s1.trans s2
        cases q : b e2 with
        | nx e3 => simp only [q] at hit; exact fun σ' B' H' S' s' => ⟨e3, B', r, S', s12.trans s', hit, hr⟩
        | ct e3 => simp only [q] at hit; exact fun σ' B' H' S' s' => ⟨e3, B', r, S', s12.trans s', hit, hr⟩
        | bk e3 => simp only [q] at hit; cases hit; exact fun σ' B' H' S' s' => hr σ' B' H' S' (s12.trans s')
        | rt d e3 => simp only [q] at hit; cases hit; exact fun v σ' B' H' S' s' => hr v σ' B' H' S' (s12.trans s')
        | err x e3 => simp only [q] at hit; cases hit; exact fun c dd σ' B' H' S' s' => hr c dd σ' B' H' S' (s12.trans s')
        | bot => simp only [q] at hit; cases hit; exact hr
    | err x e2 =>
      rw [z] at hit
      cases hit
      exact fun c dd B' H' S' s' => hr c dd σ1 B' H' S' (s1.trans s')
    | bot =>
      rw [z] at hit
      cases hit
      exact hr
end
end VL

/-! VL7: what is walked; comprehensions; a def by its body. -/
namespace VL
open PySem PySem.Spec PyProof.Rows L2
section
variable {X : Cx}
/-- a list, a tuple, a text -/
def iSeq (K : PySem.W.Frag) (tl : TE) : TI := fun σ H R => tl σ H fun x H1 => (∃ a, x = .ref a ∧ (∃ xs, SqL K H1 a xs) ∧ R (Itl K a) H1) ∨ (∃ a, x = .ref a ∧ (∃ xs, SqT K H1 a xs) ∧ R (Itt K a) H1) ∨ ∃ z, x = .str z ∧ R (Its z) H1
theorem pi_seq {tg l : Expr} {tl : TE} (hl : PE X l tl) : PI X tg l (iSeq X.K tl) := by
  refine ⟨fun pins s σ H R I h => ?_⟩
  refine thn (hl.run pins s σ H _ I h) fun v s1 ⟨x, H1, I1, r1, q1⟩ => ?_
  rcases q1 with ⟨a, e, ⟨xs, hq⟩, q⟩ | ⟨a, e, ⟨xs, hq⟩, q⟩ | ⟨z, e, q⟩
  · subst e
    cases r1
    obtain ⟨its, rv, p, hz⟩ := I1.list hq
    refine wpAny_pyIter_list p.isList ?_
    refine ⟨s1.heap.objs.size, [s1.heap.objs.size], _, _, H1, rfl, I1.kept (t' := s1.toks) fun b o e => Heap.get?_push_of_some _ e, turn_list a _, ⟨_, Heap.get?_push_size _ rfl, rfl, rfl⟩, fun b hb => ?_, q⟩
    have e : b = s1.heap.objs.size := by simpa using hb
    subst e
    exact I1.fpOk (Nat.le_refl _) (I1.hok.fresh (Nat.le_refl _))
  · subst e
    cases r1
    obtain ⟨its, rv, p, hz⟩ := I1.tuple hq
    refine wpAny_pyIter_tuple (show s1.heap.IsTuple a its.toArray from p) ?_
    refine ⟨s1.heap.objs.size, [s1.heap.objs.size], _, _, H1, rfl, I1.kept (t' := s1.toks) fun b o e => Heap.get?_push_of_some _ e, turn_tuple a _, ⟨_, Heap.get?_push_size _ rfl, rfl, rfl⟩, fun b hb => ?_, q⟩
    have e : b = s1.heap.objs.size := by simpa using hb
    subst e
    exact I1.fpOk (Nat.le_refl _) (I1.hok.fresh (Nat.le_refl _))
  · subst e
    obtain ⟨t, rfl⟩ := r1
    cases ha : z.cps.all (· < 128)
    · exact wpAny_pyIter_wide ha (pi_one (tk := s1.toks) I1 _ (turn_str _ z t "str_iterator" (.inr rfl)) ⟨_, Heap.get?_push_size _ rfl, rfl, rfl⟩ q)
    · exact wpAny_pyIter_ascii ha (pi_one (tk := s1.toks) I1 _ (turn_str _ z t "str_ascii_iterator" (.inl rfl)) ⟨_, Heap.get?_push_size _ rfl, rfl, rfl⟩ q)
end
section
variable {K : PySem.W.Frag} {mg : Str → Option Value} {W : Am K} {k : Bool} {G : Gr} {B H : Hp} {σ : L2.St} {e : Env}
theorem news_refl : News' B H B := fun a h => .inl h
theorem rep_news {B' H' : Hp} : Same H' H' := Same.refl _
theorem itl_ok {a : Addr} {xs : List V} {ds : List D} (h : SqL K B a xs) (r : Reps K B xs ds) : ItOk K B (Itl K a) ds := fun i B' H' s1 s2 => by
  have hB : SqL K H' a xs := same_sqL (s1.trans s2) h
  refine ⟨fun d hd => ?_, fun hd => ?_⟩
  · obtain ⟨x, hx, rx⟩ := r.get hd
    refine ⟨⟨xs, x, hB, hx⟩, fun y H2 hy => ?_⟩
    obtain ⟨e1, e2⟩ := hy
    subst e1
    have q := e2 xs hB
    rw [hx] at q
    cases q
    exact ⟨B', Same.refl _, s2, Same.refl _, fun b hb => .inl hb, rx.mono s1⟩
  · exact ⟨xs, hB, by rw [r.length]; exact List.getElem?_eq_none_iff.mp hd⟩
theorem itt_ok {a : Addr} {xs : List V} {ds : List D} (h : SqT K B a xs) (r : Reps K B xs ds) : ItOk K B (Itt K a) ds := fun i B' H' s1 s2 => by
  have hB : SqT K H' a xs := same_sqT (s1.trans s2) h
  refine ⟨fun d hd => ?_, fun hd => ?_⟩
  · obtain ⟨x, hx, rx⟩ := r.get hd
    refine ⟨⟨xs, x, hB, hx⟩, fun y H2 hy => ?_⟩
    obtain ⟨e1, e2⟩ := hy
    subst e1
    have q := e2 xs hB
    rw [hx] at q
    cases q
    exact ⟨B', Same.refl _, s2, Same.refl _, fun b hb => .inl hb, rx.mono s1⟩
  · exact ⟨xs, hB, by rw [r.length]; exact List.getElem?_eq_none_iff.mp hd⟩
theorem its_ok {z : Str} : ItOk K B (Its z) (z.cps.toList.map fun c => .str ⟨#[c]⟩) := fun i B' H' s1 s2 => by
  refine ⟨fun d hd => ?_, fun hd => ?_⟩
  · rw [List.getElem?_map] at hd
    cases w : z.cps.toList[i]? with
    | none => rw [w] at hd; cases hd
    | some c =>
      rw [w] at hd
      cases hd
      have hl : i < z.cps.size := by
        have := (List.getElem?_eq_some_iff.mp w).1
        simpa using this
      refine ⟨hl, fun y H2 hy => ?_⟩
      obtain ⟨e1, c', hc, e2⟩ := hy
      subst e1 e2
      have w' : z.cps[i]? = some c := by simpa using w
      rw [w'] at hc
      cases hc
      exact ⟨B', Same.refl _, s2, Same.refl _, fun b hb => .inl hb, .str _⟩
  · rw [List.getElem?_map] at hd
    cases w : z.cps.toList[i]? with
    | none =>
      have := List.getElem?_eq_none_iff.mp w
      show z.cps.size ≤ i
      simpa using this
    | some c => rw [w] at hd; cases hd
theorem ri_seq {t : TE} {m : ME} (h : RdE K mg W t m) : RdI K mg W (iSeq K t) (vSeqI m) where
  run := fun G hG B H σ e Q S q => by
    refine h.run G hG B H σ e _ S (Po.bind q fun d e1 v B1 H1 S1 s1 r1 h1 => ?_)
    obtain ⟨ds, hd, h2⟩ := h1.of
    cases d with
    | lst xs =>
      cases hd
      cases r1 with
      | lst q1 q2 => exact .inl ⟨_, rfl, ⟨_, same_sqL S1.sub q1⟩, Po.here h2 S1 (itl_ok q1 q2)⟩
    | tup xs =>
      cases hd
      cases r1 with
      | tup q1 q2 => exact .inr (.inl ⟨_, rfl, ⟨_, same_sqT S1.sub q1⟩, Po.here h2 S1 (itt_ok q1 q2)⟩)
    | str z =>
      cases hd
      cases r1
      exact .inr (.inr ⟨_, rfl, Po.here h2 S1 its_ok⟩)
    | _ => cases hd
theorem itr_ok {lo : Int} {n : Nat} : ItOk K B (Itr lo n) ((List.range n).map fun (i : Nat) => .int (lo + (i : Int))) := fun i B' H' s1 s2 => by
  refine ⟨fun d hd => ?_, fun hd => ?_⟩
  · rw [List.getElem?_map] at hd
    cases w : (List.range n)[i]? with
    | none => rw [w] at hd; cases hd
    | some c =>
      rw [w] at hd
      cases hd
      have hl : i < n := by
        have := (List.getElem?_eq_some_iff.mp w).1
        simpa using this
      have hc : c = i := by
        have := (List.getElem?_eq_some_iff.mp w).2
        simpa using this.symm
      subst hc
      refine ⟨hl, fun y H2 hy => ?_⟩
      obtain ⟨e1, e2⟩ := hy
      subst e1 e2
      exact ⟨B', Same.refl _, s2, Same.refl _, fun b hb => .inl hb, .int _⟩
  · rw [List.getElem?_map] at hd
    cases w : (List.range n)[i]? with
    | none =>
      have := List.getElem?_eq_none_iff.mp w
      show n ≤ i
      simpa using this
    | some c => rw [w] at hd; cases hd
theorem ri_rng1 {t : TA} {m : MA} (h : RdA K mg W t m) : RdI K mg W (iRng1 t) (fun e => (m e).bind fun ds e1 => match ds with
    | [_] => .of (rngD ds) e1
    | _ => .bot) where
  run := fun G hG B H σ e Q S q => by
    refine h.run G hG B H σ e _ S (Po.bind q fun d e1 v B1 H1 S1 s1 r1 h1 => ?_)
    cases d with
    | nil => exact h1.elim
    | cons x xs =>
      cases xs with
      | cons _ _ => exact h1.elim
      | nil =>
        obtain ⟨ds, hd, h2⟩ := h1.of
        cases r1 with
        | cons r0 rr =>
          cases rr
          cases x with
          | int j =>
            cases r0
            unfold rngD at hd
            by_cases z : -(2 ^ 62) ≤ j ∧ j < 2 ^ 62
            · simp only [z, and_self, if_true] at hd
              cases hd
              exact ⟨j, rfl, z.1, z.2, Po.here h2 S1 itr_ok⟩
            · have hd : (if -(2 ^ 62) ≤ j ∧ j < 2 ^ 62 then some ((List.range j.toNat).map fun (i : Nat) => D.int (0 + (i : Int))) else none) = some ds := hd
              rw [if_neg z] at hd
              cases hd
          | _ => cases hd
theorem ri_rng2 {t : TA} {m : MA} (h : RdA K mg W t m) : RdI K mg W (iRng2 t) (fun e => (m e).bind fun ds e1 => match ds with
    | [_, _] => .of (rngD ds) e1
    | _ => .bot) where
  run := fun G hG B H σ e Q S q => by
    refine h.run G hG B H σ e _ S (Po.bind q fun d e1 v B1 H1 S1 s1 r1 h1 => ?_)
    cases d with
    | nil => exact h1.elim
    | cons x xs =>
      cases xs with
      | nil => exact h1.elim
      | cons y ys =>
        cases ys with
        | cons _ _ => exact h1.elim
        | nil =>
          obtain ⟨ds, hd, h2⟩ := h1.of
          cases r1 with
          | cons r0 rr =>
            cases rr with
            | cons r2 rr =>
              cases rr
              cases x with
              | int i =>
                cases y with
                | int j =>
                  cases r0
                  cases r2
                  have hd : (if -(2 ^ 62) ≤ i ∧ i < 2 ^ 62 ∧ -(2 ^ 62) ≤ j ∧ j < 2 ^ 62 then some ((List.range (j - i).toNat).map fun (n : Nat) => D.int (i + (n : Int))) else none) = some ds := hd
                  by_cases z : -(2 ^ 62) ≤ i ∧ i < 2 ^ 62 ∧ -(2 ^ 62) ≤ j ∧ j < 2 ^ 62
                  · rw [if_pos z] at hd
                    cases hd
                    exact ⟨i, j, rfl, z, Po.here h2 S1 itr_ok⟩
                  · rw [if_neg z] at hd
                    cases hd
                | _ => cases hd
              | _ => cases hd
theorem ite_ok {a : Addr} {xs : List V} {ds : List D} (h : SqL K B a xs) (r : Reps K B xs ds) : ItOk K B (Ite K a) (ds.zipIdx.map fun p => .tup [.int ((p.2 : Nat) : Int), p.1]) := fun i B' H' s1 s2 => by
  have hB : SqL K H' a xs := same_sqL (s1.trans s2) h
  refine ⟨fun d hd => ?_, fun hd => ?_⟩
  · rw [List.getElem?_map, List.getElem?_zipIdx] at hd
    cases w : ds[i]? with
    | none => rw [w] at hd; cases hd
    | some c =>
      rw [w] at hd
      have hd : some (D.tup [.int (((0 + i : Nat)) : Int), c]) = some d := hd
      cases hd
      obtain ⟨x, hx, rx⟩ := r.get w
      refine ⟨⟨xs, x, hB, hx⟩, fun y H2 hy => ?_⟩
      obtain ⟨T, x', e1, hT, e2, e3⟩ := hy
      subst e1 e2
      have q := e3 xs hB
      rw [hx] at q
      cases q
      have bT : B' T = none := same_none s2 hT
      refine ⟨upd B' T (.tup [.int (i : Nat), x]), same_upd' bT, same_upd2 s2, same_upd' hT, fun b hb => ?_, ?_⟩
      · by_cases z : b = T
        · exact .inr (z ▸ hT)
        · rw [upd_ne z] at hb; exact .inl hb
      · refine .tup (SqT.of upd_same) (.cons ?_ (.cons ((rx.mono s1).mono (same_upd' bT)) .nil))
        rw [Nat.zero_add]
        exact .int _
  · rw [List.getElem?_map, List.getElem?_zipIdx] at hd
    cases w : ds[i]? with
    | none => exact ⟨xs, hB, by rw [r.length]; exact List.getElem?_eq_none_iff.mp w⟩
    | some c => rw [w] at hd; cases hd
theorem ri_enum {t : TA} {m : MA} (h : RdA K mg W t m) : RdI K mg W (iEnum K t) (vEnum m) where
  run := fun G hG B H σ e Q S q => by
    refine h.run G hG B H σ e _ S (Po.bind q fun d e1 v B1 H1 S1 s1 r1 h1 => ?_)
    obtain ⟨ds, hd, h2⟩ := h1.of
    unfold enumD at hd
    split at hd
    · cases hd
      cases r1 with
      | cons r0 rr =>
        cases rr
        cases r0 with
        | lst q1 q2 => exact ⟨_, _, rfl, same_sqL S1.sub q1, Po.here h2 S1 (ite_ok q1 q2)⟩
    · cases hd

/-! comprehensions -/
theorem OwnF.new (S : Sto K G B H σ e) {a : Addr} (h : OwnF σ e a) : G.H a = none ∧ B a = none := by
  obtain ⟨i, b, ds, h1, h2⟩ := h
  obtain ⟨v, hv, ok⟩ := S.sl i _ h1
  rw [h2] at hv
  cases hv
  cases ok with
  | ow hb hg hh hr => exact ⟨hg, hb⟩
theorem Sto.reb (S : Sto K G B H σ e) : Sto K (VL.reb G B H σ e) B H σ e where
  len := S.len
  sl := fun i s h => by
    obtain ⟨v, hv, ok⟩ := S.sl i s h
    refine ⟨v, hv, ?_⟩
    cases ok with
    | no => exact .no
    | tk => exact .tk
    | sh r => exact .sh r
    | @ow b p vs ds hb hg hh hr =>
      refine .ow hb ?_ hh hr
      show (VL.reb G B H σ e).H p = none
      exact if_pos ⟨i, b, ds, h, hv⟩
  dis := S.dis
  sub := S.sub
  b0 := Same.refl B
  keep := fun a o h1 _ => by
    by_cases q : OwnF σ e a
    · have z : (VL.reb G B H σ e).H a = none := if_pos q
      rw [z] at h1; cases h1
    · have z : (VL.reb G B H σ e).H a = H a := if_neg q
      rw [z] at h1; exact h1
  dom := fun a h1 => by
    by_cases q : OwnF σ e a
    · have z : (VL.reb G B H σ e).H a = none := if_pos q
      rw [z] at h1; exact absurd rfl h1
    · have z : (VL.reb G B H σ e).H a = H a := if_neg q
      rw [z] at h1; exact h1
  new := fun a h => .inl h
  iom := fun a h => by
    have h : a ∈ G.io := h
    have q : ¬ OwnF σ e a := fun q => S.iom a h (q.new S).1
    have z : (VL.reb G B H σ e).H a = H a := if_neg q
    rw [z]
    exact S.dom a (S.iom a h)
theorem Sto.unreb {B' H' : Hp} {σ' : L2.St} {e' : Env} (S : Sto K G B H σ e) (S' : Sto K (VL.reb G B H σ e) B' H' σ' e') : Sto K G B' H' σ' e' where
  len := S'.len
  sl := fun i s h => by
    obtain ⟨v, hv, ok⟩ := S'.sl i s h
    refine ⟨v, hv, ?_⟩
    cases ok with
    | no => exact .no
    | tk => exact .tk
    | sh r => exact .sh r
    | @ow b p vs ds hb hg hh hr =>
      refine .ow hb ?_ hh hr
      · have hg : (VL.reb G B H σ e).H p = none := hg
        show G.H p = none
        by_cases q : OwnF σ e p
        · exact (q.new S).1
        · have z : (VL.reb G B H σ e).H p = H p := if_neg q
          rw [z] at hg
          exact S.fresh hg
  dis := S'.dis
  sub := S'.sub
  b0 := S.b0.trans S'.b0
  keep := fun a o h1 h2 => by
    have h3 := S.keep a o h1 h2
    have q : ¬ OwnF σ e a := fun q => by rw [(q.new S).1] at h1; cases h1
    have z : (VL.reb G B H σ e).H a = H a := if_neg q
    exact S'.keep a o (z.trans h3) h2
  dom := fun a h1 => by
    have h3 := S.dom a h1
    have q : ¬ OwnF σ e a := fun q => h1 (q.new S).1
    have z : (VL.reb G B H σ e).H a = H a := if_neg q
    exact S'.dom a (by rw [z]; exact h3)
  new := fun a h => by
    rcases S'.new a h with w | w
    · exact S.new a w
    · right
      by_cases q : OwnF σ e a
      · exact (q.new S).1
      · have z : (VL.reb G B H σ e).H a = H a := if_neg q
        rw [z] at w
        exact S.fresh w
  iom := S.iom
theorem wipeE_get {e : Env} {i : Nat} : ∀ {own : List Nat}, (i ∉ own → (wipeE e own)[i]? = e[i]?) ∧ (∀ s, i ∈ own → (wipeE e own)[i]? = some s → s = .no) ∧ (wipeE e own).length = e.length
  | [] => ⟨fun _ => rfl, fun _ h => by simp at h, rfl⟩
  | v :: vs => by
    obtain ⟨h1, h2, h3⟩ := wipeE_get (e := e) (i := i) (own := vs)
    refine ⟨fun h => ?_, fun s h hs => ?_, ?_⟩
    · rw [List.mem_cons, not_or] at h
      show ((wipeE e vs).set v .no)[i]? = e[i]?
      rw [List.getElem?_set_ne (Ne.symm h.1)]
      exact h1 h.2
    · have hs : ((wipeE e vs).set v .no)[i]? = some s := hs
      by_cases z : v = i
      · subst z
        have hl := (List.getElem?_eq_some_iff.mp hs).1
        rw [List.length_set] at hl
        rw [List.getElem?_set_self hl] at hs
        exact (Option.some.inj hs).symm
      · rw [List.getElem?_set_ne z] at hs
        rcases List.mem_cons.mp h with q | q
        · exact absurd q.symm z
        · exact h2 s q hs
    · show ((wipeE e vs).set v .no).length = e.length
      rw [List.length_set]; exact h3
theorem Sto.chg {own : List Nat} {σ' : L2.St} (S : Sto K G B H σ e) (t : Tch own σ σ') : Sto K G B H σ' (wipeE e own) where
  len := by rw [(wipeE_get (i := 0)).2.2, t.1]; exact S.len
  sl := fun i s h => by
    by_cases q : i ∈ own
    · have z := wipeE_get.2.1 s q h
      subst z
      have hl := (List.getElem?_eq_some_iff.mp h).1
      rw [(wipeE_get (i := 0)).2.2] at hl
      have hl' : i < σ'.length := by rw [t.1, S.len]; exact hl
      exact ⟨σ'[i], List.getElem?_eq_getElem hl', .no⟩
    · rw [wipeE_get.1 q] at h
      rw [t.2 i q]
      exact S.sl i s h
  dis := fun i j p b b' ds ds' h1 h2 h3 h4 => by
    by_cases qi : i ∈ own
    · have z := wipeE_get.2.1 _ qi h1; cases z
    · by_cases qj : j ∈ own
      · have z := wipeE_get.2.1 _ qj h2; cases z
      · rw [wipeE_get.1 qi] at h1
        rw [wipeE_get.1 qj] at h2
        rw [t.2 i qi] at h3
        rw [t.2 j qj] at h4
        exact S.dis i j p b b' ds ds' h1 h2 h3 h4
  sub := S.sub
  b0 := S.b0
  keep := S.keep
  dom := S.dom
  new := S.new
  iom := S.iom
theorem tch_wipe (σ : L2.St) (own : List Nat) : Tch own σ (wipe σ own) := ⟨wipe_length σ own, fun i h => wipe_out h⟩
theorem Tch.symm {own : List Nat} {σ σ' : L2.St} (t : Tch own σ σ') : Tch own σ' σ := ⟨t.1.symm, fun i h => (t.2 i h).symm⟩
theorem wipe_in {σ : L2.St} {i : Nat} : ∀ {vs : List Nat}, i ∈ vs → (wipe σ vs)[i]? = if i < σ.length then some none else none
  | [], h => by simp at h
  | v :: vs, h => by
    show ((wipe σ vs).set v none)[i]? = _
    by_cases z : v = i
    · subst z
      by_cases hl : v < σ.length
      · rw [List.getElem?_set_self (by rw [wipe_length]; exact hl), if_pos hl]
      · rw [List.getElem?_eq_none (by rw [List.length_set, wipe_length]; omega), if_neg hl]
    · rw [List.getElem?_set_ne z]
      rcases List.mem_cons.mp h with q | q
      · exact absurd q.symm z
      · exact wipe_in q
theorem wipe_of_tch {own : List Nat} {σ σ' : L2.St} (t : Tch own (wipe σ own) σ') : wipe σ' own = wipe σ own := by
  have hl : σ'.length = σ.length := t.1.trans (wipe_length σ own)
  refine List.ext_getElem? fun i => ?_
  by_cases q : i ∈ own
  · rw [wipe_in q, wipe_in q, hl]
  · rw [wipe_out q, t.2 i q]
abbrev Wn : WX := fun _ _ _ _ => False
/-- the accumulator of a comprehension lies apart -/
theorem rd_lc {wi : TI} {mi : MA} {g : TG} {gm : D → Env → Option Env} {tt : TT} {mt : MB} {te : TE} {me : ME} {own : List Nat} (hi : RdI K mg W wi mi) (hg : RdG K own g gm) (ht : RdB K mg (W.to Wn) tt mt) (he : RdE K mg (W.to Wn) te me) :
    RdF K mg W (tLc wi g tt te own) (vLc mi gm mt me own) where
  run := fun G hG B H σ e Q S q => by
    refine hi.run G hG B H σ e _ S (Po.bind q fun ds e1 J B1 H1 S1 s1 it h1 => fun D' hD => ?_)
    have S1w : Sto K G B1 H1 (wipe σ own) (wipeE e1 own) := S1.chg (tch_wipe σ own)
    refine ⟨fun i m H' => m = ds.length - i ∧ ∃ e' B' acc vs, Sto K G B' H' (wipe σ own) e' ∧ Same B1 B' ∧ H' D' = some (.lst vs) ∧ B' D' = none ∧ ¬ Owned (wipe σ own) e' D' ∧ Reps K B' vs acc ∧ Po K mg W (rpF K) G σ B1 Q (lcL gm mt me own (ds.drop i) acc e'),
      ⟨_, rfl, wipeE e1 own, B1, [], [], S1w.loose hD, Same.refl B1, upd_same, same_none S1.sub hD, not_owned_new S1w hD, .nil, h1⟩, ?_⟩
    rintro i m H2 ⟨rfl, e2, B2, acc, vs, S2, s2, hD2, bD2, nD2, ra, h2⟩
    have gD : G.H D' = none := S1.fresh hD
    obtain ⟨hgo, hstop⟩ := it i B2 H2 s2 S2.sub
    cases z : ds[i]? with
    | none =>
      have hl : ds.length ≤ i := List.getElem?_eq_none_iff.mp z
      rw [List.drop_eq_nil_of_le hl] at h2
      have S3 : Sto K G B2 H2 σ (wipeE e2 own) := S2.chg (tch_wipe σ own).symm
      refine .inl ⟨hstop z, h2 (.ref D') B2 H2 S3 s2 ⟨D', vs, rfl, hD2, bD2, gD, fun ⟨j, b, es, q1, q2⟩ => ?_, ra⟩⟩
      by_cases qj : j ∈ own
      · have w := wipeE_get.2.1 _ qj q1; cases w
      · rw [wipeE_get.1 qj] at q1
        exact nD2 ⟨j, b, es, q1, by rw [wipe_out qj]; exact q2⟩
    | some d =>
      have hl : i < ds.length := (List.getElem?_eq_some_iff.mp z).1
      have hd : ds.drop i = d :: ds.drop (i + 1) := by
        rw [List.drop_eq_getElem_cons hl]
        have : ds[i] = d := (List.getElem?_eq_some_iff.mp z).2
        rw [this]
      rw [hd] at h2
      obtain ⟨go, yl⟩ := hgo d z
      refine .inr ⟨go, fun H' => ∃ e' B' acc vs, Sto K G B' H' (wipe σ own) e' ∧ Same B1 B' ∧ H' D' = some (.lst vs) ∧ B' D' = none ∧ ¬ Owned (wipe σ own) e' D' ∧ Reps K B' vs acc ∧ Po K mg W (rpF K) G σ B1 Q (lcL gm mt me own (ds.drop (i + 1)) acc e'),
        fun H' ⟨e', B', acc', vs', q1⟩ => ⟨ds.length - (i + 1), by omega, rfl, e', B', acc', vs', q1⟩, fun x H3 hy => ?_⟩
      obtain ⟨B3, t1, t2, t3, t4, rx⟩ := yl x H3 hy
      have S3 : Sto K G B3 H3 (wipe σ own) e2 := S2.call t3 t1 t2 t4
      have s13 : Same B1 B3 := s2.trans t1
      have hD3 : H3 D' = some (.lst vs) := t3 _ _ hD2
      have bD3 : B3 D' = none := by
        cases w : B3 D' with
        | none => rfl
        | some o =>
          rcases t4 D' (by rw [w]; simp) with u | u
          · exact absurd bD2 u
          · rw [hD2] at u; cases u
      have nF : ¬ OwnF (wipe σ own) e2 D' := fun ⟨j, b, es, q1, q2⟩ => nD2 ⟨j, b, es, q1, q2⟩
      have rebD : (reb G B3 H3 (wipe σ own) e2).H D' = some (.lst vs) := (if_neg nF).trans hD3
      unfold lcL at h2
      cases w : gm d e2 with
      | none => simp only [w] at h2; exact h2.elim
      | some e3 =>
        simp only [w] at h2
        refine hg _ B3 H3 (wipe σ own) e2 e3 x d _ S3.reb rx w fun σ4 S4 tc => ⟨wipe_of_tch tc, ?_⟩
        -- what stays apart
        have nio : D' ∉ G.io := fun q => S1.iom D' q gD
        have apart : ∀ {B5 H5 : Hp} {e5 : Env}, Sto K (reb G B3 H3 (wipe σ own) e2) B5 H5 σ4 e5 → H5 D' = some (.lst vs) ∧ B5 D' = none ∧ ¬ Owned (wipe σ own) (wipeE e5 own) D' := fun {B5 H5 e5} S5 => by
          refine ⟨S5.keep D' _ rebD nio, ?_, fun ⟨j, b, es, q1, q2⟩ => ?_⟩
          · cases u : B5 D' with
            | none => rfl
            | some o =>
              rcases S5.new D' (by rw [u]; simp) with v1 | v1
              · exact absurd bD3 v1
              · rw [rebD] at v1; cases v1
          · by_cases qj : j ∈ own
            · have u := wipeE_get.2.1 _ qj q1; cases u
            · rw [wipeE_get.1 qj] at q1
              rw [← tc.2 j qj] at q2
              obtain ⟨v1, e1', ok⟩ := S5.sl j _ q1
              rw [q2] at e1'
              cases e1'
              cases ok with
              | ow hb hg hh hr =>
                have hg : (reb G B3 H3 (wipe σ own) e2).H D' = none := hg
                rw [rebD] at hg; cases hg
        have home : ∀ {B5 H5 : Hp} {e5 : Env}, Sto K (reb G B3 H3 (wipe σ own) e2) B5 H5 σ4 e5 → Sto K G B5 H5 (wipe σ own) (wipeE e5 own) := fun {B5 H5 e5} S5 => (S3.unreb S5).chg tc.symm
        refine ht.run _ (W.reb G B3 H3 (wipe σ own) e2 hG S3) B3 H3 σ4 e3 _ S4 ?_
        cases u : mt e3 with
        | err x e4 => simp only [u, Res.bindN] at h2; exact h2.elim
        | bot => simp only [u, Res.bindN] at h2; exact h2.elim
        | ok kb e4 =>
          simp only [u, Res.bindN] at h2
          intro kb' B4 H4 S4' s4 rk
          have rk : kb' = kb := rk
          subst rk
          cases kb' with
          | false =>
            rw [if_neg Bool.false_ne_true] at h2 ⊢
            obtain ⟨a1, a2, a3⟩ := apart S4'
            exact ⟨wipeE e4 own, B4, acc, vs, home S4', s13.trans s4, a1, a2, a3, ra.mono (t1.trans s4), h2⟩
          | true =>
            rw [if_pos rfl] at h2 ⊢
            refine he.run _ (W.reb G B3 H3 (wipe σ own) e2 hG S3) B4 H4 σ4 e4 _ S4' ?_
            cases u2 : me e4 with
            | err x e4 => simp only [u2] at h2; exact h2.elim
            | bot => simp only [u2] at h2; exact h2.elim
            | ok xd e5 =>
              simp only [u2] at h2
              intro y B5 H5 S5 s5 ry
              obtain ⟨a1, a2, a3⟩ := apart S5
              have hl : acc.length < vmax := by
                by_cases hl : acc.length < vmax
                · exact hl
                · rw [if_neg hl] at h2; exact h2.elim
              rw [if_pos hl] at h2
              have ra5 : Reps K B5 vs acc := ra.mono ((t1.trans s4).trans s5)
              refine ⟨vs, a1, by rw [ra.length]; exact Nat.lt_of_lt_of_le hl vok, wipeE e5 own, B5, acc ++ [xd], vs ++ [y], (home S5).poke a2 gD fun j b es q1 q2 => a3 ⟨j, b, es, q1, q2⟩, s13.trans (s4.trans s5), upd_same, a2, a3, ra5.append (.cons ry .nil), h2⟩
end
end VL

/-! VL8: the two together: a piece of the text and its meaning; a def by its body; raise. -/
namespace VL
open PySem PySem.Spec PyProof.Rows L2


variable {ι : Type}
def VE (K : PySem.W.Frag) (mg : Str → Option Value) (X : ι → Cx) (W : Am K) (e : Expr) (m : ME) : Prop := ∃ t, (∀ i, PE (X i) e t) ∧ RdE K mg W t m
def VF (K : PySem.W.Frag) (mg : Str → Option Value) (X : ι → Cx) (W : Am K) (e : Expr) (m : MA) : Prop := ∃ t, (∀ i, PE (X i) e t) ∧ RdF K mg W t m
def VA (K : PySem.W.Frag) (mg : Str → Option Value) (X : ι → Cx) (W : Am K) (es : List Expr) (m : MA) : Prop := ∃ t, (∀ i, PA (X i) es t) ∧ RdA K mg W t m
def VT (K : PySem.W.Frag) (mg : Str → Option Value) (X : ι → Cx) (W : Am K) (e : Expr) (m : MB) : Prop := ∃ t, (∀ i, PT (X i) e t) ∧ RdB K mg W t m
def VTs (K : PySem.W.Frag) (mg : Str → Option Value) (X : ι → Cx) (W : Am K) (e : List Expr) (m : MB) : Prop := ∃ t, (∀ i, PTs (X i) e t) ∧ RdB K mg W t m
def VW (K : PySem.W.Frag) (mg : Str → Option Value) (X : ι → Cx) (W : Am K) (e : Expr) (m : MB) : Prop := ∃ t, (∀ i, PW (X i) e t) ∧ RdB K mg W t m
def VP (K : PySem.W.Frag) (mg : Str → Option Value) (X : ι → Cx) (W : Am K) (e : Option Expr) (m : MO) : Prop := ∃ t, (∀ i, PO (X i) e t) ∧ RdX K mg W (fun _ _ _ _ _ b a => b = a) t m
def VG (K : PySem.W.Frag) (X : ι → Cx) (own : List Nat) (e : Expr) (m : D → Env → Option Env) : Prop := ∃ t, (∀ i, PG (X i) e t) ∧ RdG K own t m
def VGs (K : PySem.W.Frag) (X : ι → Cx) (own : List Nat) (n : Nat) (e : List Expr) (m : List D → Env → Option Env) : Prop := ∃ t, (∀ i, PGs (X i) e t) ∧ RdGs K own t m ∧ ∀ ds e e', m ds e = some e' → ds.length = n
def VI (K : PySem.W.Frag) (mg : Str → Option Value) (X : ι → Cx) (W : Am K) (tg it : Expr) (m : MA) : Prop := ∃ t, (∀ i, PI (X i) tg it t) ∧ RdI K mg W t m
def VS (X : Cx) (W : Am X.K) (k : Bool) (s : Stmt) (m : MS) : Prop := ∃ t, PS X s t ∧ RdS X.K X.mg W k t m
def VSs (X : Cx) (W : Am X.K) (k : Bool) (s : List Stmt) (m : MS) : Prop := ∃ t, PSs X s t ∧ RdS X.K X.mg W k t m
/-- one context -/
abbrev at1 (X : Cx) : Unit → Cx := fun _ => X
/-- the contexts of a block -/
abbrev Bk : Type := Shared × Hp × Addr × List (Str × Addr) × List Addr
abbrev blkF (X : ι → Cx) (scope : Scope) : ι × Bk → Cx := fun p => (X p.1).blk p.2.1 p.2.2.1 scope (compEnvC scope p.2.2.2.2.1 p.2.2.2.1 (X p.1).env) p.2.2.2.2.2

/-- what the contexts have in common -/
def IsX (X : ι → Cx) (P : Program) (w : World) (K : PySem.W.Frag) (mg : Str → Option Value) (base : Heap) : Prop := ∀ i, (X i).prog = P ∧ (X i).w = w ∧ (X i).K = K ∧ (X i).mg = mg ∧ (X i).base = base
theorem call_at {Y : Cx} {P : Program} {w : World} {K : PySem.W.Frag} {mg : Str → Option Value} {base : Heap} {k : Nat} {f : Addr} {fd : FuncData} {ps : List Str} {sp : Sp} {x : Str} {p pos : Pos} {e : Expr} {es : List Expr} {t : TA} {E : _ → XK} (F : FnOk P w K mg base (L2.CX P w) k f fd ps sp) (h : Y.prog = P ∧ Y.w = w ∧ Y.K = K ∧ Y.mg = mg ∧ Y.base = base) (hr : Room k Y.A) (hg : Gl Y x) (hm : mg x = some (.ref f)) (hk : PySem.W.keepIn K (.ref f) = true) (hb : Binds K fd ps []) (hx : ∀ σ, PassesAt (L2.CX Y.prog Y.w) Y σ (E σ))
    (ha : PA Y (e :: es) t) (hdb : (x == ("__debug__" : Str)) = false) (he : starEach (e :: es) Y.env = (false, eval e Y.env) :: starEach es Y.env) (hpl : (backTo pos (starEach es Y.env)).any (·.1) = false) : PE Y (.Call (.Name x p) (e :: es) [] pos) (tCallS sp E t) := by
  obtain ⟨rfl, rfl, rfl, rfl, rfl⟩ := h
  exact pe_callS F hr hg hm hk hb hx ha hdb he hpl
section
variable {K : PySem.W.Frag} {mg : Str → Option Value} {X : ι → Cx} {W : Am K} {pos : Pos} {a b c e o i : Expr} {es : List Expr} {ma mb mc m mi : ME} {ms : MA} {k : Bool}
/-! ### expressions -/
theorem ve_var (i : Nat) {x : Str} (hN : ∀ j, (X j).N[i]? = some x := by intro _; rfl) (hv : ∀ j, Vis (X j).env.scope x := by intro _; first | exact Or.inl rfl | exact Or.inr (Or.inl rfl) | exact Or.inr (Or.inr rfl)) (hd : (x == ("__debug__" : Str)) = false := by decide)
    (hcd : (x == ("__classdict__" : Str)) = false := by decide) : VE K mg X W (.Name x pos) (vVar i) := ⟨_, fun i => pe_var (hN i) (hv i) hd hcd, rd_var i⟩
theorem vf_own (i : Nat) {x : Str} (hN : ∀ j, (X j).N[i]? = some x := by intro _; rfl) (hv : ∀ j, Vis (X j).env.scope x := by intro _; first | exact Or.inl rfl | exact Or.inr (Or.inl rfl) | exact Or.inr (Or.inr rfl)) (hd : (x == ("__debug__" : Str)) = false := by decide)
    (hcd : (x == ("__classdict__" : Str)) = false := by decide) : VF K mg X W (.Name x pos) (vOwn i) := ⟨_, fun i => pe_var (hN i) (hv i) hd hcd, rd_own i⟩
theorem ve_int {i : Int} {j} : VE K mg X W (.Constant (.int i) j pos) (vC (.int i)) := ⟨_, fun i => pe_int, rd_int i⟩
theorem ve_bl {i : Bool} {j} : VE K mg X W (.Constant (.bool i) j pos) (vC (.bl i)) := ⟨_, fun i => pe_bl, rd_bl i⟩
theorem ve_non {j} : VE K mg X W (.Constant .none j pos) (vC .non) := ⟨_, fun i => pe_non, rd_non⟩
theorem ve_str {x : Str} {j} : VE K mg X W (.Constant (.str x) j pos) (vC (.str x)) := ⟨_, fun i => pe_str, rd_str x⟩
/-- a module's own constant -/
theorem ve_glob {x : Str} {v : V} {u : Value} {d : D} (hm : ∀ j, (X j).mg x = some u) (r : RelV v u) (rd : ∀ B, Rep K B v d) (hg : ∀ j, Gl (X j) x := by intro _; rfl) (hd : (x == ("__debug__" : Str)) = false := by decide) : VE K mg X W (.Name x pos) (vC d) := ⟨_, fun i => pe_glob (hg i) (hm i) r hd, rd_c rd⟩
theorem ve_bin {op : Operator} {f : D → D → Option D} (ho : ∀ j, OpR (X j) (binaryOp op) (rDat K f)) (ha : VE K mg X W a ma) (hb : VE K mg X W b mb) : VE K mg X W (.BinOp a op b pos) (vOp f ma mb) :=
  let ⟨_, p, r⟩ := ha; let ⟨_, p', r'⟩ := hb; ⟨_, fun i => pe_op (ho i) (p i) (p' i), rd_op op2_dat r r'⟩
theorem ve_un {op : UnaryOp} {f : D → Option D} (ho : ∀ j, UnR (X j) (unaryOp op) (rDat1 K f)) (ha : VE K mg X W a ma) : VE K mg X W (.UnaryOp op a pos) (vUn f ma) :=
  let ⟨_, p, r⟩ := ha; ⟨_, fun i => pe_un (ho i) (p i), rd_un op1_dat r⟩
theorem ve_cmp {op : CmpOp} {f : D → D → Option D} (ho : ∀ j, OpR (X j) (compareOp op) (rDat K f)) (ha : VE K mg X W a ma) (hb : VE K mg X W b mb) (hm : behindInMarks op b = false) : VE K mg X W (.Compare a [op] [b] pos) (vOp f ma mb) :=
  let ⟨_, p, r⟩ := ha; let ⟨_, p', r'⟩ := hb; ⟨_, fun i => pe_cmpR (ho i) (p i) (p' i) hm, rd_op op2_dat r r'⟩
theorem vt_cmp {op : CmpOp} {f : D → D → Option D} (ho : ∀ j, OpR (X j) (compareOp op) (rDat K f)) (ha : VE K mg X W a ma) (hb : VE K mg X W b mb) (hm : behindInMarks op b = false) : VT K mg X W (.Compare a [op] [b] pos) (vTest (vOp f ma mb)) :=
  let ⟨_, p, r⟩ := ha; let ⟨_, p', r'⟩ := hb; ⟨_, fun i => pt_cmpR (ho i) (p i) (p' i) hm, rd_test (rd_op op2_dat r r')⟩
theorem ve_chain {op op' : CmpOp} {f f' : D → D → Option D} (ho : ∀ j, OpR (X j) (compareOp op) (rDat K f)) (ho' : ∀ j, OpR (X j) (compareOp op') (rDat K f')) (hB : ∀ x y z, f x y = some z → ∃ k, z = .bl k) (ha : VE K mg X W a ma) (hb : VE K mg X W b mb) (hc : VE K mg X W c mc)
    (hm : lastMarks [op, op'] [b, c] = false := by with_unfolding_all rfl) : VE K mg X W (.Compare a [op, op'] [b, c] pos) (vChain f f' ma mb mc) :=
  let ⟨_, p, r⟩ := ha; let ⟨_, p', r'⟩ := hb; let ⟨_, p2, r2⟩ := hc; ⟨_, fun i => pe_chain (ho i) (ho' i) (p i) (p' i) (p2 i) hm, rd_chain op2_dat op2_dat hB r r' r2⟩
theorem vt_chain {op op' : CmpOp} {f f' : D → D → Option D} (ho : ∀ j, OpR (X j) (compareOp op) (rDat K f)) (ho' : ∀ j, OpR (X j) (compareOp op') (rDat K f')) (hB : ∀ x y z, f x y = some z → ∃ k, z = .bl k) (ha : VE K mg X W a ma) (hb : VE K mg X W b mb) (hc : VE K mg X W c mc)
    (hm : lastMarks [op, op'] [b, c] = false := by with_unfolding_all rfl) : VT K mg X W (.Compare a [op, op'] [b, c] pos) (vTest (vChain f f' ma mb mc)) :=
  let ⟨_, p, r⟩ := ha; let ⟨_, p', r'⟩ := hb; let ⟨_, p2, r2⟩ := hc; ⟨_, fun i => pt_chain (ho i) (ho' i) (p i) (p' i) (p2 i) hm, rd_test (rd_chain op2_dat op2_dat hB r r' r2)⟩
theorem lt_bl : ∀ x y z, opLt x y = some z → ∃ k, z = .bl k := fun x y z h => by unfold opLt at h; split at h <;> cases h; exact ⟨_, rfl⟩
theorem le_bl : ∀ x y z, opLe x y = some z → ∃ k, z = .bl k := fun x y z h => by unfold opLe at h; split at h <;> cases h; exact ⟨_, rfl⟩
theorem gt_bl : ∀ x y z, opGt x y = some z → ∃ k, z = .bl k := fun x y z h => by unfold opGt at h; split at h <;> cases h; exact ⟨_, rfl⟩
theorem ge_bl : ∀ x y z, opGe x y = some z → ∃ k, z = .bl k := fun x y z h => by unfold opGe at h; split at h <;> cases h; exact ⟨_, rfl⟩
/-- any expression as a test -/
theorem vt_val (ha : VE K mg X W a ma) (he : ∀ j whole, isTrue a (X j).env whole = (do let v ← whole; standAt a.pos; holding [v] (truthy v)) := by intro _ _; rfl) : VT K mg X W a (vTest ma) :=
  let ⟨_, p, r⟩ := ha; ⟨_, fun i => pt_val (p i) (he i), rd_tB r⟩
section
variable {ta tb : MB} {rest : List Expr}
theorem vw_and1 (ha : VT K mg X W a ta) : VW K mg X W (.BoolOp .And [a] pos) ta := let ⟨_, p, r⟩ := ha; ⟨_, fun i => pw_and1 (p i), r⟩
theorem vw_or1 (ha : VT K mg X W a ta) : VW K mg X W (.BoolOp .Or [a] pos) ta := let ⟨_, p, r⟩ := ha; ⟨_, fun i => pw_or1 (p i), r⟩
theorem vw_and (ha : VT K mg X W a ta) (hb : VW K mg X W (.BoolOp .And (b :: rest) pos) tb) : VW K mg X W (.BoolOp .And (a :: b :: rest) pos) (vAnd ta tb) := let ⟨_, p, r⟩ := ha; let ⟨_, p', r'⟩ := hb; ⟨_, fun i => pw_and (p i) (p' i), rd_and r r'⟩
theorem vw_or (ha : VT K mg X W a ta) (hb : VW K mg X W (.BoolOp .Or (b :: rest) pos) tb) : VW K mg X W (.BoolOp .Or (a :: b :: rest) pos) (vOr ta tb) := let ⟨_, p, r⟩ := ha; let ⟨_, p', r'⟩ := hb; ⟨_, fun i => pw_or (p i) (p' i), rd_or r r'⟩
theorem vt_w (ha : VW K mg X W a ta) : VT K mg X W a ta := let ⟨_, p, r⟩ := ha; ⟨_, fun i => (p i).pt, r⟩
theorem vt_not (ha : VT K mg X W a ta) : VT K mg X W (.UnaryOp .Not a pos) (vNot ta) := let ⟨_, p, r⟩ := ha; ⟨_, fun i => pt_not (p i), rd_not r⟩
theorem ve_one {op} (ha : VE K mg X W a ma) : VE K mg X W (.BoolOp op [a] pos) ma := let ⟨_, p, r⟩ := ha; ⟨_, fun i => pe_one (p i), r⟩
theorem ve_and (ha : VE K mg X W a ma) (hb : VE K mg X W (.BoolOp .And (b :: rest) pos) mb) : VE K mg X W (.BoolOp .And (a :: b :: rest) pos) (vAndV ma mb) := let ⟨_, p, r⟩ := ha; let ⟨_, p', r'⟩ := hb; ⟨_, fun i => pe_and (p i) (p' i), rd_andV r r'⟩
theorem ve_or (ha : VE K mg X W a ma) (hb : VE K mg X W (.BoolOp .Or (b :: rest) pos) mb) : VE K mg X W (.BoolOp .Or (a :: b :: rest) pos) (vOrV ma mb) := let ⟨_, p, r⟩ := ha; let ⟨_, p', r'⟩ := hb; ⟨_, fun i => pe_or (p i) (p' i), rd_orV r r'⟩
theorem ve_not (ha : VE K mg X W a ma) : VE K mg X W (.UnaryOp .Not a pos) (vNotV ma) := let ⟨_, p, r⟩ := ha; ⟨_, fun i => pe_not (p i), rd_notV r⟩
end
theorem ve_ix (hu : ∀ j, (X j).A.units + 1 < cLine) (ho : VE K mg X W o m) (hi : VE K mg X W i mi) (hs : PlainIx i) (hK : ∀ j, (X j).K = K := by intro _; rfl) : VE K mg X W (.Subscript o i pos) (vOp opIx m mi) := let ⟨_, p, r⟩ := ho; let ⟨_, p', r'⟩ := hi; ⟨_, fun i => pe_ix (hK i ▸ od_ix (hu i) : IxR (X i) (rDat K opIx)) (p i) (p' i) hs, rd_op op2_dat r r'⟩
theorem vp_none : VP K mg X W none vNoPart := ⟨_, fun i => po_none, rd_nopart⟩
theorem vp_some (ha : VE K mg X W a ma) : VP K mg X W (some a) (vPart ma) := let ⟨_, p, r⟩ := ha; ⟨_, fun i => po_some (p i), rd_part r⟩
section
variable {lo hi : Option Expr} {ml mh : MO} {p2 : Pos}
theorem ve_slT (he : VE K mg X W e m) (hl : VP K mg X W lo ml) (hh : VP K mg X W hi mh) (hK : ∀ j, (X j).K = K := by intro _; rfl) : VE K mg X W (.Subscript e (.Slice lo hi none p2) pos) (vSl m ml mh) := let ⟨_, p, r⟩ := he; let ⟨_, p', r'⟩ := hl; let ⟨_, q, s⟩ := hh; ⟨_, fun i => pe_slice (hK i ▸ sl_dat : SlR (X i) (rDatS K)) (p i) (p' i) (q i), rd_slT r r' s⟩
theorem vf_slL (he : VE K mg X W e m) (hl : VP K mg X W lo ml) (hh : VP K mg X W hi mh) (hK : ∀ j, (X j).K = K := by intro _; rfl) : VF K mg X W (.Subscript e (.Slice lo hi none p2) pos) (vSlF m ml mh) := let ⟨_, p, r⟩ := he; let ⟨_, p', r'⟩ := hl; let ⟨_, q, s⟩ := hh; ⟨_, fun i => pe_slice (hK i ▸ sl_list : SlR (X i) (rSlL K)) (p i) (p' i) (q i), rd_slF r r' s⟩
theorem vf_rev {k : Nat} {p1 p2 p3 : Pos} (he : VE K mg X W e m) (hK : ∀ j, (X j).K = K := by intro _; rfl) : VF K mg X W (.Subscript e (.Slice none none (some (.UnaryOp .USub (.Constant (.int 1) k p1) p2)) p3) pos) (vRevF m) := let ⟨_, p, r⟩ := he; ⟨_, fun i => (hK i ▸ pe_revL (p i) : PE (X i) _ (tRevL K _)), rd_revF r⟩
end
theorem va_nil : VA K mg X W [] vNil := ⟨_, fun i => pa_nil, rd_nil⟩
theorem va_cons (ha : VE K mg X W e m) (hr : VA K mg X W es ms) (hs : ∀ j, starEach (e :: es) (X j).env = (false, eval e (X j).env) :: starEach es (X j).env := by intro _; rfl) : VA K mg X W (e :: es) (vCons m ms) := let ⟨_, p, r⟩ := ha; let ⟨_, p', r'⟩ := hr; ⟨_, fun i => pa_cons (p i) (p' i) (hs i), rd_cons r r'⟩
theorem ve_tup {x1} (h : VA K mg X W es ms) : VE K mg X W (.Tuple es x1 pos) (vTupD ms) := let ⟨_, p, r⟩ := h; ⟨_, fun i => pe_tup (p i), rd_tup r⟩
theorem vf_lst (h : VA K mg X W es ms) : VF K mg X W (.List es pos) (vLstD ms) := let ⟨_, p, r⟩ := h; ⟨_, fun i => pe_lst (p i), rd_lst r⟩
theorem ve_of (h : VF K mg X W e ms) : VE K mg X W e (vOf ms) := let ⟨_, p, r⟩ := h; ⟨_, fun i => p i, rd_of r⟩
theorem ve_bor (h : VE K mg X W e m) : VE K mg X W e (vBor m) := let ⟨_, p, r⟩ := h; ⟨_, fun i => p i, rd_bor r⟩
theorem vt_bor {m : MB} (h : VT K mg X W e m) : VT K mg X W e (vBorT m) := let ⟨_, p, r⟩ := h; ⟨_, fun i => p i, rd_borT r⟩
theorem vf_bor (h : VF K mg X W e ms) : VF K mg X W e (vBorF ms) := let ⟨_, p, r⟩ := h; ⟨_, fun i => p i, rd_borF r⟩
/-- calls of defs -/
theorem ve_call {j k : Nat} {f : Addr} {fd : FuncData} {ps : List Str} {fn : List D → FR} {x : Str} {p : Pos} {P : Program} {w : World} {base : Heap} (F : FnOk P w K mg base (L2.CX P w) j f fd ps (spV K mg fn)) (hX : IsX X P w K mg base) (hr : ∀ i, Room k (X i).A) (hj : j ≤ k) (hm : mg x = some (.ref f)) (hk : PySem.W.keepIn K (.ref f) = true) (hb : Binds K fd ps []) (tk : ∀ i, Takes (X i) W.w)
    (ha : VA K mg X W (e :: es) ms) (hg : ∀ j, Gl (X j) x := by intro _; rfl) (hdb : (x == ("__debug__" : Str)) = false := by decide) (he : ∀ j, starEach (e :: es) (X j).env = (false, eval e (X j).env) :: starEach es (X j).env := by intro _; rfl) (hpl : ∀ j, (backTo pos (starEach es (X j).env)).any (·.1) = false := by intro _; rfl) :
    VE K mg X W (.Call (.Name x p) (e :: es) [] pos) (vCall fn ms) := let ⟨_, p, r⟩ := ha; ⟨_, fun i => call_at F (hX i) ((hr i).mono hj) (hg i) hm hk hb (fun σ => passAt (tk i) σ) (p i) hdb (he i) (hpl i), rd_call r⟩
theorem vf_call {j k : Nat} {f : Addr} {fd : FuncData} {ps : List Str} {fn : List D → FR} {x : Str} {p : Pos} {P : Program} {w : World} {base : Heap} (F : FnOk P w K mg base (L2.CX P w) j f fd ps (spF K mg fn)) (hX : IsX X P w K mg base) (hr : ∀ i, Room k (X i).A) (hj : j ≤ k) (hm : mg x = some (.ref f)) (hk : PySem.W.keepIn K (.ref f) = true) (hb : Binds K fd ps []) (tk : ∀ i, Takes (X i) W.w)
    (ha : VA K mg X W (e :: es) ms) (hg : ∀ j, Gl (X j) x := by intro _; rfl) (hdb : (x == ("__debug__" : Str)) = false := by decide) (he : ∀ j, starEach (e :: es) (X j).env = (false, eval e (X j).env) :: starEach es (X j).env := by intro _; rfl) (hpl : ∀ j, (backTo pos (starEach es (X j).env)).any (·.1) = false := by intro _; rfl) :
    VF K mg X W (.Call (.Name x p) (e :: es) [] pos) (vCallF fn ms) := let ⟨_, p, r⟩ := ha; ⟨_, fun i => call_at F (hX i) ((hr i).mono hj) (hg i) hm hk hb (fun σ => passAt (tk i) σ) (p i) hdb (he i) (hpl i), rd_callF r⟩
/-- .. of built-in functions -/
theorem ve_bf {id : String} {x : Str} {p : Pos} {f : List D → Option D} (hc : ∀ j, CallR (X j) (.builtin id) (rDatC K f)) (hm : ∀ j, (X j).mg x = none) (hv : bootBuiltins x = some (.builtin id)) (ha : VA K mg X W (e :: es) ms) (hg : ∀ j, Gl (X j) x := by intro _; rfl) (hn : x ≠ "__name__" := by decide) (hdb : (x == ("__debug__" : Str)) = false := by decide)
    (he : ∀ j, starEach (e :: es) (X j).env = (false, eval e (X j).env) :: starEach es (X j).env := by intro _; rfl) (hpl : ∀ j, (backTo pos (starEach es (X j).env)).any (·.1) = false := by intro _; rfl) : VE K mg X W (.Call (.Name x p) (e :: es) [] pos) (vBf f ms) :=
  let ⟨_, p, r⟩ := ha; ⟨_, fun i => pe_callB (hc i) (hg i) (hm i) hv (p i) hn hdb (he i) (hpl i), rd_bf r⟩
theorem vf_ty {T : String} {x : Str} {p : Pos} {f : List D → Option (List D)} (hc : ∀ j, CallR (X j) (.type T) (rDatF K f)) (hm : ∀ j, (X j).mg x = none) (hv : bootBuiltins x = some (.type T)) (ha : VA K mg X W (e :: es) ms) (hg : ∀ j, Gl (X j) x := by intro _; rfl) (hn : x ≠ "__name__" := by decide) (hdb : (x == ("__debug__" : Str)) = false := by decide)
    (he : ∀ j, starEach (e :: es) (X j).env = (false, eval e (X j).env) :: starEach es (X j).env := by intro _; rfl) (hpl : ∀ j, (backTo pos (starEach es (X j).env)).any (·.1) = false := by intro _; rfl) : VF K mg X W (.Call (.Name x p) (e :: es) [] pos) (vBl f ms) :=
  let ⟨_, p, r⟩ := ha; ⟨_, fun i => pe_callTy (hc i) (hg i) (hm i) hv (p i) hn hdb (he i) (hpl i), rd_bl' r⟩
theorem ve_isi {T : String} {p p2 : Pos} {x : Str} (hk : kitAll T = true) (hm : ∀ j, (X j).mg "isinstance" = none) (hmT : ∀ j, (X j).mg x = none) (hvT : bootBuiltins x = some (.type T)) (hv : bootBuiltins "isinstance" = some (.builtin "isinstance")) (ha : VE K mg X W a ma) (hgT : ∀ j, Gl (X j) x := by intro _; rfl) (hnT : x ≠ "__name__" := by decide) (hdT : (x == ("__debug__" : Str)) = false := by decide)
    (hg : ∀ j, Gl (X j) "isinstance" := by intro _; rfl) (he : ∀ j, starEach [a, .Name x p2] (X j).env = (false, eval a (X j).env) :: starEach [.Name x p2] (X j).env := by intro _; rfl) (he2 : ∀ j, starEach [(.Name x p2 : Expr)] (X j).env = (false, eval (.Name x p2) (X j).env) :: starEach [] (X j).env := by intro _; rfl)
    (hpl : ∀ j, (backTo pos (starEach [(.Name x p2 : Expr)] (X j).env)).any (·.1) = false := by intro _; rfl) (hK : ∀ j, (X j).K = K := by intro _; rfl) : VE K mg X W (.Call (.Name "isinstance" p) [a, .Name x p2] [] pos) (vIsi T ma) :=
  let ⟨_, p, r⟩ := ha; ⟨_, fun i => pe_callB (hK i ▸ call_isi : CallR (X i) (.builtin "isinstance") (rIsi K)) (hg i) (hm i) hv (pa_cons (p i) (pa_cons (pe_bltn (v := .ty T) (hgT i) (hmT i) hvT rfl hnT hdT) pa_nil (he2 i)) (he i)) (by decide) (by decide) (he i) (hpl i), rd_isi hk r⟩
/-- xs.pop() -/
theorem ve_pop (i : Nat) {x : Str} {p apos : Pos} (hN : ∀ j, (X j).N[i]? = some x := by intro _; rfl) (hv : ∀ j, Vis (X j).env.scope x := by intro _; first | exact Or.inl rfl | exact Or.inr (Or.inl rfl) | exact Or.inr (Or.inr rfl)) (hd : (x == ("__debug__" : Str)) = false := by decide)
    (hcd : (x == ("__classdict__" : Str)) = false := by decide) (hbase : ∀ j, attributeBase (.Name x p) "pop" (X j).env (eval (.Name x p) (X j).env) = eval (.Name x p) (X j).env := by intro _; rfl) (hline : (apos.endLine == pos.line) = true := by rfl) (hK : ∀ j, (X j).K = K := by intro _; rfl) :
    VE K mg X W (.Call (.Attribute (.Name x p) "pop" apos) [] [] pos) (vPop i) := ⟨_, fun i => (hK i ▸ pe_bm0 PySem.F.plainAttrs_list PySem.F.slot_list_pop PySem.F.type_list_pop mt_pop (pe_var (hN i) (hv i) hd hcd) (hbase i) hline : PE (X i) _ (tBM0 K "list" rPop (tVar _))), rd_pop⟩
end
end VL

/-! VL9: statements of the text; a def by its body; raise. -/
namespace VL
open PySem PySem.Spec PyProof.Rows L2

section
variable {ι : Type} {K : PySem.W.Frag} {mg : Str → Option Value} {X : ι → Cx} {W : Am K} {pos : Pos} {a b c e o i it tg : Expr} {es : List Expr} {ma mb mc m mi : ME} {ms : MA}
/-! targets -/
theorem vg_name (i : Nat) {x : Str} (hN : ∀ j, (X j).N.Nodup) (hx : ∀ j, Loc (X j).env.scope x := by intro _; first | exact Or.inl rfl | exact Or.inr rfl) (hi : ∀ j, (X j).N[i]? = some x := by intro _; rfl) (hf : ∀ j, (X j).fn x = true ∨ (X j).env.scope.names.lookup x = some .local := by intro _; first | exact .inl rfl | exact .inr rfl) : VG K X [i] (.Name x pos) (gNam i) := ⟨_, fun j => pg_name (hN j) (hi j) (hx j) (hf j), rg_name i⟩
theorem vgs_nil : VGs K X [] 0 [] gNil' := ⟨_, fun _ => pgs_nil, rg_nil, gNil_len⟩
theorem vgs_cons {o1 o2 : List Nat} {n : Nat} {g : D → Env → Option Env} {r : List D → Env → Option Env} (h : VG K X o1 e g) (hr : VGs K X o2 n es r) (hs : ∀ j, (assignEach (e :: es) (X j).env).map (·.2) = assign e (X j).env :: (assignEach es (X j).env).map (·.2) := by intro _; rfl) : VGs K X (o1 ++ o2) (n + 1) (e :: es) (gCon g r) :=
  let ⟨_, p, q⟩ := h; let ⟨_, p', q', l⟩ := hr; ⟨_, fun i => pgs_cons (p i) (p' i) (hs i), rg_cons q q', gCon_len l⟩
theorem vg_tup {o : List Nat} {n k : Nat} {r : List D → Env → Option Env} (hc : ∀ j, (X j).calm = true) (h : VGs K X o n es r) (hn : ∀ j, (assignEach es (X j).env).length = n := by intro _; rfl) (hst : ∀ j, (assignEach es (X j).env).findIdx? (·.1) = none := by intro _; rfl) (hK : ∀ j, (X j).K = K := by intro _; rfl) : VG K X o (.Tuple es k pos) (gTup' r) :=
  let ⟨_, p, q, l⟩ := h; ⟨_, fun i => (hK i ▸ pg_seq (hc i) (p i) (hn i) (hst i) : PG (X i) _ (gSeq K n _)), rg_tup q l⟩
/-! iterables -/
theorem vi_seq (h : VE K mg X W it m) (hK : ∀ j, (X j).K = K := by intro _; rfl) : VI K mg X W tg it (vSeqI m) := let ⟨_, p, r⟩ := h; ⟨_, fun i => (hK i ▸ pi_seq (p i) : PI (X i) _ _ (iSeq K _)), ri_seq r⟩
theorem vi_rng1 {p : Pos} (hm : ∀ j, (X j).mg "range" = none) (h : VA K mg X W [a] ms) (hg : ∀ j, Gl (X j) "range" := by intro _; rfl) (hs : ∀ j, starEach [a] (X j).env = [(false, eval a (X j).env)] := by intro _; rfl) : VI K mg X W tg (.Call (.Name "range" p) [a] [] pos) (vRng1 ms) := let ⟨_, p, r⟩ := h; ⟨_, fun i => pi_range1 (hg i) (hm i) (p i) (hs i), ri_rng1 r⟩
theorem vi_rng2 {p : Pos} (hm : ∀ j, (X j).mg "range" = none) (h : VA K mg X W [a, b] ms) (hg : ∀ j, Gl (X j) "range" := by intro _; rfl) (hs : ∀ j, starEach [a, b] (X j).env = [(false, eval a (X j).env), (false, eval b (X j).env)] := by intro _; rfl) (hs2 : ∀ j, starEach [b] (X j).env = [(false, eval b (X j).env)] := by intro _; rfl) : VI K mg X W tg (.Call (.Name "range" p) [a, b] [] pos) (vRng2 ms) :=
  let ⟨_, p, r⟩ := h; ⟨_, fun i => pi_range2 (hg i) (hm i) (p i) (hs i) (hs2 i), ri_rng2 r⟩
theorem vi_enum {p tpos : Pos} {elts : List Expr} {kk : Nat} (hm : ∀ j, (X j).mg "enumerate" = none) (h : VA K mg X W [a] ms) (hg : ∀ j, Gl (X j) "enumerate" := by intro _; rfl) (hs : ∀ j, starEach [a] (X j).env = [(false, eval a (X j).env)] := by intro _; rfl) (hK : ∀ j, (X j).K = K := by intro _; rfl) : VI K mg X W (.Tuple elts kk tpos) (.Call (.Name "enumerate" p) [a] [] pos) (vEnum ms) := let ⟨_, p, r⟩ := h; ⟨_, fun i => (hK i ▸ pi_enum (hg i) (hm i) (p i) (hs i) : PI (X i) _ _ (iEnum K _)), ri_enum r⟩
/-! comprehensions -/
theorem rd_yes : RdB K mg W tYes vYes where
  run := fun G hG B H σ e Q S h => Po.here h S (show true = true from rfl)
theorem vts_nil : VTs K mg X W [] vYes := ⟨_, fun _ => pts_nil, rd_yes⟩
theorem vts_one {mt : MB} (h : VT K mg X W e mt) : VTs K mg X W [e] mt := let ⟨_, p, r⟩ := h; ⟨_, fun i => pts_one (p i), r⟩
theorem vf_lc {elt : Expr} {ifs : List Expr} {scope : Scope} {own : List (Str × Nat)} {mi : MA} {gm : D → Env → Option Env} {mt : MB} {me : ME} (hc : ∀ j, (X j).calm = true) (hN : ∀ j, (X j).N.Nodup) (hi : VI K mg X W tg it mi) (ok : ∀ j, BlkOk (X j).N (X j).env.scope scope own)
    (hg : VG K (blkF X scope) (own.map (·.2)) tg gm) (ht : VTs K mg (blkF X scope) (W.to Wn) ifs mt) (he : VE K mg (blkF X scope) (W.to Wn) elt me) (hs : ∀ j x, foldedSetIterable it (X j).env x = pure x := by intro _ _; rfl) :
    VF K mg X W (.ListComp elt [⟨tg, it, ifs, 0⟩] scope pos) (vLc mi gm mt me (own.map (·.2))) := by
  obtain ⟨wi, pi, ri⟩ := hi
  obtain ⟨g, pg, rg⟩ := hg
  obtain ⟨t, pt, rt⟩ := ht
  obtain ⟨te, pe, re⟩ := he
  exact ⟨_, fun i => pe_lc (hc i) (hN i) (pi i) (ok i) (fun s H C cl fp => pg (i, s, H, C, cl, fp)) (fun s H C cl fp => pt (i, s, H, C, cl, fp)) (fun s H C cl fp => pe (i, s, H, C, cl, fp)) (hs i), rd_lc ri rg rt re⟩
end
section
variable {X : Cx} {W : Am X.K} {pos : Pos} {a b c e o i it tg : Expr} {es : List Expr} {ma mb mc m mi : ME} {ms : MA} {k : Bool} {st : Stmt} {body rest : List Stmt} {mm mn : MS}
/-! statements -/
theorem vss_nil : VSs X W k [] vNext := ⟨_, pss_nil, rs_next⟩
theorem vss_cons (h : VS X W k st mm) (hr : VSs X W k rest mn) : VSs X W k (st :: rest) (vSeq mm mn) := let ⟨_, p, r⟩ := h; let ⟨_, p', r'⟩ := hr; ⟨_, pss_cons p p', rs_seq r r'⟩
theorem vs_expr (h : VE X.K X.mg (at1 X) W e m) (hs : swapsWith e none pos.line X.env = pure false := by rfl) : VS X W k (.Expr e pos) (vDrop m) := let ⟨_, p, r⟩ := h; ⟨_, ps_expr (p ()) hs, rs_drop r⟩
theorem vs_ret (h : VE X.K X.mg (at1 X) W e m) : VS X W false (.Return (some e) pos) (vRet m) := let ⟨_, p, r⟩ := h; ⟨_, ps_ret (p ()), rs_ret r⟩
theorem vs_retF (h : VF X.K X.mg (at1 X) W e ms) : VS X W true (.Return (some e) pos) (vRetF ms) := let ⟨_, p, r⟩ := h; ⟨_, ps_ret (p ()), rs_retF r⟩
theorem vs_retN : VS X W false (.Return none pos) vRetN := ⟨_, ps_retN, rs_retN⟩
theorem vs_if {mt : MB} (h : VT X.K X.mg (at1 X) W c mt) (ha : VSs X W k body mm) (hb : VSs X W k rest mn) : VS X W k (.If c body rest pos) (vIf mt mm mn) := let ⟨_, p, r⟩ := h; let ⟨_, p', r'⟩ := ha; let ⟨_, p2, r2⟩ := hb; ⟨_, ps_if (p ()) p' p2, rs_if r r' r2⟩
theorem vs_pass : VS X W k (.Pass pos) vPass := ⟨_, ps_pass, rs_next⟩
theorem vs_break : VS X W k (.Break pos) vBreak := ⟨_, ps_break, rs_break⟩
theorem vs_never : VS X W k st (fun _ => .bot) := ⟨_, ps_never, rs_never⟩
section
variable {x : Str} {pos' : Pos}
theorem vs_set (i : Nat) (hN : X.N.Nodup) (he : VE X.K X.mg (at1 X) W e m) (hi : X.N[i]? = some x := by rfl) (hx : Loc X.env.scope x := by first | exact Or.inl rfl | exact Or.inr rfl) (hs : swapsWith e (some (.Name x pos')) pos.line X.env = pure false := by rfl) (hf : X.fn x = true ∨ X.env.scope.names.lookup x = some .local := by first | exact .inl rfl | exact .inr rfl) :
    VS X W k (.Assign [.Name x pos'] e pos) (vAsg m (gNam i)) := let ⟨_, p, r⟩ := he; ⟨_, ps_set hN hi hx (p ()) hs hf, rs_asg r (rg_name i)⟩
theorem vs_setF (i : Nat) (hN : X.N.Nodup) (he : VF X.K X.mg (at1 X) W e ms) (hi : X.N[i]? = some x := by rfl) (hx : Loc X.env.scope x := by first | exact Or.inl rfl | exact Or.inr rfl) (hs : swapsWith e (some (.Name x pos')) pos.line X.env = pure false := by rfl) (hf : X.fn x = true ∨ X.env.scope.names.lookup x = some .local := by first | exact .inl rfl | exact .inr rfl) :
    VS X W k (.Assign [.Name x pos'] e pos) (vAsgF i ms) := let ⟨_, p, r⟩ := he; ⟨_, ps_set hN hi hx (p ()) hs hf, rs_asgF r⟩
/-- x = [..]: the comprehension's list, x's own (F) or handed out -/
theorem vs_setLcF {elt : Expr} {ifs : List Expr} {scope : Scope} {own : List (Str × Nat)} {mi : MA} {gm : D → Env → Option Env} {mt : MB} {me : ME} {cpos : Pos} (i : Nat) (hc : X.calm = true) (hN : X.N.Nodup) (hi : VI X.K X.mg (at1 X) W tg it mi) (ok : BlkOk X.N X.env.scope scope own)
    (hg : VG X.K (blkF (at1 X) scope) (own.map (·.2)) tg gm) (ht : VTs X.K X.mg (blkF (at1 X) scope) (W.to Wn) ifs mt) (he : VE X.K X.mg (blkF (at1 X) scope) (W.to Wn) elt me)
    (hsw : swapsWith (.ListComp elt [⟨tg, it, ifs, 0⟩] scope cpos) (some (.Name x pos')) pos.line X.env = pure true) (hi' : X.N[i]? = some x := by rfl) (hyl : X.env.scope.names.lookup x = some .local := by rfl) (hs : ∀ x, foldedSetIterable it X.env x = pure x := by intro _; rfl) :
    VS X W k (.Assign [.Name x pos'] (.ListComp elt [⟨tg, it, ifs, 0⟩] scope cpos) pos) (vAsgF i (vLc mi gm mt me (own.map (·.2)))) := by
  obtain ⟨wi, pi, ri⟩ := hi
  obtain ⟨g, pg, rg⟩ := hg
  obtain ⟨t, pt, rt⟩ := ht
  obtain ⟨te, pe, re⟩ := he
  exact ⟨_, ps_setLc hc hN hi' hyl hsw (pi ()) ok (fun s H C cl fp => pg ((), s, H, C, cl, fp)) (fun s H C cl fp => pt ((), s, H, C, cl, fp)) (fun s H C cl fp => pe ((), s, H, C, cl, fp)) hs, rs_asgF (rd_lc ri rg rt re)⟩
theorem vs_setLc {elt : Expr} {ifs : List Expr} {scope : Scope} {own : List (Str × Nat)} {mi : MA} {gm : D → Env → Option Env} {mt : MB} {me : ME} {cpos : Pos} (i : Nat) (hc : X.calm = true) (hN : X.N.Nodup) (hi : VI X.K X.mg (at1 X) W tg it mi) (ok : BlkOk X.N X.env.scope scope own)
    (hg : VG X.K (blkF (at1 X) scope) (own.map (·.2)) tg gm) (ht : VTs X.K X.mg (blkF (at1 X) scope) (W.to Wn) ifs mt) (he : VE X.K X.mg (blkF (at1 X) scope) (W.to Wn) elt me)
    (hsw : swapsWith (.ListComp elt [⟨tg, it, ifs, 0⟩] scope cpos) (some (.Name x pos')) pos.line X.env = pure true) (hi' : X.N[i]? = some x := by rfl) (hyl : X.env.scope.names.lookup x = some .local := by rfl) (hs : ∀ x, foldedSetIterable it X.env x = pure x := by intro _; rfl) :
    VS X W k (.Assign [.Name x pos'] (.ListComp elt [⟨tg, it, ifs, 0⟩] scope cpos) pos) (vAsg (vOf (vLc mi gm mt me (own.map (·.2)))) (gNam i)) := by
  obtain ⟨wi, pi, ri⟩ := hi
  obtain ⟨g, pg, rg⟩ := hg
  obtain ⟨t, pt, rt⟩ := ht
  obtain ⟨te, pe, re⟩ := he
  exact ⟨_, ps_setLc hc hN hi' hyl hsw (pi ()) ok (fun s H C cl fp => pg ((), s, H, C, cl, fp)) (fun s H C cl fp => pt ((), s, H, C, cl, fp)) (fun s H C cl fp => pe ((), s, H, C, cl, fp)) hs, rs_asg (rd_of (rd_lc ri rg rt re)) (rg_name i)⟩
/-- targets of other forms -/
theorem vs_asg {o : List Nat} {g : D → Env → Option Env} (he : VE X.K X.mg (at1 X) W e m) (hg : VG X.K (at1 X) o tg g) (hs : swapsWithSole [tg] e pos.line X.env = pure false := by rfl) (hw : swappedStores [tg] e X.env = pure none := by rfl)
    (h1 : (assignEach [tg] X.env).map (·.2) = [assign tg X.env] := by rfl) : VS X W k (.Assign [tg] e pos) (vAsg m g) := let ⟨_, p, r⟩ := he; let ⟨_, p', r'⟩ := hg; ⟨_, ps_asg (p ()) (p' ()) hs hw h1, rs_asg r r'⟩
theorem vs_par {i j : Nat} {y : Str} {px py pt : Pos} {kt k2 pt2} (hc : X.calm = true) (hN : X.N.Nodup) (hij : i ≠ j) (ha : VE X.K X.mg (at1 X) W a ma) (hb : VE X.K X.mg (at1 X) W b mb) (hi : X.N[i]? = some x := by rfl) (hj : X.N[j]? = some y := by rfl)
    (hx : X.env.scope.names.lookup x = some .local := by rfl) (hy : X.env.scope.names.lookup y = some .local := by rfl) (h2 : starEach [a, b] X.env = (false, eval a X.env) :: starEach [b] X.env := by rfl) (h3 : starEach [b] X.env = (false, eval b X.env) :: starEach [] X.env := by rfl)
    (hw : swappedStores [.Tuple [.Name x px, .Name y py] kt pt] (.Tuple [a, b] k2 pt2) X.env = pure (some [x, y]) := by rfl)
    (hs : swapsWithSole [.Tuple [.Name x px, .Name y py] kt pt] (.Tuple [a, b] k2 pt2) pos.line X.env = pure false := by rfl) :
    VS X W k (.Assign [.Tuple [.Name x px, .Name y py] kt pt] (.Tuple [a, b] k2 pt2) pos) (vPar i j ma mb) := let ⟨_, p, r⟩ := ha; let ⟨_, p', r'⟩ := hb; ⟨_, ps_par hc hN hi hj hij hx hy (pa_cons (p ()) (pa_cons (p' ()) pa_nil h3) h2) hw hs, rs_par r r'⟩
theorem vs_augAdd (i : Nat) (hN : X.N.Nodup) (he : VE X.K X.mg (at1 X) W e m) (hi : X.N[i]? = some x := by rfl) (hx : Loc X.env.scope x := by first | exact Or.inl rfl | exact Or.inr rfl) (hf : X.fn x = true ∨ X.env.scope.names.lookup x = some .local := by first | exact .inl rfl | exact .inr rfl) :
    VS X W k (.AugAssign (.Name x pos') .Add e pos) (vAug i (fun a b => match a, b with
      | .int i, .int j => some (.int (i + j))
      | _, _ => none) m) := let ⟨_, p, r⟩ := he; ⟨_, ps_aug hN hi hx (p ()) ip_add hf, rs_aug (fun G B H σ e x y a b d Q S r1 r2 hd h => by
    cases a with
    | int u =>
      cases b with
      | int v =>
        cases hd
        cases r1
        cases r2
        exact ⟨_, _, rfl, rfl, Po.here h S (.int _)⟩
      | _ => cases hd
    | _ => cases hd) r⟩
/-- methods of owned lists, as statements -/
theorem vs_app (i : Nat) {p apos cpos : Pos} (he : VE X.K X.mg (at1 X) W e m) (hN : X.N[i]? = some x := by rfl) (hv : Vis X.env.scope x := by first | exact Or.inl rfl | exact Or.inr (Or.inl rfl) | exact Or.inr (Or.inr rfl)) (hd : (x == ("__debug__" : Str)) = false := by decide)
    (hcd : (x == ("__classdict__" : Str)) = false := by decide) (hbase : attributeBase (.Name x p) "append" X.env (eval (.Name x p) X.env) = eval (.Name x p) X.env := by rfl)
    (hfew : ((backTo cpos (starEach [e] X.env)).all (fun x => !x.1) && (backToKw cpos (keywordEach [] X.env)).all (fun x => x.1.isSome) && decide ([e].length + ([] : List Keyword).length + (if ([] : List Keyword).isEmpty then 0 else 1) < 30)) = true := by rfl)
    (hline : (apos.endLine == cpos.line) = true := by rfl) (hs1 : starEach [e] X.env = (false, eval e X.env) :: starEach [] X.env := by rfl) (hplain : (backTo cpos (starEach [] X.env)).any (·.1) = false := by rfl)
    (hs : swapsWith (.Call (.Attribute (.Name x p) "append" apos) [e] [] cpos) none pos.line X.env = pure false := by rfl) : VS X W k (.Expr (.Call (.Attribute (.Name x p) "append" apos) [e] [] cpos) pos) (vApp i m) :=
  let ⟨_, q, r⟩ := he; ⟨_, ps_expr (pe_bm PySem.F.plainAttrs_list PySem.F.slot_list_append PySem.F.type_list_append mt_append (pe_var hN hv hd hcd) (pa_cons (q ()) pa_nil hs1) hbase hfew hline hs1 hplain) hs, rs_app r⟩
/-- xs[i] = e -/
theorem vs_sub (i : Nat) {p tpos : Pos} {ix : Expr} {mx : ME} (he : VE X.K X.mg (at1 X) W e m) (hx : VE X.K X.mg (at1 X) W ix mx) (hN : X.N[i]? = some x := by rfl) (hv : Vis X.env.scope x := by first | exact Or.inl rfl | exact Or.inr (Or.inl rfl) | exact Or.inr (Or.inr rfl)) (hd : (x == ("__debug__" : Str)) = false := by decide)
    (hcd : (x == ("__classdict__" : Str)) = false := by decide) (hs : swapsWithSole [.Subscript (.Name x p) ix tpos] e pos.line X.env = pure false := by rfl) (hw : swappedStores [.Subscript (.Name x p) ix tpos] e X.env = pure none := by rfl)
    (h1 : (assignEach [.Subscript (.Name x p) ix tpos] X.env).map (·.2) = [assign (.Subscript (.Name x p) ix tpos) X.env] := by rfl)
    (ha : ∀ v, assign (.Subscript (.Name x p) ix tpos) X.env v = (do
      let ov ← holding [v] (eval (.Name x p) X.env)
      let iv ← holding [v, ov] (eval ix X.env)
      standAt tpos
      holding [v, ov, iv] (setItem ov iv v)
      release [v, ov, iv] []) := by intro _; rfl) : VS X W k (.Assign [.Subscript (.Name x p) ix tpos] e pos) (vSet i mx m) :=
  let ⟨_, q, r⟩ := he; let ⟨_, q', r'⟩ := hx; ⟨_, ps_asg (q ()) (pg_sub (pe_var hN hv hd hcd) (q' ()) set_list ha) hs hw h1, rs_set r r'⟩
end
theorem vs_for {o : List Nat} {mi : MA} {g : D → Env → Option Env} (hp : PassesOwn (model X.prog X.w) X.A X.env X.xe) (hc : X.calm = true) (hi : VI X.K X.mg (at1 X) W tg it mi) (hg : VG X.K (at1 X) o tg g) (hb : VSs X W k body mm) (hs : ∀ x, foldedSetIterable it X.env x = pure x := by intro _; rfl) :
    VS X W k (.For tg it body [] pos) (vFor mi g mm) := let ⟨_, p, r⟩ := hi; let ⟨_, p', r'⟩ := hg; let ⟨_, p2, r2⟩ := hb; ⟨_, ps_for hp hc (p ()) (p' ()) p2 hs, rs_for r r' r2⟩
theorem vs_while {mt : MB} (hp : PassesOwn (model X.prog X.w) X.A X.env X.xe) (h : VT X.K X.mg (at1 X) W c mt) (hb : VSs X W k body mm) : VS X W k (.While c body [] pos) (vWhile mt mm) := let ⟨_, p, r⟩ := h; let ⟨_, p', r'⟩ := hb; ⟨_, ps_while hp (p ()) p', rs_while r r'⟩
/-! raise -/
theorem pmk_own0 {C : Addr} {bmB : List Value} {B newId initId : String} {x : Str} {p pos : Pos} (F : ExcBaseFacts B newId initId bmB) (q : PySem.W.excIn X.K C bmB newId = true) (gC : X.mg x = some (.ref C)) (kC : PySem.W.keepIn X.K (.ref C) = true) (r : Raises X (.ref C)) (hg : Gl X x)
    (hdb : (x == ("__debug__" : Str)) = false := by decide) : PMk X (.Call (.Name x p) [] [] pos) (fun _ H Q => Q (.ref C) none H) := by
  intro pins s σ H Q I h
  refine wpAny_Call_Name_kw (ld_glob I hg gC ?_ hdb)
  refine PySem.W.callWith_K0 I.kIn kC ?_
  obtain ⟨bm, N, nm, qn, bs, hdct, sn, sub, ab, col, dd, k0, k1, k2, k3, k5, mN, hC, hN, hni, T⟩ := exc_obj I.kIn q
  refine wpAny_call_exc_subT F T hC hN hni (fun h' e hm => ?_) (by show 0 ≤ sizeLine; omega)
  exact mk_of I hm r h (I.hok.gone hm.new)
theorem rs_raise {x : Str} {C : Addr} (hm : X.mg x = some (.ref C)) : RdS X.K X.mg W k (fun _ σ H => W.w (.ref C) none σ H) (vRaise x) := fun G hG B H σ e D S h => h (.ref C) none σ B H S (Same.refl B) ⟨C, hm, rfl, rfl⟩
/-- what the text's classes of errors are, as the top has made them -/
structure ExcCls (K : PySem.W.Frag) (mg : Str → Option Value) (x : Str) (C : Addr) : Prop where
  g : mg x = some (.ref C)
  q : PySem.W.excIn K C [.type "ValueError", .type "Exception", .type "BaseException", .type "object"] "ValueError.__new__" = true
  k : PySem.W.keepIn K (.ref C) = true
  b : PySem.W.subIn K (.ref C) (.type "BaseException") = some true
  t : PySem.W.typeIn K (.ref C) = some (.type "type")
theorem vs_raise0 {x : Str} {C : Addr} {p cpos : Pos} (T : ExcCls X.K X.mg x C) (tk : Takes X W.w) (hc : X.calm = true) (hg : Gl X x := by rfl) (hdb : (x == ("__debug__" : Str)) = false := by decide) : VS X W k (.Raise (some (.Call (.Name x p) [] [] cpos)) none pos) (vRaise x) :=
  ⟨_, ps_raise hc tk (pmk_own0 PySem.F.excBase_ValueError T.q T.g T.k (raises_own T.b T.t) hg hdb), rs_raise T.g⟩
theorem vs_raise1 {x m : Str} {C : Addr} {j : Nat} {p p2 cpos : Pos} (T : ExcCls X.K X.mg x C) (tk : Takes X W.w) (hc : X.calm = true) (hg : Gl X x := by rfl) (hdb : (x == ("__debug__" : Str)) = false := by decide) : VS X W k (.Raise (some (.Call (.Name x p) [.Constant (.str m) j p2] [] cpos)) none pos) (vRaise x) :=
  ⟨_, ps_raise hc tk (pmk_own PySem.F.excBase_ValueError T.q T.g T.k (raises_own T.b T.t) hg hdb), rs_raise T.g⟩
end

/-! ### a def by its body -/
section
variable {P : Program} {w : World} {K : PySem.W.Frag} {mg : Str → Option Value} {base : Heap}
theorem start_sto {N : List Str} {B H : Hp} {vs : List V} {ds : List D} (sm : Same B H) (r : Reps K B vs ds) (hl : ds.length ≤ N.length) : Sto K ⟨H, B, [], fun _ => 0⟩ B H (L2.start N vs) (ds.map Sl.sh ++ List.replicate (N.length - ds.length) .no) where
  len := by
    unfold L2.start
    have := r.length
    simp only [List.length_append, List.length_map, List.length_replicate]
    omega
  sl := fun i s h => by
    have hv := r.length
    unfold L2.start
    by_cases hi : i < ds.length
    · rw [List.getElem?_append_left (by rw [List.length_map]; exact hi), List.getElem?_map] at h
      cases z : ds[i]? with
      | none => rw [z] at h; cases h
      | some d =>
        rw [z] at h
        cases h
        obtain ⟨v, e1, rv⟩ := r.get z
        refine ⟨some v, ?_, .sh rv⟩
        rw [List.getElem?_append_left (by rw [List.length_map, hv]; exact hi), List.getElem?_map, e1] <;> rfl
    · have hlen := (List.getElem?_eq_some_iff.mp h).1
      rw [List.getElem?_append_right (by rw [List.length_map]; omega), List.getElem?_replicate] at h
      split at h
      · cases h
        simp only [List.length_append, List.length_map, List.length_replicate] at hlen
        have q : i < (vs.map some ++ List.replicate (N.length - vs.length) (none : Option V)).length := by simp only [List.length_append, List.length_map, List.length_replicate]; omega
        exact ⟨_, List.getElem?_eq_getElem q, .no⟩
      · cases h
  dis := fun i j p b b' es es' h1 => by
    exfalso
    by_cases hi : i < ds.length
    · rw [List.getElem?_append_left (by rw [List.length_map]; exact hi), List.getElem?_map] at h1
      cases z : ds[i]? with
      | none => rw [z] at h1; cases h1
      | some d => rw [z] at h1; cases h1
    · rw [List.getElem?_append_right (by rw [List.length_map]; omega), List.getElem?_replicate] at h1
      split at h1 <;> cases h1
  sub := sm
  b0 := Same.refl B
  keep := fun a o h _ => h
  dom := fun a h => h
  new := fun a h => .inl h
  iom := fun a h => by simp at h
theorem Sto.out {B H B' H' : Hp} {σ : L2.St} {e : Env} (S : Sto K ⟨H, B, [], fun _ => 0⟩ B' H' σ e) : Same H H' ∧ Same B B' ∧ Same B' H' ∧ News' B H B' := ⟨fun a o h => S.keep a o h (by simp), S.b0, S.sub, S.new⟩
theorem len_of {np n : Nat} {m : MS} {K : PySem.W.Frag} {mg : Str → Option Value} : (∀ vs H Q E, spV K mg (runB np n m) vs H Q E → vs.length = np) ∧ ∀ vs H Q E, spF K mg (runB np n m) vs H Q E → vs.length = np := by
  refine ⟨fun vs H Q E h => ?_, fun vs H Q E h => ?_⟩
  · obtain ⟨B, ds, sm, r, h⟩ := h
    rw [r.length]
    by_cases q : ds.length = np
    · exact q
    · unfold runB at h
      rw [if_neg q] at h
      exact h.elim
  · obtain ⟨B, ds, sm, r, h⟩ := h
    rw [r.length]
    by_cases q : ds.length = np
    · exact q
    · unfold runB at h
      rw [if_neg q] at h
      exact h.elim
/-- a def that hands back a value -/
theorem fn_V {x qual : Str} {st : Stmt} {f : Addr} {fd : FuncData} {N ps : List Str} {k : Nat} {m : MS} (F : Fun K x qual st f fd) (S : FnScope N ps (defScope st)) (hl : ps.length ≤ N.length)
    (hbody : ∀ (cdv : Value) (A : Around) (outer : List PySem.Env) (s : Shared) (H : Hp) (E : XK), Room k (A.deeper (envOfC qual (defScope st) s.heap.objs.size f cdv)) →
      VSs (cxOf (L2.CX P w) P w K mg base N qual (defScope st) f cdv A outer s H E) (Am.of K fun cls d _ H => E cls d H) false (defBody st) m) :
    FnOk P w K mg base (L2.CX P w) (k + 1) f fd ps (spV K mg (runB ps.length N.length m)) := by
  refine F.okX S len_of.1 (fun cdv A outer s H vs Q E hr h => ?_)
  obtain ⟨B, ds, sm, r, h⟩ := h
  obtain ⟨t, pt, rt⟩ := hbody cdv A outer s H E hr
  refine ⟨t, pt, rt ⟨H, B, [], fun _ => 0⟩ trivial B H _ _ _ (start_sto sm r (by
    by_cases q : ds.length = ps.length
    · omega
    · unfold runB at h; rw [if_neg q] at h; exact h.elim)) ?_⟩
  have q : ds.length = ps.length := by
    by_cases q : ds.length = ps.length
    · exact q
    · unfold runB at h; rw [if_neg q] at h; exact h.elim
  unfold runB at h
  rw [if_pos q] at h
  rw [q]
  cases z : m (ds.map Sl.sh ++ List.replicate (N.length - ps.length) .no) with
  | nx e' =>
    rw [z] at h
    exact fun σ' B' H' S' _ => let ⟨a1, a2, a3, a4⟩ := S'.out; h .non B' H' a1 a2 a3 a4 .non
  | rt d e' =>
    rw [z] at h
    refine fun v σ' B' H' S' _ ro => let ⟨a1, a2, a3, a4⟩ := S'.out; h v B' H' a1 a2 a3 a4 ?_
    unfold RetOk at ro
    rw [if_neg Bool.false_ne_true] at ro
    exact ro
  | bk e' => rw [z] at h; exact h.elim
  | ct e' => rw [z] at h; exact h.elim
  | err x e' =>
    rw [z] at h
    exact fun c dd σ' B' H' S' _ xr => let ⟨a1, a2, a3, a4⟩ := S'.out; h c dd B' H' a1 a2 a3 a4 xr
  | bot => rw [z] at h; exact h.elim
/-- a def that hands back a new list -/
theorem fn_F {x qual : Str} {st : Stmt} {f : Addr} {fd : FuncData} {N ps : List Str} {k : Nat} {m : MS} (F : Fun K x qual st f fd) (S : FnScope N ps (defScope st)) (hl : ps.length ≤ N.length)
    (hbody : ∀ (cdv : Value) (A : Around) (outer : List PySem.Env) (s : Shared) (H : Hp) (E : XK), Room k (A.deeper (envOfC qual (defScope st) s.heap.objs.size f cdv)) →
      VSs (cxOf (L2.CX P w) P w K mg base N qual (defScope st) f cdv A outer s H E) (Am.of K fun cls d _ H => E cls d H) true (defBody st) m) :
    FnOk P w K mg base (L2.CX P w) (k + 1) f fd ps (spF K mg (runB ps.length N.length m)) := by
  refine F.okX S len_of.2 (fun cdv A outer s H vs Q E hr h => ?_)
  obtain ⟨B, ds, sm, r, h⟩ := h
  obtain ⟨t, pt, rt⟩ := hbody cdv A outer s H E hr
  have q : ds.length = ps.length := by
    by_cases q : ds.length = ps.length
    · exact q
    · unfold runB at h; rw [if_neg q] at h; exact h.elim
  refine ⟨t, pt, rt ⟨H, B, [], fun _ => 0⟩ trivial B H _ _ _ (start_sto sm r (by omega)) ?_⟩
  unfold runB at h
  rw [if_pos q] at h
  rw [q]
  cases z : m (ds.map Sl.sh ++ List.replicate (N.length - ps.length) .no) with
  | nx e' => rw [z] at h; exact h.elim
  | rt d e' =>
    rw [z] at h
    refine fun v σ' B' H' S' _ ro => ?_
    unfold RetOk at ro
    rw [if_pos rfl] at ro
    obtain ⟨rs, rfl, p, ws, rfl, hp, hb, hg, no, rr⟩ := ro
    obtain ⟨a1, a2, a3, a4⟩ := S'.out
    exact h p ws B' H' a1 a2 a3 a4 hg hb hp rr
  | bk e' => rw [z] at h; exact h.elim
  | ct e' => rw [z] at h; exact h.elim
  | err x e' =>
    rw [z] at h
    exact fun c dd σ' B' H' S' _ xr => let ⟨a1, a2, a3, a4⟩ := S'.out; h c dd B' H' a1 a2 a3 a4 xr
  | bot => rw [z] at h; exact h.elim
/-- a promise of a better meaning -/
theorem spV_eq {fn fn' : List D → FR} (h : fn = fn') {f : Addr} {fd : FuncData} {k : Nat} {ps : List Str} (F : FnOk P w K mg base (L2.CX P w) k f fd ps (spV K mg fn)) : FnOk P w K mg base (L2.CX P w) k f fd ps (spV K mg fn') := h ▸ F
/-- the law's end -/
theorem law_ok {fn : List D → FR} (hfn : ∀ ns : List Int, ns.length ≤ 63 → fn [.lst (ns.map D.int)] = .ok (.bl true)) (H : Hp) (a : Addr) (ns : List Int) (hl : ns.length ≤ 63) (hS : SqL K H a (ns.map V.int)) : spV K mg fn [.ref a] H (fun v _ => v = .bl true) fun _ _ _ => False := by
  refine ⟨H, [.lst (ns.map D.int)], Same.refl H, .cons (.lst hS Rep.ints) .nil, ?_⟩
  rw [hfn ns hl]
  intro v B' H' _ _ _ _ r
  cases r
  rfl
end
end VL

/-! VL10: the text's defs by their names. -/
namespace VL
open PySem PySem.Spec PyProof.Rows L2
/-- every parameter is written -/
def Bnd (fd : FuncData) (ps : List Str) : Prop := ∀ (s : Shared) (us : List Value), us.length = ps.length → BindsTo s fd ⟨us, []⟩ (ps.zip us)
theorem Bnd.b {K : PySem.W.Frag} {fd : FuncData} {ps : List Str} (h : Bnd fd ps) : Binds K fd ps [] := fun s us _ hl => by
  rw [List.append_nil] at hl ⊢
  exact h s us hl
/-- a def of the top -/
def Def1 (K : PySem.W.Frag) (mg : Str → Option Value) (x : Str) (st : Stmt) (ps : List Str) : Prop := ∃ f fd, Fun K x x st f fd ∧ mg x = some (.ref f) ∧ Bnd fd ps
/-- a def and its promise -/
def Ok1 (P : Program) (w : World) (K : PySem.W.Frag) (mg : Str → Option Value) (x : Str) (ps : List Str) (k : Nat) (sp : Sp) : Prop :=
  ∃ f fd, mg x = some (.ref f) ∧ PySem.W.keepIn K (.ref f) = true ∧ Bnd fd ps ∧ ∀ base, FnOk P w K mg base (L2.CX P w) k f fd ps sp
section
variable {P : Program} {w : World} {K : PySem.W.Frag} {mg : Str → Option Value} {x : Str} {st : Stmt} {N ps : List Str} {k : Nat} {m : MS}
theorem Def1.V (d : Def1 K mg x st ps) (S : FnScope N ps (defScope st)) (hl : ps.length ≤ N.length)
    (hbody : ∀ (base : Heap) (f : Addr) (cdv : Value) (A : Around) (outer : List PySem.Env) (s : Shared) (H : Hp) (E : XK), Room k (A.deeper (envOfC x (defScope st) s.heap.objs.size f cdv)) →
      VSs (cxOf (L2.CX P w) P w K mg base N x (defScope st) f cdv A outer s H E) (Am.of K fun cls d _ H => E cls d H) false (defBody st) m) : Ok1 P w K mg x ps (k + 1) (spV K mg (runB ps.length N.length m)) :=
  let ⟨f, fd, F, g, b⟩ := d; ⟨f, fd, g, F.kp, b, fun base => fn_V F S hl (hbody base f)⟩
theorem Def1.F (d : Def1 K mg x st ps) (S : FnScope N ps (defScope st)) (hl : ps.length ≤ N.length)
    (hbody : ∀ (base : Heap) (f : Addr) (cdv : Value) (A : Around) (outer : List PySem.Env) (s : Shared) (H : Hp) (E : XK), Room k (A.deeper (envOfC x (defScope st) s.heap.objs.size f cdv)) →
      VSs (cxOf (L2.CX P w) P w K mg base N x (defScope st) f cdv A outer s H E) (Am.of K fun cls d _ H => E cls d H) true (defBody st) m) : Ok1 P w K mg x ps (k + 1) (spF K mg (runB ps.length N.length m)) :=
  let ⟨f, fd, F, g, b⟩ := d; ⟨f, fd, g, F.kp, b, fun base => fn_F F S hl (hbody base f)⟩
end
section
variable {ι : Type} {K : PySem.W.Frag} {mg : Str → Option Value} {X : ι → Cx} {W : Am K} {P : Program} {w : World} {base : Heap} {pos : Pos} {e : Expr} {es : List Expr} {ms : MA} {j k : Nat} {ps : List Str} {fn : List D → FR} {x : Str} {p : Pos}
theorem ve_cal (o : Ok1 P w K mg x ps j (spV K mg fn)) (hr : ∀ i, Room k (X i).A) (tk : ∀ i, Takes (X i) W.w) (ha : VA K mg X W (e :: es) ms) (hX : IsX X P w K mg base := by intro _; exact ⟨rfl, rfl, rfl, rfl, rfl⟩) (hj : j ≤ k := by decide) (hg : ∀ i, Gl (X i) x := by intro _; rfl) (hdb : (x == ("__debug__" : Str)) = false := by decide)
    (he : ∀ i, starEach (e :: es) (X i).env = (false, eval e (X i).env) :: starEach es (X i).env := by intro _; rfl) (hpl : ∀ i, (backTo pos (starEach es (X i).env)).any (·.1) = false := by intro _; rfl) : VE K mg X W (.Call (.Name x p) (e :: es) [] pos) (vCall fn ms) :=
  let ⟨_, _, g, kp, b, F⟩ := o; ve_call (F base) hX hr hj g kp b.b tk ha hg hdb he hpl
theorem vf_cal (o : Ok1 P w K mg x ps j (spF K mg fn)) (hr : ∀ i, Room k (X i).A) (tk : ∀ i, Takes (X i) W.w) (ha : VA K mg X W (e :: es) ms) (hX : IsX X P w K mg base := by intro _; exact ⟨rfl, rfl, rfl, rfl, rfl⟩) (hj : j ≤ k := by decide) (hg : ∀ i, Gl (X i) x := by intro _; rfl) (hdb : (x == ("__debug__" : Str)) = false := by decide)
    (he : ∀ i, starEach (e :: es) (X i).env = (false, eval e (X i).env) :: starEach es (X i).env := by intro _; rfl) (hpl : ∀ i, (backTo pos (starEach es (X i).env)).any (·.1) = false := by intro _; rfl) : VF K mg X W (.Call (.Name x p) (e :: es) [] pos) (vCallF fn ms) :=
  let ⟨_, _, g, kp, b, F⟩ := o; vf_call (F base) hX hr hj g kp b.b tk ha hg hdb he hpl
end
/-! ### the head -/
theorem Fun.of_funD {K : PySem.W.Frag} {x : Str} {st : Stmt} {f : Addr} {fd : FuncData} (F : FunD K x x (defArgs st) (defBody st) (defScope st) [] [] f fd) : Fun K x x st f fd := by
  obtain ⟨oc, od, dV, kV, doc, pm, an, cdv, ct, osl, rfl, lk, hcd, hd, _⟩ := F.ex
  have e : dV = .none := by
    rcases hd with ⟨_, e⟩ | ⟨h, _⟩
    · exact e
    · exact absurd rfl h
  subst e
  exact ⟨⟨oc, od, kV, doc, pm, an, cdv, ct, osl, rfl, lk, hcd⟩, F.kp⟩
abbrev defD (x : Str) (st : Stmt) : He.DefD := ⟨(x, none), x, x, defArgs st, defBody st, defScope st, [], []⟩
theorem def1_of {K : PySem.W.Frag} {h : Heap} {mg : Str → Option Value} {x : Str} {st : Stmt} {ps : List Str} (e : ∃ fd, FunD K x x (defArgs st) (defBody st) (defScope st) [] [] (He.fAd K (x, none)) fd) (X : K.In h) (G : h.Ns mainGlobals mg) (c : (He.Fa.glo x).ok K = true)
    (hb : ∀ (kV doc pm : Value) (an : Option Addr) (cdv ct : Value) (us : List Value), us.length = ps.length → bindArgs (PySem.W.fnOf x x (defArgs st) (defBody st) (defScope st) .none kV doc pm an cdv ct) ⟨us, []⟩ = pure (ps.zip us)) : Def1 K mg x st ps :=
  let ⟨fd, F⟩ := e; ⟨_, fd, Fun.of_funD F, He.glo_ok X G c, fun s us hl => F.bindsA hb s us hl⟩
theorem excCls_of {K : PySem.W.Frag} {h : Heap} {mg : Str → Option Value} {x : Str} (X : K.In h) (G : h.Ns mainGlobals mg) (g : (He.Fa.glo x).ok K = true) (c : (He.Fa.exc x).ok K = true) : ∃ C, ExcCls K mg x C :=
  let ⟨q, k, b, t⟩ := He.exc_ok c; ⟨_, ⟨He.glo_ok X G g, q, k, b, t⟩⟩
/-- the law's end -/
theorem law_walk {l : PySem.W.OpenLaw} {k : Nat} {q : Program} {lo : List Str} {XP : (Str → Option Value) → Heap → Prop} {YP : World → Heap → Prop} {d : DefRec} {x : Str} {fn : List D → FR} (hn : l.most = some 63) (hdf : d.params.defaults = []) (hna : d.name = ("law" : Str)) (hr : Room k callerA)
    (hfn : ∀ ns : List Int, ns.length ≤ 63 → fn [.lst (ns.map D.int)] = .ok (.bl true))
    (hY : ∀ (w : World) (mg : Str → Option Value) (h : Heap), YP w h → h.Ns mainGlobals mg → ∃ K : PySem.W.Frag, K.In h ∧ Ok1 l.prog w K mg "law" [x] k (spV K mg fn)) :
    PySem.W.WalkO q lo XP YP l.row.toRowW d [] (fun f vs => PySem.call f vs) :=
  Att.attach_call hn hdf fun w sa sb mg mb fa ob pm cd doc ad vals ns Gd Yd hob hdd hcd hmg hobj hints hlen hge => by
    obtain ⟨K, KX, f, fd, g, kp, b, F⟩ := hY w mg _ Yd Gd.T.g
    rw [hna] at hmg
    cases g.symm.trans hmg
    refine law_call KX Gd.T.g Gd.T.b Gd.T.builtins Gd.T.nolimit hge hobj hints (Nat.le_trans hlen (by decide)) hr (CX := L2.CX l.prog w)
      (fun base _ _ => F base) (fun s u => b s [u] rfl) (fun H hO hS => law_ok hfn H ad ns hlen hS) fun H e s' z => ?_
    obtain ⟨_, _, _, _, _, _, _, _, _, _, _, _, hE⟩ := z
    exact hE
end VL

/-! VL11: tokens; loops over own lists; try. -/
namespace VL
open PySem PySem.Spec PyProof.Rows L2
section
variable {K : PySem.W.Frag} {mg : Str → Option Value} {G : Gr} {B B' H H' : Hp} {σ σ' : L2.St} {e e' : Env} {i n : Nat} {p : Addr}
theorem clrTk_tk {m : Nat} : clrTk n (.tk m) = if m = n then .no else .tk m := rfl
theorem SlOk.owI {v : Option V} {b : Bool} {ds : List D} (h : SlOk K G B H v (.ow b ds)) : ∃ p o, v = some (.ref p) ∧ B p = none ∧ G.H p = none ∧ H p = some o ∧ OwR K B b o ds := by
  cases h with
  | ow a1 a2 a3 a4 => exact ⟨_, _, rfl, a1, a2, a3, a4⟩
theorem SlOk.tkI {v : Option V} {m : Nat} (h : SlOk K G B H v (.tk m)) : v = some (.ref (G.tok m)) := by
  cases h
  rfl
theorem clr_get {s : Sl} (h : (clrE n e)[i]? = some s) : ∃ s0, e[i]? = some s0 ∧ s = clrTk n s0 := by
  unfold clrE at h
  rw [List.getElem?_map] at h
  cases z : e[i]? with
  | none => rw [z] at h; cases h
  | some s0 => rw [z] at h; cases h; exact ⟨s0, rfl, rfl⟩
theorem clr_len : (clrE n e).length = e.length := List.length_map ..
theorem clr_ow {b : Bool} {ds : List D} (h : (clrE n e)[i]? = some (.ow b ds)) : e[i]? = some (.ow b ds) := by
  obtain ⟨s0, h0, h1⟩ := clr_get h
  cases s0 with
  | ow b' ds' => cases h1; exact h0
  | no => cases h1
  | sh d => cases h1
  | tk m =>
    rw [clrTk_tk] at h1
    by_cases q : m = n
    · rw [if_pos q] at h1; cases h1
    · rw [if_neg q] at h1; cases h1
theorem SlOk.clrU {v : Option V} {s : Sl} (h : SlOk K (GT G n p) B H v s) : SlOk K G B H v (clrTk n s) := by
  cases h with
  | no => exact .no
  | sh r => exact .sh r
  | ow a b c d => exact .ow a b c d
  | @tk m =>
    rw [clrTk_tk]
    by_cases q : m = n
    · rw [if_pos q]; exact .no
    · rw [if_neg q]
      have e : (GT G n p).tok m = G.tok m := if_neg q
      rw [e]
      exact .tk
theorem SlOk.clrD {v : Option V} {s : Sl} (h : SlOk K G B H v s) : SlOk K (GT G n p) B H v (clrTk n s) := by
  cases h with
  | no => exact .no
  | sh r => exact .sh r
  | ow a b c d => exact .ow a b c d
  | @tk m =>
    rw [clrTk_tk]
    by_cases q : m = n
    · rw [if_pos q]; exact .no
    · rw [if_neg q]
      have e : G.tok m = (GT G n p).tok m := (if_neg q).symm
      rw [e]
      exact .tk
theorem Sto.untok (S : Sto K (GT G n p) B H σ e) : Sto K G B H σ (clrE n e) where
  len := by rw [clr_len]; exact S.len
  sl := fun j s h => by
    obtain ⟨s0, h0, rfl⟩ := clr_get h
    obtain ⟨v, hv, ok⟩ := S.sl j s0 h0
    exact ⟨v, hv, ok.clrU⟩
  dis := fun j k q b b' ds ds' h1 h2 h3 h4 => S.dis j k q b b' ds ds' (clr_ow h1) (clr_ow h2) h3 h4
  sub := S.sub
  b0 := S.b0
  keep := S.keep
  dom := S.dom
  new := S.new
  iom := S.iom
theorem Sto.tokAt (S : Sto K G B H σ (e.set i .no)) (hi : i < e.length) (hσ : σ[i]? = some (some (.ref p))) : Sto K (GT G n p) B H σ ((clrE n e).set i (.tk n)) where
  len := by
    have := S.len
    rw [List.length_set] at this ⊢
    rw [clr_len]; exact this
  sl := fun j s h => by
    by_cases q : i = j
    · subst q
      rw [List.getElem?_set_self (by rw [clr_len]; exact hi)] at h
      cases h
      have e1 : p = (GT G n p).tok n := (if_pos rfl).symm
      refine ⟨_, hσ, ?_⟩
      exact Eq.subst (motive := fun z => SlOk K (GT G n p) B H (some (.ref z)) (.tk n)) e1.symm .tk
    · rw [List.getElem?_set_ne q] at h
      obtain ⟨s0, h0, rfl⟩ := clr_get h
      obtain ⟨v, hv, ok⟩ := S.sl j s0 (by rw [List.getElem?_set_ne q]; exact h0)
      exact ⟨v, hv, ok.clrD⟩
  dis := fun j k q b b' ds ds' h1 h2 h3 h4 => by
    have nj : i ≠ j := fun z => by
      subst z
      rw [List.getElem?_set_self (by rw [clr_len]; exact hi)] at h1
      cases h1
    have nk : i ≠ k := fun z => by
      subst z
      rw [List.getElem?_set_self (by rw [clr_len]; exact hi)] at h2
      cases h2
    rw [List.getElem?_set_ne nj] at h1
    rw [List.getElem?_set_ne nk] at h2
    exact S.dis j k q b b' ds ds' (by rw [List.getElem?_set_ne nj]; exact clr_ow h1) (by rw [List.getElem?_set_ne nk]; exact clr_ow h2) h3 h4
  sub := S.sub
  b0 := S.b0
  keep := S.keep
  dom := S.dom
  new := S.new
  iom := S.iom
/-- the meaning as a wish -/
def canS (K : PySem.W.Frag) (mg : Str → Option Value) (W : Am K) (k : Bool) (m : MS) : TS := fun D σ H => ∃ (G : Gr) (B : Hp) (e : Env), W.g G ∧ Sto K G B H σ e ∧ PoS K mg W k G B D (m e)
theorem rs_can {W : Am K} {k : Bool} {m : MS} : RdS K mg W k (canS K mg W k m) m := fun G hG B H σ e D S h => ⟨G, B, e, hG, S, h⟩
end
theorem VSs.can {X : Cx} {W : Am X.K} {k : Bool} {s : List Stmt} {m : MS} (h : VSs X W k s m) : PSs X s (canS X.K X.mg W k m) := by
  obtain ⟨t, p, r⟩ := h
  exact ⟨fun pins s σ H D I ⟨G, B, e, hG, S, q⟩ => p.run pins s σ H D I (r G hG B H σ e D S q)⟩
section
variable {K : PySem.W.Frag} {mg : Str → Option Value} {W : Am K} {k : Bool}
theorem RetOk.clr {G : Gr} {B H : Hp} {σ : L2.St} {e : Env} {n : Nat} {p : Addr} {v : V} {d : D} (h : RetOk K k (GT G n p) B H σ e v d) : RetOk K k G B H σ (clrE n e) v d := by
  unfold RetOk at *
  split
  · rename_i hk
    rw [if_pos hk] at h
    obtain ⟨rs, rfl, q, vs, e1, e2, e3, e4, e5, e6⟩ := h
    exact ⟨rs, rfl, q, vs, e1, e2, e3, e4, fun ⟨j, b, ds, h1, h2⟩ => e5 ⟨j, b, ds, clr_ow h1, h2⟩, e6⟩
  · rename_i hk
    rw [if_neg hk] at h
    exact h
theorem RetOk.unreb {G : Gr} {B0 H0 B H : Hp} {σ0 σ : L2.St} {e0 e : Env} {v : V} {d : D} (S : Sto K G B0 H0 σ0 e0) (h : RetOk K k (reb G B0 H0 σ0 e0) B H σ e v d) : RetOk K k G B H σ e v d := by
  unfold RetOk at *
  split
  · rename_i hk
    rw [if_pos hk] at h
    obtain ⟨rs, rfl, q, vs, e1, e2, e3, e4, e5, e6⟩ := h
    refine ⟨rs, rfl, q, vs, e1, e2, e3, ?_, e5, e6⟩
    cases z : G.H q with
    | none => rfl
    | some o =>
      exfalso
      have h1 := S.dom q (by rw [z]; simp)
      have h2 : ¬ OwnF σ0 e0 q := fun w => by rw [(w.new S).1] at z; cases z
      have h3 : (reb G B0 H0 σ0 e0).H q = H0 q := if_neg h2
      rw [h3] at e4
      exact h1 e4
  · rename_i hk
    rw [if_neg hk] at h
    exact h
/-- a loop over an own list that is left alone -/
theorem rs_forO {i n : Nat} {g : TG} {o : List Nat} {gm : D → Env → Option Env} {t : TS} {b : MS} (hn : n ≠ 0) (hg : RdG K o g gm) (hb : RdS K mg W k t b) : RdS K mg W k (tFor (iSeq K (tVar i)) g t) (vForO n i gm b) := fun G hG B H σ e D S h => by
  unfold vForO at h
  cases z : e[i]? with
  | none => rw [z] at h; exact h.elim
  | some s =>
    rw [z] at h
    cases s with
    | no => exact h.elim
    | sh d => exact h.elim
    | tk m => exact h.elim
    | ow b0 ds =>
      cases b0 with
      | true => exact h.elim
      | false =>
        obtain ⟨v, hv, ok⟩ := S.sl i _ z
        cases ok with
        | @ow _ p _ _ hB hg0 hp hr =>
          cases hr with
          | @lst vs _ hr =>
          have hi : i < e.length := (List.getElem?_eq_some_iff.mp z).1
          have S2 := S.lose i
          have npO : ¬ OwnF σ (e.set i .no) p := fun ⟨j, b', ds', h1, h2⟩ => by
            by_cases q : i = j
            · subst q
              rw [List.getElem?_set_self hi] at h1
              cases h1
            · rw [List.getElem?_set_ne q] at h1
              exact q (S.dis i j p _ _ _ _ z h1 hv h2)
          have hRp : (reb G B H σ (e.set i .no)).H p = some (.lst vs) := (if_neg npO).trans hp
          have S3 := S2.reb
          have S4 := S3.tokAt (n := n) hi hv
          have hG4 : W.g (GT (reb G B H σ (e.set i .no)) n p) := W.gtk _ n p hn (W.reb G B H σ _ hG S2)
          have pio : p ∉ G.io := fun q => S.iom p q hg0
          refine ⟨.ref p, hv, .inl ⟨p, rfl, ⟨vs, SqL.of hp⟩, ?_⟩⟩
          have at' : ∀ {B' H' : Hp} {σ' : L2.St} {e' : Env}, Sto K (GT (reb G B H σ (e.set i .no)) n p) B' H' σ' e' → H' p = some (.lst vs) := fun S' => S'.keep p _ hRp pio
          dsimp only at h
          have key : PoS K mg W k (GT (reb G B H σ (e.set i .no)) n p) B D (forL gm b ds ((clrE n e).set i (.tk n))) := by
            cases r : forL gm b ds ((clrE n e).set i (.tk n)) with
            | nx e1 =>
              rw [r] at h
              intro σ' B' H' S' sB
              cases z1 : e1[i]? with
              | none => simp only [z1] at h; exact h.elim
              | some s1 =>
                cases s1 with
                | no => simp only [z1] at h; exact h.elim
                | sh d => simp only [z1] at h; exact h.elim
                | ow b1 d1 => simp only [z1] at h; exact h.elim
                | tk m =>
                  simp only [z1] at h
                  by_cases hm : m = n
                  · rw [if_pos hm] at h
                    subst hm
                    obtain ⟨v1, hv1, ok1⟩ := S'.sl i _ z1
                    have e2 : v1 = some (.ref p) := by
                      rw [ok1.tkI]
                      have : (GT (reb G B H σ (e.set i .no)) m p).tok m = p := if_pos rfl
                      rw [this]
                    subst e2
                    have hp' := at' S'
                    have bp' : B' p = none := by
                      cases q : B' p with
                      | none => rfl
                      | some o =>
                        exfalso
                        rcases S'.new p (by rw [q]; simp) with w | w
                        · exact w hB
                        · have w : (reb G B H σ (e.set i .no)).H p = none := w
                          rw [hRp] at w; cases w
                    have noO : ∀ (j : Nat) (b' : Bool) (ds' : List VL.D), e1[j]? = some (.ow b' ds') → σ'[j]? ≠ some (some (.ref p)) := fun j b' ds' h1 h2 => by
                      obtain ⟨v2, hv2, ok2⟩ := S'.sl j _ h1
                      rw [h2] at hv2
                      obtain ⟨p2, vs2, ev, a1, a2, a3, a4⟩ := ok2.owI
                      rw [ev] at hv2
                      cases hv2
                      · have a3 : (reb G B H σ (e.set i .no)).H p = none := a2
                        rw [hRp] at a3; cases a3
                    have U := Sto.unreb S2 S'.untok
                    have P := U.put i (v := .ref p) (s := .ow false ds) (.ow bp' hg0 hp' (.lst (hr.mono sB))) (fun b' ds' q e1' e2' j b'' ds'' hj h1 h2 => by
                      cases e2'
                      exact absurd h2 (noO j _ _ (clr_ow h1)))
                    have eσ : σ'.set i (some (.ref p)) = σ' := by
                      refine List.ext_getElem? fun j => ?_
                      by_cases q : i = j
                      · subst q
                        rw [List.getElem?_set_self (List.getElem?_eq_some_iff.mp hv1).1, hv1]
                      · rw [List.getElem?_set_ne q]
                    rw [eσ] at P
                    exact h σ' B' H' P sB
                  · rw [if_neg hm] at h; exact h.elim
            | rt d e1 =>
              rw [r] at h
              intro v σ' B' H' S' sB ro
              exact h v σ' B' H' (Sto.unreb S2 S'.untok) sB (RetOk.unreb S2 ro.clr)
            | err x e1 =>
              rw [r] at h
              intro c dd σ' B' H' S' sB xr
              exact h c dd σ' B' H' (Sto.unreb S2 S'.untok) sB xr
            | bk e1 => rw [r] at h; exact h.elim
            | ct e1 => rw [r] at h; exact h.elim
            | bot => rw [r] at h; exact h.elim
          refine ⟨fun j m σ' H' => m = ds.length - j ∧ ∃ e' B', Sto K (GT (reb G B H σ (e.set i .no)) n p) B' H' σ' e' ∧ Same B B' ∧ PoS K mg W k (GT (reb G B H σ (e.set i .no)) n p) B D (forL gm b (ds.drop j) e'), ⟨_, rfl, _, B, S4, Same.refl B, key⟩, ?_⟩
          rintro j m σ2 H2 ⟨rfl, e2, B2, S', s2, h2⟩
          have hq : SqL K H2 p vs := SqL.of (at' S')
          have lv := hr.length
          cases zj : ds[j]? with
          | none =>
            have hl : ds.length ≤ j := List.getElem?_eq_none_iff.mp zj
            rw [List.drop_eq_nil_of_le hl] at h2
            exact .inl ⟨⟨vs, hq, by omega⟩, (PoS.base s2 h2).nx S'⟩
          | some d =>
            have hl : j < ds.length := (List.getElem?_eq_some_iff.mp zj).1
            have hd : ds.drop j = d :: ds.drop (j + 1) := by
              rw [List.drop_eq_getElem_cons hl]
              have : ds[j] = d := (List.getElem?_eq_some_iff.mp zj).2
              rw [this]
            rw [hd] at h2
            obtain ⟨v, hvj, rv⟩ := hr.get zj
            refine .inr ⟨⟨vs, v, hq, hvj⟩, fun σ' H' => ∃ e' B', Sto K (GT (reb G B H σ (e.set i .no)) n p) B' H' σ' e' ∧ Same B B' ∧ PoS K mg W k (GT (reb G B H σ (e.set i .no)) n p) B D (forL gm b (ds.drop (j + 1)) e'), fun σ' H' ⟨e', B', q1, q2, q3⟩ => ⟨ds.length - (j + 1), by omega, rfl, e', B', q1, q2, q3⟩, fun x H3 hy => ?_⟩
            obtain ⟨eH, hx⟩ := hy
            subst eH
            have ex := hx vs hq
            rw [hvj] at ex
            cases ex
            unfold forL at h2
            cases w : gm d e2 with
            | none => rw [w] at h2; exact h2.elim
            | some e3 =>
              rw [w] at h2
              refine hg _ B2 _ σ2 e2 e3 v d _ S' (rv.mono s2) w fun σ4 S4' _ => ?_
              refine hb _ hG4 B2 _ σ4 e3 _ S4' ?_
              cases q : b e3 with
              | nx e4 => simp only [q] at h2; exact fun σ' B' H' S'' s' => ⟨e4, B', S'', s2.trans s', h2⟩
              | ct e4 => simp only [q] at h2; exact fun σ' B' H' S'' s' => ⟨e4, B', S'', s2.trans s', h2⟩
              | bk e4 => simp only [q] at h2; exact fun σ' B' H' S'' s' => h2 σ' B' H' S'' (s2.trans s')
              | rt d e4 => simp only [q] at h2; exact fun v σ' B' H' S'' s' => h2 v σ' B' H' S'' (s2.trans s')
              | err x e4 => simp only [q] at h2; exact fun c dd σ' B' H' S'' s' => h2 c dd σ' B' H' S'' (s2.trans s')
              | bot => simp only [q] at h2; exact h2
end
/-! ### a loop over an own list, try -/
section
variable {X : Cx} {W : Am X.K} {k : Bool} {pos p : Pos} {x : Str} {tg : Expr} {body : List Stmt} {mm : MS}
theorem vs_forO {o : List Nat} {g : D → Env → Option Env} (n i : Nat) (hp : PassesOwn (model X.prog X.w) X.A X.env X.xe) (hc : X.calm = true) (hg : VG X.K (at1 X) o tg g) (hb : VSs X W k body mm) (hn : n ≠ 0 := by decide) (hN : X.N[i]? = some x := by rfl) (hv : Vis X.env.scope x := by first | exact Or.inl rfl | exact Or.inr (Or.inl rfl) | exact Or.inr (Or.inr rfl)) (hd : (x == ("__debug__" : Str)) = false := by decide)
    (hcd : (x == ("__classdict__" : Str)) = false := by decide) (hs : ∀ z, foldedSetIterable (.Name x p) X.env z = pure z := by intro _; rfl) : VS X W k (.For tg (.Name x p) body [] pos) (vForO n i g mm) :=
  let ⟨_, p', r'⟩ := hg; let ⟨_, p2, r2⟩ := hb; ⟨_, ps_for hp hc (pi_seq (pe_var hN hv hd hcd)) (p' ()) p2 hs, rs_forO hn r' r2⟩
/-- the text's classes of errors, and which takes which -/
structure ExT (K : PySem.W.Frag) (mg : Str → Option Value) (names : List Str) (anc : Str → Str → Bool) (bi : List String) : Prop where
  top : ∀ y ∈ names, ∃ C, mg y = some (.ref C)
  exm : ∀ x ∈ names, ∀ y ∈ names, ∀ C D, mg x = some (.ref C) → mg y = some (.ref D) → PySem.W.exmOne K (.ref C) (.ref D) = some (anc x y)
  isi : ∀ x ∈ names, ∀ y ∈ names, ∀ C D, mg x = some (.ref C) → mg y = some (.ref D) → PySem.W.kitOne K (.ref C) (.ref D) = some (anc x y)
  isB : ∀ x ∈ names, ∀ t ∈ bi, ∀ C, mg x = some (.ref C) → PySem.W.kitOne K (.ref C) (.type t) = some (anc x t)
  cls : ∀ x ∈ names, ∀ C, mg x = some (.ref C) → ExcC K C
/-- within an except's suite: the error stands at a, nothing is raised -/
def Am.ex (K : PySem.W.Frag) (a : Addr) : Am K := ⟨fun _ _ _ _ => False, fun G => G.tok 0 = a, fun _ _ _ _ _ h _ => h, fun _ _ _ _ _ h _ => h, fun G n p hn h => (if_neg (Ne.symm hn)).trans h⟩
end
section
variable {K : PySem.W.Frag} {mg : Str → Option Value} {W : Am K} {k : Bool} {names : List Str} {anc : Str → Str → Bool} {bi : List String} {i : Nat} {y : Str} {m : MS} {h : Str → MS}
theorem ow_post {G : Gr} {B H : Hp} {σ : L2.St} {e : Env} {n i : Nat} {v : V} {d : D} (r : RetOk K k G B H σ e v d) (o : Option V) : RetOk K k G B H (σ.set i o) (e.set i .no) v d := by
  unfold RetOk at *
  split
  · rename_i hk
    rw [if_pos hk] at r
    obtain ⟨rs, rfl, q, vs, e1, e2, e3, e4, e5, e6⟩ := r
    refine ⟨rs, rfl, q, vs, e1, e2, e3, e4, fun ⟨j, b, ds, h1, h2⟩ => ?_, e6⟩
    by_cases z : i = j
    · subst z
      have hl := (List.getElem?_eq_some_iff.mp h1).1
      rw [List.length_set] at hl
      rw [List.getElem?_set_self hl] at h1
      cases h1
    · rw [List.getElem?_set_ne z] at h1 h2
      exact e5 ⟨j, b, ds, h1, h2⟩
  · rename_i hk
    rw [if_neg hk] at r
    exact r
/-- behind a token's time -/
theorem PoS.post {a : Addr} {G : Gr} {B : Hp} {D : Ends} {r : RS} (hi : True) (q : PoS K mg W k G B D (r.post 0 i .no)) :
    PoS K mg (Am.ex K a) k (GT G 0 a) B { nx := fun σ' H' => D.nx (σ'.set i none) H', rt := D.rt, bk := fun σ' H' => D.bk (σ'.set i none) H', ct := fun σ' H' => D.ct (σ'.set i none) H' } r := by
  cases r with
  | nx e' => exact fun σ' B' H' S' s => q (σ'.set i none) B' H' (S'.untok.drop i none) s
  | bk e' => exact fun σ' B' H' S' s => q (σ'.set i none) B' H' (S'.untok.drop i none) s
  | ct e' => exact fun σ' B' H' S' s => q (σ'.set i none) B' H' (S'.untok.drop i none) s
  | rt d e' => exact fun v σ' B' H' S' s ro => q v (σ'.set i none) B' H' (S'.untok.drop i none) s (ow_post (n := 0) ro.clr none)
  | err x e' => exact q.elim
  | bot => exact q.elim
theorem rs_tryAs {c : Addr} (T : ExT K mg names anc bi) (hy : y ∈ names) (hD : mg y = some (.ref c)) : RdS K mg W k (fun D σ H => canS K mg (W.to (wAs K (.ref c) i (fun a cls d D σ H => ∃ x, x ∈ names ∧ mg x = some cls ∧ d = none ∧ canS K mg (Am.ex K a) k (h x) D σ H) W.w D)) k m D σ H)
    (vTryAs names anc y i m h) := fun G hG B H σ e D S q => by
  refine ⟨G, B, e, hG, S, ?_⟩
  unfold vTryAs at q
  cases r : m e with
  | nx e' => simp only [r] at q; exact q
  | rt d e' => simp only [r] at q; exact q
  | bk e' => simp only [r] at q; exact q
  | ct e' => simp only [r] at q; exact q
  | bot => simp only [r] at q; exact q.elim
  | err x e1 =>
    simp only [r] at q
    intro cls dd σ' B' H' S' s xr
    obtain ⟨C, h1, h2, h3⟩ := xr
    cases xv : x.val with
    | some p => simp only [xv] at q; exact q.elim
    | none =>
      simp only [xv] at q h3
      subst h2 h3
      by_cases hx : x.cls ∈ names
      · rw [if_pos hx] at q
        refine ⟨anc x.cls y, T.exm x.cls hx y hy C c h1 hD, fun hb a ha => ?_, fun hb => ?_⟩
        · rw [if_pos hb] at q
          refine ⟨x.cls, hx, h1, rfl, GT G 0 a, B', (clrE 0 e1).set i (.tk 0), show (if (0 : Nat) = 0 then a else G.tok 0) = a from if_pos rfl, ?_, PoS.post trivial (PoS.base s q)⟩
          by_cases hi : i < e1.length
          · exact (S'.drop i (some (.ref a))).tokAt hi (List.getElem?_set_self (by rw [S'.len]; exact hi))
          · have z1 : (clrE 0 e1).set i (.tk 0) = clrE 0 e1 := List.set_eq_of_length_le (by rw [clr_len]; omega)
            have z2 : σ'.set i (some (.ref a)) = σ' := List.set_eq_of_length_le (by rw [S'.len]; omega)
            rw [z1, z2]
            exact (Sto.untok (G := GT G 0 a) (n := 0) (p := G.tok 0) (by
              have e2 : GT (GT G 0 a) 0 (G.tok 0) = G := by
                unfold GT
                cases G
                simp only [Gr.mk.injEq, true_and]
                funext m
                by_cases hm : m = 0
                · simp [hm]
                · simp [hm]
              rw [e2]
              exact S'))
        · rw [if_neg (by rw [hb]; exact Bool.false_ne_true)] at q
          exact q (.ref C) none σ' B' H' S' s ⟨C, h1, rfl, by rw [xv]⟩
      · rw [if_neg hx] at q; exact q.elim
end
section
variable {X : Cx} {W : Am X.K} {k : Bool} {pos np pos' : Pos} {n y : Str} {body suite : List Stmt} {b₀ : Stmt} {m : MS} {h : Str → MS} {names : List Str} {anc : Str → Str → Bool} {bi : List String}
theorem vs_tryAs (T : ExT X.K X.mg names anc bi) (i : Nat) (hs : X.stack = X.env :: X.outer) (hf : X.env.frame = some X.env.locals) (hN : X.N.Nodup) (tk : Takes X W.w)
    (hb : ∀ (Wx : WX) (pn : List (Addr × Obj)) (xe : Value → Shared → Prop), Takes (X.tr pn xe) Wx → PassesOwn (model X.prog X.w) X.A X.env xe → VSs (X.tr pn xe) (W.to Wx) k body m)
    (hsu : ∀ c, c ∈ names → ∀ (a : Addr) (oe : Obj) (C : Addr) (pn : List (Addr × Obj)), X.mg c = some (.ref C) → Zc (.ref C) none oe → (∃ vs, oe.data = .fields vs) → VSs (X.suite a ((a, oe) :: pn)) (Am.ex X.K a) k (b₀ :: suite) (h c))
    (hy : y ∈ names := by decide +kernel) (hi : X.N[i]? = some n := by rfl) (hln : X.env.kindOf n = some .local := by rfl) (hg : Gl X y := by rfl) (hdb : (y == ("__debug__" : Str)) = false := by decide) :
    VS X W k (.Try body [.ExceptHandler (some (.Name y np)) (some n) (b₀ :: suite) pos'] [] [] pos) (vTryAs names anc y i m h) := by
  obtain ⟨D, hD⟩ := T.top y hy
  refine ⟨_, ps_try_as (tb := fun Wx => canS X.K X.mg (W.to Wx) k m) (ts := fun a cls d D σ H => ∃ x, x ∈ names ∧ X.mg x = some cls ∧ d = none ∧ canS X.K X.mg (Am.ex X.K a) k (h x) D σ H) hs hf hN hi hln ⟨hg, hdb, .inl hD⟩ tk (fun Wx pn xe t p => (hb Wx pn xe t p).can) (fun a oe cls d pn hz hfl => ⟨fun pins s σ H D I ⟨c, hc, e1, e2, q⟩ => ?_⟩), rs_tryAs T hy hD⟩
  obtain ⟨C, hC⟩ := T.top c hc
  rw [hC] at e1
  cases e1
  subst e2
  exact (hsu c hc a oe C pn hC hz hfl).can.run pins s σ H D I q
end
/-- isinstance(e, y) of the error in hand -/
theorem ve_isE {X : Cx} {a C : Addr} {oe : Obj} {pn : List (Addr × Obj)} {c e y : Str} {pos p p1 p2 : Pos} {names : List Str} {anc : Str → Str → Bool} {bi : List String} (T : ExT X.K X.mg names anc bi) (hc : c ∈ names) (hC : X.mg c = some (.ref C)) (hz : Zc (.ref C) none oe) (hf : ∃ vs, oe.data = .fields vs) (i : Nat) (hm : X.mg "isinstance" = none)
    (hy : y ∈ names := by decide +kernel) (hN : X.N[i]? = some e := by rfl) (hv : Vis X.env.scope e := by first | exact Or.inl rfl | exact Or.inr (Or.inl rfl) | exact Or.inr (Or.inr rfl)) (hd : (e == ("__debug__" : Str)) = false := by decide) (hcd : (e == ("__classdict__" : Str)) = false := by decide) (hgy : Gl X y := by rfl) (hdy : (y == ("__debug__" : Str)) = false := by decide)
    (hb : bootBuiltins "isinstance" = some (.builtin "isinstance") := by decide +kernel) (hg : Gl X "isinstance" := by rfl) (he : starEach [.Name e p1, .Name y p2] X.env = (false, eval (.Name e p1) X.env) :: starEach [.Name y p2] X.env := by rfl) (he2 : starEach [(.Name y p2 : Expr)] X.env = (false, eval (.Name y p2) X.env) :: starEach [] X.env := by rfl)
    (hpl : (backTo pos (starEach [(.Name y p2 : Expr)] X.env)).any (·.1) = false := by rfl) : VE X.K X.mg (at1 (X.suite a ((a, oe) :: pn))) (Am.ex X.K a) (.Call (.Name "isinstance" p) [.Name e p1, .Name y p2] [] pos) (vIsE i (anc c y)) := by
  obtain ⟨D, hD⟩ := T.top y hy
  refine ⟨tCB (rIsE X.K C a) (tCons (tVar i) (tCons (tC (.ref D)) tNil)), fun _ => pe_callB (call_isE (X := X) (T.cls c hc C hC) hz hf) hg hm hb (pa_cons (pe_var hN hv hd hcd) (pa_cons (pe_glob hgy hD rfl hdy) pa_nil he2) he) (by decide) (by decide) he hpl, ⟨fun G hG B H σ e Q S q => ?_⟩⟩
  unfold vIsE at q
  cases z : e[i]? with
  | none => rw [z] at q; exact q.elim
  | some s =>
    cases s with
    | tk t =>
      cases t with
      | succ t => rw [z] at q; exact q.elim
      | zero =>
        simp only [z] at q
        obtain ⟨v, hv', ok⟩ := S.sl i _ z
        have e1 := ok.tkI
        have hG : G.tok 0 = a := hG
        rw [hG] at e1
        subst e1
        exact ⟨_, hv', .ref D, .ref D, anc c y, rfl, fun u r => by cases r; rfl, T.isi c hc y hy C D hC hD, Po.here q S (.bl _)⟩
    | no => rw [z] at q; exact q.elim
    | sh d => rw [z] at q; exact q.elim
    | ow b d => rw [z] at q; exact q.elim
theorem ve_isEB {X : Cx} {a C : Addr} {oe : Obj} {pn : List (Addr × Obj)} {c e : Str} {t : String} {y : Str} {pos p p1 p2 : Pos} {names : List Str} {anc : Str → Str → Bool} {bi : List String} (T : ExT X.K X.mg names anc bi) (hc : c ∈ names) (hC : X.mg c = some (.ref C)) (hz : Zc (.ref C) none oe) (hf : ∃ vs, oe.data = .fields vs) (i : Nat) (hm : X.mg "isinstance" = none) (hmy : X.mg y = none) (hby : bootBuiltins y = some (.type t))
    (hy : t ∈ bi := by decide +kernel) (hN : X.N[i]? = some e := by rfl) (hv : Vis X.env.scope e := by first | exact Or.inl rfl | exact Or.inr (Or.inl rfl) | exact Or.inr (Or.inr rfl)) (hd : (e == ("__debug__" : Str)) = false := by decide) (hcd : (e == ("__classdict__" : Str)) = false := by decide) (hgy : Gl X y := by rfl) (hdy : (y == ("__debug__" : Str)) = false := by decide) (hny : y ≠ "__name__" := by decide)
    (hb : bootBuiltins "isinstance" = some (.builtin "isinstance") := by decide +kernel) (hg : Gl X "isinstance" := by rfl) (he : starEach [.Name e p1, .Name y p2] X.env = (false, eval (.Name e p1) X.env) :: starEach [.Name y p2] X.env := by rfl) (he2 : starEach [(.Name y p2 : Expr)] X.env = (false, eval (.Name y p2) X.env) :: starEach [] X.env := by rfl)
    (hpl : (backTo pos (starEach [(.Name y p2 : Expr)] X.env)).any (·.1) = false := by rfl) : VE X.K X.mg (at1 (X.suite a ((a, oe) :: pn))) (Am.ex X.K a) (.Call (.Name "isinstance" p) [.Name e p1, .Name y p2] [] pos) (vIsE i (anc c t)) := by
  refine ⟨tCB (rIsE X.K C a) (tCons (tVar i) (tCons (tC (.ty t)) tNil)), fun _ => pe_callB (call_isE (X := X) (T.cls c hc C hC) hz hf) hg hm hb (pa_cons (pe_var hN hv hd hcd) (pa_cons (pe_bltn (v := .ty t) hgy hmy hby rfl hny hdy) pa_nil he2) he) (by decide) (by decide) he hpl, ⟨fun G hG B H σ e Q S q => ?_⟩⟩
  unfold vIsE at q
  cases z : e[i]? with
  | none => rw [z] at q; exact q.elim
  | some s =>
    cases s with
    | tk n =>
      cases n with
      | succ n => rw [z] at q; exact q.elim
      | zero =>
        simp only [z] at q
        obtain ⟨v, hv', ok⟩ := S.sl i _ z
        have e1 := ok.tkI
        have hG : G.tok 0 = a := hG
        rw [hG] at e1
        subst e1
        exact ⟨_, hv', .ty t, .type t, anc c t, rfl, fun u r => by cases r; rfl, T.isB c hc t hy C hC, Po.here q S (.bl _)⟩
    | no => rw [z] at q; exact q.elim
    | sh d => rw [z] at q; exact q.elim
    | ow b d => rw [z] at q; exact q.elim
/-! ### the head: facts of one's own -/
def hookX (n : Nat) (fa : List He.Fa) (fn : List He.DefD) (fx : PySem.W.Frag → Bool) : PySem.W.Hook where
  α := He.AlD × Bool
  obs := fun s => (He.obsD fa fn (He.frG s.heap.get? (He.asD s.heap.get? n)), fx (He.frG s.heap.get? (He.asD s.heap.get? n)))
  val := fun _ => (He.valD fn, true)
  says := fun _ h => ∃ K : PySem.W.Frag, K.In h ∧ He.SaysD fa fn K ∧ fx K = true
  of := fun w s q => ⟨He.frG s.heap.get? (He.asD s.heap.get? n), He.frG_in, (Prod.mk.inj q).1, (Prod.mk.inj q).2⟩
  keeps := fun w h h' z k => let ⟨K, hK, c, d⟩ := z; ⟨K, PySem.W.Frag.In.keeps hK k, c, d⟩
def obX (n : Nat) (fa : List He.Fa) (fn : List He.DefD) (fx : PySem.W.Frag → Bool) (g : Addr → Option Obj) : He.AlD × Bool := (He.obsD fa fn (He.frG g (He.asD g n)), fx (He.frG g (He.asD g n)))
theorem obX_eq {n : Nat} {fa : List He.Fa} {fn : List He.DefD} {fx : PySem.W.Frag → Bool} {g : Addr → Option Obj} {s : Shared} (h : ∀ a, g a = s.heap.get? a) : obX n fa fn fx g = (hookX n fa fn fx).obs s := by
  cases (funext h : g = s.heap.get?)
  exact rfl
def excCB (K : PySem.W.Frag) (D : Addr) : Bool := decide (PySem.W.findIn K (.ref D) "__getattribute__" = some (some (.builtin "BaseException.__getattribute__"))) && (decide (PySem.W.findIn K (.ref D) "__getattr__" = some none) && (decide (PySem.W.subIn K (.ref D) (.type "BaseException") = some true) && (PySem.W.hasDictIn K D &&
  (decide (PySem.W.findIn K (.ref D) "__class__" = some (some (.builtin "object.__class__"))) && (decide (PySem.W.specialIn K (.builtin "object.__class__") "__get__" = some (some (.builtin "getset_descriptor.__get__"))) && (decide (PySem.W.takesIn K (.builtin "object.__class__") = some true) && decide (PySem.W.mroIn K D (.type "object") = some true)))))))
theorem excCB_ok {K : PySem.W.Frag} {D : Addr} (h : excCB K D = true) : ExcC K D := by
  unfold excCB at h
  simp only [Bool.and_eq_true, decide_eq_true_eq] at h
  obtain ⟨h1, h2, h3, h4, h5, h6, h7, h8⟩ := h
  exact ⟨h1, h2, h3, h4, h5, h6, h7, h8⟩
def exOk (names : List Str) (anc : Str → Str → Bool) (bi : List String) (K : PySem.W.Frag) : Bool := names.all fun x => (He.Fa.glo x).ok K && (excCB K (He.ga K x) &&
  ((names.all fun y => decide (PySem.W.exmOne K (.ref (He.ga K x)) (.ref (He.ga K y)) = some (anc x y)) && decide (PySem.W.kitOne K (.ref (He.ga K x)) (.ref (He.ga K y)) = some (anc x y))) && (bi.all fun t => decide (PySem.W.kitOne K (.ref (He.ga K x)) (.type t) = some (anc x t)))))
theorem exT_of {K : PySem.W.Frag} {h : Heap} {mg : Str → Option Value} {names : List Str} {anc : Str → Str → Bool} {bi : List String} (X : K.In h) (G : h.Ns mainGlobals mg) (c : exOk names anc bi K = true) : ExT K mg names anc bi := by
  unfold exOk at c
  rw [List.all_eq_true] at c
  have one : ∀ x ∈ names, (He.Fa.glo x).ok K = true ∧ excCB K (He.ga K x) = true ∧ (∀ y ∈ names, PySem.W.exmOne K (.ref (He.ga K x)) (.ref (He.ga K y)) = some (anc x y) ∧ PySem.W.kitOne K (.ref (He.ga K x)) (.ref (He.ga K y)) = some (anc x y)) ∧ ∀ t ∈ bi, PySem.W.kitOne K (.ref (He.ga K x)) (.type t) = some (anc x t) := fun x hx => by
    have q := c x hx
    simp only [Bool.and_eq_true, List.all_eq_true, decide_eq_true_eq] at q
    exact ⟨q.1, q.2.1, q.2.2.1, q.2.2.2⟩
  have at' : ∀ x ∈ names, ∀ C, mg x = some (.ref C) → C = He.ga K x := fun x hx C hC => by
    have e := (He.glo_ok X G (one x hx).1).symm.trans hC
    cases e
    rfl
  exact ⟨fun y hy => ⟨_, He.glo_ok X G (one y hy).1⟩, fun x hx y hy C D hC hD => by rw [at' x hx C hC, at' y hy D hD]; exact ((one x hx).2.2.1 y hy).1,
    fun x hx y hy C D hC hD => by rw [at' x hx C hC, at' y hy D hD]; exact ((one x hx).2.2.1 y hy).2, fun x hx t ht C hC => by rw [at' x hx C hC]; exact (one x hx).2.2.2 t ht, fun x hx C hC => by rw [at' x hx C hC]; exact excCB_ok (one x hx).2.1⟩
/-! ### what a module's name stands for -/
def GCon (K : PySem.W.Frag) (mg : Str → Option Value) (x : Str) (d : D) : Prop := ∃ (v : V) (u : Value), mg x = some u ∧ RelV v u ∧ ∀ B, Rep K B v d
theorem ve_con {ι : Type} {K : PySem.W.Frag} {mg : Str → Option Value} {X : ι → Cx} {W : Am K} {pos : Pos} {x : Str} {d : D} (h : GCon K mg x d) (hm : ∀ j, (X j).mg = mg := by intro _; rfl) (hg : ∀ j, Gl (X j) x := by intro _; rfl) (hd : (x == ("__debug__" : Str)) = false := by decide) : VE K mg X W (.Name x pos) (vC d) :=
  let ⟨_, _, e, r, rd⟩ := h; ve_glob (fun j => by rw [hm j]; exact e) r rd hg hd
/-- plain values of a tuple -/
def dvD : He.Dv → Option D
  | .non => some .non
  | .bl b => some (.bl b)
  | .int i => some (.int i)
  | .str x => some (.str x)
  | _ => none
theorem dvs_rep {K : PySem.W.Frag} {B : Hp} : ∀ {vs : List He.Dv} {ds : List D}, vs.map dvD = ds.map some → Reps K B (vs.map (He.Dv.v K)) ds
  | [], [], _ => .nil
  | [], d :: ds, h => by cases h
  | v :: vs, [], h => by cases h
  | v :: vs, d :: ds, h => by
    rw [List.map_cons, List.map_cons] at h
    have h1 : dvD v = some d := (List.cons.inj h).1
    refine .cons ?_ (dvs_rep (List.cons.inj h).2)
    cases v <;> first | (cases h1; constructor) | cases h1
theorem gcon_tup {K : PySem.W.Frag} {h : Heap} {mg : Str → Option Value} {x : Str} {vs : List He.Dv} {ds : List D} (X : K.In h) (G : h.Ns mainGlobals mg) (c : ((He.Fa.glo x).ok K && He.tupB K x vs) = true) (e : vs.map dvD = ds.map some) : GCon K mg x (.tup ds) := by
  obtain ⟨c1, c2⟩ := He.ba c
  exact ⟨.ref (He.ga K x), .ref (He.ga K x), He.glo_ok X G c1, rfl, fun B => .tup (He.tupB_ok c2 B) (dvs_rep e)⟩
theorem gcon_int {K : PySem.W.Frag} {h : Heap} {mg : Str → Option Value} {x : Str} {i : Int} (X : K.In h) (G : h.Ns mainGlobals mg) (c : (He.Fa.int x i).ok K = true) : GCon K mg x (.int i) :=
  let ⟨t, e⟩ := He.int_ok X G c; ⟨.int i, _, e, ⟨t, rfl⟩, fun _ => .int i⟩
theorem gcon_str {K : PySem.W.Frag} {h : Heap} {mg : Str → Option Value} {x z : Str} (X : K.In h) (G : h.Ns mainGlobals mg) (c : (He.Fa.str x z).ok K = true) : GCon K mg x (.str z) :=
  let ⟨t, e⟩ := He.str_ok X G c; ⟨.str z, _, e, ⟨t, rfl⟩, fun _ => .str z⟩
/-! ### displays of dicts -/
section
variable {K : PySem.W.Frag} {mg : Str → Option Value} {W : Am K}
def rpP (K : PySem.W.Frag) : RP (List (D × D)) (List (V × V)) := fun _ B _ _ _ vs ds => Reps K B (vs.map (·.1)) (ds.map (·.1)) ∧ Reps K B (vs.map (·.2)) (ds.map (·.2))
theorem rd_pnil : RdX K mg W (rpP K) (tPairs []) vPN where
  run := fun G hG B H σ e Q S h => Po.here h S ⟨.nil, .nil⟩
theorem rd_pcons {tk tv : TE} {trs : List (TE × TE)} {mk mv : ME} {r : MQ} (hk : RdE K mg W tk mk) (hv : RdE K mg W tv mv) (hr : RdX K mg W (rpP K) (tPairs trs) r) : RdX K mg W (rpP K) (tPairs ((tk, tv) :: trs)) (vPC mk mv r) where
  run := fun G hG B H σ e Q S h => by
    refine hk.run G hG B H σ e _ S (Po.bind h fun x e1 v1 B1 H1 S1 s1 r1 h1 => ?_)
    refine hv.run G hG B1 H1 σ e1 _ S1 (Po.bind h1 fun y e2 v2 B2 H2 S2 s2 r2 h2 => ?_)
    refine hr.run G hG B2 H2 σ e2 _ S2 (Po.bind h2 fun ps e3 vs B3 H3 S3 s3 r3 h3 => ?_)
    have a1 : Rep K B1 v1 x := r1
    have a2 : Rep K B2 v2 y := r2
    exact Po.here h3 S3 ⟨.cons ((a1.mono s2).mono s3) r3.1, .cons (a2.mono s3) r3.2⟩
theorem keys_rep {B : Hp} : ∀ {ps : List (V × V)} {ds : List D} {ks : List Ky}, Reps K B (ps.map (·.1)) ds → keysD ds = some ks → ∃ kvs : List (Key × V), ps = kvs.map (fun kv => (kV kv.1, kv.2)) ∧ kvs.map (·.1) = ks ∧ kvs.map (·.2) = ps.map (·.2)
  | [], [], ks, _, h => by cases h; exact ⟨[], rfl, rfl, rfl⟩
  | [], d :: ds, ks, r, h => by cases r
  | p :: ps, [], ks, r, h => by cases r
  | p :: ps, d :: ds, ks, r, h => by
    rw [List.map_cons] at r
    cases r with
    | cons r1 rr =>
      unfold keysD at h
      cases z : keyD d with
      | none => simp only [z] at h; cases h
      | some k =>
        simp only [z] at h
        cases w : keysD ds with
        | none => rw [w] at h; cases h
        | some ks' =>
          rw [w] at h
          cases h
          obtain ⟨kvs, e1, e2, e3⟩ := keys_rep rr w
          refine ⟨(k, p.2) :: kvs, ?_, by rw [List.map_cons, e2], by rw [List.map_cons, List.map_cons, e3]⟩
          rw [List.map_cons, ← e1, ← keyD_V r1 z]
theorem merge_app : ∀ (more acc : List (Key × V)), ((acc ++ more).map (·.1)).Nodup → mergeK acc more = acc ++ more
  | [], acc, _ => by simp [mergeK]
  | p :: r, acc, h => by
    have e : putK acc p.1 p.2 = acc ++ [p] := by
      unfold putK
      rw [if_neg]
      intro q
      obtain ⟨kv, h1, h2⟩ := List.any_eq_true.mp q
      have h2 : kv.1 = p.1 := of_decide_eq_true h2
      rw [List.map_append, List.map_cons, List.nodup_append] at h
      exact h.2.2 kv.1 (List.mem_map.mpr ⟨kv, h1, rfl⟩) p.1 List.mem_cons_self h2
    show mergeK (putK acc p.1 p.2) r = _
    rw [e, merge_app r (acc ++ [p]) (by simpa using h)]
    simp
theorem rd_disp {trs : List (TE × TE)} {r : MQ} (hr : RdX K mg W (rpP K) (tPairs trs) r) : RdE K mg W (tDisp trs) (vDisp r) where
  run := fun G hG B H σ e Q S h => by
    intro p hp
    have S1 : Sto K G B (upd H p (.dK [])) σ e := S.loose hp
    have gp := S.fresh hp
    have bp : B p = none := S.sub.free hp
    have npO : ¬ OwnF σ e p := fun q => by
      obtain ⟨i, b, ds, h1, h2⟩ := q
      obtain ⟨v, hv, ok⟩ := S.sl i _ h1
      obtain ⟨p2, vs2, ev, a1, a2, a3, a4⟩ := ok.owI
      rw [h2, ev] at hv
      cases hv
      rw [hp] at a3; cases a3
    have hRp : (reb G B (upd H p (.dK [])) σ e).H p = some (.dK []) := (if_neg npO).trans upd_same
    have pio : p ∉ G.io := fun q => S.iom p q gp
    refine hr.run _ (W.reb G B _ σ e hG S1) B _ σ e _ S1.reb ?_
    unfold vDisp at h
    cases q : r e with
    | bot => rw [q] at h; exact h.elim
    | err x e1 =>
      rw [q] at h
      intro c dd B' H' S' s xr
      exact h c dd B' H' (Sto.unreb S1 S') s xr
    | ok ps e1 =>
      rw [q] at h
      intro vs B2 H2 S2 s2 rp
      have hp2 : H2 p = some (.dK []) := S2.keep p _ hRp pio
      refine ⟨hp2, ?_⟩
      obtain ⟨d, hd, h'⟩ := Po.of (R := rpE K) (Q := Q) (show Po K mg W (rpE K) G σ B Q (.of (dispD ps) e1) from h)
      unfold dispD at hd
      cases w : keysD (ps.map (·.1)) with
      | none => rw [w] at hd; cases hd
      | some ks =>
        simp only [w] at hd
        by_cases z : ks.Nodup ∧ ks.length ≤ 15
        · rw [if_pos z] at hd
          cases hd
          obtain ⟨kvs, e2, e3, e4⟩ := keys_rep rp.1 w
          have mk : mergeK [] kvs = kvs := by
            have := merge_app kvs [] (by rw [List.nil_append, e3]; exact z.1)
            rwa [List.nil_append] at this
          refine ⟨kvs, e2, by have := congrArg List.length e3; rw [List.length_map] at this; omega, ?_⟩
          rw [mk]
          have U := Sto.unreb S1 S2
          have b2 : B2 p = none := by
            cases q2 : B2 p with
            | none => rfl
            | some o =>
              exfalso
              rcases S2.new p (by rw [q2]; simp) with t | t
              · exact t bp
              · rw [hRp] at t; cases t
          have noO : ∀ (i : Nat) (b : Bool) (ds : List D), e1[i]? = some (.ow b ds) → σ[i]? ≠ some (some (.ref p)) := fun i b ds h1 h2 => by
            obtain ⟨v, hv, ok⟩ := S2.sl i _ h1
            obtain ⟨p2, vs2, ev, a1, a2, a3, a4⟩ := ok.owI
            rw [h2, ev] at hv
            cases hv
            rw [hRp] at a2; cases a2
          have P1 := U.poke (p := p) (o := .dK kvs) b2 gp noO
          have P2 := P1.take (p := p) (o := .dK kvs) upd_same b2 gp noO
          have sm : Same B2 (upd B2 p (.dK kvs)) := same_upd' b2
          exact h' (.ref p) _ _ P2 (s2.trans sm) (.dct (.inl upd_same) e3 (by rw [e4]; exact rp.2.mono sm))
        · rw [if_neg z] at hd; cases hd
end
section
variable {ι : Type} {K : PySem.W.Frag} {mg : Str → Option Value} {X : ι → Cx} {W : Am K} {pos : Pos}
def VQ (K : PySem.W.Frag) (mg : Str → Option Value) (X : ι → Cx) (W : Am K) (pos : Pos) (ks : List (Option Expr)) (vs : List Expr) (m : MQ) : Prop := ∃ t, (∀ i, PPs (X i) pos ks vs t) ∧ RdX K mg W (rpP K) (tPairs t) m
theorem vq_nil : VQ K mg X W pos [] [] vPN := ⟨[], fun _ => pps_nil, rd_pnil⟩
theorem vq_cons {k v : Expr} {ks : List (Option Expr)} {vs : List Expr} {mk mv : ME} {r : MQ} (hk : VE K mg X W k mk) (hv : VE K mg X W v mv) (hr : VQ K mg X W pos ks vs r) : VQ K mg X W pos (some k :: ks) (v :: vs) (vPC mk mv r) :=
  let ⟨tk, p1, r1⟩ := hk; let ⟨tv, p2, r2⟩ := hv; let ⟨t, p3, r3⟩ := hr; ⟨(tk, tv) :: t, fun i => pps_cons (p1 i) (p2 i) (p3 i), rd_pcons r1 r2 r3⟩
theorem ve_disp {ks : List (Option Expr)} {vs : List Expr} {r : MQ} (h : VQ K mg X W pos ks vs r) (hall : ks.all (·.isSome) = true := by rfl) (hl : ks.length = vs.length := by rfl) (h0 : ks ≠ [] := by simp) (h15 : ks.length ≤ 15 := by simp) : VE K mg X W (.Dict ks vs pos) (vDisp r) :=
  let ⟨t, p, q⟩ := h; ⟨tDisp t, fun i => pe_disp (p i) hall hl h0 h15, rd_disp q⟩
/-- a call of a built-in type that gives a plain value -/
theorem ve_bt {T : String} {x : Str} {p : Pos} {e : Expr} {es : List Expr} {ms : MA} {f : List D → Option D} (hc : ∀ j, CallR (X j) (.type T) (rDatC K f)) (hm : ∀ j, (X j).mg x = none) (hv : bootBuiltins x = some (.type T)) (ha : VA K mg X W (e :: es) ms) (hg : ∀ j, Gl (X j) x := by intro _; rfl) (hn : x ≠ "__name__" := by decide) (hdb : (x == ("__debug__" : Str)) = false := by decide)
    (he : ∀ j, starEach (e :: es) (X j).env = (false, eval e (X j).env) :: starEach es (X j).env := by intro _; rfl) (hpl : ∀ j, (backTo pos (starEach es (X j).env)).any (·.1) = false := by intro _; rfl) : VE K mg X W (.Call (.Name x p) (e :: es) [] pos) (vBf f ms) :=
  let ⟨_, p, r⟩ := ha; ⟨_, fun i => pe_callTy (hc i) (hg i) (hm i) hv (p i) hn hdb (he i) (hpl i), rd_bf r⟩
end
theorem cd_str {X : Cx} : CallR X (.type "str") (rDatC X.K bfStr) := by
  intro pins s σ H xs us Q I r h
  obtain ⟨G, B, σ', e, ds, d, S, rr, hd, h⟩ := h
  unfold bfStr at hd
  split at hd
  · rename_i i
    split at hd
    · rename_i hz
      cases hd
      cases rr with
      | cons r1 r2 =>
        cases r2
        cases r1
        exact call_str_int pins s σ H _ us Q I r ⟨i, rfl, hz, h _ B H S (Same.refl B) (.str _)⟩
    · cases hd
  · cases hd
/-! ### methods of texts -/
section
variable {K : PySem.W.Frag} {mg : Str → Option Value} {W : Am K}
theorem rd_m1 {r : V → List V → Hp → VK → Prop} {op : Str → D → Option D} {ta tb : TE} {ma mb : ME} (hr : ∀ (G : Gr) (B H : Hp) (σ : L2.St) (e : Env) (z : Str) (y : V) (b d : D) (Q : VK), Sto K G B H σ e → Rep K B y b → op z b = some d → Po K mg W (rpE K) G σ B Q (.ok d e) → r (.str z) [y] H Q)
    (ha : RdE K mg W ta ma) (hb : RdE K mg W tb mb) : RdE K mg W (tM1 r ta tb) (vM1 op ma mb) where
  run := fun G hG B H σ e Q S h => by
    refine ha.run G hG B H σ e _ S (Po.bind h fun x e1 v B1 H1 S1 s1 r1 h1 => ?_)
    have r1 : Rep K B1 v x := r1
    cases x with
    | str z =>
      cases r1
      refine ⟨⟨z, rfl⟩, hb.run G hG B1 H1 σ e1 _ S1 (Po.bind h1 fun y e2 w B2 H2 S2 s2 r2 h2 => ?_)⟩
      obtain ⟨d, hd, h3⟩ := Po.of h2
      exact hr G B2 H2 σ e2 z w y d Q S2 r2 hd h3
    | _ => exact h1.elim
end
theorem ve_strip {ι : Type} {K : PySem.W.Frag} {mg : Str → Option Value} {X : ι → Cx} {W : Am K} {pos apos : Pos} {o e : Expr} {ma mb : ME} (ha : VE K mg X W o ma) (hb : VE K mg X W e mb) (hs : ∀ j, starEach [e] (X j).env = [(false, eval e (X j).env)] := by intro _; rfl)
    (hbase : ∀ j, attributeBase o "strip" (X j).env (eval o (X j).env) = eval o (X j).env := by intro _; rfl) (hline : (apos.endLine == pos.line) = true := by rfl) : VE K mg X W (.Call (.Attribute o "strip" apos) [e] [] pos) (vM1 opStrip ma mb) := by
  obtain ⟨_, p, r⟩ := ha
  obtain ⟨_, p', r'⟩ := hb
  refine ⟨_, fun i => pe_m1 F.slot_str_strip F.type_str_strip mt_stripChars (p i) (p' i) (hs i) (hbase i) hline, rd_m1 (fun G B H σ e z y b d Q S ry hd h => ?_) r r'⟩
  cases b with
  | str w =>
    cases ry
    have hd : (if z.length ≤ vmax then some (D.str (Txt.stripChars z w)) else none) = some d := hd
    by_cases q : z.length ≤ vmax
    · rw [if_pos q] at hd
      cases hd
      exact ⟨z, w, rfl, rfl, vle q, Po.here h S (.str _)⟩
    · rw [if_neg q] at hd; cases hd
  | _ => cases hd
/-! ### except without a name -/
section
variable {K : PySem.W.Frag} {mg : Str → Option Value} {W : Am K} {k : Bool} {names : List Str} {anc : Str → Str → Bool} {bi : List String} {y : Str} {m h : MS}
theorem rs_tryOnly {c : Addr} (T : ExT K mg names anc bi) (hy : y ∈ names) (hD : mg y = some (.ref c)) : RdS K mg W k (fun D σ H => canS K mg (W.to (wOnly K (.ref c) (fun a cls d D σ H => canS K mg (Am.of K fun _ _ _ _ => False) k h D σ H) W.w D)) k m D σ H)
    (vTryOnly names anc y m h) := fun G hG B H σ e D S q => by
  refine ⟨G, B, e, hG, S, ?_⟩
  unfold vTryOnly at q
  cases r : m e with
  | nx e' => simp only [r] at q; exact q
  | rt d e' => simp only [r] at q; exact q
  | bk e' => simp only [r] at q; exact q
  | ct e' => simp only [r] at q; exact q
  | bot => simp only [r] at q; exact q.elim
  | err x e1 =>
    simp only [r] at q
    intro cls dd σ' B' H' S' s xr
    have xr' := xr
    obtain ⟨C, h1, h2, h3⟩ := xr
    subst h2
    by_cases hx : x.cls ∈ names
    · rw [if_pos hx] at q
      refine ⟨anc x.cls y, T.exm x.cls hx y hy C c h1 hD, fun hb a ha => ?_, fun hb => ?_⟩
      · rw [if_pos hb] at q
        refine ⟨G, B', e1, trivial, S', ?_⟩
        have q := PoS.base s q
        cases w : h e1 with
        | nx e' => simp only [w] at q; exact q
        | rt d e' => simp only [w] at q; exact q
        | bk e' => simp only [w] at q; exact q
        | ct e' => simp only [w] at q; exact q
        | err x e' => simp only [w] at q; exact q.elim
        | bot => simp only [w] at q; exact q.elim
      · rw [if_neg (by rw [hb]; exact Bool.false_ne_true)] at q
        exact q (.ref C) dd σ' B' H' S' s xr'
    · rw [if_neg hx] at q; exact q.elim
end
section
variable {X : Cx} {W : Am X.K} {k : Bool} {pos np pos' : Pos} {y : Str} {body suite : List Stmt} {b₀ : Stmt} {m h : MS} {names : List Str} {anc : Str → Str → Bool} {bi : List String}
theorem vs_tryOnly (T : ExT X.K X.mg names anc bi) (hs : X.stack = X.env :: X.outer) (hf : X.env.frame = some X.env.locals) (tk : Takes X W.w)
    (hb : ∀ (Wx : WX) (pn : List (Addr × Obj)) (xe : Value → Shared → Prop), Takes (X.tr pn xe) Wx → PassesOwn (model X.prog X.w) X.A X.env xe → VSs (X.tr pn xe) (W.to Wx) k body m)
    (hsu : ∀ (a : Addr) (oe : Obj) (pn : List (Addr × Obj)), VSs (X.suite a ((a, oe) :: pn)) (Am.of X.K fun _ _ _ _ => False) k (b₀ :: suite) h)
    (hy : y ∈ names := by decide +kernel) (hg : Gl X y := by rfl) (hdb : (y == ("__debug__" : Str)) = false := by decide) :
    VS X W k (.Try body [.ExceptHandler (some (.Name y np)) none (b₀ :: suite) pos'] [] [] pos) (vTryOnly names anc y m h) := by
  obtain ⟨D, hD⟩ := T.top y hy
  exact ⟨_, ps_try_only (tb := fun Wx => canS X.K X.mg (W.to Wx) k m) (ts := fun a cls d D σ H => canS X.K X.mg (Am.of X.K fun _ _ _ _ => False) k h D σ H) hs hf ⟨hg, hdb, .inl hD⟩ tk (fun Wx pn xe t p => (hb Wx pn xe t p).can) (fun a oe cls d pn hz hfl => (hsu a oe pn).can), rs_tryOnly T hy hD⟩
end
end VL

/-! VL12: dicts of one's own. -/
namespace VL
open PySem PySem.Spec PyProof.Rows L2
section
variable {K : PySem.W.Frag} {mg : Str → Option Value} {W : Am K} {G : Gr} {B B' H H' : Hp} {σ σ' : L2.St} {e e' : Env} {k : Bool}
/-- a new dict, nobody's -/
def rpK (K : PySem.W.Frag) : RP (List Ky × List D) V := fun G B H σ e v kd => ∃ (p : Addr) (kvs : List (Key × V)), v = .ref p ∧ H p = some (.dK kvs) ∧ B p = none ∧ G.H p = none ∧ ¬ Owned σ e p ∧ kvs.map (·.1) = kd.1 ∧ Reps K B (kvs.map (·.2)) kd.2
abbrev RdK (K : PySem.W.Frag) (mg : Str → Option Value) (W : Am K) (t : TE) (m : MK) : Prop := RdX K mg W (rpK K) t m
theorem fresh_dict (S : Sto K G B H σ e) {kd : List Ky × List D} {kvs : List (Key × V)} {Q : VK} (ek : kvs.map (·.1) = kd.1) (r : Reps K B (kvs.map (·.2)) kd.2) (h : Po K mg W (rpK K) G σ B Q (.ok kd e)) : ∀ p, H p = none → Q (.ref p) (upd H p (.dK kvs)) := fun p hp =>
  h _ B _ (S.loose hp) (Same.refl B) ⟨p, kvs, rfl, upd_same, same_none S.sub hp, S.fresh hp, not_owned_new S hp, ek, r⟩
theorem rk_nil : RdK K mg W tDNewK vK0 where
  run := fun G hG B H σ e Q S h p hp => fresh_dict (kd := ([], [])) S rfl .nil h p hp
theorem rd_ofK {t : TE} {m : MK} (h : RdK K mg W t m) : RdE K mg W t (vOfK m) where
  run := fun G hG B H σ e Q S q => by
    refine h.run G hG B H σ e _ S (Po.bind q fun kd e1 x B1 H1 S1 s1 r1 h1 => ?_)
    obtain ⟨p, kvs, rfl, hp, hb, hg, no, ek, r⟩ := r1
    exact h1 _ _ _ (S1.take hp hb hg fun i b ds z1 z2 => no ⟨i, b, ds, z1, z2⟩) (same_upd' hb) (.dct (.inl upd_same) ek (r.mono (same_upd' hb)))
theorem rs_asgK {t : TE} {m : MK} {i : Nat} (ha : RdK K mg W t m) : RdS K mg W k (tAsg t (gName i)) (vAsgK i m) := fun G hG B H σ e D S h =>
  ha.run G hG B H σ e _ S (PoS.thenS h fun kd e1 v B1 H1 S1 _ r1 h1 => by
    by_cases hl : i < e1.length
    · rw [if_pos hl] at h1
      obtain ⟨p, kvs, rfl, hp, hb, hg, no, ek, r⟩ := r1
      exact h1.nx (S1.put i (.ow hb hg hp (.dct ek r)) fun b ds' p' e1' e2' j b' ds'' hj hjs => by
        cases e2'
        exact fun q => no ⟨j, b', ds'', hjs, q⟩)
    · rw [if_neg hl] at h1; exact h1.elim)
theorem rk_disp {trs : List (TE × TE)} {r : MQ} (hr : RdX K mg W (rpP K) (tPairs trs) r) : RdK K mg W (tDisp trs) (vKD r) where
  run := fun G hG B H σ e Q S h => by
    intro p hp
    have S1 : Sto K G B (upd H p (.dK [])) σ e := S.loose hp
    have gp := S.fresh hp
    have bp : B p = none := S.sub.free hp
    have npO : ¬ OwnF σ e p := fun q => by
      obtain ⟨i, b, ds, h1, h2⟩ := q
      obtain ⟨v, hv, ok⟩ := S.sl i _ h1
      obtain ⟨p2, vs2, ev, a1, a2, a3, a4⟩ := ok.owI
      rw [h2, ev] at hv
      cases hv
      rw [hp] at a3; cases a3
    have hRp : (reb G B (upd H p (.dK [])) σ e).H p = some (.dK []) := (if_neg npO).trans upd_same
    have pio : p ∉ G.io := fun q => S.iom p q gp
    refine hr.run _ (W.reb G B _ σ e hG S1) B _ σ e _ S1.reb ?_
    unfold vKD at h
    cases q : r e with
    | bot => rw [q] at h; exact h.elim
    | err x e1 =>
      rw [q] at h
      intro c dd B' H' S' s xr
      exact h c dd B' H' (Sto.unreb S1 S') s xr
    | ok ps e1 =>
      rw [q] at h
      intro vs B2 H2 S2 s2 rp
      have hp2 : H2 p = some (.dK []) := S2.keep p _ hRp pio
      refine ⟨hp2, ?_⟩
      obtain ⟨d, hd, h'⟩ := Po.of (R := rpK K) (Q := Q) (show Po K mg W (rpK K) G σ B Q (.of (dispK ps) e1) from h)
      unfold dispK at hd
      cases w : keysD (ps.map (·.1)) with
      | none => rw [w] at hd; cases hd
      | some ks =>
        simp only [w] at hd
        by_cases z : ks.Nodup ∧ ks.length ≤ 15
        · rw [if_pos z] at hd
          cases hd
          obtain ⟨kvs, e2, e3, e4⟩ := keys_rep rp.1 w
          have mk : mergeK [] kvs = kvs := by
            have := merge_app kvs [] (by rw [List.nil_append, e3]; exact z.1)
            rwa [List.nil_append] at this
          refine ⟨kvs, e2, by have := congrArg List.length e3; rw [List.length_map] at this; omega, ?_⟩
          rw [mk]
          have U := Sto.unreb S1 S2
          have b2 : B2 p = none := by
            cases q2 : B2 p with
            | none => rfl
            | some o =>
              exfalso
              rcases S2.new p (by rw [q2]; simp) with t | t
              · exact t bp
              · rw [hRp] at t; cases t
          have noO : ∀ (i : Nat) (b : Bool) (ds : List D), e1[i]? = some (.ow b ds) → σ[i]? ≠ some (some (.ref p)) := fun i b ds h1 h2 => by
            obtain ⟨v, hv, ok⟩ := S2.sl i _ h1
            obtain ⟨p2, vs2, ev, a1, a2, a3, a4⟩ := ok.owI
            rw [h2, ev] at hv
            cases hv
            rw [hRp] at a2; cases a2
          have P1 := U.poke (p := p) (o := .dK kvs) b2 gp noO
          exact h' (.ref p) B2 _ P1 s2 ⟨p, kvs, rfl, upd_same, b2, gp, fun ⟨i, b, ds, q1, q2⟩ => noO i b ds q1 q2, e3, by rw [e4]; exact rp.2⟩
        · rw [if_neg z] at hd; cases hd
/-- a callee that gives a new dict -/
def rDatK (K : PySem.W.Frag) (f : List D → Option (List Ky × List D)) : List V → Hp → VK → Prop := fun vs H Q => ∃ (G : Gr) (B : Hp) (σ : L2.St) (e : Env) (ds : List D) (kd : List Ky × List D), Sto K G B H σ e ∧ Reps K B vs ds ∧ f ds = some kd ∧
  ∀ v B' H', Sto K G B' H' σ e → Same B B' → rpK K G B' H' σ e v kd → Q v H'
theorem rk_call {t : TA} {m : MA} (ha : RdA K mg W t m) : RdK K mg W (tCB (rDatK K copyK) t) (vKC m) where
  run := fun G hG B H σ e Q S q => by
    refine ha.run G hG B H σ e _ S (Po.bind q fun ds e1 vs B1 H1 S1 s1 r1 h1 => ?_)
    obtain ⟨d, hd, h2⟩ := h1.of
    exact ⟨G, B1, σ, e1, ds, d, S1, r1, hd, h2⟩
theorem rk_bor {t : TE} {m : MK} (h : RdK K mg W t m) : RdK K mg W t (vBorK m) where
  run := fun G hG B H σ e Q S q => by
    refine h.run ⟨H, VL.full B H σ e, [], G.tok⟩ (W.full G B H σ e hG S) (VL.full B H σ e) H σ (frz e) Q S.full ?_
    unfold vBorK at q
    cases z : m (frz e) with
    | ok d e' =>
      rw [z] at q
      by_cases f : D.flats d.2 = true
      · simp only [f, if_true] at q
        refine fun v B' H' S' s' r' => ?_
        obtain ⟨p, vs, rfl, hp, hb, hg, no, ek, r⟩ := r'
        have hn : tupsOf B B' p = none := by
          cases w : tupsOf B B' p with
          | none => rfl
          | some o =>
            rcases tupsOf_some w with q1 | ⟨_, q1, _⟩
            · have q2 := S'.b0 _ _ (full_same _ _ q1); rw [hb] at q2; cases q2
            · rw [hb] at q1; cases q1
        have hH : H p = none := hg
        exact q (.ref p) (tupsOf B B') H' (S.back S') tupsOf_same ⟨p, vs, rfl, hp, hn, S.fresh hH, not_owned_new S hH, ek, Reps.flat (tupsOf_tups (B0 := B) (full_same.trans s')) f r⟩
      · simp only [f] at q
        exact q.elim
    | err x e' =>
      rw [z] at q
      exact fun c d B' H' S' s' r' => q c d (tupsOf B B') H' (S.back S') tupsOf_same (r'.tups (full_same.trans s'))
    | bot => rw [z] at q; exact q
theorem Sto.owK (S : Sto K G B H σ e) {i : Nat} {ds : List D} (z : e[i]? = some (.ow true ds)) : ∃ p kvs ks es, σ[i]? = some (some (.ref p)) ∧ H p = some (.dK kvs) ∧ ds = [.dct ks es] ∧ kvs.map (·.1) = ks ∧ Reps K B (kvs.map (·.2)) es := by
  obtain ⟨v, hv, ok⟩ := S.sl i _ z
  cases ok with
  | ow hb hg hh hr => cases hr with
    | dct e1 r => exact ⟨_, _, _, _, hv, hh, rfl, e1, r⟩
theorem put_pos {k : Ky} {v : V} {d : D} (rv : Rep K B v d) : ∀ {kvs : List (Key × V)} {ds : List D}, Reps K B (kvs.map (·.2)) ds →
    Reps K B ((kvs.map fun kv => if kv.1 = k then (kv.1, v) else kv).map (·.2)) (((kvs.map (·.1)).zip ds).map fun p => if p.1 = k then d else p.2)
  | [], ds, r => .nil
  | (k0, v0) :: kvs, ds, r => by
    cases r with
    | cons r0 rr =>
      simp only [List.map_cons, List.zip_cons_cons]
      refine .cons ?_ (put_pos rv rr)
      by_cases e : k0 = k
      · rw [if_pos e, if_pos e]; exact rv
      · rw [if_neg e, if_neg e]; exact r0
theorem put_keys {k : Ky} {v : V} : ∀ (kvs : List (Key × V)), (kvs.map fun kv => if kv.1 = k then (kv.1, v) else kv).map (·.1) = kvs.map (·.1)
  | [] => rfl
  | (k0, v0) :: kvs => by
    simp only [List.map_cons]
    rw [put_keys kvs]
    congr 1
    by_cases e : k0 = k
    · rw [if_pos e]
    · rw [if_neg e]
theorem put_rep {kvs : List (Key × V)} {ds : List D} {k : Ky} {v : V} {d : D} (r : Reps K B (kvs.map (·.2)) ds) (rv : Rep K B v d) : (putK kvs k v).map (·.1) = (putD (kvs.map (·.1)) ds k d).1 ∧ Reps K B ((putK kvs k v).map (·.2)) (putD (kvs.map (·.1)) ds k d).2 := by
  have ea : ((kvs.map (·.1)).any fun j => decide (j = k)) = kvs.any fun kv => decide (kv.1 = k) := by rw [List.any_map]; rfl
  unfold putK putD
  rw [ea]
  by_cases h : (kvs.any fun kv => decide (kv.1 = k)) = true
  · rw [if_pos h, if_pos h]
    exact ⟨put_keys kvs, put_pos rv r⟩
  · rw [if_neg h, if_neg h]
    refine ⟨by simp, ?_⟩
    rw [List.map_append]
    exact r.append (.cons rv .nil)
theorem rs_setK {i : Nat} {t tx : TE} {m mx : ME} (ha : RdE K mg W t m) (hx : RdE K mg W tx mx) : RdS K mg W k (sDPut (tVar i) tx t) (vSetK i mx m) := fun G hG B H σ e D S h =>
  ha.run G hG B H σ e _ S (PoS.thenS h fun d e1 v B1 H1 S1 s1 r1 h1 => by
    cases z : e1[i]? with
    | none => rw [z] at h1; exact h1.elim
    | some s =>
      rw [z] at h1
      cases s with
      | no => exact h1.elim
      | tk _ => exact h1.elim
      | sh _ => exact h1.elim
      | ow b ds =>
        cases b with
        | false => exact h1.elim
        | true =>
          obtain ⟨p, kvs, ks, es, hv, hh, _, _, _⟩ := S1.owK z
          refine ⟨_, hv, hx.run G hG B1 H1 σ e1 _ S1 (PoS.thenS h1 fun x e2 vx B2 H2 S2 s2 r2 h2 => ?_)⟩
          cases z1 : e2[i]? with
          | none => rw [z1] at h2; exact h2.elim
          | some s2' =>
            rw [z1] at h2
            cases s2' with
            | no => exact h2.elim
            | tk _ => exact h2.elim
            | sh _ => exact h2.elim
            | ow b ds2 =>
              cases b with
              | false => exact h2.elim
              | true =>
                obtain ⟨p1, kvs1, ks1, es1, hv1, hh1, rfl, e3, hr1⟩ := S2.owK z1
                rw [hv] at hv1
                cases hv1
                dsimp only at h2
                cases w : keyD x with
                | none => rw [w] at h2; exact h2.elim
                | some kk =>
                  rw [w] at h2
                  dsimp only at h2
                  by_cases hl : ks1.length < vmax
                  · rw [if_pos hl] at h2
                    subst e3
                    obtain ⟨q1, q2⟩ := put_rep (k := kk) hr1 (r1.mono s2)
                    rw [List.length_map] at hl
                    exact ⟨p, _, rfl, .inl ⟨kvs1, kk, hh1, keyD_V r2 w, Nat.lt_of_lt_of_le hl vok, rfl⟩, h2.nx (S2.write z1 hv (.dct q1 q2))⟩
                  · rw [if_neg hl] at h2; exact h2.elim)
end
section
variable {X : Cx}
theorem cd_dict : CallR X (.type "dict") (rDatK X.K copyK) := by
  intro pins s σ H xs us Q I r ⟨G, B, σ', e, ds, kd, S, rs, hd, h⟩
  unfold copyK at hd
  split at hd
  · cases hd
    cases rs with
    | cons r0 rr =>
      cases rr
      cases r0 with
      | @dct a kvs _ _ h1 h2 h3 =>
        cases r with
        | cons ra rt =>
          cases rt
          obtain rfl := (show _ = Value.ref a from ra)
          exact d_copyOf I (rd_sub S.sub h1) fun p s' hp I' => ⟨.ref p, _, I', rfl, h (.ref p) B _ (S.loose hp) (Same.refl B) ⟨p, kvs, rfl, upd_same, same_none S.sub hp, S.fresh hp, not_owned_new S hp, h2, h3⟩⟩
  · cases hd
end
section
variable {ι : Type} {K : PySem.W.Frag} {mg : Str → Option Value} {X : ι → Cx} {W : Am K} {pos : Pos}
def VD (K : PySem.W.Frag) (mg : Str → Option Value) (X : ι → Cx) (W : Am K) (e : Expr) (m : MK) : Prop := ∃ t, (∀ i, PE (X i) e t) ∧ RdK K mg W t m
theorem vd_nil : VD K mg X W (.Dict [] [] pos) vK0 := ⟨_, fun _ => pe_dnewK, rk_nil⟩
theorem vd_disp {ks : List (Option Expr)} {vs : List Expr} {r : MQ} (h : VQ K mg X W pos ks vs r) (hall : ks.all (·.isSome) = true := by rfl) (hl : ks.length = vs.length := by rfl) (h0 : ks ≠ [] := by simp) (h15 : ks.length ≤ 15 := by simp) : VD K mg X W (.Dict ks vs pos) (vKD r) :=
  let ⟨t, p, q⟩ := h; ⟨tDisp t, fun i => pe_disp (p i) hall hl h0 h15, rk_disp q⟩
theorem vd_dict {p : Pos} {e : Expr} {es : List Expr} {ms : MA} (hm : ∀ j, (X j).mg "dict" = none) (ha : VA K mg X W (e :: es) ms) (hg : ∀ j, Gl (X j) "dict" := by intro _; rfl)
    (he : ∀ j, starEach (e :: es) (X j).env = (false, eval e (X j).env) :: starEach es (X j).env := by intro _; rfl) (hpl : ∀ j, (backTo pos (starEach es (X j).env)).any (·.1) = false := by intro _; rfl) (hK : ∀ j, (X j).K = K := by intro _; rfl) : VD K mg X W (.Call (.Name "dict" p) (e :: es) [] pos) (vKC ms) :=
  let ⟨_, p, r⟩ := ha; ⟨_, fun i => pe_callTy (hK i ▸ cd_dict : CallR (X i) (.type "dict") (rDatK K copyK)) (hg i) (hm i) (by decide +kernel) (p i) (by decide) (by decide) (he i) (hpl i), rk_call r⟩
theorem vd_bor {e : Expr} {m : MK} (h : VD K mg X W e m) : VD K mg X W e (vBorK m) := let ⟨t, p, r⟩ := h; ⟨t, p, rk_bor r⟩
theorem ve_ofK {e : Expr} {m : MK} (h : VD K mg X W e m) : VE K mg X W e (vOfK m) := let ⟨t, p, r⟩ := h; ⟨t, p, rd_ofK r⟩
end
section
variable {X : Cx} {W : Am X.K} {k : Bool} {pos pos' : Pos} {x : Str} {e : Expr} {ms : MK} {m : ME}
theorem vs_setK (i : Nat) (hN : X.N.Nodup) (he : VD X.K X.mg (at1 X) W e ms) (hi : X.N[i]? = some x := by rfl) (hx : Loc X.env.scope x := by first | exact Or.inl rfl | exact Or.inr rfl) (hs : swapsWith e (some (.Name x pos')) pos.line X.env = pure false := by rfl) (hf : X.fn x = true ∨ X.env.scope.names.lookup x = some .local := by first | exact .inl rfl | exact .inr rfl) :
    VS X W k (.Assign [.Name x pos'] e pos) (vAsgK i ms) := let ⟨_, p, r⟩ := he; ⟨_, ps_set hN hi hx (p ()) hs hf, rs_asgK r⟩
theorem vs_subK (i : Nat) {p tpos : Pos} {ix : Expr} {mx : ME} (hu : X.A.units + 1 < cLine) (he : VE X.K X.mg (at1 X) W e m) (hx : VE X.K X.mg (at1 X) W ix mx) (hN : X.N[i]? = some x := by rfl) (hv : Vis X.env.scope x := by first | exact Or.inl rfl | exact Or.inr (Or.inl rfl) | exact Or.inr (Or.inr rfl)) (hd : (x == ("__debug__" : Str)) = false := by decide)
    (hcd : (x == ("__classdict__" : Str)) = false := by decide) (hs : swapsWith e (some (.Subscript (.Name x p) ix tpos)) pos.line X.env = pure false := by rfl) : VS X W k (.Assign [.Subscript (.Name x p) ix tpos] e pos) (vSetK i mx m) :=
  let ⟨_, q, r⟩ := he; let ⟨_, q', r'⟩ := hx; ⟨_, ps_dput hu (pe_var hN hv hd hcd) (q' ()) (q ()) hs, rs_setK r r'⟩
end
end VL

/-! VL13: a module's own table (a dict with text keys) asked by `in`, `not in`, `[..]`. -/
namespace VL
open PySem PySem.Spec PyProof.Rows L2
/-- a world, one of its texts' follows put to a truth -/
def fixW (w : World) (x : String) (b : Bool) : World := { w with params := { w.params with followText := fun s => if s = x then b else w.params.followText s } }
theorem fixW_eq (w : World) (x : String) : fixW w x (w.params.followText x) = w := by
  have key : (fun s => if s = x then w.params.followText x else w.params.followText s) = w.params.followText := by
    funext s
    by_cases h : s = x
    · rw [if_pos h, h]
    · rw [if_neg h]
  unfold fixW
  rw [key]
/-- the head's facts, a table's keys among them -/
def hookY (n : Nat) (fa : List He.Fa) (fn : List He.DefD) (ts : List He.Tab) (fx : PySem.W.Frag → Bool) : PySem.W.Hook where
  α := He.AlT × Bool
  obs := fun s => (He.obsT fa fn ts (He.frG s.heap.get? (cStatics :: He.asD s.heap.get? n)), fx (He.frG s.heap.get? (cStatics :: He.asD s.heap.get? n)))
  val := fun w => (He.valT fn ts w, true)
  says := fun w h => ∃ K : PySem.W.Frag, K.In h ∧ He.SaysT fa fn ts w K ∧ fx K = true
  of := fun w s q => ⟨He.frG s.heap.get? (cStatics :: He.asD s.heap.get? n), He.frG_in, (Prod.mk.inj q).1, (Prod.mk.inj q).2⟩
  keeps := fun w h h' z k => let ⟨K, hK, c, d⟩ := z; ⟨K, PySem.W.Frag.In.keeps hK k, c, d⟩
def obY (n : Nat) (fa : List He.Fa) (fn : List He.DefD) (ts : List He.Tab) (fx : PySem.W.Frag → Bool) (g : Addr → Option Obj) : He.AlT × Bool := (He.obsT fa fn ts (He.frG g (cStatics :: He.asD g n)), fx (He.frG g (cStatics :: He.asD g n)))
theorem obY_eq {n : Nat} {fa : List He.Fa} {fn : List He.DefD} {ts : List He.Tab} {fx : PySem.W.Frag → Bool} {g : Addr → Option Obj} {s : Shared} (h : ∀ a, g a = s.heap.get? a) : obY n fa fn ts fx g = (hookY n fa fn ts fx).obs s := by
  cases (funext h : g = s.heap.get?)
  exact rfl
theorem says_tab {fa : List He.Fa} {fn : List He.DefD} {ts : List He.Tab} {w : World} {K : PySem.W.Frag} (c : He.SaysT fa fn ts w K) (i : Nat) {t : He.Tab} (h : ts[i]? = some t := by rfl) : He.dicW K (t.1 K) = some (He.keysIn w.params t.2) := by
  have e : ts.map (fun t => He.dicW K (t.1 K)) = ts.map fun t => some (He.keysIn w.params t.2) := congrArg (fun z : He.AlT => z.2) c
  have e2 : (ts.map fun t => He.dicW K (t.1 K))[i]? = (ts.map fun t => some (He.keysIn w.params t.2))[i]? := by rw [e]
  rw [List.getElem?_map, List.getElem?_map, h] at e2
  exact Option.some.inj e2
theorem keys_not {P : Params} {z : Str} : ∀ {l : List DictEntry} {ks : List Str}, l.map He.keyOf = He.keysIn P ks → z ∉ ks → l.find? (·.key.isStr z) = none ∧ l.any (·.refKey) = false
  | [], _, _, _ => ⟨rfl, rfl⟩
  | e :: r, [], h, _ => by cases h
  | e :: r, k :: ks, h, nz => by
    have h1 : He.keyOf e :: r.map He.keyOf = some (k, PyData.keyHash P k) :: He.keysIn P ks := h
    injection h1 with h2 h3
    obtain ⟨a1, a2⟩ := keys_not (z := z) h3 fun q => nz (List.mem_cons_of_mem _ q)
    unfold He.keyOf at h2
    split at h2
    · rename_i x t q
      obtain ⟨h5, h6⟩ := Prod.mk.inj (Option.some.inj h2)
      have ne : ¬ x = z := fun w => nz (by rw [← w, h5]; exact List.mem_cons_self)
      have e1 : e.key.isStr z = false := by rw [q]; simpa [Value.isStr] using ne
      have e2 : e.refKey = false := by unfold DictEntry.refKey; rw [q]; try rfl
      rw [List.find?_cons, e1, List.any_cons, e2]
      exact ⟨a1, a2⟩
    · cases h2
theorem nsIn_not {K : PySem.W.Frag} {P : Params} {a : Addr} {ks : List Str} {z : Str} (h : He.dicW K a = some (He.keysIn P ks)) (nz : z ∉ ks) : PySem.W.nsIn K a z = some none := by
  unfold He.dicW at h
  cases q : K.lookup a with
  | none => rw [q] at h; cases h
  | some o =>
    obtain ⟨oc, od, dt, osl⟩ := o
    rw [q] at h
    cases oc with
    | type c =>
      cases od with
      | none =>
        cases dt with
        | dict es n =>
          have h1 : (match decide (c = "dict") && (osl.isEmpty && !(a == sysModules)) with
            | true => some (es.toList.map He.keyOf)
            | false => none) = some (He.keysIn P ks) := h
          cases z1 : decide (c = "dict") && (osl.isEmpty && !(a == sysModules)) with
          | false => rw [z1] at h1; cases h1
          | true =>
            rw [z1] at h1
            obtain ⟨a1, a2⟩ := keys_not (Option.some.inj h1) nz
            unfold PySem.W.nsIn
            rw [q]
            dsimp only
            rw [a1, a2]
            rfl
        | _ => cases h
      | some b => cases dt <;> cases h
    | _ => cases od <;> cases dt <;> cases h
structure TCon (K : PySem.W.Frag) (w : World) (mg : Str → Option Value) (x : Str) (t : Tb) : Prop where
  ex : ∃ (a : Addr) (es : Array DictEntry) (n : Nat), mg x = some (.ref a) ∧ KDict K w a es n ∧ ∀ z, match tbGet t z with
    | none => PySem.W.nsIn K a z = some none
    | some d => ∃ (u : Value) (v : V), PySem.W.nsIn K a z = some (some u) ∧ RelV v u ∧ ∀ B, Rep K B v d
theorem tb_vals : ∀ {kvs : List (Str × He.Dv)} {t : Tb}, kvs.map (fun q => (q.1, dvD q.2)) = t.map (fun q => (q.1, some q.2)) → ∀ z d, tbGet t z = some d → ∃ q ∈ kvs, q.1 = z ∧ dvD q.2 = some d
  | [], [], _, z, d, h => by cases h
  | [], p :: t, e, _, _, _ => by cases e
  | q :: kvs, [], e, _, _, _ => by cases e
  | q :: kvs, p :: t, e, z, d, h => by
    rw [List.map_cons, List.map_cons] at e
    obtain ⟨e1, e2⟩ := List.cons.inj e
    obtain ⟨e3, e4⟩ := Prod.mk.inj e1
    unfold tbGet at h
    rw [List.find?_cons] at h
    by_cases n : p.1 = z
    · rw [decide_eq_true n] at h
      cases h
      exact ⟨q, List.mem_cons_self, e3.trans n, e4⟩
    · rw [decide_eq_false n] at h
      obtain ⟨q', m, r⟩ := tb_vals e2 z d h
      exact ⟨q', List.mem_cons_of_mem _ m, r⟩
theorem dv_rep {K : PySem.W.Frag} {B : Hp} {v : He.Dv} {d : D} (h : dvD v = some d) : Rep K B (v.v K) d := by
  cases v <;> first | (cases h; constructor) | cases h
theorem tcon_of {K : PySem.W.Frag} {w : World} {h : Heap} {mg : Str → Option Value} {x : Str} {ks : List Str} {kvs : List (Str × He.Dv)} {t : Tb} (X : K.In h) (G : h.Ns mainGlobals mg) (c : He.dicW K (He.ga K x) = some (He.keysIn w.params ks)) (c2 : ((He.Fa.glo x).ok K && He.valsB K (He.ga K x) kvs) = true)
    (e : kvs.map (fun q => (q.1, dvD q.2)) = t.map (fun q => (q.1, some q.2))) (ek : t.map (·.1) = ks) : TCon K w mg x t := by
  obtain ⟨g, vs⟩ := He.ba c2
  obtain ⟨es, n, kd⟩ := He.dicW_ok (w := w) c
  refine ⟨He.ga K x, es, n, He.glo_ok X G g, kd, fun z => ?_⟩
  cases q : tbGet t z with
  | none =>
    refine nsIn_not c fun m => ?_
    rw [← ek] at m
    obtain ⟨p, hp, e⟩ := List.mem_map.mp m
    unfold tbGet at q
    have := List.find?_eq_none.mp (Option.map_eq_none_iff.mp q) p hp
    exact this (decide_eq_true e)
  | some d =>
    obtain ⟨p, hp, e1, e2⟩ := tb_vals e z d q
    obtain ⟨u, h1, h2⟩ := He.valsB_ok vs hp
    rw [e1] at h1
    exact ⟨u, _, h1, h2, fun B => dv_rep e2⟩
section
variable {K : PySem.W.Frag} {mg : Str → Option Value} {W : Am K} {G : Gr} {B H : Hp} {σ : L2.St} {e : Env} {a : Addr} {t : Tb} {ta : TE} {ma : ME}
theorem rd_tabIn (ht : ∀ z, match tbGet t z with
    | none => PySem.W.nsIn K a z = some none
    | some d => ∃ (u : Value) (v : V), PySem.W.nsIn K a z = some (some u) ∧ RelV v u ∧ ∀ B, Rep K B v d) (b : Bool) (ha : RdE K mg W ta ma) :
    RdE K mg W (tOp (fun x y H Q => ∃ (z : Str) (r : Option Value), x = .str z ∧ y = .ref a ∧ PySem.W.nsIn K a z = some r ∧ Q (.bl (b ^^ r.isSome)) H) ta (tC (.ref a))) (vUn (fun d => match d with
      | .str z => some (.bl (b ^^ (tbGet t z).isSome))
      | _ => none) ma) where
  run := fun G hG B H σ e Q S h => by
    refine ha.run G hG B H σ e _ S (Po.bind h fun x e1 v B1 H1 S1 s1 r1 h1 => ?_)
    obtain ⟨d, hd, h2⟩ := h1.of
    have r1 : Rep K B1 v x := r1
    cases x with
    | str z =>
      cases r1
      cases hd
      have q := ht z
      cases w : tbGet t z with
      | none =>
        rw [w] at q h2
        exact ⟨z, none, rfl, rfl, q, Po.here h2 S1 (.bl _)⟩
      | some d =>
        rw [w] at q h2
        obtain ⟨u, v, q1, q2, q3⟩ := q
        exact ⟨z, some u, rfl, rfl, q1, Po.here h2 S1 (.bl _)⟩
    | _ => cases hd
theorem rd_tabIx (ht : ∀ z, match tbGet t z with
    | none => PySem.W.nsIn K a z = some none
    | some d => ∃ (u : Value) (v : V), PySem.W.nsIn K a z = some (some u) ∧ RelV v u ∧ ∀ B, Rep K B v d) (ha : RdE K mg W ta ma) :
    RdE K mg W (tOp (fun x y H Q => ∃ (z : Str) (u0 : Value) (v0 : V), x = .ref a ∧ y = .str z ∧ PySem.W.nsIn K a z = some (some u0) ∧ RelV v0 u0 ∧ Q v0 H) (tC (.ref a)) ta) (vUn (tabIx t) ma) where
  run := fun G hG B H σ e Q S h => by
    refine ha.run G hG B H σ e _ S (Po.bind h fun x e1 v B1 H1 S1 s1 r1 h1 => ?_)
    obtain ⟨d, hd, h2⟩ := h1.of
    have r1 : Rep K B1 v x := r1
    cases x with
    | str z =>
      cases r1
      have hd : tbGet t z = some d := hd
      have q := ht z
      rw [hd] at q
      obtain ⟨u, v, q1, q2, q3⟩ := q
      exact ⟨z, u, v, rfl, rfl, q1, q2, Po.here h2 S1 (q3 B1)⟩
    | _ => cases hd
end
section
variable {ι : Type} {K : PySem.W.Frag} {mg : Str → Option Value} {X : ι → Cx} {W : Am K} {w : World} {pos p : Pos} {a : Expr} {ma : ME} {x : Str} {t : Tb}
theorem kd_at {j : ι} {b : Addr} {es : Array DictEntry} {n : Nat} (kd : KDict K w b es n) (hK : (X j).K = K) (hw : (X j).w = w) : KDict (X j).K (X j).w b es n := by rw [hK, hw]; exact kd
theorem op_tabIn {j : ι} {b : Addr} {es : Array DictEntry} {n : Nat} (kd : KDict K w b es n) (hK : (X j).K = K) (hw : (X j).w = w) : OpR (X j) (compareOp .In) (fun x y H Q => ∃ (z : Str) (r : Option Value), x = .str z ∧ y = .ref b ∧ PySem.W.nsIn K b z = some r ∧ Q (.bl r.isSome) H) := by
  have q := op_in_kd (X := X j) (kd_at kd hK hw)
  rw [hK] at q
  exact q
theorem op_tabNotIn {j : ι} {b : Addr} {es : Array DictEntry} {n : Nat} (kd : KDict K w b es n) (hK : (X j).K = K) (hw : (X j).w = w) : OpR (X j) (compareOp .NotIn) (fun x y H Q => ∃ (z : Str) (r : Option Value), x = .str z ∧ y = .ref b ∧ PySem.W.nsIn K b z = some r ∧ Q (.bl (!r.isSome)) H) := by
  have q := op_notIn_kd (X := X j) (kd_at kd hK hw)
  rw [hK] at q
  exact q
theorem ix_tab {j : ι} {b : Addr} {es : Array DictEntry} {n : Nat} (kd : KDict K w b es n) (hK : (X j).K = K) (hw : (X j).w = w) : IxR (X j) (fun x y H Q => ∃ (z : Str) (u0 : Value) (v0 : V), x = .ref b ∧ y = .str z ∧ PySem.W.nsIn K b z = some (some u0) ∧ RelV v0 u0 ∧ Q v0 H) := by
  have kd' := kd_at kd hK hw
  intro value slice pins s σ H x y v u Q I rx ry h hs
  obtain ⟨z, u0, v0, rfl, rfl, e1, e2, e3⟩ := h
  have h' := op_item_kd (X := X j) kd' pins s σ H _ _ v u Q I rx ry ⟨z, u0, v0, rfl, rfl, by rw [hK]; exact e1, e2, e3⟩
  cases rx
  exact tail_any (kd_type kd' I) PySem.F.slot_dict_getitem.lookup h' hs
section
variable (T : TCon K w mg x t) (ha : VE K mg X W a ma) (hm : ∀ j, (X j).mg = mg := by intro _; rfl) (hg : ∀ j, Gl (X j) x := by intro _; rfl) (hd : (x == ("__debug__" : Str)) = false := by decide) (hK : ∀ j, (X j).K = K := by intro _; rfl) (hw : ∀ j, (X j).w = w := by intro _; rfl) (hM : behindInMarks .In (.Name x p) = false := by rfl) (hM' : behindInMarks .NotIn (.Name x p) = false := by rfl)
include T ha hm hg hd hK hw hM in
theorem ve_tabIn : VE K mg X W (.Compare a [.In] [.Name x p] pos) (vUn (tabIn t) ma) := by
  obtain ⟨b, es, n, e1, kd, ht⟩ := T.ex
  obtain ⟨_, p', r⟩ := ha
  have key := rd_tabIn ht false r
  simp only [Bool.false_xor] at key
  exact ⟨_, fun i => pe_cmpR (op_tabIn kd (hK i) (hw i)) (p' i) (pe_glob (v := .ref b) (u := .ref b) (hg i) (by rw [hm i]; exact e1) rfl hd) hM, key⟩
include T ha hm hg hd hK hw hM in
theorem vt_tabIn : VT K mg X W (.Compare a [.In] [.Name x p] pos) (vTest (vUn (tabIn t) ma)) := by
  obtain ⟨b, es, n, e1, kd, ht⟩ := T.ex
  obtain ⟨_, p', r⟩ := ha
  have key := rd_tabIn ht false r
  simp only [Bool.false_xor] at key
  exact ⟨_, fun i => pt_cmpR (op_tabIn kd (hK i) (hw i)) (p' i) (pe_glob (v := .ref b) (u := .ref b) (hg i) (by rw [hm i]; exact e1) rfl hd) hM, rd_test key⟩
include T ha hm hg hd hK hw hM' in
theorem ve_tabNotIn : VE K mg X W (.Compare a [.NotIn] [.Name x p] pos) (vUn (tabNotIn t) ma) := by
  obtain ⟨b, es, n, e1, kd, ht⟩ := T.ex
  obtain ⟨_, p', r⟩ := ha
  have key := rd_tabIn ht true r
  simp only [Bool.true_xor] at key
  exact ⟨_, fun i => pe_cmpR (op_tabNotIn kd (hK i) (hw i)) (p' i) (pe_glob (v := .ref b) (u := .ref b) (hg i) (by rw [hm i]; exact e1) rfl hd) hM', key⟩
include T ha hm hg hd hK hw hM' in
theorem vt_tabNotIn : VT K mg X W (.Compare a [.NotIn] [.Name x p] pos) (vTest (vUn (tabNotIn t) ma)) := by
  obtain ⟨b, es, n, e1, kd, ht⟩ := T.ex
  obtain ⟨_, p', r⟩ := ha
  have key := rd_tabIn ht true r
  simp only [Bool.true_xor] at key
  exact ⟨_, fun i => pt_cmpR (op_tabNotIn kd (hK i) (hw i)) (p' i) (pe_glob (v := .ref b) (u := .ref b) (hg i) (by rw [hm i]; exact e1) rfl hd) hM', rd_test key⟩
include T ha hm hg hd hK hw in
theorem ve_tabIx (hs : PlainIx a) : VE K mg X W (.Subscript (.Name x p) a pos) (vUn (tabIx t) ma) := by
  obtain ⟨b, es, n, e1, kd, ht⟩ := T.ex
  obtain ⟨_, p', r⟩ := ha
  exact ⟨_, fun i => pe_ix (ix_tab kd (hK i) (hw i)) (pe_glob (v := .ref b) (u := .ref b) (hg i) (by rw [hm i]; exact e1) rfl hd) (p' i) hs, rd_tabIx ht r⟩
end
end
end VL

/-! VL14: errors with a number of their own; several except clauses. -/
namespace VL
open PySem PySem.Spec PyProof.Rows L2
/-! ### the class -/
def oexB (K : PySem.W.Frag) (C : Addr) : Bool := match K.lookup C with
  | some ⟨.type "type", _, .cls cd, sl⟩ => (match cd.mro, sl.toList with
    | .ref C' :: bm, [_, _, _, _, some (.builtin n), _] => C' == C && n == "ValueError.__new__" && !cd.hasDel && cd.hasDict && PySem.HandSPX.refsVE bm
    | _, _ => false)
  | _ => false
theorem oexB_ok {K : PySem.W.Frag} {C : Addr} (q : oexB K C = true) : ∃ nm qn N bs bm sn sub ab col dd k0 k1 k2 k3 k5, K.lookup C = some (excClassObj nm qn C N bs bm true sn sub ab col dd k0 k1 k2 k3 k5 "ValueError.__new__") ∧ PySem.HandSPX.refsVE bm = true := by
  unfold oexB at q
  split at q
  · rename_i dd cd sl ho
    split at q
    · rename_i C' bm k0 k1 k2 k3 n k5 hm hs
      simp only [Bool.and_eq_true, beq_iff_eq, Bool.not_eq_true'] at q
      obtain ⟨⟨⟨⟨rfl, rfl⟩, hdel⟩, hdct⟩, ht⟩ := q
      obtain ⟨nm, bs, mro, ns, qn, hd, sn, sub, ab, col, del⟩ := cd
      dsimp only at hm hdel hdct
      subst hm hdel hdct
      have hsl : sl = #[k0, k1, k2, k3, some (.builtin "ValueError.__new__"), k5] := by
        obtain ⟨l⟩ := sl
        simp only at hs
        rw [hs]
      subst hsl
      exact ⟨nm, qn, ns, bs, bm, sn, sub, ab, col, dd, k0, k1, k2, k3, k5, ho, ht⟩
    · cases q
  · cases q
/-- the class that its __init__ calls by its name -/
structure OexB (K : PySem.W.Frag) (mg : Str → Option Value) (b : Str) : Prop where
  ex : ∃ C, mg b = some (.ref C) ∧ PySem.W.specialIn K (.ref C) "__getattribute__" = some (some (.builtin "type.__getattribute__")) ∧ PySem.W.readsIn K C (.type "type") = true ∧ PySem.W.findCls K (.ref C) (.type "type") "__init__" = some (.val (.builtin "ValueError.__init__"))
/-- an error's class x with its number's field f, its __init__ st -/
structure OexT (K : PySem.W.Frag) (mg : Str → Option Value) (x f b : Str) (st : Stmt) (p q : Str) : Prop where
  ex : ∃ C fI fd, mg x = some (.ref C) ∧ OexC K C ∧ PySem.W.findIn K (.ref C) "__init__" = some (some (.ref fI)) ∧ PySem.W.typeIn K (.ref fI) = some (.type "function") ∧ PySem.W.findIn K (.ref C) f = some none ∧ Fun K "__init__" q st fI fd ∧ Bnd fd ["self", p]
  b : OexB K mg b
theorem pe_cutinit {X : Cx} {b : Str} {e : Expr} {es : List Expr} {ta : TA} {p1 p2 pos : Pos} {pl : Sem Bool} (T : OexB X.K X.mg b) (hg : Gl X b) (hdb : (b == ("__debug__" : Str)) = false) (ha : PA X (e :: es) ta)
    (hc : eval (.Call (.Attribute (.Name b p1) "__init__" p2) (e :: es) [] pos) X.env = (do
      let ov ← eval (.Name b p1) X.env
      standAt p2.atName
      let (f, first) ← holding [ov] (getMethod ov "__init__" pl)
      callWith pos f first (backTo pos (starEach (e :: es) X.env)) (backToKw pos (keywordEach [] X.env))) := by rfl)
    (he : starEach (e :: es) X.env = (false, eval e X.env) :: starEach es X.env := by rfl) (hpl : (backTo pos (starEach es X.env)).any (·.1) = false := by rfl) :
    PE X (.Call (.Attribute (.Name b p1) "__init__" p2) (e :: es) [] pos) (tVeI X.K ta) := by
  obtain ⟨C0, g0, s0, r0, f0⟩ := T.ex
  refine ⟨fun pins s σ H Q I h => ?_⟩
  refine PySem.W.methodCall_KW (ld_glob I hg g0 ?_ hdb) hc
  refine PySem.W.method_cls I.kIn s0 (PySem.W.cls_value I.kIn r0 f0 (by decide +kernel) ?_)
  show wpAny _ _ (callWith pos (Value.builtin "ValueError.__init__") [] (backTo pos (starEach (e :: es) X.env)) []) _ _ _
  refine PyProof.Rows.callWith_method1 (thn (ha.run pos pins _ σ H _ (I.tok _) h) fun us s1 ⟨vs, H1, I1, r1, a, C, ws, ev, hl, T, ea, q⟩ => ?_) he hpl
  subst ev
  cases r1 with
  | @cons _ u0 _ ur ra rw' =>
    obtain rfl : u0 = Value.ref a := ra
    have hlen : ur.length ≤ sizeLine := by
      rw [← Paired.length rw', sizeLine_eq]
      omega
    exact oinit_ok T I1 ea hlen fun s' J => ⟨.non, H1, J, rfl, q⟩
/-- what such an __init__ does -/
def spI (K : PySem.W.Frag) (f : Str) : Sp := fun vs H Q _ => ∃ (a C : Addr) (m : V), vs = [.ref a, m] ∧ OexC K C ∧ PySem.W.findIn K (.ref C) f = some none ∧ H a = some (exo a C none) ∧ ∀ dx, H dx = none → dx ≠ a → Q .non (upd (upd H dx (exd dx [(f, m)])) a (exo a C (some dx)))
section
variable {P : Program} {w : World} {K : PySem.W.Frag} {mg : Str → Option Value} {base : Heap}
theorem fn_initOf {f p q m : Str} {st : Stmt} {fI : Addr} {fd : FuncData} {k : Nat} (F : Fun K "__init__" q st fI fd) (S : FnScope ["self", p] ["self", p] (defScope st))
    (hps : ∀ (cdv : Value) (A : Around) (outer : List PySem.Env) (s : Shared) (H : Hp) (E : XK), PSs (cxOf (L2.CX P w) P w K mg base ["self", p] q (defScope st) fI cdv A outer s H E) (defBody st) (tSeq (tDrop (tVeI K (tCons (tVar 0) (tCons (tC (.str m)) tNil)))) (tSeq (tOst K f (tVar 0) (tVar 1)) tNext))) :
    FnOk P w K mg base (L2.CX P w) (k + 1) fI fd ["self", p] (spI K f) := by
  refine F.okX S (fun vs H Q E h => ?_) (fun cdv A outer s H vs Q E hr h => ⟨_, hps cdv A outer s H E, ?_⟩)
  · obtain ⟨a, C, m, rfl, _⟩ := h
    rfl
  · obtain ⟨a, C, v, rfl, T, hno, ha, h⟩ := h
    refine ⟨.ref a, rfl, a, C, [.str m], rfl, by simp, T, ha, ?_⟩
    refine ⟨v, rfl, .ref a, rfl, a, C, rfl, T, hno, .inl ⟨ha, fun dx h1 h2 => ?_⟩⟩
    exact h dx h1 h2
end
/-! ### raise -/
section
variable {K : PySem.W.Frag} {mg : Str → Option Value} {W : Am K} {k : Bool} {x f b p : Str} {t : TE} {m : ME}
theorem rs_raiseI {C : Addr} (hm : mg x = some (.ref C)) (T : OexC K C) (hno : PySem.W.findIn K (.ref C) f = some none) (ha : RdE K mg W t m) : RdS K mg W k (fun _ σ H => tMkO C (spI K f) [] (tCons t tNil) σ H fun cls d H' => W.w cls d σ H') (vRaiseI x f m) := fun G hG B H σ e D S h => by
  unfold vRaiseI at h
  refine ha.run G hG B H σ e _ S ?_
  cases r : m e with
  | bot => rw [r] at h; exact h.elim
  | err y e1 => rw [r] at h; exact fun cls dd B' H' S' s' x' => h cls dd σ B' H' S' s' x'
  | ok d e1 =>
    rw [r] at h
    intro v B1 H1 S1 s1 r1
    cases d with
    | int n =>
      have r1 : Rep K B1 v (.int n) := r1
      cases r1
      have h : ∀ cls dd σ' B' H', Sto K G B' H' σ' e1 → Same B B' → XRep K mg B' cls dd ⟨x, some (f, n)⟩ → W.w cls dd σ' H' := h
      refine ⟨by simp, fun a ha => ⟨a, C, .int n, rfl, T, hno, upd_same, fun dx hdx ne => ?_⟩⟩
      have hd1 : H1 dx = none := by rwa [upd_ne ne] at hdx
      refine ⟨rfl, dx, [(f, .int n)], upd_same, by rw [upd_ne ne, upd_same], hd1, ?_⟩
      have e2 : upd (del (upd (upd (upd H1 a (exo a C none)) dx (exd dx [(f, .int n)])) a (exo a C (some dx))) a) dx (.xd [(f, .int n)]) = upd H1 dx (.xd [(f, .int n)]) := by
        funext c
        by_cases h1 : c = dx
        · rw [h1, upd_same, upd_same]
        · rw [upd_ne h1, upd_ne h1]
          by_cases h2 : c = a
          · rw [h2, del_same, ha]
          · rw [del_ne h2, upd_ne h2, upd_ne h1, upd_ne h2]
      rw [e2]
      have S2 := S1.alloc (p := dx) (o := .xd [(f, .int n)]) hd1
      exact h (.ref C) (some dx) _ _ _ S2 (s1.trans (same_upd' (S1.sub.free hd1))) ⟨C, hm, rfl, dx, rfl, upd_same⟩
    | _ => exact h.elim
end
section
variable {X : Cx} {W : Am X.K} {k : Bool} {pos p0 cpos : Pos} {x f b p q m0 : Str} {st : Stmt} {e : Expr} {m : ME} {P : Program} {w : World}
/-- raise x(e) -/
theorem vs_raiseI {j : Nat} (T : OexT X.K X.mg x f b st p q) (hX : X.prog = P ∧ X.w = w) (S : FnScope ["self", p] ["self", p] (defScope st))
    (hps : ∀ (fI : Addr) (base : Heap) (cdv : Value) (A : Around) (outer : List PySem.Env) (s : Shared) (H : Hp) (E : XK), PSs (cxOf (L2.CX P w) P w X.K X.mg base ["self", p] q (defScope st) fI cdv A outer s H E) (defBody st) (tSeq (tDrop (tVeI X.K (tCons (tVar 0) (tCons (tC (.str m0)) tNil)))) (tSeq (tOst X.K f (tVar 0) (tVar 1)) tNext)))
    (hr : Room (j + 2) X.A) (tk : Takes X W.w) (hc : X.calm = true) (he : VE X.K X.mg (at1 X) W e m) (hg : Gl X x := by rfl) (hdb : (x == ("__debug__" : Str)) = false := by decide)
    (hs : starEach [e] X.env = (false, eval e X.env) :: starEach [] X.env := by rfl) : VS X W k (.Raise (some (.Call (.Name x p0) [e] [] cpos)) none pos) (vRaiseI x f m) := by
  obtain ⟨C, fI, fd, g, O, iC, tI, hno, F, B⟩ := T.ex
  obtain ⟨rfl, rfl⟩ := hX
  obtain ⟨t, pt, rt⟩ := he
  have F1 : FnOk X.prog X.w X.K X.mg X.base (L2.CX X.prog X.w) (j + 1) fI fd ["self", p] (spI X.K f) := fn_initOf F S fun cdv A outer s H E => hps fI X.base cdv A outer s H E
  exact ⟨_, ps_raise hc tk (pmk_oex (k := j + 1) (ds := []) (dvs := []) O iC tI F1 hr B.b .nil (passes_call tk fun _ _ _ _ z => z.elim) hg g (pa_cons (pt ()) pa_nil hs) hdb hs rfl), rs_raiseI g O hno rt⟩
end
end VL

/-! VL15: several except clauses, with and without names. -/
namespace VL
open PySem PySem.Spec PyProof.Rows L2
/-! ### the rule -/
/-- what the clauses wish of an exception of the body, one after the other -/
def wManyN (K : PySem.W.Frag) (Wout : WX) (D : Ends) : List (Value × Option Nat × (Addr → Value → Option Addr → TS)) → WX
  | [] => Wout
  | (c, oi, ts) :: r => fun cls d σ H => ∃ b, PySem.W.exmOne K cls c = some b ∧ (b = true → ∀ a, H a = none → match oi with
      | none => ts a cls d D σ H
      | some i => ts a cls d { nx := fun σ' H' => D.nx (σ'.set i none) H', rt := D.rt, bk := fun σ' H' => D.bk (σ'.set i none) H', ct := fun σ' H' => D.ct (σ'.set i none) H' } (σ.set i (some (.ref a))) H) ∧
    (b = false → wManyN K Wout D r cls d σ H)
inductive HdsN (X : Cx) : List ExceptHandler → List (Value × Option Nat × (Addr → Value → Option Addr → TS)) → Prop
  | nil : HdsN X [] []
  | one {x : Str} {c : Value} {ts : Addr → Value → Option Addr → TS} {b₀ : Stmt} {suite : List Stmt} {np pos' : Pos} {hds : List ExceptHandler} {l : List (Value × Option Nat × (Addr → Value → Option Addr → TS))} (hc : Names X x c)
      (hsu : ∀ (a : Addr) (oe : Obj) (cls : Value) (d : Option Addr) (pn : List (Addr × Obj)), Zc cls d oe → (∃ vs, oe.data = .fields vs) → PSs (X.suite a ((a, oe) :: pn)) (b₀ :: suite) (ts a cls d)) (r : HdsN X hds l) :
      HdsN X (.ExceptHandler (some (.Name x np)) none (b₀ :: suite) pos' :: hds) ((c, none, ts) :: l)
  | as {x n : Str} {i : Nat} {c : Value} {ts : Addr → Value → Option Addr → TS} {b₀ : Stmt} {suite : List Stmt} {np pos' : Pos} {hds : List ExceptHandler} {l : List (Value × Option Nat × (Addr → Value → Option Addr → TS))} (hi : X.N[i]? = some n) (hln : X.env.kindOf n = some .local) (hc : Names X x c)
      (hsu : ∀ (a : Addr) (oe : Obj) (cls : Value) (d : Option Addr) (pn : List (Addr × Obj)), Zc cls d oe → (∃ vs, oe.data = .fields vs) → PSs (X.suite a ((a, oe) :: pn)) (b₀ :: suite) (ts a cls d)) (r : HdsN X hds l) :
      HdsN X (.ExceptHandler (some (.Name x np)) (some n) (b₀ :: suite) pos' :: hds) ((c, some i, ts) :: l)
section
variable {X : Cx} {body : List Stmt} {h₀ : ExceptHandler} {hds : List ExceptHandler} {l : List (Value × Option Nat × (Addr → Value → Option Addr → TS))} {pos : Pos} {tb : WX → TS} {Wout : WX}
theorem ps_try_manyN (hs : X.stack = X.env :: X.outer) (hf : X.env.frame = some X.env.locals) (hN : X.N.Nodup) (tk : Takes X Wout)
    (hb : ∀ (W : WX) (pn : List (Addr × Obj)) (xe : Value → Shared → Prop), Takes (X.tr pn xe) W → PassesOwn (model X.prog X.w) X.A X.env xe → PSs (X.tr pn xe) body (tb W))
    (hh : HdsN X (h₀ :: hds) l) : PS X (.Try body (h₀ :: hds) [] [] pos) (fun D σ H => tb (wManyN X.K Wout D l) D σ H) := by
  refine ⟨fun pins s σ H D I h => ?_⟩
  have ok := I.ok
  have hfr : X.A.frames = some (X.env :: X.outer) := by rw [ok.frames, hs]
  refine wpAny_Try_except ?_
  refine wpAny_mono ((hb (wManyN X.K Wout D l) (X.pn ++ pins) (fun e s₁ => wpAny (model X.prog X.w) X.A (noteFrame e X.env) (fun _ s₂ => wpAny (model X.prog X.w) X.A (setFlight e none) (fun _ s₃ =>
    wpAny (model X.prog X.w) X.A (handleBy e X.env (h₀ :: hds)) (SP X pins D) X.xe s₃) X.xe s₂) X.xe s₁) (fun u s' xx => ?_) PassesOwn.looking).run [] s σ H D (I.toTry _) h) (fun f s1 hsp => ?_) (fun e s1 he => he)
  · -- the catch
    obtain ⟨a, B, sI, pins', σ', H', cls, d, rfl, J', nb, up, sky, na, os, ag, w⟩ := xx
    have J : Inv X pins σ' H' sI := J'.ofTry ok
    have sky' : Sky B (X.env :: X.outer) a (Zc cls d) X.env.locals s'.heap := by rw [← hs]; exact sky
    show wpAny (model X.prog X.w) X.A (noteFrame (.ref a) X.env) _ _ _
    refine Sky.land Zc.steady hfr hf sky' fun h3 fl3 up3 => ?_
    have J3 : Inv X pins σ' H' { s' with heap := h3 } := J.landed nb fl3.1 (up.trans up3) os ag
    obtain ⟨oe3, vs3, he3, hz3, hd3⟩ := fl3.there
    have notFr : ∀ {h : Heap} {o : Obj} {vs : Array Value}, h.FunFrames B (X.env :: X.outer) → h.get? a = some o → o.data = .fields vs → a ∉ frs (X.env :: X.outer) := fun {h o vs} ff e dd hm => by
      obtain ⟨_, o', e', hnf⟩ := ff.mem hm
      rw [e] at e'; cases e'
      exact hnf _ dd
    have nfr := notFr fl3.2.2.1 he3 hd3
    have nL : a ≠ X.env.locals := fun z => nfr (List.mem_filterMap.mpr ⟨X.env, List.mem_cons_self, by rw [hf, z]⟩)
    have nF : a ∉ X.fs := fun hm => by
      obtain ⟨e, he, q⟩ := List.mem_filterMap.mp hm
      exact nfr (List.mem_filterMap.mpr ⟨e, List.mem_cons_of_mem _ he, q⟩)
    have S3 := J3.suite he3 hd3 na nL nF
    have LT : PySem.W.Looks (model X.prog X.w) h3 (typeOf (.ref a)) cls := fun A Q E s k q => wpAny_typeOf_ref (k _ _ he3) (by rw [hz3.1]; exact q)
    have test : ∀ {x : Str} {np : Pos} {c : Value} {Q : Value → Shared → Prop} {E : Value → Shared → Prop}, Names X x c → Q c { s' with heap := h3 } → wpAny (model X.prog X.w) (X.A.mark (some (.ref a))) (eval (.Name x np) X.env) Q E { s' with heap := h3 } := fun {x np c Q E} hc q => by
      obtain ⟨hg, hdbg, hm | ⟨hm, hv, hnn⟩⟩ := hc
      · exact ld_glob (X := X.suite a ((a, oe3) :: (X.pn ++ pins))) S3 hg hm q hdbg
      · exact ld_blt (X := X.suite a ((a, oe3) :: (X.pn ++ pins))) S3 hg hm hv q hnn hdbg
    have go : ∀ {hds' : List ExceptHandler} {l' : List (Value × Option Nat × (Addr → Value → Option Addr → TS))}, HdsN X hds' l' → wManyN X.K Wout D l' cls d σ' H' →
        wpAny (model X.prog X.w) X.A (handleBy (.ref a) X.env hds') (SP X pins D) X.xe { s' with heap := h3 } := by
      intro hds' l' hk
      induction hk with
      | nil =>
        intro w
        refine wpAny_handleBy_nil ?_
        obtain ⟨k1, k2, k3, oe, vs, T, oT, ts', he, hz, hd, h1, hr⟩ := id fl3
        unfold PySem.passOn
        refine wpAny_bind (wpAny_field he hd h1 ?_)
        rw [if_neg (show ¬ ((Value.ref T == Value.none) = true) from by simp)]
        have fin : wpAny (model X.prog X.w) X.A (setFlight (.ref a) X.env.frame) (fun _ s4 => wpAny (model X.prog X.w) X.A (throw (.ref a) : Sem Flow) (SP X pins D) X.xe s4) X.xe { s' with heap := h3 } := by
          rw [hf]
          refine HandSPX.setFlight_upZ fl3 fun h4 hh4 up4 => wpAny_throw (tk _ _ ?_)
          exact ⟨a, B, sI, pins, σ', H', cls, d, rfl, J, nb, (up.trans up3).trans up4, .inr (.inr (by rw [hs]; exact hh4)), na, os, ag, w⟩
        first
          | exact wpAny_bind (wpAny_pure (wpAny_bind fin))
          | exact wpAny_bind fin
      | @one x c ts b₀ suite np pos' hds2 l2 hc hsu r ih =>
        intro w
        obtain ⟨b, hb1, hyes, hno⟩ := w
        refine wpAny_handleBy_cons (codeAny_handlers_test ?_) (by intro q; cases q)
        have LM := PySem.W.exm_one (M := model X.prog X.w) (J3.kIn) LT hb1
        refine test hc (LM.here ?_)
        cases b with
        | true =>
          refine codeAny_handlers_suite ?_
          refine HandSPX.lands_againZ fl3 fun h4 fl4 up4 => ?_
          have J4 : Inv X pins σ' H' { s' with heap := h4 } := J.landed nb fl4.1 ((up.trans up3).trans up4) os ag
          obtain ⟨oe4, vs4, he4, hz4, hd4⟩ := fl4.there
          have S4 := J4.suite he4 hd4 na nL nF
          refine wpAny_mono ((hsu a oe4 cls d (X.pn ++ pins) hz4 ⟨_, hd4⟩).run [] _ _ H' _ S4 (hyes rfl a na)) (fun f s6 hsp => ?_) (fun _ _ z => False.elim z)
          cases f with
          | next =>
            obtain ⟨σ6, H6, S6, q6⟩ := hsp
            exact ⟨_, _, S6.unsuite ok, q6⟩
          | brk =>
            obtain ⟨σ6, H6, S6, q6⟩ := hsp
            exact ⟨_, _, S6.unsuite ok, q6⟩
          | cont =>
            obtain ⟨σ6, H6, S6, q6⟩ := hsp
            exact ⟨_, _, S6.unsuite ok, q6⟩
          | ret u =>
            obtain ⟨v6, σ6, H6, S6, r6, q6⟩ := hsp
            exact ⟨_, _, _, S6.unsuite ok, r6, q6⟩
        | false =>
          show wpAny _ X.A (handleBy (.ref a) X.env hds2) _ _ _
          exact ih (hno rfl)
      | @as x n i c ts b₀ suite np pos' hds2 l2 hi hln hc hsu r ih =>
        intro w
        obtain ⟨b, hb1, hyes, hno⟩ := w
        have hloc : Loc X.env.scope n := .inl hln
        refine wpAny_handleBy_cons (codeAny_handlers_test ?_) (by intro q; cases q)
        have LM := PySem.W.exm_one (M := model X.prog X.w) (J3.kIn) LT hb1
        refine test hc (LM.here ?_)
        cases b with
        | true =>
          refine codeAny_handlers_suite_as ?_
          refine HandSPX.lands_againZ fl3 fun h4 fl4 up4 => ?_
          have J4 : Inv X pins σ' H' { s' with heap := h4 } := J.landed nb fl4.1 ((up.trans up3).trans up4) os ag
          obtain ⟨oe4, vs4, he4, hz4, hd4⟩ := fl4.there
          have S4 := J4.suite he4 hd4 na nL nF
          refine store_ok (X := X.suite a ((a, oe4) :: (X.pn ++ pins))) (v := .ref a) S4 hN hi hloc rfl (fun s5 S5 => ?_) (.inr hln)
          refine wpAny_mono ((hsu a oe4 cls d (X.pn ++ pins) hz4 ⟨_, hd4⟩).run [] s5 _ H' _ S5 (hyes rfl a na)) (fun f s6 hsp => ?_) (fun _ _ z => False.elim z)
          have end_ : ∀ {σ6 : L2.St} {H6 : Hp} {Q : Shared → Prop}, Inv (X.suite a ((a, oe4) :: (X.pn ++ pins))) [] σ6 H6 s6 → (∀ s7, Inv X pins (σ6.set i none) H6 s7 → Q s7) →
              wpAny (model X.prog X.w) X.A (do bindName X.env n .none; unbindBehindTheSuite X.env n pos') (fun _ s7 => Q s7) X.xe s6 := fun {σ6 H6 Q} S6 hq => gone_ok (S6.unsuite ok) hN hi hln hq
          cases f with
          | next =>
            obtain ⟨σ6, H6, S6, q6⟩ := hsp
            exact end_ S6 fun s7 J7 => ⟨_, _, J7, q6⟩
          | brk =>
            obtain ⟨σ6, H6, S6, q6⟩ := hsp
            exact end_ S6 fun s7 J7 => ⟨_, _, J7, q6⟩
          | cont =>
            obtain ⟨σ6, H6, S6, q6⟩ := hsp
            exact end_ S6 fun s7 J7 => ⟨_, _, J7, q6⟩
          | ret u =>
            obtain ⟨v6, σ6, H6, S6, r6, q6⟩ := hsp
            exact end_ S6 fun s7 J7 => ⟨_, _, _, J7, r6, q6⟩
        | false =>
          show wpAny _ X.A (handleBy (.ref a) X.env hds2) _ _ _
          exact ih (hno rfl)
    exact go hh w
  · cases f with
    | next =>
      obtain ⟨σ', H', J', q⟩ := hsp
      exact wpAny_execs_nil ⟨σ', H', J'.ofTry ok, q⟩
    | brk =>
      obtain ⟨σ', H', J', q⟩ := hsp
      exact ⟨σ', H', J'.ofTry ok, q⟩
    | cont =>
      obtain ⟨σ', H', J', q⟩ := hsp
      exact ⟨σ', H', J'.ofTry ok, q⟩
    | ret u =>
      obtain ⟨v, σ', H', J', r, q⟩ := hsp
      exact ⟨v, σ', H', J'.ofTry ok, r, q⟩
end
/-! ### within the suite -/
/-- what stands with the error's dict -/
def pay (B : Hp) (d : Option Addr) (x : Xc) : Prop := match x.val with
  | none => d = none
  | some (f, n) => ∃ dd, d = some dd ∧ B dd = some (.xd [(f, .int n)])
theorem pay_sub {B B' : Hp} {d : Option Addr} {x : Xc} (s : Same B B') (h : pay B d x) : pay B' d x := by
  unfold pay at *
  split
  · rename_i q; rw [q] at h; exact h
  · rename_i f n q
    rw [q] at h
    obtain ⟨dd, e, hb⟩ := h
    exact ⟨dd, e, s _ _ hb⟩
theorem full_b {B H : Hp} {σ : L2.St} {e : Env} : Same B (full B H σ e) := fun a o h => by
  unfold full
  rw [h]
/-- within an except's suite: the error stands at a (where it has a name), its dict at d, nothing is raised -/
def Am.exv (K : PySem.W.Frag) (oa : Option Addr) (d : Option Addr) (x : Xc) : Am K := ⟨fun _ _ _ _ => False, fun G => (∀ a, oa = some a → G.tok 0 = a) ∧ pay G.B d x,
  fun G B H σ e h S => ⟨h.1, pay_sub (S.b0.trans full_b) h.2⟩, fun G B H σ e h S => ⟨h.1, pay_sub S.b0 h.2⟩, fun G n p hn h => ⟨fun a ha => (if_neg (Ne.symm hn)).trans (h.1 a ha), h.2⟩⟩
section
variable {K : PySem.W.Frag} {mg : Str → Option Value} {W : Am K} {k : Bool} {G : Gr} {B H : Hp} {σ : L2.St} {e : Env}
/-- told from the entry on, where it is told from here on -/
theorem PoS.unreb {D : Ends} {r : RS} (S : Sto K G B H σ e) (h : PoS K mg W k G B D r) : PoS K mg W k (VL.reb G B H σ e) B D r := by
  cases r with
  | nx e' => exact fun σ' B' H' S' s => h σ' B' H' (S.unreb S') s
  | bk e' => exact fun σ' B' H' S' s => h σ' B' H' (S.unreb S') s
  | ct e' => exact fun σ' B' H' S' s => h σ' B' H' (S.unreb S') s
  | rt d e' => exact fun v σ' B' H' S' s ro => h v σ' B' H' (S.unreb S') s (ro.unreb S)
  | err x e' => exact fun c d σ' B' H' S' s xr => h c d σ' B' H' (S.unreb S') s xr
  | bot => exact h
end
section
variable {K : PySem.W.Frag} {mg : Str → Option Value} {W : Am K} {k : Bool} {names : List Str} {anc : Str → Str → Bool} {bi : List String} {m : MS}
def clT (K : PySem.W.Frag) (mg : Str → Option Value) (k : Bool) (names : List Str) (c : Cl) : Value × Option Nat × (Addr → Value → Option Addr → TS) :=
  ((mg c.1).getD .none, c.2.1, fun a cls d D σ H => ∃ x C, x.cls ∈ names ∧ mg x.cls = some (.ref C) ∧ cls = .ref C ∧ canS K mg (Am.exv K (c.2.1.map fun _ => a) d x) k (c.2.2 x) D σ H)
theorem noX_pos {W' : Am K} {G : Gr} {B : Hp} {D : Ends} {r : RS} (h : PoS K mg W k G B D (noX r)) : PoS K mg W' k G B D (noX r) := by
  cases r with
  | err x e' => exact h.elim
  | nx e' => exact h
  | bk e' => exact h
  | ct e' => exact h
  | rt d e' => exact h
  | bot => exact h
theorem noX_of {G : Gr} {B : Hp} {D : Ends} {r : RS} (h : PoS K mg W k G B D (noX r)) : PoS K mg W k G B D r := by
  cases r with
  | err x e' => exact h.elim
  | nx e' => exact h
  | bk e' => exact h
  | ct e' => exact h
  | rt d e' => exact h
  | bot => exact h
theorem PoS.to {W' : Am K} {G : Gr} {B : Hp} {D : Ends} {r : RS} (hw : W.w = W'.w) (h : PoS K mg W k G B D r) : PoS K mg W' k G B D r := by
  cases r with
  | err x e' => exact fun c d σ' B' H' S' s xr => hw ▸ h c d σ' B' H' S' s xr
  | nx e' => exact h
  | bk e' => exact h
  | ct e' => exact h
  | rt d e' => exact h
  | bot => exact h
theorem handle_ok (T : ExT K mg names anc bi) {D : Ends} : ∀ (cl : List Cl), (∀ c ∈ cl, c.1 ∈ names) → ∀ (G : Gr) (B B' H' : Hp) (σ' : L2.St) (e1 : Env) (x : Xc) (C : Addr) (dd : Option Addr), W.g G → Sto K G B' H' σ' e1 → Same B B' → x.cls ∈ names → mg x.cls = some (.ref C) → XRep K mg B' (.ref C) dd x → PoS K mg W k G B D (vHandle anc cl x e1) →
    wManyN K W.w D (cl.map (clT K mg k names)) (.ref C) dd σ' H'
  | [], _, G, B, B', H', σ', e1, x, C, dd, hG, S', s, hx, h1, xr, q => q (.ref C) dd σ' B' H' S' s xr
  | (y, none, h) :: r, hc, G, B, B', H', σ', e1, x, C, dd, hG, S', s, hx, h1, xr, q => by
    obtain ⟨c, hD⟩ := T.top y (hc _ List.mem_cons_self)
    have py : pay B' dd x := by
      obtain ⟨C', g1, g2, g3⟩ := xr
      exact g3
    refine ⟨anc x.cls y, ?_, fun hb a ha => ?_, fun hb => ?_⟩
    · have : (mg y).getD .none = .ref c := by rw [hD]; rfl
      show PySem.W.exmOne K (.ref C) ((mg y).getD .none) = _
      rw [this]
      exact T.exm x.cls hx y (hc _ List.mem_cons_self) C c h1 hD
    · unfold vHandle at q
      rw [if_pos hb] at q
      refine ⟨x, C, hx, h1, rfl, reb G B' H' σ' e1, B', e1, ⟨fun a' ha' => (by cases ha'), py⟩, S'.reb, ?_⟩
      exact PoS.unreb S' (noX_of (noX_pos (PoS.base s q)))
    · unfold vHandle at q
      rw [if_neg (by rw [hb]; exact Bool.false_ne_true)] at q
      exact handle_ok T r (fun c hm => hc c (List.mem_cons_of_mem _ hm)) G B B' H' σ' e1 x C dd hG S' s hx h1 xr q
  | (y, some i, h) :: r, hc, G, B, B', H', σ', e1, x, C, dd, hG, S', s, hx, h1, xr, q => by
    obtain ⟨c, hD⟩ := T.top y (hc _ List.mem_cons_self)
    have py : pay B' dd x := by
      obtain ⟨C', g1, g2, g3⟩ := xr
      exact g3
    refine ⟨anc x.cls y, ?_, fun hb a ha => ?_, fun hb => ?_⟩
    · have : (mg y).getD .none = .ref c := by rw [hD]; rfl
      show PySem.W.exmOne K (.ref C) ((mg y).getD .none) = _
      rw [this]
      exact T.exm x.cls hx y (hc _ List.mem_cons_self) C c h1 hD
    · unfold vHandle at q
      rw [if_pos hb] at q
      have S2 : Sto K (GT G 0 a) B' H' (σ'.set i (some (.ref a))) ((clrE 0 e1).set i (.tk 0)) := by
        by_cases hi : i < e1.length
        · exact (S'.drop i (some (.ref a))).tokAt hi (List.getElem?_set_self (by rw [S'.len]; exact hi))
        · have z1 : (clrE 0 e1).set i (.tk 0) = clrE 0 e1 := List.set_eq_of_length_le (by rw [clr_len]; omega)
          have z2 : σ'.set i (some (.ref a)) = σ' := List.set_eq_of_length_le (by rw [S'.len]; omega)
          rw [z1, z2]
          exact (Sto.untok (G := GT G 0 a) (n := 0) (p := G.tok 0) (by
            have e2 : GT (GT G 0 a) 0 (G.tok 0) = G := by
              unfold GT
              cases G
              simp only [Gr.mk.injEq, true_and]
              funext m
              by_cases hm : m = 0
              · simp [hm]
              · simp [hm]
            rw [e2]
            exact S'))
      refine ⟨x, C, hx, h1, rfl, reb (GT G 0 a) B' H' _ _, B', (clrE 0 e1).set i (.tk 0), ⟨fun a' ha' => ?_, py⟩, S2.reb, ?_⟩
      · cases ha'
        exact show (if (0 : Nat) = 0 then a else G.tok 0) = a from if_pos rfl
      · exact PoS.to (W := Am.ex K a) rfl (PoS.unreb S2 (PoS.post trivial (PoS.base s q)))
    · unfold vHandle at q
      rw [if_neg (by rw [hb]; exact Bool.false_ne_true)] at q
      exact handle_ok T r (fun c hm => hc c (List.mem_cons_of_mem _ hm)) G B B' H' σ' e1 x C dd hG S' s hx h1 xr q
theorem rs_tryM (T : ExT K mg names anc bi) {cl : List Cl} (hc : ∀ c ∈ cl, c.1 ∈ names) : RdS K mg W k (fun D σ H => canS K mg (W.to (wManyN K W.w D (cl.map (clT K mg k names)))) k m D σ H) (vTryM names anc cl m) := fun G hG B H σ e D S q => by
  refine ⟨G, B, e, hG, S, ?_⟩
  unfold vTryM at q
  cases r : m e with
  | nx e' => simp only [r] at q; exact q
  | rt d e' => simp only [r] at q; exact q
  | bk e' => simp only [r] at q; exact q
  | ct e' => simp only [r] at q; exact q
  | bot => simp only [r] at q; exact q.elim
  | err x e1 =>
    simp only [r] at q
    intro cls dd σ' B' H' S' s xr
    obtain ⟨C, h1, h2, h3⟩ := id xr
    subst h2
    by_cases hx : x.cls ∈ names
    · rw [if_pos hx] at q
      exact handle_ok T cl hc G B B' H' σ' e1 x C dd hG S' s hx h1 xr q
    · rw [if_neg hx] at q; exact q.elim
end
/-! ### the clauses of the text -/
inductive VHds (X : Cx) (k : Bool) (names : List Str) : List ExceptHandler → List Cl → Prop
  | nil : VHds X k names [] []
  | one {y : Str} {h : Xc → MS} {b₀ : Stmt} {suite : List Stmt} {np pos' : Pos} {hds : List ExceptHandler} {cl : List Cl} (hy : y ∈ names) (hg : Gl X y) (hdb : (y == ("__debug__" : Str)) = false)
      (hsu : ∀ (x : Xc), x.cls ∈ names → ∀ (a : Addr) (oe : Obj) (C : Addr) (d : Option Addr) (pn : List (Addr × Obj)), X.mg x.cls = some (.ref C) → Zc (.ref C) d oe → (∃ vs, oe.data = .fields vs) → VSs (X.suite a ((a, oe) :: pn)) (Am.exv X.K none d x) k (b₀ :: suite) (h x))
      (r : VHds X k names hds cl) : VHds X k names (.ExceptHandler (some (.Name y np)) none (b₀ :: suite) pos' :: hds) ((y, none, h) :: cl)
  | as {y n : Str} {i : Nat} {h : Xc → MS} {b₀ : Stmt} {suite : List Stmt} {np pos' : Pos} {hds : List ExceptHandler} {cl : List Cl} (hy : y ∈ names) (hi : X.N[i]? = some n) (hln : X.env.kindOf n = some .local) (hg : Gl X y) (hdb : (y == ("__debug__" : Str)) = false)
      (hsu : ∀ (x : Xc), x.cls ∈ names → ∀ (a : Addr) (oe : Obj) (C : Addr) (d : Option Addr) (pn : List (Addr × Obj)), X.mg x.cls = some (.ref C) → Zc (.ref C) d oe → (∃ vs, oe.data = .fields vs) → VSs (X.suite a ((a, oe) :: pn)) (Am.exv X.K (some a) d x) k (b₀ :: suite) (h x))
      (r : VHds X k names hds cl) : VHds X k names (.ExceptHandler (some (.Name y np)) (some n) (b₀ :: suite) pos' :: hds) ((y, some i, h) :: cl)
section
variable {X : Cx} {W : Am X.K} {k : Bool} {pos : Pos} {body : List Stmt} {h₀ : ExceptHandler} {hds : List ExceptHandler} {cl : List Cl} {m : MS} {names : List Str} {anc : Str → Str → Bool} {bi : List String}
theorem VHds.nms {hds : List ExceptHandler} {cl : List Cl} (h : VHds X k names hds cl) : ∀ c ∈ cl, c.1 ∈ names := by
  induction h with
  | nil => exact fun c hc => nomatch hc
  | one hy _ _ _ _ ih =>
    intro c hc
    rcases List.mem_cons.mp hc with rfl | hc
    · exact hy
    · exact ih c hc
  | as hy _ _ _ _ _ _ ih =>
    intro c hc
    rcases List.mem_cons.mp hc with rfl | hc
    · exact hy
    · exact ih c hc
theorem VHds.ok (T : ExT X.K X.mg names anc bi) {hds : List ExceptHandler} {cl : List Cl} (h : VHds X k names hds cl) : HdsN X hds (cl.map (clT X.K X.mg k names)) := by
  induction h with
  | nil => exact .nil
  | @one y h b₀ suite np pos' hds cl hy hg hdb hsu r ih =>
    obtain ⟨D, hD⟩ := T.top y hy
    have e : (X.mg y).getD .none = .ref D := by rw [hD]; rfl
    refine .one (c := (X.mg y).getD .none) (by rw [e]; exact ⟨hg, hdb, .inl hD⟩) (fun a oe cls d pn hz hfl => ⟨fun pins s σ H D I ⟨x, C, hx, e1, e2, q⟩ => ?_⟩) ih
    subst e2
    exact (hsu x hx a oe C d pn e1 hz hfl).can.run pins s σ H D I q
  | @as y n i h b₀ suite np pos' hds cl hy hi hln hg hdb hsu r ih =>
    obtain ⟨D, hD⟩ := T.top y hy
    have e : (X.mg y).getD .none = .ref D := by rw [hD]; rfl
    refine .as (c := (X.mg y).getD .none) hi hln (by rw [e]; exact ⟨hg, hdb, .inl hD⟩) (fun a oe cls d pn hz hfl => ⟨fun pins s σ H D I ⟨x, C, hx, e1, e2, q⟩ => ?_⟩) ih
    subst e2
    exact (hsu x hx a oe C d pn e1 hz hfl).can.run pins s σ H D I q
theorem vs_tryM (T : ExT X.K X.mg names anc bi) (hs : X.stack = X.env :: X.outer) (hf : X.env.frame = some X.env.locals) (hN : X.N.Nodup) (tk : Takes X W.w)
    (hb : ∀ (Wx : WX) (pn : List (Addr × Obj)) (xe : Value → Shared → Prop), Takes (X.tr pn xe) Wx → PassesOwn (model X.prog X.w) X.A X.env xe → VSs (X.tr pn xe) (W.to Wx) k body m)
    (hh : VHds X k names (h₀ :: hds) cl) : VS X W k (.Try body (h₀ :: hds) [] [] pos) (vTryM names anc cl m) :=
  ⟨_, ps_try_manyN (tb := fun Wx => canS X.K X.mg (W.to Wx) k m) hs hf hN tk (fun Wx pn xe t p => (hb Wx pn xe t p).can) (hh.ok T), rs_tryM T hh.nms⟩
end
end VL

/-! VL16: what an except suite asks of the error in hand. -/
namespace PySem.W
open PySem PySem.Spec PySem.Calls PyProof.Rows
section
variable {prog : Program} {w : World} {A : Around} {E : Value → Shared → Prop} {s : Shared} {K : Frag} {x D : Addr} {ox : Obj} {od : Option Obj}
theorem findObj_dataO {C : Addr} {name : Str} {a g : Value} (hc : (clsIn K C).isSome = true) (ha : findIn K (.ref C) name = some (some a)) (hg : specialIn K a "__get__" = some (some g)) (ht : takesIn K a = some true) : findObj K C od name = some (.bind g a) := by
  obtain ⟨cd, hc⟩ := Option.isSome_iff_exists.mp hc
  unfold findObj
  rw [hc, Option.bind_some, ha, Option.bind_some]
  simp [hg, ht]
theorem kin_classO {Q : Option Value → Shared → Prop} (hga : findIn K (.ref D) "__getattribute__" = some (some (.builtin "BaseException.__getattribute__"))) (hgt : findIn K (.ref D) "__getattr__" = some none) (hsub : subIn K (.ref D) (.type "BaseException") = some true)
    (hdct : hasDictIn K D = true) (ha : findIn K (.ref D) "__class__" = some (some (.builtin "object.__class__")))
    (hn : specialIn K (.builtin "object.__class__") "__get__" = some (some (.builtin "getset_descriptor.__get__"))) (htk : takesIn K (.builtin "object.__class__") = some true) (hm : mroIn K D (.type "object") = some true)
    (X : K.In s.heap) (I : InstAt s.heap x ox D od) (h : Q (some (.ref D)) { s with toks := s.toks + 1 }) : wpAny (model prog w) A (getAttr? (.ref x) "__class__") Q E s := by
  have hf : findObj K D od "__class__" = some (.bind (.builtin "getset_descriptor.__get__") (.builtin "object.__class__")) := findObj_dataO (by obtain ⟨cd, hc, _⟩ := any_some hdct; rw [hc]; rfl) ha hn htk
  obtain ⟨hp, g, d, t, os⟩ := s
  have L0 := I.type (M := model prog w)
  have L1 := looks_findIn (M := model prog w) X hga
  have L2 := looks_findIn (M := model prog w) X hgt
  have L3 := looks_find (M := model prog w) X I hf
  have sub : Looks (model prog w) hp (isInstance (.ref x) (.type "BaseException")) true := L0.andThen (looks_subIn X hsub)
  have hx0 : (false && onTheHeap (Value.builtin "BaseException.__getattribute__")) = false := rfl
  have hx2 : (Value.builtin "BaseException.__getattribute__" == Value.builtin "object.__getattribute__") = false := by decide +kernel
  have hx1 : (onTheHeap (Value.ref D) && Value.builtin "BaseException.__getattribute__" == Value.builtin "object.__getattribute__") = false := by rw [hx2]; rfl
  unfold getAttr? getAttrBy? getAttrBy
  refine wpAny_bind (wpAny_mkText (wpAny_bind (wpAny_attempt (wpAny_holding (wpAny_bind (L0.at (wpAny_bind (L1.at ?_))))))))
  show wpAny _ _ (if (onTheHeap (Value.ref D) && Value.builtin "BaseException.__getattribute__" == Value.builtin "object.__getattribute__") = true then _ else _) _ _ _
  rw [hx1, if_neg Bool.false_ne_true]
  unfold getAttrByItsOwn hookBefore
  refine wpAny_bind ?_
  rw [if_pos (show onTheHeap (Value.ref D) = true from rfl)]
  refine L2.at ?_
  refine wpAny_bind (wpAny_attempt (wpAny_holding ?_))
  unfold callGetattribute
  rw [hx0, if_neg Bool.false_ne_true]
  unfold boundAndCalled
  rw [PySem.F.excAttr_ValueError.ga.bind (.ref x)]
  refine wpAny_bind (wpAny_pure ?_)
  show wpAny _ _ (call (.builtin "BaseException.__getattribute__") [.ref x, .str "__class__" t]) _ _ _
  refine wpAny_call (codeAny_call_builtin PySem.F.excAttr_ValueError.ga.plain PySem.F.entry_bexc_ga ?_)
  refine @check_slot (model prog w) _ _ ⟨hp, g, d, t + 1, os⟩ "BaseException.__getattribute__" "BaseException" "__getattribute__" (.ref x) [.str "__class__" t] [] _ (by decide +kernel) (by decide +kernel) sub (PySem.F.args_bexc_ga (.ref x) (.str "__class__" t)) ?_
  unfold Builtin.«object.__getattribute__»
  refine wpAny_bind (wpAny_of_eq (a := ((Value.ref x : Value), [Value.str "__class__" t])) (by first | rfl | (simp only [slotArgs]; rfl)) ?_)
  refine wpAny_bind (wpAny_pure (wpAny_bind (L0.at (wpAny_bind (L3.at ?_)))))
  show wpAny _ _ (holding [Value.builtin "object.__class__"] (call (.builtin "getset_descriptor.__get__") [.builtin "object.__class__", .ref x, .ref D]) >>= ret) _ _ _
  refine wpAny_bind (wpAny_holding (wpAny_call (class_get (s := ⟨hp, g, d, t + 1, os⟩) (ox := ox) (od := od) X I hm ?_)))
  refine wpAny_pure ?_
  show wpAny _ _ (handedOut (.ref D)) _ _ _
  rw [handedOut_of (v := .ref D) rfl]
  first
    | exact wpAny_pure (wpAny_pure h)
    | exact wpAny_pure h
    | exact wpAny_pure (wpAny_bind (wpAny_pure (wpAny_pure h)))
theorem kitx_excO (hga : findIn K (.ref D) "__getattribute__" = some (some (.builtin "BaseException.__getattribute__"))) (hgt : findIn K (.ref D) "__getattr__" = some none) (hsub : subIn K (.ref D) (.type "BaseException") = some true) (hdct : hasDictIn K D = true) (ha : findIn K (.ref D) "__class__" = some (some (.builtin "object.__class__")))
    (hn : specialIn K (.builtin "object.__class__") "__get__" = some (some (.builtin "getset_descriptor.__get__"))) (htk : takesIn K (.builtin "object.__class__") = some true) (hm : mroIn K D (.type "object") = some true) :
    KitX K (.ref x) (.ref D) (fun h => ∃ od, InstAt h x ox D od) where
  ty := fun _ _ _ ⟨_, I⟩ => I.type
  it := fun _ _ X _ => by
    obtain ⟨cdD, hcD, _⟩ := any_some hdct
    unfold clsIn at hcD
    split at hcD
    · rename_i c' d' cd' sl' ho
      intro A' Q' E' s' k q
      unfold isType loadHead
      exact wpAny_bind (wpAny_loadPart (k _ _ (X _ _ ho)) (wpAny_pure q))
    · cases hcD
  ne := fun h tp dd its n sl X htp => by
    obtain ⟨cdD, hcD, _⟩ := any_some hdct
    refine Bool.eq_false_iff.mpr fun q => ?_
    have e : D = tp := Value.ref.inj (beq_iff_eq.mp q)
    subst e
    unfold clsIn at hcD
    split at hcD
    · rename_i c' d' cd' sl' ho
      have z := (X _ _ ho).symm.trans htp
      cases z
    · cases hcD
  ca := fun X ⟨_, I⟩ k => kin_classO hga hgt hsub hdct ha hn htk hm X I k
end
end PySem.W
namespace VL
open PySem PySem.Spec PyProof.Rows L2
/-- isinstance(e, c), e the exception that the suite holds, d its dict -/
def rIsX (K : PySem.W.Frag) (D a : Addr) (d : Option Addr) : List V → Hp → VK → Prop := fun xs H Q => ∃ (c : V) (cv : Value) (b : Bool), xs = [.ref a, c] ∧ (∀ u, RelV c u → u = cv) ∧ PySem.W.kitOne K (.ref D) cv = some b ∧ (∀ dd, d = some dd → ∃ fs, H dd = some (.xd fs)) ∧ Q (.bl b) H
theorem call_isX {X : Cx} {a D : Addr} {d : Option Addr} {oe : Obj} {pn : List (Addr × Obj)} (C : ExcC X.K D) (hz : Zc (.ref D) d oe) (hf : ∃ vs, oe.data = .fields vs) : CallR (X.suite a ((a, oe) :: pn)) (.builtin "isinstance") (rIsX X.K D a d) := by
  intro pins s σ H xs us Q I r h
  obtain ⟨c, cv, b, rfl, hcv, e, hd, q⟩ := h
  cases r with
  | cons rx rr =>
    cases rr with
    | cons rt rr =>
      cases rr
      cases rx
      have ec := hcv _ rt
      subst ec
      obtain ⟨hget, _⟩ := I.pin (a, oe) (List.mem_append.mpr (.inl List.mem_cons_self))
      obtain ⟨vs, hv⟩ := hf
      have J : ∃ od, PySem.W.InstAt s.heap a oe D od := by
        cases d with
        | none =>
          refine ⟨none, ?_⟩
          obtain ⟨oc, od, oda, osl⟩ := oe
          obtain ⟨h1, h2⟩ := hz
          dsimp only at h1 h2 hv
          subst h1 h2 hv
          exact ⟨hget, rfl, rfl, trivial⟩
        | some dd =>
          obtain ⟨fs, ea⟩ := hd dd rfl
          have hx : ObjOk X.prog X.w H s.heap dd (.xd fs) := I.hok dd _ ea
          obtain ⟨mA, hns, hr⟩ := hx
          obtain ⟨od, ho, hl⟩ := lookIn_ns hns
          exact ⟨some od, hget, hz.1, by unfold PySem.W.notCls; rw [hv] <;> rfl, by rw [hz.2]; exact ho⟩
      exact PySem.W.kia_one (PySem.W.kitx_excO C.hg C.hk C.hs C.hd C.ha C.hn C.ht C.hm) I.kIn J e (fun z => nomatch z) fun tk => ⟨.bl b, H, I.kept (t' := tk) fun _ _ z => z, rfl, q⟩
theorem pay_at {K : PySem.W.Frag} {G : Gr} {B H : Hp} {σ : L2.St} {e : Env} {d : Option Addr} {x : Xc} (S : Sto K G B H σ e) (h : pay G.B d x) : ∀ dd, d = some dd → ∃ fs, H dd = some (.xd fs) := fun dd hd => by
  have h := pay_sub (S.b0.trans S.sub) h
  unfold pay at h
  split at h
  · rw [h] at hd; cases hd
  · obtain ⟨dd', e1, e2⟩ := h
    rw [e1] at hd
    cases hd
    exact ⟨_, e2⟩
theorem ve_isX {X : Cx} {a C : Addr} {d : Option Addr} {oe : Obj} {pn : List (Addr × Obj)} {x : Xc} {e y : Str} {pos p p1 p2 : Pos} {names : List Str} {anc : Str → Str → Bool} {bi : List String} (T : ExT X.K X.mg names anc bi) (hc : x.cls ∈ names) (hC : X.mg x.cls = some (.ref C)) (hz : Zc (.ref C) d oe) (hf : ∃ vs, oe.data = .fields vs) (i : Nat) (hm : X.mg "isinstance" = none)
    (hy : y ∈ names := by decide +kernel) (hN : X.N[i]? = some e := by rfl) (hv : Vis X.env.scope e := by first | exact Or.inl rfl | exact Or.inr (Or.inl rfl) | exact Or.inr (Or.inr rfl)) (hd : (e == ("__debug__" : Str)) = false := by decide) (hcd : (e == ("__classdict__" : Str)) = false := by decide) (hgy : Gl X y := by rfl) (hdy : (y == ("__debug__" : Str)) = false := by decide)
    (hb : bootBuiltins "isinstance" = some (.builtin "isinstance") := by decide +kernel) (hg : Gl X "isinstance" := by rfl) (he : starEach [.Name e p1, .Name y p2] X.env = (false, eval (.Name e p1) X.env) :: starEach [.Name y p2] X.env := by rfl) (he2 : starEach [(.Name y p2 : Expr)] X.env = (false, eval (.Name y p2) X.env) :: starEach [] X.env := by rfl)
    (hpl : (backTo pos (starEach [(.Name y p2 : Expr)] X.env)).any (·.1) = false := by rfl) : VE X.K X.mg (at1 (X.suite a ((a, oe) :: pn))) (Am.exv X.K (some a) d x) (.Call (.Name "isinstance" p) [.Name e p1, .Name y p2] [] pos) (vIsE i (anc x.cls y)) := by
  obtain ⟨D, hD⟩ := T.top y hy
  refine ⟨tCB (rIsX X.K C a d) (tCons (tVar i) (tCons (tC (.ref D)) tNil)), fun _ => pe_callB (call_isX (X := X) (T.cls x.cls hc C hC) hz hf) hg hm hb (pa_cons (pe_var hN hv hd hcd) (pa_cons (pe_glob hgy hD rfl hdy) pa_nil he2) he) (by decide) (by decide) he hpl, ⟨fun G hG B H σ e Q S q => ?_⟩⟩
  unfold vIsE at q
  cases z : e[i]? with
  | none => rw [z] at q; exact q.elim
  | some s =>
    cases s with
    | tk t =>
      cases t with
      | succ t => rw [z] at q; exact q.elim
      | zero =>
        simp only [z] at q
        obtain ⟨v, hv', ok⟩ := S.sl i _ z
        have e1 := ok.tkI
        have hG1 : G.tok 0 = a := hG.1 a rfl
        rw [hG1] at e1
        subst e1
        exact ⟨_, hv', .ref D, .ref D, anc x.cls y, rfl, fun u r => by cases r; rfl, T.isi x.cls hc y hy C D hC hD, pay_at S hG.2, Po.here q S (.bl _)⟩
    | no => rw [z] at q; exact q.elim
    | sh d => rw [z] at q; exact q.elim
    | ow b d => rw [z] at q; exact q.elim
theorem ve_isXB {X : Cx} {a C : Addr} {d : Option Addr} {oe : Obj} {pn : List (Addr × Obj)} {x : Xc} {e : Str} {t : String} {y : Str} {pos p p1 p2 : Pos} {names : List Str} {anc : Str → Str → Bool} {bi : List String} (T : ExT X.K X.mg names anc bi) (hc : x.cls ∈ names) (hC : X.mg x.cls = some (.ref C)) (hz : Zc (.ref C) d oe) (hf : ∃ vs, oe.data = .fields vs) (i : Nat) (hm : X.mg "isinstance" = none) (hmy : X.mg y = none) (hby : bootBuiltins y = some (.type t))
    (hy : t ∈ bi := by decide +kernel) (hN : X.N[i]? = some e := by rfl) (hv : Vis X.env.scope e := by first | exact Or.inl rfl | exact Or.inr (Or.inl rfl) | exact Or.inr (Or.inr rfl)) (hd : (e == ("__debug__" : Str)) = false := by decide) (hcd : (e == ("__classdict__" : Str)) = false := by decide) (hgy : Gl X y := by rfl) (hdy : (y == ("__debug__" : Str)) = false := by decide) (hny : y ≠ "__name__" := by decide)
    (hb : bootBuiltins "isinstance" = some (.builtin "isinstance") := by decide +kernel) (hg : Gl X "isinstance" := by rfl) (he : starEach [.Name e p1, .Name y p2] X.env = (false, eval (.Name e p1) X.env) :: starEach [.Name y p2] X.env := by rfl) (he2 : starEach [(.Name y p2 : Expr)] X.env = (false, eval (.Name y p2) X.env) :: starEach [] X.env := by rfl)
    (hpl : (backTo pos (starEach [(.Name y p2 : Expr)] X.env)).any (·.1) = false := by rfl) : VE X.K X.mg (at1 (X.suite a ((a, oe) :: pn))) (Am.exv X.K (some a) d x) (.Call (.Name "isinstance" p) [.Name e p1, .Name y p2] [] pos) (vIsE i (anc x.cls t)) := by
  refine ⟨tCB (rIsX X.K C a d) (tCons (tVar i) (tCons (tC (.ty t)) tNil)), fun _ => pe_callB (call_isX (X := X) (T.cls x.cls hc C hC) hz hf) hg hm hb (pa_cons (pe_var hN hv hd hcd) (pa_cons (pe_bltn (v := .ty t) hgy hmy hby rfl hny hdy) pa_nil he2) he) (by decide) (by decide) he hpl, ⟨fun G hG B H σ e Q S q => ?_⟩⟩
  unfold vIsE at q
  cases z : e[i]? with
  | none => rw [z] at q; exact q.elim
  | some s =>
    cases s with
    | tk n =>
      cases n with
      | succ n => rw [z] at q; exact q.elim
      | zero =>
        simp only [z] at q
        obtain ⟨v, hv', ok⟩ := S.sl i _ z
        have e1 := ok.tkI
        have hG1 : G.tok 0 = a := hG.1 a rfl
        rw [hG1] at e1
        subst e1
        exact ⟨_, hv', .ty t, .type t, anc x.cls t, rfl, fun u r => by cases r; rfl, T.isB x.cls hc t hy C hC, pay_at S hG.2, Po.here q S (.bl _)⟩
    | no => rw [z] at q; exact q.elim
    | sh d => rw [z] at q; exact q.elim
    | ow b d => rw [z] at q; exact q.elim
/-- no class of the names has an attribute f -/
def NoAt (K : PySem.W.Frag) (mg : Str → Option Value) (names : List Str) (f : Str) : Prop := ∀ c ∈ names, ∀ C, mg c = some (.ref C) → PySem.W.findIn K (.ref C) f = some none
/-- e.f -/
theorem ve_xf {X : Cx} {a C : Addr} {d : Option Addr} {oe : Obj} {pn : List (Addr × Obj)} {x : Xc} {e f : Str} {pos p1 : Pos} {names : List Str} {anc : Str → Str → Bool} {bi : List String} (T : ExT X.K X.mg names anc bi) (hno : NoAt X.K X.mg names f) (hc : x.cls ∈ names) (hC : X.mg x.cls = some (.ref C)) (hz : Zc (.ref C) d oe) (hf : ∃ vs, oe.data = .fields vs) (i : Nat)
    (hN : X.N[i]? = some e := by rfl) (hv : Vis X.env.scope e := by first | exact Or.inl rfl | exact Or.inr (Or.inl rfl) | exact Or.inr (Or.inr rfl)) (hd : (e == ("__debug__" : Str)) = false := by decide) (hcd : (e == ("__classdict__" : Str)) = false := by decide)
    (hb : attributeBase (.Name e p1) f X.env (eval (.Name e p1) X.env) = eval (.Name e p1) X.env := by rfl) : VE X.K X.mg (at1 (X.suite a ((a, oe) :: pn))) (Am.exv X.K (some a) d x) (.Attribute (.Name e p1) f pos) (vXf i f x) := by
  have T2 := T.cls x.cls hc C hC
  refine ⟨tXf a (.ref C) d C f (tVar i), fun _ => pe_xf ⟨T2.hg, T2.hk, T2.hs, T2.hd⟩ (hno x.cls hc C hC) hz hf (pe_var hN hv hd hcd) hb, ⟨fun G hG B H σ e Q S q => ?_⟩⟩
  unfold vXf at q
  cases z : e[i]? with
  | none => rw [z] at q; exact q.elim
  | some s =>
    cases s with
    | tk n =>
      cases n with
      | succ n => rw [z] at q; exact q.elim
      | zero =>
        simp only [z] at q
        obtain ⟨v, hv', ok⟩ := S.sl i _ z
        have e1 := ok.tkI
        have hG1 : G.tok 0 = a := hG.1 a rfl
        rw [hG1] at e1
        subst e1
        have py := pay_sub (S.b0.trans S.sub) hG.2
        unfold pay at py
        cases w : x.val with
        | none => rw [w] at q; exact q.elim
        | some g =>
          obtain ⟨g, n⟩ := g
          rw [w] at q py
          simp only at q py
          obtain ⟨dd, e3, e4⟩ := py
          by_cases gf : g = f
          · rw [if_pos gf] at q
            subst gf
            exact ⟨_, hv', rfl, rfl, dd, _, .int n, e3, e4, by simp [List.lookup], Po.here q S (.int _)⟩
          · rw [if_neg gf] at q; exact q.elim
    | no => rw [z] at q; exact q.elim
    | sh d => rw [z] at q; exact q.elim
    | ow b d => rw [z] at q; exact q.elim
end VL

/-! VL17: the head's facts of errors with a number. -/
namespace VL
open PySem PySem.Spec PyProof.Rows L2
def valIs (r : Option PySem.W.CFound) (n : String) : Bool := match r with
  | some (.val (.builtin m)) => m == n
  | _ => false
theorem valIs_ok {r : Option PySem.W.CFound} {n : String} (h : valIs r n = true) : r = some (.val (.builtin n)) := by
  unfold valIs at h
  split at h
  · rw [beq_iff_eq.mp h]
  · cases h
def oexOk (K : PySem.W.Frag) (x f b : Str) : Bool := (He.Fa.glo x).ok K && ((He.Fa.glo b).ok K && (oexB K (He.ga K x) && (decide (PySem.W.findIn K (.ref (He.ga K x)) "__setattr__" = some (some (.builtin "object.__setattr__"))) &&
  (decide (PySem.W.subIn K (.ref (He.ga K x)) (.type "BaseException") = some true) && (decide (PySem.W.typeIn K (.ref (He.ga K x)) = some (.type "type")) && (PySem.W.keepIn K (.ref (He.ga K x)) &&
  (decide (PySem.W.findIn K (.ref (He.ga K x)) "__init__" = some (some (.ref (He.fAd K (x, some "__init__"))))) && (decide (PySem.W.typeIn K (.ref (He.fAd K (x, some "__init__"))) = some (.type "function")) &&
  (decide (PySem.W.findIn K (.ref (He.ga K x)) f = some none) && (decide (PySem.W.specialIn K (.ref (He.ga K b)) "__getattribute__" = some (some (.builtin "type.__getattribute__"))) &&
  (PySem.W.readsIn K (He.ga K b) (.type "type") && valIs (PySem.W.findCls K (.ref (He.ga K b)) (.type "type") "__init__") "ValueError.__init__")))))))))))
theorem Fun.of_funDq {K : PySem.W.Frag} {x q : Str} {st : Stmt} {f : Addr} {fd : FuncData} (F : FunD K x q (defArgs st) (defBody st) (defScope st) [] [] f fd) : Fun K x q st f fd := by
  obtain ⟨oc, od, dV, kV, doc, pm, an, cdv, ct, osl, rfl, lk, hcd, hd, _⟩ := F.ex
  have e : dV = .none := by
    rcases hd with ⟨_, e⟩ | ⟨h, _⟩
    · exact e
    · exact absurd rfl h
  subst e
  exact ⟨⟨oc, od, kV, doc, pm, an, cdv, ct, osl, rfl, lk, hcd⟩, F.kp⟩
theorem oexT_of {K : PySem.W.Frag} {h : Heap} {mg : Str → Option Value} {x f b p q : Str} {st : Stmt} (e : ∃ fd, FunD K "__init__" q (defArgs st) (defBody st) (defScope st) [] [] (He.fAd K (x, some "__init__")) fd) (X : K.In h) (G : h.Ns mainGlobals mg) (c : oexOk K x f b = true)
    (hb : ∀ (kV doc pm : Value) (an : Option Addr) (cdv ct : Value) (us : List Value), us.length = 2 → bindArgs (PySem.W.fnOf "__init__" q (defArgs st) (defBody st) (defScope st) .none kV doc pm an cdv ct) ⟨us, []⟩ = pure ((["self", p] : List Str).zip us)) : OexT K mg x f b st p q := by
  obtain ⟨fd, F⟩ := e
  unfold oexOk at c
  simp only [Bool.and_eq_true, decide_eq_true_eq] at c
  obtain ⟨g, gb, o, c1, c2, c3, c4, c5, c6, c7, c8, c9, c10⟩ := c
  obtain ⟨nm, qn, N, bs, bm, sn, sub, ab, col, dd, k0, k1, k2, k3, k5, hl, hr⟩ := oexB_ok o
  exact ⟨⟨_, _, fd, He.glo_ok X G g, ⟨⟨nm, qn, N, bs, bm, sn, sub, ab, col, dd, k0, k1, k2, k3, k5, hl, hr⟩, c1, c2, c3, c4⟩, c5, c6, c7, Fun.of_funDq F, fun s us hl => F.bindsA (ps := ["self", p]) hb s us hl⟩, ⟨⟨_, He.glo_ok X G gb, c8, c9, valIs_ok c10⟩⟩⟩
def noAtB (names : List Str) (f : Str) (K : PySem.W.Frag) : Bool := names.all fun c => (He.Fa.glo c).ok K && decide (PySem.W.findIn K (.ref (He.ga K c)) f = some none)
theorem noAt_of {K : PySem.W.Frag} {h : Heap} {mg : Str → Option Value} {names : List Str} {f : Str} (X : K.In h) (G : h.Ns mainGlobals mg) (c : noAtB names f K = true) : NoAt K mg names f := fun y hy C hC => by
  unfold noAtB at c
  rw [List.all_eq_true] at c
  have q := c y hy
  simp only [Bool.and_eq_true, decide_eq_true_eq] at q
  have e := (He.glo_ok X G q.1).symm.trans hC
  cases e
  exact q.2
end VL

/-! VL18: a + b of lists, a new list of one's own. -/
namespace VL
open PySem PySem.Spec PyProof.Rows L2
def rCat (K : PySem.W.Frag) : V → V → Hp → VK → Prop := fun x y H Q => ∃ (p p' : Addr) (vs vs' : List V), x = .ref p ∧ y = .ref p' ∧ SqL K H p vs ∧ SqL K H p' vs' ∧ vs.length + vs'.length ≤ vmax ∧ ∀ t, H t = none → Q (.ref t) (upd H t (.lst (vs ++ vs')))
theorem od_cat {X : Cx} : OpR X (binaryOp .Add) (rCat X.K) := by
  intro pins s σ H x y v u Q I rx ry ⟨p, p', vs, vs', e1, e2, h1, h2, hl, h⟩
  subst e1 e2
  cases rx
  cases ry
  obtain ⟨its, w1, ⟨⟨cls1, dd1, data1, sl1⟩, n1, e1, c1, _, d1⟩, _⟩ := I.list h1
  obtain ⟨its2, w2, ⟨⟨cls2, dd2, data2, sl2⟩, n2, e2, c2, _, d2⟩, _⟩ := I.list h2
  simp only at c1 d1 c2 d2
  subst c1 d1 c2 d2
  have m1 := w1.length
  have m2 := w2.length
  have hz : vs.length + vs'.length ≤ sizeLine := vle (by omega)
  refine concat_meets ⟨_, e1, rfl⟩ ⟨_, e2, rfl⟩ noFill_list_add seq_list_add PySem.F.slot_list_add PySem.F.entry_list_add (PySem.F.args_list_add_2 _ _) (list_addW p p' its.toArray its2.toArray n1 n2 dd1 dd2 sl1 sl2 (by simp only [List.size_toArray]; omega)) ⟨e1, e2, ?_⟩
  have ea : its.toArray ++ its2.toArray = (its ++ its2).toArray := by simp
  rw [ea]
  have hf : H s.heap.objs.size = none := I.hok.fresh (Nat.le_refl _)
  refine ⟨.ref _, _, I.laid (t' := s.toks) (o := .lst (vs ++ vs')) (fun b ob q => Heap.get?_push_of_some _ q) (Nat.le_refl _) ?_, rfl, h _ hf⟩
  exact ⟨by rw [List.length_append]; exact hz, _, 0, w1.append w2, Heap.get?_push_size _ rfl⟩
section
variable {K : PySem.W.Frag} {mg : Str → Option Value} {W : Am K} {ta tb : TE} {ma mb : ME}
theorem rd_catF (ha : RdE K mg W ta ma) (hb : RdE K mg W tb mb) : RdF K mg W (tOp (rCat K) ta tb) (vCatF ma mb) where
  run := fun G hG B H σ e Q S q => by
    refine ha.run G hG B H σ e _ S (Po.bind q fun x e1 v B1 H1 S1 s1 r1 h1 => ?_)
    refine hb.run G hG B1 H1 σ e1 _ S1 (Po.bind h1 fun y e2 w B2 H2 S2 s2 r2 h2 => ?_)
    obtain ⟨zs, hz, h4⟩ := h2.of
    have r1 : Rep K B1 v x := r1
    have r2 : Rep K B2 w y := r2
    cases x with
    | lst xs =>
      cases y with
      | lst ys =>
        have hz : (if xs.length + ys.length ≤ vmax then some (xs ++ ys) else none) = some zs := hz
        by_cases l : xs.length + ys.length ≤ vmax
        · rw [if_pos l] at hz
          cases hz
          cases r1 with
          | lst q1 q2 =>
            cases r2 with
            | lst q3 q4 =>
              refine ⟨_, _, _, _, rfl, rfl, same_sqL S2.sub (same_sqL s2 q1), same_sqL S2.sub q3, ?_, fresh_list S2 ((q2.mono s2).append q4) h4⟩
              rw [q2.length, q4.length]
              exact l
        · rw [if_neg l] at hz; cases hz
      | _ => cases hz
    | _ => cases hz
end
section
variable {ι : Type} {K : PySem.W.Frag} {mg : Str → Option Value} {X : ι → Cx} {W : Am K} {pos : Pos} {a b : Expr} {ma mb : ME}
theorem vf_cat (ha : VE K mg X W a ma) (hb : VE K mg X W b mb) (hK : ∀ j, (X j).K = K := by intro _; rfl) : VF K mg X W (.BinOp a .Add b pos) (vCatF ma mb) :=
  let ⟨_, p, r⟩ := ha; let ⟨_, p', r'⟩ := hb; ⟨_, fun i => pe_op (hK i ▸ od_cat : OpR (X i) (binaryOp .Add) (rCat K)) (p i) (p' i), rd_catF r r'⟩
end
end VL

namespace VL
open PySem PySem.Spec PyProof.Rows L2
def names0 : List Str := ["CutError", "NoNumber", "NoText", "NoList"]
def bi0 : List String := []
def anc0 : Str → Str → Bool := ancOf [("CutError", ["CutError", "ValueError", "Exception", "BaseException", "object"]), ("NoNumber", ["NoNumber", "CutError", "ValueError", "Exception", "BaseException", "object"]), ("NoText", ["NoText", "CutError", "ValueError", "Exception", "BaseException", "object"]), ("NoList", ["NoList", "CutError", "ValueError", "Exception", "BaseException", "object"])]
def g_LETTERS : D := .str "abcdefghijklmnopqrstuvwxyz"
def g_MOST_LETTERS : D := .int 8
def g_WIDTHS : Tb := [("clip", (.int 4)), ("nest", (.int 3)), ("gap", (.int 1)), ("mix", (.int 2)), ("end", (.int 1))]
noncomputable section
/-- _law_cell_at -/
def b__law_cell_at : MS := (vSeq (vIf (vTest (vOp opLt (vVar 1) (vBf bfLen (vCons (vVar 0) vNil))))
    (vSeq (vRet (vOp opIx (vVar 0) (vVar 1)))
    vNext)
    vNext)
    (vSeq (vRet (vC (.int 0)))
    vNext))
def fn__law_cell_at : List D → FR := runB 2 2 b__law_cell_at
/-- _law_drawn -/
def b__law_drawn_1 : MS := (vSeq (vAsg (vOp opMod (vOp opAdd (vOp opAdd (vOp opAdd (vOp opMul (vVar 3) (vVar 3)) (vOp opMul (vC (.int 40692)) (vVar 3))) (vOp opMul (vC (.int 2)) (vVar 4))) (vC (.int 1))) (vC (.int 2147483629))) (gNam 3))
    (vSeq (vApp 2 (vOp opFdiv (vVar 3) (vC (.int 3))))
    vNext))
def b__law_drawn : MS := (vSeq (vAsgF 2 (vLstD vNil))
    (vSeq (vAsg (vOp opMod (vVar 0) (vC (.int 2147483629))) (gNam 3))
    (vSeq (vFor (vRng1 (vCons (vVar 1) vNil)) (gNam 4)
    b__law_drawn_1)
    (vSeq (vRetF (vOwn 2))
    vNext))))
def fn__law_drawn : List D → FR := runB 2 5 b__law_drawn
/-- _law_rate -/
def b__law_rate : MS := (vSeq (vRet (vOp opIx (vOf (vLstD (vCons (vTupD (vCons (vC (.int 24)) (vCons (vC (.int 1)) vNil))) (vCons (vTupD (vCons (vC (.int 25)) (vCons (vC (.int 1)) vNil))) (vCons (vTupD (vCons (vC (.int 30000)) (vCons (vC (.int 1001)) vNil))) (vCons (vTupD (vCons (vC (.int 1)) (vCons (vC (.int 3)) vNil))) (vCons (vTupD (vCons (vC (.int 60)) (vCons (vC (.int 1)) vNil))) (vCons (vTupD (vCons (vC (.int 24000)) (vCons (vC (.int 1001)) vNil))) (vCons (vTupD (vCons (vOp opAdd (vC (.int 1)) (vOp opMod (vOp opFdiv (vVar 0) (vC (.int 8))) (vC (.int 900)))) (vCons (vC (.int 1)) vNil))) (vCons (vTupD (vCons (vC (.int 12)) (vCons (vC (.int 1)) vNil))) vNil)))))))))) (vOp opMod (vVar 0) (vC (.int 8)))))
    vNext)
def fn__law_rate : List D → FR := runB 1 1 b__law_rate
/-- is_whole -/
def b_is_whole : MS := (vSeq (vRet (vAndV (vIsi "int" (vVar 0)) (vNotV (vIsi "bool" (vVar 0)))))
    vNext)
def fn_is_whole : List D → FR := runB 1 1 b_is_whole
/-- shared_by -/
def c_shared_by_1 : MB := (vTest (vOp opNe (vVar 1) (vC (.int 0))))
def b_shared_by_1 : MS := (vSeq (vPar 0 1 (vVar 1) (vOp opMod (vVar 0) (vVar 1)))
    vNext)
def b_shared_by : MS := (vSeq (vWhile c_shared_by_1
    b_shared_by_1)
    (vSeq (vRet (vBf bfAbs (vCons (vVar 0) vNil)))
    vNext))
def fn_shared_by : List D → FR := runB 2 2 b_shared_by
/-- is_fraction -/
def b_is_fraction : MS := (vSeq (vIf (vOr (vNot (vTest (vIsi "tuple" (vVar 0)))) (vOr (vTest (vOp opNe (vBf bfLen (vCons (vVar 0) vNil)) (vC (.int 2)))) (vOr (vNot (vTest (vCall fn_is_whole (vCons (vOp opIx (vVar 0) (vC (.int 0))) vNil)))) (vNot (vTest (vCall fn_is_whole (vCons (vOp opIx (vVar 0) (vC (.int 1))) vNil)))))))
    (vSeq (vRet (vC (.bl false)))
    vNext)
    vNext)
    (vSeq (vRet (vAndV (vOp opGt (vOp opIx (vVar 0) (vC (.int 1))) (vC (.int 0))) (vOp opEq (vCall fn_shared_by (vCons (vOp opIx (vVar 0) (vC (.int 0))) (vCons (vOp opIx (vVar 0) (vC (.int 1))) vNil))) (vC (.int 1)))))
    vNext))
def fn_is_fraction : List D → FR := runB 1 1 b_is_fraction
/-- check_rates -/
def b_check_rates_1 : MS := (vSeq (vIf (vOr (vNot (vTest (vCall fn_is_fraction (vCons (vVar 2) vNil)))) (vTest (vOp opLt (vOp opIx (vVar 2) (vC (.int 0))) (vC (.int 1)))))
    (vSeq (vRaise "NoNumber")
    vNext)
    vNext)
    vNext)
def b_check_rates : MS := (vSeq (vFor (vSeqI (vTupD (vCons (vVar 0) (vCons (vVar 1) vNil)))) (gNam 2)
    b_check_rates_1)
    vNext)
def fn_check_rates : List D → FR := runB 2 3 b_check_rates
/-- fraction -/
def b_fraction : MS := (vSeq (vIf (vOr (vNot (vTest (vCall fn_is_whole (vCons (vVar 0) vNil)))) (vOr (vNot (vTest (vCall fn_is_whole (vCons (vVar 1) vNil)))) (vTest (vOp opEq (vVar 1) (vC (.int 0))))))
    (vSeq (vRaise "NoNumber")
    vNext)
    vNext)
    (vSeq (vAsg (vCall fn_shared_by (vCons (vVar 0) (vCons (vVar 1) vNil))) (gNam 2))
    (vSeq (vIf (vTest (vOp opLt (vVar 1) (vC (.int 0))))
    (vSeq (vAsg (vUn opNeg (vVar 2)) (gNam 2))
    vNext)
    vNext)
    (vSeq (vRet (vTupD (vCons (vOp opFdiv (vVar 0) (vVar 2)) (vCons (vOp opFdiv (vVar 1) (vVar 2)) vNil))))
    vNext))))
def fn_fraction : List D → FR := runB 2 3 b_fraction
/-- quotient -/
def b_quotient : MS := (vSeq (vIf (vTest (vOp opEq (vOp opIx (vVar 1) (vC (.int 0))) (vC (.int 0))))
    (vSeq (vRaise "NoNumber")
    vNext)
    vNext)
    (vSeq (vRet (vCall fn_fraction (vCons (vOp opMul (vOp opIx (vVar 0) (vC (.int 0))) (vOp opIx (vVar 1) (vC (.int 1)))) (vCons (vOp opMul (vOp opIx (vVar 0) (vC (.int 1))) (vOp opIx (vVar 1) (vC (.int 0)))) vNil))))
    vNext))
def fn_quotient : List D → FR := runB 2 2 b_quotient
/-- times_of -/
def b_times_of : MS := (vSeq (vRet (vCall fn_fraction (vCons (vOp opMul (vOp opIx (vVar 0) (vC (.int 0))) (vOp opIx (vVar 1) (vC (.int 0)))) (vCons (vOp opMul (vOp opIx (vVar 0) (vC (.int 1))) (vOp opIx (vVar 1) (vC (.int 1)))) vNil))))
    vNext)
def fn_times_of : List D → FR := runB 2 2 b_times_of
/-- floor_of -/
def b_floor_of : MS := (vSeq (vRet (vOp opFdiv (vOp opIx (vVar 0) (vC (.int 0))) (vOp opIx (vVar 0) (vC (.int 1)))))
    vNext)
def fn_floor_of : List D → FR := runB 1 1 b_floor_of
/-- rest_of -/
def b_rest_of : MS := (vSeq (vAsg (vVar 0) (gTup' (gCon (gNam 1) (gCon (gNam 2) gNil'))))
    (vSeq (vRet (vCall fn_fraction (vCons (vOp opSub (vVar 1) (vOp opMul (vOp opFdiv (vVar 1) (vVar 2)) (vVar 2))) (vCons (vVar 2) vNil))))
    vNext))
def fn_rest_of : List D → FR := runB 1 3 b_rest_of
/-- row_at -/
def b_row_at : MS := (vSeq (vAsg (vCall fn_quotient (vCons (vCall fn_times_of (vCons (vTupD (vCons (vVar 0) (vCons (vC (.int 1)) vNil))) (vCons (vVar 2) vNil))) (vCons (vVar 1) vNil))) (gNam 4))
    (vSeq (vRet (vTupD (vCons (vCall fn_floor_of (vCons (vVar 4) vNil)) (vCons (vCall fn_rest_of (vCons (vVar 4) vNil)) (vCons (vVar 3) vNil)))))
    vNext))
def fn_row_at : List D → FR := runB 4 5 b_row_at
/-- room_of -/
def b_room_of : MS := (vSeq (vIf (vTest (vOp opEq (vOp opIx (vVar 0) (vC (.int 0))) (vC (.str "mix"))))
    (vSeq (vRet (vC (.int 0)))
    vNext)
    vNext)
    (vSeq (vRet (vOp opIx (vVar 0) (vUn opNeg (vC (.int 1)))))
    vNext))
def fn_room_of : List D → FR := runB 1 1 b_room_of
/-- without_length -/
def b_without_length : MS := (vSeq (vIf (vTest (vOp opEq (vOp opIx (vVar 0) (vC (.int 0))) (vC (.str "mix"))))
    (vSeq (vRet (vVar 0))
    vNext)
    vNext)
    (vSeq (vRet (vSl (vVar 0) vNoPart (vPart (vUn opNeg (vC (.int 1))))))
    vNext))
def fn_without_length : List D → FR := runB 1 1 b_without_length
/-- written -/
def b_written_1 : MS := (vSeq (vApp 3 (vCall fn_row_at (vCons (vVar 4) (vCons (vVar 1) (vCons (vVar 2) (vCons (vCall fn_without_length (vCons (vVar 5) vNil)) vNil))))))
    (vSeq (vAsg (vOp opAdd (vVar 4) (vCall fn_room_of (vCons (vVar 5) vNil))) (gNam 4))
    vNext))
def b_written : MS := (vSeq (vDrop (vCall fn_check_rates (vCons (vVar 1) (vCons (vVar 2) vNil))))
    (vSeq (vAsgF 3 (vLstD vNil))
    (vSeq (vAsg (vC (.int 0)) (gNam 4))
    (vSeq (vFor (vSeqI (vVar 0)) (gNam 5)
    b_written_1)
    (vSeq (vApp 3 (vCall fn_row_at (vCons (vVar 4) (vCons (vVar 1) (vCons (vVar 2) (vCons (vTupD (vCons (vC (.str "end")) vNil)) vNil))))))
    (vSeq (vRetF (vOwn 3))
    vNext))))))
def fn_written : List D → FR := runB 3 6 b_written
/-- _law_said -/
def b__law_said : MS := (vSeq (vIf (vOr (vNot (vTest (vIsi "tuple" (vVar 0)))) (vOr (vAnd (vTest (vOp opEq (vOp opIx (vVar 0) (vC (.int 0))) (vC (.str "mix")))) (vTest (vOp opLt (vOp opIx (vVar 0) (vC (.int 1))) (vC (.int 1))))) (vAnd (vTest (vOp opEq (vOp opIx (vVar 0) (vC (.int 0))) (vC (.str "nest")))) (vTest (vOp opLt (vOp opIx (vVar 0) (vC (.int 2))) (vC (.int 0)))))))
    (vSeq (vRet (vC (.bl false)))
    vNext)
    vNext)
    (vSeq (vRet (vOrV (vOp opNe (vOp opIx (vVar 0) (vC (.int 0))) (vC (.str "clip"))) (vAndV (vOp opEq (vBf bfLen (vCons (vVar 0) vNil)) (vC (.int 4))) (vOp opNe (vOp opIx (vVar 0) (vC (.int 1))) (vC (.str "A"))))))
    vNext))
def fn__law_said : List D → FR := runB 1 1 b__law_said
/-- _law_lowest -/
def c__law_lowest_1 : MB := (vTest (vOp opNe (vVar 2) (vC (.int 0))))
def b__law_lowest_1 : MS := (vSeq (vPar 1 2 (vVar 2) (vOp opMod (vVar 1) (vVar 2)))
    vNext)
def b__law_lowest : MS := (vSeq (vAsg (vVar 0) (gTup' (gCon (gNam 1) (gCon (gNam 2) gNil'))))
    (vSeq (vWhile c__law_lowest_1
    b__law_lowest_1)
    (vSeq (vRet (vOp opEq (vBf bfAbs (vCons (vVar 1) vNil)) (vC (.int 1))))
    vNext)))
def fn__law_lowest : List D → FR := runB 1 3 b__law_lowest
/-- _law_border -/
def b__law_border : MS := (vSeq (vIf (vOr (vNot (vTest (vIsi "tuple" (vVar 0)))) (vOr (vTest (vOp opNe (vBf bfLen (vCons (vVar 0) vNil)) (vC (.int 3)))) (vTest (vIsi "bool" (vOp opIx (vVar 0) (vC (.int 0)))))))
    (vSeq (vRet (vC .non))
    vNext)
    vNext)
    (vSeq (vAsg (vVar 0) (gTup' (gCon (gNam 3) (gCon (gNam 4) (gCon (gNam 5) gNil')))))
    (vSeq (vIf (vOr (vNot (vTest (vCall fn__law_said (vCons (vVar 5) vNil)))) (vOr (vNot (vTest (vCall fn__law_lowest (vCons (vVar 4) vNil)))) (vNot (vTest (vChain opLe opLt (vC (.int 0)) (vOp opIx (vVar 4) (vC (.int 0))) (vOp opIx (vVar 4) (vC (.int 1))))))))
    (vSeq (vRet (vC .non))
    vNext)
    vNext)
    (vSeq (vAsg (vOp opMul (vOp opMul (vOp opAdd (vOp opMul (vVar 3) (vOp opIx (vVar 4) (vC (.int 1)))) (vOp opIx (vVar 4) (vC (.int 0)))) (vOp opIx (vVar 1) (vC (.int 0)))) (vOp opIx (vVar 2) (vC (.int 1)))) (gNam 6))
    (vSeq (vAsg (vOp opMul (vOp opMul (vOp opIx (vVar 4) (vC (.int 1))) (vOp opIx (vVar 1) (vC (.int 1)))) (vOp opIx (vVar 2) (vC (.int 0)))) (gNam 7))
    (vSeq (vIf (vTest (vOp opNe (vOp opMod (vVar 6) (vVar 7)) (vC (.int 0))))
    (vSeq (vRet (vC .non))
    vNext)
    vNext)
    (vSeq (vRet (vOp opFdiv (vVar 6) (vVar 7)))
    vNext)))))))
def fn__law_border : List D → FR := runB 3 8 b__law_border
/-- _law_stands -/
def b__law_stands : MS := (vSeq (vIf (vTest (vOp opEq (vVar 3) (vC (.str ""))))
    (vSeq (vRet (vAndV (vOp opEq (vVar 2) (vC (.int 0))) (vOp opNe (vVar 1) (vC (.str "mix")))))
    vNext)
    vNext)
    (vSeq (vIf (vOr (vTest (vOp opEq (vVar 3) (vC (.str "end")))) (vOr (vAnd (vTest (vOp opEq (vVar 3) (vC (.str "mix")))) (vTest (vOp opNe (vVar 1) (vC (.str "clip"))))) (vAnd (vTest (vOp opEq (vVar 1) (vC (.str "mix")))) (vTest (vOp opNe (vVar 3) (vC (.str "clip")))))))
    (vSeq (vRet (vC (.bl false)))
    vNext)
    vNext)
    (vSeq (vIf (vAnd (vTest (vOp opEq (vVar 3) (vC (.str "gap")))) (vTest (vOp opIn (vVar 1) (vOf (vLstD (vCons (vC (.str "gap")) (vCons (vC (.str "end")) vNil)))))))
    (vSeq (vRet (vC (.bl false)))
    vNext)
    vNext)
    (vSeq (vIf (vTest (vOp opEq (vVar 3) (vC (.str "mix"))))
    (vSeq (vRet (vOp opEq (vVar 2) (vVar 0)))
    vNext)
    vNext)
    (vSeq (vRet (vOp opGt (vVar 2) (vVar 0)))
    vNext)))))
def fn__law_stands : List D → FR := runB 4 4 b__law_stands
/-- _law_first_wrong -/
def b__law_first_wrong_1 : MS := (vSeq (vAsg (vCall fn__law_border (vCons (vOp opIx (vVar 0) (vVar 5)) (vCons (vVar 1) (vCons (vVar 2) vNil)))) (gNam 6))
    (vSeq (vIf (vOr (vTest (vOp opIs (vVar 6) (vC .non))) (vNot (vTest (vCall fn__law_stands (vCons (vVar 4) (vCons (vOp opIx (vOp opIx (vOp opIx (vVar 0) (vVar 5)) (vC (.int 2))) (vC (.int 0))) (vCons (vVar 6) (vCons (vVar 3) vNil))))))))
    (vSeq (vRet (vVar 5))
    vNext)
    vNext)
    (vSeq (vAsg (vOp opIx (vOp opIx (vOp opIx (vVar 0) (vVar 5)) (vC (.int 2))) (vC (.int 0))) (gNam 3))
    (vSeq (vAsg (vVar 6) (gNam 4))
    vNext))))
def b__law_first_wrong : MS := (vSeq (vAsg (vC (.str "")) (gNam 3))
    (vSeq (vAsg (vC (.int 0)) (gNam 4))
    (vSeq (vFor (vRng1 (vCons (vBf bfLen (vCons (vVar 0) vNil)) vNil)) (gNam 5)
    b__law_first_wrong_1)
    (vSeq (vIf (vTest (vOp opNe (vVar 3) (vC (.str "end"))))
    (vSeq (vRet (vBf bfLen (vCons (vVar 0) vNil)))
    vNext)
    vNext)
    (vSeq (vRet (vC .non))
    vNext)))))
def fn__law_first_wrong : List D → FR := runB 3 7 b__law_first_wrong
/-- is_rest -/
def b_is_rest : MS := (vSeq (vRet (vAndV (vCall fn_is_fraction (vCons (vVar 0) vNil)) (vChain opLe opLt (vC (.int 0)) (vOp opIx (vVar 0) (vC (.int 0))) (vOp opIx (vVar 0) (vC (.int 1))))))
    vNext)
def fn_is_rest : List D → FR := runB 1 1 b_is_rest
/-- sum_of -/
def b_sum_of : MS := (vSeq (vRet (vCall fn_fraction (vCons (vOp opAdd (vOp opMul (vOp opIx (vVar 0) (vC (.int 0))) (vOp opIx (vVar 1) (vC (.int 1)))) (vOp opMul (vOp opIx (vVar 1) (vC (.int 0))) (vOp opIx (vVar 0) (vC (.int 1))))) (vCons (vOp opMul (vOp opIx (vVar 0) (vC (.int 1))) (vOp opIx (vVar 1) (vC (.int 1)))) vNil))))
    vNext)
def fn_sum_of : List D → FR := runB 2 2 b_sum_of
/-- is_name -/
def b_is_name : MS := (vSeq (vIf (vOr (vNot (vTest (vIsi "str" (vVar 0)))) (vOr (vTest (vOp opEq (vVar 0) (vC (.str "")))) (vTest (vOp opGt (vBf bfLen (vCons (vVar 0) vNil)) (vC g_MOST_LETTERS)))))
    (vSeq (vRet (vC (.bl false)))
    vNext)
    vNext)
    (vSeq (vRet (vOp opEq (vM1 opStrip (vVar 0) (vC g_LETTERS)) (vC (.str ""))))
    vNext))
def fn_is_name : List D → FR := runB 1 1 b_is_name
/-- is_what -/
def b_is_what : MS := (vSeq (vIf (vOr (vNot (vTest (vIsi "tuple" (vVar 0)))) (vOr (vTest (vOp opEq (vVar 0) (vTupD vNil))) (vNot (vTest (vIsi "str" (vOp opIx (vVar 0) (vC (.int 0))))))))
    (vSeq (vRet (vC (.bl false)))
    vNext)
    vNext)
    (vSeq (vAsg (vOp opIx (vVar 0) (vC (.int 0))) (gNam 1))
    (vSeq (vIf (vOr (vTest (vUn (tabNotIn g_WIDTHS) (vVar 1))) (vTest (vOp opNe (vBf bfLen (vCons (vVar 0) vNil)) (vUn (tabIx g_WIDTHS) (vVar 1)))))
    (vSeq (vRet (vC (.bl false)))
    vNext)
    vNext)
    (vSeq (vIf (vTest (vOp opEq (vVar 1) (vC (.str "clip"))))
    (vSeq (vRet (vAndV (vCall fn_is_name (vCons (vOp opIx (vVar 0) (vC (.int 1))) vNil)) (vAndV (vCall fn_is_fraction (vCons (vOp opIx (vVar 0) (vC (.int 2))) vNil)) (vCall fn_is_fraction (vCons (vOp opIx (vVar 0) (vC (.int 3))) vNil)))))
    vNext)
    vNext)
    (vSeq (vIf (vTest (vOp opEq (vVar 1) (vC (.str "nest"))))
    (vSeq (vRet (vAndV (vCall fn_is_name (vCons (vOp opIx (vVar 0) (vC (.int 1))) vNil)) (vAndV (vCall fn_is_whole (vCons (vOp opIx (vVar 0) (vC (.int 2))) vNil)) (vOp opGe (vOp opIx (vVar 0) (vC (.int 2))) (vC (.int 0))))))
    vNext)
    vNext)
    (vSeq (vRet (vOrV (vOp opNe (vVar 1) (vC (.str "mix"))) (vAndV (vCall fn_is_whole (vCons (vOp opIx (vVar 0) (vC (.int 1))) vNil)) (vOp opGt (vOp opIx (vVar 0) (vC (.int 1))) (vC (.int 0))))))
    vNext))))))
def fn_is_what : List D → FR := runB 1 2 b_is_what
/-- border_of -/
def b_border_of : MS := (vSeq (vIf (vOr (vNot (vTest (vIsi "tuple" (vVar 0)))) (vOr (vTest (vOp opNe (vBf bfLen (vCons (vVar 0) vNil)) (vC (.int 3)))) (vOr (vNot (vTest (vCall fn_is_whole (vCons (vOp opIx (vVar 0) (vC (.int 0))) vNil)))) (vNot (vTest (vCall fn_is_rest (vCons (vOp opIx (vVar 0) (vC (.int 1))) vNil)))))))
    (vSeq (vRet (vC .non))
    vNext)
    vNext)
    (vSeq (vAsg (vCall fn_quotient (vCons (vCall fn_times_of (vCons (vCall fn_sum_of (vCons (vTupD (vCons (vOp opIx (vVar 0) (vC (.int 0))) (vCons (vC (.int 1)) vNil))) (vCons (vOp opIx (vVar 0) (vC (.int 1))) vNil))) (vCons (vVar 1) vNil))) (vCons (vVar 2) vNil))) (gNam 3))
    (vSeq (vIf (vOr (vTest (vOp opNe (vOp opIx (vVar 3) (vC (.int 1))) (vC (.int 1)))) (vNot (vTest (vCall fn_is_what (vCons (vOp opIx (vVar 0) (vC (.int 2))) vNil)))))
    (vSeq (vRet (vC .non))
    vNext)
    vNext)
    (vSeq (vRet (vOp opIx (vVar 3) (vC (.int 0))))
    vNext))))
def fn_border_of : List D → FR := runB 3 4 b_border_of
/-- follows -/
def b_follows : MS := (vSeq (vIf (vOr (vTest (vOp opEq (vVar 1) (vC (.str "end")))) (vAnd (vTest (vOp opEq (vVar 1) (vC (.str "mix")))) (vTest (vOp opNe (vVar 0) (vC (.str "clip"))))))
    (vSeq (vRet (vC (.bl false)))
    vNext)
    vNext)
    (vSeq (vIf (vTest (vOp opEq (vVar 0) (vC (.str "mix"))))
    (vSeq (vRet (vOp opEq (vVar 1) (vC (.str "clip"))))
    vNext)
    vNext)
    (vSeq (vRet (vOrV (vAndV (vOp opNe (vVar 0) (vC (.str "gap"))) (vOp opNe (vVar 0) (vC (.str "end")))) (vOp opNe (vVar 1) (vC (.str "gap")))))
    vNext)))
def fn_follows : List D → FR := runB 2 2 b_follows
/-- stands -/
def b_stands : MS := (vSeq (vIf (vTest (vOp opEq (vVar 2) (vC (.str ""))))
    (vSeq (vRet (vOp opEq (vVar 0) (vC (.int 0))))
    vNext)
    vNext)
    (vSeq (vIf (vTest (vOp opEq (vVar 2) (vC (.str "mix"))))
    (vSeq (vRet (vOp opEq (vVar 0) (vVar 1)))
    vNext)
    vNext)
    (vSeq (vRet (vOp opGt (vVar 0) (vVar 1)))
    vNext)))
def fn_stands : List D → FR := runB 3 3 b_stands
/-- borders_read -/
def b_borders_read_1 : MS := (vSeq (vAsg (vCall fn_border_of (vCons (vVar 6) (vCons (vVar 1) (vCons (vVar 2) vNil)))) (gNam 7))
    (vSeq (vIf (vOr (vTest (vOp opIs (vVar 7) (vC .non))) (vOr (vNot (vTest (vCall fn_follows (vCons (vOp opIx (vOp opIx (vVar 6) (vC (.int 2))) (vC (.int 0))) (vCons (vVar 4) vNil))))) (vNot (vBorT (vTest (vCall fn_stands (vCons (vVar 7) (vCons (vOp opIx (vOp opAdd (vOf (vLstD (vCons (vC (.int 0)) vNil))) (vVar 3)) (vUn opNeg (vC (.int 1)))) (vCons (vVar 4) vNil)))))))))
    (vSeq (vRaiseI "NoList" "at" (vVar 5))
    vNext)
    vNext)
    (vSeq (vAsg (vOp opIx (vOp opIx (vVar 6) (vC (.int 2))) (vC (.int 0))) (gNam 4))
    (vSeq (vApp 3 (vVar 7))
    vNext))))
def b_borders_read : MS := (vSeq (vAsgF 3 (vLstD vNil))
    (vSeq (vAsg (vC (.str "")) (gNam 4))
    (vSeq (vFor (vEnum (vCons (vVar 0) vNil)) (gTup' (gCon (gNam 5) (gCon (gNam 6) gNil')))
    b_borders_read_1)
    (vSeq (vIf (vTest (vOp opNe (vVar 4) (vC (.str "end"))))
    (vSeq (vRaiseI "NoList" "at" (vBf bfLen (vCons (vVar 0) vNil)))
    vNext)
    vNext)
    (vSeq (vRetF (vOwn 3))
    vNext)))))
def fn_borders_read : List D → FR := runB 3 8 b_borders_read
/-- read_back -/
def b_read_back_1 : MS := (vSeq (vAsg (vOp opIx (vOp opIx (vVar 0) (vVar 5)) (vC (.int 2))) (gNam 6))
    (vSeq (vIf (vTest (vOp opEq (vOp opIx (vVar 6) (vC (.int 0))) (vC (.str "mix"))))
    (vSeq (vApp 4 (vVar 6))
    vNext)
    (vSeq (vApp 4 (vOp opAdd (vVar 6) (vTupD (vCons (vOp opSub (vOp opIx (vVar 3) (vOp opAdd (vVar 5) (vC (.int 1)))) (vOp opIx (vVar 3) (vVar 5))) vNil))))
    vNext))
    vNext))
def b_read_back : MS := (vSeq (vDrop (vCall fn_check_rates (vCons (vVar 1) (vCons (vVar 2) vNil))))
    (vSeq (vAsg (vOf (vCallF fn_borders_read (vCons (vVar 0) (vCons (vVar 1) (vCons (vVar 2) vNil))))) (gNam 3))
    (vSeq (vAsgF 4 (vLstD vNil))
    (vSeq (vFor (vRng1 (vCons (vOp opSub (vBf bfLen (vCons (vVar 0) vNil)) (vC (.int 1))) vNil)) (gNam 5)
    b_read_back_1)
    (vSeq (vRetF (vOwn 4))
    vNext)))))
def fn_read_back : List D → FR := runB 3 7 b_read_back
/-- _law_told -/
def b__law_told : MS := (vSeq (vAsg (vTupD (vCons (vC .non) (vCons (vC (.bl false)) (vCons (vC (.bl false)) vNil)))) (gNam 3))
    (vSeq (vTryM names0 anc0 [("NoNumber", none, fun x => (vSeq (vAsg (vTupD (vCons (vC (.str "number")) (vCons (vC (.bl false)) (vCons (vC (.bl false)) vNil)))) (gNam 3))
    vNext)), ("NoList", some 4, fun x => (vSeq (vAsg (vTupD (vCons (vXf 4 "at" x) (vCons (vIsE 4 (anc0 x.cls "NoText")) (vCons (vIsE 4 (anc0 x.cls "CutError")) vNil)))) (gNam 3))
    vNext))] (vSeq (vDrop (vOf (vCallF fn_read_back (vCons (vVar 0) (vCons (vVar 1) (vCons (vVar 2) vNil))))))
    vNext))
    (vSeq (vRet (vVar 3))
    vNext)))
def fn__law_told : List D → FR := runB 3 5 b__law_told
/-- _law_part -/
def b__law_part : MS := (vSeq (vAsg (vOp opIx (vOf (vLstD (vCons (vTupD (vCons (vC (.int 1)) (vCons (vC (.int 1)) vNil))) (vCons (vTupD (vCons (vC (.int 1)) (vCons (vC (.int 2)) vNil))) (vCons (vTupD (vCons (vUn opNeg (vC (.int 1))) (vCons (vC (.int 1)) vNil))) (vCons (vTupD (vCons (vC (.int 0)) (vCons (vC (.int 1)) vNil))) (vCons (vTupD (vCons (vC (.int 7)) (vCons (vC (.int 3)) vNil))) (vCons (vTupD (vCons (vUn opNeg (vC (.int 30000))) (vCons (vC (.int 1001)) vNil))) vNil)))))))) (vOp opMod (vOp opFdiv (vVar 0) (vC (.int 5))) (vC (.int 6)))) (gNam 2))
    (vSeq (vAsg (vOp opIx (vOf (vLstD (vCons (vTupD (vCons (vC (.int 0)) (vCons (vC (.int 1)) vNil))) (vCons (vTupD (vCons (vOp opMod (vOp opFdiv (vVar 0) (vC (.int 30))) (vC (.int 90))) (vCons (vC (.int 1)) vNil))) (vCons (vTupD (vCons (vOp opAdd (vC (.int 1)) (vOp opMul (vC (.int 2)) (vOp opMod (vOp opFdiv (vVar 0) (vC (.int 30))) (vC (.int 90))))) (vCons (vC (.int 2)) vNil))) (vCons (vTupD (vCons (vUn opNeg (vC (.int 5))) (vCons (vC (.int 3)) vNil))) vNil)))))) (vOp opMod (vOp opFdiv (vVar 0) (vC (.int 30))) (vC (.int 4)))) (gNam 3))
    (vSeq (vAsg (vOp opIx (vOf (vLstD (vCons (vOp opAdd (vC (.int 1)) (vOp opMod (vOp opFdiv (vVar 0) (vC (.int 17))) (vC (.int 9)))) (vCons (vOp opAdd (vC (.int 1)) (vOp opMod (vOp opFdiv (vVar 0) (vC (.int 17))) (vC (.int 9)))) (vCons (vOp opAdd (vC (.int 1)) (vOp opMod (vVar 0) (vC (.int 5000)))) (vCons (vOp opAdd (vC (.int 1)) (vOp opMod (vOp opAdd (vOp opMul (vVar 1) (vC (.int 48271))) (vVar 0)) (vOp opPow (vC (.int 10)) (vC (.int 30))))) vNil)))))) (vOp opMod (vOp opFdiv (vVar 0) (vC (.int 11))) (vC (.int 4)))) (gNam 4))
    (vSeq (vIf (vTest (vOp opEq (vOp opMod (vVar 0) (vC (.int 5))) (vC (.int 0))))
    (vSeq (vRet (vTupD (vCons (vC (.str "gap")) (vCons (vVar 4) vNil))))
    vNext)
    vNext)
    (vSeq (vIf (vTest (vOp opEq (vOp opMod (vVar 0) (vC (.int 5))) (vC (.int 1))))
    (vSeq (vRet (vTupD (vCons (vC (.str "nest")) (vCons (vOp opIx (vOf (vLstD (vCons (vC (.str "t")) (vCons (vC (.str "other")) (vCons (vC (.str "zzzzzzzz")) vNil))))) (vOp opMod (vOp opFdiv (vVar 0) (vC (.int 7))) (vC (.int 3)))) (vCons (vOp opMod (vOp opFdiv (vVar 0) (vC (.int 19))) (vC (.int 50))) (vCons (vVar 4) vNil))))))
    vNext)
    vNext)
    (vSeq (vRet (vTupD (vCons (vC (.str "clip")) (vCons (vOp opIx (vOf (vLstD (vCons (vC (.str "a")) (vCons (vC (.str "reel")) (vCons (vC (.str "abcdefgh")) vNil))))) (vOp opMod (vOp opFdiv (vVar 0) (vC (.int 7))) (vC (.int 3)))) (vCons (vVar 3) (vCons (vVar 2) (vCons (vVar 4) vNil)))))))
    vNext))))))
def fn__law_part : List D → FR := runB 2 5 b__law_part
/-- _law_track -/
def b__law_track_1 : MS := (vSeq (vAsg (vOp opIx (vOf (vCallF fn__law_drawn (vCons (vOp opAdd (vOp opIx (vVar 0) (vVar 2)) (vOp opMul (vC (.int 31)) (vVar 2))) (vCons (vC (.int 3)) vNil)))) (vC (.int 2))) (gNam 3))
    (vSeq (vAsg (vCall fn__law_part (vCons (vVar 3) (vCons (vOp opIx (vVar 0) (vVar 2)) vNil))) (gNam 4))
    (vSeq (vIf (vAnd (vTest (vOp opEq (vOp opIx (vVar 4) (vC (.int 0))) (vC (.str "clip")))) (vAnd (vBorT (vTest (vOp opNe (vVar 1) (vOf (vLstD vNil))))) (vAnd (vBorT (vTest (vOp opEq (vOp opIx (vOp opIx (vVar 1) (vUn opNeg (vC (.int 1)))) (vC (.int 0))) (vC (.str "clip"))))) (vTest (vOp opLt (vOp opMod (vVar 3) (vC (.int 4))) (vC (.int 2)))))))
    (vSeq (vApp 1 (vTupD (vCons (vC (.str "mix")) (vCons (vOp opAdd (vC (.int 1)) (vOp opMod (vOp opFdiv (vVar 3) (vC (.int 23))) (vC (.int 9)))) vNil))))
    vNext)
    vNext)
    (vSeq (vIf (vOr (vTest (vOp opNe (vOp opIx (vVar 4) (vC (.int 0))) (vC (.str "gap")))) (vOr (vBorT (vTest (vOp opEq (vVar 1) (vOf (vLstD vNil))))) (vBorT (vTest (vOp opNe (vOp opIx (vOp opIx (vVar 1) (vUn opNeg (vC (.int 1)))) (vC (.int 0))) (vC (.str "gap")))))))
    (vSeq (vApp 1 (vVar 4))
    vNext)
    vNext)
    vNext))))
def b__law_track : MS := (vSeq (vAsgF 1 (vLstD vNil))
    (vSeq (vFor (vRng1 (vCons (vBf bfLen (vCons (vVar 0) vNil)) vNil)) (gNam 2)
    b__law_track_1)
    (vSeq (vIf (vAnd (vBorT (vTest (vOp opNe (vVar 1) (vOf (vLstD vNil))))) (vBorT (vTest (vOp opEq (vOp opIx (vOp opIx (vVar 1) (vUn opNeg (vC (.int 1)))) (vC (.int 0))) (vC (.str "gap"))))))
    (vSeq (vDrop (vPop 1))
    vNext)
    vNext)
    (vSeq (vRetF (vOwn 1))
    vNext))))
def fn__law_track : List D → FR := runB 1 5 b__law_track
/-- _law_spoiled -/
def b__law_spoiled : MS := (vSeq (vAsg (vVar 0) (gTup' (gCon (gNam 2) (gCon (gNam 3) (gCon (gNam 4) gNil')))))
    (vSeq (vAsgF 5 (vLstD (vCons (vC .non) (vCons (vOf (vLstD (vCons (vVar 2) (vCons (vVar 3) (vCons (vVar 4) vNil))))) (vCons (vTupD (vCons (vVar 2) (vCons (vVar 3) vNil))) (vCons (vTupD (vCons (vVar 2) (vCons (vVar 3) (vCons (vVar 4) (vCons (vC (.int 0)) vNil))))) (vCons (vTupD (vCons (vC (.bl true)) (vCons (vVar 3) (vCons (vVar 4) vNil)))) vNil)))))))
    (vSeq (vApp 5 (vTupD (vCons (vVar 2) (vCons (vTupD (vCons (vC (.int 2)) (vCons (vC (.int 2)) vNil))) (vCons (vVar 4) vNil)))))
    (vSeq (vAsg (vOp opAdd (vC (.int 1)) (vOp opMod (vOp opFdiv (vVar 1) (vC (.int 17))) (vC (.int 3)))) (gNam 6))
    (vSeq (vAsgF 5 (vCatF (vVar 5) (vOf (vLstD (vCons (vTupD (vCons (vVar 2) (vCons (vTupD (vCons (vC (.int 1)) (vCons (vC (.int 2)) vNil))) (vCons (vVar 4) vNil)))) (vCons (vTupD (vCons (vOp opAdd (vVar 2) (vVar 6)) (vCons (vVar 3) (vCons (vVar 4) vNil)))) (vCons (vTupD (vCons (vOp opSub (vVar 2) (vVar 6)) (vCons (vVar 3) (vCons (vVar 4) vNil)))) vNil)))))))
    (vSeq (vAsgF 5 (vCatF (vVar 5) (vOf (vLstD (vCons (vTupD (vCons (vVar 2) (vCons (vVar 3) (vCons (vTupD (vCons (vC (.str "end")) vNil)) vNil)))) (vCons (vTupD (vCons (vVar 2) (vCons (vVar 3) (vCons (vTupD (vCons (vC (.str "gap")) vNil)) vNil)))) (vCons (vTupD (vCons (vVar 2) (vCons (vVar 3) (vCons (vTupD (vCons (vC (.str "mix")) (vCons (vC (.int 2)) vNil))) vNil)))) vNil)))))))
    (vSeq (vApp 5 (vTupD (vCons (vVar 2) (vCons (vVar 3) (vCons (vTupD (vCons (vC (.str "mix")) (vCons (vC (.int 0)) vNil))) vNil)))))
    (vSeq (vAsgF 5 (vCatF (vVar 5) (vOf (vLstD (vCons (vTupD (vCons (vVar 2) (vCons (vVar 3) (vCons (vTupD (vCons (vC (.str "clip")) (vCons (vC (.str "a")) (vCons (vTupD (vCons (vC (.int 1)) (vCons (vC (.int 1)) vNil))) vNil)))) vNil)))) (vCons (vTupD (vCons (vVar 2) (vCons (vVar 3) (vCons (vTupD (vCons (vC (.str "nest")) (vCons (vC (.str "t")) (vCons (vUn opNeg (vC (.int 1))) vNil)))) vNil)))) (vCons (vTupD (vCons (vVar 2) (vCons (vVar 3) (vCons (vOf (vLstD (vCons (vC (.str "end")) vNil))) vNil)))) vNil)))))))
    (vSeq (vAsgF 5 (vCatF (vVar 5) (vOf (vLstD (vCons (vTupD (vCons (vOp opSub (vVar 2) (vC (.int 1))) (vCons (vTupD (vCons (vOp opAdd (vOp opIx (vVar 3) (vC (.int 0))) (vOp opIx (vVar 3) (vC (.int 1)))) (vCons (vOp opIx (vVar 3) (vC (.int 1))) vNil))) (vCons (vVar 4) vNil)))) (vCons (vTupD (vCons (vOp opAdd (vVar 2) (vC (.int 1))) (vCons (vTupD (vCons (vOp opSub (vOp opIx (vVar 3) (vC (.int 0))) (vOp opIx (vVar 3) (vC (.int 1)))) (vCons (vOp opIx (vVar 3) (vC (.int 1))) vNil))) (vCons (vVar 4) vNil)))) vNil))))))
    (vSeq (vRet (vOp opIx (vOp opAdd (vVar 5) (vOf (vLstD (vCons (vTupD (vCons (vVar 2) (vCons (vVar 3) (vCons (vTupD (vCons (vC (.str "clip")) (vCons (vC (.str "A")) (vCons (vTupD (vCons (vC (.int 1)) (vCons (vC (.int 1)) vNil))) (vCons (vTupD (vCons (vC (.int 1)) (vCons (vC (.int 1)) vNil))) vNil))))) vNil)))) vNil)))) (vOp opMod (vVar 1) (vC (.int 19)))))
    vNext))))))))))
def fn__law_spoiled : List D → FR := runB 2 7 b__law_spoiled
/-- _law_changed -/
def b__law_changed : MS := (vSeq (vAsg (vOp opMod (vVar 2) (vBf bfLen (vCons (vVar 0) vNil))) (gNam 3))
    (vSeq (vIf (vTest (vOp opEq (vOp opMod (vVar 1) (vC (.int 5))) (vC (.int 0))))
    (vSeq (vRet (vOp opAdd (vSl (vVar 0) vNoPart (vPart (vVar 3))) (vSl (vVar 0) (vPart (vOp opAdd (vVar 3) (vC (.int 1)))) vNoPart)))
    vNext)
    vNext)
    (vSeq (vIf (vTest (vOp opEq (vOp opMod (vVar 1) (vC (.int 5))) (vC (.int 1))))
    (vSeq (vRet (vOp opAdd (vOp opAdd (vSl (vVar 0) vNoPart (vPart (vVar 3))) (vOf (vLstD (vCons (vOp opIx (vVar 0) (vOp opMod (vOp opFdiv (vVar 2) (vC (.int 61))) (vBf bfLen (vCons (vVar 0) vNil)))) vNil)))) (vSl (vVar 0) (vPart (vVar 3)) vNoPart)))
    vNext)
    vNext)
    (vSeq (vRet (vOp opAdd (vOp opAdd (vSl (vVar 0) vNoPart (vPart (vVar 3))) (vOf (vLstD (vCons (vCall fn__law_spoiled (vCons (vOp opIx (vVar 0) (vVar 3)) (vCons (vOp opFdiv (vVar 1) (vC (.int 5))) vNil))) vNil)))) (vSl (vVar 0) (vPart (vOp opAdd (vVar 3) (vC (.int 1)))) vNoPart)))
    vNext))))
def fn__law_changed : List D → FR := runB 3 4 b__law_changed
/-- law -/
def b_law_1 : MS := (vSeq (vIf (vTest (vOp opNe (vCall fn__law_told (vCons (vVar 6) (vCons (vOp opIx (vVar 10) (vC (.int 0))) (vCons (vOp opIx (vVar 10) (vC (.int 1))) vNil)))) (vTupD (vCons (vC (.str "number")) (vCons (vC (.bl false)) (vCons (vC (.bl false)) vNil))))))
    (vSeq (vRet (vC (.bl false)))
    vNext)
    vNext)
    vNext)
def b_law : MS := (vSeq (vAsg (vCall fn__law_cell_at (vCons (vVar 0) (vCons (vC (.int 0)) vNil))) (gNam 1))
    (vSeq (vAsg (vOf (vCallF fn__law_drawn (vCons (vOp opAdd (vCall fn__law_cell_at (vCons (vVar 0) (vCons (vC (.int 1)) vNil))) (vOp opMul (vC (.int 31)) (vVar 1))) (vCons (vC (.int 9)) vNil)))) (gNam 2))
    (vSeq (vAsg (vCall fn__law_rate (vCons (vOp opIx (vOf (vCallF fn__law_drawn (vCons (vVar 1) (vCons (vC (.int 3)) vNil)))) (vC (.int 2))) vNil)) (gNam 3))
    (vSeq (vAsg (vOp opIx (vOf (vLstD (vCons (vVar 3) (vCons (vCall fn__law_rate (vCons (vOp opIx (vVar 2) (vC (.int 6))) vNil)) vNil)))) (vOp opMod (vOp opIx (vVar 2) (vC (.int 5))) (vC (.int 2)))) (gNam 4))
    (vSeq (vAsg (vOf (vCallF fn_written (vCons (vOf (vCallF fn__law_track (vCons (vSl (vVar 0) (vPart (vC (.int 2))) (vPart (vC (.int 12)))) vNil))) (vCons (vVar 3) (vCons (vVar 4) vNil))))) (gNam 5))
    (vSeq (vAsg (vVar 5) (gNam 6))
    (vSeq (vIf (vTest (vOp opGt (vOp opMod (vOp opIx (vVar 2) (vC (.int 4))) (vC (.int 4))) (vC (.int 0))))
    (vSeq (vAsg (vCall fn__law_changed (vCons (vVar 5) (vCons (vOp opIx (vVar 2) (vC (.int 2))) (vCons (vOp opIx (vVar 2) (vC (.int 3))) vNil)))) (gNam 6))
    vNext)
    vNext)
    (vSeq (vAsg (vOp opIx (vOf (vLstD (vCons (vVar 4) (vCons (vVar 4) (vCons (vCall fn__law_rate (vCons (vOp opIx (vVar 2) (vC (.int 7))) vNil)) vNil))))) (vOp opMod (vOp opIx (vVar 2) (vC (.int 8))) (vC (.int 3)))) (gNam 7))
    (vSeq (vAsg (vCall fn__law_first_wrong (vCons (vVar 6) (vCons (vVar 3) (vCons (vVar 7) vNil)))) (gNam 8))
    (vSeq (vAsg (vCall fn__law_told (vCons (vOf (vBl bfList (vCons (vVar 6) vNil))) (vCons (vVar 3) (vCons (vVar 7) vNil)))) (gNam 9))
    (vSeq (vIf (vTest (vOp opIs (vVar 8) (vC .non)))
    (vSeq (vRet (vOp opEq (vVar 9) (vTupD (vCons (vC .non) (vCons (vC (.bl false)) (vCons (vC (.bl false)) vNil))))))
    vNext)
    vNext)
    (vSeq (vIf (vOr (vTest (vOp opNe (vVar 9) (vTupD (vCons (vVar 8) (vCons (vC (.bl false)) (vCons (vC (.bl true)) vNil)))))) (vTest (vIsi "bool" (vOp opIx (vVar 9) (vC (.int 0))))))
    (vSeq (vRet (vC (.bl false)))
    vNext)
    vNext)
    (vSeq (vFor (vSeqI (vOf (vLstD (vCons (vTupD (vCons (vTupD (vCons (vC (.int 0)) (vCons (vC (.int 1)) vNil))) (vCons (vVar 3) vNil))) (vCons (vTupD (vCons (vVar 3) (vCons (vC (.int 24)) vNil))) vNil))))) (gNam 10)
    b_law_1)
    (vSeq (vRet (vOp opEq (vCall fn__law_told (vCons (vVar 5) (vCons (vVar 3) (vCons (vVar 4) vNil)))) (vTupD (vCons (vC .non) (vCons (vC (.bl false)) (vCons (vC (.bl false)) vNil))))))
    vNext))))))))))))))
def fn_law : List D → FR := runB 1 11 b_law
end
def topS (i : Nat) : Stmt := PySem.Challenge.pw_reelcut_k83_lists_refused.main.body.getD i (.Pass ⟨0, 0, 0, 0⟩)
def methS (i j : Nat) : Stmt := match topS i with
  | .ClassDef _ _ _ b _ _ _ _ _ _ _ => b.getD j (.Pass ⟨0, 0, 0, 0⟩)
  | _ => .Pass ⟨0, 0, 0, 0⟩
theorem sci_NoList : FnScope ["self", "at"] ["self", "at"] (defScope (methS 4 0)) := ⟨rfl, rfl, rfl, by decide +kernel, rfl, by decide +kernel, by decide +kernel⟩
/-- what the top has made -/
structure Top (K : PySem.W.Frag) (w : World) (mg : Str → Option Value) : Prop where
  d_is_whole : Def1 K mg "is_whole" (topS 6) ["x"]
  d_shared_by : Def1 K mg "shared_by" (topS 7) ["one", "other"]
  d_fraction : Def1 K mg "fraction" (topS 8) ["top", "bottom"]
  d_is_fraction : Def1 K mg "is_fraction" (topS 9) ["x"]
  d_sum_of : Def1 K mg "sum_of" (topS 10) ["one", "other"]
  d_times_of : Def1 K mg "times_of" (topS 11) ["one", "other"]
  d_quotient : Def1 K mg "quotient" (topS 12) ["one", "other"]
  d_floor_of : Def1 K mg "floor_of" (topS 13) ["one"]
  d_rest_of : Def1 K mg "rest_of" (topS 14) ["one"]
  d_is_name : Def1 K mg "is_name" (topS 18) ["thing"]
  d_room_of : Def1 K mg "room_of" (topS 20) ["item"]
  d_check_rates : Def1 K mg "check_rates" (topS 23) ["rate", "other"]
  d_without_length : Def1 K mg "without_length" (topS 24) ["item"]
  d_row_at : Def1 K mg "row_at" (topS 25) ["border", "rate", "other", "what"]
  d_written : Def1 K mg "written" (topS 26) ["track", "rate", "other"]
  d_is_what : Def1 K mg "is_what" (topS 27) ["what"]
  d_follows : Def1 K mg "follows" (topS 28) ["word", "last"]
  d_is_rest : Def1 K mg "is_rest" (topS 29) ["thing"]
  d_border_of : Def1 K mg "border_of" (topS 30) ["row", "rate", "other"]
  d_stands : Def1 K mg "stands" (topS 31) ["border", "last", "word"]
  d_borders_read : Def1 K mg "borders_read" (topS 32) ["rows", "rate", "other"]
  d_read_back : Def1 K mg "read_back" (topS 33) ["rows", "rate", "other"]
  d__law_cell_at : Def1 K mg "_law_cell_at" (topS 35) ["_law_script", "_law_k"]
  d__law_drawn : Def1 K mg "_law_drawn" (topS 36) ["_law_number", "_law_many"]
  d__law_part : Def1 K mg "_law_part" (topS 37) ["_law_x", "_law_cell"]
  d__law_track : Def1 K mg "_law_track" (topS 38) ["_law_cells"]
  d__law_rate : Def1 K mg "_law_rate" (topS 39) ["_law_x"]
  d__law_spoiled : Def1 K mg "_law_spoiled" (topS 40) ["_law_row", "_law_x"]
  d__law_changed : Def1 K mg "_law_changed" (topS 41) ["_law_rows", "_law_x", "_law_y"]
  d__law_said : Def1 K mg "_law_said" (topS 42) ["_law_what"]
  d__law_lowest : Def1 K mg "_law_lowest" (topS 43) ["_law_one"]
  d__law_border : Def1 K mg "_law_border" (topS 44) ["_law_row", "_law_rate_here", "_law_other"]
  d__law_stands : Def1 K mg "_law_stands" (topS 45) ["_law_now", "_law_word", "_law_border_here", "_law_ahead"]
  d__law_first_wrong : Def1 K mg "_law_first_wrong" (topS 46) ["_law_rows", "_law_rate_here", "_law_other"]
  d__law_told : Def1 K mg "_law_told" (topS 47) ["_law_rows", "_law_rate_here", "_law_other"]
  d_law : Def1 K mg "law" (topS 48) ["_law_script"]
  z_abs : mg "abs" = none
  z_bool : mg "bool" = none
  z_enumerate : mg "enumerate" = none
  z_int : mg "int" = none
  z_isinstance : mg "isinstance" = none
  z_len : mg "len" = none
  z_list : mg "list" = none
  z_range : mg "range" = none
  z_str : mg "str" = none
  z_tuple : mg "tuple" = none
  x_NoNumber : ∃ C, ExcCls K mg "NoNumber" C
  x : ExT K mg names0 anc0 bi0
  i_NoList : OexT K mg "NoList" "at" "CutError" (methS 4 0) "at" "NoList.__init__"
  n_at : NoAt K mg names0 "at"
  g_LETTERS : GCon K mg "LETTERS" g_LETTERS
  g_MOST_LETTERS : GCon K mg "MOST_LETTERS" g_MOST_LETTERS
  g_WIDTHS : TCon K w mg "WIDTHS" g_WIDTHS
section
variable {P : Program} {w : World} {K : PySem.W.Frag} {mg : Str → Option Value}
theorem psi_NoList (T : Top K w mg) (fI : Addr) (base : Heap) (cdv : Value) (A : Around) (outer : List PySem.Env) (s : Shared) (H : Hp) (E : XK) : PSs (cxOf (L2.CX P w) P w K mg base ["self", "at"] "NoList.__init__" (defScope (methS 4 0)) fI cdv A outer s H E) (defBody (methS 4 0)) (tSeq (tDrop (tVeI K (tCons (tVar 0) (tCons (tC (.str "a wrong row of a list")) tNil)))) (tSeq (tOst K "at" (tVar 0) (tVar 1)) tNext)) :=
  pss_cons (ps_expr (pe_cutinit T.i_NoList.b rfl (by decide) (pa_cons (pe_var rfl (.inl rfl)) (pa_cons pe_str pa_nil)))) (pss_cons (ps_ost (pe_var rfl (.inl rfl)) (pe_var rfl (.inl rfl))) pss_nil)
theorem sc__law_cell_at : FnScope ["_law_script", "_law_k"] ["_law_script", "_law_k"] (defScope (topS 35)) := ⟨rfl, rfl, rfl, by decide +kernel, rfl, by decide +kernel, by decide +kernel⟩
theorem ok__law_cell_at (T : Top K w mg) : Ok1 P w K mg "_law_cell_at" ["_law_script", "_law_k"] 1 (spV K mg fn__law_cell_at) :=
  Def1.V T.d__law_cell_at sc__law_cell_at (by decide) fun base f cdv A outer s H E hr => ((vss_cons (vs_if (vt_cmp (fun _ => od_lt) (ve_var 1) (ve_bf (fun _ => cd_len (.inr trivial)) (fun _ => T.z_len) (by decide +kernel) (va_cons (ve_var 0) va_nil)) (nomark _))
    (vss_cons (vs_ret (ve_ix (fun _ => hu_of hr) (ve_var 0) (ve_var 1) (fun _ _ => rfl)))
    vss_nil)
    vss_nil)
    (vss_cons (vs_ret ve_int)
    vss_nil)) : VSs _ _ _ _ b__law_cell_at)
theorem sc__law_drawn : FnScope ["_law_number", "_law_many", "_law_found", "_law_x", "_law_k"] ["_law_number", "_law_many"] (defScope (topS 36)) := ⟨rfl, rfl, rfl, by decide +kernel, rfl, by decide +kernel, by decide +kernel⟩
theorem ok__law_drawn (T : Top K w mg) : Ok1 P w K mg "_law_drawn" ["_law_number", "_law_many"] 1 (spF K mg fn__law_drawn) :=
  Def1.F T.d__law_drawn sc__law_drawn (by decide) fun base f cdv A outer s H E hr => ((vss_cons (vs_setF 2 sc__law_drawn.nd (vf_lst va_nil))
    (vss_cons (vs_set 3 sc__law_drawn.nd (ve_bin (fun _ => od_mod) (ve_var 0) ve_int))
    (vss_cons (vs_for (passes_of rfl) rfl (vi_rng1 (fun _ => T.z_range) (va_cons (ve_var 1) va_nil)) (vg_name 4 (fun _ => sc__law_drawn.nd))
    (vss_cons (vs_set 3 sc__law_drawn.nd (ve_bin (fun _ => od_mod) (ve_bin (fun _ => od_add) (ve_bin (fun _ => od_add) (ve_bin (fun _ => od_add) (ve_bin (fun _ => od_mul) (ve_var 3) (ve_var 3)) (ve_bin (fun _ => od_mul) ve_int (ve_var 3))) (ve_bin (fun _ => od_mul) ve_int (ve_var 4))) ve_int) ve_int))
    (vss_cons (vs_app 2 (ve_bin (fun _ => od_fdiv) (ve_var 3) ve_int))
    vss_nil)))
    (vss_cons (vs_retF (vf_own 2))
    vss_nil)))) : VSs _ _ _ _ b__law_drawn)
theorem sc__law_rate : FnScope ["_law_x"] ["_law_x"] (defScope (topS 39)) := ⟨rfl, rfl, rfl, by decide +kernel, rfl, by decide +kernel, by decide +kernel⟩
theorem ok__law_rate (T : Top K w mg) : Ok1 P w K mg "_law_rate" ["_law_x"] 1 (spV K mg fn__law_rate) :=
  Def1.V T.d__law_rate sc__law_rate (by decide) fun base f cdv A outer s H E hr => ((vss_cons (vs_ret (ve_ix (fun _ => hu_of hr) (ve_of (vf_lst (va_cons (ve_tup (va_cons ve_int (va_cons ve_int va_nil))) (va_cons (ve_tup (va_cons ve_int (va_cons ve_int va_nil))) (va_cons (ve_tup (va_cons ve_int (va_cons ve_int va_nil))) (va_cons (ve_tup (va_cons ve_int (va_cons ve_int va_nil))) (va_cons (ve_tup (va_cons ve_int (va_cons ve_int va_nil))) (va_cons (ve_tup (va_cons ve_int (va_cons ve_int va_nil))) (va_cons (ve_tup (va_cons (ve_bin (fun _ => od_add) ve_int (ve_bin (fun _ => od_mod) (ve_bin (fun _ => od_fdiv) (ve_var 0) ve_int) ve_int)) (va_cons ve_int va_nil))) (va_cons (ve_tup (va_cons ve_int (va_cons ve_int va_nil))) va_nil)))))))))) (ve_bin (fun _ => od_mod) (ve_var 0) ve_int) (fun _ _ => rfl)))
    vss_nil) : VSs _ _ _ _ b__law_rate)
theorem sc_is_whole : FnScope ["x"] ["x"] (defScope (topS 6)) := ⟨rfl, rfl, rfl, by decide +kernel, rfl, by decide +kernel, by decide +kernel⟩
theorem ok_is_whole (T : Top K w mg) : Ok1 P w K mg "is_whole" ["x"] 1 (spV K mg fn_is_whole) :=
  Def1.V T.d_is_whole sc_is_whole (by decide) fun base f cdv A outer s H E hr => ((vss_cons (vs_ret (ve_and (ve_isi kit_int (fun _ => T.z_isinstance) (fun _ => T.z_int) (by decide +kernel) (by decide +kernel) (ve_var 0)) (ve_one (ve_not (ve_isi kit_bool (fun _ => T.z_isinstance) (fun _ => T.z_bool) (by decide +kernel) (by decide +kernel) (ve_var 0))))))
    vss_nil) : VSs _ _ _ _ b_is_whole)
theorem sc_shared_by : FnScope ["one", "other"] ["one", "other"] (defScope (topS 7)) := ⟨rfl, rfl, rfl, by decide +kernel, rfl, by decide +kernel, by decide +kernel⟩
theorem ok_shared_by (T : Top K w mg) : Ok1 P w K mg "shared_by" ["one", "other"] 1 (spV K mg fn_shared_by) :=
  Def1.V T.d_shared_by sc_shared_by (by decide) fun base f cdv A outer s H E hr => ((vss_cons (vs_while (passes_of rfl) (vt_cmp (fun _ => od_ne hr.units) (ve_var 1) ve_int (nomark _))
    (vss_cons (vs_par rfl sc_shared_by.nd (by decide) (ve_var 1) (ve_bin (fun _ => od_mod) (ve_var 0) (ve_var 1)))
    vss_nil))
    (vss_cons (vs_ret (ve_bf (fun _ => cd_abs) (fun _ => T.z_abs) (by decide +kernel) (va_cons (ve_var 0) va_nil)))
    vss_nil)) : VSs _ _ _ _ b_shared_by)
theorem sc_is_fraction : FnScope ["x"] ["x"] (defScope (topS 9)) := ⟨rfl, rfl, rfl, by decide +kernel, rfl, by decide +kernel, by decide +kernel⟩
theorem ok_is_fraction (T : Top K w mg) : Ok1 P w K mg "is_fraction" ["x"] 2 (spV K mg fn_is_fraction) :=
  Def1.V T.d_is_fraction sc_is_fraction (by decide) fun base f cdv A outer s H E hr => ((vss_cons (vs_if (vt_w (vw_or (vt_not (vt_val (ve_isi kit_tuple (fun _ => T.z_isinstance) (fun _ => T.z_tuple) (by decide +kernel) (by decide +kernel) (ve_var 0)))) (vw_or (vt_cmp (fun _ => od_ne hr.units) (ve_bf (fun _ => cd_len (.inr trivial)) (fun _ => T.z_len) (by decide +kernel) (va_cons (ve_var 0) va_nil)) ve_int (nomark _)) (vw_or (vt_not (vt_val (ve_cal (ok_is_whole T) (fun _ => hr) (fun _ => (takes_of rfl rfl rfl rfl)) (va_cons (ve_ix (fun _ => hu_of hr) (ve_var 0) ve_int (fun _ _ => rfl)) va_nil)))) (vw_or1 (vt_not (vt_val (ve_cal (ok_is_whole T) (fun _ => hr) (fun _ => (takes_of rfl rfl rfl rfl)) (va_cons (ve_ix (fun _ => hu_of hr) (ve_var 0) ve_int (fun _ _ => rfl)) va_nil)))))))))
    (vss_cons (vs_ret ve_bl)
    vss_nil)
    vss_nil)
    (vss_cons (vs_ret (ve_and (ve_cmp (fun _ => od_gt) (ve_ix (fun _ => hu_of hr) (ve_var 0) ve_int (fun _ _ => rfl)) ve_int (nomark _)) (ve_one (ve_cmp (fun _ => od_eq hr.units) (ve_cal (ok_shared_by T) (fun _ => hr) (fun _ => (takes_of rfl rfl rfl rfl)) (va_cons (ve_ix (fun _ => hu_of hr) (ve_var 0) ve_int (fun _ _ => rfl)) (va_cons (ve_ix (fun _ => hu_of hr) (ve_var 0) ve_int (fun _ _ => rfl)) va_nil))) ve_int (nomark _)))))
    vss_nil)) : VSs _ _ _ _ b_is_fraction)
theorem sc_check_rates : FnScope ["rate", "other", "one"] ["rate", "other"] (defScope (topS 23)) := ⟨rfl, rfl, rfl, by decide +kernel, rfl, by decide +kernel, by decide +kernel⟩
theorem ok_check_rates (T : Top K w mg) : Ok1 P w K mg "check_rates" ["rate", "other"] 3 (spV K mg fn_check_rates) :=
  Def1.V T.d_check_rates sc_check_rates (by decide) fun base f cdv A outer s H E hr => ((vss_cons (vs_for (passes_of rfl) rfl (vi_seq (ve_tup (va_cons (ve_var 0) (va_cons (ve_var 1) va_nil)))) (vg_name 2 (fun _ => sc_check_rates.nd))
    (vss_cons (vs_if (vt_w (vw_or (vt_not (vt_val (ve_cal (ok_is_fraction T) (fun _ => hr) (fun _ => (takes_of rfl rfl rfl rfl)) (va_cons (ve_var 2) va_nil)))) (vw_or1 (vt_cmp (fun _ => od_lt) (ve_ix (fun _ => hu_of hr) (ve_var 2) ve_int (fun _ _ => rfl)) ve_int (nomark _)))))
    (vss_cons (T.x_NoNumber.elim fun _ h => vs_raise0 h (takes_of rfl rfl rfl rfl) rfl)
    vss_nil)
    vss_nil)
    vss_nil))
    vss_nil) : VSs _ _ _ _ b_check_rates)
theorem sc_fraction : FnScope ["top", "bottom", "share"] ["top", "bottom"] (defScope (topS 8)) := ⟨rfl, rfl, rfl, by decide +kernel, rfl, by decide +kernel, by decide +kernel⟩
theorem ok_fraction (T : Top K w mg) : Ok1 P w K mg "fraction" ["top", "bottom"] 2 (spV K mg fn_fraction) :=
  Def1.V T.d_fraction sc_fraction (by decide) fun base f cdv A outer s H E hr => ((vss_cons (vs_if (vt_w (vw_or (vt_not (vt_val (ve_cal (ok_is_whole T) (fun _ => hr) (fun _ => (takes_of rfl rfl rfl rfl)) (va_cons (ve_var 0) va_nil)))) (vw_or (vt_not (vt_val (ve_cal (ok_is_whole T) (fun _ => hr) (fun _ => (takes_of rfl rfl rfl rfl)) (va_cons (ve_var 1) va_nil)))) (vw_or1 (vt_cmp (fun _ => od_eq hr.units) (ve_var 1) ve_int (nomark _))))))
    (vss_cons (T.x_NoNumber.elim fun _ h => vs_raise0 h (takes_of rfl rfl rfl rfl) rfl)
    vss_nil)
    vss_nil)
    (vss_cons (vs_set 2 sc_fraction.nd (ve_cal (ok_shared_by T) (fun _ => hr) (fun _ => (takes_of rfl rfl rfl rfl)) (va_cons (ve_var 0) (va_cons (ve_var 1) va_nil))))
    (vss_cons (vs_if (vt_cmp (fun _ => od_lt) (ve_var 1) ve_int (nomark _))
    (vss_cons (vs_set 2 sc_fraction.nd (ve_un (fun _ => ud_neg) (ve_var 2)))
    vss_nil)
    vss_nil)
    (vss_cons (vs_ret (ve_tup (va_cons (ve_bin (fun _ => od_fdiv) (ve_var 0) (ve_var 2)) (va_cons (ve_bin (fun _ => od_fdiv) (ve_var 1) (ve_var 2)) va_nil))))
    vss_nil)))) : VSs _ _ _ _ b_fraction)
theorem sc_quotient : FnScope ["one", "other"] ["one", "other"] (defScope (topS 12)) := ⟨rfl, rfl, rfl, by decide +kernel, rfl, by decide +kernel, by decide +kernel⟩
theorem ok_quotient (T : Top K w mg) : Ok1 P w K mg "quotient" ["one", "other"] 3 (spV K mg fn_quotient) :=
  Def1.V T.d_quotient sc_quotient (by decide) fun base f cdv A outer s H E hr => ((vss_cons (vs_if (vt_cmp (fun _ => od_eq hr.units) (ve_ix (fun _ => hu_of hr) (ve_var 1) ve_int (fun _ _ => rfl)) ve_int (nomark _))
    (vss_cons (T.x_NoNumber.elim fun _ h => vs_raise0 h (takes_of rfl rfl rfl rfl) rfl)
    vss_nil)
    vss_nil)
    (vss_cons (vs_ret (ve_cal (ok_fraction T) (fun _ => hr) (fun _ => (takes_of rfl rfl rfl rfl)) (va_cons (ve_bin (fun _ => od_mul) (ve_ix (fun _ => hu_of hr) (ve_var 0) ve_int (fun _ _ => rfl)) (ve_ix (fun _ => hu_of hr) (ve_var 1) ve_int (fun _ _ => rfl))) (va_cons (ve_bin (fun _ => od_mul) (ve_ix (fun _ => hu_of hr) (ve_var 0) ve_int (fun _ _ => rfl)) (ve_ix (fun _ => hu_of hr) (ve_var 1) ve_int (fun _ _ => rfl))) va_nil))))
    vss_nil)) : VSs _ _ _ _ b_quotient)
theorem sc_times_of : FnScope ["one", "other"] ["one", "other"] (defScope (topS 11)) := ⟨rfl, rfl, rfl, by decide +kernel, rfl, by decide +kernel, by decide +kernel⟩
theorem ok_times_of (T : Top K w mg) : Ok1 P w K mg "times_of" ["one", "other"] 3 (spV K mg fn_times_of) :=
  Def1.V T.d_times_of sc_times_of (by decide) fun base f cdv A outer s H E hr => ((vss_cons (vs_ret (ve_cal (ok_fraction T) (fun _ => hr) (fun _ => (takes_of rfl rfl rfl rfl)) (va_cons (ve_bin (fun _ => od_mul) (ve_ix (fun _ => hu_of hr) (ve_var 0) ve_int (fun _ _ => rfl)) (ve_ix (fun _ => hu_of hr) (ve_var 1) ve_int (fun _ _ => rfl))) (va_cons (ve_bin (fun _ => od_mul) (ve_ix (fun _ => hu_of hr) (ve_var 0) ve_int (fun _ _ => rfl)) (ve_ix (fun _ => hu_of hr) (ve_var 1) ve_int (fun _ _ => rfl))) va_nil))))
    vss_nil) : VSs _ _ _ _ b_times_of)
theorem sc_floor_of : FnScope ["one"] ["one"] (defScope (topS 13)) := ⟨rfl, rfl, rfl, by decide +kernel, rfl, by decide +kernel, by decide +kernel⟩
theorem ok_floor_of (T : Top K w mg) : Ok1 P w K mg "floor_of" ["one"] 1 (spV K mg fn_floor_of) :=
  Def1.V T.d_floor_of sc_floor_of (by decide) fun base f cdv A outer s H E hr => ((vss_cons (vs_ret (ve_bin (fun _ => od_fdiv) (ve_ix (fun _ => hu_of hr) (ve_var 0) ve_int (fun _ _ => rfl)) (ve_ix (fun _ => hu_of hr) (ve_var 0) ve_int (fun _ _ => rfl))))
    vss_nil) : VSs _ _ _ _ b_floor_of)
theorem sc_rest_of : FnScope ["one", "top", "bottom"] ["one"] (defScope (topS 14)) := ⟨rfl, rfl, rfl, by decide +kernel, rfl, by decide +kernel, by decide +kernel⟩
theorem ok_rest_of (T : Top K w mg) : Ok1 P w K mg "rest_of" ["one"] 3 (spV K mg fn_rest_of) :=
  Def1.V T.d_rest_of sc_rest_of (by decide) fun base f cdv A outer s H E hr => ((vss_cons (vs_asg (ve_var 0) (vg_tup (fun _ => rfl) (vgs_cons (vg_name 1 (fun _ => sc_rest_of.nd)) (vgs_cons (vg_name 2 (fun _ => sc_rest_of.nd)) vgs_nil))))
    (vss_cons (vs_ret (ve_cal (ok_fraction T) (fun _ => hr) (fun _ => (takes_of rfl rfl rfl rfl)) (va_cons (ve_bin (fun _ => od_sub) (ve_var 1) (ve_bin (fun _ => od_mul) (ve_bin (fun _ => od_fdiv) (ve_var 1) (ve_var 2)) (ve_var 2))) (va_cons (ve_var 2) va_nil))))
    vss_nil)) : VSs _ _ _ _ b_rest_of)
theorem sc_row_at : FnScope ["border", "rate", "other", "what", "moment"] ["border", "rate", "other", "what"] (defScope (topS 25)) := ⟨rfl, rfl, rfl, by decide +kernel, rfl, by decide +kernel, by decide +kernel⟩
theorem ok_row_at (T : Top K w mg) : Ok1 P w K mg "row_at" ["border", "rate", "other", "what"] 4 (spV K mg fn_row_at) :=
  Def1.V T.d_row_at sc_row_at (by decide) fun base f cdv A outer s H E hr => ((vss_cons (vs_set 4 sc_row_at.nd (ve_cal (ok_quotient T) (fun _ => hr) (fun _ => (takes_of rfl rfl rfl rfl)) (va_cons (ve_cal (ok_times_of T) (fun _ => hr) (fun _ => (takes_of rfl rfl rfl rfl)) (va_cons (ve_tup (va_cons (ve_var 0) (va_cons ve_int va_nil))) (va_cons (ve_var 2) va_nil))) (va_cons (ve_var 1) va_nil))))
    (vss_cons (vs_ret (ve_tup (va_cons (ve_cal (ok_floor_of T) (fun _ => hr) (fun _ => (takes_of rfl rfl rfl rfl)) (va_cons (ve_var 4) va_nil)) (va_cons (ve_cal (ok_rest_of T) (fun _ => hr) (fun _ => (takes_of rfl rfl rfl rfl)) (va_cons (ve_var 4) va_nil)) (va_cons (ve_var 3) va_nil)))))
    vss_nil)) : VSs _ _ _ _ b_row_at)
theorem sc_room_of : FnScope ["item"] ["item"] (defScope (topS 20)) := ⟨rfl, rfl, rfl, by decide +kernel, rfl, by decide +kernel, by decide +kernel⟩
theorem ok_room_of (T : Top K w mg) : Ok1 P w K mg "room_of" ["item"] 1 (spV K mg fn_room_of) :=
  Def1.V T.d_room_of sc_room_of (by decide) fun base f cdv A outer s H E hr => ((vss_cons (vs_if (vt_cmp (fun _ => od_eq hr.units) (ve_ix (fun _ => hu_of hr) (ve_var 0) ve_int (fun _ _ => rfl)) ve_str (nomark _))
    (vss_cons (vs_ret ve_int)
    vss_nil)
    vss_nil)
    (vss_cons (vs_ret (ve_ix (fun _ => hu_of hr) (ve_var 0) (ve_un (fun _ => ud_neg) ve_int) (fun _ _ => rfl)))
    vss_nil)) : VSs _ _ _ _ b_room_of)
theorem sc_without_length : FnScope ["item"] ["item"] (defScope (topS 24)) := ⟨rfl, rfl, rfl, by decide +kernel, rfl, by decide +kernel, by decide +kernel⟩
theorem ok_without_length (T : Top K w mg) : Ok1 P w K mg "without_length" ["item"] 1 (spV K mg fn_without_length) :=
  Def1.V T.d_without_length sc_without_length (by decide) fun base f cdv A outer s H E hr => ((vss_cons (vs_if (vt_cmp (fun _ => od_eq hr.units) (ve_ix (fun _ => hu_of hr) (ve_var 0) ve_int (fun _ _ => rfl)) ve_str (nomark _))
    (vss_cons (vs_ret (ve_var 0))
    vss_nil)
    vss_nil)
    (vss_cons (vs_ret (ve_slT (ve_var 0) vp_none (vp_some (ve_un (fun _ => ud_neg) ve_int))))
    vss_nil)) : VSs _ _ _ _ b_without_length)
theorem sc_written : FnScope ["track", "rate", "other", "rows", "border", "item"] ["track", "rate", "other"] (defScope (topS 26)) := ⟨rfl, rfl, rfl, by decide +kernel, rfl, by decide +kernel, by decide +kernel⟩
theorem ok_written (T : Top K w mg) : Ok1 P w K mg "written" ["track", "rate", "other"] 5 (spF K mg fn_written) :=
  Def1.F T.d_written sc_written (by decide) fun base f cdv A outer s H E hr => ((vss_cons (vs_expr (ve_cal (ok_check_rates T) (fun _ => hr) (fun _ => (takes_of rfl rfl rfl rfl)) (va_cons (ve_var 1) (va_cons (ve_var 2) va_nil))))
    (vss_cons (vs_setF 3 sc_written.nd (vf_lst va_nil))
    (vss_cons (vs_set 4 sc_written.nd ve_int)
    (vss_cons (vs_for (passes_of rfl) rfl (vi_seq (ve_var 0)) (vg_name 5 (fun _ => sc_written.nd))
    (vss_cons (vs_app 3 (ve_cal (ok_row_at T) (fun _ => hr) (fun _ => (takes_of rfl rfl rfl rfl)) (va_cons (ve_var 4) (va_cons (ve_var 1) (va_cons (ve_var 2) (va_cons (ve_cal (ok_without_length T) (fun _ => hr) (fun _ => (takes_of rfl rfl rfl rfl)) (va_cons (ve_var 5) va_nil)) va_nil))))))
    (vss_cons (vs_set 4 sc_written.nd (ve_bin (fun _ => od_add) (ve_var 4) (ve_cal (ok_room_of T) (fun _ => hr) (fun _ => (takes_of rfl rfl rfl rfl)) (va_cons (ve_var 5) va_nil))))
    vss_nil)))
    (vss_cons (vs_app 3 (ve_cal (ok_row_at T) (fun _ => hr) (fun _ => (takes_of rfl rfl rfl rfl)) (va_cons (ve_var 4) (va_cons (ve_var 1) (va_cons (ve_var 2) (va_cons (ve_tup (va_cons ve_str va_nil)) va_nil))))))
    (vss_cons (vs_retF (vf_own 3))
    vss_nil)))))) : VSs _ _ _ _ b_written)
theorem sc__law_said : FnScope ["_law_what"] ["_law_what"] (defScope (topS 42)) := ⟨rfl, rfl, rfl, by decide +kernel, rfl, by decide +kernel, by decide +kernel⟩
theorem ok__law_said (T : Top K w mg) : Ok1 P w K mg "_law_said" ["_law_what"] 1 (spV K mg fn__law_said) :=
  Def1.V T.d__law_said sc__law_said (by decide) fun base f cdv A outer s H E hr => ((vss_cons (vs_if (vt_w (vw_or (vt_not (vt_val (ve_isi kit_tuple (fun _ => T.z_isinstance) (fun _ => T.z_tuple) (by decide +kernel) (by decide +kernel) (ve_var 0)))) (vw_or (vt_w (vw_and (vt_cmp (fun _ => od_eq hr.units) (ve_ix (fun _ => hu_of hr) (ve_var 0) ve_int (fun _ _ => rfl)) ve_str (nomark _)) (vw_and1 (vt_cmp (fun _ => od_lt) (ve_ix (fun _ => hu_of hr) (ve_var 0) ve_int (fun _ _ => rfl)) ve_int (nomark _))))) (vw_or1 (vt_w (vw_and (vt_cmp (fun _ => od_eq hr.units) (ve_ix (fun _ => hu_of hr) (ve_var 0) ve_int (fun _ _ => rfl)) ve_str (nomark _)) (vw_and1 (vt_cmp (fun _ => od_lt) (ve_ix (fun _ => hu_of hr) (ve_var 0) ve_int (fun _ _ => rfl)) ve_int (nomark _)))))))))
    (vss_cons (vs_ret ve_bl)
    vss_nil)
    vss_nil)
    (vss_cons (vs_ret (ve_or (ve_cmp (fun _ => od_ne hr.units) (ve_ix (fun _ => hu_of hr) (ve_var 0) ve_int (fun _ _ => rfl)) ve_str (nomark _)) (ve_one (ve_and (ve_cmp (fun _ => od_eq hr.units) (ve_bf (fun _ => cd_len (.inr trivial)) (fun _ => T.z_len) (by decide +kernel) (va_cons (ve_var 0) va_nil)) ve_int (nomark _)) (ve_one (ve_cmp (fun _ => od_ne hr.units) (ve_ix (fun _ => hu_of hr) (ve_var 0) ve_int (fun _ _ => rfl)) ve_str (nomark _)))))))
    vss_nil)) : VSs _ _ _ _ b__law_said)
theorem sc__law_lowest : FnScope ["_law_one", "_law_low", "_law_high"] ["_law_one"] (defScope (topS 43)) := ⟨rfl, rfl, rfl, by decide +kernel, rfl, by decide +kernel, by decide +kernel⟩
theorem ok__law_lowest (T : Top K w mg) : Ok1 P w K mg "_law_lowest" ["_law_one"] 1 (spV K mg fn__law_lowest) :=
  Def1.V T.d__law_lowest sc__law_lowest (by decide) fun base f cdv A outer s H E hr => ((vss_cons (vs_asg (ve_var 0) (vg_tup (fun _ => rfl) (vgs_cons (vg_name 1 (fun _ => sc__law_lowest.nd)) (vgs_cons (vg_name 2 (fun _ => sc__law_lowest.nd)) vgs_nil))))
    (vss_cons (vs_while (passes_of rfl) (vt_cmp (fun _ => od_ne hr.units) (ve_var 2) ve_int (nomark _))
    (vss_cons (vs_par rfl sc__law_lowest.nd (by decide) (ve_var 2) (ve_bin (fun _ => od_mod) (ve_var 1) (ve_var 2)))
    vss_nil))
    (vss_cons (vs_ret (ve_cmp (fun _ => od_eq hr.units) (ve_bf (fun _ => cd_abs) (fun _ => T.z_abs) (by decide +kernel) (va_cons (ve_var 1) va_nil)) ve_int (nomark _)))
    vss_nil))) : VSs _ _ _ _ b__law_lowest)
theorem sc__law_border : FnScope ["_law_row", "_law_rate_here", "_law_other", "_law_whole", "_law_rest", "_law_what", "_law_top", "_law_bottom"] ["_law_row", "_law_rate_here", "_law_other"] (defScope (topS 44)) := ⟨rfl, rfl, rfl, by decide +kernel, rfl, by decide +kernel, by decide +kernel⟩
theorem ok__law_border (T : Top K w mg) : Ok1 P w K mg "_law_border" ["_law_row", "_law_rate_here", "_law_other"] 2 (spV K mg fn__law_border) :=
  Def1.V T.d__law_border sc__law_border (by decide) fun base f cdv A outer s H E hr => ((vss_cons (vs_if (vt_w (vw_or (vt_not (vt_val (ve_isi kit_tuple (fun _ => T.z_isinstance) (fun _ => T.z_tuple) (by decide +kernel) (by decide +kernel) (ve_var 0)))) (vw_or (vt_cmp (fun _ => od_ne hr.units) (ve_bf (fun _ => cd_len (.inr trivial)) (fun _ => T.z_len) (by decide +kernel) (va_cons (ve_var 0) va_nil)) ve_int (nomark _)) (vw_or1 (vt_val (ve_isi kit_bool (fun _ => T.z_isinstance) (fun _ => T.z_bool) (by decide +kernel) (by decide +kernel) (ve_ix (fun _ => hu_of hr) (ve_var 0) ve_int (fun _ _ => rfl))))))))
    (vss_cons (vs_ret ve_non)
    vss_nil)
    vss_nil)
    (vss_cons (vs_asg (ve_var 0) (vg_tup (fun _ => rfl) (vgs_cons (vg_name 3 (fun _ => sc__law_border.nd)) (vgs_cons (vg_name 4 (fun _ => sc__law_border.nd)) (vgs_cons (vg_name 5 (fun _ => sc__law_border.nd)) vgs_nil)))))
    (vss_cons (vs_if (vt_w (vw_or (vt_not (vt_val (ve_cal (ok__law_said T) (fun _ => hr) (fun _ => (takes_of rfl rfl rfl rfl)) (va_cons (ve_var 5) va_nil)))) (vw_or (vt_not (vt_val (ve_cal (ok__law_lowest T) (fun _ => hr) (fun _ => (takes_of rfl rfl rfl rfl)) (va_cons (ve_var 4) va_nil)))) (vw_or1 (vt_not (vt_chain (fun _ => od_le) (fun _ => od_lt) le_bl ve_int (ve_ix (fun _ => hu_of hr) (ve_var 4) ve_int (fun _ _ => rfl)) (ve_ix (fun _ => hu_of hr) (ve_var 4) ve_int (fun _ _ => rfl))))))))
    (vss_cons (vs_ret ve_non)
    vss_nil)
    vss_nil)
    (vss_cons (vs_set 6 sc__law_border.nd (ve_bin (fun _ => od_mul) (ve_bin (fun _ => od_mul) (ve_bin (fun _ => od_add) (ve_bin (fun _ => od_mul) (ve_var 3) (ve_ix (fun _ => hu_of hr) (ve_var 4) ve_int (fun _ _ => rfl))) (ve_ix (fun _ => hu_of hr) (ve_var 4) ve_int (fun _ _ => rfl))) (ve_ix (fun _ => hu_of hr) (ve_var 1) ve_int (fun _ _ => rfl))) (ve_ix (fun _ => hu_of hr) (ve_var 2) ve_int (fun _ _ => rfl))))
    (vss_cons (vs_set 7 sc__law_border.nd (ve_bin (fun _ => od_mul) (ve_bin (fun _ => od_mul) (ve_ix (fun _ => hu_of hr) (ve_var 4) ve_int (fun _ _ => rfl)) (ve_ix (fun _ => hu_of hr) (ve_var 1) ve_int (fun _ _ => rfl))) (ve_ix (fun _ => hu_of hr) (ve_var 2) ve_int (fun _ _ => rfl))))
    (vss_cons (vs_if (vt_cmp (fun _ => od_ne hr.units) (ve_bin (fun _ => od_mod) (ve_var 6) (ve_var 7)) ve_int (nomark _))
    (vss_cons (vs_ret ve_non)
    vss_nil)
    vss_nil)
    (vss_cons (vs_ret (ve_bin (fun _ => od_fdiv) (ve_var 6) (ve_var 7)))
    vss_nil))))))) : VSs _ _ _ _ b__law_border)
theorem sc__law_stands : FnScope ["_law_now", "_law_word", "_law_border_here", "_law_ahead"] ["_law_now", "_law_word", "_law_border_here", "_law_ahead"] (defScope (topS 45)) := ⟨rfl, rfl, rfl, by decide +kernel, rfl, by decide +kernel, by decide +kernel⟩
theorem ok__law_stands (T : Top K w mg) : Ok1 P w K mg "_law_stands" ["_law_now", "_law_word", "_law_border_here", "_law_ahead"] 1 (spV K mg fn__law_stands) :=
  Def1.V T.d__law_stands sc__law_stands (by decide) fun base f cdv A outer s H E hr => ((vss_cons (vs_if (vt_cmp (fun _ => od_eq hr.units) (ve_var 3) ve_str (nomark _))
    (vss_cons (vs_ret (ve_and (ve_cmp (fun _ => od_eq hr.units) (ve_var 2) ve_int (nomark _)) (ve_one (ve_cmp (fun _ => od_ne hr.units) (ve_var 1) ve_str (nomark _)))))
    vss_nil)
    vss_nil)
    (vss_cons (vs_if (vt_w (vw_or (vt_cmp (fun _ => od_eq hr.units) (ve_var 3) ve_str (nomark _)) (vw_or (vt_w (vw_and (vt_cmp (fun _ => od_eq hr.units) (ve_var 3) ve_str (nomark _)) (vw_and1 (vt_cmp (fun _ => od_ne hr.units) (ve_var 1) ve_str (nomark _))))) (vw_or1 (vt_w (vw_and (vt_cmp (fun _ => od_eq hr.units) (ve_var 1) ve_str (nomark _)) (vw_and1 (vt_cmp (fun _ => od_ne hr.units) (ve_var 3) ve_str (nomark _)))))))))
    (vss_cons (vs_ret ve_bl)
    vss_nil)
    vss_nil)
    (vss_cons (vs_if (vt_w (vw_and (vt_cmp (fun _ => od_eq hr.units) (ve_var 3) ve_str (nomark _)) (vw_and1 (vt_cmp (fun _ => od_in (hu_of hr)) (ve_var 1) (ve_of (vf_lst (va_cons ve_str (va_cons ve_str va_nil)))) (by rfl)))))
    (vss_cons (vs_ret ve_bl)
    vss_nil)
    vss_nil)
    (vss_cons (vs_if (vt_cmp (fun _ => od_eq hr.units) (ve_var 3) ve_str (nomark _))
    (vss_cons (vs_ret (ve_cmp (fun _ => od_eq hr.units) (ve_var 2) (ve_var 0) (nomark _)))
    vss_nil)
    vss_nil)
    (vss_cons (vs_ret (ve_cmp (fun _ => od_gt) (ve_var 2) (ve_var 0) (nomark _)))
    vss_nil))))) : VSs _ _ _ _ b__law_stands)
theorem sc__law_first_wrong : FnScope ["_law_rows", "_law_rate_here", "_law_other", "_law_ahead", "_law_now", "_law_at", "_law_border_here"] ["_law_rows", "_law_rate_here", "_law_other"] (defScope (topS 46)) := ⟨rfl, rfl, rfl, by decide +kernel, rfl, by decide +kernel, by decide +kernel⟩
theorem ok__law_first_wrong (T : Top K w mg) : Ok1 P w K mg "_law_first_wrong" ["_law_rows", "_law_rate_here", "_law_other"] 3 (spV K mg fn__law_first_wrong) :=
  Def1.V T.d__law_first_wrong sc__law_first_wrong (by decide) fun base f cdv A outer s H E hr => ((vss_cons (vs_set 3 sc__law_first_wrong.nd ve_str)
    (vss_cons (vs_set 4 sc__law_first_wrong.nd ve_int)
    (vss_cons (vs_for (passes_of rfl) rfl (vi_rng1 (fun _ => T.z_range) (va_cons (ve_bf (fun _ => cd_len (.inr trivial)) (fun _ => T.z_len) (by decide +kernel) (va_cons (ve_var 0) va_nil)) va_nil)) (vg_name 5 (fun _ => sc__law_first_wrong.nd))
    (vss_cons (vs_set 6 sc__law_first_wrong.nd (ve_cal (ok__law_border T) (fun _ => hr) (fun _ => (takes_of rfl rfl rfl rfl)) (va_cons (ve_ix (fun _ => hu_of hr) (ve_var 0) (ve_var 5) (fun _ _ => rfl)) (va_cons (ve_var 1) (va_cons (ve_var 2) va_nil)))))
    (vss_cons (vs_if (vt_w (vw_or (vt_cmp (fun _ => od_is) (ve_var 6) ve_non (nomark _)) (vw_or1 (vt_not (vt_val (ve_cal (ok__law_stands T) (fun _ => hr) (fun _ => (takes_of rfl rfl rfl rfl)) (va_cons (ve_var 4) (va_cons (ve_ix (fun _ => hu_of hr) (ve_ix (fun _ => hu_of hr) (ve_ix (fun _ => hu_of hr) (ve_var 0) (ve_var 5) (fun _ _ => rfl)) ve_int (fun _ _ => rfl)) ve_int (fun _ _ => rfl)) (va_cons (ve_var 6) (va_cons (ve_var 3) va_nil))))))))))
    (vss_cons (vs_ret (ve_var 5))
    vss_nil)
    vss_nil)
    (vss_cons (vs_set 3 sc__law_first_wrong.nd (ve_ix (fun _ => hu_of hr) (ve_ix (fun _ => hu_of hr) (ve_ix (fun _ => hu_of hr) (ve_var 0) (ve_var 5) (fun _ _ => rfl)) ve_int (fun _ _ => rfl)) ve_int (fun _ _ => rfl)))
    (vss_cons (vs_set 4 sc__law_first_wrong.nd (ve_var 6))
    vss_nil)))))
    (vss_cons (vs_if (vt_cmp (fun _ => od_ne hr.units) (ve_var 3) ve_str (nomark _))
    (vss_cons (vs_ret (ve_bf (fun _ => cd_len (.inr trivial)) (fun _ => T.z_len) (by decide +kernel) (va_cons (ve_var 0) va_nil)))
    vss_nil)
    vss_nil)
    (vss_cons (vs_ret ve_non)
    vss_nil))))) : VSs _ _ _ _ b__law_first_wrong)
theorem sc_is_rest : FnScope ["thing"] ["thing"] (defScope (topS 29)) := ⟨rfl, rfl, rfl, by decide +kernel, rfl, by decide +kernel, by decide +kernel⟩
theorem ok_is_rest (T : Top K w mg) : Ok1 P w K mg "is_rest" ["thing"] 3 (spV K mg fn_is_rest) :=
  Def1.V T.d_is_rest sc_is_rest (by decide) fun base f cdv A outer s H E hr => ((vss_cons (vs_ret (ve_and (ve_cal (ok_is_fraction T) (fun _ => hr) (fun _ => (takes_of rfl rfl rfl rfl)) (va_cons (ve_var 0) va_nil)) (ve_one (ve_chain (fun _ => od_le) (fun _ => od_lt) le_bl ve_int (ve_ix (fun _ => hu_of hr) (ve_var 0) ve_int (fun _ _ => rfl)) (ve_ix (fun _ => hu_of hr) (ve_var 0) ve_int (fun _ _ => rfl))))))
    vss_nil) : VSs _ _ _ _ b_is_rest)
theorem sc_sum_of : FnScope ["one", "other"] ["one", "other"] (defScope (topS 10)) := ⟨rfl, rfl, rfl, by decide +kernel, rfl, by decide +kernel, by decide +kernel⟩
theorem ok_sum_of (T : Top K w mg) : Ok1 P w K mg "sum_of" ["one", "other"] 3 (spV K mg fn_sum_of) :=
  Def1.V T.d_sum_of sc_sum_of (by decide) fun base f cdv A outer s H E hr => ((vss_cons (vs_ret (ve_cal (ok_fraction T) (fun _ => hr) (fun _ => (takes_of rfl rfl rfl rfl)) (va_cons (ve_bin (fun _ => od_add) (ve_bin (fun _ => od_mul) (ve_ix (fun _ => hu_of hr) (ve_var 0) ve_int (fun _ _ => rfl)) (ve_ix (fun _ => hu_of hr) (ve_var 1) ve_int (fun _ _ => rfl))) (ve_bin (fun _ => od_mul) (ve_ix (fun _ => hu_of hr) (ve_var 1) ve_int (fun _ _ => rfl)) (ve_ix (fun _ => hu_of hr) (ve_var 0) ve_int (fun _ _ => rfl)))) (va_cons (ve_bin (fun _ => od_mul) (ve_ix (fun _ => hu_of hr) (ve_var 0) ve_int (fun _ _ => rfl)) (ve_ix (fun _ => hu_of hr) (ve_var 1) ve_int (fun _ _ => rfl))) va_nil))))
    vss_nil) : VSs _ _ _ _ b_sum_of)
theorem sc_is_name : FnScope ["thing"] ["thing"] (defScope (topS 18)) := ⟨rfl, rfl, rfl, by decide +kernel, rfl, by decide +kernel, by decide +kernel⟩
theorem ok_is_name (T : Top K w mg) : Ok1 P w K mg "is_name" ["thing"] 1 (spV K mg fn_is_name) :=
  Def1.V T.d_is_name sc_is_name (by decide) fun base f cdv A outer s H E hr => ((vss_cons (vs_if (vt_w (vw_or (vt_not (vt_val (ve_isi kit_str (fun _ => T.z_isinstance) (fun _ => T.z_str) (by decide +kernel) (by decide +kernel) (ve_var 0)))) (vw_or (vt_cmp (fun _ => od_eq hr.units) (ve_var 0) ve_str (nomark _)) (vw_or1 (vt_cmp (fun _ => od_gt) (ve_bf (fun _ => cd_len (.inr trivial)) (fun _ => T.z_len) (by decide +kernel) (va_cons (ve_var 0) va_nil)) (ve_con T.g_MOST_LETTERS) (nomark _))))))
    (vss_cons (vs_ret ve_bl)
    vss_nil)
    vss_nil)
    (vss_cons (vs_ret (ve_cmp (fun _ => od_eq hr.units) (ve_strip (ve_var 0) (ve_con T.g_LETTERS)) ve_str (nomark _)))
    vss_nil)) : VSs _ _ _ _ b_is_name)
theorem sc_is_what : FnScope ["what", "word"] ["what"] (defScope (topS 27)) := ⟨rfl, rfl, rfl, by decide +kernel, rfl, by decide +kernel, by decide +kernel⟩
theorem ok_is_what (T : Top K w mg) : Ok1 P w K mg "is_what" ["what"] 3 (spV K mg fn_is_what) :=
  Def1.V T.d_is_what sc_is_what (by decide) fun base f cdv A outer s H E hr => ((vss_cons (vs_if (vt_w (vw_or (vt_not (vt_val (ve_isi kit_tuple (fun _ => T.z_isinstance) (fun _ => T.z_tuple) (by decide +kernel) (by decide +kernel) (ve_var 0)))) (vw_or (vt_cmp (fun _ => od_eq hr.units) (ve_var 0) (ve_tup va_nil) (nomark _)) (vw_or1 (vt_not (vt_val (ve_isi kit_str (fun _ => T.z_isinstance) (fun _ => T.z_str) (by decide +kernel) (by decide +kernel) (ve_ix (fun _ => hu_of hr) (ve_var 0) ve_int (fun _ _ => rfl)))))))))
    (vss_cons (vs_ret ve_bl)
    vss_nil)
    vss_nil)
    (vss_cons (vs_set 1 sc_is_what.nd (ve_ix (fun _ => hu_of hr) (ve_var 0) ve_int (fun _ _ => rfl)))
    (vss_cons (vs_if (vt_w (vw_or (vt_tabNotIn T.g_WIDTHS (ve_var 1)) (vw_or1 (vt_cmp (fun _ => od_ne hr.units) (ve_bf (fun _ => cd_len (.inr trivial)) (fun _ => T.z_len) (by decide +kernel) (va_cons (ve_var 0) va_nil)) (ve_tabIx T.g_WIDTHS (ve_var 1) (hs := fun _ _ => rfl)) (nomark _)))))
    (vss_cons (vs_ret ve_bl)
    vss_nil)
    vss_nil)
    (vss_cons (vs_if (vt_cmp (fun _ => od_eq hr.units) (ve_var 1) ve_str (nomark _))
    (vss_cons (vs_ret (ve_and (ve_cal (ok_is_name T) (fun _ => hr) (fun _ => (takes_of rfl rfl rfl rfl)) (va_cons (ve_ix (fun _ => hu_of hr) (ve_var 0) ve_int (fun _ _ => rfl)) va_nil)) (ve_and (ve_cal (ok_is_fraction T) (fun _ => hr) (fun _ => (takes_of rfl rfl rfl rfl)) (va_cons (ve_ix (fun _ => hu_of hr) (ve_var 0) ve_int (fun _ _ => rfl)) va_nil)) (ve_one (ve_cal (ok_is_fraction T) (fun _ => hr) (fun _ => (takes_of rfl rfl rfl rfl)) (va_cons (ve_ix (fun _ => hu_of hr) (ve_var 0) ve_int (fun _ _ => rfl)) va_nil))))))
    vss_nil)
    vss_nil)
    (vss_cons (vs_if (vt_cmp (fun _ => od_eq hr.units) (ve_var 1) ve_str (nomark _))
    (vss_cons (vs_ret (ve_and (ve_cal (ok_is_name T) (fun _ => hr) (fun _ => (takes_of rfl rfl rfl rfl)) (va_cons (ve_ix (fun _ => hu_of hr) (ve_var 0) ve_int (fun _ _ => rfl)) va_nil)) (ve_and (ve_cal (ok_is_whole T) (fun _ => hr) (fun _ => (takes_of rfl rfl rfl rfl)) (va_cons (ve_ix (fun _ => hu_of hr) (ve_var 0) ve_int (fun _ _ => rfl)) va_nil)) (ve_one (ve_cmp (fun _ => od_ge) (ve_ix (fun _ => hu_of hr) (ve_var 0) ve_int (fun _ _ => rfl)) ve_int (nomark _))))))
    vss_nil)
    vss_nil)
    (vss_cons (vs_ret (ve_or (ve_cmp (fun _ => od_ne hr.units) (ve_var 1) ve_str (nomark _)) (ve_one (ve_and (ve_cal (ok_is_whole T) (fun _ => hr) (fun _ => (takes_of rfl rfl rfl rfl)) (va_cons (ve_ix (fun _ => hu_of hr) (ve_var 0) ve_int (fun _ _ => rfl)) va_nil)) (ve_one (ve_cmp (fun _ => od_gt) (ve_ix (fun _ => hu_of hr) (ve_var 0) ve_int (fun _ _ => rfl)) ve_int (nomark _)))))))
    vss_nil)))))) : VSs _ _ _ _ b_is_what)
theorem sc_border_of : FnScope ["row", "rate", "other", "moment"] ["row", "rate", "other"] (defScope (topS 30)) := ⟨rfl, rfl, rfl, by decide +kernel, rfl, by decide +kernel, by decide +kernel⟩
theorem ok_border_of (T : Top K w mg) : Ok1 P w K mg "border_of" ["row", "rate", "other"] 4 (spV K mg fn_border_of) :=
  Def1.V T.d_border_of sc_border_of (by decide) fun base f cdv A outer s H E hr => ((vss_cons (vs_if (vt_w (vw_or (vt_not (vt_val (ve_isi kit_tuple (fun _ => T.z_isinstance) (fun _ => T.z_tuple) (by decide +kernel) (by decide +kernel) (ve_var 0)))) (vw_or (vt_cmp (fun _ => od_ne hr.units) (ve_bf (fun _ => cd_len (.inr trivial)) (fun _ => T.z_len) (by decide +kernel) (va_cons (ve_var 0) va_nil)) ve_int (nomark _)) (vw_or (vt_not (vt_val (ve_cal (ok_is_whole T) (fun _ => hr) (fun _ => (takes_of rfl rfl rfl rfl)) (va_cons (ve_ix (fun _ => hu_of hr) (ve_var 0) ve_int (fun _ _ => rfl)) va_nil)))) (vw_or1 (vt_not (vt_val (ve_cal (ok_is_rest T) (fun _ => hr) (fun _ => (takes_of rfl rfl rfl rfl)) (va_cons (ve_ix (fun _ => hu_of hr) (ve_var 0) ve_int (fun _ _ => rfl)) va_nil)))))))))
    (vss_cons (vs_ret ve_non)
    vss_nil)
    vss_nil)
    (vss_cons (vs_set 3 sc_border_of.nd (ve_cal (ok_quotient T) (fun _ => hr) (fun _ => (takes_of rfl rfl rfl rfl)) (va_cons (ve_cal (ok_times_of T) (fun _ => hr) (fun _ => (takes_of rfl rfl rfl rfl)) (va_cons (ve_cal (ok_sum_of T) (fun _ => hr) (fun _ => (takes_of rfl rfl rfl rfl)) (va_cons (ve_tup (va_cons (ve_ix (fun _ => hu_of hr) (ve_var 0) ve_int (fun _ _ => rfl)) (va_cons ve_int va_nil))) (va_cons (ve_ix (fun _ => hu_of hr) (ve_var 0) ve_int (fun _ _ => rfl)) va_nil))) (va_cons (ve_var 1) va_nil))) (va_cons (ve_var 2) va_nil))))
    (vss_cons (vs_if (vt_w (vw_or (vt_cmp (fun _ => od_ne hr.units) (ve_ix (fun _ => hu_of hr) (ve_var 3) ve_int (fun _ _ => rfl)) ve_int (nomark _)) (vw_or1 (vt_not (vt_val (ve_cal (ok_is_what T) (fun _ => hr) (fun _ => (takes_of rfl rfl rfl rfl)) (va_cons (ve_ix (fun _ => hu_of hr) (ve_var 0) ve_int (fun _ _ => rfl)) va_nil)))))))
    (vss_cons (vs_ret ve_non)
    vss_nil)
    vss_nil)
    (vss_cons (vs_ret (ve_ix (fun _ => hu_of hr) (ve_var 3) ve_int (fun _ _ => rfl)))
    vss_nil)))) : VSs _ _ _ _ b_border_of)
theorem sc_follows : FnScope ["word", "last"] ["word", "last"] (defScope (topS 28)) := ⟨rfl, rfl, rfl, by decide +kernel, rfl, by decide +kernel, by decide +kernel⟩
theorem ok_follows (T : Top K w mg) : Ok1 P w K mg "follows" ["word", "last"] 1 (spV K mg fn_follows) :=
  Def1.V T.d_follows sc_follows (by decide) fun base f cdv A outer s H E hr => ((vss_cons (vs_if (vt_w (vw_or (vt_cmp (fun _ => od_eq hr.units) (ve_var 1) ve_str (nomark _)) (vw_or1 (vt_w (vw_and (vt_cmp (fun _ => od_eq hr.units) (ve_var 1) ve_str (nomark _)) (vw_and1 (vt_cmp (fun _ => od_ne hr.units) (ve_var 0) ve_str (nomark _))))))))
    (vss_cons (vs_ret ve_bl)
    vss_nil)
    vss_nil)
    (vss_cons (vs_if (vt_cmp (fun _ => od_eq hr.units) (ve_var 0) ve_str (nomark _))
    (vss_cons (vs_ret (ve_cmp (fun _ => od_eq hr.units) (ve_var 1) ve_str (nomark _)))
    vss_nil)
    vss_nil)
    (vss_cons (vs_ret (ve_or (ve_and (ve_cmp (fun _ => od_ne hr.units) (ve_var 0) ve_str (nomark _)) (ve_one (ve_cmp (fun _ => od_ne hr.units) (ve_var 0) ve_str (nomark _)))) (ve_one (ve_cmp (fun _ => od_ne hr.units) (ve_var 1) ve_str (nomark _)))))
    vss_nil))) : VSs _ _ _ _ b_follows)
theorem sc_stands : FnScope ["border", "last", "word"] ["border", "last", "word"] (defScope (topS 31)) := ⟨rfl, rfl, rfl, by decide +kernel, rfl, by decide +kernel, by decide +kernel⟩
theorem ok_stands (T : Top K w mg) : Ok1 P w K mg "stands" ["border", "last", "word"] 1 (spV K mg fn_stands) :=
  Def1.V T.d_stands sc_stands (by decide) fun base f cdv A outer s H E hr => ((vss_cons (vs_if (vt_cmp (fun _ => od_eq hr.units) (ve_var 2) ve_str (nomark _))
    (vss_cons (vs_ret (ve_cmp (fun _ => od_eq hr.units) (ve_var 0) ve_int (nomark _)))
    vss_nil)
    vss_nil)
    (vss_cons (vs_if (vt_cmp (fun _ => od_eq hr.units) (ve_var 2) ve_str (nomark _))
    (vss_cons (vs_ret (ve_cmp (fun _ => od_eq hr.units) (ve_var 0) (ve_var 1) (nomark _)))
    vss_nil)
    vss_nil)
    (vss_cons (vs_ret (ve_cmp (fun _ => od_gt) (ve_var 0) (ve_var 1) (nomark _)))
    vss_nil))) : VSs _ _ _ _ b_stands)
theorem sc_borders_read : FnScope ["rows", "rate", "other", "borders", "word", "at", "row", "border"] ["rows", "rate", "other"] (defScope (topS 32)) := ⟨rfl, rfl, rfl, by decide +kernel, rfl, by decide +kernel, by decide +kernel⟩
theorem ok_borders_read (T : Top K w mg) : Ok1 P w K mg "borders_read" ["rows", "rate", "other"] 5 (spF K mg fn_borders_read) :=
  Def1.F T.d_borders_read sc_borders_read (by decide) fun base f cdv A outer s H E hr => ((vss_cons (vs_setF 3 sc_borders_read.nd (vf_lst va_nil))
    (vss_cons (vs_set 4 sc_borders_read.nd ve_str)
    (vss_cons (vs_for (passes_of rfl) rfl (vi_enum (fun _ => T.z_enumerate) (va_cons (ve_var 0) va_nil)) (vg_tup (fun _ => rfl) (vgs_cons (vg_name 5 (fun _ => sc_borders_read.nd)) (vgs_cons (vg_name 6 (fun _ => sc_borders_read.nd)) vgs_nil)))
    (vss_cons (vs_set 7 sc_borders_read.nd (ve_cal (ok_border_of T) (fun _ => hr) (fun _ => (takes_of rfl rfl rfl rfl)) (va_cons (ve_var 6) (va_cons (ve_var 1) (va_cons (ve_var 2) va_nil)))))
    (vss_cons (vs_if (vt_w (vw_or (vt_cmp (fun _ => od_is) (ve_var 7) ve_non (nomark _)) (vw_or (vt_not (vt_val (ve_cal (ok_follows T) (fun _ => hr) (fun _ => (takes_of rfl rfl rfl rfl)) (va_cons (ve_ix (fun _ => hu_of hr) (ve_ix (fun _ => hu_of hr) (ve_var 6) ve_int (fun _ _ => rfl)) ve_int (fun _ _ => rfl)) (va_cons (ve_var 4) va_nil))))) (vw_or1 (vt_not (vt_bor (vt_val (ve_cal (ok_stands T) (fun _ => hr) (fun _ => (takes_of rfl rfl rfl rfl)) (va_cons (ve_var 7) (va_cons (ve_ix (fun _ => hu_of hr) (ve_bin (fun _ => od_add) (ve_of (vf_lst (va_cons ve_int va_nil))) (ve_var 3)) (ve_un (fun _ => ud_neg) ve_int) (fun _ _ => rfl)) (va_cons (ve_var 4) va_nil)))))))))))
    (vss_cons (vs_raiseI (j := 0) T.i_NoList ⟨rfl, rfl⟩ sci_NoList (psi_NoList T) (hr.mono (by decide)) (takes_of rfl rfl rfl rfl) rfl (ve_var 5))
    vss_nil)
    vss_nil)
    (vss_cons (vs_set 4 sc_borders_read.nd (ve_ix (fun _ => hu_of hr) (ve_ix (fun _ => hu_of hr) (ve_var 6) ve_int (fun _ _ => rfl)) ve_int (fun _ _ => rfl)))
    (vss_cons (vs_app 3 (ve_var 7))
    vss_nil)))))
    (vss_cons (vs_if (vt_cmp (fun _ => od_ne hr.units) (ve_var 4) ve_str (nomark _))
    (vss_cons (vs_raiseI (j := 0) T.i_NoList ⟨rfl, rfl⟩ sci_NoList (psi_NoList T) (hr.mono (by decide)) (takes_of rfl rfl rfl rfl) rfl (ve_bf (fun _ => cd_len (.inr trivial)) (fun _ => T.z_len) (by decide +kernel) (va_cons (ve_var 0) va_nil)))
    vss_nil)
    vss_nil)
    (vss_cons (vs_retF (vf_own 3))
    vss_nil))))) : VSs _ _ _ _ b_borders_read)
theorem sc_read_back : FnScope ["rows", "rate", "other", "borders", "track", "at", "what"] ["rows", "rate", "other"] (defScope (topS 33)) := ⟨rfl, rfl, rfl, by decide +kernel, rfl, by decide +kernel, by decide +kernel⟩
theorem ok_read_back (T : Top K w mg) : Ok1 P w K mg "read_back" ["rows", "rate", "other"] 6 (spF K mg fn_read_back) :=
  Def1.F T.d_read_back sc_read_back (by decide) fun base f cdv A outer s H E hr => ((vss_cons (vs_expr (ve_cal (ok_check_rates T) (fun _ => hr) (fun _ => (takes_of rfl rfl rfl rfl)) (va_cons (ve_var 1) (va_cons (ve_var 2) va_nil))))
    (vss_cons (vs_set 3 sc_read_back.nd (ve_of (vf_cal (ok_borders_read T) (fun _ => hr) (fun _ => (takes_of rfl rfl rfl rfl)) (va_cons (ve_var 0) (va_cons (ve_var 1) (va_cons (ve_var 2) va_nil))))))
    (vss_cons (vs_setF 4 sc_read_back.nd (vf_lst va_nil))
    (vss_cons (vs_for (passes_of rfl) rfl (vi_rng1 (fun _ => T.z_range) (va_cons (ve_bin (fun _ => od_sub) (ve_bf (fun _ => cd_len (.inr trivial)) (fun _ => T.z_len) (by decide +kernel) (va_cons (ve_var 0) va_nil)) ve_int) va_nil)) (vg_name 5 (fun _ => sc_read_back.nd))
    (vss_cons (vs_set 6 sc_read_back.nd (ve_ix (fun _ => hu_of hr) (ve_ix (fun _ => hu_of hr) (ve_var 0) (ve_var 5) (fun _ _ => rfl)) ve_int (fun _ _ => rfl)))
    (vss_cons (vs_if (vt_cmp (fun _ => od_eq hr.units) (ve_ix (fun _ => hu_of hr) (ve_var 6) ve_int (fun _ _ => rfl)) ve_str (nomark _))
    (vss_cons (vs_app 4 (ve_var 6))
    vss_nil)
    (vss_cons (vs_app 4 (ve_bin (fun _ => od_add) (ve_var 6) (ve_tup (va_cons (ve_bin (fun _ => od_sub) (ve_ix (fun _ => hu_of hr) (ve_var 3) (ve_bin (fun _ => od_add) (ve_var 5) ve_int) (fun _ _ => rfl)) (ve_ix (fun _ => hu_of hr) (ve_var 3) (ve_var 5) (fun _ _ => rfl))) va_nil))))
    vss_nil))
    vss_nil)))
    (vss_cons (vs_retF (vf_own 4))
    vss_nil))))) : VSs _ _ _ _ b_read_back)
theorem sc__law_told : FnScope ["_law_rows", "_law_rate_here", "_law_other", "_law_found", "e"] ["_law_rows", "_law_rate_here", "_law_other"] (defScope (topS 47)) := ⟨rfl, rfl, rfl, by decide +kernel, rfl, by decide +kernel, by decide +kernel⟩
theorem ok__law_told (T : Top K w mg) : Ok1 P w K mg "_law_told" ["_law_rows", "_law_rate_here", "_law_other"] 7 (spV K mg fn__law_told) :=
  Def1.V T.d__law_told sc__law_told (by decide) fun base f cdv A outer s H E hr => ((vss_cons (vs_set 3 sc__law_told.nd (ve_tup (va_cons ve_non (va_cons ve_bl (va_cons ve_bl va_nil)))))
    (vss_cons (vs_tryM T.x rfl rfl sc__law_told.nd (takes_of rfl rfl rfl rfl) (fun Wx pn xe tk hp => (vss_cons (vs_expr (ve_of (vf_cal (ok_read_back T) (fun _ => hr) (fun _ => tk) (va_cons (ve_var 0) (va_cons (ve_var 1) (va_cons (ve_var 2) va_nil))))))
    vss_nil))
    (.one (by decide +kernel) (by rfl) (by decide) (fun x hc a oe C d pn hC hz hf => (vss_cons (vs_set 3 sc__law_told.nd (ve_tup (va_cons ve_str (va_cons ve_bl (va_cons ve_bl va_nil)))))
    vss_nil))
      (.as (i := 4) (by decide +kernel) (by rfl) (by rfl) (by rfl) (by decide) (fun x hc a oe C d pn hC hz hf => (vss_cons (vs_set 3 sc__law_told.nd (ve_tup (va_cons (ve_xf T.x T.n_at hc hC hz hf 4) (va_cons (ve_isX T.x hc hC hz hf 4 T.z_isinstance) (va_cons (ve_isX T.x hc hC hz hf 4 T.z_isinstance) va_nil)))))
    vss_nil))
      .nil)))
    (vss_cons (vs_ret (ve_var 3))
    vss_nil))) : VSs _ _ _ _ b__law_told)
theorem sc__law_part : FnScope ["_law_x", "_law_cell", "_law_step", "_law_start", "_law_length"] ["_law_x", "_law_cell"] (defScope (topS 37)) := ⟨rfl, rfl, rfl, by decide +kernel, rfl, by decide +kernel, by decide +kernel⟩
theorem ok__law_part (T : Top K w mg) : Ok1 P w K mg "_law_part" ["_law_x", "_law_cell"] 1 (spV K mg fn__law_part) :=
  Def1.V T.d__law_part sc__law_part (by decide) fun base f cdv A outer s H E hr => ((vss_cons (vs_set 2 sc__law_part.nd (ve_ix (fun _ => hu_of hr) (ve_of (vf_lst (va_cons (ve_tup (va_cons ve_int (va_cons ve_int va_nil))) (va_cons (ve_tup (va_cons ve_int (va_cons ve_int va_nil))) (va_cons (ve_tup (va_cons (ve_un (fun _ => ud_neg) ve_int) (va_cons ve_int va_nil))) (va_cons (ve_tup (va_cons ve_int (va_cons ve_int va_nil))) (va_cons (ve_tup (va_cons ve_int (va_cons ve_int va_nil))) (va_cons (ve_tup (va_cons (ve_un (fun _ => ud_neg) ve_int) (va_cons ve_int va_nil))) va_nil)))))))) (ve_bin (fun _ => od_mod) (ve_bin (fun _ => od_fdiv) (ve_var 0) ve_int) ve_int) (fun _ _ => rfl)))
    (vss_cons (vs_set 3 sc__law_part.nd (ve_ix (fun _ => hu_of hr) (ve_of (vf_lst (va_cons (ve_tup (va_cons ve_int (va_cons ve_int va_nil))) (va_cons (ve_tup (va_cons (ve_bin (fun _ => od_mod) (ve_bin (fun _ => od_fdiv) (ve_var 0) ve_int) ve_int) (va_cons ve_int va_nil))) (va_cons (ve_tup (va_cons (ve_bin (fun _ => od_add) ve_int (ve_bin (fun _ => od_mul) ve_int (ve_bin (fun _ => od_mod) (ve_bin (fun _ => od_fdiv) (ve_var 0) ve_int) ve_int))) (va_cons ve_int va_nil))) (va_cons (ve_tup (va_cons (ve_un (fun _ => ud_neg) ve_int) (va_cons ve_int va_nil))) va_nil)))))) (ve_bin (fun _ => od_mod) (ve_bin (fun _ => od_fdiv) (ve_var 0) ve_int) ve_int) (fun _ _ => rfl)))
    (vss_cons (vs_set 4 sc__law_part.nd (ve_ix (fun _ => hu_of hr) (ve_of (vf_lst (va_cons (ve_bin (fun _ => od_add) ve_int (ve_bin (fun _ => od_mod) (ve_bin (fun _ => od_fdiv) (ve_var 0) ve_int) ve_int)) (va_cons (ve_bin (fun _ => od_add) ve_int (ve_bin (fun _ => od_mod) (ve_bin (fun _ => od_fdiv) (ve_var 0) ve_int) ve_int)) (va_cons (ve_bin (fun _ => od_add) ve_int (ve_bin (fun _ => od_mod) (ve_var 0) ve_int)) (va_cons (ve_bin (fun _ => od_add) ve_int (ve_bin (fun _ => od_mod) (ve_bin (fun _ => od_add) (ve_bin (fun _ => od_mul) (ve_var 1) ve_int) (ve_var 0)) (ve_bin (fun _ => od_pow) ve_int ve_int))) va_nil)))))) (ve_bin (fun _ => od_mod) (ve_bin (fun _ => od_fdiv) (ve_var 0) ve_int) ve_int) (fun _ _ => rfl)))
    (vss_cons (vs_if (vt_cmp (fun _ => od_eq hr.units) (ve_bin (fun _ => od_mod) (ve_var 0) ve_int) ve_int (nomark _))
    (vss_cons (vs_ret (ve_tup (va_cons ve_str (va_cons (ve_var 4) va_nil))))
    vss_nil)
    vss_nil)
    (vss_cons (vs_if (vt_cmp (fun _ => od_eq hr.units) (ve_bin (fun _ => od_mod) (ve_var 0) ve_int) ve_int (nomark _))
    (vss_cons (vs_ret (ve_tup (va_cons ve_str (va_cons (ve_ix (fun _ => hu_of hr) (ve_of (vf_lst (va_cons ve_str (va_cons ve_str (va_cons ve_str va_nil))))) (ve_bin (fun _ => od_mod) (ve_bin (fun _ => od_fdiv) (ve_var 0) ve_int) ve_int) (fun _ _ => rfl)) (va_cons (ve_bin (fun _ => od_mod) (ve_bin (fun _ => od_fdiv) (ve_var 0) ve_int) ve_int) (va_cons (ve_var 4) va_nil))))))
    vss_nil)
    vss_nil)
    (vss_cons (vs_ret (ve_tup (va_cons ve_str (va_cons (ve_ix (fun _ => hu_of hr) (ve_of (vf_lst (va_cons ve_str (va_cons ve_str (va_cons ve_str va_nil))))) (ve_bin (fun _ => od_mod) (ve_bin (fun _ => od_fdiv) (ve_var 0) ve_int) ve_int) (fun _ _ => rfl)) (va_cons (ve_var 3) (va_cons (ve_var 2) (va_cons (ve_var 4) va_nil)))))))
    vss_nil)))))) : VSs _ _ _ _ b__law_part)
theorem sc__law_track : FnScope ["_law_cells", "_law_track_here", "_law_k", "_law_x", "_law_item"] ["_law_cells"] (defScope (topS 38)) := ⟨rfl, rfl, rfl, by decide +kernel, rfl, by decide +kernel, by decide +kernel⟩
theorem ok__law_track (T : Top K w mg) : Ok1 P w K mg "_law_track" ["_law_cells"] 2 (spF K mg fn__law_track) :=
  Def1.F T.d__law_track sc__law_track (by decide) fun base f cdv A outer s H E hr => ((vss_cons (vs_setF 1 sc__law_track.nd (vf_lst va_nil))
    (vss_cons (vs_for (passes_of rfl) rfl (vi_rng1 (fun _ => T.z_range) (va_cons (ve_bf (fun _ => cd_len (.inr trivial)) (fun _ => T.z_len) (by decide +kernel) (va_cons (ve_var 0) va_nil)) va_nil)) (vg_name 2 (fun _ => sc__law_track.nd))
    (vss_cons (vs_set 3 sc__law_track.nd (ve_ix (fun _ => hu_of hr) (ve_of (vf_cal (ok__law_drawn T) (fun _ => hr) (fun _ => (takes_of rfl rfl rfl rfl)) (va_cons (ve_bin (fun _ => od_add) (ve_ix (fun _ => hu_of hr) (ve_var 0) (ve_var 2) (fun _ _ => rfl)) (ve_bin (fun _ => od_mul) ve_int (ve_var 2))) (va_cons ve_int va_nil)))) ve_int (fun _ _ => rfl)))
    (vss_cons (vs_set 4 sc__law_track.nd (ve_cal (ok__law_part T) (fun _ => hr) (fun _ => (takes_of rfl rfl rfl rfl)) (va_cons (ve_var 3) (va_cons (ve_ix (fun _ => hu_of hr) (ve_var 0) (ve_var 2) (fun _ _ => rfl)) va_nil))))
    (vss_cons (vs_if (vt_w (vw_and (vt_cmp (fun _ => od_eq hr.units) (ve_ix (fun _ => hu_of hr) (ve_var 4) ve_int (fun _ _ => rfl)) ve_str (nomark _)) (vw_and (vt_bor (vt_cmp (fun _ => od_ne hr.units) (ve_var 1) (ve_of (vf_lst va_nil)) (nomark _))) (vw_and (vt_bor (vt_cmp (fun _ => od_eq hr.units) (ve_ix (fun _ => hu_of hr) (ve_ix (fun _ => hu_of hr) (ve_var 1) (ve_un (fun _ => ud_neg) ve_int) (fun _ _ => rfl)) ve_int (fun _ _ => rfl)) ve_str (nomark _))) (vw_and1 (vt_cmp (fun _ => od_lt) (ve_bin (fun _ => od_mod) (ve_var 3) ve_int) ve_int (nomark _)))))))
    (vss_cons (vs_app 1 (ve_tup (va_cons ve_str (va_cons (ve_bin (fun _ => od_add) ve_int (ve_bin (fun _ => od_mod) (ve_bin (fun _ => od_fdiv) (ve_var 3) ve_int) ve_int)) va_nil))))
    vss_nil)
    vss_nil)
    (vss_cons (vs_if (vt_w (vw_or (vt_cmp (fun _ => od_ne hr.units) (ve_ix (fun _ => hu_of hr) (ve_var 4) ve_int (fun _ _ => rfl)) ve_str (nomark _)) (vw_or (vt_bor (vt_cmp (fun _ => od_eq hr.units) (ve_var 1) (ve_of (vf_lst va_nil)) (nomark _))) (vw_or1 (vt_bor (vt_cmp (fun _ => od_ne hr.units) (ve_ix (fun _ => hu_of hr) (ve_ix (fun _ => hu_of hr) (ve_var 1) (ve_un (fun _ => ud_neg) ve_int) (fun _ _ => rfl)) ve_int (fun _ _ => rfl)) ve_str (nomark _)))))))
    (vss_cons (vs_app 1 (ve_var 4))
    vss_nil)
    vss_nil)
    vss_nil)))))
    (vss_cons (vs_if (vt_w (vw_and (vt_bor (vt_cmp (fun _ => od_ne hr.units) (ve_var 1) (ve_of (vf_lst va_nil)) (nomark _))) (vw_and1 (vt_bor (vt_cmp (fun _ => od_eq hr.units) (ve_ix (fun _ => hu_of hr) (ve_ix (fun _ => hu_of hr) (ve_var 1) (ve_un (fun _ => ud_neg) ve_int) (fun _ _ => rfl)) ve_int (fun _ _ => rfl)) ve_str (nomark _))))))
    (vss_cons (vs_expr (ve_pop 1))
    vss_nil)
    vss_nil)
    (vss_cons (vs_retF (vf_own 1))
    vss_nil)))) : VSs _ _ _ _ b__law_track)
theorem sc__law_spoiled : FnScope ["_law_row", "_law_x", "_law_whole", "_law_rest", "_law_what", "_law_some", "_law_far"] ["_law_row", "_law_x"] (defScope (topS 40)) := ⟨rfl, rfl, rfl, by decide +kernel, rfl, by decide +kernel, by decide +kernel⟩
theorem ok__law_spoiled (T : Top K w mg) : Ok1 P w K mg "_law_spoiled" ["_law_row", "_law_x"] 1 (spV K mg fn__law_spoiled) :=
  Def1.V T.d__law_spoiled sc__law_spoiled (by decide) fun base f cdv A outer s H E hr => ((vss_cons (vs_asg (ve_var 0) (vg_tup (fun _ => rfl) (vgs_cons (vg_name 2 (fun _ => sc__law_spoiled.nd)) (vgs_cons (vg_name 3 (fun _ => sc__law_spoiled.nd)) (vgs_cons (vg_name 4 (fun _ => sc__law_spoiled.nd)) vgs_nil)))))
    (vss_cons (vs_setF 5 sc__law_spoiled.nd (vf_lst (va_cons ve_non (va_cons (ve_of (vf_lst (va_cons (ve_var 2) (va_cons (ve_var 3) (va_cons (ve_var 4) va_nil))))) (va_cons (ve_tup (va_cons (ve_var 2) (va_cons (ve_var 3) va_nil))) (va_cons (ve_tup (va_cons (ve_var 2) (va_cons (ve_var 3) (va_cons (ve_var 4) (va_cons ve_int va_nil))))) (va_cons (ve_tup (va_cons ve_bl (va_cons (ve_var 3) (va_cons (ve_var 4) va_nil)))) va_nil)))))))
    (vss_cons (vs_app 5 (ve_tup (va_cons (ve_var 2) (va_cons (ve_tup (va_cons ve_int (va_cons ve_int va_nil))) (va_cons (ve_var 4) va_nil)))))
    (vss_cons (vs_set 6 sc__law_spoiled.nd (ve_bin (fun _ => od_add) ve_int (ve_bin (fun _ => od_mod) (ve_bin (fun _ => od_fdiv) (ve_var 1) ve_int) ve_int)))
    (vss_cons (vs_setF 5 sc__law_spoiled.nd (vf_cat (ve_var 5) (ve_of (vf_lst (va_cons (ve_tup (va_cons (ve_var 2) (va_cons (ve_tup (va_cons ve_int (va_cons ve_int va_nil))) (va_cons (ve_var 4) va_nil)))) (va_cons (ve_tup (va_cons (ve_bin (fun _ => od_add) (ve_var 2) (ve_var 6)) (va_cons (ve_var 3) (va_cons (ve_var 4) va_nil)))) (va_cons (ve_tup (va_cons (ve_bin (fun _ => od_sub) (ve_var 2) (ve_var 6)) (va_cons (ve_var 3) (va_cons (ve_var 4) va_nil)))) va_nil)))))))
    (vss_cons (vs_setF 5 sc__law_spoiled.nd (vf_cat (ve_var 5) (ve_of (vf_lst (va_cons (ve_tup (va_cons (ve_var 2) (va_cons (ve_var 3) (va_cons (ve_tup (va_cons ve_str va_nil)) va_nil)))) (va_cons (ve_tup (va_cons (ve_var 2) (va_cons (ve_var 3) (va_cons (ve_tup (va_cons ve_str va_nil)) va_nil)))) (va_cons (ve_tup (va_cons (ve_var 2) (va_cons (ve_var 3) (va_cons (ve_tup (va_cons ve_str (va_cons ve_int va_nil))) va_nil)))) va_nil)))))))
    (vss_cons (vs_app 5 (ve_tup (va_cons (ve_var 2) (va_cons (ve_var 3) (va_cons (ve_tup (va_cons ve_str (va_cons ve_int va_nil))) va_nil)))))
    (vss_cons (vs_setF 5 sc__law_spoiled.nd (vf_cat (ve_var 5) (ve_of (vf_lst (va_cons (ve_tup (va_cons (ve_var 2) (va_cons (ve_var 3) (va_cons (ve_tup (va_cons ve_str (va_cons ve_str (va_cons (ve_tup (va_cons ve_int (va_cons ve_int va_nil))) va_nil)))) va_nil)))) (va_cons (ve_tup (va_cons (ve_var 2) (va_cons (ve_var 3) (va_cons (ve_tup (va_cons ve_str (va_cons ve_str (va_cons (ve_un (fun _ => ud_neg) ve_int) va_nil)))) va_nil)))) (va_cons (ve_tup (va_cons (ve_var 2) (va_cons (ve_var 3) (va_cons (ve_of (vf_lst (va_cons ve_str va_nil))) va_nil)))) va_nil)))))))
    (vss_cons (vs_setF 5 sc__law_spoiled.nd (vf_cat (ve_var 5) (ve_of (vf_lst (va_cons (ve_tup (va_cons (ve_bin (fun _ => od_sub) (ve_var 2) ve_int) (va_cons (ve_tup (va_cons (ve_bin (fun _ => od_add) (ve_ix (fun _ => hu_of hr) (ve_var 3) ve_int (fun _ _ => rfl)) (ve_ix (fun _ => hu_of hr) (ve_var 3) ve_int (fun _ _ => rfl))) (va_cons (ve_ix (fun _ => hu_of hr) (ve_var 3) ve_int (fun _ _ => rfl)) va_nil))) (va_cons (ve_var 4) va_nil)))) (va_cons (ve_tup (va_cons (ve_bin (fun _ => od_add) (ve_var 2) ve_int) (va_cons (ve_tup (va_cons (ve_bin (fun _ => od_sub) (ve_ix (fun _ => hu_of hr) (ve_var 3) ve_int (fun _ _ => rfl)) (ve_ix (fun _ => hu_of hr) (ve_var 3) ve_int (fun _ _ => rfl))) (va_cons (ve_ix (fun _ => hu_of hr) (ve_var 3) ve_int (fun _ _ => rfl)) va_nil))) (va_cons (ve_var 4) va_nil)))) va_nil))))))
    (vss_cons (vs_ret (ve_ix (fun _ => hu_of hr) (ve_bin (fun _ => od_add) (ve_var 5) (ve_of (vf_lst (va_cons (ve_tup (va_cons (ve_var 2) (va_cons (ve_var 3) (va_cons (ve_tup (va_cons ve_str (va_cons ve_str (va_cons (ve_tup (va_cons ve_int (va_cons ve_int va_nil))) (va_cons (ve_tup (va_cons ve_int (va_cons ve_int va_nil))) va_nil))))) va_nil)))) va_nil)))) (ve_bin (fun _ => od_mod) (ve_var 1) ve_int) (fun _ _ => rfl)))
    vss_nil)))))))))) : VSs _ _ _ _ b__law_spoiled)
theorem sc__law_changed : FnScope ["_law_rows", "_law_x", "_law_y", "_law_at"] ["_law_rows", "_law_x", "_law_y"] (defScope (topS 41)) := ⟨rfl, rfl, rfl, by decide +kernel, rfl, by decide +kernel, by decide +kernel⟩
theorem ok__law_changed (T : Top K w mg) : Ok1 P w K mg "_law_changed" ["_law_rows", "_law_x", "_law_y"] 2 (spV K mg fn__law_changed) :=
  Def1.V T.d__law_changed sc__law_changed (by decide) fun base f cdv A outer s H E hr => ((vss_cons (vs_set 3 sc__law_changed.nd (ve_bin (fun _ => od_mod) (ve_var 2) (ve_bf (fun _ => cd_len (.inr trivial)) (fun _ => T.z_len) (by decide +kernel) (va_cons (ve_var 0) va_nil))))
    (vss_cons (vs_if (vt_cmp (fun _ => od_eq hr.units) (ve_bin (fun _ => od_mod) (ve_var 1) ve_int) ve_int (nomark _))
    (vss_cons (vs_ret (ve_bin (fun _ => od_add) (ve_slT (ve_var 0) vp_none (vp_some (ve_var 3))) (ve_slT (ve_var 0) (vp_some (ve_bin (fun _ => od_add) (ve_var 3) ve_int)) vp_none)))
    vss_nil)
    vss_nil)
    (vss_cons (vs_if (vt_cmp (fun _ => od_eq hr.units) (ve_bin (fun _ => od_mod) (ve_var 1) ve_int) ve_int (nomark _))
    (vss_cons (vs_ret (ve_bin (fun _ => od_add) (ve_bin (fun _ => od_add) (ve_slT (ve_var 0) vp_none (vp_some (ve_var 3))) (ve_of (vf_lst (va_cons (ve_ix (fun _ => hu_of hr) (ve_var 0) (ve_bin (fun _ => od_mod) (ve_bin (fun _ => od_fdiv) (ve_var 2) ve_int) (ve_bf (fun _ => cd_len (.inr trivial)) (fun _ => T.z_len) (by decide +kernel) (va_cons (ve_var 0) va_nil))) (fun _ _ => rfl)) va_nil)))) (ve_slT (ve_var 0) (vp_some (ve_var 3)) vp_none)))
    vss_nil)
    vss_nil)
    (vss_cons (vs_ret (ve_bin (fun _ => od_add) (ve_bin (fun _ => od_add) (ve_slT (ve_var 0) vp_none (vp_some (ve_var 3))) (ve_of (vf_lst (va_cons (ve_cal (ok__law_spoiled T) (fun _ => hr) (fun _ => (takes_of rfl rfl rfl rfl)) (va_cons (ve_ix (fun _ => hu_of hr) (ve_var 0) (ve_var 3) (fun _ _ => rfl)) (va_cons (ve_bin (fun _ => od_fdiv) (ve_var 1) ve_int) va_nil))) va_nil)))) (ve_slT (ve_var 0) (vp_some (ve_bin (fun _ => od_add) (ve_var 3) ve_int)) vp_none)))
    vss_nil)))) : VSs _ _ _ _ b__law_changed)
theorem sc_law : FnScope ["_law_script", "_law_cell", "_law_xs", "_law_rate_here", "_law_other", "_law_good", "_law_rows", "_law_third", "_law_due", "_law_found", "_law_rates"] ["_law_script"] (defScope (topS 48)) := ⟨rfl, rfl, rfl, by decide +kernel, rfl, by decide +kernel, by decide +kernel⟩
theorem ok_law (T : Top K w mg) : Ok1 P w K mg "law" ["_law_script"] 8 (spV K mg fn_law) :=
  Def1.V T.d_law sc_law (by decide) fun base f cdv A outer s H E hr => ((vss_cons (vs_set 1 sc_law.nd (ve_cal (ok__law_cell_at T) (fun _ => hr) (fun _ => (takes_of rfl rfl rfl rfl)) (va_cons (ve_var 0) (va_cons ve_int va_nil))))
    (vss_cons (vs_set 2 sc_law.nd (ve_of (vf_cal (ok__law_drawn T) (fun _ => hr) (fun _ => (takes_of rfl rfl rfl rfl)) (va_cons (ve_bin (fun _ => od_add) (ve_cal (ok__law_cell_at T) (fun _ => hr) (fun _ => (takes_of rfl rfl rfl rfl)) (va_cons (ve_var 0) (va_cons ve_int va_nil))) (ve_bin (fun _ => od_mul) ve_int (ve_var 1))) (va_cons ve_int va_nil)))))
    (vss_cons (vs_set 3 sc_law.nd (ve_cal (ok__law_rate T) (fun _ => hr) (fun _ => (takes_of rfl rfl rfl rfl)) (va_cons (ve_ix (fun _ => hu_of hr) (ve_of (vf_cal (ok__law_drawn T) (fun _ => hr) (fun _ => (takes_of rfl rfl rfl rfl)) (va_cons (ve_var 1) (va_cons ve_int va_nil)))) ve_int (fun _ _ => rfl)) va_nil)))
    (vss_cons (vs_set 4 sc_law.nd (ve_ix (fun _ => hu_of hr) (ve_of (vf_lst (va_cons (ve_var 3) (va_cons (ve_cal (ok__law_rate T) (fun _ => hr) (fun _ => (takes_of rfl rfl rfl rfl)) (va_cons (ve_ix (fun _ => hu_of hr) (ve_var 2) ve_int (fun _ _ => rfl)) va_nil)) va_nil)))) (ve_bin (fun _ => od_mod) (ve_ix (fun _ => hu_of hr) (ve_var 2) ve_int (fun _ _ => rfl)) ve_int) (fun _ _ => rfl)))
    (vss_cons (vs_set 5 sc_law.nd (ve_of (vf_cal (ok_written T) (fun _ => hr) (fun _ => (takes_of rfl rfl rfl rfl)) (va_cons (ve_of (vf_cal (ok__law_track T) (fun _ => hr) (fun _ => (takes_of rfl rfl rfl rfl)) (va_cons (ve_slT (ve_var 0) (vp_some ve_int) (vp_some ve_int)) va_nil))) (va_cons (ve_var 3) (va_cons (ve_var 4) va_nil))))))
    (vss_cons (vs_set 6 sc_law.nd (ve_var 5))
    (vss_cons (vs_if (vt_cmp (fun _ => od_gt) (ve_bin (fun _ => od_mod) (ve_ix (fun _ => hu_of hr) (ve_var 2) ve_int (fun _ _ => rfl)) ve_int) ve_int (nomark _))
    (vss_cons (vs_set 6 sc_law.nd (ve_cal (ok__law_changed T) (fun _ => hr) (fun _ => (takes_of rfl rfl rfl rfl)) (va_cons (ve_var 5) (va_cons (ve_ix (fun _ => hu_of hr) (ve_var 2) ve_int (fun _ _ => rfl)) (va_cons (ve_ix (fun _ => hu_of hr) (ve_var 2) ve_int (fun _ _ => rfl)) va_nil)))))
    vss_nil)
    vss_nil)
    (vss_cons (vs_set 7 sc_law.nd (ve_ix (fun _ => hu_of hr) (ve_of (vf_lst (va_cons (ve_var 4) (va_cons (ve_var 4) (va_cons (ve_cal (ok__law_rate T) (fun _ => hr) (fun _ => (takes_of rfl rfl rfl rfl)) (va_cons (ve_ix (fun _ => hu_of hr) (ve_var 2) ve_int (fun _ _ => rfl)) va_nil)) va_nil))))) (ve_bin (fun _ => od_mod) (ve_ix (fun _ => hu_of hr) (ve_var 2) ve_int (fun _ _ => rfl)) ve_int) (fun _ _ => rfl)))
    (vss_cons (vs_set 8 sc_law.nd (ve_cal (ok__law_first_wrong T) (fun _ => hr) (fun _ => (takes_of rfl rfl rfl rfl)) (va_cons (ve_var 6) (va_cons (ve_var 3) (va_cons (ve_var 7) va_nil)))))
    (vss_cons (vs_set 9 sc_law.nd (ve_cal (ok__law_told T) (fun _ => hr) (fun _ => (takes_of rfl rfl rfl rfl)) (va_cons (ve_of (vf_ty (fun _ => cd_list) (fun _ => T.z_list) (by decide +kernel) (va_cons (ve_var 6) va_nil))) (va_cons (ve_var 3) (va_cons (ve_var 7) va_nil)))))
    (vss_cons (vs_if (vt_cmp (fun _ => od_is) (ve_var 8) ve_non (nomark _))
    (vss_cons (vs_ret (ve_cmp (fun _ => od_eq hr.units) (ve_var 9) (ve_tup (va_cons ve_non (va_cons ve_bl (va_cons ve_bl va_nil)))) (nomark _)))
    vss_nil)
    vss_nil)
    (vss_cons (vs_if (vt_w (vw_or (vt_cmp (fun _ => od_ne hr.units) (ve_var 9) (ve_tup (va_cons (ve_var 8) (va_cons ve_bl (va_cons ve_bl va_nil)))) (nomark _)) (vw_or1 (vt_val (ve_isi kit_bool (fun _ => T.z_isinstance) (fun _ => T.z_bool) (by decide +kernel) (by decide +kernel) (ve_ix (fun _ => hu_of hr) (ve_var 9) ve_int (fun _ _ => rfl)))))))
    (vss_cons (vs_ret ve_bl)
    vss_nil)
    vss_nil)
    (vss_cons (vs_for (passes_of rfl) rfl (vi_seq (ve_of (vf_lst (va_cons (ve_tup (va_cons (ve_tup (va_cons ve_int (va_cons ve_int va_nil))) (va_cons (ve_var 3) va_nil))) (va_cons (ve_tup (va_cons (ve_var 3) (va_cons ve_int va_nil))) va_nil))))) (vg_name 10 (fun _ => sc_law.nd))
    (vss_cons (vs_if (vt_cmp (fun _ => od_ne hr.units) (ve_cal (ok__law_told T) (fun _ => hr) (fun _ => (takes_of rfl rfl rfl rfl)) (va_cons (ve_var 6) (va_cons (ve_ix (fun _ => hu_of hr) (ve_var 10) ve_int (fun _ _ => rfl)) (va_cons (ve_ix (fun _ => hu_of hr) (ve_var 10) ve_int (fun _ _ => rfl)) va_nil)))) (ve_tup (va_cons ve_str (va_cons ve_bl (va_cons ve_bl va_nil)))) (nomark _))
    (vss_cons (vs_ret ve_bl)
    vss_nil)
    vss_nil)
    vss_nil))
    (vss_cons (vs_ret (ve_cmp (fun _ => od_eq hr.units) (ve_cal (ok__law_told T) (fun _ => hr) (fun _ => (takes_of rfl rfl rfl rfl)) (va_cons (ve_var 5) (va_cons (ve_var 3) (va_cons (ve_var 4) va_nil)))) (ve_tup (va_cons ve_non (va_cons ve_bl (va_cons ve_bl va_nil)))) (nomark _)))
    vss_nil)))))))))))))) : VSs _ _ _ _ b_law)
end
/-! the head -/
def dd_is_whole : He.DefD := defD "is_whole" (topS 6)
def dd_shared_by : He.DefD := defD "shared_by" (topS 7)
def dd_fraction : He.DefD := defD "fraction" (topS 8)
def dd_is_fraction : He.DefD := defD "is_fraction" (topS 9)
def dd_sum_of : He.DefD := defD "sum_of" (topS 10)
def dd_times_of : He.DefD := defD "times_of" (topS 11)
def dd_quotient : He.DefD := defD "quotient" (topS 12)
def dd_floor_of : He.DefD := defD "floor_of" (topS 13)
def dd_rest_of : He.DefD := defD "rest_of" (topS 14)
def dd_is_name : He.DefD := defD "is_name" (topS 18)
def dd_room_of : He.DefD := defD "room_of" (topS 20)
def dd_check_rates : He.DefD := defD "check_rates" (topS 23)
def dd_without_length : He.DefD := defD "without_length" (topS 24)
def dd_row_at : He.DefD := defD "row_at" (topS 25)
def dd_written : He.DefD := defD "written" (topS 26)
def dd_is_what : He.DefD := defD "is_what" (topS 27)
def dd_follows : He.DefD := defD "follows" (topS 28)
def dd_is_rest : He.DefD := defD "is_rest" (topS 29)
def dd_border_of : He.DefD := defD "border_of" (topS 30)
def dd_stands : He.DefD := defD "stands" (topS 31)
def dd_borders_read : He.DefD := defD "borders_read" (topS 32)
def dd_read_back : He.DefD := defD "read_back" (topS 33)
def dd__law_cell_at : He.DefD := defD "_law_cell_at" (topS 35)
def dd__law_drawn : He.DefD := defD "_law_drawn" (topS 36)
def dd__law_part : He.DefD := defD "_law_part" (topS 37)
def dd__law_track : He.DefD := defD "_law_track" (topS 38)
def dd__law_rate : He.DefD := defD "_law_rate" (topS 39)
def dd__law_spoiled : He.DefD := defD "_law_spoiled" (topS 40)
def dd__law_changed : He.DefD := defD "_law_changed" (topS 41)
def dd__law_said : He.DefD := defD "_law_said" (topS 42)
def dd__law_lowest : He.DefD := defD "_law_lowest" (topS 43)
def dd__law_border : He.DefD := defD "_law_border" (topS 44)
def dd__law_stands : He.DefD := defD "_law_stands" (topS 45)
def dd__law_first_wrong : He.DefD := defD "_law_first_wrong" (topS 46)
def dd__law_told : He.DefD := defD "_law_told" (topS 47)
def dd_law : He.DefD := defD "law" (topS 48)
def ddi_NoList : He.DefD := ⟨("NoList", some "__init__"), "__init__", "NoList.__init__", defArgs (methS 4 0), defBody (methS 4 0), defScope (methS 4 0), [], []⟩
def dds : List He.DefD := [dd_is_whole, dd_shared_by, dd_fraction, dd_is_fraction, dd_sum_of, dd_times_of, dd_quotient, dd_floor_of, dd_rest_of, dd_is_name, dd_room_of, dd_check_rates, dd_without_length, dd_row_at, dd_written, dd_is_what, dd_follows, dd_is_rest, dd_border_of, dd_stands, dd_borders_read, dd_read_back, dd__law_cell_at, dd__law_drawn, dd__law_part, dd__law_track, dd__law_rate, dd__law_spoiled, dd__law_changed, dd__law_said, dd__law_lowest, dd__law_border, dd__law_stands, dd__law_first_wrong, dd__law_told, dd_law, ddi_NoList]
def fas : List He.Fa := [.glo "is_whole", .glo "shared_by", .glo "fraction", .glo "is_fraction", .glo "sum_of", .glo "times_of", .glo "quotient", .glo "floor_of", .glo "rest_of", .glo "is_name", .glo "room_of", .glo "check_rates", .glo "without_length", .glo "row_at", .glo "written", .glo "is_what", .glo "follows", .glo "is_rest", .glo "border_of", .glo "stands", .glo "borders_read", .glo "read_back", .glo "_law_cell_at", .glo "_law_drawn", .glo "_law_part", .glo "_law_track", .glo "_law_rate", .glo "_law_spoiled", .glo "_law_changed", .glo "_law_said", .glo "_law_lowest", .glo "_law_border", .glo "_law_stands", .glo "_law_first_wrong", .glo "_law_told", .glo "law", .free "abs", .free "bool", .free "enumerate", .free "int", .free "isinstance", .free "len", .free "list", .free "range", .free "str", .free "tuple", .glo "NoNumber", .exc "NoNumber"]
def loose0 : List Str := ["CutError", "NoNumber", "NoText", "NoList", "is_whole", "shared_by", "fraction", "is_fraction", "sum_of", "times_of", "quotient", "floor_of", "rest_of", "LETTERS", "MOST_LETTERS", "is_name", "room_of", "WIDTHS", "check_rates", "without_length", "row_at", "written", "is_what", "follows", "is_rest", "border_of", "stands", "borders_read", "read_back", "_law_cell_at"]
def loose1 : List Str := ["_law_drawn", "_law_part", "_law_track", "_law_rate", "_law_spoiled", "_law_changed", "_law_said", "_law_lowest", "_law_border", "_law_stands", "_law_first_wrong", "_law_told"]
abbrev looseN : List Str := loose0 ++ loose1
abbrev R0 : PySem.W.OpenRow := PySem.W.OpenLaw.row PySem.Challenge.rw_reelcut_k83_lists_refused
def tbs : List He.Tab := [(fun K => He.ga K "WIDTHS", ["clip", "nest", "gap", "mix", "end"])]
def fx0 : PySem.W.Frag → Bool := fun K => exOk names0 anc0 bi0 K && (oexOk K "NoList" "at" "CutError" && (noAtB names0 "at" K && ((He.Fa.str "LETTERS" "abcdefghijklmnopqrstuvwxyz").ok K && ((He.Fa.int "MOST_LETTERS" 8).ok K && (((He.Fa.glo "WIDTHS").ok K && He.valsB K (He.ga K "WIDTHS") [("clip", (.int 4)), ("nest", (.int 3)), ("gap", (.int 1)), ("mix", (.int 2)), ("end", (.int 1))]) && (true))))))
abbrev hk0 : PySem.W.Hook := hookY 5 fas dds tbs fx0
def ob0 (s : PySem.W.SharedT) : He.AlT × Bool := obY 5 fas dds tbs fx0 (HandSHeadRun.getT s)
theorem ob0_eq (s : PySem.W.SharedT) : ob0 s = hk0.obs s.abs := obY_eq (HandSHeadRun.getT_eq s)
theorem run0 (w : World) : HandSHeadRun.RunEq R0 (PySem.W.view R0.prog [48]) hk0 ob0 9000 looseN w := by
  have key : ∀ b, HandSHeadRun.RunEq R0 (PySem.W.view R0.prog [48]) hk0 ob0 9000 looseN (fixW w "special-get-raises" b) := by
    intro b os
    cases b <;> kernel_rfl
  have := key (w.params.followText "special-get-raises")
  rwa [fixW_eq] at this
theorem top_of {K : PySem.W.Frag} {w : World} {h : Heap} {mg : Str → Option Value} (X : K.In h) (G : h.Ns mainGlobals mg) (c : He.SaysT fas dds tbs w K) (d : fx0 K = true) : Top K w mg where
  d_is_whole := def1_of (c.d.def_ 0 (d := dd_is_whole) rfl) X G (c.d.fact 0 (f := .glo "is_whole") rfl) fun _ _ _ _ _ _ us hl => match us, hl with | [_], _ => rfl
  d_shared_by := def1_of (c.d.def_ 1 (d := dd_shared_by) rfl) X G (c.d.fact 1 (f := .glo "shared_by") rfl) fun _ _ _ _ _ _ us hl => match us, hl with | [_, _], _ => rfl
  d_fraction := def1_of (c.d.def_ 2 (d := dd_fraction) rfl) X G (c.d.fact 2 (f := .glo "fraction") rfl) fun _ _ _ _ _ _ us hl => match us, hl with | [_, _], _ => rfl
  d_is_fraction := def1_of (c.d.def_ 3 (d := dd_is_fraction) rfl) X G (c.d.fact 3 (f := .glo "is_fraction") rfl) fun _ _ _ _ _ _ us hl => match us, hl with | [_], _ => rfl
  d_sum_of := def1_of (c.d.def_ 4 (d := dd_sum_of) rfl) X G (c.d.fact 4 (f := .glo "sum_of") rfl) fun _ _ _ _ _ _ us hl => match us, hl with | [_, _], _ => rfl
  d_times_of := def1_of (c.d.def_ 5 (d := dd_times_of) rfl) X G (c.d.fact 5 (f := .glo "times_of") rfl) fun _ _ _ _ _ _ us hl => match us, hl with | [_, _], _ => rfl
  d_quotient := def1_of (c.d.def_ 6 (d := dd_quotient) rfl) X G (c.d.fact 6 (f := .glo "quotient") rfl) fun _ _ _ _ _ _ us hl => match us, hl with | [_, _], _ => rfl
  d_floor_of := def1_of (c.d.def_ 7 (d := dd_floor_of) rfl) X G (c.d.fact 7 (f := .glo "floor_of") rfl) fun _ _ _ _ _ _ us hl => match us, hl with | [_], _ => rfl
  d_rest_of := def1_of (c.d.def_ 8 (d := dd_rest_of) rfl) X G (c.d.fact 8 (f := .glo "rest_of") rfl) fun _ _ _ _ _ _ us hl => match us, hl with | [_], _ => rfl
  d_is_name := def1_of (c.d.def_ 9 (d := dd_is_name) rfl) X G (c.d.fact 9 (f := .glo "is_name") rfl) fun _ _ _ _ _ _ us hl => match us, hl with | [_], _ => rfl
  d_room_of := def1_of (c.d.def_ 10 (d := dd_room_of) rfl) X G (c.d.fact 10 (f := .glo "room_of") rfl) fun _ _ _ _ _ _ us hl => match us, hl with | [_], _ => rfl
  d_check_rates := def1_of (c.d.def_ 11 (d := dd_check_rates) rfl) X G (c.d.fact 11 (f := .glo "check_rates") rfl) fun _ _ _ _ _ _ us hl => match us, hl with | [_, _], _ => rfl
  d_without_length := def1_of (c.d.def_ 12 (d := dd_without_length) rfl) X G (c.d.fact 12 (f := .glo "without_length") rfl) fun _ _ _ _ _ _ us hl => match us, hl with | [_], _ => rfl
  d_row_at := def1_of (c.d.def_ 13 (d := dd_row_at) rfl) X G (c.d.fact 13 (f := .glo "row_at") rfl) fun _ _ _ _ _ _ us hl => match us, hl with | [_, _, _, _], _ => rfl
  d_written := def1_of (c.d.def_ 14 (d := dd_written) rfl) X G (c.d.fact 14 (f := .glo "written") rfl) fun _ _ _ _ _ _ us hl => match us, hl with | [_, _, _], _ => rfl
  d_is_what := def1_of (c.d.def_ 15 (d := dd_is_what) rfl) X G (c.d.fact 15 (f := .glo "is_what") rfl) fun _ _ _ _ _ _ us hl => match us, hl with | [_], _ => rfl
  d_follows := def1_of (c.d.def_ 16 (d := dd_follows) rfl) X G (c.d.fact 16 (f := .glo "follows") rfl) fun _ _ _ _ _ _ us hl => match us, hl with | [_, _], _ => rfl
  d_is_rest := def1_of (c.d.def_ 17 (d := dd_is_rest) rfl) X G (c.d.fact 17 (f := .glo "is_rest") rfl) fun _ _ _ _ _ _ us hl => match us, hl with | [_], _ => rfl
  d_border_of := def1_of (c.d.def_ 18 (d := dd_border_of) rfl) X G (c.d.fact 18 (f := .glo "border_of") rfl) fun _ _ _ _ _ _ us hl => match us, hl with | [_, _, _], _ => rfl
  d_stands := def1_of (c.d.def_ 19 (d := dd_stands) rfl) X G (c.d.fact 19 (f := .glo "stands") rfl) fun _ _ _ _ _ _ us hl => match us, hl with | [_, _, _], _ => rfl
  d_borders_read := def1_of (c.d.def_ 20 (d := dd_borders_read) rfl) X G (c.d.fact 20 (f := .glo "borders_read") rfl) fun _ _ _ _ _ _ us hl => match us, hl with | [_, _, _], _ => rfl
  d_read_back := def1_of (c.d.def_ 21 (d := dd_read_back) rfl) X G (c.d.fact 21 (f := .glo "read_back") rfl) fun _ _ _ _ _ _ us hl => match us, hl with | [_, _, _], _ => rfl
  d__law_cell_at := def1_of (c.d.def_ 22 (d := dd__law_cell_at) rfl) X G (c.d.fact 22 (f := .glo "_law_cell_at") rfl) fun _ _ _ _ _ _ us hl => match us, hl with | [_, _], _ => rfl
  d__law_drawn := def1_of (c.d.def_ 23 (d := dd__law_drawn) rfl) X G (c.d.fact 23 (f := .glo "_law_drawn") rfl) fun _ _ _ _ _ _ us hl => match us, hl with | [_, _], _ => rfl
  d__law_part := def1_of (c.d.def_ 24 (d := dd__law_part) rfl) X G (c.d.fact 24 (f := .glo "_law_part") rfl) fun _ _ _ _ _ _ us hl => match us, hl with | [_, _], _ => rfl
  d__law_track := def1_of (c.d.def_ 25 (d := dd__law_track) rfl) X G (c.d.fact 25 (f := .glo "_law_track") rfl) fun _ _ _ _ _ _ us hl => match us, hl with | [_], _ => rfl
  d__law_rate := def1_of (c.d.def_ 26 (d := dd__law_rate) rfl) X G (c.d.fact 26 (f := .glo "_law_rate") rfl) fun _ _ _ _ _ _ us hl => match us, hl with | [_], _ => rfl
  d__law_spoiled := def1_of (c.d.def_ 27 (d := dd__law_spoiled) rfl) X G (c.d.fact 27 (f := .glo "_law_spoiled") rfl) fun _ _ _ _ _ _ us hl => match us, hl with | [_, _], _ => rfl
  d__law_changed := def1_of (c.d.def_ 28 (d := dd__law_changed) rfl) X G (c.d.fact 28 (f := .glo "_law_changed") rfl) fun _ _ _ _ _ _ us hl => match us, hl with | [_, _, _], _ => rfl
  d__law_said := def1_of (c.d.def_ 29 (d := dd__law_said) rfl) X G (c.d.fact 29 (f := .glo "_law_said") rfl) fun _ _ _ _ _ _ us hl => match us, hl with | [_], _ => rfl
  d__law_lowest := def1_of (c.d.def_ 30 (d := dd__law_lowest) rfl) X G (c.d.fact 30 (f := .glo "_law_lowest") rfl) fun _ _ _ _ _ _ us hl => match us, hl with | [_], _ => rfl
  d__law_border := def1_of (c.d.def_ 31 (d := dd__law_border) rfl) X G (c.d.fact 31 (f := .glo "_law_border") rfl) fun _ _ _ _ _ _ us hl => match us, hl with | [_, _, _], _ => rfl
  d__law_stands := def1_of (c.d.def_ 32 (d := dd__law_stands) rfl) X G (c.d.fact 32 (f := .glo "_law_stands") rfl) fun _ _ _ _ _ _ us hl => match us, hl with | [_, _, _, _], _ => rfl
  d__law_first_wrong := def1_of (c.d.def_ 33 (d := dd__law_first_wrong) rfl) X G (c.d.fact 33 (f := .glo "_law_first_wrong") rfl) fun _ _ _ _ _ _ us hl => match us, hl with | [_, _, _], _ => rfl
  d__law_told := def1_of (c.d.def_ 34 (d := dd__law_told) rfl) X G (c.d.fact 34 (f := .glo "_law_told") rfl) fun _ _ _ _ _ _ us hl => match us, hl with | [_, _, _], _ => rfl
  d_law := def1_of (c.d.def_ 35 (d := dd_law) rfl) X G (c.d.fact 35 (f := .glo "law") rfl) fun _ _ _ _ _ _ us hl => match us, hl with | [_], _ => rfl
  z_abs := He.free_ok X G (c.d.fact 36 (f := .free "abs") rfl)
  z_bool := He.free_ok X G (c.d.fact 37 (f := .free "bool") rfl)
  z_enumerate := He.free_ok X G (c.d.fact 38 (f := .free "enumerate") rfl)
  z_int := He.free_ok X G (c.d.fact 39 (f := .free "int") rfl)
  z_isinstance := He.free_ok X G (c.d.fact 40 (f := .free "isinstance") rfl)
  z_len := He.free_ok X G (c.d.fact 41 (f := .free "len") rfl)
  z_list := He.free_ok X G (c.d.fact 42 (f := .free "list") rfl)
  z_range := He.free_ok X G (c.d.fact 43 (f := .free "range") rfl)
  z_str := He.free_ok X G (c.d.fact 44 (f := .free "str") rfl)
  z_tuple := He.free_ok X G (c.d.fact 45 (f := .free "tuple") rfl)
  x_NoNumber := excCls_of X G (c.d.fact 46 (f := .glo "NoNumber") rfl) (c.d.fact 47 (f := .exc "NoNumber") rfl)
  x := exT_of X G (He.ba d).1
  i_NoList := oexT_of (c.d.def_ 36 (d := ddi_NoList) rfl) X G (He.ba (He.ba d).2).1 (fun _ _ _ _ _ _ us hl => match us, hl with | [_, _], _ => rfl)
  n_at := noAt_of X G (He.ba (He.ba (He.ba d).2).2).1
  g_LETTERS := gcon_str X G (He.ba (He.ba (He.ba (He.ba d).2).2).2).1
  g_MOST_LETTERS := gcon_int X G (He.ba (He.ba (He.ba (He.ba (He.ba d).2).2).2).2).1
  g_WIDTHS := tcon_of X G (kvs := [("clip", (.int 4)), ("nest", (.int 3)), ("gap", (.int 1)), ("mix", (.int 2)), ("end", (.int 1))]) (says_tab c 0) (He.ba (He.ba (He.ba (He.ba (He.ba (He.ba d).2).2).2).2).2).1 rfl rfl
end VL

/-! PL: running the plain functions: each combinator as a frame over what stands at its place. -/
namespace VL
open PySem
def RS.seq (r : RS) (b : MS) : RS := match r with
  | .nx e1 => b e1
  | r => r
@[simp] theorem sq1 {e b} : RS.seq (.nx e) b = b e := (rfl)
@[simp] theorem sq2 {d e b} : RS.seq (.rt d e) b = .rt d e := (rfl)
@[simp] theorem sq3 {x e b} : RS.seq (.err x e) b = .err x e := (rfl)
@[simp] theorem sq4 {b} : RS.seq .bot b = .bot := (rfl)
@[simp] theorem sq5 {e b} : RS.seq (.bk e) b = .bk e := (rfl)
@[simp] theorem sq6 {e b} : RS.seq (.ct e) b = .ct e := (rfl)
@[simp] theorem e_seq {a b e} : vSeq a b e = RS.seq (a e) b := by unfold vSeq; cases (a e) <;> rfl
@[simp] theorem e_next {e} : vNext e = .nx e := (rfl)
@[simp] theorem e_pass {e} : vPass e = .nx e := (rfl)
@[simp] theorem e_break {e} : vBreak e = .bk e := (rfl)
@[simp] theorem e_cont {e} : vCont e = .ct e := (rfl)
@[simp] theorem of1 {α : Type} {a : α} {e} : Res.of (some a) e = .ok a e := (rfl)
@[simp] theorem of2 {α : Type} {e} : (Res.of (none : Option α) e) = .bot := (rfl)
@[simp] theorem e_c {d e} : vC d e = .ok d e := (rfl)
def fVar (i : Nat) (e : Env) : Option Sl → Res D
  | some (.sh d) => .ok d e
  | some (.ow b ds) => .ok (outD b ds) (e.set i (.sh (outD b ds)))
  | _ => .bot
@[simp] theorem fv1 {i e d} : fVar i e (some (.sh d)) = .ok d e := (rfl)
@[simp] theorem fv2 {i e ds} : fVar i e (some (.ow false ds)) = .ok (.lst ds) (e.set i (.sh (.lst ds))) := (rfl)
@[simp] theorem fv3 {i e d} : fVar i e (some (.ow true [d])) = .ok d (e.set i (.sh d)) := (rfl)
@[simp] theorem e_var {i e} : vVar i e = fVar i e e[i]? := by 
  unfold vVar
  cases e[i]? with
  | none => rfl
  | some s => cases s with
    | ow b ds => cases b <;> rfl
    | _ => rfl
/-! one place -/
def fUn (op : D → Option D) : Res D → Res D
  | .ok x e => .of (op x) e
  | .err x e => .err x e
  | .bot => .bot
@[simp] theorem fu1 {op x e} : fUn op (.ok x e) = .of (op x) e := (rfl)
@[simp] theorem fu2 {op x e} : fUn op (.err x e) = .err x e := (rfl)
@[simp] theorem e_un {op a e} : vUn op a e = fUn op (a e) := by unfold vUn; cases (a e) <;> rfl
@[simp] theorem e_isi {t a e} : vIsi t a e = fUn (opIsi t) (a e) := e_un
/-! two places -/
def fOp2 (op : D → D → Option D) (x : D) : Res D → Res D
  | .ok y e => .of (op x y) e
  | .err x e => .err x e
  | .bot => .bot
def fOp (op : D → D → Option D) (r : Res D) (b : ME) : Res D := match r with
  | .ok x e => fOp2 op x (b e)
  | .err x e => .err x e
  | .bot => .bot
@[simp] theorem fo1 {op x e b} : fOp op (.ok x e) b = fOp2 op x (b e) := (rfl)
@[simp] theorem fo2 {op x e b} : fOp op (.err x e) b = .err x e := (rfl)
@[simp] theorem fo3 {op x e y} : fOp2 op x (.ok y e) = .of (op x y) e := (rfl)
@[simp] theorem fo4 {op x e y} : fOp2 op x (.err y e) = .err y e := (rfl)
@[simp] theorem e_op {op a b e} : vOp op a b e = fOp op (a e) b := by
  unfold vOp
  cases (a e) with
  | ok x e1 => show (b e1).bind _ = fOp2 op x (b e1); cases (b e1) <;> rfl
  | err x e1 => rfl
  | bot => rfl
/-! arguments -/
def fCon2 (x : D) : Res (List D) → Res (List D)
  | .ok xs e => .ok (x :: xs) e
  | .err x e => .err x e
  | .bot => .bot
def fCon (r : Res D) (b : MA) : Res (List D) := match r with
  | .ok x e => fCon2 x (b e)
  | .err x e => .err x e
  | .bot => .bot
@[simp] theorem fc1 {x e b} : fCon (.ok x e) b = fCon2 x (b e) := (rfl)
@[simp] theorem fc2 {x e b} : fCon (.err x e) b = .err x e := (rfl)
@[simp] theorem fc3 {x e xs} : fCon2 x (.ok xs e) = .ok (x :: xs) e := (rfl)
@[simp] theorem fc4 {x e y} : fCon2 x (.err y e) = .err y e := (rfl)
@[simp] theorem e_nil {e} : vNil e = .ok [] e := (rfl)
@[simp] theorem e_cons {a b e} : vCons a b e = fCon (a e) b := by
  unfold vCons
  cases (a e) with
  | ok x e1 => show (b e1).bind _ = fCon2 x (b e1); cases (b e1) <;> rfl
  | err x e1 => rfl
  | bot => rfl
theorem vmax_eq : vmax = 1000000 := (rfl)
def fTup : Res (List D) → Res D
  | .ok xs e => if xs.length ≤ vmax then .ok (.tup xs) e else .bot
  | .err x e => .err x e
  | .bot => .bot
@[simp] theorem ft1 {xs e} : fTup (.ok xs e) = if xs.length ≤ 1000000 then .ok (.tup xs) e else .bot := by
  rw [← vmax_eq, fTup]
@[simp] theorem ft2 {xs e} : fTup (.err xs e) = .err xs e := (rfl)
@[simp] theorem e_tup {a e} : vTupD a e = fTup (a e) := by unfold vTupD fTup; cases (a e) <;> rfl
def fLst : Res (List D) → Res (List D)
  | .ok xs e => if xs.length ≤ vmax then .ok xs e else .bot
  | .err x e => .err x e
  | .bot => .bot
@[simp] theorem fl1 {xs e} : fLst (.ok xs e) = if xs.length ≤ 1000000 then .ok xs e else .bot := by
  rw [← vmax_eq, fLst]
@[simp] theorem fl2 {xs e} : fLst (.err xs e) = .err xs e := (rfl)
@[simp] theorem e_lst {a e} : vLstD a e = fLst (a e) := by unfold vLstD fLst; cases (a e) <;> rfl
def fOf : Res (List D) → Res D
  | .ok xs e => .ok (.lst xs) e
  | .err x e => .err x e
  | .bot => .bot
@[simp] theorem ff1 {xs e} : fOf (.ok xs e) = .ok (.lst xs) e := (rfl)
@[simp] theorem ff2 {xs e} : fOf (.err xs e) = .err xs e := (rfl)
@[simp] theorem e_of {a e} : vOf a e = fOf (a e) := by unfold vOf fOf; cases (a e) <;> rfl
/-! calls -/
def fCal2 (r : FR) (e : Env) : Res D := match r with
  | .ok d => .ok d e
  | .err x => .err x e
  | .bot => .bot
def fCal (fn : List D → FR) : Res (List D) → Res D
  | .ok xs e => fCal2 (fn xs) e
  | .err x e => .err x e
  | .bot => .bot
@[simp] theorem fk1 {fn xs e} : fCal fn (.ok xs e) = fCal2 (fn xs) e := (rfl)
@[simp] theorem fk2 {fn xs e} : fCal fn (.err xs e) = .err xs e := (rfl)
@[simp] theorem fk3 {d e} : fCal2 (.ok d) e = .ok d e := (rfl)
@[simp] theorem fk4 {d e} : fCal2 (.err d) e = .err d e := (rfl)
@[simp] theorem e_call {fn a e} : vCall fn a e = fCal fn (a e) := by
  unfold vCall
  cases (a e) with
  | ok x e1 => show _ = fCal2 (fn x) e1; dsimp only [Res.bind]; cases (fn x) <;> rfl
  | err x e1 => rfl
  | bot => rfl
def fCaF2 (r : FR) (e : Env) : Res (List D) := match r with
  | .ok (.lst d) => .ok d e
  | .ok _ => .bot
  | .err x => .err x e
  | .bot => .bot
def fCaF (fn : List D → FR) : Res (List D) → Res (List D)
  | .ok xs e => fCaF2 (fn xs) e
  | .err x e => .err x e
  | .bot => .bot
@[simp] theorem fk5 {fn xs e} : fCaF fn (.ok xs e) = fCaF2 (fn xs) e := (rfl)
@[simp] theorem fk6 {fn xs e} : fCaF fn (.err xs e) = .err xs e := (rfl)
@[simp] theorem fk7 {d e} : fCaF2 (.ok (.lst d)) e = .ok d e := (rfl)
@[simp] theorem fk8 {d e} : fCaF2 (.err d) e = .err d e := (rfl)
@[simp] theorem e_callF {fn a e} : vCallF fn a e = fCaF fn (a e) := by
  unfold vCallF
  cases (a e) with
  | ok x e1 =>
    show _ = fCaF2 (fn x) e1
    dsimp only [Res.bind]
    cases (fn x) with
    | ok d => cases d <;> rfl
    | err x => rfl
    | bot => rfl
  | err x e1 => rfl
  | bot => rfl
def fBuf (f : List D → Option D) : Res (List D) → Res D
  | .ok xs e => .of (f xs) e
  | .err x e => .err x e
  | .bot => .bot
@[simp] theorem fb1 {f xs e} : fBuf f (.ok xs e) = .of (f xs) e := (rfl)
@[simp] theorem fb2 {f xs e} : fBuf f (.err xs e) = .err xs e := (rfl)
@[simp] theorem e_bf {f a e} : vBf f a e = fBuf f (a e) := by unfold vBf fBuf; cases (a e) <;> rfl
def fBul (f : List D → Option (List D)) : Res (List D) → Res (List D)
  | .ok xs e => .of (f xs) e
  | .err x e => .err x e
  | .bot => .bot
@[simp] theorem fb3 {f xs e} : fBul f (.ok xs e) = .of (f xs) e := (rfl)
@[simp] theorem e_bl {f a e} : vBl f a e = fBul f (a e) := by unfold vBl fBul; cases (a e) <;> rfl
/-! owned lists looked at -/
@[simp] theorem frz0 : frz [] = [] := (rfl)
def frS : Sl → Sl
  | .ow b ds => .sh (outD b ds)
  | s => s
@[simp] theorem frz1 {s r} : frz (s :: r) = frS s :: frz r := by
  unfold frz
  rw [List.map_cons]
  cases s <;> rfl
@[simp] theorem frs1 {d} : frS (.sh d) = .sh d := (rfl)
@[simp] theorem frs2 {ds} : frS (.ow false ds) = .sh (.lst ds) := (rfl)
@[simp] theorem frs5 {d} : frS (.ow true [d]) = .sh d := (rfl)
@[simp] theorem frs3 : frS .no = .no := (rfl)
@[simp] theorem frs4 {n} : frS (.tk n) = .tk n := (rfl)
def fBor (e : Env) : Res D → Res D
  | .ok d _ => if d.flat then .ok d e else .bot
  | .err x _ => .err x e
  | .bot => .bot
@[simp] theorem fr1 {e d e1} : fBor e (.ok d e1) = if d.flat then .ok d e else .bot := (rfl)
@[simp] theorem fr2 {e d e1} : fBor e (.err d e1) = .err d e := (rfl)
@[simp] theorem e_bor {a e} : vBor a e = fBor e (a (frz e)) := by unfold vBor; cases (a (frz e)) <;> rfl
def fBorF (e : Env) : Res (List D) → Res (List D)
  | .ok d _ => if D.flats d then .ok d e else .bot
  | .err x _ => .err x e
  | .bot => .bot
@[simp] theorem fr3 {e d e1} : fBorF e (.ok d e1) = if D.flats d then .ok d e else .bot := (rfl)
@[simp] theorem fr4 {e d e1} : fBorF e (.err d e1) = .err d e := (rfl)
@[simp] theorem e_borF {a e} : vBorF a e = fBorF e (a (frz e)) := by unfold vBorF; cases (a (frz e)) <;> rfl
def fBorT (e : Env) : Res Bool → Res Bool
  | .ok d _ => .ok d e
  | .err x _ => .err x e
  | .bot => .bot
@[simp] theorem fr5 {e d e1} : fBorT e (.ok d e1) = .ok d e := (rfl)
@[simp] theorem fr6 {e d e1} : fBorT e (.err d e1) = .err d e := (rfl)
@[simp] theorem e_borT {a e} : vBorT a e = fBorT e (a (frz e)) := by unfold vBorT; cases (a (frz e)) <;> rfl
def fOwn (i : Nat) (e : Env) : Option Sl → Res (List D)
  | some (.ow false ds) => .ok ds (e.set i .no)
  | _ => .bot
@[simp] theorem fw1 {i e ds} : fOwn i e (some (.ow false ds)) = .ok ds (e.set i .no) := (rfl)
@[simp] theorem e_own {i e} : vOwn i e = fOwn i e e[i]? := by 
  unfold vOwn
  cases e[i]? with
  | none => rfl
  | some s => cases s with
    | ow b ds => cases b <;> rfl
    | _ => rfl
/-! tests -/
def fTst : Res D → Res Bool
  | .ok (.bl b) e => .ok b e
  | .ok _ _ => .bot
  | .err x e => .err x e
  | .bot => .bot
@[simp] theorem fs1 {b e} : fTst (.ok (.bl b) e) = .ok b e := (rfl)
@[simp] theorem fs2 {b e} : fTst (.err b e) = .err b e := (rfl)
@[simp] theorem e_test {a e} : vTest a e = fTst (a e) := by
  unfold vTest Res.bind
  cases a e with
  | ok x e1 => cases x <;> rfl
  | err x e1 => rfl
  | bot => rfl
def fAnd (r : Res Bool) (b : MB) : Res Bool := match r with
  | .ok x e => if x = true then b e else .ok false e
  | .err x e => .err x e
  | .bot => .bot
@[simp] theorem fa1 {x e b} : fAnd (.ok x e) b = if x = true then b e else .ok false e := (rfl)
@[simp] theorem fa2 {x e b} : fAnd (.err x e) b = .err x e := (rfl)
@[simp] theorem e_and {a b e} : vAnd a b e = fAnd (a e) b := by unfold vAnd fAnd; cases (a e) <;> rfl
def fOr (r : Res Bool) (b : MB) : Res Bool := match r with
  | .ok x e => if x = true then .ok true e else b e
  | .err x e => .err x e
  | .bot => .bot
@[simp] theorem fa3 {x e b} : fOr (.ok x e) b = if x = true then .ok true e else b e := (rfl)
@[simp] theorem fa4 {x e b} : fOr (.err x e) b = .err x e := (rfl)
@[simp] theorem e_or {a b e} : vOr a b e = fOr (a e) b := by unfold vOr fOr; cases (a e) <;> rfl
def fNot : Res Bool → Res Bool
  | .ok b e => .ok (!b) e
  | .err x e => .err x e
  | .bot => .bot
@[simp] theorem fn1 {b e} : fNot (.ok b e) = .ok (!b) e := (rfl)
@[simp] theorem fn2 {b e} : fNot (.err b e) = .err b e := (rfl)
@[simp] theorem e_not {a e} : vNot a e = fNot (a e) := by unfold vNot fNot; cases (a e) <;> rfl
@[simp] theorem e_yes {e} : vYes e = .ok true e := (rfl)
def fAndV (r : Res D) (b : ME) : Res D := match r with
  | .ok (.bl x) e => if x = true then b e else .ok (.bl false) e
  | .ok _ _ => .bot
  | .err x e => .err x e
  | .bot => .bot
@[simp] theorem fa5 {x e b} : fAndV (.ok (.bl x) e) b = if x = true then b e else .ok (.bl false) e := (rfl)
@[simp] theorem fa6 {x e b} : fAndV (.err x e) b = .err x e := (rfl)
@[simp] theorem e_andV {a b e} : vAndV a b e = fAndV (a e) b := by
  unfold vAndV Res.bind
  cases a e with
  | ok x e1 => cases x with
    | bl c => cases c <;> rfl
    | _ => rfl
  | err x e1 => rfl
  | bot => rfl
def fOrV (r : Res D) (b : ME) : Res D := match r with
  | .ok (.bl x) e => if x = true then .ok (.bl true) e else b e
  | .ok _ _ => .bot
  | .err x e => .err x e
  | .bot => .bot
@[simp] theorem fa7 {x e b} : fOrV (.ok (.bl x) e) b = if x = true then .ok (.bl true) e else b e := (rfl)
@[simp] theorem fa8 {x e b} : fOrV (.err x e) b = .err x e := (rfl)
@[simp] theorem e_orV {a b e} : vOrV a b e = fOrV (a e) b := by
  unfold vOrV Res.bind
  cases a e with
  | ok x e1 => cases x with
    | bl c => cases c <;> rfl
    | _ => rfl
  | err x e1 => rfl
  | bot => rfl
def opNot : D → Option D
  | .bl c => some (.bl (!c))
  | _ => none
@[simp] theorem opNot1 {c} : opNot (.bl c) = some (.bl (!c)) := (rfl)
@[simp] theorem e_notV {a e} : vNotV a e = fUn opNot (a e) := by
  unfold vNotV vUn
  cases (a e) <;> rfl
def fCh3 (op : D → D → Option D) (y : D) : Res D → Res D
  | .ok z e => .of (op y z) e
  | .err x e => .err x e
  | .bot => .bot
def fCh2 (op op' : D → D → Option D) (x : D) (r : Res D) (c : ME) : Res D := match r with
  | .ok y e => (match op x y with
    | some (.bl true) => fCh3 op' y (c e)
    | some (.bl false) => .ok (.bl false) e
    | _ => .bot)
  | .err x e => .err x e
  | .bot => .bot
def fCh (op op' : D → D → Option D) (r : Res D) (b c : ME) : Res D := match r with
  | .ok x e => fCh2 op op' x (b e) c
  | .err x e => .err x e
  | .bot => .bot
@[simp] theorem fh1 {op op' x e b c} : fCh op op' (.ok x e) b c = fCh2 op op' x (b e) c := (rfl)
@[simp] theorem fh2 {op op' y e x c} {k : Bool} (h : op x y = some (.bl k)) : fCh2 op op' x (.ok y e) c = if k = true then fCh3 op' y (c e) else .ok (.bl false) e := by
  unfold fCh2
  simp only [h]
  cases k <;> rfl
@[simp] theorem fh3 {op y e z} : fCh3 op y (.ok z e) = .of (op y z) e := (rfl)
@[simp] theorem e_chain {op op' a b c e} : vChain op op' a b c e = fCh op op' (a e) b c := by
  unfold vChain
  cases (a e) with
  | ok x e1 =>
    show (b e1).bind _ = fCh2 op op' x (b e1) c
    cases (b e1) with
    | ok y e2 =>
      show _ = fCh2 op op' x (.ok y e2) c
      dsimp only [fCh2, Res.bind]
      cases op x y with
      | none => rfl
      | some d => cases d with
        | bl k => cases k with
          | true =>
            show _ = fCh3 op' y (c e2)
            simp only []
            cases (c e2) <;> rfl
          | false => rfl
        | _ => rfl
    | err x e1 => rfl
    | bot => rfl
  | err x e1 => rfl
  | bot => rfl
/-! slices -/
def fPart : Res D → Res (Option Int)
  | .ok x e => .of (asI x) e
  | .err x e => .err x e
  | .bot => .bot
@[simp] theorem fp1 {i e} : fPart (.ok (.int i) e) = .ok (some i) e := (rfl)
@[simp] theorem e_part {a e} : vPart a e = fPart (a e) := by unfold vPart fPart; cases (a e) <;> rfl
@[simp] theorem e_nopart {e} : vNoPart e = .ok none e := (rfl)
@[simp] theorem rb1 {α β : Type} {a : α} {e} {f : α → Env → Res β} : (Res.ok a e).bind f = f a e := (rfl)
@[simp] theorem e_sl {a lo hi e} : vSl a lo hi e = (a e).bind fun x e1 => (lo e1).bind fun l e2 => (hi e2).bind fun h e3 => .of (slT l h x) e3 := (rfl)
@[simp] theorem e_slF {a lo hi e} : vSlF a lo hi e = (a e).bind fun x e1 => (lo e1).bind fun l e2 => (hi e2).bind fun h e3 => .of (slL l h x) e3 := (rfl)
@[simp] theorem e_rev {a e} : vRevF a e = (a e).bind fun x e1 => .of (revL x) e1 := (rfl)
/-! statements -/
def fIf (r : Res Bool) (a b : MS) : RS := match r with
  | .ok x e => if x = true then a e else b e
  | .err x e => .err x e
  | .bot => .bot
@[simp] theorem fi1 {x e a b} : fIf (.ok x e) a b = if x = true then a e else b e := (rfl)
@[simp] theorem fi2 {x e a b} : fIf (.err x e) a b = .err x e := (rfl)
@[simp] theorem e_if {c a b e} : vIf c a b e = fIf (c e) a b := by unfold vIf fIf; cases (c e) <;> rfl
def fRet : Res D → RS
  | .ok x e => .rt x e
  | .err x e => .err x e
  | .bot => .bot
@[simp] theorem fe1 {x e} : fRet (.ok x e) = .rt x e := (rfl)
@[simp] theorem fe2 {x e} : fRet (.err x e) = .err x e := (rfl)
@[simp] theorem e_ret {a e} : vRet a e = fRet (a e) := by unfold vRet fRet; cases (a e) <;> rfl
def fRetF : Res (List D) → RS
  | .ok x e => .rt (.lst x) e
  | .err x e => .err x e
  | .bot => .bot
@[simp] theorem fe3 {x e} : fRetF (.ok x e) = .rt (.lst x) e := (rfl)
@[simp] theorem fe4 {x e} : fRetF (.err x e) = .err x e := (rfl)
@[simp] theorem e_retF {a e} : vRetF a e = fRetF (a e) := by unfold vRetF fRetF; cases (a e) <;> rfl
@[simp] theorem e_retN {e} : vRetN e = .rt .non e := (rfl)
def fDrop : Res D → RS
  | .ok _ e => .nx e
  | .err x e => .err x e
  | .bot => .bot
@[simp] theorem fe5 {x e} : fDrop (.ok x e) = .nx e := (rfl)
@[simp] theorem fe6 {x e} : fDrop (.err x e) = .err x e := (rfl)
@[simp] theorem e_drop {a e} : vDrop a e = fDrop (a e) := by unfold vDrop fDrop; cases (a e) <;> rfl
@[simp] theorem e_raise {x e} : vRaise x e = .err ⟨x, none⟩ e := (rfl)
def fAsg2 : Option Env → RS
  | some e => .nx e
  | none => .bot
def fAsg (r : Res D) (g : D → Env → Option Env) : RS := match r with
  | .ok x e => fAsg2 (g x e)
  | .err x e => .err x e
  | .bot => .bot
@[simp] theorem fe7 {x e g} : fAsg (.ok x e) g = fAsg2 (g x e) := (rfl)
@[simp] theorem fe8 {x e g} : fAsg (.err x e) g = .err x e := (rfl)
@[simp] theorem fe9 {e} : fAsg2 (some e) = .nx e := (rfl)
@[simp] theorem e_asg {a g e} : vAsg a g e = fAsg (a e) g := by
  unfold vAsg
  cases (a e) with
  | ok x e1 => show _ = fAsg2 (g x e1); dsimp only [Res.thenS]; cases (g x e1) <;> rfl
  | err x e1 => rfl
  | bot => rfl
@[simp] theorem e_nam {i d e} : gNam i d e = if i < e.length then some (e.set i (.sh d)) else none := (rfl)
@[simp] theorem e_gnil {e} : gNil' [] e = some e := (rfl)
@[simp] theorem e_gcon {g r d ds e} : gCon g r (d :: ds) e = (g d e).bind fun e1 => r ds e1 := by dsimp only [gCon]; cases g d e <;> rfl
@[simp] theorem e_gtup {r ds e} : gTup' r (.tup ds) e = r ds e := (rfl)
@[simp] theorem e_gtupL {r ds e} : gTup' r (.lst ds) e = r ds e := (rfl)
def fAsF (i : Nat) : Res (List D) → RS
  | .ok ds e => if i < e.length then .nx (e.set i (.ow false ds)) else .bot
  | .err x e => .err x e
  | .bot => .bot
@[simp] theorem fg1 {i ds e} : fAsF i (.ok ds e) = if i < e.length then .nx (e.set i (.ow false ds)) else .bot := (rfl)
@[simp] theorem fg2 {i ds e} : fAsF i (.err ds e) = .err ds e := (rfl)
@[simp] theorem e_asgF {i a e} : vAsgF i a e = fAsF i (a e) := by unfold vAsgF fAsF; cases (a e) <;> rfl
def fPar2 (i j : Nat) (x : D) : Res D → RS
  | .ok y e => if i < e.length ∧ j < e.length then .nx ((e.set i (.sh x)).set j (.sh y)) else .bot
  | .err x e => .err x e
  | .bot => .bot
def fPar (i j : Nat) (r : Res D) (b : ME) : RS := match r with
  | .ok x e => fPar2 i j x (b e)
  | .err x e => .err x e
  | .bot => .bot
@[simp] theorem fg3 {i j x e b} : fPar i j (.ok x e) b = fPar2 i j x (b e) := (rfl)
@[simp] theorem fg4 {i j x e y} : fPar2 i j x (.ok y e) = if i < e.length ∧ j < e.length then .nx ((e.set i (.sh x)).set j (.sh y)) else .bot := (rfl)
@[simp] theorem e_par {i j a b e} : vPar i j a b e = fPar i j (a e) b := by
  unfold vPar
  cases (a e) with
  | ok x e1 => show (b e1).thenS _ = fPar2 i j x (b e1); cases (b e1) <;> rfl
  | err x e1 => rfl
  | bot => rfl
def fApp3 (i : Nat) (d : D) (e : Env) : Option Sl → RS
  | some (.ow false ds) => if ds.length < vmax then .nx (e.set i (.ow false (ds ++ [d]))) else .bot
  | _ => .bot
def fApp2 (i : Nat) : Res D → RS
  | .ok d e => fApp3 i d e e[i]?
  | .err x e => .err x e
  | .bot => .bot
def fApp (i : Nat) (e : Env) (a : ME) : Option Sl → RS
  | some (.ow false _) => fApp2 i (a e)
  | _ => .bot
@[simp] theorem fj1 {i e a ds} : fApp i e a (some (.ow false ds)) = fApp2 i (a e) := (rfl)
@[simp] theorem fj2 {i d e} : fApp2 i (.ok d e) = fApp3 i d e e[i]? := (rfl)
@[simp] theorem fj3 {i d e} : fApp2 i (.err d e) = .err d e := (rfl)
@[simp] theorem fj4 {i d e ds} : fApp3 i d e (some (.ow false ds)) = if ds.length < 1000000 then .nx (e.set i (.ow false (ds ++ [d]))) else .bot := by
  rw [← vmax_eq, fApp3]
@[simp] theorem e_app {i a e} : vApp i a e = fApp i e a e[i]? := by
  unfold vApp
  cases h : e[i]? with
  | none => rfl
  | some s => cases s with
    | ow b ds =>
      cases b with
      | true => rfl
      | false =>
      show _ = fApp2 i (a e)
      simp only []
      cases (a e) with
      | ok d e1 =>
        show _ = fApp3 i d e1 e1[i]?
        dsimp only [Res.thenS]
        cases e1[i]? with
        | none => rfl
        | some s => cases s with
          | ow b ds => cases b <;> rfl
          | _ => rfl
      | err x e1 => rfl
      | bot => rfl
    | _ => rfl
def fFor (r : Res (List D)) (g : D → Env → Option Env) (b : MS) : RS := match r with
  | .ok ds e => forL g b ds e
  | .err x e => .err x e
  | .bot => .bot
@[simp] theorem fl3 {ds e g b} : fFor (.ok ds e) g b = forL g b ds e := (rfl)
@[simp] theorem e_for {it g b e} : vFor it g b e = fFor (it e) g b := by unfold vFor fFor; cases (it e) <;> rfl
@[simp] theorem e_seqI {m e} : vSeqI m e = (m e).bind fun d e1 => .of (seqD d) e1 := (rfl)
@[simp] theorem seqD1 {ds} : seqD (.lst ds) = some ds := (rfl)
@[simp] theorem seqD2 {ds} : seqD (.tup ds) = some ds := (rfl)
def fRng : Res (List D) → Res (List D)
  | .ok [.int j] e => .of (rngD [.int j]) e
  | .ok _ _ => .bot
  | .err x e => .err x e
  | .bot => .bot
theorem e_rng1 {m e} : vRng1 m e = (m e).bind fun ds e1 => match ds with
  | [_] => .of (rngD ds) e1
  | _ => .bot := (rfl)
theorem rng1_of {m e e1} {j : Int} (h : m e = .ok [.int j] e1) (h1 : -(2 ^ 62) ≤ j) (h2 : j < 2 ^ 62) : vRng1 m e = .ok ((List.range j.toNat).map fun (i : Nat) => .int (i : Int)) e1 := by
  rw [e_rng1, h]
  show Res.of (if -(2 ^ 62) ≤ j ∧ j < 2 ^ 62 then some ((List.range j.toNat).map fun (i : Nat) => D.int (0 + (i : Int))) else none) e1 = _
  rw [if_pos ⟨h1, h2⟩]
  simp only [Int.zero_add]
  rfl
theorem rng2_of {m e e1} {i j : Int} (h : m e = .ok [.int i, .int j] e1) (h1 : -(2 ^ 62) ≤ i ∧ i < 2 ^ 62 ∧ -(2 ^ 62) ≤ j ∧ j < 2 ^ 62) : vRng2 m e = .ok ((List.range (j - i).toNat).map fun (n : Nat) => .int (i + (n : Int))) e1 := by
  show (m e).bind _ = _
  rw [h]
  show Res.of (if -(2 ^ 62) ≤ i ∧ i < 2 ^ 62 ∧ -(2 ^ 62) ≤ j ∧ j < 2 ^ 62 then some ((List.range (j - i).toNat).map fun (n : Nat) => D.int (i + (n : Int))) else none) e1 = _
  rw [if_pos h1]
  rfl
/-! a def -/
def fRun : RS → FR
  | .nx _ => .ok .non
  | .rt d _ => .ok d
  | .err x _ => .err x
  | _ => .bot
@[simp] theorem fz1 {e} : fRun (.nx e) = .ok .non := (rfl)
@[simp] theorem fz2 {d e} : fRun (.rt d e) = .ok d := (rfl)
@[simp] theorem fz3 {d e} : fRun (.err d e) = .err d := (rfl)
@[simp] theorem e_run {np n b ds} : runB np n b ds = if ds.length = np then fRun (b (ds.map Sl.sh ++ List.replicate (n - np) .no)) else .bot := by
  unfold runB fRun
  split
  · split <;> simp_all
  · rfl
/-! operators on what they take -/
@[simp] theorem o_add {i j} : opAdd (.int i) (.int j) = some (.int (i + j)) := (rfl)
@[simp] theorem o_sub {i j} : opSub (.int i) (.int j) = some (.int (i - j)) := (rfl)
theorem o_mul {i j} (h : mulOk i j = true) : opMul (.int i) (.int j) = some (.int (i * j)) := by unfold opMul; simp [h]
theorem mulOk_l {i j : Int} (h1 : -(2 ^ 64) < i) (h2 : i < 2 ^ 64) : mulOk i j = true := by
  unfold mulOk
  have : i.natAbs < 2 ^ 64 := by omega
  simp [this]
theorem mulOk_r {i j : Int} (h1 : -(2 ^ 64) < j) (h2 : j < 2 ^ 64) : mulOk i j = true := by
  unfold mulOk
  have : j.natAbs < 2 ^ 64 := by omega
  simp [this]
theorem log2_lt {n k : Nat} (h : n < 2 ^ k) (hk : 0 < k) : n.log2 < k := by
  by_cases z : n = 0
  · subst z
    have : Nat.log2 0 = 0 := (rfl)
    omega
  · exact (Nat.log2_lt z).mpr h
theorem mulOk_b {i j : Int} (h1 : i.natAbs < 2 ^ 400000) (h2 : j.natAbs < 2 ^ 400000) : mulOk i j = true := by
  unfold mulOk
  have a := log2_lt h1 (by decide)
  have b := log2_lt h2 (by decide)
  have : i.natAbs.log2 + j.natAbs.log2 < 1000000 := by omega
  simp only [this, decide_true, Bool.or_true]
theorem o_fdiv {i j} (h : divOk j = true) : opFdiv (.int i) (.int j) = some (.int (i.fdiv j)) := by unfold opFdiv; simp [h]
theorem divOk_s {j : Int} (h : j ≠ 0) (h1 : -(2 ^ 64) < j) (h2 : j < 2 ^ 64) : divOk j = true := by
  unfold divOk
  have q : j.natAbs < 2 ^ 64 := by omega
  have := log2_lt q (by decide)
  have : j.natAbs.log2 < 9000 := by omega
  simp [this, h]
theorem divOk_b {j : Int} (h : j ≠ 0) (h1 : j.natAbs < 2 ^ 8000) : divOk j = true := by
  unfold divOk
  have := log2_lt h1 (by decide)
  have : j.natAbs.log2 < 9000 := by omega
  simp [this, h]
theorem o_mod {i j : Int} (h : j ≠ 0) : opMod (.int i) (.int j) = some (.int (i.fmod j)) := by unfold opMod; simp [h]
@[simp] theorem o_neg {i} : opNeg (.int i) = some (.int (-i)) := (rfl)
@[simp] theorem o_lt {i j} : opLt (.int i) (.int j) = some (.bl (decide (i < j))) := (rfl)
@[simp] theorem o_le {i j} : opLe (.int i) (.int j) = some (.bl (decide (i ≤ j))) := (rfl)
@[simp] theorem o_gt {i j} : opGt (.int i) (.int j) = some (.bl (decide (j < i))) := (rfl)
@[simp] theorem o_ge {i j} : opGe (.int i) (.int j) = some (.bl (decide (j ≤ i))) := (rfl)
@[simp] theorem eqok_int {n i} : D.eqok n (.int i) = true := by unfold D.eqok; rfl
@[simp] theorem eqok_bl {n i} : D.eqok n (.bl i) = true := by unfold D.eqok; rfl
@[simp] theorem eqok_non {n} : D.eqok n .non = true := by unfold D.eqok; rfl
@[simp] theorem eqok_str {n s} : D.eqok n (.str s) = strS s := by unfold D.eqok; rfl
@[simp] theorem eqok_tup {n ds} : D.eqok (n + 1) (.tup ds) = D.eqoks n ds := by rw [D.eqok]
@[simp] theorem eqok_lst {n ds} : D.eqok (n + 1) (.lst ds) = D.eqoks n ds := by rw [D.eqok]
@[simp] theorem eqoks_nil {n} : D.eqoks n [] = true := by rw [D.eqoks]
@[simp] theorem eqoks_cons {n d ds} : D.eqoks n (d :: ds) = (D.eqok n d && D.eqoks n ds) := by rw [D.eqoks]
@[simp] theorem deq_int {i j} : D.deq (.int i) (.int j) = decide (i = j) := by rw [D.deq]
@[simp] theorem deq_bl {i j} : D.deq (.bl i) (.bl j) = (i == j) := by rw [D.deq]
@[simp] theorem deq_str {i j} : D.deq (.str i) (.str j) = decide (i = j) := by rw [D.deq]
@[simp] theorem deq_tup {i j} : D.deq (.tup i) (.tup j) = D.deqs i j := by rw [D.deq]
@[simp] theorem deq_lst {i j} : D.deq (.lst i) (.lst j) = D.deqs i j := by rw [D.deq]
@[simp] theorem deqs_nil : D.deqs [] [] = true := by rw [D.deqs]
@[simp] theorem deqs_cons {x xs y ys} : D.deqs (x :: xs) (y :: ys) = (D.deq x y && D.deqs xs ys) := by rw [D.deqs]
@[simp] theorem deqs_nc {y ys} : D.deqs [] (y :: ys) = false := by rw [D.deqs] <;> simp
@[simp] theorem deqs_cn {y ys} : D.deqs (y :: ys) [] = false := by rw [D.deqs] <;> simp
theorem o_eq {a b : D} (h : a.eqok 20 = true) (h2 : b.eqok 20 = true) : opEq a b = some (.bl (D.deq a b)) := by unfold opEq; simp [h, h2]
theorem o_ne {a b : D} (h : a.eqok 20 = true) (h2 : b.eqok 20 = true) : opNe a b = some (.bl (!D.deq a b)) := by unfold opNe; simp [h, h2]
@[simp] theorem o_eqI {i j} : opEq (.int i) (.int j) = some (.bl (decide (i = j))) := by rw [o_eq] <;> simp
@[simp] theorem o_neI {i j} : opNe (.int i) (.int j) = some (.bl (!decide (i = j))) := by rw [o_ne] <;> simp
@[simp] theorem flat_int {i} : D.flat (.int i) = true := by rw [D.flat]
@[simp] theorem flat_bl {i} : D.flat (.bl i) = true := by rw [D.flat]
@[simp] theorem flat_str {i} : D.flat (.str i) = true := by rw [D.flat]
@[simp] theorem flat_non : D.flat .non = true := by rw [D.flat]
@[simp] theorem flat_tup {ds} : D.flat (.tup ds) = D.flats ds := by rw [D.flat]
@[simp] theorem flats_nil : D.flats [] = true := by rw [D.flats]
@[simp] theorem flats_cons {d ds} : D.flats (d :: ds) = (D.flat d && D.flats ds) := by rw [D.flats]
@[simp] theorem isi_int {i} : opIsi "int" (.int i) = some (.bl true) := (rfl)
@[simp] theorem isi_bool {i} : opIsi "bool" (.int i) = some (.bl false) := (rfl)
@[simp] theorem isi_tup {ds} : opIsi "tuple" (.tup ds) = some (.bl true) := (rfl)
@[simp] theorem isi_lst {ds} : opIsi "list" (.lst ds) = some (.bl true) := (rfl)
@[simp] theorem isi_boolB {b} : opIsi "bool" (.bl b) = some (.bl true) := (rfl)
@[simp] theorem len_tup {xs} : bfLen [.tup xs] = some (.int xs.length) := (rfl)
@[simp] theorem len_lst {xs} : bfLen [.lst xs] = some (.int xs.length) := (rfl)
@[simp] theorem abs_int {i} : bfAbs [.int i] = some (.int (if i < 0 then -i else i)) := (rfl)
@[simp] theorem min_int {i j} : bfMin [.int i, .int j] = some (.int (if j < i then j else i)) := (rfl)
@[simp] theorem max_int {i j} : bfMax [.int i, .int j] = some (.int (if j > i then j else i)) := (rfl)
@[simp] theorem ix_tup {xs i} : opIx (.tup xs) (.int i) = atD xs i := (rfl)
@[simp] theorem ix_lst {xs i} : opIx (.lst xs) (.int i) = atD xs i := (rfl)
@[simp] theorem at_0 {x xs} : atD (x :: xs) 0 = some x := by
  unfold atD ixD
  have h : (0 : Int) < ((x :: xs).length : Nat) := by rw [List.length_cons]; omega
  rw [if_pos (by decide), if_pos h]
  rfl
theorem at_nat {xs : List D} {i : Nat} (h : i < xs.length) : atD xs (i : Int) = some xs[i] := by
  unfold atD ixD
  rw [if_pos (by omega), if_pos (by omega)]
  simp [h]
theorem at_of {xs : List D} {i : Int} {n : Nat} {d : D} (hn : i = n) (h : xs[n]? = some d) : atD xs i = some d := by
  subst hn
  obtain ⟨q, e⟩ := List.getElem?_eq_some_iff.mp h
  rw [at_nat q, e]
@[simp] theorem at_1 {x y xs} : atD (x :: y :: xs) 1 = some y := at_of (n := 1) rfl rfl
@[simp] theorem at_2 {x y z xs} : atD (x :: y :: z :: xs) 2 = some z := at_of (n := 2) rfl rfl
@[simp] theorem at_3 {x y z u xs} : atD (x :: y :: z :: u :: xs) 3 = some u := at_of (n := 3) rfl rfl
@[simp] theorem at_4 {x y z u v xs} : atD (x :: y :: z :: u :: v :: xs) 4 = some v := at_of (n := 4) rfl rfl
@[simp] theorem at_5 {x y z u v a xs} : atD (x :: y :: z :: u :: v :: a :: xs) 5 = some a := at_of (n := 5) rfl rfl
theorem at_last {xs : List D} {d : D} : atD (xs ++ [d]) (-1) = some d := by
  unfold atD ixD
  rw [if_neg (by decide), if_pos (by simp only [List.length_append, List.length_cons, List.length_nil]; omega)]
  have e : ((-1 : Int) + ((xs ++ [d]).length : Nat)).toNat = xs.length := by
    simp only [List.length_append, List.length_cons, List.length_nil]; omega
  simp only [Option.bind_some, e]
  simp
/-! loops -/
theorem forL_inv {g : D → Env → Option Env} {b : MS} (I : Env → Prop) : ∀ (ds : List D) (e : Env), I e → (∀ d ∈ ds, ∀ e, I e → ∃ e1, g d e = some e1 ∧ ∃ e2, b e1 = .nx e2 ∧ I e2) → ∃ e', forL g b ds e = .nx e' ∧ I e'
  | [], e, h, _ => ⟨e, rfl, h⟩
  | d :: ds, e, h, st => by
    obtain ⟨e1, h1, e2, h2, h3⟩ := st d List.mem_cons_self e h
    obtain ⟨e', q, i⟩ := forL_inv I ds e2 h3 fun d hd => st d (List.mem_cons_of_mem _ hd)
    refine ⟨e', ?_, i⟩
    rw [forL]
    simp only [h1, h2]
    exact q
/-- .. by the place -/
theorem forL_at {g : D → Env → Option Env} {b : MS} (I : Nat → Env → Prop) : ∀ (ds : List D) (k : Nat) (e : Env), I k e → (∀ i d, ds[i]? = some d → ∀ e, I (k + i) e → ∃ e1, g d e = some e1 ∧ ∃ e2, b e1 = .nx e2 ∧ I (k + i + 1) e2) → ∃ e', forL g b ds e = .nx e' ∧ I (k + ds.length) e'
  | [], k, e, h, _ => ⟨e, rfl, h⟩
  | d :: ds, k, e, h, st => by
    obtain ⟨e1, h1, e2, h2, h3⟩ := st 0 d rfl e h
    obtain ⟨e', q, i⟩ := forL_at I ds (k + 1) e2 h3 fun i d hd e he => by
      have := st (i + 1) d (by simpa using hd) e (by rw [show k + (i + 1) = k + 1 + i by omega]; exact he)
      rw [show k + (i + 1) + 1 = k + 1 + i + 1 by omega] at this
      exact this
    refine ⟨e', ?_, by rw [show k + (d :: ds).length = k + 1 + ds.length by rw [List.length_cons]; omega]; exact i⟩
    rw [forL]
    simp only [h1, h2]
    exact q
theorem lcL_map {g : D → Env → Option Env} {t : MB} {el : ME} {own : List Nat} {e : Env} (h : D → D) : ∀ (ds acc : List D), (∀ d ∈ ds, ∃ e1, g d e = some e1 ∧ t e1 = .ok true e1 ∧ el e1 = .ok (h d) e1 ∧ wipeE e1 own = e) → wipeE e own = e → acc.length + ds.length ≤ 1000000 → lcL g t el own ds acc e = .ok (acc ++ ds.map h) e
  | [], acc, _, w, _ => by rw [lcL, w]; simp
  | d :: ds, acc, st, w, hl => by
    obtain ⟨e1, h1, h2, h3, h4⟩ := st d List.mem_cons_self
    have hv : acc.length < vmax := by rw [vmax_eq]; simp at hl; omega
    rw [lcL]
    simp only [h1, h2, Res.bindN, if_true, h3, hv, h4]
    rw [lcL_map h ds (acc ++ [h d]) (fun d hd => st d (List.mem_cons_of_mem _ hd)) w (by simp at hl ⊢; omega)]
    simp
theorem vLc_map {it : MA} {g : D → Env → Option Env} {t : MB} {el : ME} {own : List Nat} {e e0 e1 : Env} {ds : List D} (h : D → D) (hi : it e = .ok ds e0) (hw : wipeE e0 own = e1) (st : ∀ d ∈ ds, ∃ e2, g d e1 = some e2 ∧ t e2 = .ok true e2 ∧ el e2 = .ok (h d) e2 ∧ wipeE e2 own = e1) (w : wipeE e1 own = e1) (hl : ds.length ≤ 1000000) : vLc it g t el own e = .ok (ds.map h) e1 := by
  show (it e).bind _ = _
  rw [hi]
  show lcL g t el own ds [] (wipeE e0 own) = _
  rw [hw, lcL_map h ds [] st w (by simpa using hl)]
  rfl
theorem o_div {i j : Int} (h0 : 0 < j) (h : divOk j = true) : opFdiv (.int i) (.int j) = some (.int (i / j)) := by rw [o_fdiv h, Int.fdiv_eq_ediv_of_nonneg _ (by omega)]
theorem o_rem {i j : Int} (h0 : 0 < j) : opMod (.int i) (.int j) = some (.int (i % j)) := by rw [o_mod (by omega), Int.fmod_eq_emod_of_nonneg _ (by omega)]
theorem o_pow {i j : Int} (h : 0 ≤ j) (h1 : j ≤ 1000) (h2 : i.natAbs ≤ 1000) : opPow (.int i) (.int j) = some (.int (i ^ j.toNat)) := by
  show (if 0 ≤ j ∧ j ≤ 1000 ∧ i.natAbs ≤ 1000 then some (D.int (i ^ j.toNat)) else none) = _
  rw [if_pos ⟨h, h1, h2⟩]
theorem slT_to {xs : List D} {v : Int} (h : 0 ≤ v) : slT none (some v) (.lst xs) = some (.lst (xs.take v.toNat)) := by
  unfold slT cutD sIxD
  simp only [if_neg (show ¬ v < 0 by omega), List.drop_zero, Nat.sub_zero, Option.some.injEq, D.lst.injEq]
  rw [← List.take_take, List.take_length]
theorem slT_from {xs : List D} {v : Int} (h : 0 ≤ v) : slT (some v) none (.lst xs) = some (.lst (xs.drop v.toNat)) := by
  unfold slT cutD sIxD
  simp only [if_neg (show ¬ v < 0 by omega), Option.some.injEq, D.lst.injEq]
  by_cases q : v.toNat ≤ xs.length
  · rw [Nat.min_eq_left q, List.take_of_length_le (by rw [List.length_drop]; omega)]
  · rw [Nat.min_eq_right (by omega), List.drop_of_length_le (Nat.le_refl _), List.drop_of_length_le (by omega)]
    simp
theorem slT_two {xs : List D} {u v : Int} (h : 0 ≤ u) (h1 : u ≤ v) : slT (some u) (some v) (.lst xs) = some (.lst ((xs.drop u.toNat).take (v.toNat - u.toNat))) := by
  unfold slT cutD sIxD
  simp only [if_neg (show ¬ v < 0 by omega), if_neg (show ¬ u < 0 by omega), Option.some.injEq, D.lst.injEq]
  by_cases q : u.toNat ≤ xs.length
  · rw [Nat.min_eq_left q]
    by_cases q2 : v.toNat ≤ xs.length
    · rw [Nat.min_eq_left q2]
    · rw [Nat.min_eq_right (by omega), List.take_of_length_le (by rw [List.length_drop]; omega), List.take_of_length_le (by rw [List.length_drop]; omega)]
  · rw [Nat.min_eq_right (show xs.length ≤ u.toNat by omega), List.drop_of_length_le (Nat.le_refl _), List.drop_of_length_le (show xs.length ≤ u.toNat by omega)]
    simp
theorem lcL_ex {g : D → Env → Option Env} {t : MB} {el : ME} {own : List Nat} {e : Env} (P : D → Prop) : ∀ (ds acc : List D), (∀ d ∈ ds, ∃ e1, g d e = some e1 ∧ t e1 = .ok true e1 ∧ ∃ y, el e1 = .ok y e1 ∧ P y ∧ wipeE e1 own = e) → wipeE e own = e → acc.length + ds.length ≤ 1000000 → ∃ zs, lcL g t el own ds acc e = .ok (acc ++ zs) e ∧ zs.length = ds.length ∧ ∀ z ∈ zs, P z
  | [], acc, _, w, _ => ⟨[], by rw [lcL, w]; simp, rfl, by simp⟩
  | d :: ds, acc, st, w, hl => by
    obtain ⟨e1, h1, h2, y, h3, hp, h4⟩ := st d List.mem_cons_self
    have hv : acc.length < vmax := by rw [vmax_eq]; simp at hl; omega
    obtain ⟨zs, q, l, a⟩ := lcL_ex P ds (acc ++ [y]) (fun d hd => st d (List.mem_cons_of_mem _ hd)) w (by simp at hl ⊢; omega)
    refine ⟨y :: zs, ?_, by simp [l], by
      intro z hz
      rcases List.mem_cons.mp hz with rfl | hz
      · exact hp
      · exact a z hz⟩
    rw [lcL]
    simp only [h1, h2, Res.bindN, if_true, h3, hv, h4]
    rw [q]
    simp
theorem vLc_ex {it : MA} {g : D → Env → Option Env} {t : MB} {el : ME} {own : List Nat} {e e0 e1 : Env} {ds : List D} (P : D → Prop) (hi : it e = .ok ds e0) (hw : wipeE e0 own = e1) (st : ∀ d ∈ ds, ∃ e2, g d e1 = some e2 ∧ t e2 = .ok true e2 ∧ ∃ y, el e2 = .ok y e2 ∧ P y ∧ wipeE e2 own = e1) (w : wipeE e1 own = e1) (hl : ds.length ≤ 1000000) :
    ∃ zs, vLc it g t el own e = .ok zs e1 ∧ zs.length = ds.length ∧ ∀ z ∈ zs, P z := by
  obtain ⟨zs, q, l, a⟩ := lcL_ex (g := g) (t := t) (el := el) (own := own) P ds [] st w (by simpa using hl)
  refine ⟨zs, ?_, l, a⟩
  show (it e).bind _ = _
  rw [hi]
  show lcL g t el own ds [] (wipeE e0 own) = _
  rw [hw, q]
  rfl
@[simp] theorem wipe0 {e} : wipeE e [] = e := (rfl)
@[simp] theorem wipe1 {e v vs} : wipeE e (v :: vs) = (wipeE e vs).set v .no := (rfl)
theorem o_addL {xs ys : List D} (h : xs.length + ys.length ≤ 1000000) : opAdd (.lst xs) (.lst ys) = some (.lst (xs ++ ys)) := by
  show (if xs.length + ys.length ≤ vmax then some (D.lst (xs ++ ys)) else none) = _
  exact if_pos h
theorem at_ints {ns : List Int} {i : Nat} (h : i < ns.length) : atD (ns.map D.int) (i : Int) = some (.int ns[i]) := at_of rfl (by simp [h])
/-- small by bits -/
def Bd (n : Nat) (x : Int) : Prop := x.natAbs < 2 ^ n
theorem Bd.mono {n m : Nat} {x : Int} (h : Bd n x) (q : n ≤ m) : Bd m x := Nat.lt_of_lt_of_le h (Nat.pow_le_pow_right (by decide) q)
theorem Bd.mul {n m : Nat} {x y : Int} (h : Bd n x) (q : Bd m y) : Bd (n + m) (x * y) := by
  unfold Bd
  rw [Int.natAbs_mul, Nat.pow_add]
  exact Nat.mul_lt_mul'' h q
theorem Bd.add {n : Nat} {x y : Int} (h : Bd n x) (q : Bd n y) : Bd (n + 1) (x + y) := by
  unfold Bd at *
  rw [Nat.pow_succ]
  omega
theorem Bd.sub {n : Nat} {x y : Int} (h : Bd n x) (q : Bd n y) : Bd (n + 1) (x - y) := by
  unfold Bd at *
  rw [Nat.pow_succ]
  omega
theorem Bd.mulOk {x y : Int} (h : Bd 400000 x) (q : Bd 400000 y) : VL.mulOk x y = true := mulOk_b h q
theorem Bd.divOk {x : Int} (h : Bd 8000 x) (q : x ≠ 0) : VL.divOk x = true := divOk_b q h
theorem Bd.le {n : Nat} {x y : Int} (h : Bd n y) (q : x.natAbs ≤ y.natAbs) : Bd n x := Nat.lt_of_le_of_lt q h
@[simp] theorem o_isB {a b : Bool} : opIs (.bl a) (.bl b) = some (.bl (a == b)) := (rfl)
@[simp] theorem o_isnotB {a b : Bool} : opIsNot (.bl a) (.bl b) = some (.bl (!(a == b))) := (rfl)
@[simp] theorem o_isN {x : D} : opIs x .non = some (.bl x.isNon) := by cases x <;> rfl
@[simp] theorem o_isnotN {x : D} : opIsNot x .non = some (.bl (!x.isNon)) := by cases x <;> rfl
@[simp] theorem isNon_tup {xs} : D.isNon (.tup xs) = false := (rfl)
@[simp] theorem isNon_int {xs} : D.isNon (.int xs) = false := (rfl)
@[simp] theorem isNon_lst {xs} : D.isNon (.lst xs) = false := (rfl)
@[simp] theorem isNon_str {xs} : D.isNon (.str xs) = false := (rfl)
@[simp] theorem isNon_non : D.isNon .non = true := (rfl)
theorem at_mem {xs : List D} {i : Int} (h : 0 ≤ i) (h1 : i < xs.length) : ∃ y ∈ xs, atD xs i = some y := by
  have q : i.toNat < xs.length := by omega
  exact ⟨xs[i.toNat], List.getElem_mem q, at_of (n := i.toNat) (by omega) (by simp [q])⟩
/-- one turn of a loop -/
def turn (g : D → Env → Option Env) (b : MS) (d : D) (e : Env) : RS := match g d e with
  | some e1 => b e1
  | none => .bot
theorem turn_of {g : D → Env → Option Env} {b : MS} {d : D} {e e2 : Env} (h : turn g b d e = .nx e2) : ∃ e1, g d e = some e1 ∧ b e1 = .nx e2 := by
  unfold turn at h
  split at h
  · exact ⟨_, by assumption, h⟩
  · cases h
theorem turn_nam {i b d e} : turn (gNam i) b d e = if i < e.length then b (e.set i (.sh d)) else .bot := by
  unfold turn gNam
  by_cases h : i < e.length <;> simp [h]
/-- by the place -/
theorem loop_at {g : D → Env → Option Env} {b : MS} (I : Nat → Env → Prop) (ds : List D) (e : Env) (h : I 0 e) (st : ∀ i d, ds[i]? = some d → ∀ e, I i e → ∃ e2, turn g b d e = .nx e2 ∧ I (i + 1) e2) : ∃ e', forL g b ds e = .nx e' ∧ I ds.length e' := by
  have := forL_at (g := g) (b := b) I ds 0 e h fun i d hd e he => by
    rw [Nat.zero_add] at *
    obtain ⟨e2, h1, h2⟩ := st i d hd e he
    obtain ⟨e1, h3, h4⟩ := turn_of h1
    exact ⟨e1, h3, e2, h4, h2⟩
  rwa [Nat.zero_add] at this
theorem loop_inv {g : D → Env → Option Env} {b : MS} (I : Env → Prop) (ds : List D) (e : Env) (h : I e) (st : ∀ d ∈ ds, ∀ e, I e → ∃ e2, turn g b d e = .nx e2 ∧ I e2) : ∃ e', forL g b ds e = .nx e' ∧ I e' :=
  forL_inv I ds e h fun d hd e he => by
    obtain ⟨e2, h1, h2⟩ := st d hd e he
    obtain ⟨e1, h3, h4⟩ := turn_of h1
    exact ⟨e1, h3, e2, h4, h2⟩
theorem rng_at {m i : Nat} {d : D} (h : ((List.range m).map fun (i : Nat) => D.int (i : Int))[i]? = some d) : i < m ∧ d = .int (i : Int) := by
  have hi : i < m := by
    have := (List.getElem?_eq_some_iff.mp h).1
    simpa using this
  exact ⟨hi, by simpa [hi] using h.symm⟩
/-! texts -/
theorem str_len (x y : Str) : (x ++ y).length = x.length + y.length := by
  show (x.cps ++ y.cps).size = _
  rw [Array.size_append]
  rfl
theorem str_one (c : Nat) : (⟨#[c]⟩ : Str).length = 1 := rfl
theorem str_at {z : Str} {i : Int} (h : z.length ≤ 1000000) (h0 : 0 ≤ i) (h1 : i < z.length) : ∃ c, opIx (.str z) (.int i) = some (.str ⟨#[c]⟩) ∧ c ∈ z.cps := by
  show ∃ c, (if z.length ≤ vmax then (ixD z.cps.toList.length i).bind fun j => (z.cps.toList[j]?).map fun c => D.str ⟨#[c]⟩ else none) = _ ∧ _
  have q : i.toNat < z.cps.toList.length := by
    have : z.length = z.cps.toList.length := rfl
    omega
  refine ⟨z.cps.toList[i.toNat], ?_, by simp⟩
  rw [if_pos (show z.length ≤ vmax from h)]
  unfold ixD
  rw [if_pos h0, if_pos (by omega)]
  simp only [Option.bind_some]
  rw [List.getElem?_eq_getElem q]
  try rfl
theorem o_addS {x y : Str} (h : x.length + y.length ≤ 1000000) : opAdd (.str x) (.str y) = some (.str (x ++ y)) := if_pos h
theorem strS_add {x y : Str} (h : strS x = true) (h1 : strS y = true) : strS (x ++ y) = true := by
  unfold strS at *
  show (x.cps ++ y.cps).all _ = true
  rw [Array.all_append, h, h1]
  try rfl
theorem strS_one {c : Nat} {z : Str} (h : c ∈ z.cps) (h1 : strS z = true) : strS ⟨#[c]⟩ = true := by
  unfold strS at *
  have := (Array.all_eq_true_iff_forall_mem.mp h1) c h
  simpa using this
theorem cutSD_sub {z : Str} {lo hi : Option Int} : (∀ c ∈ (cutSD z lo hi).cps, c ∈ z.cps) ∧ (cutSD z lo hi).length ≤ z.length := by
  constructor
  · intro c hc
    have h : c ∈ ((z.cps.toList.drop (sIxD z.length 0 lo)).take (sIxD z.length z.length hi - sIxD z.length 0 lo)) := by
      simpa [cutSD] using hc
    simpa using List.mem_of_mem_drop (List.mem_of_mem_take h)
  · show (((z.cps.toList.drop (sIxD z.length 0 lo)).take (sIxD z.length z.length hi - sIxD z.length 0 lo)).toArray).size ≤ z.cps.size
    simp
    omega
theorem strS_of {y z : Str} (h : ∀ c ∈ y.cps, c ∈ z.cps) (h1 : strS z = true) : strS y = true := by
  unfold strS at *
  rw [Array.all_eq_true_iff_forall_mem] at *
  exact fun c hc => h1 c (h c hc)
theorem slT_str {z : Str} {lo hi : Option Int} (h : z.length ≤ 1000000) : slT lo hi (.str z) = some (.str (cutSD z lo hi)) := if_pos h
theorem o_addT {x y : D} {xs ys : List D} (h : xs.length + ys.length + 2 ≤ 1000000) : opAdd (.tup (x :: xs)) (.tup (y :: ys)) = some (.tup (x :: xs ++ y :: ys)) := if_pos h
theorem str_eq (a b : String) (h : decide (Str.ofString a = Str.ofString b) = false) : Str.ofString a ≠ Str.ofString b := of_decide_eq_false h
theorem ints_of {P : Int → Prop} : ∀ {zs : List D}, (∀ z ∈ zs, ∃ k, z = D.int k ∧ P k) → ∃ ks : List Int, zs = ks.map D.int ∧ ∀ k ∈ ks, P k
  | [], _ => ⟨[], rfl, by simp⟩
  | z :: zs, h => by
    obtain ⟨k, rfl, p⟩ := h z List.mem_cons_self
    obtain ⟨ks, rfl, q⟩ := ints_of (zs := zs) fun z hz => h z (List.mem_cons_of_mem _ hz)
    exact ⟨k :: ks, rfl, fun x hx => by
      rcases List.mem_cons.mp hx with rfl | hx
      · exact p
      · exact q x hx⟩
mutual
theorem deq_self : ∀ (n : Nat) (d : D), d.eqok n = true → D.deq d d = true
  | n, .non, _ => by rw [D.deq]
  | n, .bl b, _ => by simp
  | n, .int i, _ => by simp
  | n, .str s, _ => by simp
  | n, .dct _ _, h => by unfold D.eqok at h; cases h
  | 0, .tup _, h => by unfold D.eqok at h; cases h
  | 0, .lst _, h => by unfold D.eqok at h; cases h
  | n + 1, .tup ds, h => by
    rw [eqok_tup] at h
    rw [deq_tup]
    exact deqs_self n ds h
  | n + 1, .lst ds, h => by
    rw [eqok_lst] at h
    rw [deq_lst]
    exact deqs_self n ds h
theorem deqs_self : ∀ (n : Nat) (ds : List D), D.eqoks n ds = true → D.deqs ds ds = true
  | n, [], _ => by simp
  | n, d :: ds, h => by
    rw [eqoks_cons, Bool.and_eq_true] at h
    rw [deqs_cons, deq_self n d h.1, deqs_self n ds h.2]
    rfl
end
theorem eqoks_all {n : Nat} : ∀ {ds : List D}, (∀ d ∈ ds, D.eqok n d = true) → D.eqoks n ds = true
  | [], _ => by simp
  | d :: ds, h => by rw [eqoks_cons, h d List.mem_cons_self, eqoks_all fun d hd => h d (List.mem_cons_of_mem _ hd)]; rfl
theorem eqoks_ints {n : Nat} {ns : List Int} : D.eqoks n (ns.map D.int) = true := eqoks_all fun d hd => by
  obtain ⟨i, _, rfl⟩ := List.mem_map.mp hd
  simp
theorem o_eqS {a : D} (h : a.eqok 20 = true) : opEq a a = some (.bl true) := by rw [o_eq h h, deq_self 20 a h]
theorem o_neS {a : D} (h : a.eqok 20 = true) : opNe a a = some (.bl false) := by rw [o_ne h h, deq_self 20 a h]; rfl
theorem pop_of {i : Nat} {e : Env} {xs : List D} {d : D} (h : e[i]? = some (.ow false (xs ++ [d]))) : vPop i e = .ok d (e.set i (.ow false xs)) := by
  unfold vPop
  simp [h]
@[simp] theorem rev1 {xs} : revL (.lst xs) = some xs.reverse := (rfl)
@[simp] theorem e_enum {m e} : vEnum m e = (m e).bind fun ds e1 => .of (enumD ds) e1 := (rfl)
@[simp] theorem enum1 {ds} : enumD [.lst ds] = some (ds.zipIdx.map fun p => .tup [.int ((p.2 : Nat) : Int), p.1]) := (rfl)
@[simp] theorem list1 {ds} : bfList [.lst ds] = some ds := (rfl)
theorem intsD_map : ∀ (ns : List Int), intsD (ns.map D.int) = some ns
  | [] => rfl
  | n :: ns => by
    show (intsD (ns.map D.int)).map (n :: ·) = _
    rw [intsD_map ns]
    rfl
theorem sum_ints {ns : List Int} : bfSum [.lst (ns.map D.int)] = some (.int ns.sum) := by
  show (intsD (ns.map D.int)).map _ = _
  rw [intsD_map]
  rfl
theorem boolsD_all : ∀ {ds : List D}, (∀ d ∈ ds, d = .bl true) → ∃ bs : List Bool, boolsD ds = some bs ∧ bs.all id = true
  | [], _ => ⟨[], rfl, rfl⟩
  | d :: ds, h => by
    obtain ⟨bs, e, a⟩ := boolsD_all fun d hd => h d (List.mem_cons_of_mem _ hd)
    have := h d List.mem_cons_self
    subst this
    refine ⟨true :: bs, ?_, by simpa using a⟩
    show (boolsD ds).map (true :: ·) = _
    rw [e]
    rfl
theorem all_true {ds : List D} (h : ∀ d ∈ ds, d = .bl true) : bfAll [.lst ds] = some (.bl true) := by
  obtain ⟨bs, e, a⟩ := boolsD_all h
  show (boolsD ds).map _ = _
  rw [e]
  show some (D.bl (bs.all id)) = _
  rw [a]
theorem forL_nx {g b d ds e e2} (h : turn g b d e = .nx e2) : forL g b (d :: ds) e = forL g b ds e2 := by
  obtain ⟨e1, h1, h2⟩ := turn_of h
  rw [forL]
  simp only [h1, h2]
theorem forL_rt {g b d ds e e2 x} (h : turn g b d e = .rt x e2) : forL g b (d :: ds) e = .rt x e2 := by
  unfold turn at h
  rw [forL]
  split at h
  · rename_i h1
    simp only [h1, h]
  · cases h
theorem turn_nam' {i b d e} (h : i < e.length) : turn (gNam i) b d e = b (e.set i (.sh d)) := by rw [turn_nam, if_pos h]
/-! tokens, try -/
@[simp] theorem clr0 {n} : clrE n [] = [] := (rfl)
@[simp] theorem clr1 {n s r} : clrE n (s :: r) = clrTk n s :: clrE n r := (rfl)
@[simp] theorem ctk1 {n d} : clrTk n (.sh d) = .sh d := (rfl)
@[simp] theorem ctk2 {n b d} : clrTk n (.ow b d) = .ow b d := (rfl)
@[simp] theorem ctk3 {n} : clrTk n .no = .no := (rfl)
@[simp] theorem ctk4 {n} : clrTk n (.tk n) = .no := if_pos rfl
@[simp] theorem po1 {n i s e} : RS.post n i s (.nx e) = .nx ((clrE n e).set i s) := (rfl)
@[simp] theorem po2 {n i s d e} : RS.post n i s (.rt d e) = .rt d ((clrE n e).set i s) := (rfl)
def fTryAs (names : List Str) (anc : Str → Str → Bool) (y : Str) (i : Nat) (h : Str → MS) : RS → RS
  | .err x e1 => match x.val with
    | none => if x.cls ∈ names then (if anc x.cls y = true then RS.post 0 i .no (h x.cls ((clrE 0 e1).set i (.tk 0))) else .err x e1) else .bot
    | some _ => .bot
  | r => r
@[simp] theorem ta1 {names anc y i h e} : fTryAs names anc y i h (.nx e) = .nx e := (rfl)
@[simp] theorem ta2 {names anc y i h d e} : fTryAs names anc y i h (.rt d e) = .rt d e := (rfl)
@[simp] theorem ta3 {names anc y i h c e} : fTryAs names anc y i h (.err ⟨c, none⟩ e) = if c ∈ names then (if anc c y = true then RS.post 0 i .no (h c ((clrE 0 e).set i (.tk 0))) else .err ⟨c, none⟩ e) else .bot := (rfl)
@[simp] theorem e_tryAs {names anc y i b h e} : vTryAs names anc y i b h e = fTryAs names anc y i h (b e) := by
  unfold vTryAs
  cases (b e) <;> rfl
def fIsE (b : Bool) (e : Env) : Option Sl → Res D
  | some (.tk 0) => .ok (.bl b) e
  | _ => .bot
@[simp] theorem ie1 {b e} : fIsE b e (some (.tk 0)) = .ok (.bl b) e := (rfl)
@[simp] theorem e_isE {i b e} : vIsE i b e = fIsE b e e[i]? := by
  unfold vIsE
  cases e[i]? with
  | none => rfl
  | some s => cases s with
    | tk n => cases n <;> rfl
    | _ => rfl
theorem forO_nx {n i g b e e1 ds} (h : e[i]? = some (.ow false ds)) (h1 : forL g b ds ((clrE n e).set i (.tk n)) = .nx e1) (h2 : e1[i]? = some (.tk n)) : vForO n i g b e = .nx ((clrE n e1).set i (.ow false ds)) := by
  unfold vForO
  simp only [h, h1, h2, if_true]
theorem set_of {i : Nat} {ix a : ME} {e e1 e2 : Env} {ds : List D} {d : D} {k : Int} {j : Nat} (ha : a e = .ok d e1) (h1 : e1[i]? = some (.ow false ds)) (hx : ix e1 = .ok (.int k) e2) (h2 : e2[i]? = some (.ow false ds)) (hk : ixD ds.length k = some j) : vSet i ix a e = .nx (e2.set i (.ow false (ds.set j d))) := by
  unfold vSet
  simp only [ha, Res.thenS, h1, hx, h2, hk]
theorem ix_last {n : Nat} : ixD (n + 1) (-1) = some n := by
  unfold ixD
  rw [if_neg (by decide), if_pos (by omega)]
  congr 1
  omega
theorem set_last {xs : List D} {x y : D} : (xs ++ [x]).set xs.length y = xs ++ [y] := by
  rw [List.set_append_right _ _ (Nat.le_refl _)]
  simp
theorem lcL_flt {g : D → Env → Option Env} {t : MB} {el : ME} {own : List Nat} {e : Env} (P : D → Prop) : ∀ (ds acc : List D), (∀ d ∈ ds, ∃ e1, g d e = some e1 ∧ wipeE e1 own = e ∧ ∃ k, t e1 = .ok k e1 ∧ (k = true → ∃ y, el e1 = .ok y e1 ∧ P y)) → wipeE e own = e → acc.length + ds.length ≤ 1000000 → ∃ zs, lcL g t el own ds acc e = .ok (acc ++ zs) e ∧ zs.length ≤ ds.length ∧ ∀ z ∈ zs, P z
  | [], acc, _, w, _ => ⟨[], by rw [lcL, w]; simp, Nat.le_refl _, by simp⟩
  | d :: ds, acc, st, w, hl => by
    obtain ⟨e1, h1, h4, k, h2, hy⟩ := st d List.mem_cons_self
    have hv : acc.length < vmax := by rw [vmax_eq]; simp at hl; omega
    cases k with
    | true =>
      obtain ⟨y, h3, hp⟩ := hy rfl
      obtain ⟨zs, q, l, a⟩ := lcL_flt P ds (acc ++ [y]) (fun d hd => st d (List.mem_cons_of_mem _ hd)) w (by simp at hl ⊢; omega)
      refine ⟨y :: zs, ?_, by simp; omega, by
        intro z hz
        rcases List.mem_cons.mp hz with rfl | hz
        · exact hp
        · exact a z hz⟩
      rw [lcL]
      simp only [h1, h2, Res.bindN, if_true, h3, hv, h4]
      rw [q]
      simp
    | false =>
      obtain ⟨zs, q, l, a⟩ := lcL_flt P ds acc (fun d hd => st d (List.mem_cons_of_mem _ hd)) w (by simp at hl ⊢; omega)
      refine ⟨zs, ?_, by simp; omega, a⟩
      rw [lcL]
      simp only [h1, h2, Res.bindN, if_neg Bool.false_ne_true, h4]
      exact q
theorem vLc_flt {it : MA} {g : D → Env → Option Env} {t : MB} {el : ME} {own : List Nat} {e e0 e1 : Env} {ds : List D} (P : D → Prop) (hi : it e = .ok ds e0) (hw : wipeE e0 own = e1) (st : ∀ d ∈ ds, ∃ e2, g d e1 = some e2 ∧ wipeE e2 own = e1 ∧ ∃ k, t e2 = .ok k e2 ∧ (k = true → ∃ y, el e2 = .ok y e2 ∧ P y)) (w : wipeE e1 own = e1) (hl : ds.length ≤ 1000000) :
    ∃ zs, vLc it g t el own e = .ok zs e1 ∧ zs.length ≤ ds.length ∧ ∀ z ∈ zs, P z := by
  obtain ⟨zs, q, l, a⟩ := lcL_flt (g := g) (t := t) (el := el) (own := own) P ds [] st w (by simpa using hl)
  refine ⟨zs, ?_, l, a⟩
  show (it e).bind _ = _
  rw [hi]
  show lcL g t el own ds [] (wipeE e0 own) = _
  rw [hw, q]
  rfl
theorem of_all {α : Type} {f : α → D} {P : α → Prop} : ∀ {zs : List D}, (∀ z ∈ zs, ∃ k, z = f k ∧ P k) → ∃ ks : List α, zs = ks.map f ∧ ∀ k ∈ ks, P k
  | [], _ => ⟨[], rfl, by simp⟩
  | z :: zs, h => by
    obtain ⟨k, rfl, p⟩ := h z List.mem_cons_self
    obtain ⟨ks, rfl, q⟩ := of_all (zs := zs) fun z hz => h z (List.mem_cons_of_mem _ hz)
    exact ⟨k :: ks, rfl, fun x hx => by
      rcases List.mem_cons.mp hx with rfl | hx
      · exact p
      · exact q x hx⟩
/-- a whole number, no truth -/
def D.isI : D → Bool
  | .int _ => true
  | _ => false
def fDisp : Res (List (D × D)) → Res D
  | .ok ps e => .of (dispD ps) e
  | .err x e => .err x e
  | .bot => .bot
@[simp] theorem fdi1 {ps e} : fDisp (.ok ps e) = .of (dispD ps) e := (rfl)
@[simp] theorem e_disp {r e} : vDisp r e = fDisp (r e) := by unfold vDisp; cases (r e) <;> rfl
@[simp] theorem e_pn {e} : vPN e = .ok [] e := (rfl)
@[simp] theorem e_pc {k v r e} : vPC k v r e = (k e).bind fun x e1 => (v e1).bind fun y e2 => (r e2).bind fun ps e3 => .ok ((x, y) :: ps) e3 := (rfl)
theorem boolsD_none : ∀ {ds : List D}, (∀ d ∈ ds, d = .bl false) → ∃ bs : List Bool, boolsD ds = some bs ∧ bs.any id = false
  | [], _ => ⟨[], rfl, rfl⟩
  | d :: ds, h => by
    obtain ⟨bs, e, a⟩ := boolsD_none fun d hd => h d (List.mem_cons_of_mem _ hd)
    have := h d List.mem_cons_self
    subst this
    refine ⟨false :: bs, ?_, by simpa using a⟩
    show (boolsD ds).map (false :: ·) = _
    rw [e]
    rfl
theorem any_false {ds : List D} (h : ∀ d ∈ ds, d = .bl false) : bfAny [.lst ds] = some (.bl false) := by
  obtain ⟨bs, e, a⟩ := boolsD_none h
  show (boolsD ds).map _ = _
  rw [e]
  show some (D.bl (bs.any id)) = _
  rw [a]
theorem str_int {i : Int} (h : i.natAbs < 2 ^ 1900) : ∃ z, bfStr [.int i] = some (.str z) := by
  refine ⟨(toString i : String), ?_⟩
  show (if i.natAbs.log2 < 1920 then some (D.str (toString i : String)) else none) = _
  rw [if_pos (Nat.lt_trans (log2_lt h (by decide)) (by decide))]
theorem forL_err {g b d ds e e2 x} (h : turn g b d e = .err x e2) : forL g b (d :: ds) e = .err x e2 := by
  unfold turn at h
  rw [forL]
  split at h
  · rename_i h1
    simp only [h1, h]
  · cases h
theorem vLc_err {it : MA} {g : D → Env → Option Env} {t : MB} {el : ME} {own : List Nat} {e e1 : Env} {x : Xc} (h : it e = .err x e1) : vLc it g t el own e = .err x e1 := by
  show (it e).bind _ = _
  rw [h]
  rfl
theorem slT_tupL {x : D} {xs : List D} {y : D} : slT none (some (-1)) (.tup (x :: (xs ++ [y]))) = some (.tup (x :: xs)) := by
  have h2 : sIxD (x :: (xs ++ [y])).length (x :: (xs ++ [y])).length (some (-1)) = xs.length + 1 := by
    show (if (-1 : Int) < 0 then ((-1 : Int) + ((x :: (xs ++ [y])).length : Nat)).toNat else min (-1 : Int).toNat (x :: (xs ++ [y])).length) = _
    rw [if_pos (by decide)]
    simp only [List.length_cons, List.length_append, List.length_nil]
    omega
  show (if sIxD (x :: (xs ++ [y])).length 0 none = 0 ∧ sIxD (x :: (xs ++ [y])).length (x :: (xs ++ [y])).length (some (-1)) = (x :: (xs ++ [y])).length then none else some (D.tup (cutD (x :: (xs ++ [y])) none (some (-1))))) = _
  rw [if_neg (by rw [h2]; simp)]
  unfold cutD
  rw [h2]
  show some (D.tup (((x :: (xs ++ [y])).drop 0).take (xs.length + 1 - 0))) = _
  simp
mutual
theorem eqok_succ : ∀ (n : Nat) (d : D), d.eqok n = true → d.eqok (n + 1) = true
  | n, .non, _ => by simp
  | n, .bl b, _ => by simp
  | n, .int i, _ => by simp
  | n, .str s, h => by simpa using h
  | n, .dct _ _, h => by unfold D.eqok at h; cases h
  | 0, .tup _, h => by unfold D.eqok at h; cases h
  | 0, .lst _, h => by unfold D.eqok at h; cases h
  | n + 1, .tup ds, h => by
    rw [eqok_tup] at *
    exact eqoks_succ n ds h
  | n + 1, .lst ds, h => by
    rw [eqok_lst] at *
    exact eqoks_succ n ds h
theorem eqoks_succ : ∀ (n : Nat) (ds : List D), D.eqoks n ds = true → D.eqoks (n + 1) ds = true
  | n, [], _ => by simp
  | n, d :: ds, h => by
    rw [eqoks_cons, Bool.and_eq_true] at h
    rw [eqoks_cons, eqok_succ n d h.1, eqoks_succ n ds h.2]
    rfl
end
/-! dicts of one's own -/
def fAsK (i : Nat) : Res (List Ky × List D) → RS
  | .ok kd e => if i < e.length then .nx (e.set i (.ow true [.dct kd.1 kd.2])) else .bot
  | .err x e => .err x e
  | .bot => .bot
@[simp] theorem fak1 {i kd e} : fAsK i (.ok kd e) = if i < e.length then .nx (e.set i (.ow true [.dct kd.1 kd.2])) else .bot := (rfl)
@[simp] theorem fak2 {i x e} : fAsK i (.err x e) = .err x e := (rfl)
@[simp] theorem e_asgK {i a e} : vAsgK i a e = fAsK i (a e) := by unfold vAsgK fAsK; cases (a e) <;> rfl
@[simp] theorem e_k0 {e} : vK0 e = .ok ([], []) e := (rfl)
@[simp] theorem e_kd {r e} : vKD r e = (r e).bind fun ps e1 => .of (dispK ps) e1 := (rfl)
@[simp] theorem e_kc {a e} : vKC a e = (a e).bind fun xs e1 => .of (copyK xs) e1 := (rfl)
@[simp] theorem copyK1 {ks ds} : copyK [.dct ks ds] = some (ks, ds) := (rfl)
@[simp] theorem e_ofK {a e} : vOfK a e = (a e).bind fun kd e1 => .ok (.dct kd.1 kd.2) e1 := (rfl)
def fBorK (e : Env) : Res (List Ky × List D) → Res (List Ky × List D)
  | .ok kd _ => if D.flats kd.2 then .ok kd e else .bot
  | .err x _ => .err x e
  | .bot => .bot
@[simp] theorem fbk1 {e kd e1} : fBorK e (.ok kd e1) = if D.flats kd.2 then .ok kd e else .bot := (rfl)
@[simp] theorem fbk2 {e x e1} : fBorK e (.err x e1) = .err x e := (rfl)
@[simp] theorem e_borK {a e} : vBorK a e = fBorK e (a (frz e)) := by unfold vBorK; cases (a (frz e)) <;> rfl
theorem setK_of {i : Nat} {ix a : ME} {e e1 e2 : Env} {ds0 : List D} {ks : List Ky} {ds : List D} {d kd : D} {k : Ky} (ha : a e = .ok d e1) (h1 : e1[i]? = some (.ow true ds0)) (hx : ix e1 = .ok kd e2) (h2 : e2[i]? = some (.ow true [.dct ks ds])) (hk : keyD kd = some k) (hl : ks.length < 1000000) :
    vSetK i ix a e = .nx (e2.set i (.ow true [.dct (putD ks ds k d).1 (putD ks ds k d).2])) := by
  unfold vSetK
  simp only [ha, Res.thenS, h1, hx, h2, hk]
  exact if_pos hl
/-! what a dict holds -/
theorem get_of : ∀ {ks : List Ky} {ds : List D} {k : Ky}, ks.length = ds.length → k ∈ ks → ∃ d ∈ ds, dctGet ks ds k = some d
  | [], ds, k, _, h => by simp at h
  | k0 :: ks, [], k, hl, _ => by simp at hl
  | k0 :: ks, d0 :: ds, k, hl, h => by
    by_cases e : k0 = k
    · exact ⟨d0, by simp, by simp [dctGet, e]⟩
    · have hm : k ∈ ks := by
        rcases List.mem_cons.mp h with h | h
        · exact absurd h.symm e
        · exact h
      obtain ⟨d, h1, h2⟩ := get_of (ds := ds) (by simpa using hl) hm
      refine ⟨d, by simp [h1], ?_⟩
      simp only [dctGet, List.zip_cons_cons, List.find?_cons, decide_eq_false e] at h2 ⊢
      exact h2
theorem get_none : ∀ {ks : List Ky} {ds : List D} {k : Ky}, k ∉ ks → dctGet ks ds k = none
  | [], ds, k, _ => by simp [dctGet]
  | k0 :: ks, [], k, _ => by simp [dctGet]
  | k0 :: ks, d0 :: ds, k, h => by
    have e : ¬ k0 = k := fun z => h (by simp [z])
    have h2 := get_none (ds := ds) (fun z => h (List.mem_cons_of_mem _ z) : k ∉ ks)
    simp only [dctGet, List.zip_cons_cons, List.find?_cons, decide_eq_false e] at h2 ⊢
    exact h2
theorem hits_self : ∀ {ks : List Ky} {ds : List D} (ls : List Ky) (es : List D), ls.length = es.length → (ls ++ ks).Nodup → (∀ d ∈ ds, D.deq d d = true) → hitsD (ls ++ ks) (es ++ ds) ks ds = true
  | [], ds, ls, es, _, _, _ => by unfold hitsD; rfl
  | k :: ks, [], ls, es, _, _, _ => by unfold hitsD; rfl
  | k :: ks, d :: ds, ls, es, hl, nd, h => by
    have nk : k ∉ ls := fun z => by
      rw [List.nodup_append] at nd
      exact nd.2.2 k z k (by simp) rfl
    have g : ∀ (ls : List Ky) (es : List D), ls.length = es.length → k ∉ ls → dctGet (ls ++ k :: ks) (es ++ d :: ds) k = some d := by
      intro ls
      induction ls with
      | nil => intro es hl _; have : es = [] := by simpa using hl.symm
               subst this; simp [dctGet]
      | cons l ls ih =>
        intro es hl nk
        cases es with
        | nil => simp at hl
        | cons e es =>
          have := ih es (by simpa using hl) (fun z => nk (List.mem_cons_of_mem _ z))
          have ne : ¬ l = k := fun z => nk (by simp [z])
          simp only [dctGet, List.cons_append, List.zip_cons_cons, List.find?_cons, decide_eq_false ne] at this ⊢
          exact this
    have ih := hits_self (ks := ks) (ds := ds) (ls ++ [k]) (es ++ [d]) (by simp [hl]) (by simpa using nd) (fun x hx => h x (List.mem_cons_of_mem _ hx))
    rw [List.append_assoc, List.append_assoc] at ih
    unfold hitsD
    rw [g ls es hl nk]
    simp only [h d List.mem_cons_self, Bool.true_and]
    exact ih
theorem o_neK {ks : List Ky} {ds : List D} (nd : ks.Nodup) (h : D.eqoks 20 ds = true) : opNe (.dct ks ds) (.dct ks ds) = some (.bl false) := by
  have e : hitsD ks ds ks ds = true := by
    have := hits_self (ks := ks) (ds := ds) [] [] rfl (by simpa using nd) (fun d hd => by
      have : ∀ {ds : List D}, D.eqoks 20 ds = true → ∀ d ∈ ds, D.eqok 20 d = true := fun {ds} => by
        induction ds with
        | nil => intro _ d hd; simp at hd
        | cons x xs ih =>
          intro h d hd
          rw [eqoks_cons, Bool.and_eq_true] at h
          rcases List.mem_cons.mp hd with rfl | hd
          · exact h.1
          · exact ih h.2 d hd
      exact deq_self 20 d (this h d hd))
    simpa using this
  have n1 : D.eqok 20 (.dct ks ds) = false := by unfold D.eqok; rfl
  unfold opNe opEqK
  simp [n1, h, e]
theorem put_mem {ks : List Ky} {ds : List D} {k : Ky} {d : D} (hl : ks.length = ds.length) : (putD ks ds k d).1.length = (putD ks ds k d).2.length ∧ (∀ j, j ∈ (putD ks ds k d).1 ↔ j = k ∨ j ∈ ks) ∧ (ks.Nodup → (putD ks ds k d).1.Nodup) ∧ (∀ x ∈ (putD ks ds k d).2, x = d ∨ x ∈ ds) ∧ (putD ks ds k d).1.length ≤ ks.length + 1 := by
  unfold putD
  by_cases h : (ks.any fun j => decide (j = k)) = true
  · rw [if_pos h]
    obtain ⟨j, hj, e⟩ := List.any_eq_true.mp h
    have e := of_decide_eq_true e
    subst e
    refine ⟨by simp; omega, fun i => ⟨fun q => .inr q, fun q => by rcases q with rfl | q <;> assumption⟩, fun q => q, fun x hx => ?_, by simp⟩
    obtain ⟨p, hp, rfl⟩ := List.mem_map.mp hx
    by_cases q : p.1 = j
    · rw [if_pos q]; exact .inl rfl
    · rw [if_neg q]; exact .inr (List.of_mem_zip hp).2
  · rw [if_neg h]
    have nk : k ∉ ks := fun z => h (List.any_eq_true.mpr ⟨k, z, decide_eq_true rfl⟩)
    refine ⟨by simp [hl], fun j => by simp [or_comm], fun q => ?_, fun x hx => ?_, by simp⟩
    · rw [List.nodup_append]
      refine ⟨q, by simp, fun a ha b hb => ?_⟩
      simp at hb
      subst hb
      exact fun z => nk (z ▸ ha)
    · simp at hx
      rcases hx with hx | hx
      · exact .inr hx
      · exact .inl hx
@[simp] theorem e_catF {a b e} : vCatF a b e = (a e).bind fun x e1 => (b e1).bind fun y e2 => .of (catL x y) e2 := (rfl)
theorem o_catL {xs ys : List D} (h : xs.length + ys.length ≤ 1000000) : catL (.lst xs) (.lst ys) = some (xs ++ ys) := if_pos h
def fRI (x f : Str) : Res D → RS
  | .ok (.int n) e1 => .err ⟨x, some (f, n)⟩ e1
  | .err y e1 => .err y e1
  | _ => .bot
@[simp] theorem fri1 {x f n e} : fRI x f (.ok (.int n) e) = .err ⟨x, some (f, n)⟩ e := (rfl)
@[simp] theorem fri2 {x f y e} : fRI x f (.err y e) = .err y e := (rfl)
@[simp] theorem e_raiseI {x f m e} : vRaiseI x f m e = fRI x f (m e) := by
  unfold vRaiseI
  cases m e with
  | ok d e1 => cases d <;> rfl
  | err y e1 => rfl
  | bot => rfl
def fTM (names : List Str) (anc : Str → Str → Bool) (cl : List Cl) : RS → RS
  | .err x e1 => if x.cls ∈ names then vHandle anc cl x e1 else .bot
  | r => r
@[simp] theorem ftm1 {names anc cl e} : fTM names anc cl (.nx e) = .nx e := (rfl)
@[simp] theorem ftm2 {names anc cl d e} : fTM names anc cl (.rt d e) = .rt d e := (rfl)
@[simp] theorem ftm3 {names anc cl x e} : fTM names anc cl (.err x e) = if x.cls ∈ names then vHandle anc cl x e else .bot := (rfl)
@[simp] theorem e_tryM {names anc cl b e} : vTryM names anc cl b e = fTM names anc cl (b e) := by
  unfold vTryM
  cases b e <;> rfl
@[simp] theorem hd1 {anc x e} : vHandle anc [] x e = .err x e := (rfl)
@[simp] theorem hd2 {anc y h r x e} : vHandle anc ((y, none, h) :: r) x e = if anc x.cls y = true then noX (h x e) else vHandle anc r x e := (rfl)
@[simp] theorem hd3 {anc y i h r x e} : vHandle anc ((y, some i, h) :: r) x e = if anc x.cls y = true then (h x ((clrE 0 e).set i (.tk 0))).post 0 i .no else vHandle anc r x e := (rfl)
@[simp] theorem nox1 {e} : noX (.nx e) = .nx e := (rfl)
@[simp] theorem nox2 {d e} : noX (.rt d e) = .rt d e := (rfl)
def fXf (f : Str) (x : Xc) (e : Env) : Option Sl → Res D
  | some (.tk 0) => (match x.val with
    | some (g, n) => if g = f then .ok (.int n) e else .bot
    | none => .bot)
  | _ => .bot
@[simp] theorem fxf1 {f c g n e} : fXf f ⟨c, some (g, n)⟩ e (some (.tk 0)) = if g = f then .ok (.int n) e else .bot := (rfl)
@[simp] theorem e_xf {i f x e} : vXf i f x e = fXf f x e e[i]? := by
  unfold vXf fXf
  cases e[i]? with
  | none => rfl
  | some s => cases s <;> rfl
end VL

/-! NT: whole numbers, common divisors, fractions. -/
namespace VL
open PySem
theorem gcd_fmod (a b : Int) : Int.gcd b (a.fmod b) = Int.gcd a b := by
  have e : a.fmod b = a - b * a.fdiv b := Int.fmod_def a b
  apply Nat.dvd_antisymm
  · apply Int.dvd_gcd
    · have h1 := Int.gcd_dvd_left b (a.fmod b)
      have h2 := Int.gcd_dvd_right b (a.fmod b)
      have h3 : a = a.fmod b + b * a.fdiv b := by omega
      have h4 := Int.dvd_add h2 (Int.dvd_mul_of_dvd_left (c := a.fdiv b) h1)
      rw [← h3] at h4
      exact h4
    · exact Int.gcd_dvd_left b (a.fmod b)
  · apply Int.dvd_gcd
    · exact Int.gcd_dvd_right a b
    · rw [e]
      exact Int.dvd_sub (Int.gcd_dvd_left a b) (Int.dvd_mul_of_dvd_left (Int.gcd_dvd_right a b))
theorem fmod_pos (a : Int) {b : Int} (h : 0 < b) : 0 ≤ a.fmod b ∧ a.fmod b < b := ⟨Int.fmod_nonneg_of_pos a h, Int.fmod_lt_of_pos a h⟩
theorem fmod_neg (a : Int) {b : Int} (h : b < 0) : b < a.fmod b ∧ a.fmod b ≤ 0 := by
  have e := Int.neg_fmod_neg (-a) (-b)
  rw [Int.neg_neg, Int.neg_neg] at e
  have := fmod_pos (-a) (b := -b) (by omega)
  omega
theorem fmod_lt (a : Int) {b : Int} (h : b ≠ 0) : (a.fmod b).natAbs < b.natAbs := by
  rcases Int.lt_or_gt_of_ne h with h | h
  · have := fmod_neg a h
    omega
  · have := fmod_pos a h
    omega
theorem fdiv_fmod (a b : Int) : b * a.fdiv b + a.fmod b = a := by
  have := Int.fmod_def a b
  omega
theorem while_gcd (c : MB) (b : MS) (E : Int → Int → Env) (hc : ∀ x y, c (E x y) = .ok (decide (y ≠ 0)) (E x y)) (hb : ∀ x y, y ≠ 0 → b (E x y) = .nx (E y (x.fmod y))) :
    ∀ (n : Nat) (x y : Int), y.natAbs < n → ∃ g, vWhile c b (E x y) = .nx (E g 0) ∧ g.natAbs = Int.gcd x y ∧ (0 ≤ x → 0 ≤ y → 0 ≤ g)
  | 0, x, y, h => by omega
  | n + 1, x, y, h => by
    by_cases hy : y = 0
    · subst hy
      refine ⟨x, ?_, by simp, fun h _ => h⟩
      rw [vWhile_eq, hc]
      simp [Res.thenS]
    · obtain ⟨g, h1, h2, h3⟩ := while_gcd c b E hc hb n y (x.fmod y) (by have := fmod_lt x hy; omega)
      refine ⟨g, ?_, by rw [h2, gcd_fmod], fun hx hy0 => h3 hy0 (fmod_pos x (by omega)).1⟩
      rw [vWhile_eq, hc]
      simp only [Res.thenS, hy, ne_eq, not_false_eq_true, decide_true, if_true, hb x y hy]
      exact h1
/-- in lowest terms -/
def Red (p q : Int) : Prop := 0 < q ∧ Int.gcd p q = 1
theorem dvd_of_cop {a b c : Int} (h : a ∣ b * c) (g : Int.gcd a b = 1) : a ∣ c := by
  have h' := Int.natAbs_dvd_natAbs.mpr h
  rw [Int.natAbs_mul] at h'
  exact Int.natAbs_dvd_natAbs.mp (Nat.Coprime.dvd_of_dvd_mul_left g h')
theorem Red.eq {p q p' q' : Int} (h : Red p q) (h' : Red p' q') (e : p * q' = p' * q) : p = p' ∧ q = q' := by
  have d1 : q ∣ q' := dvd_of_cop (b := p) ⟨p', by rw [e, Int.mul_comm]⟩ (by rw [Int.gcd_comm]; exact h.2)
  have d2 : q' ∣ q := dvd_of_cop (b := p') ⟨p, by rw [← e, Int.mul_comm]⟩ (by rw [Int.gcd_comm]; exact h'.2)
  have eq : q = q' := Int.le_antisymm (Int.le_of_dvd h'.1 d1) (Int.le_of_dvd h.1 d2)
  subst eq
  exact ⟨Int.eq_of_mul_eq_mul_right (by have := h.1; omega) e, rfl⟩
/-- brought to lowest terms -/
theorem red_of {a b s : Int} (hb : b ≠ 0) (hs : s.natAbs = Int.gcd a b) (hp : 0 ≤ s * b) : a = a.fdiv s * s ∧ b = b.fdiv s * s ∧ Red (a.fdiv s) (b.fdiv s) ∧ s ≠ 0 := by
  have g0 : 0 < Int.gcd a b := Int.gcd_pos_of_ne_zero_right a hb
  have s0 : s ≠ 0 := by omega
  have da : s ∣ a := by
    have := Int.gcd_dvd_left a b
    rw [← hs] at this
    exact Int.natAbs_dvd.mp this
  have db : s ∣ b := by
    have := Int.gcd_dvd_right a b
    rw [← hs] at this
    exact Int.natAbs_dvd.mp this
  have ea := (Int.fdiv_mul_cancel da).symm
  have eb := (Int.fdiv_mul_cancel db).symm
  refine ⟨ea, eb, ⟨?_, ?_⟩, s0⟩
  · generalize b.fdiv s = q at *
    subst eb
    have e : s * (q * s) = q * (s * s) := by rw [Int.mul_left_comm]
    rw [e] at hp
    have ss : 0 < s * s := by
      rcases Int.lt_or_gt_of_ne s0 with h | h
      · exact Int.mul_pos_of_neg_of_neg h h
      · exact Int.mul_pos h h
    have q0 : q ≠ 0 := by rintro rfl; simp at hb
    rcases Int.lt_or_gt_of_ne q0 with h | h
    · have := Int.mul_neg_of_neg_of_pos h ss
      omega
    · exact h
  · have e := Int.gcd_mul_right (a.fdiv s) s (b.fdiv s)
    rw [← ea, ← eb, hs] at e
    exact Nat.eq_of_mul_eq_mul_right g0 (by omega)
theorem Red.le {p q a b : Int} (h : Red p q) (hb : b ≠ 0) (e : p * b = a * q) : q.natAbs ≤ b.natAbs := by
  have d : q ∣ b := dvd_of_cop (b := p) ⟨a, by rw [e, Int.mul_comm]⟩ (by rw [Int.gcd_comm]; exact h.2)
  exact Nat.le_of_dvd (by omega) (Int.natAbs_dvd_natAbs.mpr d)
theorem Red.lep {p q a b : Int} (h : Red p q) (hb : b ≠ 0) (e : p * b = a * q) : p.natAbs ≤ a.natAbs := by
  by_cases z : a = 0
  · subst z
    rw [Int.zero_mul] at e
    rcases Int.mul_eq_zero.mp e with e | e
    · subst e; simp
    · exact absurd e hb
  · have d : p ∣ a := dvd_of_cop (b := q) ⟨b, by rw [e, Int.mul_comm]⟩ h.2
    exact Nat.le_of_dvd (by omega) (Int.natAbs_dvd_natAbs.mpr d)
/-- a fraction's parts in lowest terms -/
def rn (a b : Int) : Int := a / (Int.gcd a b : Int)
def rd (a b : Int) : Int := b / (Int.gcd a b : Int)
theorem can_red {a b : Int} (hb : 0 < b) : Red (rn a b) (rd a b) ∧ rn a b * b = a * rd a b := by
  have g0 : 0 < Int.gcd a b := Int.gcd_pos_of_ne_zero_right a (by omega)
  obtain ⟨e1, e2, r, s0⟩ := red_of (a := a) (b := b) (s := (Int.gcd a b : Int)) (by omega) (by omega) (Int.mul_nonneg (by omega) (by omega))
  rw [Int.fdiv_eq_ediv_of_nonneg _ (by omega), Int.fdiv_eq_ediv_of_nonneg _ (by omega)] at r
  rw [Int.fdiv_eq_ediv_of_nonneg _ (by omega)] at e1 e2
  refine ⟨r, ?_⟩
  unfold rn rd
  generalize a / (Int.gcd a b : Int) = p at *
  generalize b / (Int.gcd a b : Int) = q at *
  generalize (Int.gcd a b : Int) = s at *
  rw [e1, e2]
  grind
theorem can_of {a b p q : Int} (hb : 0 < b) (r : Red p q) (c : p * b = a * q) : p = rn a b ∧ q = rd a b := by
  obtain ⟨r', c'⟩ := can_red (a := a) hb
  refine r.eq r' (Int.eq_of_mul_eq_mul_right (a := b) (by omega) ?_)
  generalize rn a b = x at *
  generalize rd a b = y at *
  grind
theorem can_cross {a b a' b' : Int} (hb : 0 < b) (hb' : 0 < b') (e : a * b' = a' * b) : rn a b = rn a' b' ∧ rd a b = rd a' b' := by
  obtain ⟨r, c⟩ := can_red (a := a) hb
  refine can_of hb' r (Int.eq_of_mul_eq_mul_right (a := b) (by omega) ?_)
  generalize rn a b = x at *
  generalize rd a b = y at *
  grind
theorem can_self {p q : Int} (r : Red p q) : rn p q = p ∧ rd p q = q := by
  obtain ⟨h1, h2⟩ := can_of (a := p) r.1 r rfl
  exact ⟨h1.symm, h2.symm⟩
theorem rn_le {a b : Int} (hb : 0 < b) : (rn a b).natAbs ≤ a.natAbs := (can_red (a := a) hb).1.lep (by omega) (can_red hb).2
theorem rd_le {a b : Int} (hb : 0 < b) : (rd a b).natAbs ≤ b.natAbs := (can_red (a := a) hb).1.le (by omega) (can_red hb).2
theorem rd_pos {a b : Int} (hb : 0 < b) : 0 < rd a b := (can_red (a := a) hb).1.1
theorem ediv_cross {u v V B : Int} (h : 0 < v) (h1 : 0 < B) (e : u * B = V * v) : u / v = V / B := by
  rw [← Int.mul_ediv_mul_of_pos u v h1, Int.mul_comm B u, e, Int.mul_comm V v, Int.mul_comm B v, Int.mul_ediv_mul_of_pos V B h]
theorem rn_div {a b : Int} (hb : 0 < b) : rn a b / rd a b = a / b := ediv_cross (rd_pos hb) hb (can_red hb).2
end VL

namespace VL
open PySem
/-! what the fractions' defs tell -/
@[simp] theorem whole_int (i : Int) : fn_is_whole [.int i] = .ok (.bl true) := by
  simp [fn_is_whole, b_is_whole]
theorem shared_ok (a b : Int) : fn_shared_by [.int a, .int b] = .ok (.int (Int.gcd a b)) := by
  obtain ⟨g, h1, h2, _⟩ := while_gcd c_shared_by_1 b_shared_by_1 (fun x y => [.sh (.int x), .sh (.int y)]) (fun x y => by simp [c_shared_by_1]) (fun x y h => by simp [b_shared_by_1, o_mod h]) _ a b (Nat.lt_succ_self _)
  have e : vWhile c_shared_by_1 b_shared_by_1 [.sh (.int a), .sh (.int b)] = .nx [.sh (.int g), .sh (.int 0)] := h1
  simp [fn_shared_by, b_shared_by, e]
  omega
/-- small enough to be divided by -/
abbrev Sm (b : Int) : Prop := Bd 8000 b
theorem Sm.of {b : Int} (h1 : -(2 ^ 64) < b) (h2 : b < 2 ^ 64) : Sm b := by
  have q : Bd 64 b := by unfold Bd; omega
  exact q.mono (by decide)
theorem fraction_ok (a b : Int) (hb : b ≠ 0) (hs : Sm b) : ∃ p q, fn_fraction [.int a, .int b] = .ok (.tup [.int p, .int q]) ∧ Red p q ∧ p * b = a * q := by
  have g1 : (Int.gcd a b : Int) ≠ 0 := by have := Int.gcd_pos_of_ne_zero_right a hb; omega
  have gs : (Int.gcd a b) ≤ b.natAbs := Nat.le_of_dvd (by omega) (Int.natAbs_dvd_natAbs.mpr (Int.gcd_dvd_right a b))
  by_cases h : b < 0
  · obtain ⟨e1, e2, r, s0⟩ := red_of (a := a) (b := b) (s := -(Int.gcd a b : Int)) hb (by omega) (by rw [Int.neg_mul, ← Int.mul_neg]; exact Int.mul_nonneg (by omega) (by omega))
    have d : divOk (-(Int.gcd a b : Int)) = true := Bd.divOk (hs.le (by omega)) s0
    refine ⟨_, _, ?_, r, ?_⟩
    · simp [fn_fraction, b_fraction, hb, shared_ok, h, o_fdiv d]
    · generalize a.fdiv (-(Int.gcd a b : Int)) = p at *
      generalize b.fdiv (-(Int.gcd a b : Int)) = q at *
      generalize (-(Int.gcd a b : Int)) = s at *
      rw [e1, e2]
      grind
  · obtain ⟨e1, e2, r, s0⟩ := red_of (a := a) (b := b) (s := (Int.gcd a b : Int)) hb (by omega) (Int.mul_nonneg (by omega) (by omega))
    have d : divOk (Int.gcd a b : Int) = true := Bd.divOk (hs.le (by omega)) s0
    refine ⟨_, _, ?_, r, ?_⟩
    · simp [fn_fraction, b_fraction, hb, shared_ok, h, o_fdiv d]
    · generalize a.fdiv (Int.gcd a b : Int) = p at *
      generalize b.fdiv (Int.gcd a b : Int) = q at *
      generalize (Int.gcd a b : Int) = s at *
      rw [e1, e2]
      grind

/-- a fraction in lowest terms, its parts small -/
structure Fr (n : Nat) (p q : Int) : Prop where
  r : Red p q
  bp : Bd n p
  bq : Bd n q
theorem sum_ok {n : Nat} {p q r s : Int} (h1 : Fr n p q) (h2 : Fr n r s) (hn : n ≤ 3000) : ∃ u v, fn_sum_of [.tup [.int p, .int q], .tup [.int r, .int s]] = .ok (.tup [.int u, .int v]) ∧ Red u v ∧ u * (q * s) = (p * s + r * q) * v := by
  have q0 := h1.r.1
  have s0 := h2.r.1
  have qs : 0 < q * s := Int.mul_pos q0 s0
  obtain ⟨u, v, e, r, c⟩ := fraction_ok (p * s + r * q) (q * s) (by omega) ((h1.bq.mul h2.bq).mono (by omega))
  refine ⟨u, v, ?_, r, c⟩
  simp [fn_sum_of, b_sum_of, o_mul ((h1.bp.mono (show n ≤ 400000 by omega)).mulOk (h2.bq.mono (show n ≤ 400000 by omega))), o_mul ((h2.bp.mono (show n ≤ 400000 by omega)).mulOk (h1.bq.mono (show n ≤ 400000 by omega))),
    o_mul ((h1.bq.mono (show n ≤ 400000 by omega)).mulOk (h2.bq.mono (show n ≤ 400000 by omega))), e]

theorem fr_mono {n m : Nat} {a b : Int} (f : Fr n a b) (h : n ≤ m) : Fr m a b := ⟨f.r, f.bp.mono h, f.bq.mono h⟩

theorem times_ok {n : Nat} {p q r s : Int} (h1 : Fr n p q) (h2 : Fr n r s) (hn : n ≤ 3000) : ∃ u v, fn_times_of [.tup [.int p, .int q], .tup [.int r, .int s]] = .ok (.tup [.int u, .int v]) ∧ Red u v ∧ u * (q * s) = (p * r) * v := by
  have q0 := h1.r.1
  have s0 := h2.r.1
  have qs : 0 < q * s := Int.mul_pos q0 s0
  obtain ⟨u, v, e, r, c⟩ := fraction_ok (p * r) (q * s) (by omega) ((h1.bq.mul h2.bq).mono (by omega))
  refine ⟨u, v, ?_, r, c⟩
  simp [fn_times_of, b_times_of, o_mul ((h1.bp.mono (show n ≤ 400000 by omega)).mulOk (h2.bp.mono (show n ≤ 400000 by omega))),
    o_mul ((h1.bq.mono (show n ≤ 400000 by omega)).mulOk (h2.bq.mono (show n ≤ 400000 by omega))), e]

theorem floor_ok {p q : Int} (h : 0 < q) (hb : Bd 8000 q) : fn_floor_of [.tup [.int p, .int q]] = .ok (.int (p / q)) := by
  simp [fn_floor_of, b_floor_of, o_div h (hb.divOk (by omega))]

theorem rest_ok {p q : Int} (h : 0 < q) (hb : Bd 8000 q) (hp : Bd 8000 p) : ∃ u v, fn_rest_of [.tup [.int p, .int q]] = .ok (.tup [.int u, .int v]) ∧ Red u v ∧ u * q = (p % q) * v := by
  have m : p - p / q * q = p % q := by have := Int.emod_add_mul_ediv p q; rw [Int.mul_comm]; omega
  obtain ⟨u, v, e, r, c⟩ := fraction_ok (p - p / q * q) q (by omega) hb
  refine ⟨u, v, ?_, r, m ▸ c⟩
  have b1 : Bd 400000 (p / q) := (hp.mono (by decide)).le (by
    have := Int.natAbs_ediv_le_natAbs p q
    exact this)
  simp [fn_rest_of, b_rest_of, o_div h (hb.divOk (by omega)), o_mul (b1.mulOk (hb.mono (by decide))), e]

theorem isfrac_ok {p q : Int} (h : Red p q) : fn_is_fraction [.tup [.int p, .int q]] = .ok (.bl true) := by
  have := h.1
  simp [fn_is_fraction, b_is_fraction, shared_ok, h.2, this]

/-- an item of a track -/
structure IT where
  s : Str
  mid : List D
  n : Int
def IT.d (t : IT) : D := .tup (.str t.s :: (t.mid ++ [.int t.n]))
structure IT.Ok (t : IT) : Prop where
  n1 : 1 ≤ t.n
  e : D.eqok 19 t.d = true
  f : D.flat t.d = true
theorem IT.at0 (t : IT) : opIx t.d (.int 0) = some (.str t.s) := by
  unfold IT.d
  rw [ix_tup, at_0]
theorem IT.atL (t : IT) : opIx t.d (.int (-1)) = some (.int t.n) := by
  show atD ((.str t.s :: t.mid) ++ [.int t.n]) (-1) = _
  exact at_last
theorem IT.Ok.s {t : IT} (h : t.Ok) : strS t.s = true := by
  have := h.e
  unfold IT.d at this
  rw [eqok_tup, eqoks_cons, Bool.and_eq_true, eqok_str] at this
  exact this.1
theorem IT.eqS {t : IT} (h : t.Ok) (z : Str) (hz : strS z = true) : opEq (.str t.s) (.str z) = some (.bl (decide (t.s = z))) := by
  rw [o_eq (by simp [h.s]) (by simp [hz]), deq_str]
theorem IT.neS {t : IT} (h : t.Ok) (z : Str) (hz : strS z = true) : opNe (.str t.s) (.str z) = some (.bl (!decide (t.s = z))) := by
  rw [o_ne (by simp [h.s]) (by simp [hz]), deq_str]
def IT.room (t : IT) : Int := if t.s = "mix" then 0 else t.n
theorem IT.eqs {ts : List IT} (h : ∀ t ∈ ts, t.Ok) : D.eqok 20 (.lst (ts.map IT.d)) = true := by
  rw [eqok_lst]
  refine eqoks_all fun d hd => ?_
  obtain ⟨t, ht, rfl⟩ := List.mem_map.mp hd
  exact (h t ht).e
theorem sMix : strS "mix" = true := by decide +kernel
theorem sGap : strS "gap" = true := by decide +kernel
theorem sClip : strS "clip" = true := by decide +kernel
theorem sNest : strS "nest" = true := by decide +kernel

/-! names -/
def LA (c : Nat) : Prop := 97 ≤ c ∧ c ≤ 122
theorem la_has {c : Nat} (h : LA c) : (Str.ofString "abcdefghijklmnopqrstuvwxyz").cps.contains c = true := by
  have q : ∀ k : Fin 26, (Str.ofString "abcdefghijklmnopqrstuvwxyz").cps.contains (97 + k.val) = true := by decide +kernel
  have := q ⟨c - 97, by have := h.1; have := h.2; omega⟩
  rwa [show 97 + (c - 97) = c by have := h.1; omega] at this
theorem has_la {c : Nat} (h : c ∈ (Str.ofString "abcdefghijklmnopqrstuvwxyz").cps) : LA c := by
  have q : (Str.ofString "abcdefghijklmnopqrstuvwxyz").cps.all (fun c => decide (97 ≤ c) && decide (c ≤ 122)) = true := by decide +kernel
  have := (Array.all_eq_true_iff_forall_mem.mp q) c h
  rw [Bool.and_eq_true] at this
  exact ⟨of_decide_eq_true this.1, of_decide_eq_true this.2⟩
theorem takeWhile_all {p : Nat → Bool} : ∀ {l : List Nat}, (∀ c ∈ l, p c = true) → l.takeWhile p = l
  | [], _ => rfl
  | c :: l, h => by rw [List.takeWhile_cons, if_pos (h c List.mem_cons_self), takeWhile_all fun d hd => h d (List.mem_cons_of_mem _ hd)]
theorem strip_all {z w : Str} (h : ∀ c ∈ z.cps.toList, w.cps.contains c = true) (n : z.length ≠ 0) : Txt.stripChars z w = "" := by
  have tw : z.cps.toList.takeWhile w.cps.contains = z.cps.toList := takeWhile_all h
  have lo : stripLo w.cps.contains true z = z.length := by
    unfold stripLo
    rw [if_pos rfl, tw]
    rfl
  have hi : stripHi w.cps.contains true z z.length = z.length := by
    unfold stripHi
    have : z.cps.toList.drop z.length = [] := List.drop_of_length_le (Nat.le_refl _)
    rw [if_pos rfl, this]
    rfl
  unfold Txt.stripChars Txt.stripBy stripSame stripped
  rw [lo, hi]
  have e : (z.length == 0) = false := by simpa using n
  rw [e]
  show (⟨z.cps.extract z.length z.length⟩ : Str) = _
  rw [Array.extract_empty_of_stop_le_start (Nat.le_refl _)]
  rfl
theorem str_app (x y : Str) : (x ++ y).cps.toList = x.cps.toList ++ y.cps.toList := by
  show (x.cps ++ y.cps).toList = _
  simp
theorem cut_to {z : Str} {v : Int} (h : 0 ≤ v) : (cutSD z none (some v)).cps.toList = z.cps.toList.take v.toNat := by
  unfold cutSD sIxD
  dsimp only
  rw [if_neg (by omega)]
  simp only [Nat.sub_zero, List.drop_zero]
  have l : z.length = z.cps.toList.length := rfl
  by_cases q : v.toNat ≤ z.length
  · rw [Nat.min_eq_left q]
  · rw [Nat.min_eq_right (by omega), List.take_of_length_le (by omega), List.take_of_length_le (by omega)]
theorem cut_from {z : Str} {v : Int} (h : 0 ≤ v) : (cutSD z (some v) none).cps.toList = z.cps.toList.drop v.toNat := by
  unfold cutSD sIxD
  dsimp only
  rw [if_neg (by omega)]
  have l : z.length = z.cps.toList.length := rfl
  by_cases q : v.toNat ≤ z.length
  · rw [Nat.min_eq_left q, List.take_of_length_le (by rw [List.length_drop]; omega)]
  · rw [Nat.min_eq_right (by omega), List.drop_of_length_le (show z.cps.toList.length ≤ v.toNat by omega), List.drop_of_length_le (by omega), List.take_nil]
theorem la_strS {z : Str} (h : ∀ c ∈ z.cps.toList, LA c) : strS z = true := by
  unfold strS
  rw [Array.all_eq_true_iff_forall_mem]
  exact fun c hc => decide_eq_true (by have := (h c (by simpa using hc)).2; omega)
/-- whether a text is a name -/
def nmB (z : Str) : Bool := !(decide (z = "") || decide (8 < z.length)) && decide (Txt.stripChars z "abcdefghijklmnopqrstuvwxyz" = "")
theorem isname_str {z : Str} (h1 : strS z = true) (h2 : z.length ≤ 1000000) (h3 : strS (Txt.stripChars z "abcdefghijklmnopqrstuvwxyz") = true) : fn_is_name [.str z] = .ok (.bl (nmB z)) := by
  have s3 : strS "" = true := by decide +kernel
  have i1 : opIsi "str" (.str z) = some (.bl true) := rfl
  have e1 : opEq (.str z) (.str "") = some (.bl (decide (z = ""))) := by rw [o_eq (by simp [h1]) (by simp [s3]), deq_str]
  have b1 : bfLen [.str z] = some (.int z.length) := if_pos h2
  have e2 : opEq (.str (Txt.stripChars z "abcdefghijklmnopqrstuvwxyz")) (.str "") = some (.bl (decide (Txt.stripChars z "abcdefghijklmnopqrstuvwxyz" = ""))) := by rw [o_eq (by simp [h3]) (by simp [s3]), deq_str]
  have m1 : ∀ {e : Env}, e[0]? = some (.sh (.str z)) → vM1 opStrip (vVar 0) (vC g_LETTERS) e = .ok (.str (Txt.stripChars z "abcdefghijklmnopqrstuvwxyz")) e := fun {e} h => by
    unfold vM1
    have hv : vVar 0 e = .ok (.str z) e := by simp [h]
    rw [hv]
    show Res.of (if z.length ≤ vmax then some (D.str (Txt.stripChars z "abcdefghijklmnopqrstuvwxyz")) else none) e = _
    rw [if_pos (show z.length ≤ vmax from h2)]
    rfl
  unfold nmB
  by_cases n0 : z = ""
  · subst n0
    simp [fn_is_name, b_is_name, i1, e1]
  · by_cases n8 : 8 < z.length
    · have : (8 : Int) < (z.length : Int) := by omega
      simp [fn_is_name, b_is_name, i1, e1, n0, b1, g_MOST_LETTERS, n8, this]
    · have : ¬ (8 : Int) < (z.length : Int) := by omega
      simp [fn_is_name, b_is_name, i1, e1, n0, b1, g_MOST_LETTERS, n8, this, m1, e2]
/-- a name -/
structure Nm (z : Str) : Prop where
  l1 : 1 ≤ z.length
  l8 : z.length ≤ 8
  la : ∀ c ∈ z.cps.toList, LA c
theorem Nm.s {z : Str} (h : Nm z) : strS z = true := la_strS h.la
theorem Nm.b {z : Str} (h : Nm z) : fn_is_name [.str z] = .ok (.bl true) := by
  have e := strip_all (z := z) (w := "abcdefghijklmnopqrstuvwxyz") (fun c hc => la_has (h.la c hc)) (by have := h.l1; omega)
  have s3 : strS "" = true := by decide +kernel
  rw [isname_str h.s (by have := h.l8; omega) (by rw [e]; exact s3)]
  have n0 : z ≠ "" := fun q => by
    have := h.l1
    rw [q] at this
    have l0 : ("" : Str).length = 0 := by decide +kernel
    omega
  have n8 : ¬ 8 < z.length := by have := h.l8; omega
  unfold nmB
  rw [e]
  simp [n0, n8]

theorem cell_ok (ns : List Int) (k : Int) (h : 0 ≤ k) : ∃ c, fn__law_cell_at [.lst (ns.map D.int), .int k] = .ok (.int c) := by
  by_cases q : k.toNat < ns.length
  · refine ⟨ns[k.toNat], ?_⟩
    have e : atD (ns.map D.int) k = some (.int ns[k.toNat]) := at_of (n := k.toNat) (by omega) (by simp [q])
    have : k < (ns.length : Int) := by omega
    simp [fn__law_cell_at, b__law_cell_at, this, e]
  · have : ¬ k < (ns.length : Int) := by omega
    exact ⟨0, by simp [fn__law_cell_at, b__law_cell_at, this]⟩

theorem drawn_ok (n : Int) (m : Nat) (hm : m ≤ 1000) : ∃ xs : List Int, fn__law_drawn [.int n, .int m] = .ok (.lst (xs.map D.int)) ∧ xs.length = m ∧ ∀ x ∈ xs, 0 ≤ x ∧ x < 2147483648 := by
  obtain ⟨e1, h1, xs, x, k, rfl, hl, hx, hb⟩ := loop_at (g := gNam 4) (b := b__law_drawn_1) (fun i e => ∃ (xs : List Int) (x : Int) (k : Sl), e = [.sh (.int n), .sh (.int m), .ow false (xs.map D.int), .sh (.int x), k] ∧ xs.length = i ∧ (0 ≤ x ∧ x < 2147483629) ∧ ∀ x ∈ xs, 0 ≤ x ∧ x < 2147483648)
    ((List.range m).map fun (i : Nat) => .int (i : Int)) [.sh (.int n), .sh (.int m), .ow false [], .sh (.int (n % 2147483629)), .no] ⟨[], _, _, rfl, rfl, by omega, by simp⟩ (by
    rintro i d hd e ⟨xs, x, k, rfl, hl, hx, hb⟩
    obtain ⟨hi, rfl⟩ := rng_at hd
    have l : xs.length < 1000000 := by omega
    have m1 := mulOk_l (i := x) (j := x) (by omega) (by omega)
    have run : turn (gNam 4) b__law_drawn_1 (.int i) [.sh (.int n), .sh (.int m), .ow false (xs.map D.int), .sh (.int x), k] = .nx [.sh (.int n), .sh (.int m), .ow false ((xs ++ [(x * x + 40692 * x + 2 * (i : Int) + 1) % 2147483629 / 3]).map D.int), .sh (.int ((x * x + 40692 * x + 2 * (i : Int) + 1) % 2147483629)), .sh (.int i)] := by
      simp [turn_nam, b__law_drawn_1, o_mul m1, o_mul, mulOk_l, o_rem, o_div, divOk_s, l]
    refine ⟨_, run, _, _, _, rfl, by simp [hl], by omega, fun y hy => ?_⟩
    rcases List.mem_append.mp hy with hy | hy
    · exact hb y hy
    · simp at hy
      omega)
  refine ⟨xs, ?_, by simpa using hl, hb⟩
  have r := rng1_of (m := vCons (vVar 1) vNil) (e := [.sh (.int n), .sh (.int m), .ow false [], .sh (.int (n % 2147483629)), .no]) (e1 := [.sh (.int n), .sh (.int m), .ow false [], .sh (.int (n % 2147483629)), .no]) (j := m) (by simp) (by omega) (by omega)
  rw [Int.toNat_natCast] at r
  simp [fn__law_drawn, b__law_drawn, o_rem, r, h1]

theorem mulB {n m : Nat} {x y : Int} (h1 : Bd n x) (h2 : Bd m y) (q1 : n ≤ 400000 := by decide) (q2 : m ≤ 400000 := by decide) : opMul (.int x) (.int y) = some (.int (x * y)) := o_mul ((h1.mono q1).mulOk (h2.mono q2))
theorem quo_ok {n : Nat} {p q r s : Int} (h1 : Fr n p q) (h2 : Fr n r s) (hr : 0 < r) (hn : n ≤ 3000) : ∃ u v, fn_quotient [.tup [.int p, .int q], .tup [.int r, .int s]] = .ok (.tup [.int u, .int v]) ∧ Red u v ∧ u * (q * r) = (p * s) * v := by
  have q0 := h1.r.1
  have qr : 0 < q * r := Int.mul_pos q0 hr
  obtain ⟨u, v, e, r', c⟩ := fraction_ok (p * s) (q * r) (by omega) ((h1.bq.mul h2.bp).mono (by omega))
  refine ⟨u, v, ?_, r', c⟩
  have r0 : r ≠ 0 := by omega
  simp [fn_quotient, b_quotient, r0, o_mul ((h1.bp.mono (show n ≤ 400000 by omega)).mulOk (h2.bq.mono (show n ≤ 400000 by omega))), o_mul ((h1.bq.mono (show n ≤ 400000 by omega)).mulOk (h2.bp.mono (show n ≤ 400000 by omega))), e]
/-- a rate -/
structure RT (a b : Int) : Prop where
  f : Fr 60 a b
  p : 1 ≤ a
theorem row_ok {a b c d B : Int} {w : D} (h1 : RT a b) (h2 : RT c d) (hB : Bd 120 B) : ∃ fl r s, fn_row_at [.int B, .tup [.int a, .int b], .tup [.int c, .int d], w] = .ok (.tup [.int fl, .tup [.int r, .int s], w]) ∧ Red r s ∧ 0 ≤ r ∧ r < s ∧ (fl * s + r) * a * d = B * c * b * s ∧ Bd 400 fl ∧ Bd 400 s := by
  have d0 := h2.f.r.1
  have b0 := h1.f.r.1
  have a0 := h1.p
  obtain ⟨t, x, e1, r1, c1⟩ := times_ok (n := 120) (p := B) (q := 1) ⟨⟨by decide, by simp⟩, hB, by unfold Bd; decide⟩ (fr_mono h2.f (by decide)) (by decide)
  rw [Int.one_mul] at c1
  have x0 := r1.1
  have ft : Fr 200 t x := ⟨r1, ((hB.mul h2.f.bp).mono (by decide)).le (r1.lep (by omega) c1), (h2.f.bq.mono (by decide)).le (r1.le (by omega) c1)⟩
  obtain ⟨u, v, e2, r2, c2⟩ := quo_ok ft (fr_mono h1.f (by decide)) (show 0 < a by omega) (by decide)
  have v0 := r2.1
  have xa : 0 < x * a := Int.mul_pos x0 (by omega)
  have bu : Bd 400 u := ((ft.bp.mul h1.f.bq).mono (by decide)).le (r2.lep (by omega) c2)
  have bv : Bd 400 v := ((ft.bq.mul h1.f.bp).mono (by decide)).le (r2.le (by omega) c2)
  obtain ⟨r, s, e3, r3, c3⟩ := rest_ok v0 (bv.mono (by decide)) (bu.mono (by decide))
  have s0 := r3.1
  have m0 := Int.emod_nonneg u (b := v) (by omega)
  have m1 := Int.emod_lt_of_pos u v0
  have dm := Int.emod_add_mul_ediv u v
  have r0 : 0 ≤ r := by
    have : 0 ≤ r * v := by rw [c3]; exact Int.mul_nonneg m0 (by omega)
    exact Int.nonneg_of_mul_nonneg_left this v0
  have rl : r < s := by
    have : r * v < s * v := by
      rw [c3, Int.mul_comm s]
      exact Int.mul_lt_mul_of_pos_right m1 s0
    exact Int.lt_of_mul_lt_mul_right this (by omega)
  refine ⟨u / v, r, s, by simp [fn_row_at, b_row_at, e1, e2, floor_ok v0 (bv.mono (by decide)), e3], r3, r0, rl, ?_, bu.le (Int.natAbs_ediv_le_natAbs _ _), bv.le (r3.le (by omega) c3)⟩
  have k1 : (u / v * s + r) * v = s * u := by
    generalize u % v = m at *
    generalize u / v = f at *
    rw [← dm]
    grind
  have k2 : u * (d * a) = B * c * b * v := by
    apply Int.eq_of_mul_eq_mul_right (a := x) (by omega)
    grind
  apply Int.eq_of_mul_eq_mul_right (a := v) (by omega)
  generalize u / v = f at *
  grind
theorem room_ok {t : IT} (h : t.Ok) : fn_room_of [t.d] = .ok (.int t.room) := by
  have e := t.eqS h "mix" sMix
  by_cases q : t.s = "mix"
  · rw [decide_eq_true q] at e
    unfold IT.room
    rw [if_pos q]
    simp [fn_room_of, b_room_of, t.at0, e]
  · rw [decide_eq_false q] at e
    unfold IT.room
    rw [if_neg q]
    simp [fn_room_of, b_room_of, t.at0, t.atL, e]
/-- the item without its length -/
def IT.ws (t : IT) : List D := if t.s = "mix" then .str t.s :: (t.mid ++ [.int t.n]) else .str t.s :: t.mid
theorem eqoks_app {n : Nat} : ∀ {xs ys : List D}, D.eqoks n (xs ++ ys) = (D.eqoks n xs && D.eqoks n ys)
  | [], ys => by simp
  | x :: xs, ys => by rw [List.cons_append, eqoks_cons, eqoks_cons, eqoks_app, Bool.and_assoc]
theorem eqok_up : ∀ {n : Nat} {d : D}, D.eqok n d = true → D.eqok 20 d = true → True := fun _ _ => trivial
theorem IT.wsE {t : IT} (h : t.Ok) : D.eqok 19 (.tup t.ws) = true := by
  have e := h.e
  unfold IT.ws
  by_cases q : t.s = "mix"
  · rw [if_pos q]; exact e
  · rw [if_neg q]
    unfold IT.d at e
    rw [eqok_tup, eqoks_cons, eqoks_app, Bool.and_eq_true, Bool.and_eq_true] at e
    rw [eqok_tup, eqoks_cons, e.1, e.2.1]
    rfl
theorem without_ok {t : IT} (h : t.Ok) : fn_without_length [t.d] = .ok (.tup t.ws) := by
  have e := t.eqS h "mix" sMix
  by_cases q : t.s = "mix"
  · rw [decide_eq_true q] at e
    have w : D.tup t.ws = t.d := by unfold IT.ws IT.d; rw [if_pos q]
    rw [w]
    simp [fn_without_length, b_without_length, t.at0, e]
  · rw [decide_eq_false q] at e
    have w : D.tup t.ws = .tup (.str t.s :: t.mid) := by unfold IT.ws; rw [if_neg q]
    have sl : slT none (some (-1)) t.d = some (.tup (.str t.s :: t.mid)) := slT_tupL
    rw [w]
    simp [fn_without_length, b_without_length, t.at0, e, sl]
/-- a row -/
noncomputable def rowOf (a b c d B : Int) (w : D) : D := match fn_row_at [.int B, .tup [.int a, .int b], .tup [.int c, .int d], w] with
  | .ok x => x
  | _ => .non
noncomputable def rows (a b c d : Int) : Int → List IT → List D
  | B, [] => [rowOf a b c d B (.tup [.str "end"])]
  | B, t :: ts => rowOf a b c d B (.tup t.ws) :: rows a b c d (B + t.room) ts
theorem rows_len {a b c d : Int} : ∀ (B : Int) (ts : List IT), (rows a b c d B ts).length = ts.length + 1
  | _, [] => rfl
  | B, t :: ts => by rw [rows, List.length_cons, rows_len, List.length_cons]
theorem row_of {a b c d B : Int} {w : D} (h1 : RT a b) (h2 : RT c d) (hB : Bd 120 B) : fn_row_at [.int B, .tup [.int a, .int b], .tup [.int c, .int d], w] = .ok (rowOf a b c d B w) := by
  obtain ⟨fl, r, s, e, _⟩ := row_ok (w := w) h1 h2 hB
  unfold rowOf
  rw [e]
/-- the items' rooms are small -/
def Sm30 (t : IT) : Prop := t.n ≤ 2000000000000000000000000000000
theorem room_b {t : IT} (h : t.Ok) (hs : Sm30 t) : 0 ≤ t.room ∧ t.room ≤ 2000000000000000000000000000000 := by
  have := h.n1
  unfold Sm30 at hs
  unfold IT.room
  split <;> omega
/-- at most k items' lengths -/
def BL (k : Nat) (B : Int) : Prop := 0 ≤ B ∧ B ≤ k * 2000000000000000000000000000000
theorem BL.step {k : Nat} {B r : Int} (h : BL k B) (h0 : 0 ≤ r) (h1 : r ≤ 2000000000000000000000000000000) : BL (k + 1) (B + r) := by
  unfold BL at *
  omega
theorem bB {B : Int} {k : Nat} (hk : k ≤ 1000) (h0 : 0 ≤ B) (h : B ≤ k * 2000000000000000000000000000000) : Bd 120 B := by
  have : B ≤ 1000 * 2000000000000000000000000000000 := by omega
  unfold Bd
  omega
theorem BL.b {k : Nat} {B : Int} (h : BL k B) (hk : k ≤ 1000) : Bd 120 B := bB hk h.1 h.2
theorem written_loop {a b c d : Int} {S : Sl} (h1 : RT a b) (h2 : RT c d) : ∀ (ts : List IT) (R : List D) (B : Int) (k : Nat) (v : Sl), (∀ t ∈ ts, t.Ok ∧ Sm30 t) → BL k B → k + ts.length ≤ 900 → R.length + ts.length ≤ 1000 →
    ∃ B' v', Bd 120 B' ∧ forL (gNam 5) b_written_1 (ts.map IT.d) [S, .sh (.tup [.int a, .int b]), .sh (.tup [.int c, .int d]), .ow false R, .sh (.int B), v] = .nx [S, .sh (.tup [.int a, .int b]), .sh (.tup [.int c, .int d]), .ow false (R ++ (rows a b c d B ts).dropLast), .sh (.int B'), v'] ∧ (rows a b c d B ts).dropLast ++ [rowOf a b c d B' (.tup [.str "end"])] = rows a b c d B ts
  | [], R, B, k, v, _, hB, hk, _ => ⟨B, v, hB.b (by simp at hk; omega), by simp [forL, rows], by simp [rows]⟩
  | t :: ts, R, B, k, v, h, hB, hk, hR => by
    obtain ⟨ok, sm⟩ := h t List.mem_cons_self
    obtain ⟨r0, r1⟩ := room_b ok sm
    obtain ⟨B', v', bb, e, er⟩ := written_loop (S := S) h1 h2 ts (R ++ [rowOf a b c d B (.tup t.ws)]) (B + t.room) (k + 1) (.sh t.d) (fun t ht => h t (List.mem_cons_of_mem _ ht)) (hB.step r0 r1) (by simp at hk; omega) (by simp at hR ⊢; omega)
    have ro := row_of (w := .tup t.ws) h1 h2 (hB.b (by omega))
    have ll : R.length < 1000000 := by simp at hR; omega
    have run : turn (gNam 5) b_written_1 t.d [S, .sh (.tup [.int a, .int b]), .sh (.tup [.int c, .int d]), .ow false R, .sh (.int B), v] = .nx [S, .sh (.tup [.int a, .int b]), .sh (.tup [.int c, .int d]), .ow false (R ++ [rowOf a b c d B (.tup t.ws)]), .sh (.int (B + t.room)), .sh t.d] := by
      rw [turn_nam' (by simp)]
      simp [b_written_1, without_ok ok, ro, room_ok ok, ll]
    have ne : rows a b c d (B + t.room) ts ≠ [] := fun z => by
      have := rows_len (a := a) (b := b) (c := c) (d := d) (B + t.room) ts
      rw [z] at this
      simp at this
    have dl : (rows a b c d B (t :: ts)).dropLast = rowOf a b c d B (.tup t.ws) :: (rows a b c d (B + t.room) ts).dropLast := by
      rw [rows, List.dropLast_cons_of_ne_nil ne]
    refine ⟨B', v', bb, ?_, ?_⟩
    · rw [List.map_cons, forL_nx run, e, dl]
      simp
    · rw [dl, rows, List.cons_append, er]
theorem check_ok {a b c d : Int} (h1 : RT a b) (h2 : RT c d) : fn_check_rates [.tup [.int a, .int b], .tup [.int c, .int d]] = .ok .non := by
  have i1 := isfrac_ok h1.f.r
  have i2 := isfrac_ok h2.f.r
  have l1 : ¬ a < 1 := by have := h1.p; omega
  have l2 : ¬ c < 1 := by have := h2.p; omega
  have t1 : turn (gNam 2) b_check_rates_1 (.tup [.int a, .int b]) [.sh (.tup [.int a, .int b]), .sh (.tup [.int c, .int d]), .no] = .nx [.sh (.tup [.int a, .int b]), .sh (.tup [.int c, .int d]), .sh (.tup [.int a, .int b])] := by
    simp [turn_nam, b_check_rates_1, i1, l1]
  have t2 : turn (gNam 2) b_check_rates_1 (.tup [.int c, .int d]) [.sh (.tup [.int a, .int b]), .sh (.tup [.int c, .int d]), .sh (.tup [.int a, .int b])] = .nx [.sh (.tup [.int a, .int b]), .sh (.tup [.int c, .int d]), .sh (.tup [.int c, .int d])] := by
    simp [turn_nam, b_check_rates_1, i2, l2]
  have e : forL (gNam 2) b_check_rates_1 [.tup [.int a, .int b], .tup [.int c, .int d]] [.sh (.tup [.int a, .int b]), .sh (.tup [.int c, .int d]), .no] = .nx [.sh (.tup [.int a, .int b]), .sh (.tup [.int c, .int d]), .sh (.tup [.int c, .int d])] := by
    rw [forL_nx t1, forL_nx t2]
    rfl
  simp [fn_check_rates, b_check_rates, e]
theorem written_ok {a b c d : Int} {ts : List IT} (h1 : RT a b) (h2 : RT c d) (h : ∀ t ∈ ts, t.Ok ∧ Sm30 t) (hl : ts.length ≤ 500) : fn_written [.lst (ts.map IT.d), .tup [.int a, .int b], .tup [.int c, .int d]] = .ok (.lst (rows a b c d 0 ts)) := by
  obtain ⟨B', v', bb, e, er⟩ := written_loop (S := .sh (.lst (ts.map IT.d))) h1 h2 ts [] 0 0 .no h ⟨by omega, by omega⟩ (by omega) (by simp; omega)
  have ro := row_of (w := .tup [.str "end"]) h1 h2 bb
  have ll : (rows a b c d 0 ts).dropLast.length < 1000000 := by rw [List.length_dropLast, rows_len]; omega
  simp only [List.nil_append] at e
  rw [← er]
  generalize (rows a b c d 0 ts).dropLast = Y at *
  simp [fn_written, b_written, check_ok h1 h2, e, ro, ll]
/-- an odd rate -/
def restB (x : D) : D := match opIx x (.int 1) with
  | some y => .bl (D.deq y (.tup [.int 0, .int 1]))
  | none => .non
theorem rows_all {a b c d : Int} (h1 : RT a b) (h2 : RT c d) : ∀ (ts : List IT) (B : Int) (k : Nat), (∀ t ∈ ts, t.Ok ∧ Sm30 t) → BL k B → k + ts.length ≤ 900 → ∀ x ∈ rows a b c d B ts, ∃ fl r s w, x = .tup [.int fl, .tup [.int r, .int s], w]
  | [], B, k, _, hB, hk => by
    obtain ⟨fl, r, s, e, _⟩ := row_ok (w := .tup [.str "end"]) h1 h2 (hB.b (by simp at hk; omega))
    intro x hx
    rw [rows, List.mem_singleton] at hx
    subst hx
    unfold rowOf
    rw [e]
    exact ⟨_, _, _, _, rfl⟩
  | t :: ts, B, k, h, hB, hk => by
    obtain ⟨ok, sm⟩ := h t List.mem_cons_self
    obtain ⟨r0, r1⟩ := room_b ok sm
    obtain ⟨fl, r, s, e, _⟩ := row_ok (w := .tup t.ws) h1 h2 (hB.b (by simp at hk; omega))
    intro x hx
    rw [rows, List.mem_cons] at hx
    rcases hx with rfl | hx
    · unfold rowOf
      rw [e]
      exact ⟨_, _, _, _, rfl⟩
    · exact rows_all h1 h2 ts (B + t.room) (k + 1) (fun t ht => h t (List.mem_cons_of_mem _ ht)) (hB.step r0 r1) (by simp at hk; omega) x hx
theorem bools_of {ds : List D} (h : ∀ d ∈ ds, ∃ k, d = .bl k) : ∃ g, bfAll [.lst ds] = some (.bl g) := by
  obtain ⟨bs, rfl, _⟩ := of_all (f := D.bl) (P := fun _ => True) (fun z hz => by
    obtain ⟨k, e⟩ := h z hz
    exact ⟨k, e, trivial⟩)
  refine ⟨bs.all id, ?_⟩
  have e : ∀ bs : List Bool, boolsD (bs.map D.bl) = some bs := fun bs => by
    induction bs with
    | nil => rfl
    | cons b bs ih =>
      show (boolsD (bs.map D.bl)).map (b :: ·) = _
      rw [ih]
      rfl
  show (boolsD (bs.map D.bl)).map _ = _
  rw [e]
  rfl

/-- a good item of a track -/
inductive GI : IT → Prop
  | gap {n : Int} (h : 1 ≤ n) : GI ⟨"gap", [], n⟩
  | nest {z : Str} {k n : Int} (hz : Nm z) (hk : 0 ≤ k) (h : 1 ≤ n) : GI ⟨"nest", [.str z, .int k], n⟩
  | clip {z : Str} {p q u v n : Int} (hz : Nm z) (r1 : Red p q) (r2 : Red u v) (h : 1 ≤ n) : GI ⟨"clip", [.str z, .tup [.int p, .int q], .tup [.int u, .int v]], n⟩
  | mix {n : Int} (h : 1 ≤ n) : GI ⟨"mix", [], n⟩
theorem GI.ok {t : IT} (h : GI t) : t.Ok := by
  cases h with
  | gap h => exact ⟨h, by simp [IT.d, sGap], by simp [IT.d]⟩
  | nest hz hk h => exact ⟨h, by simp [IT.d, sNest, hz.s], by simp [IT.d]⟩
  | clip hz r1 r2 h => exact ⟨h, by simp [IT.d, sClip, hz.s], by simp [IT.d]⟩
  | mix h => exact ⟨h, by simp [IT.d, sMix], by simp [IT.d]⟩
theorem wrd : ("nest" : Str) ≠ "gap" ∧ ("clip" : Str) ≠ "gap" ∧ ("mix" : Str) ≠ "gap" ∧ ("end" : Str) ≠ "gap" ∧ ("" : Str) ≠ "gap" ∧ ("nest" : Str) ≠ "mix" ∧ ("clip" : Str) ≠ "mix" ∧ ("gap" : Str) ≠ "mix" ∧ ("end" : Str) ≠ "mix" ∧ ("" : Str) ≠ "mix" ∧
    ("nest" : Str) ≠ "clip" ∧ ("gap" : Str) ≠ "clip" ∧ ("mix" : Str) ≠ "clip" ∧ ("end" : Str) ≠ "clip" ∧ ("" : Str) ≠ "clip" ∧ ("gap" : Str) ≠ "nest" ∧ ("clip" : Str) ≠ "nest" ∧ ("mix" : Str) ≠ "nest" ∧ ("end" : Str) ≠ "nest" ∧ ("" : Str) ≠ "nest" ∧
    ("gap" : Str) ≠ "end" ∧ ("clip" : Str) ≠ "end" ∧ ("mix" : Str) ≠ "end" ∧ ("nest" : Str) ≠ "end" ∧ ("" : Str) ≠ "end" ∧ ("gap" : Str) ≠ "" ∧ ("clip" : Str) ≠ "" ∧ ("mix" : Str) ≠ "" ∧ ("nest" : Str) ≠ "" ∧ ("end" : Str) ≠ "" := by decide +kernel
theorem sEnd : strS "end" = true := by decide +kernel
theorem sNo : strS "" = true := by decide +kernel
/-- may a word stand behind another -/
def fol (w l : Str) : Bool := if l = "end" ∨ (l = "mix" ∧ w ≠ "clip") then false else if w = "mix" then decide (l = "clip") else (decide (w ≠ "gap") && decide (w ≠ "end")) || decide (l ≠ "gap")
/-- the words of a track, in order -/
def Lo : Str → List IT → Prop
  | _, [] => True
  | w, t :: ts => fol t.s w = true ∧ Lo t.s ts
def lw : Str → List IT → Str
  | w, [] => w
  | _, t :: ts => lw t.s ts
theorem lo_app {us : List IT} : ∀ {w : Str} {ts : List IT}, Lo w (ts ++ us) ↔ Lo w ts ∧ Lo (lw w ts) us
  | w, [] => by simp [Lo, lw]
  | w, t :: ts => by
    simp only [List.cons_append, Lo, lw, lo_app (us := us) (w := t.s) (ts := ts), and_assoc]
theorem lw_app {us : List IT} : ∀ {w : Str} {ts : List IT}, lw w (ts ++ us) = lw (lw w ts) us
  | w, [] => rfl
  | w, t :: ts => lw_app (w := t.s) (ts := ts)
theorem lw_one {w : Str} {ts : List IT} {t : IT} : lw w (ts ++ [t]) = t.s := by rw [lw_app]; rfl
/-- the words a track may end with while it grows -/
def Wd (l : Str) : Prop := l = "" ∨ l = "gap" ∨ l = "nest" ∨ l = "clip"
structure Trk (ts : List IT) : Prop where
  g : ∀ t ∈ ts, GI t ∧ Sm30 t
  lo : Lo "" ts
  wd : Wd (lw "" ts)
/-- what is put behind a track whose last word is l -/
inductive Grow (l : Str) : List IT → Prop
  | none : Grow l []
  | one {t : IT} (g : GI t) (sm : Sm30 t) (n : t.s ≠ "mix") (h : t.s = "gap" → l ≠ "gap") : Grow l [t]
  | two {t : IT} {n : Int} (g : GI t) (sm : Sm30 t) (h : t.s = "clip") (hl : l = "clip") (n1 : 1 ≤ n) (n2 : n ≤ 100) : Grow l [⟨"mix", [], n⟩, t]
theorem GI.wd {t : IT} (h : GI t) (n : t.s ≠ "mix") : Wd t.s := by
  cases h with
  | gap h => exact .inr (.inl rfl)
  | nest hz hk h => exact .inr (.inr (.inl rfl))
  | clip hz r1 r2 h => exact .inr (.inr (.inr rfl))
  | mix h => exact absurd rfl n
theorem Wd.no {l : Str} (h : Wd l) : l ≠ "end" ∧ l ≠ "mix" := by
  obtain ⟨a1, a2, a3, a4, a5, a6, a7, a8, a9, a10, a11, a12, a13, a14, a15, a16, a17, a18, a19, a20, a21, a22, a23, a24, a25, _⟩ := wrd
  rcases h with rfl | rfl | rfl | rfl
  · exact ⟨a25, a10⟩
  · exact ⟨a21, a8⟩
  · exact ⟨a24, a6⟩
  · exact ⟨a22, a7⟩
theorem fol_wd {w l : Str} (h : Wd l) (hw : Wd w) (n : w = "gap" → l ≠ "gap") (nw : w ≠ "") : fol w l = true := by
  obtain ⟨a1, a2, a3, a4, a5, a6, a7, a8, a9, a10, a11, a12, a13, a14, a15, a16, a17, a18, a19, a20, a21, a22, a23, a24, a25, _⟩ := wrd
  obtain ⟨h1, h2⟩ := h.no
  obtain ⟨h3, h4⟩ := hw.no
  unfold fol
  by_cases g : w = "gap"
  · simp [h1, h2, h4, n g]
  · simp [h1, h2, h3, h4, g]
theorem fol_end {l : Str} (h : Wd l) (n : l ≠ "gap") : fol "end" l = true := by
  obtain ⟨h1, h2⟩ := h.no
  obtain ⟨a1, a2, a3, a4, a5, a6, a7, a8, a9, a10, a11, a12, a13, a14, a15, a16, a17, a18, a19, a20, a21, a22, a23, a24, a25, _⟩ := wrd
  unfold fol
  simp [h1, h2, n, a9]
theorem GI.ne {t : IT} (h : GI t) : t.s ≠ "" := by
  obtain ⟨a1, a2, a3, a4, a5, a6, a7, a8, a9, a10, a11, a12, a13, a14, a15, a16, a17, a18, a19, a20, a21, a22, a23, a24, a25, a26, a27, a28, a29, a30⟩ := wrd
  cases h with
  | gap h => exact a26
  | nest hz hk h => exact a29
  | clip hz r1 r2 h => exact a27
  | mix h => exact a28
theorem Trk.nil : Trk [] := ⟨by simp, trivial, .inl rfl⟩
theorem Trk.grow {ts us : List IT} (h : Trk ts) (g : Grow (lw "" ts) us) : Trk (ts ++ us) := by
  obtain ⟨a1, a2, a3, a4, a5, a6, a7, a8, a9, a10, a11, a12, a13, a14, a15, a16, a17, a18, a19, a20, a21, a22, a23, a24, a25, _⟩ := wrd
  generalize hl : lw "" ts = l at g
  cases g with
  | none => simpa using h
  | one g sm n hg =>
    rename_i t
    refine ⟨fun u hu => ?_, lo_app.mpr ⟨h.lo, ?_, trivial⟩, ?_⟩
    · rcases List.mem_append.mp hu with hu | hu
      · exact h.g u hu
      · rw [List.mem_singleton.mp hu]
        exact ⟨g, sm⟩
    · exact fol_wd h.wd (g.wd n) (fun q => hl ▸ hg q) g.ne
    · rw [lw_one]
      exact g.wd n
  | two g sm hc hlc n1 n2 =>
    rename_i t n
    refine ⟨fun u hu => ?_, lo_app.mpr ⟨h.lo, ?_, ?_, trivial⟩, ?_⟩
    · rcases List.mem_append.mp hu with hu | hu
      · exact h.g u hu
      · rcases List.mem_cons.mp hu with rfl | hu
        · exact ⟨.mix n1, by show n ≤ _; omega⟩
        · rw [List.mem_singleton.mp hu]
          exact ⟨g, sm⟩
    · rw [hl, hlc]
      show fol "mix" "clip" = true
      unfold fol
      simp [a7, a22]
    · show fol t.s "mix" = true
      rw [hc]
      unfold fol
      simp [a23, a7, a22, a2]
    · rw [lw_app]
      exact .inr (.inr (.inr hc))
/-- a whole track -/
structure TrkE (ts : List IT) : Prop where
  g : ∀ t ∈ ts, GI t ∧ Sm30 t
  lo : Lo "" ts
  e : fol "end" (lw "" ts) = true
theorem Trk.done {ts : List IT} (h : Trk ts) (n : lw "" ts ≠ "gap") : TrkE ts := ⟨h.g, h.lo, fol_end h.wd n⟩
theorem Trk.pop {us : List IT} {u : IT} (h : Trk (us ++ [u])) (q : u.s = "gap") : TrkE us := by
  obtain ⟨a1, a2, a3, a4, a5, a6, a7, a8, a9, a10, a11, a12, a13, a14, a15, a16, a17, a18, a19, a20, a21, a22, a23, a24, a25, _⟩ := wrd
  have lo := (lo_app.mp h.lo)
  refine ⟨fun t ht => h.g t (by simp [ht]), lo.1, ?_⟩
  have f : fol u.s (lw "" us) = true := lo.2.1
  rw [q] at f
  unfold fol at f ⊢
  generalize lw "" us = l at *
  by_cases h1 : l = "end"
  · simp [h1] at f
  · by_cases h2 : l = "mix"
    · simp [h2, a23, a12] at f
    · simp [h1, h2, a8] at f
      simp [h1, h2, a9, f]

/-! read_back -/
theorem w_in : (tabNotIn g_WIDTHS (.str "clip") = some (.bl false) ∧ tabNotIn g_WIDTHS (.str "nest") = some (.bl false) ∧ tabNotIn g_WIDTHS (.str "gap") = some (.bl false) ∧ tabNotIn g_WIDTHS (.str "mix") = some (.bl false) ∧ tabNotIn g_WIDTHS (.str "end") = some (.bl false)) ∧
    tabIx g_WIDTHS (.str "clip") = some (.int 4) ∧ tabIx g_WIDTHS (.str "nest") = some (.int 3) ∧ tabIx g_WIDTHS (.str "gap") = some (.int 1) ∧ tabIx g_WIDTHS (.str "mix") = some (.int 2) ∧ tabIx g_WIDTHS (.str "end") = some (.int 1) := by
  refine ⟨⟨rfl, rfl, rfl, rfl, rfl⟩, rfl, rfl, rfl, rfl, rfl⟩
theorem S_eq {x y : Str} (h : strS x = true) (h2 : strS y = true) : opEq (.str x) (.str y) = some (.bl (decide (x = y))) := by rw [o_eq (by simp [h]) (by simp [h2]), deq_str]
theorem S_ne {x y : Str} (h : strS x = true) (h2 : strS y = true) : opNe (.str x) (.str y) = some (.bl (!decide (x = y))) := by rw [o_ne (by simp [h]) (by simp [h2]), deq_str]
theorem ws0 (t : IT) : ∃ r, t.ws = .str t.s :: r := by
  unfold IT.ws
  split
  · exact ⟨_, rfl⟩
  · exact ⟨_, rfl⟩
theorem what_end : fn_is_what [.tup [.str "end"]] = .ok (.bl true) := by
  obtain ⟨a1, a2, a3, a4, a5, a6, a7, a8, a9, a10, a11, a12, a13, a14, a15, a16, a17, a18, a19, a20, a21, a22, a23, a24, a25, a26, a27, a28, a29, a30⟩ := wrd
  obtain ⟨⟨b1, b2, b3, b4, b5⟩, c1, c2, c3, c4, c5⟩ := w_in
  have n0 : opEq (.tup [.str "end"]) (.tup []) = some (.bl false) := by rw [o_eq (by simp [sEnd]) (by simp)]; simp
  have i1 : opIsi "str" (.str "end") = some (.bl true) := rfl
  simp [fn_is_what, b_is_what, n0, i1, b5, c5, S_eq, S_ne, sEnd, sClip, sNest, sMix, a14, a19, a9]
theorem what_ok {t : IT} (h : GI t) : fn_is_what [.tup t.ws] = .ok (.bl true) := by
  obtain ⟨a1, a2, a3, a4, a5, a6, a7, a8, a9, a10, a11, a12, a13, a14, a15, a16, a17, a18, a19, a20, a21, a22, a23, a24, a25, a26, a27, a28, a29, a30⟩ := wrd
  obtain ⟨⟨b1, b2, b3, b4, b5⟩, c1, c2, c3, c4, c5⟩ := w_in
  have wE := IT.wsE h.ok
  have n0 : opEq (.tup t.ws) (.tup []) = some (.bl false) := by
    rw [o_eq (eqok_succ 19 _ wE) (by simp)]
    obtain ⟨r, e⟩ := ws0 t
    rw [e]
    simp
  have i1 : ∀ z : Str, opIsi "str" (.str z) = some (.bl true) := fun _ => rfl
  cases h with
  | gap h =>
    have w : ∀ {n : Int}, IT.ws ⟨"gap", [], n⟩ = [.str "gap"] := by intros; unfold IT.ws; rw [if_neg a8]
    rw [w] at n0 ⊢
    simp [fn_is_what, b_is_what, n0, i1, b3, c3, S_eq, S_ne, sGap, sClip, sNest, sMix, a12, a16, a8]
  | nest hz hk h =>
    have w : ∀ {z : Str} {k n : Int}, IT.ws ⟨"nest", [.str z, .int k], n⟩ = [.str "nest", .str z, .int k] := by intros; unfold IT.ws; rw [if_neg a6]
    rw [w] at n0 ⊢
    simp [fn_is_what, b_is_what, n0, i1, b2, c2, S_eq, S_ne, sGap, sClip, sNest, sMix, a11, hz.b, whole_int, hk]
  | clip hz r1 r2 h =>
    have w : ∀ {z : Str} {k m : D} {n : Int}, IT.ws ⟨"clip", [.str z, k, m], n⟩ = [.str "clip", .str z, k, m] := by intros; unfold IT.ws; rw [if_neg a7]
    rw [w] at n0 ⊢
    simp [fn_is_what, b_is_what, n0, i1, b1, c1, S_eq, S_ne, sGap, sClip, sNest, sMix, hz.b, isfrac_ok r1, isfrac_ok r2]
  | mix h =>
    rename_i n
    have w : IT.ws ⟨"mix", [], n⟩ = [.str "mix", .int n] := by unfold IT.ws; rw [if_pos rfl]; rfl
    have h0 : 0 < n := by omega
    rw [w] at n0 ⊢
    simp [fn_is_what, b_is_what, n0, i1, b4, c4, S_eq, S_ne, sGap, sClip, sNest, sMix, a13, a18, whole_int, h0]
theorem follows_ok {w l : Str} (hw : strS w = true) (hl : strS l = true) : fn_follows [.str w, .str l] = .ok (.bl (fol w l)) := by
  unfold fol
  by_cases h1 : l = "end"
  · simp [fn_follows, b_follows, S_eq, S_ne, hw, hl, sGap, sClip, sNest, sMix, sEnd, h1]
  · by_cases h2 : l = "mix"
    · by_cases h3 : w = "clip"
      · have a7 := wrd.2.2.2.2.2.2.1
        have a23 := wrd.2.2.2.2.2.2.2.2.2.2.2.2.2.2.2.2.2.2.2.2.2.2.1
        have a2 := wrd.2.1
        have a22 := wrd.2.2.2.2.2.2.2.2.2.2.2.2.2.2.2.2.2.2.2.2.2.1
        subst h2 h3
        simp [fn_follows, b_follows, S_eq, S_ne, sGap, sClip, sNest, sMix, sEnd, a7, a23, a2, a22]
      · simp [fn_follows, b_follows, S_eq, S_ne, hw, hl, sGap, sClip, sNest, sMix, sEnd, h1, h2, h3]
    · by_cases h3 : w = "mix"
      · simp [fn_follows, b_follows, S_eq, S_ne, hw, hl, sGap, sClip, sNest, sMix, sEnd, h1, h2, h3]
      · by_cases h4 : w = "gap"
        · have a21 := wrd.2.2.2.2.2.2.2.2.2.2.2.2.2.2.2.2.2.2.2.2.1
          have a8 := wrd.2.2.2.2.2.2.2.1
          subst h4
          simp [fn_follows, b_follows, S_eq, S_ne, hl, sGap, sClip, sNest, sMix, sEnd, h1, h2, a21, a8]
        · by_cases h5 : w = "end"
          · have a9 := wrd.2.2.2.2.2.2.2.2.1
            have a4 := wrd.2.2.2.1
            subst h5
            simp [fn_follows, b_follows, S_eq, S_ne, hl, sGap, sClip, sNest, sMix, sEnd, h1, h2, a9, a4]
          · simp [fn_follows, b_follows, S_eq, S_ne, hw, hl, sGap, sClip, sNest, sMix, sEnd, h1, h2, h3, h4, h5]
def st (B l : Int) (w : Str) : Bool := if w = "" then decide (B = 0) else if w = "mix" then decide (B = l) else decide (l < B)
theorem stands_ok {B l : Int} {w : Str} (hw : strS w = true) : fn_stands [.int B, .int l, .str w] = .ok (.bl (st B l w)) := by
  unfold st
  by_cases h1 : w = ""
  · simp [fn_stands, b_stands, S_eq, hw, sNo, sMix, h1]
  · by_cases h2 : w = "mix"
    · have a28 := wrd.2.2.2.2.2.2.2.2.2.2.2.2.2.2.2.2.2.2.2.2.2.2.2.2.2.2.2.1
      subst h2
      simp [fn_stands, b_stands, S_eq, sNo, sMix, a28]
    · simp [fn_stands, b_stands, S_eq, hw, sNo, sMix, h1, h2]
theorem is_rest_ok {r s : Int} (hr : Red r s) (r0 : 0 ≤ r) (rl : r < s) : fn_is_rest [.tup [.int r, .int s]] = .ok (.bl true) := by
  simp [fn_is_rest, b_is_rest, isfrac_ok hr, fh2 (k := true), r0, rl]
theorem red_whole {u v B : Int} (h : Red u v) (e : u = B * v) : v = 1 ∧ u = B := by
  have v0 := h.1
  have g := h.2
  rw [e, Int.gcd_mul_left_left] at g
  have v1 : v = 1 := by omega
  subst v1
  exact ⟨rfl, by omega⟩
theorem moment_ok {a b c d fl r s : Int} (h1 : RT a b) (h2 : RT c d) (hr : Red r s) (bf : Bd 400 fl) (br : Bd 400 r) (bs : Bd 400 s) : ∃ u v p t x y, fn_sum_of [.tup [.int fl, .int 1], .tup [.int r, .int s]] = .ok p ∧ fn_times_of [p, .tup [.int a, .int b]] = .ok (.tup [.int t, .int x]) ∧ fn_quotient [.tup [.int t, .int x], .tup [.int c, .int d]] = .ok y ∧ y = .tup [.int u, .int v] ∧ Red u v ∧ u * (c * b * s) = ((fl * s + r) * a * d) * v := by
  have d0 := h2.f.r.1
  have b0 := h1.f.r.1
  have a0 := h1.p
  have c0 := h2.p
  have s0 := hr.1
  obtain ⟨p, q, e1, r1, c1⟩ := sum_ok (n := 400) (p := fl) (q := 1) ⟨⟨by decide, by simp⟩, bf, by unfold Bd; decide⟩ ⟨hr, br, bs⟩ (by decide)
  simp only [Int.one_mul, Int.mul_one] at c1
  have q0 := r1.1
  have fp : Fr 900 p q := ⟨r1, ((((bf.mul bs).mono (show 800 ≤ 801 by decide)).add (br.mono (show 400 ≤ 801 by decide))).mono (by decide)).le (r1.lep (by omega) c1), (bs.mono (by decide)).le (r1.le (by omega) c1)⟩
  obtain ⟨t, x, e2, r2, c2⟩ := times_ok fp (fr_mono h1.f (by decide)) (by decide)
  have x0 := r2.1
  have qb : 0 < q * b := Int.mul_pos q0 (by omega)
  have ft : Fr 1000 t x := ⟨r2, ((fp.bp.mul h1.f.bp).mono (by decide)).le (r2.lep (by omega) c2), ((fp.bq.mul h1.f.bq).mono (by decide)).le (r2.le (by omega) c2)⟩
  obtain ⟨u, v, e3, r3, c3⟩ := quo_ok ft (fr_mono h2.f (by decide)) (show 0 < c by omega) (by decide)
  refine ⟨u, v, _, t, x, _, e1, e2, e3, rfl, r3, ?_⟩
  have z : x * q ≠ 0 := by
    have := Int.mul_pos x0 q0
    omega
  apply Int.eq_of_mul_eq_mul_right z
  grind
theorem border_ok {a b c d B fl r s : Int} {ws : List D} (h1 : RT a b) (h2 : RT c d) (hr : Red r s) (r0 : 0 ≤ r) (rl : r < s) (k : (fl * s + r) * a * d = B * c * b * s) (bf : Bd 400 fl) (bs : Bd 400 s) (hw : fn_is_what [.tup ws] = .ok (.bl true)) :
    fn_border_of [.tup [.int fl, .tup [.int r, .int s], .tup ws], .tup [.int a, .int b], .tup [.int c, .int d]] = .ok (.int B) := by
  have br : Bd 400 r := bs.le (by omega)
  obtain ⟨u, v, p, t, x, y, e1, e2, e3, rfl, r3, c3⟩ := moment_ok h1 h2 hr bf br bs
  have b0 := h1.f.r.1
  have c0 := h2.p
  have s0 := hr.1
  have z : c * b * s ≠ 0 := by
    have := Int.mul_pos (Int.mul_pos (show 0 < c by omega) b0) s0
    omega
  obtain ⟨v1, u1⟩ := red_whole (B := B) r3 (by
    apply Int.eq_of_mul_eq_mul_right z
    rw [c3, k]
    grind)
  subst v1 u1
  simp [fn_border_of, b_border_of, whole_int, is_rest_ok hr r0 rl, e1, e2, e3, hw]
/-- a row: itself, the border that it is read at, its border's, its item -/
structure RR where
  x : D
  B : Int
  A : Int
  t : IT
structure RowP (ra ot : D) (m n : Int) (r : RR) : Prop where
  b : fn_border_of [r.x, ra, ot] = .ok (.int r.B)
  e : ∃ f g, r.x = .tup [f, g, .tup r.t.ws]
  s : strS r.t.s = true
  k : r.B * m = r.A * n
  l : r.t.mid.length ≤ 1000
def Ch : Str → Int → List RR → Prop
  | _, _, [] => True
  | w, l, r :: rs => fol r.t.s w = true ∧ st r.B l w = true ∧ Ch r.t.s r.B rs
def lwR : Str → List RR → Str
  | w, [] => w
  | _, r :: rs => lwR r.t.s rs
def lastB (Bs : List Int) : Int := (Bs.getLast?).getD 0
theorem lastB_app {Bs : List Int} {B : Int} : lastB (Bs ++ [B]) = B := by simp [lastB]
theorem lastB_at (Bs : List Int) : atD (.int 0 :: Bs.map D.int) (-1) = some (.int (lastB Bs)) := by
  rcases List.eq_nil_or_concat Bs with rfl | ⟨us, u, h⟩
  · exact at_last (xs := [])
  · have h : Bs = us ++ [u] := by simpa using h
    subst h
    rw [lastB_app, List.map_append, List.map_cons, List.map_nil]
    exact at_last (xs := .int 0 :: us.map D.int)
theorem ints_flat {Bs : List Int} : D.flats (Bs.map D.int) = true := by
  induction Bs with
  | nil => simp
  | cons b Bs ih => simp [ih]
theorem borders_loop {ra ot S : D} {m n : Int} : ∀ (rs : List RR) (k : Nat) (Bs : List Int) (w : Str) (v5 v6 v7 : Sl), (∀ r ∈ rs, RowP ra ot m n r) → Ch w (lastB Bs) rs → strS w = true → Bs.length + rs.length ≤ 1000 →
    ∃ v5' v6' v7', forL (gTup' (gCon (gNam 5) (gCon (gNam 6) gNil'))) b_borders_read_1 (((rs.map RR.x).zipIdx k).map fun p => .tup [.int ((p.2 : Nat) : Int), p.1]) [.sh S, .sh ra, .sh ot, .ow false (Bs.map D.int), .sh (.str w), v5, v6, v7] =
      .nx [.sh S, .sh ra, .sh ot, .ow false ((Bs ++ rs.map RR.B).map D.int), .sh (.str (lwR w rs)), v5', v6', v7']
  | [], k, Bs, w, v5, v6, v7, _, _, _, _ => ⟨v5, v6, v7, by simp [forL, lwR]⟩
  | r :: rs, k, Bs, w, v5, v6, v7, h, hc, hw, hl => by
    obtain ⟨c1, c2, c3⟩ := hc
    have hr := h r List.mem_cons_self
    obtain ⟨f, g, e⟩ := hr.e
    obtain ⟨q, e2⟩ := ws0 r.t
    have hb := hr.b
    rw [e, e2] at hb
    have fo := follows_ok hr.s hw
    have so := stands_ok (B := r.B) (l := lastB Bs) hw
    rw [c1] at fo
    rw [c2] at so
    have ll : Bs.length < 1000000 := by simp at hl; omega
    have ad : opAdd (.lst [.int 0]) (.lst (Bs.map D.int)) = some (.lst (.int 0 :: Bs.map D.int)) := by rw [o_addL (by simp; omega)]; rfl
    have run : turn (gTup' (gCon (gNam 5) (gCon (gNam 6) gNil'))) b_borders_read_1 (.tup [.int (k : Int), .tup [f, g, .tup (.str r.t.s :: q)]]) [.sh S, .sh ra, .sh ot, .ow false (Bs.map D.int), .sh (.str w), v5, v6, v7] = .nx [.sh S, .sh ra, .sh ot, .ow false ((Bs ++ [r.B]).map D.int), .sh (.str r.t.s), .sh (.int (k : Int)), .sh (.tup [f, g, .tup (.str r.t.s :: q)]), .sh (.int r.B)] := by
      unfold turn
      simp [b_borders_read_1, hb, fo, ad, lastB_at, so, ll]
    obtain ⟨v5', v6', v7', e3⟩ := borders_loop rs (k + 1) (Bs ++ [r.B]) r.t.s (.sh (.int (k : Int))) (.sh (.tup [f, g, .tup (.str r.t.s :: q)])) (.sh (.int r.B)) (fun r hr => h r (List.mem_cons_of_mem _ hr)) (by rw [lastB_app]; exact c3) hr.s (by simp at hl ⊢; omega)
    refine ⟨v5', v6', v7', ?_⟩
    rw [List.map_cons, List.zipIdx_cons, List.map_cons, e, e2, forL_nx run, e3]
    simp [lwR]
theorem borders_read_ok {ra ot : D} {m n : Int} {rs : List RR} (h : ∀ r ∈ rs, RowP ra ot m n r) (hc : Ch "" 0 rs) (he : lwR "" rs = "end") (hl : rs.length ≤ 1000) : fn_borders_read [.lst (rs.map RR.x), ra, ot] = .ok (.lst (rs.map (fun r => D.int r.B))) := by
  obtain ⟨v5, v6, v7, e⟩ := borders_loop (S := .lst (rs.map RR.x)) rs 0 [] "" .no .no .no h hc sNo (by simpa using hl)
  have ne : opNe (.str "end") (.str "end") = some (.bl false) := by rw [S_ne sEnd sEnd]; simp
  rw [he] at e
  simp only [List.map_nil, List.nil_append, List.map_map] at e
  simp [fn_borders_read, b_borders_read, e, ne]
/-- the track that is read -/
def outs : List RR → List IT
  | [] => []
  | r :: rs => match rs with
    | [] => []
    | r2 :: _ => (if r.t.s = "mix" then r.t else ⟨r.t.s, r.t.mid, r2.B - r.B⟩) :: outs rs
theorem outs_cons {r r2 : RR} {rs : List RR} : outs (r :: r2 :: rs) = (if r.t.s = "mix" then r.t else ⟨r.t.s, r.t.mid, r2.B - r.B⟩) :: outs (r2 :: rs) := by rw [outs]
theorem outs_one {r : RR} : outs [r] = [] := by rw [outs]
theorem read_loop {ra ot : D} {m n : Int} {all : List RR} : ∀ (rs pre : List RR) (T : List D) (v5 v6 : Sl), all = pre ++ rs → (∀ r ∈ rs, RowP ra ot m n r) → T.length + rs.length ≤ 1000 →
    ∃ v5' v6', forL (gNam 5) b_read_back_1 ((List.range' pre.length (rs.length - 1)).map fun (i : Nat) => .int (i : Int)) [.sh (.lst (all.map RR.x)), .sh ra, .sh ot, .sh (.lst (all.map (fun r => D.int r.B))), .ow false T, v5, v6] =
      .nx [.sh (.lst (all.map RR.x)), .sh ra, .sh ot, .sh (.lst (all.map (fun r => D.int r.B))), .ow false (T ++ (outs rs).map IT.d), v5', v6']
  | [], pre, T, v5, v6, _, _, _ => ⟨v5, v6, by simp [forL, outs]⟩
  | [r], pre, T, v5, v6, _, _, _ => ⟨v5, v6, by simp [forL, outs]⟩
  | r :: r2 :: rs, pre, T, v5, v6, ha, h, hl => by
    have hr := h r List.mem_cons_self
    obtain ⟨f, g, e⟩ := hr.e
    obtain ⟨q, e2⟩ := ws0 r.t
    have at1 : atD (all.map RR.x) (pre.length : Int) = some (.tup [f, g, .tup (.str r.t.s :: q)]) := at_of rfl (by rw [ha]; simp [e, e2])
    have at2 : atD (all.map (fun r => D.int r.B)) (pre.length : Int) = some (.int r.B) := at_of rfl (by rw [ha]; simp)
    have at3 : atD (all.map (fun r => D.int r.B)) ((pre.length : Int) + 1) = some (.int r2.B) := at_of (n := pre.length + 1) rfl (by rw [ha]; simp)
    have ll : T.length < 1000000 := by simp at hl; omega
    have eq := S_eq hr.s sMix
    obtain ⟨v5', v6', e3⟩ := read_loop (all := all) (r2 :: rs) (pre ++ [r]) (T ++ [(if r.t.s = "mix" then r.t else ⟨r.t.s, r.t.mid, r2.B - r.B⟩ : IT).d]) (.sh (.int (pre.length : Int))) (.sh (.tup (.str r.t.s :: q))) (by rw [ha]; simp) (fun r hr => h r (List.mem_cons_of_mem _ hr)) (by simp at hl ⊢; omega)
    refine ⟨v5', v6', ?_⟩
    have run : turn (gNam 5) b_read_back_1 (.int (pre.length : Int)) [.sh (.lst (all.map RR.x)), .sh ra, .sh ot, .sh (.lst (all.map (fun r => D.int r.B))), .ow false T, v5, v6] = .nx [.sh (.lst (all.map RR.x)), .sh ra, .sh ot, .sh (.lst (all.map (fun r => D.int r.B))), .ow false (T ++ [(if r.t.s = "mix" then r.t else ⟨r.t.s, r.t.mid, r2.B - r.B⟩ : IT).d]), .sh (.int (pre.length : Int)), .sh (.tup (.str r.t.s :: q))] := by
      rw [turn_nam' (by simp)]
      by_cases z : r.t.s = "mix"
      · rw [decide_eq_true z] at eq
        have wd : r.t.d = .tup (.str r.t.s :: q) := by rw [← e2]; unfold IT.ws IT.d; rw [if_pos z]
        rw [if_pos z, wd]
        simp [b_read_back_1, at1, eq, ll]
      · rw [decide_eq_false z] at eq
        have qm : q = r.t.mid := by
          have := e2
          unfold IT.ws at this
          rw [if_neg z] at this
          exact (List.cons.inj this).2.symm
        have ml := hr.l
        have ml : r.t.mid.length + 2 ≤ 1000000 := by omega
        have ad : opAdd (.tup (.str r.t.s :: q)) (.tup [.int (r2.B - r.B)]) = some (IT.d ⟨r.t.s, r.t.mid, r2.B - r.B⟩) := by
          rw [qm, o_addT (by simpa using ml)]
          rfl
        rw [if_neg z]
        simp [b_read_back_1, at1, at2, at3, eq, ll, ad]
    have lr : (r :: r2 :: rs).length - 1 = ((r2 :: rs).length - 1) + 1 := by simp
    rw [lr, List.range'_succ, List.map_cons, forL_nx run]
    rw [List.length_append] at e3
    rw [outs_cons, List.map_cons]
    simp only [List.append_assoc, List.singleton_append] at e3
    exact e3
theorem read_ok {a b c d m n : Int} {rs : List RR} (h1 : RT a b) (h2 : RT c d) (h : ∀ r ∈ rs, RowP (.tup [.int a, .int b]) (.tup [.int c, .int d]) m n r) (hc : Ch "" 0 rs) (he : lwR "" rs = "end") (hl : rs.length ≤ 1000) (h0 : rs ≠ []) :
    fn_read_back [.lst (rs.map RR.x), .tup [.int a, .int b], .tup [.int c, .int d]] = .ok (.lst ((outs rs).map IT.d)) := by
  obtain ⟨v5, v6, e⟩ := read_loop (all := rs) rs [] [] .no .no rfl h (by simpa using hl)
  have l1 : 1 ≤ rs.length := by
    cases rs with
    | nil => exact absurd rfl h0
    | cons _ _ => simp
  have r := rng1_of (m := vCons (vOp opSub (vBf bfLen (vCons (vVar 0) vNil)) (vC (.int 1))) vNil) (e := [.sh (.lst (rs.map RR.x)), .sh (.tup [.int a, .int b]), .sh (.tup [.int c, .int d]), .sh (.lst (rs.map (fun r => D.int r.B))), .ow false [], .no, .no]) (e1 := [.sh (.lst (rs.map RR.x)), .sh (.tup [.int a, .int b]), .sh (.tup [.int c, .int d]), .sh (.lst (rs.map (fun r => D.int r.B))), .ow false [], .no, .no]) (j := (rs.length : Int) - 1) (by simp) (by omega) (by omega)
  have tn : ((rs.length : Int) - 1).toNat = rs.length - 1 := by omega
  rw [tn, List.range_eq_range'] at r
  simp only [List.length_nil, List.nil_append] at e
  simp [fn_read_back, b_read_back, check_ok h1 h2, borders_read_ok h hc he hl, r, e]
/-- the rows of a track, read at f of each border -/
noncomputable def recs (a b c d : Int) (f : Int → Int) : Int → List IT → List RR
  | B, [] => [⟨rowOf a b c d B (.tup [.str "end"]), f B, B, ⟨"end", [], 0⟩⟩]
  | B, t :: ts => ⟨rowOf a b c d B (.tup t.ws), f B, B, t⟩ :: recs a b c d f (B + t.room) ts
theorem recs_x {a b c d : Int} {f : Int → Int} : ∀ (B : Int) (ts : List IT), (recs a b c d f B ts).map RR.x = rows a b c d B ts
  | _, [] => rfl
  | B, t :: ts => by rw [recs, rows, List.map_cons, recs_x]
theorem recs_len {a b c d : Int} {f : Int → Int} (B : Int) (ts : List IT) : (recs a b c d f B ts).length = ts.length + 1 := by rw [← List.length_map (f := RR.x), recs_x, rows_len]
theorem recs_ne {a b c d : Int} {f : Int → Int} (B : Int) (ts : List IT) : recs a b c d f B ts ≠ [] := fun z => by
  have := recs_len (a := a) (b := b) (c := c) (d := d) (f := f) B ts
  rw [z] at this
  simp at this
theorem recs_head {a b c d : Int} {f : Int → Int} : ∀ (B : Int) (ts : List IT), ∃ x t rs, recs a b c d f B ts = ⟨x, f B, B, t⟩ :: rs
  | _, [] => ⟨_, _, _, rfl⟩
  | _, _ :: _ => ⟨_, _, _, rfl⟩
theorem recs_lw {a b c d : Int} {f : Int → Int} : ∀ (w : Str) (B : Int) (ts : List IT), lwR w (recs a b c d f B ts) = "end"
  | _, _, [] => rfl
  | w, B, t :: ts => recs_lw (f := f) t.s (B + t.room) ts
theorem mono_of {m n A A' B B' : Int} (hm : 0 < m) (hn : 0 < n) (h : B * m = A * n) (h' : B' * m = A' * n) (l : A < A') : B < B' := by
  have q : A * n < A' * n := Int.mul_lt_mul_of_pos_right l hn
  rw [← h, ← h'] at q
  exact Int.lt_of_mul_lt_mul_right q (by omega)
theorem same_of {m n A B B' : Int} (hm : 0 < m) (h : B * m = A * n) (h' : B' * m = A * n) : B = B' := Int.eq_of_mul_eq_mul_right (a := m) (by omega) (by rw [h, h'])
/-- the chain of a track's rows -/
theorem recs_ch {a b c d m n : Int} {f : Int → Int} {ra ot : D} (hm : 0 < m) (hn : 0 < n) : ∀ (ts : List IT) (B : Int) (w : Str) (l : Int), (∀ t ∈ ts, GI t) → Lo w ts → fol "end" (lw w ts) = true → (∀ r ∈ recs a b c d f B ts, RowP ra ot m n r) → st (f B) l w = true → Ch w l (recs a b c d f B ts)
  | [], B, w, l, _, _, he, _, hs => ⟨he, hs, trivial⟩
  | t :: ts, B, w, l, hg, hlo, he, hr, hs => by
    refine ⟨hlo.1, hs, recs_ch hm hn ts (B + t.room) t.s (f B) (fun t ht => hg t (List.mem_cons_of_mem _ ht)) hlo.2 he (fun r h => hr r (by rw [recs]; exact List.mem_cons_of_mem _ h)) ?_⟩
    have g := hg t List.mem_cons_self
    have k1 := (hr ⟨rowOf a b c d B (.tup t.ws), f B, B, t⟩ (by rw [recs]; exact List.mem_cons_self)).k
    obtain ⟨x, t2, rs, e⟩ := recs_head (a := a) (b := b) (c := c) (d := d) (f := f) (B + t.room) ts
    have k2 := (hr ⟨x, f (B + t.room), B + t.room, t2⟩ (by rw [recs, e]; simp)).k
    simp only at k1 k2
    unfold st
    rw [if_neg g.ne]
    by_cases z : t.s = "mix"
    · rw [if_pos z]
      have rm : t.room = 0 := if_pos z
      rw [rm, Int.add_zero]
      simp
    · rw [if_neg z]
      have rm : t.room = t.n := if_neg z
      have n1 := g.ok.n1
      exact decide_eq_true (mono_of hm hn k1 k2 (by rw [rm]; omega))
theorem outs_recs {a b c d : Int} : ∀ (ts : List IT) (B : Int), outs (recs a b c d (fun x => x) B ts) = ts
  | [], B => by rw [recs, outs_one]
  | t :: ts, B => by
    obtain ⟨x, t2, rs, e⟩ := recs_head (a := a) (b := b) (c := c) (d := d) (f := fun x => x) (B + t.room) ts
    have ih := outs_recs (a := a) (b := b) (c := c) (d := d) ts (B + t.room)
    rw [e] at ih
    rw [recs, e, outs_cons, ih]
    by_cases z : t.s = "mix"
    · rw [if_pos z]
    · rw [if_neg z]
      have rm : t.room = t.n := if_neg z
      simp only [rm]
      have : B + t.n - B = t.n := by omega
      rw [this]
/-- the rows, read at the same two rates -/
theorem recs_same {a b c d : Int} (h1 : RT a b) (h2 : RT c d) : ∀ (ts : List IT) (B : Int) (k : Nat), (∀ t ∈ ts, GI t ∧ Sm30 t) → BL k B → k + ts.length ≤ 900 → ∀ r ∈ recs a b c d (fun x => x) B ts, RowP (.tup [.int a, .int b]) (.tup [.int c, .int d]) 1 1 r
  | [], B, k, _, hB, hk => by
    obtain ⟨fl, r, s, e, rr, r0, rl, kk, bf, bs⟩ := row_ok (w := .tup [.str "end"]) h1 h2 (hB.b (by simp at hk; omega))
    intro x hx
    rw [recs, List.mem_singleton] at hx
    subst hx
    have ro : rowOf a b c d B (.tup [.str "end"]) = .tup [.int fl, .tup [.int r, .int s], .tup [.str "end"]] := by
      unfold rowOf
      rw [e]
    exact ⟨by show fn_border_of [rowOf a b c d B (.tup [.str "end"]), _, _] = _; rw [ro]; exact border_ok h1 h2 rr r0 rl kk bf bs what_end, ⟨_, _, ro⟩, sEnd, rfl, by simp⟩
  | t :: ts, B, k, h, hB, hk => by
    obtain ⟨g, sm⟩ := h t List.mem_cons_self
    obtain ⟨r0', r1'⟩ := room_b g.ok sm
    obtain ⟨fl, r, s, e, rr, r0, rl, kk, bf, bs⟩ := row_ok (w := .tup t.ws) h1 h2 (hB.b (by simp at hk; omega))
    intro x hx
    rw [recs, List.mem_cons] at hx
    rcases hx with rfl | hx
    · have ro : rowOf a b c d B (.tup t.ws) = .tup [.int fl, .tup [.int r, .int s], .tup t.ws] := by
        unfold rowOf
        rw [e]
      exact ⟨by show fn_border_of [rowOf a b c d B (.tup t.ws), _, _] = _; rw [ro]; exact border_ok h1 h2 rr r0 rl kk bf bs (what_ok g), ⟨_, _, ro⟩, g.ok.s, rfl, by cases g <;> simp⟩
    · exact recs_same h1 h2 ts (B + t.room) (k + 1) (fun t ht => h t (List.mem_cons_of_mem _ ht)) (hB.step r0' r1') (by simp at hk; omega) x hx
theorem back_ok {a b c d : Int} {ts : List IT} (h1 : RT a b) (h2 : RT c d) (T : TrkE ts) (hl : ts.length ≤ 500) : fn_read_back [.lst (rows a b c d 0 ts), .tup [.int a, .int b], .tup [.int c, .int d]] = .ok (.lst (ts.map IT.d)) := by
  have hr := recs_same h1 h2 ts 0 0 T.g ⟨by omega, by omega⟩ (by omega)
  have ch : Ch "" 0 (recs a b c d (fun x => x) 0 ts) := recs_ch (by decide) (by decide) ts 0 "" 0 (fun t ht => (T.g t ht).1) T.lo T.e hr (by decide +kernel)
  have := read_ok h1 h2 hr ch (recs_lw _ _ _) (by rw [recs_len]; omega) (recs_ne _ _)
  rwa [recs_x, outs_recs] at this

/-! the laws' own tracks -/
def nmC (z : Str) : Bool := decide (1 ≤ z.length) && decide (z.length ≤ 8) && z.cps.toList.all fun c => decide (97 ≤ c) && decide (c ≤ 122)
theorem nm_of {z : Str} (h : nmC z = true) : Nm z := by
  unfold nmC at h
  rw [Bool.and_eq_true, Bool.and_eq_true] at h
  obtain ⟨⟨h1, h2⟩, h3⟩ := h
  refine ⟨of_decide_eq_true h1, of_decide_eq_true h2, fun c hc => ?_⟩
  have := List.all_eq_true.mp h3 c hc
  rw [Bool.and_eq_true] at this
  exact ⟨of_decide_eq_true this.1, of_decide_eq_true this.2⟩
theorem names_ok : nmC "t" = true ∧ nmC "other" = true ∧ nmC "zzzzzzzz" = true ∧ nmC "a" = true ∧ nmC "reel" = true ∧ nmC "abcdefgh" = true := by decide +kernel
theorem red_one (x : Int) : Red x 1 := ⟨by decide, by simp⟩
theorem part_ok (x c : Int) (hx : 0 ≤ x ∧ x < 2147483648) : ∃ t : IT, fn__law_part [.int x, .int c] = .ok t.d ∧ GI t ∧ Sm30 t ∧ t.s ≠ "mix" := by
  obtain ⟨a1, a2, a3, a4, a5, a6, a7, a8, a9, _⟩ := wrd
  obtain ⟨s1, s2, s3, s4, s5, s6⟩ := names_ok
  obtain ⟨y1, hy1, e1⟩ := at_mem (xs := [.tup [.int 1, .int 1], .tup [.int 1, .int 2], .tup [.int (-1), .int 1], .tup [.int 0, .int 1], .tup [.int 7, .int 3], .tup [.int (-30000), .int 1001]]) (i := x / 5 % 6) (by omega) (by simp; omega)
  obtain ⟨y2, hy2, e2⟩ := at_mem (xs := [.tup [.int 0, .int 1], .tup [.int (x / 30 % 90), .int 1], .tup [.int (1 + 2 * (x / 30 % 90)), .int 2], .tup [.int (-5), .int 3]]) (i := x / 30 % 4) (by omega) (by simp; omega)
  obtain ⟨y3, hy3, e3⟩ := at_mem (xs := [.int (1 + x / 17 % 9), .int (1 + x / 17 % 9), .int (1 + x % 5000), .int (1 + (c * 48271 + x) % 1000000000000000000000000000000)]) (i := x / 11 % 4) (by omega) (by simp; omega)
  obtain ⟨p1, q1, rfl, r1⟩ : ∃ p q, y1 = .tup [.int p, .int q] ∧ Red p q := by
    simp at hy1
    rcases hy1 with rfl | rfl | rfl | rfl | rfl | rfl <;> exact ⟨_, _, rfl, by unfold Red; decide⟩
  obtain ⟨p2, q2, rfl, r2⟩ : ∃ p q, y2 = .tup [.int p, .int q] ∧ Red p q := by
    simp at hy2
    rcases hy2 with rfl | rfl | rfl | rfl
    · exact ⟨_, _, rfl, red_one _⟩
    · exact ⟨_, _, rfl, red_one _⟩
    · refine ⟨_, _, rfl, by decide, ?_⟩
      have : (1 + 2 * (x / 30 % 90)).gcd 2 = Int.gcd 1 2 := by rw [Int.gcd_add_mul_left_left]
      rw [this]
      decide
    · exact ⟨_, _, rfl, by unfold Red; decide⟩
  obtain ⟨L, rfl, L1, L2⟩ : ∃ L, y3 = .int L ∧ 1 ≤ L ∧ L ≤ 2000000000000000000000000000000 := by
    simp at hy3
    rcases hy3 with rfl | rfl | rfl <;> exact ⟨_, rfl, by omega, by omega⟩
  by_cases f0 : x % 5 = 0
  · exact ⟨⟨"gap", [], L⟩, by simp [fn__law_part, b__law_part, o_rem, o_div, divOk_s, o_pow, o_mul, mulOk_l, mulOk_r, e1, e2, e3, f0, IT.d], .gap L1, L2, a8⟩
  by_cases f1 : x % 5 = 1
  · obtain ⟨y4, hy4, e4⟩ := at_mem (xs := [.str "t", .str "other", .str "zzzzzzzz"]) (i := x / 7 % 3) (by omega) (by simp; omega)
    obtain ⟨z, rfl, sz⟩ : ∃ z, y4 = .str z ∧ Nm z := by
      simp at hy4
      rcases hy4 with rfl | rfl | rfl
      · exact ⟨_, rfl, nm_of s1⟩
      · exact ⟨_, rfl, nm_of s2⟩
      · exact ⟨_, rfl, nm_of s3⟩
    exact ⟨⟨"nest", [.str z, .int (x / 19 % 50)], L⟩, by simp [fn__law_part, b__law_part, o_rem, o_div, divOk_s, o_pow, o_mul, mulOk_l, mulOk_r, e1, e2, e3, e4, f1, IT.d], .nest sz (by omega) L1, L2, a6⟩
  · obtain ⟨y4, hy4, e4⟩ := at_mem (xs := [.str "a", .str "reel", .str "abcdefgh"]) (i := x / 7 % 3) (by omega) (by simp; omega)
    obtain ⟨z, rfl, sz⟩ : ∃ z, y4 = .str z ∧ Nm z := by
      simp at hy4
      rcases hy4 with rfl | rfl | rfl
      · exact ⟨_, rfl, nm_of s4⟩
      · exact ⟨_, rfl, nm_of s5⟩
      · exact ⟨_, rfl, nm_of s6⟩
    exact ⟨⟨"clip", [.str z, .tup [.int p2, .int q2], .tup [.int p1, .int q1]], L⟩, by simp [fn__law_part, b__law_part, o_rem, o_div, divOk_s, o_pow, o_mul, mulOk_l, mulOk_r, e1, e2, e3, e4, f0, f1, IT.d], .clip sz r2 r1 L1, L2, a7⟩
theorem end_cases (ts : List IT) : ts = [] ∨ ∃ us u, ts = us ++ [u] := by
  rcases List.eq_nil_or_concat ts with h | ⟨us, u, h⟩
  · exact .inl h
  · exact .inr ⟨us, u, by simpa using h⟩
theorem ends {ts : List IT} (h : ∀ t ∈ ts, t.Ok) : ∃ b0, opEq (.lst (ts.map IT.d)) (.lst []) = some (.bl b0) ∧ opNe (.lst (ts.map IT.d)) (.lst []) = some (.bl (!b0)) ∧ (b0 = true → ts = []) ∧ (b0 = false → ∃ us, ∃ u : IT, ts = us ++ [u] ∧ atD (ts.map IT.d) (-1) = some u.d ∧ u.Ok) := by
  have ek := IT.eqs h
  rcases end_cases ts with rfl | ⟨us, u, rfl⟩
  · exact ⟨true, by rw [o_eq (by simp) (by simp)]; simp, by rw [o_ne (by simp) (by simp)]; simp, fun _ => rfl, fun h => by cases h⟩
  · refine ⟨false, ?_, ?_, fun h => by (cases h), fun _ => ⟨us, u, rfl, by rw [List.map_append]; exact at_last, h u (by simp)⟩⟩
    · rw [o_eq ek (by simp)]
      cases us <;> simp
    · rw [o_ne ek (by simp)]
      cases us <;> simp
theorem len3 {xs : List Int} (h : xs.length = 3) : ∃ a b c, xs = [a, b, c] := by
  match xs, h with
  | [a, b, c], _ => exact ⟨a, b, c, rfl⟩
theorem len4 {xs : List Int} (h : xs.length = 4) : ∃ a b c d, xs = [a, b, c, d] := by
  match xs, h with
  | [a, b, c, d], _ => exact ⟨a, b, c, d, rfl⟩
theorem track_turn {cells : List D} {i : Nat} {c : Int} {T : List D} {b0 : Bool} {v2 v3 v4 : Sl} {l : Str} (hc : atD cells (i : Int) = some (.int c)) (hT : T.length ≤ 200) (E0 : opEq (.lst T) (.lst []) = some (.bl b0)) (N0 : opNe (.lst T) (.lst []) = some (.bl (!b0))) (hn : b0 = true → l = "") (hu : b0 = false → ∃ u : IT, atD T (-1) = some u.d ∧ u.Ok ∧ u.s = l) :
    ∃ (us : List IT) (a3 a4 : Sl), turn (gNam 2) b__law_track_1 (.int i) [.sh (.lst cells), .ow false T, v2, v3, v4] = .nx [.sh (.lst cells), .ow false (T ++ us.map IT.d), .sh (.int i), a3, a4] ∧ us.length ≤ 2 ∧ Grow l us := by
  obtain ⟨w1, w2, w3, w4, w5, w6, w7, w8, w9, w10, w11, w12, w13, w14, w15, _⟩ := wrd
  obtain ⟨xs, ex, lx, bx⟩ := drawn_ok (c + 31 * i) 3 (by decide)
  obtain ⟨x0, x1, x, rfl⟩ := len3 lx
  have hx := bx x (by simp)
  have ex' : fn__law_drawn [.int (c + 31 * i), .int 3] = .ok (.lst [.int x0, .int x1, .int x]) := ex
  obtain ⟨t, ep, g, sm, nm⟩ := part_ok x c hx
  have ok := g.ok
  have m31 := o_mul (mulOk_l (i := 31) (j := (i : Int)) (by decide) (by decide))
  have l1 : T.length < 1000000 := by omega
  have l2 : T.length + 1 < 1000000 := by omega
  obtain ⟨C, eC, hC, hC'⟩ : ∃ C, opEq (.str t.s) (.str "clip") = some (.bl C) ∧ (C = true → t.s = "clip") ∧ (C = false → t.s ≠ "clip") := ⟨_, t.eqS ok "clip" sClip, fun h => of_decide_eq_true h, fun h => of_decide_eq_false h⟩
  obtain ⟨G, eG, hG, hG'⟩ : ∃ G, opNe (.str t.s) (.str "gap") = some (.bl G) ∧ (t.s ≠ "gap" → G = true) ∧ (G = true → t.s ≠ "gap") := ⟨_, t.neS ok "gap" sGap, fun h => by rw [decide_eq_false h]; rfl, fun h => by simpa using h⟩
  have md : (IT.mk "mix" [] (1 + x / 23 % 9)).d = .tup [.str "mix", .int (1 + x / 23 % 9)] := rfl
  have a0 := t.at0
  cases b0 with
  | true =>
    have l0 := hn rfl
    have one : Grow l [t] := .one g sm nm fun _ => l0 ▸ w5
    cases C <;> cases G <;> exact ⟨[t], .sh (.int x), .sh t.d, by simp [turn_nam, b__law_track_1, hc, m31, ex', ep, a0, eC, eG, E0, N0, l1], by simp, one⟩
  | false =>
    obtain ⟨u, al, oku, ul⟩ := hu rfl
    have u0 := u.at0
    obtain ⟨B1, e1, h1⟩ : ∃ B, opEq (.str u.s) (.str "clip") = some (.bl B) ∧ (B = true → u.s = "clip") := ⟨_, u.eqS oku "clip" sClip, fun h => of_decide_eq_true h⟩
    obtain ⟨B2, e2, h2⟩ : ∃ B, opNe (.str u.s) (.str "gap") = some (.bl B) ∧ (B = true → u.s ≠ "gap") := ⟨_, u.neS oku "gap" sGap, fun h => by simpa using h⟩
    cases C with
    | false =>
      cases G with
      | true => exact ⟨[t], .sh (.int x), .sh t.d, by simp [turn_nam, b__law_track_1, hc, m31, ex', ep, a0, eC, eG, l1], by simp, .one g sm nm fun q => absurd q (hG' rfl)⟩
      | false =>
        cases B2 with
        | true => exact ⟨[t], .sh (.int x), .sh t.d, by simp [turn_nam, b__law_track_1, hc, m31, ex', ep, a0, eC, eG, E0, al, u0, e2, l1], by simp, .one g sm nm fun _ => ul ▸ h2 rfl⟩
        | false => exact ⟨[], .sh (.int x), .sh t.d, by simp [turn_nam, b__law_track_1, hc, m31, ex', ep, a0, eC, eG, E0, al, u0, e2], by simp, .none⟩
    | true =>
      have tc := hC rfl
      have g0 := hG (tc ▸ w2)
      subst g0
      cases B1 with
      | false => exact ⟨[t], .sh (.int x), .sh t.d, by simp [turn_nam, b__law_track_1, hc, m31, ex', ep, a0, eC, eG, N0, al, u0, e1, l1], by simp, .one g sm nm fun q => absurd q (hG' rfl)⟩
      | true =>
        by_cases x4 : x % 4 < 2
        · exact ⟨[IT.mk "mix" [] (1 + x / 23 % 9), t], .sh (.int x), .sh t.d, by simp [turn_nam, b__law_track_1, hc, m31, ex', ep, a0, eC, eG, N0, al, u0, e1, o_rem, o_div, divOk_s, x4, l1, l2, md], by simp, .two g sm tc (ul ▸ h1 rfl) (by omega) (by omega)⟩
        · exact ⟨[t], .sh (.int x), .sh t.d, by simp [turn_nam, b__law_track_1, hc, m31, ex', ep, a0, eC, eG, N0, al, u0, e1, o_rem, x4, l1], by simp, .one g sm nm fun q => absurd q (hG' rfl)⟩
/-- how an end stands to its track -/
theorem Trk.ends {ts : List IT} (h : Trk ts) : ∃ b0, opEq (.lst (ts.map IT.d)) (.lst []) = some (.bl b0) ∧ opNe (.lst (ts.map IT.d)) (.lst []) = some (.bl (!b0)) ∧ (b0 = true → ts = []) ∧ (b0 = false → ∃ us, ∃ u : IT, ts = us ++ [u] ∧ atD (ts.map IT.d) (-1) = some u.d ∧ u.Ok ∧ u.s = lw "" ts) := by
  obtain ⟨b0, h1, h2, h3, h4⟩ := VL.ends (fun t ht => (h.g t ht).1.ok)
  refine ⟨b0, h1, h2, h3, fun q => ?_⟩
  obtain ⟨us, u, e, a, k⟩ := h4 q
  refine ⟨us, u, e, a, k, ?_⟩
  rw [e, lw_one]
theorem track_ok {cs : List Int} (hl : cs.length ≤ 63) : ∃ ts : List IT, fn__law_track [.lst (cs.map D.int)] = .ok (.lst (ts.map IT.d)) ∧ TrkE ts ∧ ts.length ≤ 150 := by
  obtain ⟨e1, h1, ts, a2, a3, a4, rfl, ok, lt⟩ := loop_at (g := gNam 2) (b := b__law_track_1) (fun i e => ∃ (ts : List IT) (a2 a3 a4 : Sl), e = [.sh (.lst (cs.map D.int)), .ow false (ts.map IT.d), a2, a3, a4] ∧ Trk ts ∧ ts.length ≤ 2 * i) ((List.range cs.length).map fun (i : Nat) => .int (i : Int))
    [.sh (.lst (cs.map D.int)), .ow false [], .no, .no, .no] ⟨[], _, _, _, rfl, .nil, by simp⟩ (by
    rintro i d hd e ⟨ts, a2, a3, a4, rfl, ok, lt⟩
    obtain ⟨hi, rfl⟩ := rng_at hd
    obtain ⟨b0, E0, N0, hb0, hb⟩ := ok.ends
    obtain ⟨us, w3, w4, run, lu, gr⟩ := track_turn (cells := cs.map D.int) (i := i) (v2 := a2) (v3 := a3) (v4 := a4) (l := lw "" ts) (at_ints hi) (by simp; omega) E0 N0 (fun z => by rw [hb0 z]; rfl) (fun z => by
      obtain ⟨_, u, _, h1, h2, h3⟩ := hb z
      exact ⟨u, h1, h2, h3⟩)
    rw [← List.map_append] at run
    exact ⟨_, run, _, _, _, _, rfl, ok.grow gr, by simp; omega⟩)
  have ll : ts.length ≤ 126 := by
    simp at lt
    omega
  have r := rng1_of (m := vCons (vBf bfLen (vCons (vVar 0) vNil)) vNil) (e := [.sh (.lst (cs.map D.int)), .ow false [], .no, .no, .no]) (e1 := [.sh (.lst (cs.map D.int)), .ow false [], .no, .no, .no]) (j := cs.length) (by simp) (by omega) (by omega)
  rw [Int.toNat_natCast] at r
  obtain ⟨b0, E0, N0, hb0, hb⟩ := ok.ends
  cases b0 with
  | true => exact ⟨ts, by simp [fn__law_track, b__law_track, r, h1, N0], ok.done (by rw [hb0 rfl]; exact wrd.2.2.2.2.1), by omega⟩
  | false =>
    obtain ⟨us, u, rfl, al, oku, ul⟩ := hb rfl
    obtain ⟨B1, g, hg, hg'⟩ : ∃ B, opEq (.str u.s) (.str "gap") = some (.bl B) ∧ (B = true → u.s = "gap") ∧ (B = false → u.s ≠ "gap") := ⟨_, u.eqS oku "gap" sGap, fun h => of_decide_eq_true h, fun h => of_decide_eq_false h⟩
    cases B1 with
    | false =>
      simp only [List.map_append, List.map_cons, List.map_nil] at h1 N0 al
      exact ⟨us ++ [u], by simp [fn__law_track, b__law_track, r, h1, N0, al, u.at0, g], ok.done (ul ▸ hg' rfl), by omega⟩
    | true =>
      have pp := pop_of (i := 1) (e := [.sh (.lst (cs.map D.int)), .ow false (us.map IT.d ++ [u.d]), a2, a3, a4]) (xs := us.map IT.d) (d := u.d) rfl
      simp only [List.map_append, List.map_cons, List.map_nil] at h1 N0 al
      exact ⟨us, by simp [fn__law_track, b__law_track, r, h1, N0, al, u.at0, g, pp], ok.pop (hg rfl), by simp at ll; omega⟩

theorem row_ok3 {a b c d B : Int} {w : D} (h1 : RT a b) (h2 : RT c d) (hB : Bd 120 B) : ∃ fl r s, fn_row_at [.int B, .tup [.int a, .int b], .tup [.int c, .int d], w] = .ok (.tup [.int fl, .tup [.int r, .int s], w]) ∧ Red r s ∧ 0 ≤ r ∧ r < s ∧ (fl * s + r) * a * d = B * c * b * s ∧ Bd 300 fl ∧ Bd 300 s := by
  have d0 := h2.f.r.1
  have b0 := h1.f.r.1
  have a0 := h1.p
  obtain ⟨t, x, e1, r1, c1⟩ := times_ok (n := 120) (p := B) (q := 1) ⟨⟨by decide, by simp⟩, hB, by unfold Bd; decide⟩ (fr_mono h2.f (by decide)) (by decide)
  rw [Int.one_mul] at c1
  have x0 := r1.1
  have ft : Fr 200 t x := ⟨r1, ((hB.mul h2.f.bp).mono (by decide)).le (r1.lep (by omega) c1), (h2.f.bq.mono (by decide)).le (r1.le (by omega) c1)⟩
  obtain ⟨u, v, e2, r2, c2⟩ := quo_ok ft (fr_mono h1.f (by decide)) (show 0 < a by omega) (by decide)
  have v0 := r2.1
  have xa : 0 < x * a := Int.mul_pos x0 (by omega)
  have bu : Bd 300 u := ((ft.bp.mul h1.f.bq).mono (by decide)).le (r2.lep (by omega) c2)
  have bv : Bd 300 v := ((ft.bq.mul h1.f.bp).mono (by decide)).le (r2.le (by omega) c2)
  obtain ⟨r, s, e3, r3, c3⟩ := rest_ok v0 (bv.mono (by decide)) (bu.mono (by decide))
  have s0 := r3.1
  have m0 := Int.emod_nonneg u (b := v) (by omega)
  have m1 := Int.emod_lt_of_pos u v0
  have dm := Int.emod_add_mul_ediv u v
  have r0 : 0 ≤ r := by
    have : 0 ≤ r * v := by rw [c3]; exact Int.mul_nonneg m0 (by omega)
    exact Int.nonneg_of_mul_nonneg_left this v0
  have rl : r < s := by
    have : r * v < s * v := by
      rw [c3, Int.mul_comm s]
      exact Int.mul_lt_mul_of_pos_right m1 s0
    exact Int.lt_of_mul_lt_mul_right this (by omega)
  refine ⟨u / v, r, s, by simp [fn_row_at, b_row_at, e1, e2, floor_ok v0 (bv.mono (by decide)), e3], r3, r0, rl, ?_, bu.le (Int.natAbs_ediv_le_natAbs _ _), bv.le (r3.le (by omega) c3)⟩
  have k1 : (u / v * s + r) * v = s * u := by
    generalize u % v = m at *
    generalize u / v = f at *
    rw [← dm]
    grind
  have k2 : u * (d * a) = B * c * b * v := by
    apply Int.eq_of_mul_eq_mul_right (a := x) (by omega)
    grind
  apply Int.eq_of_mul_eq_mul_right (a := v) (by omega)
  generalize u / v = f at *
  grind
/-- an odd rate -/
def Odd (o : D) : Prop := fn_is_fraction [o] = .ok (.bl false) ∨ ∃ p q, o = .tup [.int p, .int q] ∧ fn_is_fraction [o] = .ok (.bl true) ∧ p < 1
theorem odd_turn {o : D} {v1 v2 v3 : Sl} (h : Odd o) : turn (gNam 2) b_check_rates_1 o [v1, v2, v3] = .err ⟨"NoNumber", none⟩ [v1, v2, .sh o] := by
  rcases h with h | ⟨p, q, rfl, h, l⟩
  · simp [turn_nam, b_check_rates_1, h]
  · simp [turn_nam, b_check_rates_1, h, l]
theorem check_odd1 {o x : D} (h : Odd o) : fn_check_rates [o, x] = .err ⟨"NoNumber", none⟩ := by
  simp [fn_check_rates, b_check_rates, forL_err (odd_turn h)]
theorem check_odd2 {a b : Int} {o : D} (h1 : RT a b) (h : Odd o) : fn_check_rates [.tup [.int a, .int b], o] = .err ⟨"NoNumber", none⟩ := by
  have i1 := isfrac_ok h1.f.r
  have l1 : ¬ a < 1 := by have := h1.p; omega
  have t1 : turn (gNam 2) b_check_rates_1 (.tup [.int a, .int b]) [.sh (.tup [.int a, .int b]), .sh o, .no] = .nx [.sh (.tup [.int a, .int b]), .sh o, .sh (.tup [.int a, .int b])] := by
    simp [turn_nam, b_check_rates_1, i1, l1]
  simp [fn_check_rates, b_check_rates, forL_nx t1, forL_err (odd_turn h)]
/-- the rates of the law -/
def RB (a b : Int) : Prop := 1 ≤ a ∧ a ≤ 30000 ∧ (b = 1 ∨ (b = 1001 ∧ (a = 30000 ∨ a = 24000)) ∨ (b = 3 ∧ a = 1))
theorem RB.rt {a b : Int} (h : RB a b) : RT a b := by
  obtain ⟨h1, h2, h3⟩ := h
  refine ⟨⟨⟨by omega, ?_⟩, by unfold Bd; omega, by unfold Bd; omega⟩, h1⟩
  rcases h3 with rfl | ⟨rfl, rfl | rfl⟩ | ⟨rfl, rfl⟩
  · simp
  · decide
  · decide
  · decide
theorem rate_ok (x : Int) (hx : 0 ≤ x) : ∃ a b, fn__law_rate [.int x] = .ok (.tup [.int a, .int b]) ∧ RB a b := by
  obtain ⟨y, hy, e⟩ := at_mem (xs := [.tup [.int 24, .int 1], .tup [.int 25, .int 1], .tup [.int 30000, .int 1001], .tup [.int 1, .int 3], .tup [.int 60, .int 1], .tup [.int 24000, .int 1001], .tup [.int (1 + x / 8 % 900), .int 1], .tup [.int 12, .int 1]]) (i := x % 8) (by omega) (by simp; omega)
  obtain ⟨a, b, rfl, hb⟩ : ∃ a b, y = .tup [.int a, .int b] ∧ RB a b := by
    simp at hy
    unfold RB
    rcases hy with rfl | rfl | rfl | rfl | rfl | rfl | rfl | rfl <;> exact ⟨_, _, rfl, by omega⟩
  exact ⟨a, b, by simp [fn__law_rate, b__law_rate, o_rem, o_div, divOk_s, e], hb⟩
/-! a list's rows, good or spoiled -/
def obD : Option Int → D
  | none => .non
  | some B => .int B
theorem lowest83 {r s : Int} : fn__law_lowest [.tup [.int r, .int s]] = .ok (.bl (decide (Int.gcd r s = 1))) := by
  obtain ⟨g, h1, h2, h3⟩ := while_gcd c__law_lowest_1 b__law_lowest_1 (fun x y => [.sh (.tup [.int r, .int s]), .sh (.int x), .sh (.int y)]) (fun x y => by simp [c__law_lowest_1]) (fun x y h => by simp [b__law_lowest_1, o_mod h]) _ r s (Nat.lt_succ_self _)
  have e : vWhile c__law_lowest_1 b__law_lowest_1 [.sh (.tup [.int r, .int s]), .sh (.int r), .sh (.int s)] = .nx [.sh (.tup [.int r, .int s]), .sh (.int g), .sh (.int 0)] := h1
  have eq : decide ((if g < 0 then -g else g) = 1) = decide (Int.gcd r s = 1) := by
    rw [← h2]
    by_cases q : g < 0
    · rw [if_pos q]
      exact decide_eq_decide.mpr (by omega)
    · rw [if_neg q]
      exact decide_eq_decide.mpr (by omega)
  simp [fn__law_lowest, b__law_lowest, e, eq]
theorem isfracB {r s : Int} (h : 0 < s) : fn_is_fraction [.tup [.int r, .int s]] = .ok (.bl (decide (Int.gcd r s = 1))) := by
  have : decide (((Int.gcd r s : Nat) : Int) = 1) = decide (Int.gcd r s = 1) := decide_eq_decide.mpr (by omega)
  simp [fn_is_fraction, b_is_fraction, shared_ok, h, this]
theorem is_rest83 {r s : Int} (h : 0 < s) : fn_is_rest [.tup [.int r, .int s]] = .ok (.bl (decide (Int.gcd r s = 1) && (decide (0 ≤ r) && decide (r < s)))) := by
  have f := isfracB (r := r) h
  by_cases g : Int.gcd r s = 1
  · by_cases r0 : 0 ≤ r
    · by_cases rl : r < s <;> simp [fn_is_rest, b_is_rest, f, g, fh2 (k := true), r0, rl]
    · simp [fn_is_rest, b_is_rest, f, g, fh2 (k := false), r0]
  · simp [fn_is_rest, b_is_rest, f, g]
theorem core {a b c d fl r s : Int} {k : Bool} {w : D} (h1 : RT a b) (h2 : RT c d) (s0 : 0 < s) (bf : Bd 400 fl) (br : Bd 400 r) (bs : Bd 400 s) (hw : fn_is_what [w] = .ok (.bl k)) (hl : fn__law_said [w] = .ok (.bl k)) :
    ∃ ob, fn_border_of [.tup [.int fl, .tup [.int r, .int s], w], .tup [.int a, .int b], .tup [.int c, .int d]] = .ok (obD ob) ∧ fn__law_border [.tup [.int fl, .tup [.int r, .int s], w], .tup [.int a, .int b], .tup [.int c, .int d]] = .ok (obD ob) ∧ (ob ≠ none → k = true) := by
  have ir := is_rest83 (r := r) s0
  have lo := lowest83 (r := r) (s := s)
  by_cases g : Int.gcd r s = 1
  · by_cases r0 : 0 ≤ r
    · by_cases rl : r < s
      · obtain ⟨u, v, p, t, x, y, e1, e2, e3, rfl, r3, c3⟩ := moment_ok h1 h2 ⟨s0, g⟩ bf br bs
        have c0 := h2.p
        have b0 := h1.f.r.1
        have v0 := r3.1
        have z0 : 0 < s * b * c := Int.mul_pos (Int.mul_pos s0 b0) (by omega)
        have m1 := mulB bf bs
        have m2 := mulB (((bf.mul bs).mono (show 800 ≤ 801 by decide)).add (br.mono (show 400 ≤ 801 by decide))) h1.f.bp
        have m3 := mulB ((((bf.mul bs).mono (show 800 ≤ 801 by decide)).add (br.mono (show 400 ≤ 801 by decide))).mul h1.f.bp) h2.f.bq
        have m4 := mulB bs h1.f.bq
        have m5 := mulB (bs.mul h1.f.bq) h2.f.bp
        have dv : VL.divOk (s * b * c) = true := Bd.divOk (((bs.mul h1.f.bq).mul h2.f.bp).mono (by decide)) (by omega)
        have c4 : u * (s * b * c) = ((fl * s + r) * a * d) * v := by rw [← c3]; grind
        generalize s * b * c = Z at *
        generalize (fl * s + r) * a * d = T at *
        by_cases dz : T % Z = 0
        · have q1 : T / Z * Z = T := Int.ediv_mul_cancel (Int.dvd_of_emod_eq_zero dz)
          obtain ⟨v1, u1⟩ := red_whole (B := T / Z) r3 (by
            apply Int.eq_of_mul_eq_mul_right (a := Z) (by omega)
            rw [c4]
            generalize T / Z = q at *
            rw [← q1]
            grind)
          subst v1
          cases k with
          | true =>
            refine ⟨some (T / Z), ?_, ?_, fun _ => rfl⟩
            · simp [fn_border_of, b_border_of, whole_int, ir, g, r0, rl, e1, e2, e3, hw, u1, obD]
            · simp [fn__law_border, b__law_border, hl, lo, g, fh2 (k := true), r0, rl, m1, m2, m3, m4, m5, o_rem z0, o_div z0 dv, dz, obD]
          | false =>
            refine ⟨none, ?_, ?_, fun h => absurd rfl h⟩
            · simp [fn_border_of, b_border_of, whole_int, ir, g, r0, rl, e1, e2, e3, hw, obD]
            · simp [fn__law_border, b__law_border, hl, obD]
        · have v1 : ¬ v = 1 := fun q => dz (by
            rw [q, Int.mul_one] at c4
            rw [← c4]
            exact Int.mul_emod_left u Z)
          refine ⟨none, ?_, ?_, fun h => absurd rfl h⟩
          · simp [fn_border_of, b_border_of, whole_int, ir, g, r0, rl, e1, e2, e3, v1, obD]
          · cases k with
            | true => simp [fn__law_border, b__law_border, hl, lo, g, fh2 (k := true), r0, rl, m1, m2, m3, m4, m5, o_rem z0, dz, obD]
            | false => simp [fn__law_border, b__law_border, hl, obD]
      · refine ⟨none, ?_, ?_, fun h => absurd rfl h⟩
        · simp [fn_border_of, b_border_of, whole_int, ir, g, r0, rl, obD]
        · cases k with
          | true => simp [fn__law_border, b__law_border, hl, lo, g, fh2 (k := true), r0, rl, obD]
          | false => simp [fn__law_border, b__law_border, hl, obD]
    · refine ⟨none, ?_, ?_, fun h => absurd rfl h⟩
      · simp [fn_border_of, b_border_of, whole_int, ir, g, r0, obD]
      · cases k with
        | true => simp [fn__law_border, b__law_border, hl, lo, g, fh2 (k := false), r0, obD]
        | false => simp [fn__law_border, b__law_border, hl, obD]
  · refine ⟨none, ?_, ?_, fun h => absurd rfl h⟩
    · simp [fn_border_of, b_border_of, whole_int, ir, g, obD]
    · cases k with
      | true => simp [fn__law_border, b__law_border, hl, lo, g, obD]
      | false => simp [fn__law_border, b__law_border, hl, obD]
/-- the words -/
def W5 (w : Str) : Prop := w = "clip" ∨ w = "nest" ∨ w = "gap" ∨ w = "mix" ∨ w = "end"
theorem W5.s {w : Str} (h : W5 w) : strS w = true := by
  rcases h with rfl | rfl | rfl | rfl | rfl
  · exact sClip
  · exact sNest
  · exact sGap
  · exact sMix
  · exact sEnd
theorem law_stands_ok {w a : Str} {B l : Int} (hw : W5 w) (ha : a = "" ∨ W5 a) : fn__law_stands [.int l, .str w, .int B, .str a] = .ok (.bl (fol w a && st B l a)) := by
  obtain ⟨a1, a2, a3, a4, a5, a6, a7, a8, a9, a10, a11, a12, a13, a14, a15, a16, a17, a18, a19, a20, a21, a22, a23, a24, a25, a26, a27, a28, a29, a30⟩ := wrd
  have i1 : ∀ {x : Str}, strS x = true → opIn (.str x) (.lst [.str "gap", .str "end"]) = some (.bl (decide ("gap" = x) || decide ("end" = x))) := fun {x} hx => by
    simp [opIn, D.atom]
  rcases hw with rfl | rfl | rfl | rfl | rfl <;> rcases ha with rfl | rfl | rfl | rfl | rfl | rfl <;> by_cases z : B = 0 <;> simp [fn__law_stands, b__law_stands, fol, st, S_eq, S_ne, i1, sNo, sGap, sClip, sNest, sMix, sEnd, a1, a2, a3, a4, a5, a6, a7, a8, a9, a10, a11, a12, a13, a14, a15, a16, a17, a18, a19, a20, a21, a22, a23, a24, a25, a26, a27, a28, a29, a30, a1.symm, a2.symm, a3.symm, a4.symm, a14.symm, a19.symm, a9.symm, z]

/-- an item's words, or what was put in their place -/
structure WK (w : D) (k : Bool) : Prop where
  a : fn_is_what [w] = .ok (.bl k)
  b : fn__law_said [w] = .ok (.bl k)
  c : k = true → ∃ t : IT, w = .tup t.ws ∧ W5 t.s ∧ t.mid.length ≤ 1000
theorem big_A {z : Str} (h : Nm z) : z ≠ "A" := fun q => by
  have := h.la 65 (by rw [q]; decide +kernel)
  have := this.1
  omega
theorem GI.w5 {t : IT} (h : GI t) : W5 t.s := by
  cases h with
  | gap h => exact .inr (.inr (.inl rfl))
  | nest hz hk h => exact .inr (.inl rfl)
  | clip hz r1 r2 h => exact .inl rfl
  | mix h => exact .inr (.inr (.inr (.inl rfl)))
theorem sA : strS "A" = true := by decide +kernel
theorem said_ok {t : IT} (h : GI t) : fn__law_said [.tup t.ws] = .ok (.bl true) := by
  obtain ⟨a1, a2, a3, a4, a5, a6, a7, a8, a9, a10, a11, a12, a13, a14, a15, a16, a17, a18, a19, a20, a21, a22, a23, a24, a25, a26, a27, a28, a29, a30⟩ := wrd
  cases h with
  | gap h =>
    have w : ∀ {n : Int}, IT.ws ⟨"gap", [], n⟩ = [.str "gap"] := by intros; unfold IT.ws; rw [if_neg a8]
    rw [w]
    simp [fn__law_said, b__law_said, S_eq, S_ne, sGap, sClip, sNest, sMix, a8, a12, a16]
  | nest hz hk h =>
    rename_i z k n
    have w : ∀ {z : Str} {k n : Int}, IT.ws ⟨"nest", [.str z, .int k], n⟩ = [.str "nest", .str z, .int k] := by intros; unfold IT.ws; rw [if_neg a6]
    rw [w]
    have : ¬ k < 0 := by omega
    simp [fn__law_said, b__law_said, S_eq, S_ne, sGap, sClip, sNest, sMix, a6, a11, this]
  | clip hz r1 r2 h =>
    have w : ∀ {z : Str} {k m : D} {n : Int}, IT.ws ⟨"clip", [.str z, k, m], n⟩ = [.str "clip", .str z, k, m] := by intros; unfold IT.ws; rw [if_neg a7]
    rw [w]
    simp [fn__law_said, b__law_said, S_eq, S_ne, sGap, sClip, sNest, sMix, sA, a7, a17, hz.s, big_A hz]
  | mix h =>
    rename_i n
    have w : IT.ws ⟨"mix", [], n⟩ = [.str "mix", .int n] := by unfold IT.ws; rw [if_pos rfl]; rfl
    rw [w]
    have : ¬ n < 1 := by omega
    simp [fn__law_said, b__law_said, S_eq, S_ne, sGap, sClip, sNest, sMix, a13, a18, this]
theorem wk_good {t : IT} (h : GI t) : WK (.tup t.ws) true := ⟨what_ok h, said_ok h, fun _ => ⟨t, rfl, h.w5, by cases h <;> simp⟩⟩
theorem ws_end : IT.ws ⟨"end", [], 0⟩ = [.str "end"] := by
  have a9 := wrd.2.2.2.2.2.2.2.2.1
  unfold IT.ws
  rw [if_neg a9]
theorem wk_end : WK (.tup [.str "end"]) true := by
  obtain ⟨a1, a2, a3, a4, a5, a6, a7, a8, a9, a10, a11, a12, a13, a14, a15, a16, a17, a18, a19, a20, a21, a22, a23, a24, a25, a26, a27, a28, a29, a30⟩ := wrd
  refine ⟨what_end, ?_, fun _ => ⟨⟨"end", [], 0⟩, by rw [ws_end], .inr (.inr (.inr (.inr rfl))), by simp⟩⟩
  simp [fn__law_said, b__law_said, S_eq, S_ne, sEnd, sClip, sNest, sMix, a9, a14, a19]
theorem wk_gap : WK (.tup [.str "gap"]) true := by
  have a8 := wrd.2.2.2.2.2.2.2.1
  have w : IT.ws ⟨"gap", [], 1⟩ = [.str "gap"] := by unfold IT.ws; rw [if_neg a8]
  have := wk_good (t := ⟨"gap", [], 1⟩) (.gap (by decide))
  rwa [w] at this
theorem wk_mix2 : WK (.tup [.str "mix", .int 2]) true := by
  have w : IT.ws ⟨"mix", [], 2⟩ = [.str "mix", .int 2] := by unfold IT.ws; rw [if_pos rfl]; rfl
  have := wk_good (t := ⟨"mix", [], 2⟩) (.mix (by decide))
  rwa [w] at this
theorem wk_bad : WK (.tup [.str "mix", .int 0]) false ∧ WK (.tup [.str "clip", .str "a", .tup [.int 1, .int 1]]) false ∧ WK (.tup [.str "nest", .str "t", .int (-1)]) false ∧ WK (.lst [.str "end"]) false ∧ WK (.tup [.str "clip", .str "A", .tup [.int 1, .int 1], .tup [.int 1, .int 1]]) false := by
  obtain ⟨a1, a2, a3, a4, a5, a6, a7, a8, a9, a10, a11, a12, a13, a14, a15, a16, a17, a18, a19, a20, a21, a22, a23, a24, a25, a26, a27, a28, a29, a30⟩ := wrd
  obtain ⟨⟨b1, b2, b3, b4, b5⟩, c1, c2, c3, c4, c5⟩ := w_in
  have i1 : ∀ z : Str, opIsi "str" (.str z) = some (.bl true) := fun _ => rfl
  have i2 : opIsi "tuple" (.lst [.str "end"]) = some (.bl false) := rfl
  have sa : strS "a" = true := by decide +kernel
  have st' : strS "t" = true := by decide +kernel
  have e0 : ∀ {x : D} {xs : List D}, D.eqok 20 (.tup (x :: xs)) = true → opEq (.tup (x :: xs)) (.tup []) = some (.bl false) := fun {x xs} h => by rw [o_eq h (by simp)]; simp
  have n1 : fn_is_name [.str "t"] = .ok (.bl true) := (nm_of names_ok.1).b
  have n2 : fn_is_name [.str "A"] = .ok (.bl false) := by
    rw [isname_str sA (by decide +kernel) (by decide +kernel)]
    have : nmB "A" = false := by decide +kernel
    rw [this]
  refine ⟨⟨?_, ?_, fun h => by cases h⟩, ⟨?_, ?_, fun h => by cases h⟩, ⟨?_, ?_, fun h => by cases h⟩, ⟨?_, ?_, fun h => by cases h⟩, ⟨?_, ?_, fun h => by cases h⟩⟩
  · simp [fn_is_what, b_is_what, e0, i1, b4, c4, S_eq, S_ne, sGap, sClip, sNest, sMix, a13, a18, whole_int]
  · simp [fn__law_said, b__law_said, S_eq, S_ne, sGap, sClip, sNest, sMix]
  · simp [fn_is_what, b_is_what, e0, i1, b1, c1, S_eq, S_ne, sGap, sClip, sNest, sMix, sa]
  · simp [fn__law_said, b__law_said, S_eq, S_ne, sGap, sClip, sNest, sMix, a7, a17]
  · simp [fn_is_what, b_is_what, e0, i1, b2, c2, S_eq, S_ne, sGap, sClip, sNest, sMix, st', a11, n1, whole_int]
  · simp [fn__law_said, b__law_said, S_eq, S_ne, sGap, sClip, sNest, sMix, a6]
  · simp [fn_is_what, b_is_what, i2]
  · simp [fn__law_said, b__law_said, i2]
  · simp [fn_is_what, b_is_what, e0, i1, b1, c1, S_eq, S_ne, sGap, sClip, sNest, sMix, sA, n2]
  · simp [fn__law_said, b__law_said, S_eq, S_ne, sGap, sClip, sNest, sMix, sA, a7, a17]
/-- a row, good or spoiled -/
def RK (X : D) : Prop := (∃ fl r s w k, X = .tup [.int fl, .tup [.int r, .int s], w] ∧ 0 < s ∧ Bd 400 fl ∧ Bd 400 r ∧ Bd 400 s ∧ WK w k) ∨ ∀ ra ot : D, fn_border_of [X, ra, ot] = .ok .non ∧ fn__law_border [X, ra, ot] = .ok .non
theorem rk_bad : RK .non ∧ (∀ {xs : List D}, RK (.lst xs)) ∧ (∀ {x y : D}, RK (.tup [x, y])) ∧ (∀ {x y z u : D}, RK (.tup [x, y, z, u])) ∧ ∀ {y z : D}, RK (.tup [.bl true, y, z]) := by
  refine ⟨.inr fun ra ot => ⟨?_, ?_⟩, fun {xs} => .inr fun ra ot => ⟨?_, ?_⟩, fun {x y} => .inr fun ra ot => ⟨?_, ?_⟩, fun {x y z u} => .inr fun ra ot => ⟨?_, ?_⟩, fun {y z} => .inr fun ra ot => ⟨?_, ?_⟩⟩
  · simp [fn_border_of, b_border_of, opIsi, D.isT]
  · simp [fn__law_border, b__law_border, opIsi, D.isT]
  · simp [fn_border_of, b_border_of, opIsi, D.isT]
  · simp [fn__law_border, b__law_border, opIsi, D.isT]
  · simp [fn_border_of, b_border_of]
  · simp [fn__law_border, b__law_border]
  · simp [fn_border_of, b_border_of]
  · simp [fn__law_border, b__law_border]
  · have : fn_is_whole [.bl true] = .ok (.bl false) := by simp [fn_is_whole, b_is_whole, opIsi, D.isT]
    simp [fn_border_of, b_border_of, this]
  · simp [fn__law_border, b__law_border]
theorem spoiled_ok {fl r s x k : Int} {w : D} (s0 : 0 < s) (bf : Bd 300 fl) (br : Bd 300 r) (bs : Bd 300 s) (hw : WK w true) : ∃ X, fn__law_spoiled [.tup [.int fl, .tup [.int r, .int s], w], .int x] = .ok X ∧ RK X := by
  obtain ⟨w1, w2, w3, w4, w5⟩ := wk_bad
  obtain ⟨k1, k2, k3, k4, k5⟩ := rk_bad
  have f4 := bf.mono (show 300 ≤ 400 by decide)
  have r4 := br.mono (show 300 ≤ 400 by decide)
  have s4 := bs.mono (show 300 ≤ 400 by decide)
  have fb : ∀ e : Int, -4 ≤ e ∧ e ≤ 4 → Bd 400 (fl + e) := fun e he => (bf.add (y := e) ((show Bd 3 e by unfold Bd; omega).mono (by decide))).mono (by decide)
  have b2 : Bd 400 2 := by unfold Bd; decide
  have b1 : Bd 400 1 := by unfold Bd; decide
  obtain ⟨y, hy, e⟩ := at_mem (xs := [.non, .lst [.int fl, .tup [.int r, .int s], w], .tup [.int fl, .tup [.int r, .int s]], .tup [.int fl, .tup [.int r, .int s], w, .int 0], .tup [.bl true, .tup [.int r, .int s], w], .tup [.int fl, .tup [.int 2, .int 2], w],
    .tup [.int fl, .tup [.int 1, .int 2], w], .tup [.int (fl + (1 + x / 17 % 3)), .tup [.int r, .int s], w], .tup [.int (fl - (1 + x / 17 % 3)), .tup [.int r, .int s], w], .tup [.int fl, .tup [.int r, .int s], .tup [.str "end"]], .tup [.int fl, .tup [.int r, .int s], .tup [.str "gap"]], .tup [.int fl, .tup [.int r, .int s], .tup [.str "mix", .int 2]],
    .tup [.int fl, .tup [.int r, .int s], .tup [.str "mix", .int 0]], .tup [.int fl, .tup [.int r, .int s], .tup [.str "clip", .str "a", .tup [.int 1, .int 1]]], .tup [.int fl, .tup [.int r, .int s], .tup [.str "nest", .str "t", .int (-1)]], .tup [.int fl, .tup [.int r, .int s], .lst [.str "end"]],
    .tup [.int (fl - 1), .tup [.int (r + s), .int s], w], .tup [.int (fl + 1), .tup [.int (r - s), .int s], w], .tup [.int fl, .tup [.int r, .int s], .tup [.str "clip", .str "A", .tup [.int 1, .int 1], .tup [.int 1, .int 1]]]]) (i := x % 19) (by omega) (by simp; omega)
  refine ⟨y, by simp [fn__law_spoiled, b__law_spoiled, o_rem, o_div, divOk_s, o_catL, o_addL, e], ?_⟩
  simp only [List.mem_cons, List.not_mem_nil, or_false] at hy
  rcases hy with rfl | rfl | rfl | rfl | rfl | rfl | rfl | rfl | rfl | rfl | rfl | rfl | rfl | rfl | rfl | rfl | rfl | rfl | rfl
  · exact k1
  · exact k2
  · exact k3
  · exact k4
  · exact k5
  · exact .inl ⟨_, _, _, _, _, rfl, by decide, f4, b2, b2, hw⟩
  · exact .inl ⟨_, _, _, _, _, rfl, by decide, f4, b1, b2, hw⟩
  · exact .inl ⟨_, _, _, _, _, rfl, s0, fb _ (by omega), r4, s4, hw⟩
  · exact .inl ⟨_, _, _, _, _, rfl, s0, by rw [Int.sub_eq_add_neg]; exact fb _ (by omega), r4, s4, hw⟩
  · exact .inl ⟨_, _, _, _, _, rfl, s0, f4, r4, s4, wk_end⟩
  · exact .inl ⟨_, _, _, _, _, rfl, s0, f4, r4, s4, wk_gap⟩
  · exact .inl ⟨_, _, _, _, _, rfl, s0, f4, r4, s4, wk_mix2⟩
  · exact .inl ⟨_, _, _, _, _, rfl, s0, f4, r4, s4, w1⟩
  · exact .inl ⟨_, _, _, _, _, rfl, s0, f4, r4, s4, w2⟩
  · exact .inl ⟨_, _, _, _, _, rfl, s0, f4, r4, s4, w3⟩
  · exact .inl ⟨_, _, _, _, _, rfl, s0, f4, r4, s4, w4⟩
  · exact .inl ⟨_, _, _, _, _, rfl, s0, by rw [Int.sub_eq_add_neg]; exact fb _ (by omega), (br.add bs).mono (by decide), s4, hw⟩
  · exact .inl ⟨_, _, _, _, _, rfl, s0, fb _ (by omega), (br.sub bs).mono (by decide), s4, hw⟩
  · exact .inl ⟨_, _, _, _, _, rfl, s0, f4, r4, s4, w5⟩

/-- a good row -/
def GR (X : D) : Prop := ∃ fl r s w, X = .tup [.int fl, .tup [.int r, .int s], w] ∧ 0 < s ∧ Bd 300 fl ∧ Bd 300 r ∧ Bd 300 s ∧ WK w true
theorem GR.rk {X : D} (h : GR X) : RK X := by
  obtain ⟨fl, r, s, w, rfl, s0, bf, br, bs, hw⟩ := h
  exact .inl ⟨fl, r, s, w, true, rfl, s0, bf.mono (by decide), br.mono (by decide), bs.mono (by decide), hw⟩
theorem rows_gr {a b c d : Int} (h1 : RT a b) (h2 : RT c d) : ∀ (ts : List IT) (B : Int) (k : Nat), (∀ t ∈ ts, GI t ∧ Sm30 t) → BL k B → k + ts.length ≤ 900 → ∀ x ∈ rows a b c d B ts, GR x
  | [], B, k, _, hB, hk => by
    obtain ⟨fl, r, s, e, rr, r0, rl, kk, bf, bs⟩ := row_ok3 (w := .tup [.str "end"]) h1 h2 (hB.b (by simp at hk; omega))
    intro x hx
    rw [rows, List.mem_singleton] at hx
    subst hx
    have ro : rowOf a b c d B (.tup [.str "end"]) = .tup [.int fl, .tup [.int r, .int s], .tup [.str "end"]] := by
      unfold rowOf
      rw [e]
    exact ⟨fl, r, s, _, ro, rr.1, bf, bs.le (by omega), bs, wk_end⟩
  | t :: ts, B, k, h, hB, hk => by
    obtain ⟨g, sm⟩ := h t List.mem_cons_self
    obtain ⟨r0', r1'⟩ := room_b g.ok sm
    obtain ⟨fl, r, s, e, rr, r0, rl, kk, bf, bs⟩ := row_ok3 (w := .tup t.ws) h1 h2 (hB.b (by simp at hk; omega))
    intro x hx
    rw [rows, List.mem_cons] at hx
    rcases hx with rfl | hx
    · have ro : rowOf a b c d B (.tup t.ws) = .tup [.int fl, .tup [.int r, .int s], .tup t.ws] := by
        unfold rowOf
        rw [e]
      exact ⟨fl, r, s, _, ro, rr.1, bf, bs.le (by omega), bs, wk_good g⟩
    · exact rows_gr h1 h2 ts (B + t.room) (k + 1) (fun t ht => h t (List.mem_cons_of_mem _ ht)) (hB.step r0' r1') (by simp at hk; omega) x hx
theorem changed_ok {G : List D} {x y : Int} (hG : ∀ X ∈ G, GR X) (h0 : G ≠ []) (hl : G.length ≤ 500) : ∃ R, fn__law_changed [.lst G, .int x, .int y] = .ok (.lst R) ∧ (∀ X ∈ R, RK X) ∧ R.length ≤ 501 := by
  have l1 : 0 < G.length := (by cases G with | nil => exact absurd rfl h0 | cons _ _ => simp)
  have lz : (0 : Int) < (G.length : Int) := by omega
  obtain ⟨p, hp, pl⟩ : ∃ p : Nat, y % (G.length : Int) = p ∧ p < G.length := ⟨(y % (G.length : Int)).toNat, by have := Int.emod_nonneg y (b := (G.length : Int)) (by omega); omega, by have := Int.emod_nonneg y (b := (G.length : Int)) (by omega); have := Int.emod_lt_of_pos y lz; omega⟩
  obtain ⟨q, hq, ql⟩ : ∃ q : Nat, y / 61 % (G.length : Int) = q ∧ q < G.length := ⟨(y / 61 % (G.length : Int)).toNat, by have := Int.emod_nonneg (y / 61) (b := (G.length : Int)) (by omega); omega, by have := Int.emod_nonneg (y / 61) (b := (G.length : Int)) (by omega); have := Int.emod_lt_of_pos (y / 61) lz; omega⟩
  have s1 := slT_to (xs := G) (v := (p : Int)) (by omega)
  have s2 := slT_from (xs := G) (v := (p : Int)) (by omega)
  have s3 := slT_from (xs := G) (v := (p : Int) + 1) (by omega)
  have t1 : ((p : Int) + 1).toNat = p + 1 := by omega
  rw [Int.toNat_natCast] at s1 s2
  rw [t1] at s3
  have a1 := at_nat (xs := G) pl
  have a2 := at_nat (xs := G) ql
  by_cases z0 : x % 5 = 0
  · refine ⟨G.take p ++ G.drop (p + 1), by simp [fn__law_changed, b__law_changed, o_rem lz, o_rem, hp, z0, s1, s3, o_addL (xs := G.take p) (ys := G.drop (p + 1)) (by simp; omega)], fun X hX => ?_, by simp; omega⟩
    rcases List.mem_append.mp hX with hX | hX
    · exact (hG X (List.mem_of_mem_take hX)).rk
    · exact (hG X (List.mem_of_mem_drop hX)).rk
  · by_cases z1 : x % 5 = 1
    · refine ⟨(G.take p ++ [G[q]]) ++ G.drop p, by simp [fn__law_changed, b__law_changed, o_rem lz, o_rem, o_div, divOk_s, hp, hq, z1, s1, s2, a2, o_addL (xs := G.take p) (ys := [G[q]]) (by simp; omega), o_addL (xs := G.take p ++ [G[q]]) (ys := G.drop p) (by simp; omega)], fun X hX => ?_, by simp; omega⟩
      rcases List.mem_append.mp hX with hX | hX
      · rcases List.mem_append.mp hX with hX | hX
        · exact (hG X (List.mem_of_mem_take hX)).rk
        · rw [List.mem_singleton.mp hX]
          exact (hG _ (List.getElem_mem ql)).rk
      · exact (hG X (List.mem_of_mem_drop hX)).rk
    · obtain ⟨fl, r, s, w, e, s0, bf, br, bs, hw⟩ := hG _ (List.getElem_mem pl)
      obtain ⟨S, eS, kS⟩ := spoiled_ok (x := x / 5) (k := 0) s0 bf br bs hw
      rw [e] at a1
      refine ⟨(G.take p ++ [S]) ++ G.drop (p + 1), by simp [fn__law_changed, b__law_changed, o_rem lz, o_rem, o_div, divOk_s, hp, z0, z1, s1, s3, a1, eS, o_addL (xs := G.take p) (ys := [S]) (by simp; omega), o_addL (xs := G.take p ++ [S]) (ys := G.drop (p + 1)) (by simp; omega)], fun X hX => ?_, by simp; omega⟩
      rcases List.mem_append.mp hX with hX | hX
      · rcases List.mem_append.mp hX with hX | hX
        · exact (hG X (List.mem_of_mem_take hX)).rk
        · rw [List.mem_singleton.mp hX]
          exact kS
      · exact (hG X (List.mem_of_mem_drop hX)).rk
/-- a row as both read it -/
structure RX where
  x : D
  ob : Option Int
  t : IT
structure RXP (ra ot : D) (r : RX) : Prop where
  a : fn_border_of [r.x, ra, ot] = .ok (obD r.ob)
  b : fn__law_border [r.x, ra, ot] = .ok (obD r.ob)
  c : r.ob ≠ none → (∃ f g, r.x = .tup [f, g, .tup r.t.ws]) ∧ W5 r.t.s ∧ r.t.mid.length ≤ 1000
theorem rx_of {a b c d : Int} {X : D} (h1 : RT a b) (h2 : RT c d) (h : RK X) : ∃ r : RX, X = r.x ∧ RXP (.tup [.int a, .int b]) (.tup [.int c, .int d]) r := by
  rcases h with ⟨fl, r, s, w, k, rfl, s0, bf, br, bs, hw⟩ | h
  · obtain ⟨ob, e1, e2, hk⟩ := core h1 h2 s0 bf br bs hw.a hw.b
    cases ob with
    | none => exact ⟨⟨_, none, ⟨"", [], 0⟩⟩, rfl, e1, e2, fun z => absurd rfl z⟩
    | some B =>
      obtain ⟨t, rfl, h3, h4⟩ := hw.c (hk (by simp))
      exact ⟨⟨_, some B, t⟩, rfl, e1, e2, fun _ => ⟨⟨_, _, rfl⟩, h3, h4⟩⟩
  · obtain ⟨e1, e2⟩ := h (.tup [.int a, .int b]) (.tup [.int c, .int d])
    exact ⟨⟨X, none, ⟨"", [], 0⟩⟩, rfl, e1, e2, fun z => absurd rfl z⟩
/-- the first wrong row, or the last word -/
def fwL : Str → Int → Nat → List RX → Nat ⊕ Str
  | w, _, _, [] => .inr w
  | w, l, i, r :: rs => match r.ob with
    | none => .inl i
    | some B => if (fol r.t.s w && st B l w) = true then fwL r.t.s B (i + 1) rs else .inl i
def bsL (rs : List RX) : List Int := rs.map fun r => r.ob.getD 0
theorem prog_loop {ra ot S : D} : ∀ (rs : List RX) (k : Nat) (Bs : List Int) (w : Str) (v5 v6 v7 : Sl), (∀ r ∈ rs, RXP ra ot r) → (w = "" ∨ W5 w) → Bs.length + rs.length ≤ 1000 →
    match fwL w (lastB Bs) k rs with
    | .inl j => ∃ e', forL (gTup' (gCon (gNam 5) (gCon (gNam 6) gNil'))) b_borders_read_1 (((rs.map RX.x).zipIdx k).map fun p => .tup [.int ((p.2 : Nat) : Int), p.1]) [.sh S, .sh ra, .sh ot, .ow false (Bs.map D.int), .sh (.str w), v5, v6, v7] = .err ⟨"NoList", some ("at", (j : Int))⟩ e'
    | .inr w' => ∃ v5' v6' v7', forL (gTup' (gCon (gNam 5) (gCon (gNam 6) gNil'))) b_borders_read_1 (((rs.map RX.x).zipIdx k).map fun p => .tup [.int ((p.2 : Nat) : Int), p.1]) [.sh S, .sh ra, .sh ot, .ow false (Bs.map D.int), .sh (.str w), v5, v6, v7] = .nx [.sh S, .sh ra, .sh ot, .ow false ((Bs ++ bsL rs).map D.int), .sh (.str w'), v5', v6', v7']
  | [], k, Bs, w, v5, v6, v7, _, _, _ => by
    show ∃ v5' v6' v7', _ = _
    exact ⟨v5, v6, v7, by simp [forL, bsL]⟩
  | r :: rs, k, Bs, w, v5, v6, v7, h, hw, hl => by
    have hr := h r List.mem_cons_self
    have sw : strS w = true := by
      rcases hw with rfl | hw
      · exact sNo
      · exact hw.s
    have ba := hr.a
    rw [fwL]
    cases ob : r.ob with
    | none =>
      rw [ob] at ba
      refine ⟨[.sh S, .sh ra, .sh ot, .ow false (Bs.map D.int), .sh (.str w), .sh (.int (k : Int)), .sh r.x, .sh .non], ?_⟩
      have run : turn (gTup' (gCon (gNam 5) (gCon (gNam 6) gNil'))) b_borders_read_1 (.tup [.int (k : Int), r.x]) [.sh S, .sh ra, .sh ot, .ow false (Bs.map D.int), .sh (.str w), v5, v6, v7] = .err ⟨"NoList", some ("at", (k : Int))⟩ [.sh S, .sh ra, .sh ot, .ow false (Bs.map D.int), .sh (.str w), .sh (.int (k : Int)), .sh r.x, .sh .non] := by
        unfold turn
        simp [b_borders_read_1, ba, obD]
      rw [List.map_cons, List.zipIdx_cons, List.map_cons, forL_err run]
    | some B =>
      rw [ob] at ba
      obtain ⟨⟨f, g, e⟩, w5, ml⟩ := hr.c (by rw [ob]; simp)
      obtain ⟨q, e2⟩ := ws0 r.t
      rw [e2] at e
      rw [e] at ba
      have fo := follows_ok w5.s sw
      have so := stands_ok (B := B) (l := lastB Bs) sw
      have ll : Bs.length < 1000000 := by simp at hl; omega
      have ad : opAdd (.lst [.int 0]) (.lst (Bs.map D.int)) = some (.lst (.int 0 :: Bs.map D.int)) := by rw [o_addL (by simp; omega)]; rfl
      by_cases z : (fol r.t.s w && st B (lastB Bs) w) = true
      · obtain ⟨z1, z2⟩ := Bool.and_eq_true_iff.mp z
        rw [z1] at fo
        rw [z2] at so
        simp only [if_pos z]
        have run : turn (gTup' (gCon (gNam 5) (gCon (gNam 6) gNil'))) b_borders_read_1 (.tup [.int (k : Int), .tup [f, g, .tup (.str r.t.s :: q)]]) [.sh S, .sh ra, .sh ot, .ow false (Bs.map D.int), .sh (.str w), v5, v6, v7] = .nx [.sh S, .sh ra, .sh ot, .ow false ((Bs ++ [B]).map D.int), .sh (.str r.t.s), .sh (.int (k : Int)), .sh (.tup [f, g, .tup (.str r.t.s :: q)]), .sh (.int B)] := by
          unfold turn
          simp [b_borders_read_1, ba, obD, fo, ad, lastB_at, so, ll]
        have ih := prog_loop (S := S) rs (k + 1) (Bs ++ [B]) r.t.s (.sh (.int (k : Int))) (.sh (.tup [f, g, .tup (.str r.t.s :: q)])) (.sh (.int B)) (fun r hr => h r (List.mem_cons_of_mem _ hr)) (.inr w5) (by simp at hl ⊢; omega)
        rw [lastB_app] at ih
        have e3 : (((r :: rs).map RX.x).zipIdx k).map (fun p => D.tup [.int ((p.2 : Nat) : Int), p.1]) = .tup [.int (k : Int), .tup [f, g, .tup (.str r.t.s :: q)]] :: ((rs.map RX.x).zipIdx (k + 1)).map (fun p => D.tup [.int ((p.2 : Nat) : Int), p.1]) := by
          rw [List.map_cons, List.zipIdx_cons, List.map_cons, e]
        rw [e3, forL_nx run]
        cases y : fwL r.t.s B (k + 1) rs with
        | inl j => rw [y] at ih; exact ih
        | inr w' =>
          rw [y] at ih
          obtain ⟨v5', v6', v7', ih⟩ := ih
          refine ⟨v5', v6', v7', ?_⟩
          rw [ih]
          simp [bsL, ob]
      · simp only [if_neg z]
        have e3 : (((r :: rs).map RX.x).zipIdx k).map (fun p => D.tup [.int ((p.2 : Nat) : Int), p.1]) = .tup [.int (k : Int), .tup [f, g, .tup (.str r.t.s :: q)]] :: ((rs.map RX.x).zipIdx (k + 1)).map (fun p => D.tup [.int ((p.2 : Nat) : Int), p.1]) := by
          rw [List.map_cons, List.zipIdx_cons, List.map_cons, e]
        rw [e3]
        refine ⟨[.sh S, .sh ra, .sh ot, .ow false (Bs.map D.int), .sh (.str w), .sh (.int (k : Int)), .sh (.tup [f, g, .tup (.str r.t.s :: q)]), .sh (.int B)], ?_⟩
        have run : turn (gTup' (gCon (gNam 5) (gCon (gNam 6) gNil'))) b_borders_read_1 (.tup [.int (k : Int), .tup [f, g, .tup (.str r.t.s :: q)]]) [.sh S, .sh ra, .sh ot, .ow false (Bs.map D.int), .sh (.str w), v5, v6, v7] = .err ⟨"NoList", some ("at", (k : Int))⟩ [.sh S, .sh ra, .sh ot, .ow false (Bs.map D.int), .sh (.str w), .sh (.int (k : Int)), .sh (.tup [f, g, .tup (.str r.t.s :: q)]), .sh (.int B)] := by
          unfold turn
          cases z1 : fol r.t.s w with
          | false =>
            rw [z1] at fo
            simp [b_borders_read_1, ba, obD, fo]
          | true =>
            cases z2 : st B (lastB Bs) w with
            | false =>
              rw [z1] at fo
              rw [z2] at so
              simp [b_borders_read_1, ba, obD, fo, ad, lastB_at, so]
            | true => exact absurd (by rw [z1, z2]; rfl) z
        rw [forL_err run]

theorem law_wrong_loop {ra ot : D} {all : List RX} : ∀ (rs pre : List RX) (w : Str) (l : Int) (v5 v6 : Sl), all = pre ++ rs → (∀ r ∈ rs, RXP ra ot r) → (w = "" ∨ W5 w) →
    match fwL w l pre.length rs with
    | .inl j => ∃ e', forL (gNam 5) b__law_first_wrong_1 ((List.range' pre.length rs.length).map fun (i : Nat) => .int (i : Int)) [.sh (.lst (all.map RX.x)), .sh ra, .sh ot, .sh (.str w), .sh (.int l), v5, v6] = .rt (.int (j : Int)) e'
    | .inr w' => ∃ l' v5' v6', forL (gNam 5) b__law_first_wrong_1 ((List.range' pre.length rs.length).map fun (i : Nat) => .int (i : Int)) [.sh (.lst (all.map RX.x)), .sh ra, .sh ot, .sh (.str w), .sh (.int l), v5, v6] = .nx [.sh (.lst (all.map RX.x)), .sh ra, .sh ot, .sh (.str w'), .sh (.int l'), v5', v6']
  | [], pre, w, l, v5, v6, _, _, _ => by
    show ∃ l' v5' v6', _ = _
    exact ⟨l, v5, v6, rfl⟩
  | r :: rs, pre, w, l, v5, v6, ha, h, hw => by
    have hr := h r List.mem_cons_self
    have bb := hr.b
    have atX : atD (all.map RX.x) (pre.length : Int) = some r.x := at_of rfl (by rw [ha]; simp)
    rw [fwL, List.length_cons, List.range'_succ, List.map_cons]
    cases ob : r.ob with
    | none =>
      rw [ob] at bb
      have run : turn (gNam 5) b__law_first_wrong_1 (.int (pre.length : Int)) [.sh (.lst (all.map RX.x)), .sh ra, .sh ot, .sh (.str w), .sh (.int l), v5, v6] = .rt (.int (pre.length : Int)) [.sh (.lst (all.map RX.x)), .sh ra, .sh ot, .sh (.str w), .sh (.int l), .sh (.int (pre.length : Int)), .sh .non] := by
        rw [turn_nam' (by simp)]
        simp [b__law_first_wrong_1, atX, bb, obD]
      exact ⟨_, forL_rt run⟩
    | some B =>
      rw [ob] at bb
      obtain ⟨⟨f, g, e⟩, w5, ml⟩ := hr.c (by rw [ob]; simp)
      obtain ⟨q, e2⟩ := ws0 r.t
      rw [e2] at e
      rw [e] at bb atX
      have so := law_stands_ok (w := r.t.s) (a := w) (B := B) (l := l) w5 hw
      by_cases z : (fol r.t.s w && st B l w) = true
      · rw [z] at so
        simp only [if_pos z]
        have run : turn (gNam 5) b__law_first_wrong_1 (.int (pre.length : Int)) [.sh (.lst (all.map RX.x)), .sh ra, .sh ot, .sh (.str w), .sh (.int l), v5, v6] = .nx [.sh (.lst (all.map RX.x)), .sh ra, .sh ot, .sh (.str r.t.s), .sh (.int B), .sh (.int (pre.length : Int)), .sh (.int B)] := by
          rw [turn_nam' (by simp)]
          simp [b__law_first_wrong_1, atX, bb, obD, so]
        have ih := law_wrong_loop (all := all) rs (pre ++ [r]) r.t.s B (.sh (.int (pre.length : Int))) (.sh (.int B)) (by rw [ha]; simp) (fun r hr => h r (List.mem_cons_of_mem _ hr)) (.inr w5)
        rw [List.length_append] at ih
        rw [forL_nx run]
        exact ih
      · have z' : (fol r.t.s w && st B l w) = false := Bool.eq_false_iff.mpr z
        rw [z'] at so
        simp only [if_neg z]
        have run : turn (gNam 5) b__law_first_wrong_1 (.int (pre.length : Int)) [.sh (.lst (all.map RX.x)), .sh ra, .sh ot, .sh (.str w), .sh (.int l), v5, v6] = .rt (.int (pre.length : Int)) [.sh (.lst (all.map RX.x)), .sh ra, .sh ot, .sh (.str w), .sh (.int l), .sh (.int (pre.length : Int)), .sh (.int B)] := by
          rw [turn_nam' (by simp)]
          simp [b__law_first_wrong_1, atX, bb, obD, so]
        exact ⟨_, forL_rt run⟩
/-- the first wrong row's number -/
def fw (rs : List RX) : Option Nat := match fwL "" 0 0 rs with
  | .inl j => some j
  | .inr w => if w = "end" then none else some rs.length
theorem fwL_w5 : ∀ {rs : List RX} {w : Str} {l : Int} {i : Nat} {w' : Str} {ra ot : D}, (∀ r ∈ rs, RXP ra ot r) → (w = "" ∨ W5 w) → fwL w l i rs = .inr w' → (w' = "" ∨ W5 w')
  | [], w, l, i, w', ra, ot, _, hw, h => by
    cases h
    exact hw
  | r :: rs, w, l, i, w', ra, ot, h, hw, q => by
    rw [fwL] at q
    cases ob : r.ob with
    | none => rw [ob] at q; cases q
    | some B =>
      rw [ob] at q
      simp only at q
      by_cases z : (fol r.t.s w && st B l w) = true
      · rw [if_pos z] at q
        exact fwL_w5 (fun r hr => h r (List.mem_cons_of_mem _ hr)) (.inr ((h r List.mem_cons_self).c (by rw [ob]; simp)).2.1) q
      · rw [if_neg z] at q; cases q
theorem first_wrong_ok {ra ot : D} {rs : List RX} (h : ∀ r ∈ rs, RXP ra ot r) (hl : rs.length ≤ 1000) : fn__law_first_wrong [.lst (rs.map RX.x), ra, ot] = .ok (match fw rs with
    | none => .non
    | some j => .int (j : Int)) := by
  have lp := law_wrong_loop (all := rs) rs [] "" 0 .no .no rfl h (.inl rfl)
  have r := rng1_of (m := vCons (vBf bfLen (vCons (vVar 0) vNil)) vNil) (e := [.sh (.lst (rs.map RX.x)), .sh ra, .sh ot, .sh (.str ""), .sh (.int 0), .no, .no]) (e1 := [.sh (.lst (rs.map RX.x)), .sh ra, .sh ot, .sh (.str ""), .sh (.int 0), .no, .no]) (j := (rs.length : Int)) (by simp) (by omega) (by omega)
  rw [Int.toNat_natCast, List.range_eq_range'] at r
  unfold fw
  cases q : fwL "" 0 0 rs with
  | inl j =>
    rw [List.length_nil, q] at lp
    obtain ⟨e', lp⟩ := lp
    simp [fn__law_first_wrong, b__law_first_wrong, r, lp]
  | inr w =>
    have w6 := fwL_w5 h (.inl rfl) q
    have sw : strS w = true := by
      rcases w6 with rfl | w5
      · exact sNo
      · exact w5.s
    have ne := S_ne sw sEnd
    rw [List.length_nil, q] at lp
    obtain ⟨l', v5, v6, lp⟩ := lp
    by_cases z : w = "end"
    · rw [decide_eq_true z] at ne
      simp [fn__law_first_wrong, b__law_first_wrong, r, lp, ne, z]
      subst z
      simp [ne]
    · rw [decide_eq_false z] at ne
      simp [fn__law_first_wrong, b__law_first_wrong, r, lp, ne, z]
theorem borders_wrong {ra ot : D} {rs : List RX} {j : Nat} (h : ∀ r ∈ rs, RXP ra ot r) (hl : rs.length ≤ 1000) (hj : fw rs = some j) : fn_borders_read [.lst (rs.map RX.x), ra, ot] = .err ⟨"NoList", some ("at", (j : Int))⟩ := by
  have lp := prog_loop (S := .lst (rs.map RX.x)) rs 0 [] "" .no .no .no h (.inl rfl) (by simpa using hl)
  unfold fw at hj
  rw [show lastB [] = 0 from rfl] at lp
  cases q : fwL "" 0 0 rs with
  | inl i =>
    rw [q] at lp hj
    cases hj
    obtain ⟨e', lp⟩ := lp
    simp only [List.map_nil] at lp
    simp [fn_borders_read, b_borders_read, lp]
  | inr w =>
    have w6 := fwL_w5 h (.inl rfl) q
    have sw : strS w = true := by
      rcases w6 with rfl | w5
      · exact sNo
      · exact w5.s
    have ne := S_ne sw sEnd
    rw [q] at lp hj
    obtain ⟨v5, v6, v7, lp⟩ := lp
    simp only [List.map_nil] at lp
    by_cases z : w = "end"
    · simp [z] at hj
    · simp only [if_neg z] at hj
      cases hj
      rw [decide_eq_false z] at ne
      simp [fn_borders_read, b_borders_read, lp, ne]

theorem fwL_ch : ∀ {rs : List RX} {w : Str} {l : Int} {i : Nat} {w' : Str}, fwL w l i rs = .inr w' → Ch w l (rs.map fun r => ⟨r.x, r.ob.getD 0, r.ob.getD 0, r.t⟩) ∧ (∀ r ∈ rs, r.ob ≠ none) ∧ lwR w (rs.map fun r => ⟨r.x, r.ob.getD 0, r.ob.getD 0, r.t⟩) = w'
  | [], w, l, i, w', h => by
    cases h
    exact ⟨trivial, by simp, rfl⟩
  | r :: rs, w, l, i, w', h => by
    rw [fwL] at h
    cases ob : r.ob with
    | none => rw [ob] at h; cases h
    | some B =>
      rw [ob] at h
      simp only at h
      by_cases z : (fol r.t.s w && st B l w) = true
      · rw [if_pos z] at h
        obtain ⟨z1, z2⟩ := Bool.and_eq_true_iff.mp z
        obtain ⟨h1, h2, h3⟩ := fwL_ch h
        refine ⟨⟨z1, by show st (r.ob.getD 0) l w = true; rw [ob]; exact z2, by show Ch r.t.s (r.ob.getD 0) _; rw [ob]; exact h1⟩, fun x hx => ?_, h3⟩
        rcases List.mem_cons.mp hx with rfl | hx
        · rw [ob]; simp
        · exact h2 x hx
      · rw [if_neg z] at h; cases h
theorem good_read {a b c d : Int} {rs : List RX} (h1 : RT a b) (h2 : RT c d) (h : ∀ r ∈ rs, RXP (.tup [.int a, .int b]) (.tup [.int c, .int d]) r) (hl : rs.length ≤ 1000) (hj : fw rs = none) : ∃ T, fn_read_back [.lst (rs.map RX.x), .tup [.int a, .int b], .tup [.int c, .int d]] = .ok (.lst T) := by
  have q : fwL "" 0 0 rs = .inr "end" := by
    unfold fw at hj
    cases q : fwL "" 0 0 rs with
    | inl j => rw [q] at hj; cases hj
    | inr w =>
      rw [q] at hj
      by_cases z : w = "end"
      · rw [z]
      · simp only [if_neg z] at hj
        cases hj
  obtain ⟨c1, c2, c3⟩ := fwL_ch q
  have rp : ∀ r ∈ rs.map (fun r : RX => (⟨r.x, r.ob.getD 0, r.ob.getD 0, r.t⟩ : RR)), RowP (.tup [.int a, .int b]) (.tup [.int c, .int d]) 1 1 r := fun r hr => by
    obtain ⟨x, hx, rfl⟩ := List.mem_map.mp hr
    have hp := h x hx
    have hn := c2 x hx
    obtain ⟨⟨f, g, e⟩, w5, ml⟩ := hp.c hn
    have ha := hp.a
    cases ob : x.ob with
    | none => exact absurd ob hn
    | some B =>
      rw [ob] at ha
      exact ⟨ha, ⟨f, g, e⟩, w5.s, rfl, ml⟩
  have := read_ok h1 h2 rp c1 c3 (by simpa using hl) (by
    intro z
    rw [z] at c3
    exact absurd c3 (wrd.2.2.2.2.2.2.2.2.2.2.2.2.2.2.2.2.2.2.2.2.2.2.2.2.1))
  rw [List.map_map] at this
  exact ⟨_, this⟩
theorem anc_facts : ("NoNumber" : Str) ∈ names0 ∧ ("NoList" : Str) ∈ names0 ∧ anc0 "NoNumber" "NoNumber" = true ∧ anc0 "NoList" "NoNumber" = false ∧ anc0 "NoList" "NoList" = true ∧ anc0 "NoList" "NoText" = false ∧ anc0 "NoList" "CutError" = true := by decide +kernel
theorem told_none {L ra ot T : D} (h : fn_read_back [L, ra, ot] = .ok T) (hT : ∃ xs, T = .lst xs) : fn__law_told [L, ra, ot] = .ok (.tup [.non, .bl false, .bl false]) := by
  obtain ⟨xs, rfl⟩ := hT
  simp [fn__law_told, b__law_told, h]
theorem told_wrong {L ra ot : D} {j : Int} (h : fn_read_back [L, ra, ot] = .err ⟨"NoList", some ("at", j)⟩) : fn__law_told [L, ra, ot] = .ok (.tup [.int j, .bl false, .bl true]) := by
  obtain ⟨n1, n2, n3, n4, n5, n6, n7⟩ := anc_facts
  simp [fn__law_told, b__law_told, h, n1, n2, n3, n4, n5, n6, n7]
theorem told_number {L ra ot : D} (h : fn_check_rates [ra, ot] = .err ⟨"NoNumber", none⟩) : fn__law_told [L, ra, ot] = .ok (.tup [.str "number", .bl false, .bl false]) := by
  obtain ⟨n1, n2, n3, n4, n5, n6, n7⟩ := anc_facts
  have r : fn_read_back [L, ra, ot] = .err ⟨"NoNumber", none⟩ := by simp [fn_read_back, b_read_back, h]
  simp [fn__law_told, b__law_told, r, n1, n2, n3, n4, n5, n6, n7]
theorem len9 {xs : List Int} (h : xs.length = 9) : ∃ a b c d e f g i j, xs = [a, b, c, d, e, f, g, i, j] := by
  match xs, h with
  | [a, b, c, d, e, f, g, i, j], _ => exact ⟨a, b, c, d, e, f, g, i, j, rfl⟩
theorem at_5' {x y z u v a xs} : atD (x :: y :: z :: u :: v :: a :: xs) 5 = some a := at_of (n := 5) rfl rfl
theorem at_6 {x y z u v a b xs} : atD (x :: y :: z :: u :: v :: a :: b :: xs) 6 = some b := at_of (n := 6) rfl rfl
theorem at_7 {x y z u v a b c xs} : atD (x :: y :: z :: u :: v :: a :: b :: c :: xs) 7 = some c := at_of (n := 7) rfl rfl
theorem at_8 {x y z u v a b c d xs} : atD (x :: y :: z :: u :: v :: a :: b :: c :: d :: xs) 8 = some d := at_of (n := 8) rfl rfl
theorem law_pure (ns : List Int) (hl : ns.length ≤ 63) : fn_law [.lst (ns.map D.int)] = .ok (.bl true) := by
  obtain ⟨c0, hc0⟩ := cell_ok ns 0 (by omega)
  obtain ⟨c1, hc1⟩ := cell_ok ns 1 (by omega)
  obtain ⟨xs, ex, lx, bx⟩ := drawn_ok (c1 + 31 * c0) 9 (by decide)
  obtain ⟨x0, x1, x2, x3, x4, x5, x6, x7, x8, rfl⟩ := len9 lx
  have ex' : fn__law_drawn [.int (c1 + 31 * c0), .int 9] = .ok (.lst [.int x0, .int x1, .int x2, .int x3, .int x4, .int x5, .int x6, .int x7, .int x8]) := ex
  obtain ⟨ys, ey, ly, by'⟩ := drawn_ok c0 3 (by decide)
  obtain ⟨y0, y1, y2, rfl⟩ := len3 ly
  have ey' : fn__law_drawn [.int c0, .int 3] = .ok (.lst [.int y0, .int y1, .int y2]) := ey
  have m31 : opMul (.int 31) (.int c0) = some (.int (31 * c0)) := o_mul (mulOk_l (by decide) (by decide))
  obtain ⟨a, b, e1, rb1⟩ := rate_ok y2 (by' y2 (by simp)).1
  obtain ⟨a2, b2, e2, rb2⟩ := rate_ok x6 (bx x6 (by simp)).1
  obtain ⟨a3, b3, e3, rb3⟩ := rate_ok x7 (bx x7 (by simp)).1
  obtain ⟨c, d, eo, ro⟩ : ∃ c d, atD [.tup [.int a, .int b], .tup [.int a2, .int b2]] (x5 % 2) = some (.tup [.int c, .int d]) ∧ RT c d := by
    obtain ⟨y, hy, e⟩ := at_mem (xs := [.tup [.int a, .int b], .tup [.int a2, .int b2]]) (i := x5 % 2) (by omega) (by simp; omega)
    simp at hy
    rcases hy with rfl | rfl
    · exact ⟨_, _, e, rb1.rt⟩
    · exact ⟨_, _, e, rb2.rt⟩
  obtain ⟨p, q, et, rt3⟩ : ∃ p q, atD [.tup [.int c, .int d], .tup [.int c, .int d], .tup [.int a3, .int b3]] (x8 % 3) = some (.tup [.int p, .int q]) ∧ RT p q := by
    obtain ⟨y, hy, e⟩ := at_mem (xs := [.tup [.int c, .int d], .tup [.int c, .int d], .tup [.int a3, .int b3]]) (i := x8 % 3) (by omega) (by simp; omega)
    simp at hy
    rcases hy with rfl | rfl
    · exact ⟨_, _, e, ro⟩
    · exact ⟨_, _, e, rb3.rt⟩
  have r1 := rb1.rt
  have sl := slT_two (xs := ns.map D.int) (u := 2) (v := 12) (by decide) (by decide)
  have e10 : (12 : Int).toNat - (2 : Int).toNat = 10 := by decide
  have e02 : (2 : Int).toNat = 2 := by decide
  rw [e10, e02, ← List.map_drop, ← List.map_take] at sl
  obtain ⟨ts, ets, T, lt⟩ := track_ok (cs := (ns.drop 2).take 10) (by simp; omega)
  generalize ((ns.drop 2).take 10).map D.int = CS at *
  have sm : ∀ t ∈ ts, t.Ok ∧ Sm30 t := fun t ht => ⟨(T.g t ht).1.ok, (T.g t ht).2⟩
  have wr := written_ok r1 ro sm (by omega)
  have gr := rows_gr r1 ro ts 0 0 T.g ⟨by omega, by omega⟩ (by omega)
  have bk := back_ok r1 ro T (by omega)
  have lG := rows_len (a := a) (b := b) (c := c) (d := d) 0 ts
  generalize rows a b c d 0 ts = G at *
  have tb := told_none bk ⟨_, rfl⟩
  have G0 : G ≠ [] := fun z => by rw [z] at lG; simp at lG
  obtain ⟨R, hR, kR, lR⟩ : ∃ R, (if 0 < x4 % 4 then fn__law_changed [.lst G, .int x2, .int x3] = .ok (.lst R) else R = G) ∧ (∀ X ∈ R, RK X) ∧ R.length ≤ 501 := by
    by_cases z : 0 < x4 % 4
    · obtain ⟨R, h1, h2, h3⟩ := changed_ok (x := x2) (y := x3) gr G0 (by omega)
      exact ⟨R, by rw [if_pos z]; exact h1, h2, h3⟩
    · exact ⟨G, by rw [if_neg z], fun X hX => (gr X hX).rk, by omega⟩
  obtain ⟨rs, rfl, hrs⟩ := of_all (f := RX.x) (P := RXP (.tup [.int a, .int b]) (.tup [.int p, .int q])) (zs := R) fun X hX => rx_of r1 rt3 (kR X hX)
  have lrs : rs.length ≤ 1000 := by simp at lR; omega
  have fo := first_wrong_ok hrs lrs
  have t1 : fn__law_told [.lst (rs.map RX.x), .tup [.int 0, .int 1], .tup [.int a, .int b]] = .ok (.tup [.str "number", .bl false, .bl false]) := told_number (check_odd1 (.inr ⟨0, 1, rfl, isfrac_ok ⟨by decide, by decide⟩, by decide⟩))
  have t2 : fn__law_told [.lst (rs.map RX.x), .tup [.int a, .int b], .int 24] = .ok (.tup [.str "number", .bl false, .bl false]) := told_number (check_odd2 r1 (.inl (by simp [fn_is_fraction, b_is_fraction, opIsi, D.isT])))
  have sN : strS "number" = true := by decide +kernel
  have eqN : ∀ {u v : D}, opEq (.tup [.non, .bl false, .bl false]) (.tup [.non, .bl false, .bl false]) = some (.bl true) := fun {u v} => o_eqS (by simp)
  cases hj : fw rs with
  | none =>
    rw [hj] at fo
    obtain ⟨TT, gd⟩ := good_read r1 rt3 hrs lrs hj
    have tn := told_none gd ⟨_, rfl⟩
    have q1 := o_eqS (a := .tup [.non, .bl false, .bl false]) (by simp)
    generalize rs.map RX.x = R at *
    by_cases z : 0 < x4 % 4
    · rw [if_pos z] at hR
      simp [fn_law, b_law, hc0, hc1, m31, ex', ey', e1, e2, e3, at_5', at_6, at_7, at_8, o_rem, eo, et, sl, ets, wr, z, hR, fo, tn, q1]
    · rw [if_neg z] at hR
      subst hR
      simp [fn_law, b_law, hc0, hc1, m31, ex', ey', e1, e2, e3, at_5', at_6, at_7, at_8, o_rem, eo, et, sl, ets, wr, z, fo, tn, q1]
  | some j =>
    rw [hj] at fo
    have bw := borders_wrong hrs lrs hj
    have rw' : fn_read_back [.lst (rs.map RX.x), .tup [.int a, .int b], .tup [.int p, .int q]] = .err ⟨"NoList", some ("at", (j : Int))⟩ := by simp [fn_read_back, b_read_back, check_ok r1 rt3, bw]
    have tw := told_wrong rw'
    have q1 := o_eqS (a := .tup [.non, .bl false, .bl false]) (by simp)
    have q2 := o_neS (a := .tup [.int (j : Int), .bl false, .bl true]) (by simp)
    have q3 := o_neS (a := .tup [.str "number", .bl false, .bl false]) (by simp [sN])
    generalize rs.map RX.x = R at *
    have tt1 : ∀ {S1 S2 S4 S5 S7 S8 S9 S10 : Sl} {S0 : Sl}, turn (gNam 10) b_law_1 (.tup [.tup [.int 0, .int 1], .tup [.int a, .int b]]) [S0, S1, S2, S4, S5, S7, .sh (.lst R), S8, S9, S10, .no] = .nx [S0, S1, S2, S4, S5, S7, .sh (.lst R), S8, S9, S10, .sh (.tup [.tup [.int 0, .int 1], .tup [.int a, .int b]])] := by
      intros
      rw [turn_nam' (by simp)]
      simp [b_law_1, t1, q3]
    have tt2 : ∀ {S1 S2 S4 S5 S7 S8 S9 S10 S11 : Sl} {S0 : Sl}, turn (gNam 10) b_law_1 (.tup [.tup [.int a, .int b], .int 24]) [S0, S1, S2, S4, S5, S7, .sh (.lst R), S8, S9, S10, S11] = .nx [S0, S1, S2, S4, S5, S7, .sh (.lst R), S8, S9, S10, .sh (.tup [.tup [.int a, .int b], .int 24])] := by
      intros
      rw [turn_nam' (by simp)]
      simp [b_law_1, t2, q3]
    have fl0 : ∀ {g : D → Env → Option Env} {b : MS} {e : Env}, forL g b [] e = .nx e := by intros; rfl
    by_cases z : 0 < x4 % 4
    · rw [if_pos z] at hR
      simp [fn_law, b_law, hc0, hc1, m31, ex', ey', e1, e2, e3, at_5', at_6, at_7, at_8, o_rem, eo, et, sl, ets, wr, z, hR, fo, tw, q1, q2, forL_nx tt1, forL_nx tt2, fl0, tb]
    · rw [if_neg z] at hR
      subst hR
      simp [fn_law, b_law, hc0, hc1, m31, ex', ey', e1, e2, e3, at_5', at_6, at_7, at_8, o_rem, eo, et, sl, ets, wr, z, fo, tw, q1, q2, forL_nx tt1, forL_nx tt2, fl0, tb]

end VL

open PySem PySem.W PySem.Calls PyProof.Rows in
theorem PySem.Challenge.cw_reelcut_k83_lists_refused_holds : PySem.Challenge.rw_reelcut_k83_lists_refused.Holds := by
  w_on; o_law
  refine HandSHeadRun.head_any (r := VL.R0) (q := view VL.R0.prog [48]) (H := VL.hk0) (ob := VL.ob0) (M := 9000) (loose := VL.looseN)
    (d := HandSHeadRun.topDef VL.R0.prog 48) (kwd := []) VL.ob0_eq (by kernel_rfl) (fun s => by kernel_rfl) VL.run0 (by kernel_rfl) (by kernel_rfl)
    (by kernel_rfl) (by rfl) (by first | assumption | decide +kernel) (by decide +kernel) ⟨rfl, rfl, rfl, rfl, rfl, by decide +kernel⟩ ?hw ?hc
  case hw => w_witness2
  case hc =>
    refine VL.law_walk (l := PySem.Challenge.rw_reelcut_k83_lists_refused) (k := 8) (x := "_law_script")
      rfl (by kernel_rfl) (by kernel_rfl) ⟨rfl, by decide, by decide⟩ VL.law_pure ?_
    intro w mg h Y G
    obtain ⟨K, KX, c, d⟩ := Y
    exact ⟨K, KX, VL.ok_law (VL.top_of KX G c d)⟩
