import PyProof.Rows.All
import Wide.All
import OpenK.AllK
import Wide.FinOn
import HandS.ForMost
import HandS.ForExc
import HandS.Flow
import HandS.TryOnly
import HandS.TryMany
import HandS.TryElse
import HandS.SuiteRaise
import HandS.IsInst
import HandS.Wide
import HandS.ExcIs
import HandS.ExcField
import HandS.ExcInit
import HandS.Dict
import HandS.Style
import HandS.Text
import HandS.StrMore
import HandS.Codes
import HandS.Defaults
import HandS.HeadEnd
import HandS.Head2
import HandS.HeadHook1
import HandS.HeadHook2
import HandS.HeadHook3
import HandS.RaiseMore
import KE.GoesRaise
import PySem.Challenge.RW_reelcut_k85_tracks_in_texts
set_option Elab.async false
set_option linter.all false
set_option maxRecDepth 100000
set_option maxHeartbeats 4000000

/-! VP: the value layer's plain part: data, environments, results, combinators. -/
namespace VL
open PySem

abbrev Ky := Sum Int Str
def vmax : Nat := 1000000

inductive D where
  | non | bl (b : Bool) | int (i : Int) | str (s : Str) | tup (ds : List D) | lst (ds : List D) | dct (ks : List Ky) (ds : List D)
deriving Inhabited

mutual
/-- no list, no dict within -/
def D.flat : D → Bool
  | .lst _ => false
  | .dct _ _ => false
  | .tup ds => D.flats ds
  | .non => true
  | .bl _ => true
  | .int _ => true
  | .str _ => true
def D.flats : List D → Bool
  | [] => true
  | d :: ds => d.flat && D.flats ds
end
mutual
/-- == of Python -/
def D.deq : D → D → Bool
  | .non, .non => true
  | .bl a, .bl b => a == b
  | .bl a, .int j => (if a then 1 else 0) == j
  | .int i, .bl b => i == (if b then 1 else 0)
  | .int i, .int j => decide (i = j)
  | .str x, .str y => decide (x = y)
  | .lst xs, .lst ys => D.deqs xs ys
  | .tup xs, .tup ys => D.deqs xs ys
  | _, _ => false
def D.deqs : List D → List D → Bool
  | [], [] => true
  | x :: xs, y :: ys => D.deq x y && D.deqs xs ys
  | _, _ => false
end
/-- a text of signs that there are -/
def strS (s : Str) : Bool := s.cps.all (· < 0x110000)
mutual
/-- no dict within, nested at most n deep -/
def D.eqok (n : Nat) : D → Bool
  | .non => true
  | .bl _ => true
  | .int _ => true
  | .str s => strS s
  | .dct _ _ => false
  | .tup ds => match n with
    | 0 => false
    | n + 1 => D.eqoks n ds
  | .lst ds => match n with
    | 0 => false
    | n + 1 => D.eqoks n ds
def D.eqoks (n : Nat) : List D → Bool
  | [] => true
  | d :: ds => D.eqok n d && D.eqoks n ds
end

/-- an exception: its class's name, its own field -/
structure Xc where
  cls : Str
  val : Option (Str × Int)

/-- a slot: nothing, a value, a list of one's own (b: a dict, which stands alone in ds), a token -/
inductive Sl where
  | no | sh (d : D) | ow (b : Bool) (ds : List D) | tk (n : Nat)
deriving Inhabited
abbrev Env := List Sl
/-- what an own thing is, seen from outside -/
def outD : Bool → List D → D
  | false, ds => .lst ds
  | true, [d] => d
  | true, _ => .non

inductive Res (α : Type) where
  | ok (a : α) (e : Env) | err (x : Xc) (e : Env) | bot
def Res.bind {α β : Type} (r : Res α) (f : α → Env → Res β) : Res β := match r with
  | .ok a e => f a e
  | .err x e => .err x e
  | .bot => .bot
/-- a def's end -/
inductive FR where
  | ok (d : D) | err (x : Xc) | bot
/-- a statement's end -/
inductive RS where
  | nx (e : Env) | rt (d : D) (e : Env) | bk (e : Env) | ct (e : Env) | err (x : Xc) (e : Env) | bot

abbrev ME := Env → Res D
abbrev MA := Env → Res (List D)
abbrev MB := Env → Res Bool
abbrev MS := Env → RS

/-- from an option -/
def Res.of {α : Type} (o : Option α) (e : Env) : Res α := match o with
  | some a => .ok a e
  | none => .bot

/-! ### expressions -/
def vC (d : D) : ME := fun e => .ok d e
def slD : Option Sl → Option D
  | some (.sh d) => some d
  | some (.ow b ds) => some (outD b ds)
  | _ => none
/-- a name: an owned list is handed out, and owned no more -/
def vVar (i : Nat) : ME := fun e => match e[i]? with
  | some (.sh d) => .ok d e
  | some (.ow b ds) => .ok (outD b ds) (e.set i (.sh (outD b ds)))
  | _ => .bot
def vUn (op : D → Option D) (a : ME) : ME := fun e => (a e).bind fun x e1 => .of (op x) e1
def vOp (op : D → D → Option D) (a b : ME) : ME := fun e => (a e).bind fun x e1 => (b e1).bind fun y e2 => .of (op x y) e2
def vNil : MA := fun e => .ok [] e
def vCons (a : ME) (r : MA) : MA := fun e => (a e).bind fun x e1 => (r e1).bind fun xs e2 => .ok (x :: xs) e2
def vTup (a : MA) : ME := fun e => (a e).bind fun xs e1 => .ok (.tup xs) e1
/-- a new list: not yet anybody's -/
def vLstF (a : MA) : MA := a
/-- .. handed out -/
def vOf (a : MA) : ME := fun e => (a e).bind fun xs e1 => .ok (.lst xs) e1
def vCall (fn : List D → FR) (a : MA) : ME := fun e => (a e).bind fun xs e1 => match fn xs with
  | .ok d => .ok d e1
  | .err x => .err x e1
  | .bot => .bot
/-- a def that hands back a new list -/
def vCallF (fn : List D → FR) (a : MA) : MA := fun e => (a e).bind fun xs e1 => match fn xs with
  | .ok (.lst ds) => .ok ds e1
  | .ok _ => .bot
  | .err x => .err x e1
  | .bot => .bot
/-- a builtin function of plain values -/
def vBf (f : List D → Option D) (a : MA) : ME := fun e => (a e).bind fun xs e1 => .of (f xs) e1
def vBl (f : List D → Option (List D)) (a : MA) : MA := fun e => (a e).bind fun xs e1 => .of (f xs) e1

def frz (e : Env) : Env := e.map fun s => match s with
  | .ow b ds => .sh (outD b ds)
  | s => s
/-- look at owned lists, keep nothing of them -/
def vBor (a : ME) : ME := fun e => match a (frz e) with
  | .ok d _ => if d.flat then .ok d e else .bot
  | .err x _ => .err x e
  | .bot => .bot
def vBorF (a : MA) : MA := fun e => match a (frz e) with
  | .ok ds _ => if D.flats ds then .ok ds e else .bot
  | .err x _ => .err x e
  | .bot => .bot
def vBorT (a : MB) : MB := fun e => match a (frz e) with
  | .ok b _ => .ok b e
  | .err x _ => .err x e
  | .bot => .bot
/-- xs.pop() of an owned list -/
def vPop (i : Nat) : ME := fun e => match e[i]? with
  | some (.ow false ds) => match ds.getLast? with
    | some d => .ok d (e.set i (.ow false ds.dropLast))
    | none => .bot
  | _ => .bot

/-- where an index points -/
def ixD (n : Nat) (i : Int) : Option Nat := if 0 ≤ i then (if i < n then some i.toNat else none) else if -(n : Int) ≤ i then some (i + n).toNat else none
/-! ### operators on data -/
def opAdd : D → D → Option D
  | .int i, .int j => some (.int (i + j))
  | .str x, .str y => if x.length + y.length ≤ vmax then some (.str (x ++ y)) else none
  | .tup (x :: xs), .tup (y :: ys) => if xs.length + ys.length + 2 ≤ vmax then some (.tup (x :: xs ++ y :: ys)) else none
  | .lst xs, .lst ys => if xs.length + ys.length ≤ vmax then some (.lst (xs ++ ys)) else none
  | _, _ => none
def opSub : D → D → Option D
  | .int i, .int j => some (.int (i - j))
  | _, _ => none
/-- the product is not too great to be reckoned -/
def mulOk (i j : Int) : Bool := decide (i.natAbs < 2 ^ 64) || decide (j.natAbs < 2 ^ 64) || decide (i.natAbs.log2 + j.natAbs.log2 < 1000000)
def opMul : D → D → Option D
  | .int i, .int j => if mulOk i j then some (.int (i * j)) else none
  | .lst xs, .int j => if -(2 ^ 62) ≤ j ∧ j < 2 ^ 62 ∧ xs.length * j.toNat ≤ vmax then some (.lst (List.replicate j.toNat xs).flatten) else none
  | _, _ => none
def divOk (j : Int) : Bool := decide (j ≠ 0) && decide (j.natAbs.log2 < 9000)
def opFdiv : D → D → Option D
  | .int i, .int j => if divOk j then some (.int (i.fdiv j)) else none
  | _, _ => none
def opMod : D → D → Option D
  | .int i, .int j => if j ≠ 0 then some (.int (i.fmod j)) else none
  | _, _ => none
def opPow : D → D → Option D
  | .int i, .int j => if 0 ≤ j ∧ j ≤ 1000 ∧ i.natAbs ≤ 1000 then some (.int (i ^ j.toNat)) else none
  | _, _ => none
def opNeg : D → Option D
  | .int i => some (.int (-i))
  | _ => none
def opLt : D → D → Option D
  | .int i, .int j => some (.bl (decide (i < j)))
  | _, _ => none
def opLe : D → D → Option D
  | .int i, .int j => some (.bl (decide (i ≤ j)))
  | _, _ => none
def opGt : D → D → Option D
  | .int i, .int j => some (.bl (decide (j < i)))
  | _, _ => none
def opGe : D → D → Option D
  | .int i, .int j => some (.bl (decide (j ≤ i)))
  | _, _ => none
def dctGet (ks : List Ky) (ds : List D) (k : Ky) : Option D := ((ks.zip ds).find? fun p => decide (p.1 = k)).map (·.2)
/-- each entry stands in the other dict -/
def hitsD (ls : List Ky) (es : List D) : List Ky → List D → Bool
  | k :: ks, d :: ds => match dctGet ls es k with
    | some e => D.deq d e && hitsD ls es ks ds
    | none => false
  | _, _ => true
/-- == of dicts (n: != ) -/
def opEqK (n : Bool) : D → D → Option D
  | .dct ks ds, .dct ls es => if D.eqoks 20 ds && D.eqoks 20 es then some (.bl (n ^^ (ks.length == ls.length && hitsD ls es ks ds))) else none
  | _, _ => none
def opEq (a b : D) : Option D := if a.eqok 20 && b.eqok 20 then some (.bl (D.deq a b)) else opEqK false a b
def opNe (a b : D) : Option D := if a.eqok 20 && b.eqok 20 then some (.bl (!D.deq a b)) else opEqK true a b
def D.isNon : D → Bool
  | .non => true
  | _ => false
/-- is, is not: None, a truth -/
def opIs : D → D → Option D
  | x, .non => some (.bl x.isNon)
  | .bl a, .bl b => some (.bl (a == b))
  | _, _ => none
def opIsNot : D → D → Option D
  | x, .non => some (.bl (!x.isNon))
  | .bl a, .bl b => some (.bl (!(a == b)))
  | _, _ => none
def D.atom : D → Bool
  | .non => true
  | .bl _ => true
  | .int _ => true
  | .str _ => true
  | _ => false
def keyD : D → Option Ky
  | .int i => some (.inl i)
  | .str s => some (.inr s)
  | _ => none
def opIn : D → D → Option D
  | x, .tup xs => if x.atom && xs.all D.atom then some (.bl (xs.any fun y => D.deq y x)) else none
  | x, .lst xs => if x.atom && xs.all D.atom then some (.bl (xs.any fun y => D.deq y x)) else none
  | x, .dct ks ds => (keyD x).map fun k => .bl (dctGet ks ds k).isSome
  | _, _ => none
def opNotIn (x y : D) : Option D := match opIn x y with
  | some (.bl b) => some (.bl (!b))
  | _ => none
def atD (xs : List D) (i : Int) : Option D := (ixD xs.length i).bind fun j => xs[j]?
def opIx : D → D → Option D
  | .tup xs, .int i => atD xs i
  | .lst xs, .int i => atD xs i
  | .str z, .int i => if z.length ≤ vmax then (ixD z.cps.toList.length i).bind fun j => (z.cps.toList[j]?).map fun c => .str ⟨#[c]⟩ else none
  | .dct ks ds, k => (keyD k).bind fun k => dctGet ks ds k
  | _, _ => none
/-- len -/
def bfLen : List D → Option D
  | [.tup xs] => some (.int xs.length)
  | [.lst xs] => some (.int xs.length)
  | [.str z] => if z.length ≤ vmax then some (.int z.length) else none
  | [.dct ks _] => some (.int ks.length)
  | _ => none
def bfAbs : List D → Option D
  | [.int i] => some (.int (if i < 0 then -i else i))
  | _ => none
def bfMin : List D → Option D
  | [.int i, .int j] => some (.int (if j < i then j else i))
  | _ => none
def bfMax : List D → Option D
  | [.int i, .int j] => some (.int (if j > i then j else i))
  | _ => none
def D.isT : String → D → Bool
  | t, .non => t == "NoneType"
  | t, .bl _ => t == "bool" || t == "int"
  | t, .int _ => t == "int"
  | t, .str _ => t == "str"
  | t, .tup _ => t == "tuple"
  | t, .lst _ => t == "list"
  | t, .dct _ _ => t == "dict"
def opIsi (t : String) (x : D) : Option D := some (.bl (x.isT t))

/-- a slice's bound as a place among n (d where it is left out) -/
def sIxD (n d : Nat) : Option Int → Nat
  | none => d
  | some v => if v < 0 then (v + (n : Int)).toNat else min v.toNat n
def cutD (xs : List D) (lo hi : Option Int) : List D := (xs.drop (sIxD xs.length 0 lo)).take (sIxD xs.length xs.length hi - sIxD xs.length 0 lo)
/-- xs[lo:hi] of a list -/
def slL (lo hi : Option Int) : D → Option (List D)
  | .lst xs => some (cutD xs lo hi)
  | _ => none
/-- z[lo:hi] of a text -/
def cutSD (z : Str) (lo hi : Option Int) : Str := ⟨((z.cps.toList.drop (sIxD z.length 0 lo)).take (sIxD z.length z.length hi - sIxD z.length 0 lo)).toArray⟩
/-- .. of a tuple (not the whole), a list, a text -/
def slT (lo hi : Option Int) : D → Option D
  | .tup xs => if sIxD xs.length 0 lo = 0 ∧ sIxD xs.length xs.length hi = xs.length then none else some (.tup (cutD xs lo hi))
  | .lst xs => some (.lst (cutD xs lo hi))
  | .str z => if z.length ≤ vmax then some (.str (cutSD z lo hi)) else none
  | _ => none
abbrev MO := Env → Res (Option Int)
def vNoPart : MO := fun e => .ok none e
def asI : D → Option (Option Int)
  | .int i => some (some i)
  | _ => none
def vPart (a : ME) : MO := fun e => (a e).bind fun x e1 => .of (asI x) e1
def vSl (a : ME) (lo hi : MO) : ME := fun e => (a e).bind fun x e1 => (lo e1).bind fun l e2 => (hi e2).bind fun h e3 => .of (slT l h x) e3
def vSlF (a : ME) (lo hi : MO) : MA := fun e => (a e).bind fun x e1 => (lo e1).bind fun l e2 => (hi e2).bind fun h e3 => .of (slL l h x) e3
def revL : D → Option (List D)
  | .lst xs => some xs.reverse
  | _ => none
def vRevF (a : ME) : MA := fun e => (a e).bind fun x e1 => .of (revL x) e1
/-- list(x) -/
def bfList : List D → Option (List D)
  | [.lst xs] => some xs
  | [.tup xs] => some xs
  | _ => none
def intsD : List D → Option (List Int)
  | [] => some []
  | .int i :: r => (intsD r).map (i :: ·)
  | _ :: _ => none
def boolsD : List D → Option (List Bool)
  | [] => some []
  | .bl i :: r => (boolsD r).map (i :: ·)
  | _ :: _ => none
def bfSum : List D → Option D
  | [.lst xs] => (intsD xs).map fun ns => .int ns.sum
  | _ => none
def bfAll : List D → Option D
  | [.lst xs] => (boolsD xs).map fun ns => .bl (ns.all id)
  | _ => none
def bfAny : List D → Option D
  | [.lst xs] => (boolsD xs).map fun ns => .bl (ns.any id)
  | _ => none
def vIsi (t : String) (a : ME) : ME := vUn (opIsi t) a

/-! ### tests -/
def asB : D → Option Bool
  | .bl b => some b
  | _ => none
def vTest (a : ME) : MB := fun e => (a e).bind fun x e1 => .of (asB x) e1
def vAnd (a b : MB) : MB := fun e => (a e).bind fun x e1 => if x = true then b e1 else .ok false e1
def vOr (a b : MB) : MB := fun e => (a e).bind fun x e1 => if x = true then .ok true e1 else b e1
def vNot (a : MB) : MB := fun e => (a e).bind fun x e1 => .ok (!x) e1
def vB (a : MB) : ME := fun e => (a e).bind fun x e1 => .ok (.bl x) e1
def vChain (op op' : D → D → Option D) (a b c : ME) : ME := fun e => (a e).bind fun x e1 => (b e1).bind fun y e2 =>
  match op x y with
  | some (.bl true) => (c e2).bind fun z e3 => .of (op' y z) e3
  | some (.bl false) => .ok (.bl false) e2
  | _ => .bot

/-- as values -/
def vAndV (a b : ME) : ME := fun e => (a e).bind fun x e1 => match x with
  | .bl true => b e1
  | .bl false => .ok (.bl false) e1
  | _ => .bot
def vOrV (a b : ME) : ME := fun e => (a e).bind fun x e1 => match x with
  | .bl false => b e1
  | .bl true => .ok (.bl true) e1
  | _ => .bot
def vNotV (a : ME) : ME := vUn (fun d => match d with
  | .bl c => some (.bl (!c))
  | _ => none) a
def vTupD (ms : MA) : ME := fun e => (ms e).bind fun xs e1 => if xs.length ≤ vmax then .ok (.tup xs) e1 else .bot
def vLstD (ms : MA) : MA := fun e => (ms e).bind fun xs e1 => if xs.length ≤ vmax then .ok xs e1 else .bot
/-! ### statements -/
def vNext : MS := fun e => .nx e
def vSeq (a b : MS) : MS := fun e => match a e with
  | .nx e1 => b e1
  | r => r
def Res.thenS {α : Type} (r : Res α) (f : α → Env → RS) : RS := match r with
  | .ok a e => f a e
  | .err x e => .err x e
  | .bot => .bot
def vIf (c : MB) (a b : MS) : MS := fun e => (c e).thenS fun x e1 => if x = true then a e1 else b e1
def vRet (a : ME) : MS := fun e => (a e).thenS fun d e1 => .rt d e1
def vRetF (a : MA) : MS := fun e => (a e).thenS fun ds e1 => .rt (.lst ds) e1
/-- return of an owned name -/
def vOwn (i : Nat) : MA := fun e => match e[i]? with
  | some (.ow false ds) => .ok ds (e.set i .no)
  | _ => .bot
def vRetN : MS := fun e => .rt .non e
def vDrop (a : ME) : MS := fun e => (a e).thenS fun _ e1 => .nx e1
/-- raise X(..) -/
def vRaise (x : Str) : MS := fun e => .err ⟨x, none⟩ e
def vAsg (a : ME) (g : D → Env → Option Env) : MS := fun e => (a e).thenS fun d e1 => match g d e1 with
  | some e2 => .nx e2
  | none => .bot
/-- x = a new list: owned from now on -/
def vAsgF (i : Nat) (a : MA) : MS := fun e => (a e).thenS fun ds e1 => if i < e1.length then .nx (e1.set i (.ow false ds)) else .bot
def gNam (i : Nat) : D → Env → Option Env := fun d e => if i < e.length then some (e.set i (.sh d)) else none
def gNil' : List D → Env → Option Env := fun ds e => match ds with
  | [] => some e
  | _ => none
def gCon (g : D → Env → Option Env) (r : List D → Env → Option Env) : List D → Env → Option Env := fun ds e => match ds with
  | d :: ds => match g d e with
    | some e1 => r ds e1
    | none => none
  | [] => none
def gTup' (r : List D → Env → Option Env) : D → Env → Option Env := fun d e => match d with
  | .tup ds => r ds e
  | .lst ds => r ds e
  | _ => none
/-- a, b = e1, e2 -/
def vPar (i j : Nat) (a b : ME) : MS := fun e => (a e).thenS fun x e1 => (b e1).thenS fun y e2 => if i < e2.length ∧ j < e2.length then .nx ((e2.set i (.sh x)).set j (.sh y)) else .bot
def vApp (i : Nat) (a : ME) : MS := fun e => match e[i]? with
  | some (.ow false _) => (a e).thenS fun d e1 => match e1[i]? with
    | some (.ow false ds) => if ds.length < vmax then .nx (e1.set i (.ow false (ds ++ [d]))) else .bot
    | _ => .bot
  | _ => .bot
def vExt (i : Nat) (a : ME) : MS := fun e => match e[i]? with
  | some (.ow false _) => (a e).thenS fun d e1 => match e1[i]? with
    | some (.ow false ds) => match d with
      | .lst xs => if ds.length + xs.length < vmax then .nx (e1.set i (.ow false (ds ++ xs))) else .bot
      | _ => .bot
    | _ => .bot
  | _ => .bot
def vAug (i : Nat) (op : D → D → Option D) (m : ME) : MS := fun e => match e[i]? with
  | some (.sh x) => (m e).thenS fun y e1 => match op x y with
    | some z => if i < e1.length then .nx (e1.set i (.sh z)) else .bot
    | none => .bot
  | _ => .bot
def vSet (i : Nat) (ix a : ME) : MS := fun e => (a e).thenS fun d e1 => match e1[i]? with
  | some (.ow false _) => (ix e1).thenS fun k e2 => match e2[i]? with
    | some (.ow false ds) => match k with
      | .int k => match ixD ds.length k with
        | some j => .nx (e2.set i (.ow false (ds.set j d)))
        | none => .bot
      | _ => .bot
    | _ => .bot
  | _ => .bot
def vPass : MS := fun e => .nx e
def vBreak : MS := fun e => .bk e
def vCont : MS := fun e => .ct e
/-- a loop over items that stand -/
def forL (g : D → Env → Option Env) (b : MS) : List D → Env → RS
  | [], e => .nx e
  | d :: ds, e => match g d e with
    | none => .bot
    | some e1 => match b e1 with
      | .nx e2 => forL g b ds e2
      | .ct e2 => forL g b ds e2
      | .bk e2 => .nx e2
      | .rt d e2 => .rt d e2
      | .err x e2 => .err x e2
      | .bot => .bot
def vFor (it : MA) (g : D → Env → Option Env) (b : MS) : MS := fun e => (it e).thenS fun ds e1 => forL g b ds e1
def iterW (c : MB) (b : MS) : Nat → Env → Option RS
  | 0, _ => none
  | n + 1, e => match c e with
    | .ok false e1 => some (.nx e1)
    | .ok true e1 => match b e1 with
      | .nx e2 => iterW c b n e2
      | .ct e2 => iterW c b n e2
      | .bk e2 => some (.nx e2)
      | .rt d e2 => some (.rt d e2)
      | .err x e2 => some (.err x e2)
      | .bot => some .bot
    | .err x e1 => some (.err x e1)
    | .bot => some .bot
open Classical in
noncomputable def vWhile (c : MB) (b : MS) : MS := fun e => if h : ∃ n r, iterW c b n e = some r then (Classical.choose_spec h).choose else .bot

theorem iterW_more {c : MB} {b : MS} : ∀ {n : Nat} {e : Env} {r : RS}, iterW c b n e = some r → iterW c b (n + 1) e = some r
  | 0, e, r, h => by cases h
  | n + 1, e, r, h => by
    rw [iterW] at h ⊢
    cases hc : c e with
    | ok x e1 =>
      rw [hc] at h
      cases x with
      | false => exact h
      | true =>
        cases hb : b e1 with
        | nx e2 => simp only [hb] at h ⊢; exact iterW_more h
        | ct e2 => simp only [hb] at h ⊢; exact iterW_more h
        | bk e2 => simp only [hb] at h ⊢; exact h
        | rt d e2 => simp only [hb] at h ⊢; exact h
        | err x e2 => simp only [hb] at h ⊢; exact h
        | bot => simp only [hb] at h ⊢; exact h
    | err x e1 => rw [hc] at h; exact h
    | bot => rw [hc] at h; exact h
theorem iterW_le {c : MB} {b : MS} {n m : Nat} {e : Env} {r : RS} (h : n ≤ m) (q : iterW c b n e = some r) : iterW c b m e = some r := by
  induction h with
  | refl => exact q
  | step _ ih => exact iterW_more ih
theorem iterW_one {c : MB} {b : MS} {n m : Nat} {e : Env} {r r' : RS} (h : iterW c b n e = some r) (h' : iterW c b m e = some r') : r = r' := by
  have a := iterW_le (Nat.le_max_left n m) h
  have b := iterW_le (Nat.le_max_right n m) h'
  exact Option.some.inj (a.symm.trans b)
theorem vWhile_of {c : MB} {b : MS} {n : Nat} {e : Env} {r : RS} (h : iterW c b n e = some r) : vWhile c b e = r := by
  unfold vWhile
  have hx : ∃ n r, iterW c b n e = some r := ⟨n, r, h⟩
  rw [dif_pos hx]
  exact iterW_one (Classical.choose_spec (Classical.choose_spec hx)) h
theorem vWhile_some {c : MB} {b : MS} {e : Env} (h : vWhile c b e ≠ .bot) : ∃ n, iterW c b n e = some (vWhile c b e) := by
  by_cases hx : ∃ n r, iterW c b n e = some r
  · obtain ⟨n, r, q⟩ := hx
    exact ⟨n, by rw [vWhile_of q]; exact q⟩
  · unfold vWhile at h
    rw [dif_neg hx] at h
    exact absurd rfl h
/-- one turn -/
theorem vWhile_eq (c : MB) (b : MS) (e : Env) : vWhile c b e = (c e).thenS fun x e1 => if x = true then (match b e1 with
      | .nx e2 => vWhile c b e2
      | .ct e2 => vWhile c b e2
      | .bk e2 => .nx e2
      | .rt d e2 => .rt d e2
      | .err x e2 => .err x e2
      | .bot => .bot) else .nx e1 := by
  have back : ∀ {e2 : Env}, (∀ n r, iterW c b (n + 1) e = some r → iterW c b n e2 = some r) → (∀ n r, iterW c b n e2 = some r → iterW c b (n + 1) e = some r) → vWhile c b e = vWhile c b e2 := fun {e2} h1 h2 => by
    by_cases hx : ∃ n r, iterW c b n e2 = some r
    · obtain ⟨n, r, q⟩ := hx
      rw [vWhile_of q, vWhile_of (h2 n r q)]
    · have hy : ¬ ∃ n r, iterW c b n e = some r := fun ⟨n, r, q⟩ => by
        cases n with
        | zero => cases q
        | succ n => exact hx ⟨n, r, h1 n r q⟩
      unfold vWhile
      rw [dif_neg hx, dif_neg hy]
  cases hc : c e with
  | ok x e1 =>
    cases x with
    | false => exact vWhile_of (n := 1) (by unfold iterW; simp only [hc]; rfl)
    | true =>
      show _ = (match b e1 with
      | .nx e2 => vWhile c b e2
      | .ct e2 => vWhile c b e2
      | .bk e2 => .nx e2
      | .rt d e2 => .rt d e2
      | .err x e2 => .err x e2
      | .bot => .bot)
      cases hb : b e1 with
      | nx e2 => exact back (fun n r q => by unfold iterW at q; simp only [hc, hb] at q; exact q) fun n r q => by unfold iterW; simp only [hc, hb]; exact q
      | ct e2 => exact back (fun n r q => by unfold iterW at q; simp only [hc, hb] at q; exact q) fun n r q => by unfold iterW; simp only [hc, hb]; exact q
      | bk e2 => exact vWhile_of (n := 1) (by unfold iterW; simp only [hc, hb])
      | rt d e2 => exact vWhile_of (n := 1) (by unfold iterW; simp only [hc, hb])
      | err x e2 => exact vWhile_of (n := 1) (by unfold iterW; simp only [hc, hb])
      | bot => exact vWhile_of (n := 1) (by unfold iterW; simp only [hc, hb])
  | err x e1 => exact vWhile_of (n := 1) (by unfold iterW; simp only [hc]; rfl)
  | bot => exact vWhile_of (n := 1) (by unfold iterW; simp only [hc]; rfl)

/-! ### comprehensions: slots own are the block's own names -/
def wipeE (e : Env) : List Nat → Env
  | [] => e
  | v :: vs => (wipeE e vs).set v .no
/-- nothing may be raised here -/
def Res.bindN {α β : Type} (r : Res α) (f : α → Env → Res β) : Res β := match r with
  | .ok a e => f a e
  | _ => .bot
/-- the items kept, in order -/
def lcL (g : D → Env → Option Env) (t : MB) (el : ME) (own : List Nat) : List D → List D → Env → Res (List D)
  | [], acc, e => .ok acc (wipeE e own)
  | d :: ds, acc, e => match g d e with
    | none => .bot
    | some e1 => (t e1).bindN fun k e2 => if k = true then (el e2).bindN fun x e3 => if acc.length < vmax then lcL g t el own ds (acc ++ [x]) (wipeE e3 own) else .bot
      else lcL g t el own ds acc (wipeE e2 own)
def vLc (it : MA) (g : D → Env → Option Env) (t : MB) (el : ME) (own : List Nat) : MA := fun e => (it e).bind fun ds e1 => lcL g t el own ds [] (wipeE e1 own)
def vYes : MB := fun e => .ok true e

/-! ### what a loop walks -/
def seqD : D → Option (List D)
  | .lst ds => some ds
  | .tup ds => some ds
  | .str x => some (x.cps.toList.map fun c => .str ⟨#[c]⟩)
  | _ => none
def vSeqI (m : ME) : MA := fun e => (m e).bind fun d e1 => .of (seqD d) e1
def rngD : List D → Option (List D)
  | [.int j] => if -(2 ^ 62) ≤ j ∧ j < 2 ^ 62 then some ((List.range j.toNat).map fun (i : Nat) => .int (0 + (i : Int))) else none
  | [.int i, .int j] => if -(2 ^ 62) ≤ i ∧ i < 2 ^ 62 ∧ -(2 ^ 62) ≤ j ∧ j < 2 ^ 62 then some ((List.range (j - i).toNat).map fun (n : Nat) => .int (i + (n : Int))) else none
  | _ => none
def vRng1 (m : MA) : MA := fun e => (m e).bind fun ds e1 => match ds with
  | [_] => .of (rngD ds) e1
  | _ => .bot
def vRng2 (m : MA) : MA := fun e => (m e).bind fun ds e1 => match ds with
  | [_, _] => .of (rngD ds) e1
  | _ => .bot
def enumD : List D → Option (List D)
  | [.lst ds] => some (ds.zipIdx.map fun p => .tup [.int ((p.2 : Nat) : Int), p.1])
  | _ => none
def vEnum (m : MA) : MA := fun e => (m e).bind fun ds e1 => .of (enumD ds) e1

/-! ### try -/
/-- which clause takes an exception; the suite's state -/
def vTry (b : MS) (h : Xc → Env → Option MS) (el : MS) : MS := fun e => match b e with
  | .nx e1 => el e1
  | .err x e1 => match h x e1 with
    | some s => s e1
    | none => .err x e1
  | r => r

/-! ### a def -/
def runB (np n : Nat) (b : MS) (ds : List D) : FR := if ds.length = np then (match b (ds.map Sl.sh ++ List.replicate (n - np) .no) with
  | .nx _ => .ok .non
  | .rt d _ => .ok d
  | .err x _ => .err x
  | _ => .bot) else .bot

/-! ### tokens: a slot that holds what is told elsewhere -/
def clrTk (n : Nat) : Sl → Sl
  | .tk m => if m = n then .no else .tk m
  | s => s
def clrE (n : Nat) (e : Env) : Env := e.map (clrTk n)
/-- behind a token's time: slot i gets s -/
def RS.post (n i : Nat) (s : Sl) : RS → RS
  | .nx e => .nx ((clrE n e).set i s)
  | .rt d e => .rt d ((clrE n e).set i s)
  | .bk e => .bk ((clrE n e).set i s)
  | .ct e => .ct ((clrE n e).set i s)
  | .err _ _ => .bot
  | .bot => .bot
/-- try: body; except y as slot i -/
def vTryAs (names : List Str) (anc : Str → Str → Bool) (y : Str) (i : Nat) (b : MS) (h : Str → MS) : MS := fun e => match b e with
  | .err x e1 => match x.val with
    | none => if x.cls ∈ names then (if anc x.cls y = true then RS.post 0 i .no (h x.cls ((clrE 0 e1).set i (.tk 0))) else .err x e1) else .bot
    | some _ => .bot
  | r => r
/-- .. without a name -/
def vTryOnly (names : List Str) (anc : Str → Str → Bool) (y : Str) (b : MS) (h : MS) : MS := fun e => match b e with
  | .err x e1 => if x.cls ∈ names then (if anc x.cls y = true then (match h e1 with
      | .err _ _ => .bot
      | r => r) else .err x e1) else .bot
  | r => r
/-- isinstance(e, ..) of the caught one -/
def vIsE (i : Nat) (b : Bool) : ME := fun e => match e[i]? with
  | some (.tk 0) => .ok (.bl b) e
  | _ => .bot
/-- a loop over an own list, which the body leaves alone -/
def vForO (n i : Nat) (g : D → Env → Option Env) (b : MS) : MS := fun e => match e[i]? with
  | some (.ow false ds) => match forL g b ds ((clrE n e).set i (.tk n)) with
    | .nx e1 => match e1[i]? with
      | some (.tk m) => if m = n then .nx ((clrE n e1).set i (.ow false ds)) else .bot
      | _ => .bot
    | .rt d e1 => .rt d (clrE n e1)
    | .err x e1 => .err x (clrE n e1)
    | _ => .bot
  | _ => .bot
/-- which class is which one's, by a table -/
def ancOf (l : List (Str × List Str)) (x y : Str) : Bool := match l.find? fun p => decide (p.1 = x) with
  | some p => p.2.any fun z => decide (z = y)
  | none => false
/-! ### text of a number; displays of dicts -/
def bfStr : List D → Option D
  | [.int i] => if i.natAbs.log2 < 1920 then some (.str (toString i)) else none
  | _ => none
def keysD : List D → Option (List Ky)
  | [] => some []
  | d :: ds => match keyD d with
    | some k => (keysD ds).map (k :: ·)
    | none => none
def dispD (ps : List (D × D)) : Option D := match keysD (ps.map (·.1)) with
  | some ks => if ks.Nodup ∧ ks.length ≤ 15 then some (.dct ks (ps.map (·.2))) else none
  | none => none
abbrev MQ := Env → Res (List (D × D))
def vPN : MQ := fun e => .ok [] e
def vPC (k v : ME) (r : MQ) : MQ := fun e => (k e).bind fun x e1 => (v e1).bind fun y e2 => (r e2).bind fun ps e3 => .ok ((x, y) :: ps) e3
def vDisp (r : MQ) : ME := fun e => (r e).bind fun ps e1 => .of (dispD ps) e1
/-- z.strip(signs) and the like: a method of a text with one plain value handed in -/
def vM1 (op : Str → D → Option D) (a b : ME) : ME := fun e => (a e).bind fun x e1 => match x with
  | .str z => (b e1).bind fun y e2 => .of (op z y) e2
  | _ => .bot
def opStrip : Str → D → Option D
  | z, .str w => if z.length ≤ vmax then some (.str (Txt.stripChars z w)) else none
  | _, _ => none
/-! ### dicts of one's own -/
abbrev MK := Env → Res (List Ky × List D)
/-- in its place, or at the end -/
def putD (ks : List Ky) (ds : List D) (k : Ky) (d : D) : List Ky × List D := if (ks.any fun j => decide (j = k)) = true then (ks, (ks.zip ds).map fun p => if p.1 = k then d else p.2) else (ks ++ [k], ds ++ [d])
/-- x[k] = v of an own dict -/
def vSetK (i : Nat) (ix a : ME) : MS := fun e => (a e).thenS fun d e1 => match e1[i]? with
  | some (.ow true _) => (ix e1).thenS fun k e2 => match e2[i]? with
    | some (.ow true [.dct ks ds]) => match keyD k with
      | some k => if ks.length < vmax then .nx (e2.set i (.ow true [.dct (putD ks ds k d).1 (putD ks ds k d).2])) else .bot
      | none => .bot
    | _ => .bot
  | _ => .bot
/-- x = a new dict -/
def vAsgK (i : Nat) (a : MK) : MS := fun e => (a e).thenS fun kd e1 => if i < e1.length then .nx (e1.set i (.ow true [.dct kd.1 kd.2])) else .bot
/-- the empty one -/
def vK0 : MK := fun e => .ok ([], []) e
def dispK (ps : List (D × D)) : Option (List Ky × List D) := match keysD (ps.map (·.1)) with
  | some ks => if ks.Nodup ∧ ks.length ≤ 15 then some (ks, ps.map (·.2)) else none
  | none => none
def vKD (r : MQ) : MK := fun e => (r e).bind fun ps e1 => .of (dispK ps) e1
/-- dict(x) -/
def copyK : List D → Option (List Ky × List D)
  | [.dct ks ds] => some (ks, ds)
  | _ => none
def vKC (a : MA) : MK := fun e => (a e).bind fun xs e1 => .of (copyK xs) e1
/-- handed out -/
def vOfK (a : MK) : ME := fun e => (a e).bind fun kd e1 => .ok (.dct kd.1 kd.2) e1
def vBorK (a : MK) : MK := fun e => match a (frz e) with
  | .ok kd _ => if D.flats kd.2 then .ok kd e else .bot
  | .err x _ => .err x e
  | .bot => .bot
/-- a table of the module: its plain values by key -/
abbrev Tb := List (Str × D)
def tbGet (t : Tb) (z : Str) : Option D := (t.find? fun p => decide (p.1 = z)).map (·.2)
/-- asked -/
def tabIn (t : Tb) : D → Option D
  | .str z => some (.bl (tbGet t z).isSome)
  | _ => none
def tabNotIn (t : Tb) : D → Option D
  | .str z => some (.bl (!(tbGet t z).isSome))
  | _ => none
def tabIx (t : Tb) : D → Option D
  | .str z => tbGet t z
  | _ => none
/-! errors with a number of their own -/
/-- raise x(m), whose __init__ keeps the number as its field f -/
def vRaiseI (x f : Str) (m : ME) : MS := fun e => match m e with
  | .ok (.int n) e1 => .err ⟨x, some (f, n)⟩ e1
  | .err y e1 => .err y e1
  | _ => .bot
def noX : RS → RS
  | .err _ _ => .bot
  | r => r
/-- an except clause: the class, the name's slot, the suite -/
abbrev Cl := Str × Option Nat × (Xc → MS)
def vHandle (anc : Str → Str → Bool) : List Cl → Xc → Env → RS
  | [], x, e => .err x e
  | (y, none, h) :: r, x, e => if anc x.cls y = true then noX (h x e) else vHandle anc r x e
  | (y, some i, h) :: r, x, e => if anc x.cls y = true then (h x ((clrE 0 e).set i (.tk 0))).post 0 i .no else vHandle anc r x e
def vTryM (names : List Str) (anc : Str → Str → Bool) (cl : List Cl) (b : MS) : MS := fun e => match b e with
  | .err x e1 => if x.cls ∈ names then vHandle anc cl x e1 else .bot
  | r => r
/-- e.f of the caught one -/
def vXf (i : Nat) (f : Str) (x : Xc) : ME := fun e => match e[i]? with
  | some (.tk 0) => (match x.val with
    | some (g, n) => if g = f then .ok (.int n) e else .bot
    | none => .bot)
  | _ => .bot
/-- a + b, a new list -/
def catL : D → D → Option (List D)
  | .lst xs, .lst ys => if xs.length + ys.length ≤ vmax then some (xs ++ ys) else none
  | _, _ => none
def vCatF (a b : ME) : MA := fun e => (a e).bind fun x e1 => (b e1).bind fun y e2 => .of (catL x y) e2
/-! int(x), list(d), xs.index(y) -/
def bfInt : List D → Option D
  | [.int i] => some (.int i)
  | [.bl b] => some (.int (if b then 1 else 0))
  | _ => none
def kyD : Ky → D
  | .inl i => .int i
  | .inr z => .str z
def bfListK : List D → Option (List D)
  | [.dct ks ds] => if ks.length = ds.length then some (ks.map kyD) else none
  | xs => bfList xs
def boolAt (c : Bool) : List D → Option Nat
  | .bl b :: r => if b = c then some 0 else (boolAt c r).map (· + 1)
  | _ => none
def allB : List D → Bool
  | [] => true
  | .bl _ :: r => allB r
  | _ => false
def opIndex : D → D → Option D
  | .lst xs, .bl c => if allB xs then (boolAt c xs).map fun j => .int (j : Nat) else none
  | _, _ => none
/-- o.m(e), o a list that is read -/
def vBm1 (op : D → D → Option D) (a b : ME) : ME := fun e => (a e).bind fun x e1 => match x with
  | .lst xs => (b e1).bind fun y e2 => .of (op (.lst xs) y) e2
  | _ => .bot
/-! ### texts: more of their methods -/
def opStarts : Str → D → Option D
  | z, .str w => some (.bl (Txt.startswith z w))
  | _, _ => none
def opParti : Str → D → Option D
  | z, .str w => if w.length ≠ 0 ∧ z.length ≤ vmax then some (.tup [.str (Txt.partition z w).1, .str (Txt.partition z w).2.1, .str (Txt.partition z w).2.2]) else none
  | _, _ => none
def opSplit : Str → D → Option (List D)
  | z, .str w => if w.length ≠ 0 ∧ z.length + 2 ≤ vmax then some ((Txt.split z w).map D.str) else none
  | _, _ => none
/-- z.split(sign): a new list -/
def vMF1 (op : Str → D → Option (List D)) (a b : ME) : MA := fun e => (a e).bind fun x e1 => match x with
  | .str z => (b e1).bind fun y e2 => .of (op z y) e2
  | _ => .bot
def opNotInS : D → D → Option D
  | .str i, .str j => some (.bl (Builtin.Str.occurrences j i 0 j.length 1).isEmpty)
  | _, _ => none
def bfIntS : List D → Option D
  | [.int i] => some (.int i)
  | [.bl b] => some (.int (if b then 1 else 0))
  | [.str z] => if z.length ≤ 640 then (PySem.intText? z).map D.int else none
  | _ => none
def opMulS : D → D → Option D
  | .str z, .int n => if z.length ≤ 1000 ∧ -1000 ≤ n ∧ n ≤ 1000 then some (.str (Txt.mul z n)) else none
  | _, _ => none
/-! ### texts: join, in, str of a text -/
def strsD : List D → Option (List Str)
  | [] => some []
  | .str z :: r => (strsD r).map (z :: ·)
  | _ => none
def opJoin : Str → D → Option D
  | z, .lst ds => match strsD ds with
    | some ys => if (ys.map (·.length)).sum + ys.length * z.length ≤ 16777216 then some (.str (Txt.join z ys)) else none
    | none => none
  | _, _ => none
def opInS : D → D → Option D
  | .str i, .str j => some (.bl (!(Builtin.Str.occurrences j i 0 j.length 1).isEmpty))
  | _, _ => none
def bfStrS : List D → Option D
  | [.int i] => if i.natAbs.log2 < 1920 then some (.str (toString i)) else none
  | [.str z] => some (.str z)
  | _ => none
/-! ### comprehensions whose element may raise -/
def lcLX (g : D → Env → Option Env) (t : MB) (el : ME) (own : List Nat) : List D → List D → Env → Res (List D)
  | [], acc, e => .ok acc (wipeE e own)
  | d :: ds, acc, e => match g d e with
    | none => .bot
    | some e1 => (t e1).bindN fun k e2 => if k = true then (match el e2 with
        | .ok x e3 => if acc.length < vmax then lcLX g t el own ds (acc ++ [x]) (wipeE e3 own) else .bot
        | .err x e3 => .err x (wipeE (wipeE e3 own) own)
        | .bot => .bot)
      else lcLX g t el own ds acc (wipeE e2 own)
def vLcX (it : MA) (g : D → Env → Option Env) (t : MB) (el : ME) (own : List Nat) : MA := fun e => (it e).bind fun ds e1 => lcLX g t el own ds [] (wipeE e1 own)
end VL

/-! VL1: the value layer's core: data over a heap (Rep), the state (Sto), readings and their meaning (Rd). -/
namespace VL
open PySem PySem.Spec PyProof.Rows L2

mutual
inductive Rep (K : PySem.W.Frag) (B : Hp) : V → D → Prop
  | non : Rep K B .non .non
  | bl (b : Bool) : Rep K B (.bl b) (.bl b)
  | int (i : Int) : Rep K B (.int i) (.int i)
  | str (x : Str) : Rep K B (.str x) (.str x)
  | tup {a : Addr} {xs : List V} {ds : List D} : SqT K B a xs → Reps K B xs ds → Rep K B (.ref a) (.tup ds)
  | lst {a : Addr} {xs : List V} {ds : List D} : SqL K B a xs → Reps K B xs ds → Rep K B (.ref a) (.lst ds)
  | dct {a : Addr} {kvs : List (Key × V)} {ks : List Ky} {ds : List D} : Rd B a (.dK kvs) → kvs.map (·.1) = ks → Reps K B (kvs.map (·.2)) ds → Rep K B (.ref a) (.dct ks ds)
inductive Reps (K : PySem.W.Frag) (B : Hp) : List V → List D → Prop
  | nil : Reps K B [] []
  | cons {v : V} {vs : List V} {d : D} {ds : List D} : Rep K B v d → Reps K B vs ds → Reps K B (v :: vs) (d :: ds)
end
section
variable {K : PySem.W.Frag} {B B' H H' : Hp}
theorem same_rd {a : Addr} {u : HO} (s : Same B B') (h : Rd B a u) : Rd B' a u := by
  rcases h with h | ⟨o, h⟩
  · exact .inl (s _ _ h)
  · exact .inr ⟨o, s _ _ h⟩
theorem same_sqT {a : Addr} {xs : List V} (s : Same B B') (h : SqT K B a xs) : SqT K B' a xs := by
  rcases h with h | h
  · exact .inl (same_rd s h)
  · exact .inr h
theorem same_sqL {a : Addr} {xs : List V} (s : Same B B') (h : SqL K B a xs) : SqL K B' a xs := s.seq h
mutual
theorem Rep.mono (s : Same B B') : ∀ {v : V} {d : D}, Rep K B v d → Rep K B' v d
  | _, _, .non => .non
  | _, _, .bl b => .bl b
  | _, _, .int i => .int i
  | _, _, .str x => .str x
  | _, _, .tup h r => .tup (same_sqT s h) (Reps.mono s r)
  | _, _, .lst h r => .lst (same_sqL s h) (Reps.mono s r)
  | _, _, .dct h e r => .dct (same_rd s h) e (Reps.mono s r)
theorem Reps.mono (s : Same B B') : ∀ {v : List V} {d : List D}, Reps K B v d → Reps K B' v d
  | _, _, .nil => .nil
  | _, _, .cons h r => .cons (Rep.mono s h) (Reps.mono s r)
end
theorem Reps.length : ∀ {vs : List V} {ds : List D}, Reps K B vs ds → vs.length = ds.length
  | _, _, .nil => rfl
  | _, _, .cons _ r => congrArg (· + 1) r.length
theorem Reps.get : ∀ {vs : List V} {ds : List D} {i : Nat} {d : D}, Reps K B vs ds → ds[i]? = some d → ∃ v, vs[i]? = some v ∧ Rep K B v d
  | _, _, _, _, .nil, h => by simp at h
  | _, _, 0, _, .cons r _, h => by simp at h; subst h; exact ⟨_, rfl, r⟩
  | _, _, i + 1, _, .cons _ t, h => by
    obtain ⟨v, e, r⟩ := Reps.get (i := i) t (by simpa using h)
    exact ⟨v, by simpa using e, r⟩
theorem Reps.append : ∀ {vs ws : List V} {ds es : List D}, Reps K B vs ds → Reps K B ws es → Reps K B (vs ++ ws) (ds ++ es)
  | _, _, _, _, .nil, s => s
  | _, _, _, _, .cons r t, s => .cons r (Reps.append t s)
theorem Reps.take : ∀ (n : Nat) {vs : List V} {ds : List D}, Reps K B vs ds → Reps K B (vs.take n) (ds.take n)
  | 0, _, _, _ => .nil
  | _ + 1, _, _, .nil => .nil
  | n + 1, _, _, .cons r t => .cons r (Reps.take n t)
theorem Reps.drop : ∀ (n : Nat) {vs : List V} {ds : List D}, Reps K B vs ds → Reps K B (vs.drop n) (ds.drop n)
  | 0, _, _, r => r
  | _ + 1, _, _, .nil => .nil
  | n + 1, _, _, .cons _ t => Reps.drop n t
theorem Reps.set : ∀ (n : Nat) {vs : List V} {ds : List D} {v : V} {d : D}, Rep K B v d → Reps K B vs ds → Reps K B (vs.set n v) (ds.set n d)
  | _, _, _, _, _, _, .nil => .nil
  | 0, _, _, _, _, q, .cons _ t => .cons q t
  | n + 1, _, _, _, _, q, .cons r t => .cons r (Reps.set n q t)
theorem Reps.dropLast {vs : List V} {ds : List D} (r : Reps K B vs ds) : Reps K B vs.dropLast ds.dropLast := by
  rw [List.dropLast_eq_take, List.dropLast_eq_take, r.length]
  exact r.take _
theorem Reps.reverse : ∀ {vs : List V} {ds : List D}, Reps K B vs ds → Reps K B vs.reverse ds.reverse
  | _, _, .nil => .nil
  | _, _, .cons r t => by
    rw [List.reverse_cons, List.reverse_cons]
    exact (Reps.reverse t).append (.cons r .nil)
theorem Reps.rep {vs : List V} {ds : List D} (r : Reps K B vs ds) : ∀ n : Nat, Reps K B (List.replicate n vs).flatten (List.replicate n ds).flatten
  | 0 => .nil
  | n + 1 => by
    rw [List.replicate_succ, List.replicate_succ, List.flatten_cons, List.flatten_cons]
    exact r.append (Reps.rep r n)
theorem Rep.ints : ∀ {ns : List Int}, Reps K B (ns.map V.int) (ns.map D.int)
  | [] => .nil
  | n :: ns => .cons (.int n) Rep.ints
/-- flat data leans on tuples alone -/
def Tups (B B' : Hp) : Prop := ∀ a xs, Rd B a (.tup xs) → Rd B' a (.tup xs)
mutual
theorem Rep.flat (s : Tups B B') : ∀ {v : V} {d : D}, d.flat = true → Rep K B v d → Rep K B' v d
  | _, _, _, .non => .non
  | _, _, _, .bl b => .bl b
  | _, _, _, .int i => .int i
  | _, _, _, .str x => .str x
  | _, _, f, .tup h r => by
    unfold D.flat at f
    refine .tup ?_ (Reps.flat s f r)
    rcases h with h | h
    · exact .inl (s _ _ h)
    · exact .inr h
  | _, _, f, .lst h r => by cases f
  | _, _, f, .dct h e r => by cases f
theorem Reps.flat (s : Tups B B') : ∀ {v : List V} {d : List D}, D.flats d = true → Reps K B v d → Reps K B' v d
  | _, _, _, .nil => .nil
  | _, _, f, .cons h r => by
    unfold D.flats at f
    rw [Bool.and_eq_true] at f
    exact .cons (Rep.flat s f.1 h) (Reps.flat s f.2 r)
end
end

/-- the entry of a def: its heap, what may be read of it, the lists that are its to change -/
structure Gr where
  H : Hp
  B : Hp
  io : List Addr
  tok : Nat → Addr

/-- what an own thing's object holds -/
inductive OwR (K : PySem.W.Frag) (B : Hp) : Bool → HO → List D → Prop
  | lst {vs : List V} {ds : List D} : Reps K B vs ds → OwR K B false (.lst vs) ds
  | dct {kvs : List (Key × V)} {ks : List Ky} {es : List D} : kvs.map (·.1) = ks → Reps K B (kvs.map (·.2)) es → OwR K B true (.dK kvs) [.dct ks es]
theorem OwR.mono {K : PySem.W.Frag} {B B' : Hp} (s : Same B B') {b : Bool} {o : HO} {ds : List D} (h : OwR K B b o ds) : OwR K B' b o ds := by
  cases h with
  | lst r => exact .lst (r.mono s)
  | dct e r => exact .dct e (r.mono s)
theorem OwR.rep {K : PySem.W.Frag} {B : Hp} {p : Addr} {b : Bool} {o : HO} {ds : List D} (h : OwR K B b o ds) (e : B p = some o) : Rep K B (.ref p) (outD b ds) := by
  cases h with
  | lst r => exact .lst (SqL.of e) r
  | dct e2 r => exact .dct (.inl e) e2 r
/-- no tuple, no errors' fields -/
theorem OwR.kind {K : PySem.W.Frag} {B : Hp} {b : Bool} {o : HO} {ds : List D} (h : OwR K B b o ds) : (∃ vs, o = .lst vs) ∨ ∃ kvs, o = .dK kvs := by
  cases h with
  | lst r => exact .inl ⟨_, rfl⟩
  | dct e2 r => exact .inr ⟨_, rfl⟩
inductive SlOk (K : PySem.W.Frag) (G : Gr) (B H : Hp) : Option V → Sl → Prop
  | no {v : Option V} : SlOk K G B H v .no
  | sh {v : V} {d : D} : Rep K B v d → SlOk K G B H (some v) (.sh d)
  | ow {b : Bool} {p : Addr} {o : HO} {ds : List D} : B p = none → G.H p = none → H p = some o → OwR K B b o ds → SlOk K G B H (some (.ref p)) (.ow b ds)
  | tk {n : Nat} : SlOk K G B H (some (.ref (G.tok n))) (.tk n)

structure Sto (K : PySem.W.Frag) (G : Gr) (B H : Hp) (σ : L2.St) (e : Env) : Prop where
  len : σ.length = e.length
  sl : ∀ (i : Nat) (s : Sl), e[i]? = some s → ∃ v, σ[i]? = some v ∧ SlOk K G B H v s
  dis : ∀ (i j : Nat) (p : Addr) (b b' : Bool) (ds ds' : List D), e[i]? = some (.ow b ds) → e[j]? = some (.ow b' ds') → σ[i]? = some (some (.ref p)) → σ[j]? = some (some (.ref p)) → i = j
  sub : Same B H
  b0 : Same G.B B
  keep : ∀ a o, G.H a = some o → a ∉ G.io → H a = some o
  dom : ∀ a, G.H a ≠ none → H a ≠ none
  new : ∀ a, B a ≠ none → G.B a ≠ none ∨ G.H a = none
  iom : ∀ a, a ∈ G.io → G.H a ≠ none

section
variable {K : PySem.W.Frag} {G : Gr} {B B' H H' : Hp} {σ : L2.St} {e : Env}
theorem same_none (s : Same B H) {p : Addr} (h : H p = none) : B p = none := s.free h
theorem same_upd' {p : Addr} {o : HO} (h : H p = none) : Same H (upd H p o) := fun b x q => by
  rw [upd_ne (ne_of_none q h)]
  exact q
theorem same_upd2 (s : Same B H) {p : Addr} {o : HO} : Same (upd B p o) (upd H p o) := fun b x q => by
  unfold upd at q ⊢
  split
  · rename_i z; rw [if_pos z] at q; exact q
  · rename_i z; rw [if_neg z] at q; exact s _ _ q
/-- a new object, readable from now on -/
theorem Sto.alloc (S : Sto K G B H σ e) {p : Addr} {o : HO} (hp : H p = none) : Sto K G (upd B p o) (upd H p o) σ e where
  len := S.len
  sl := fun i s h => by
    obtain ⟨v, e1, ok⟩ := S.sl i s h
    refine ⟨v, e1, ?_⟩
    have sb : Same B (upd B p o) := same_upd' (same_none S.sub hp)
    cases ok with
    | no => exact .no
    | tk => exact .tk
    | sh r => exact .sh (r.mono sb)
    | @ow _ q vs ds h1 h2 h3 h4 =>
      have ne : q ≠ p := ne_of_none h3 hp
      exact .ow (by rw [upd_ne ne]; exact h1) h2 (by rw [upd_ne ne]; exact h3) (h4.mono sb)
  dis := S.dis
  sub := same_upd2 S.sub
  b0 := S.b0.trans (same_upd' (same_none S.sub hp))
  keep := fun a x h1 h2 => by
    have h3 := S.keep a x h1 h2
    rw [upd_ne (ne_of_none h3 hp)]
    exact h3
  dom := fun a h => by
    by_cases q : a = p
    · rw [q, upd_same]; simp
    · rw [upd_ne q]; exact S.dom a h
  new := fun a h => by
    by_cases q : a = p
    · refine .inr ?_
      cases z : G.H a with
      | none => rfl
      | some x => exact absurd (q ▸ hp) (S.dom a (by rw [z]; simp))
    · rw [upd_ne q] at h; exact S.new a h
  iom := S.iom
/-- a new object that is nobody's yet -/
theorem Sto.loose (S : Sto K G B H σ e) {p : Addr} {o : HO} (hp : H p = none) : Sto K G B (upd H p o) σ e where
  len := S.len
  sl := fun i s h => by
    obtain ⟨v, e1, ok⟩ := S.sl i s h
    refine ⟨v, e1, ?_⟩
    cases ok with
    | no => exact .no
    | tk => exact .tk
    | sh r => exact .sh r
    | @ow _ q vs ds h1 h2 h3 h4 =>
      have ne : q ≠ p := ne_of_none h3 hp
      exact .ow h1 h2 (by rw [upd_ne ne]; exact h3) h4
  dis := S.dis
  sub := S.sub.trans (same_upd' hp)
  b0 := S.b0
  keep := fun a x h1 h2 => by
    have h3 := S.keep a x h1 h2
    rw [upd_ne (ne_of_none h3 hp)]
    exact h3
  dom := fun a h => by
    by_cases q : a = p
    · rw [q, upd_same]; simp
    · rw [upd_ne q]; exact S.dom a h
  new := S.new
  iom := S.iom
/-- G-fresh -/
theorem Sto.fresh (S : Sto K G B H σ e) {p : Addr} (hp : H p = none) : G.H p = none := by
  cases z : G.H p with
  | none => rfl
  | some x => exact absurd hp (S.dom p (by rw [z]; simp))
/-- a list that nobody has, put into B -/
theorem Sto.take (S : Sto K G B H σ e) {p : Addr} {o : HO} (hp : H p = some o) (hb : B p = none) (hg : G.H p = none) (ho : ∀ (i : Nat) (b : Bool) (ds : List D), e[i]? = some (.ow b ds) → σ[i]? ≠ some (some (.ref p))) : Sto K G (upd B p o) H σ e where
  len := S.len
  sl := fun i s h => by
    obtain ⟨v, e1, ok⟩ := S.sl i s h
    refine ⟨v, e1, ?_⟩
    have sb : Same B (upd B p o) := same_upd' hb
    cases ok with
    | no => exact .no
    | tk => exact .tk
    | sh r => exact .sh (r.mono sb)
    | @ow _ q vs ds h1 h2 h3 h4 =>
      have ne : q ≠ p := fun z => ho i _ _ h (by rw [e1, z])
      exact .ow (by rw [upd_ne ne]; exact h1) h2 h3 (h4.mono sb)
  dis := S.dis
  sub := fun b x q => by
    by_cases z : b = p
    · rw [z, upd_same] at q; rw [z, hp]; exact q
    · rw [upd_ne z] at q; exact S.sub _ _ q
  b0 := S.b0.trans (same_upd' hb)
  keep := S.keep
  dom := S.dom
  new := fun a h => by
    by_cases q : a = p
    · exact .inr (q ▸ hg)
    · rw [upd_ne q] at h; exact S.new a h
  iom := S.iom
/-- a slot forgotten -/
theorem Sto.drop (S : Sto K G B H σ e) (i : Nat) (v : Option V) : Sto K G B H (σ.set i v) (e.set i .no) where
  len := by rw [List.length_set, List.length_set]; exact S.len
  sl := fun j s h => by
    by_cases q : i = j
    · subst q
      have hl : i < e.length := by
        have := (List.getElem?_eq_some_iff.mp h).1
        rw [List.length_set] at this; exact this
      rw [List.getElem?_set_self hl] at h
      cases h
      exact ⟨v, List.getElem?_set_self (by rw [S.len]; exact hl), .no⟩
    · rw [List.getElem?_set_ne q] at h
      rw [List.getElem?_set_ne q]
      exact S.sl j s h
  dis := fun j k p b b' ds ds' h1 h2 h3 h4 => by
    have nj : i ≠ j := fun q => by
      subst q
      have hl := (List.getElem?_eq_some_iff.mp h1).1
      rw [List.length_set] at hl
      rw [List.getElem?_set_self hl] at h1
      cases h1
    have nk : i ≠ k := fun q => by
      subst q
      have hl := (List.getElem?_eq_some_iff.mp h2).1
      rw [List.length_set] at hl
      rw [List.getElem?_set_self hl] at h2
      cases h2
    rw [List.getElem?_set_ne nj] at h1 h3
    rw [List.getElem?_set_ne nk] at h2 h4
    exact S.dis j k p b b' ds ds' h1 h2 h3 h4
  sub := S.sub
  b0 := S.b0
  keep := S.keep
  dom := S.dom
  new := S.new
  iom := S.iom
/-- a slot forgotten, its place as it was -/
theorem Sto.lose (S : Sto K G B H σ e) (i : Nat) : Sto K G B H σ (e.set i .no) := by
  by_cases hl : i < σ.length
  · have q := S.drop i σ[i]
    have z : σ.set i σ[i] = σ := List.set_getElem_self hl
    rw [z] at q
    exact q
  · have z : e.set i .no = e := List.set_eq_of_length_le (by have := S.len; omega)
    rw [z]
    exact S
/-- a value stored -/
theorem Sto.put (S : Sto K G B H σ e) (i : Nat) {v : V} {s : Sl} (hs : SlOk K G B H (some v) s) (ho : ∀ (b : Bool) (ds : List D) (p : Addr), s = Sl.ow b ds → v = V.ref p → ∀ (j : Nat) (b' : Bool) (ds' : List D), j ≠ i → e[j]? = some (.ow b' ds') → σ[j]? ≠ some (some (.ref p))) : Sto K G B H (σ.set i (some v)) (e.set i s) where
  len := by rw [List.length_set, List.length_set]; exact S.len
  sl := fun j s' h => by
    by_cases q : i = j
    · subst q
      have hl : i < e.length := by
        have := (List.getElem?_eq_some_iff.mp h).1
        rw [List.length_set] at this; exact this
      rw [List.getElem?_set_self hl] at h
      cases h
      exact ⟨_, List.getElem?_set_self (by rw [S.len]; exact hl), hs⟩
    · rw [List.getElem?_set_ne q] at h
      rw [List.getElem?_set_ne q]
      exact S.sl j s' h
  dis := fun j k p b b' ds ds' h1 h2 h3 h4 => by
    have low : ∀ {j : Nat} {s' : Sl}, (e.set i s)[j]? = some s' → j < e.length := fun {j s'} h => by
      have hl := (List.getElem?_eq_some_iff.mp h).1
      rw [List.length_set] at hl
      exact hl
    by_cases qj : i = j
    · by_cases qk : i = k
      · exact qj.symm.trans qk
      · exfalso
        subst qj
        have hl := low h1
        rw [List.getElem?_set_self hl] at h1
        rw [List.getElem?_set_self (by rw [S.len]; exact hl)] at h3
        rw [List.getElem?_set_ne qk] at h2 h4
        exact ho b ds p (Option.some.inj h1) (Option.some.inj (Option.some.inj h3)) k b' ds' (Ne.symm qk) h2 h4
    · by_cases qk : i = k
      · exfalso
        subst qk
        have hl := low h2
        rw [List.getElem?_set_self hl] at h2
        rw [List.getElem?_set_self (by rw [S.len]; exact hl)] at h4
        rw [List.getElem?_set_ne qj] at h1 h3
        exact ho b' ds' p (Option.some.inj h2) (Option.some.inj (Option.some.inj h4)) j b ds (Ne.symm qj) h1 h3
      · rw [List.getElem?_set_ne qj] at h1 h3
        rw [List.getElem?_set_ne qk] at h2 h4
        exact S.dis j k p b b' ds ds' h1 h2 h3 h4
  sub := S.sub
  b0 := S.b0
  keep := S.keep
  dom := S.dom
  new := S.new
  iom := S.iom
/-- an owned list is written -/
theorem Sto.write (S : Sto K G B H σ e) {i : Nat} {b : Bool} {p : Addr} {ds ds' : List D} {o' : HO} (he : e[i]? = some (.ow b ds)) (hσ : σ[i]? = some (some (.ref p))) (r : OwR K B b o' ds') : Sto K G B (upd H p o') σ (e.set i (.ow b ds')) := by
  obtain ⟨v, e1, ok⟩ := S.sl i _ he
  rw [hσ] at e1
  cases e1
  cases ok with
  | ow hb hg hh hr =>
    have hl : i < e.length := (List.getElem?_eq_some_iff.mp he).1
    refine ⟨by rw [List.length_set]; exact S.len, fun j s h => ?_, fun j k q c c' es es' h1 h2 h3 h4 => ?_, fun b x q => ?_, S.b0, fun a o h1 h2 => ?_, fun a h => ?_, S.new, S.iom⟩
    · by_cases q : i = j
      · subst q
        rw [List.getElem?_set_self hl] at h
        cases h
        exact ⟨_, hσ, .ow hb hg upd_same r⟩
      · rw [List.getElem?_set_ne q] at h
        obtain ⟨v, e1, ok⟩ := S.sl j s h
        refine ⟨v, e1, ?_⟩
        cases ok with
        | no => exact .no
        | tk => exact .tk
        | sh r => exact .sh r
        | @ow _ q' vs ds2 h1 h2 h3 h4 =>
          have ne : q' ≠ p := fun z => q (S.dis i j p _ _ ds ds2 he h hσ (by rw [e1, z]))
          exact .ow h1 h2 (by rw [upd_ne ne]; exact h3) h4
    · have back : ∀ {j : Nat} {c : Bool} {es : List D}, (e.set i (.ow b ds'))[j]? = some (.ow c es) → ∃ c0 es0, e[j]? = some (.ow c0 es0) := fun {j c es} h => by
        by_cases q : i = j
        · subst q; exact ⟨b, ds, he⟩
        · rw [List.getElem?_set_ne q] at h; exact ⟨c, es, h⟩
      obtain ⟨x1, a1, b1⟩ := back h1
      obtain ⟨x2, a2, b2⟩ := back h2
      exact S.dis j k q x1 x2 a1 a2 b1 b2 h3 h4
    · have ne : b ≠ p := ne_of_none q hb
      rw [upd_ne ne]
      exact S.sub _ _ q
    · have ne : a ≠ p := fun z => by
        subst z
        rw [hg] at h1; cases h1
      rw [upd_ne ne]
      exact S.keep a o h1 h2
    · by_cases q : a = p
      · rw [q, upd_same]; simp
      · rw [upd_ne q]; exact S.dom a h
/-- an owned list handed out -/
theorem Sto.hand (S : Sto K G B H σ e) {i : Nat} {b : Bool} {p : Addr} {ds : List D} {o : HO} (he : e[i]? = some (.ow b ds)) (hσ : σ[i]? = some (some (.ref p))) (hh : H p = some o) (hr : OwR K B b o ds) (hb : B p = none) (hg : G.H p = none) :
    Sto K G (upd B p o) H σ (e.set i (.sh (outD b ds))) := by
  have hl : i < e.length := (List.getElem?_eq_some_iff.mp he).1
  have S1 := S.lose i
  have S2 := S1.take hh hb hg fun j c es h q => by
    by_cases z : i = j
    · subst z; rw [List.getElem?_set_self hl] at h; cases h
    · rw [List.getElem?_set_ne z] at h
      exact z (S.dis i j p _ _ ds es he h hσ q)
  have sb : Same B (upd B p o) := same_upd' hb
  have S3 := S2.put i (v := .ref p) (s := .sh (outD b ds)) (.sh ((hr.mono sb).rep upd_same)) fun _ _ _ z => nomatch z
  have z1 : σ.set i (some (.ref p)) = σ := by
    have hl' : i < σ.length := by rw [S.len]; exact hl
    have q : σ[i] = some (.ref p) := by
      rw [List.getElem?_eq_getElem hl'] at hσ; exact Option.some.inj hσ
    rw [← q]; exact List.set_getElem_self hl'
  have z2 : (e.set i .no).set i (.sh (outD b ds)) = e.set i (.sh (outD b ds)) := List.set_set ..
  rw [z1, z2] at S3
  exact S3
/-- what nobody has is written -/
theorem Sto.poke (S : Sto K G B H σ e) {p : Addr} {o : HO} (hb : B p = none) (hg : G.H p = none) (ho : ∀ (i : Nat) (b : Bool) (ds : List D), e[i]? = some (.ow b ds) → σ[i]? ≠ some (some (.ref p))) : Sto K G B (upd H p o) σ e where
  len := S.len
  sl := fun i s h => by
    obtain ⟨v, e1, ok⟩ := S.sl i s h
    refine ⟨v, e1, ?_⟩
    cases ok with
    | no => exact .no
    | tk => exact .tk
    | sh r => exact .sh r
    | @ow b q vs ds h1 h2 h3 h4 =>
      have ne : q ≠ p := fun z => ho i b ds h (by rw [e1, z])
      exact .ow h1 h2 (by rw [upd_ne ne]; exact h3) h4
  dis := S.dis
  sub := fun b x q => by
    rw [upd_ne (ne_of_none q hb)]
    exact S.sub _ _ q
  b0 := S.b0
  keep := fun a x h1 h2 => by
    rw [upd_ne (ne_of_none h1 hg)]
    exact S.keep a x h1 h2
  dom := fun a h => by
    by_cases q : a = p
    · rw [q, upd_same]; simp
    · rw [upd_ne q]; exact S.dom a h
  new := S.new
  iom := S.iom
/-- what is owned there -/
def Owned (σ : L2.St) (e : Env) (p : Addr) : Prop := ∃ (i : Nat) (b : Bool) (ds : List D), e[i]? = some (.ow b ds) ∧ σ[i]? = some (some (.ref p))
end

open Classical in
/-- B and all owned lists -/
noncomputable def full (B H : Hp) (σ : L2.St) (e : Env) : Hp := fun a => match B a with
  | some o => some o
  | none => if Owned σ e a then H a else none
/-- owned by a name of the frame -/
def OwnF (σ : L2.St) (e : Env) (a : Addr) : Prop := ∃ (i : Nat) (b : Bool) (ds : List D), e[i]? = some (.ow b ds) ∧ σ[i]? = some (some (.ref a))
open Classical in
noncomputable def reb (G : Gr) (B H : Hp) (σ : L2.St) (e : Env) : Gr := ⟨fun a => if OwnF σ e a then none else H a, B, G.io, G.tok⟩
/-- the n-th token tells p -/
def GT (G : Gr) (n : Nat) (p : Addr) : Gr := { G with tok := fun m => if m = n then p else G.tok m }
/-- what surrounds: the wish for exceptions, what is known of the entry -/
structure Am (K : PySem.W.Frag) where
  w : WX
  g : Gr → Prop
  full : ∀ (G : Gr) (B H : Hp) (σ : L2.St) (e : Env), g G → Sto K G B H σ e → g ⟨H, full B H σ e, [], G.tok⟩
  reb : ∀ (G : Gr) (B H : Hp) (σ : L2.St) (e : Env), g G → Sto K G B H σ e → g (reb G B H σ e)
  gtk : ∀ (G : Gr) (n : Nat) (p : Addr), n ≠ 0 → g G → g (GT G n p)
def Am.of (K : PySem.W.Frag) (w : WX) : Am K := ⟨w, fun _ => True, fun _ _ _ _ _ _ _ => trivial, fun _ _ _ _ _ _ _ => trivial, fun _ _ _ _ _ => trivial⟩
/-- another wish -/
def Am.to {K : PySem.W.Frag} (W : Am K) (w : WX) : Am K := ⟨w, W.g, W.full, W.reb, W.gtk⟩
/-- an exception that flies -/
def XRep (K : PySem.W.Frag) (mg : Str → Option Value) (B : Hp) (cls : Value) (dd : Option Addr) (x : Xc) : Prop :=
  ∃ C, mg x.cls = some (.ref C) ∧ cls = .ref C ∧ match x.val with
    | none => dd = none
    | some (f, n) => ∃ a, dd = some a ∧ B a = some (.xd [(f, .int n)])

/-- what is due of a result -/
abbrev RP (α β : Type) := Gr → Hp → Hp → L2.St → Env → β → α → Prop
section
variable (K : PySem.W.Frag) (mg : Str → Option Value) (W : Am K)
def Po {α β : Type} (R : RP α β) (G : Gr) (σ : L2.St) (B : Hp) (Q : β → Hp → Prop) (r : Res α) : Prop := match r with
  | .ok a e' => ∀ b B' H', Sto K G B' H' σ e' → Same B B' → R G B' H' σ e' b a → Q b H'
  | .err x e' => ∀ cls dd B' H', Sto K G B' H' σ e' → Same B B' → XRep K mg B' cls dd x → W.w cls dd σ H'
  | .bot => False
def rpE : RP D V := fun _ B _ _ _ v d => Rep K B v d
def rpA : RP (List D) (List V) := fun _ B _ _ _ vs ds => Reps K B vs ds
def rpB : RP Bool Bool := fun _ _ _ _ _ b a => b = a
/-- a new list, nobody's -/
def rpF : RP (List D) V := fun G B H σ e v ds => ∃ p vs, v = .ref p ∧ H p = some (.lst vs) ∧ B p = none ∧ G.H p = none ∧ ¬ Owned σ e p ∧ Reps K B vs ds
def Frz (e : Env) : Prop := ∀ (i : Nat) (b : Bool) (ds : List D), e[i]? ≠ some (.ow b ds)
structure RdX {α β : Type} (R : RP α β) (t : L2.St → Hp → (β → Hp → Prop) → Prop) (m : Env → Res α) : Prop where
  run : ∀ (G : Gr), W.g G → ∀ (B H : Hp) (σ : L2.St) (e : Env) (Q : β → Hp → Prop), Sto K G B H σ e → Po K mg W R G σ B Q (m e) → t σ H Q
end
section
variable {K : PySem.W.Frag} {mg : Str → Option Value} {W : Am K} {α β γ δ : Type} {G : Gr} {B B' H H' : Hp} {σ : L2.St} {e : Env}
theorem Po.base {R : RP α β} {Q : β → Hp → Prop} {r : Res α} (s : Same B B') (h : Po K mg W R G σ B Q r) : Po K mg W R G σ B' Q r := by
  cases r with
  | ok a e' => exact fun b B2 H2 S q p => h b B2 H2 S (s.trans q) p
  | err x e' => exact fun c d B2 H2 S q p => h c d B2 H2 S (s.trans q) p
  | bot => exact h
theorem Po.bind {R : RP α β} {R' : RP γ δ} {Q : β → Hp → Prop} {Q' : δ → Hp → Prop} {r : Res α} {f : α → Env → Res γ} (h : Po K mg W R' G σ B Q' (r.bind f))
    (k : ∀ a e1 b B1 H1, Sto K G B1 H1 σ e1 → Same B B1 → R G B1 H1 σ e1 b a → Po K mg W R' G σ B1 Q' (f a e1) → Q b H1) : Po K mg W R G σ B Q r := by
  cases r with
  | ok a e1 => exact fun b B1 H1 S q p => k a e1 b B1 H1 S q p (Po.base q h)
  | err x e' => exact h
  | bot => exact h
theorem Po.here {R : RP α β} {Q : β → Hp → Prop} {a : α} {b : β} (h : Po K mg W R G σ B Q (.ok a e)) (S : Sto K G B H σ e) (p : R G B H σ e b a) : Q b H := h b B H S (Same.refl B) p
theorem Po.of {R : RP α β} {Q : β → Hp → Prop} {o : Option α} (h : Po K mg W R G σ B Q (.of o e)) : ∃ a, o = some a ∧ Po K mg W R G σ B Q (.ok a e) := by
  cases o with
  | none => exact False.elim h
  | some a => exact ⟨a, rfl, h⟩
theorem frz_frz (e : Env) : Frz (frz e) := fun i b ds h => by
  unfold frz at h
  rw [List.getElem?_map] at h
  cases z : e[i]? with
  | none => rw [z] at h; cases h
  | some s => rw [z] at h; cases s <;> cases h
end
end VL

/-! VL2: the readings of expressions and their meanings. -/
namespace VL
open PySem PySem.Spec PyProof.Rows L2
section
variable {K : PySem.W.Frag} {mg : Str → Option Value} {W : Am K} {G : Gr} {B H : Hp} {σ : L2.St} {e : Env}
abbrev RdE (K : PySem.W.Frag) (mg : Str → Option Value) (W : Am K) (t : TE) (m : ME) : Prop := RdX K mg W (rpE K) t m
abbrev RdA (K : PySem.W.Frag) (mg : Str → Option Value) (W : Am K) (t : TA) (m : MA) : Prop := RdX K mg W (rpA K) t m
abbrev RdB (K : PySem.W.Frag) (mg : Str → Option Value) (W : Am K) (t : TT) (m : MB) : Prop := RdX K mg W rpB t m
abbrev RdF (K : PySem.W.Frag) (mg : Str → Option Value) (W : Am K) (t : TE) (m : MA) : Prop := RdX K mg W (rpF K) t m

theorem Sto.at (S : Sto K G B H σ e) {i : Nat} {s : Sl} (h : e[i]? = some s) : ∃ v, σ[i]? = some v ∧ SlOk K G B H v s := S.sl i s h
theorem rd_var (i : Nat) : RdE K mg W (tVar i) (vVar i) where
  run := fun G hG B H σ e Q S h => by
    unfold vVar at h
    cases z : e[i]? with
    | none => rw [z] at h; exact h.elim
    | some s =>
      rw [z] at h
      obtain ⟨v, hv, ok⟩ := S.sl i s z
      cases ok with
      | no => exact h.elim
      | tk => exact h.elim
      | sh r => exact ⟨_, hv, Po.here h S r⟩
      | @ow b p vs ds hb hg hh hr =>
        exact ⟨_, hv, h (.ref p) _ H (S.hand z hv hh hr hb hg) (same_upd' hb) ((hr.mono (same_upd' hb)).rep upd_same)⟩
theorem rd_c {v : V} {d : D} (r : ∀ B, Rep K B v d) : RdE K mg W (tC v) (vC d) where
  run := fun G hG B H σ e Q S h => Po.here h S (r B)
theorem rd_int (i : Int) : RdE K mg W (tC (.int i)) (vC (.int i)) := rd_c fun _ => .int i
theorem rd_bl (b : Bool) : RdE K mg W (tC (.bl b)) (vC (.bl b)) := rd_c fun _ => .bl b
theorem rd_non : RdE K mg W (tC .non) (vC .non) := rd_c fun _ => .non
theorem rd_str (x : Str) : RdE K mg W (tC (.str x)) (vC (.str x)) := rd_c fun _ => .str x

/-- an operator by values: what it gives of data -/
def Op2 (K : PySem.W.Frag) (mg : Str → Option Value) (W : Am K) (r : R2) (op : D → D → Option D) : Prop :=
  ∀ (G : Gr) (B H : Hp) (σ : L2.St) (e : Env) (x y : V) (a b d : D) (Q : VK), Sto K G B H σ e → Rep K B x a → Rep K B y b → op a b = some d → Po K mg W (rpE K) G σ B Q (.ok d e) → r x y H Q
def Op1 (K : PySem.W.Frag) (mg : Str → Option Value) (W : Am K) (r : V → Hp → VK → Prop) (op : D → Option D) : Prop :=
  ∀ (G : Gr) (B H : Hp) (σ : L2.St) (e : Env) (x : V) (a d : D) (Q : VK), Sto K G B H σ e → Rep K B x a → op a = some d → Po K mg W (rpE K) G σ B Q (.ok d e) → r x H Q
theorem rd_op {r : R2} {op : D → D → Option D} {ta tb : TE} {ma mb : ME} (hr : Op2 K mg W r op) (ha : RdE K mg W ta ma) (hb : RdE K mg W tb mb) : RdE K mg W (tOp r ta tb) (vOp op ma mb) where
  run := fun G hG B H σ e Q S h => by
    refine ha.run G hG B H σ e _ S (Po.bind h fun a e1 x B1 H1 S1 s1 r1 h1 => ?_)
    refine hb.run G hG B1 H1 σ e1 _ S1 (Po.bind h1 fun b e2 y B2 H2 S2 s2 r2 h2 => ?_)
    obtain ⟨d, hd, h3⟩ := h2.of
    exact hr G B2 H2 σ e2 x y a b d Q S2 (Rep.mono s2 r1) r2 hd h3
theorem rd_un {r : V → Hp → VK → Prop} {op : D → Option D} {ta : TE} {ma : ME} (hr : Op1 K mg W r op) (ha : RdE K mg W ta ma) : RdE K mg W (tUn r ta) (vUn op ma) where
  run := fun G hG B H σ e Q S h => by
    refine ha.run G hG B H σ e _ S (Po.bind h fun a e1 x B1 H1 S1 s1 r1 h1 => ?_)
    obtain ⟨d, hd, h3⟩ := h1.of
    exact hr G B1 H1 σ e1 x a d Q S1 r1 hd h3

/-! arguments -/
theorem rd_nil : RdA K mg W tNil vNil where
  run := fun G hG B H σ e Q S h => Po.here h S .nil
theorem rd_cons {ta : TE} {t : TA} {ma : ME} {m : MA} (ha : RdE K mg W ta ma) (hr : RdA K mg W t m) : RdA K mg W (tCons ta t) (vCons ma m) where
  run := fun G hG B H σ e Q S h => by
    refine ha.run G hG B H σ e _ S (Po.bind h fun a e1 x B1 H1 S1 s1 r1 h1 => ?_)
    refine hr.run G hG B1 H1 σ e1 _ S1 (Po.bind h1 fun b e2 y B2 H2 S2 s2 r2 h2 => ?_)
    exact Po.here h2 S2 (.cons (Rep.mono s2 r1) r2)

/-- how many items a display has -/
def TLen (t : TA) (n : Nat) : Prop := ∀ (σ : L2.St) (H : Hp) (Q : List V → Hp → Prop), t σ H Q → True
theorem rd_tup {t : TA} {m : MA} (h : RdA K mg W t m) : RdE K mg W (tTup t) (fun e => (m e).bind fun xs e1 => if xs.length ≤ vmax then .ok (.tup xs) e1 else .bot) where
  run := fun G hG B H σ e Q S q => by
    refine h.run G hG B H σ e _ S (Po.bind q fun a e1 x B1 H1 S1 s1 r1 h1 => ?_)
    split at h1
    · rename_i hl
      refine ⟨by rw [Reps.length r1, sizeLine_eq]; exact Nat.le_trans hl (by decide), fun p hp => ?_⟩
      exact h1 _ _ _ (S1.alloc hp) (same_upd' (same_none S1.sub hp)) (.tup (SqT.of upd_same) (Reps.mono (same_upd' (same_none S1.sub hp)) r1))
    · exact h1.elim
theorem not_owned_new (S : Sto K G B H σ e) {p : Addr} (hp : H p = none) : ¬ Owned σ e p := fun ⟨i, b, ds, h1, h2⟩ => by
  obtain ⟨v, e1, ok⟩ := S.sl i _ h1
  rw [h2] at e1
  cases e1
  cases ok with
  | ow _ _ h3 _ => rw [hp] at h3; cases h3
/-- a new list -/
theorem fresh_list (S : Sto K G B H σ e) {ds : List D} {vs : List V} {Q : VK} (r : Reps K B vs ds) (h : Po K mg W (rpF K) G σ B Q (.ok ds e)) : ∀ p, H p = none → Q (.ref p) (upd H p (.lst vs)) := fun p hp =>
  h _ B _ (S.loose hp) (Same.refl B) ⟨p, vs, rfl, upd_same, same_none S.sub hp, S.fresh hp, not_owned_new S hp, r⟩
theorem rd_lst {t : TA} {m : MA} (h : RdA K mg W t m) : RdF K mg W (tLst t) (fun e => (m e).bind fun xs e1 => if xs.length ≤ vmax then .ok xs e1 else .bot) where
  run := fun G hG B H σ e Q S q => by
    refine h.run G hG B H σ e _ S (Po.bind q fun a e1 x B1 H1 S1 s1 r1 h1 => ?_)
    split at h1
    · rename_i hl
      exact ⟨by rw [Reps.length r1, sizeLine_eq]; exact Nat.le_trans hl (by decide), fresh_list S1 r1 h1⟩
    · exact h1.elim
/-- a new list handed out -/
theorem rd_of {t : TE} {m : MA} (h : RdF K mg W t m) : RdE K mg W t (vOf m) where
  run := fun G hG B H σ e Q S q => by
    refine h.run G hG B H σ e _ S (Po.bind q fun ds e1 x B1 H1 S1 s1 r1 h1 => ?_)
    obtain ⟨p, vs, rfl, hp, hb, hg, no, r⟩ := r1
    exact h1 _ _ _ (S1.take hp hb hg fun i b ds z1 z2 => no ⟨i, b, ds, z1, z2⟩) (same_upd' hb) (.lst (SqL.of upd_same) (r.mono (same_upd' hb)))

/-! looking at owned lists -/
theorem full_same {B H : Hp} {σ : L2.St} {e : Env} : Same B (full B H σ e) := fun a o h => by unfold full; rw [h]
theorem full_sub (S : Sto K G B H σ e) : Same (full B H σ e) H := fun a o h => by
  unfold full at h
  split at h
  · rename_i o' h'; exact (S.sub _ _ h').trans h
  · split at h
    · exact h
    · cases h
theorem frz_get {e : Env} {i : Nat} {s : Sl} (h : (frz e)[i]? = some s) : ∃ s0, e[i]? = some s0 ∧ s = (match s0 with
    | .ow b ds => .sh (outD b ds)
    | s => s) := by
  unfold frz at h
  rw [List.getElem?_map] at h
  cases z : e[i]? with
  | none => rw [z] at h; cases h
  | some s0 => rw [z] at h; exact ⟨s0, rfl, (Option.some.inj h).symm⟩
theorem Sto.full (S : Sto K G B H σ e) : Sto K ⟨H, full B H σ e, [], G.tok⟩ (full B H σ e) H σ (frz e) where
  len := by unfold frz; rw [List.length_map]; exact S.len
  sl := fun i s h => by
    obtain ⟨s0, h0, hs⟩ := frz_get h
    obtain ⟨v, e1, ok⟩ := S.sl i s0 h0
    refine ⟨v, e1, ?_⟩
    subst hs
    cases ok with
    | no => exact .no
    | tk => exact .tk
    | sh r => exact .sh (r.mono full_same)
    | @ow b p vs ds hb hg hh hr =>
      refine .sh ((hr.mono full_same).rep ?_)
      unfold VL.full
      rw [hb]
      exact (if_pos ⟨i, b, ds, h0, e1⟩).trans hh
  dis := fun i j p b b' ds ds' h1 => absurd h1 (frz_frz e i b ds)
  sub := full_sub S
  b0 := Same.refl _
  keep := fun a o h _ => h
  dom := fun a h => h
  new := fun a h => .inl h
  iom := fun a h => by simp at h
/-- .. and back: what is new beside the owned ones -/
def tupsOf (B B' : Hp) : Hp := fun a => match B a with
  | some o => some o
  | none => match B' a with
    | some (.tup xs) => some (.tup xs)
    | some (.frz o (.tup xs)) => some (.frz o (.tup xs))
    | some (.xd fs) => some (.xd fs)
    | _ => none
theorem tupsOf_same {B B' : Hp} : Same B (tupsOf B B') := fun a o h => by unfold tupsOf; rw [h]
theorem tupsOf_some {B B' : Hp} {a : Addr} {o : HO} (h : tupsOf B B' a = some o) : B a = some o ∨ (B a = none ∧ B' a = some o ∧ (∀ xs, o ≠ .lst xs) ∧ ∀ kvs, o ≠ .dK kvs) := by
  unfold tupsOf at h
  split at h
  · rename_i o' h'; exact .inl (h'.trans h)
  · rename_i h'
    split at h
    · rename_i xs h2; cases h; exact .inr ⟨h', h2, (fun _ z => nomatch z), (fun _ z => nomatch z)⟩
    · rename_i ob xs h2; cases h; exact .inr ⟨h', h2, (fun _ z => nomatch z), (fun _ z => nomatch z)⟩
    · rename_i fs h2; cases h; exact .inr ⟨h', h2, (fun _ z => nomatch z), (fun _ z => nomatch z)⟩
    · cases h
theorem tupsOf_tups {B B' B0 : Hp} (s : Same B B') : Tups B' (tupsOf B B') := fun a xs h => by
  rcases h with h | ⟨o, h⟩
  · refine .inl ?_
    unfold tupsOf
    cases z : B a with
    | some o => have q := s _ _ z; rw [h] at q; exact q.symm
    | none => rw [h]
  · refine .inr ⟨o, ?_⟩
    unfold tupsOf
    cases z : B a with
    | some o => have q := s _ _ z; rw [h] at q; exact q.symm
    | none => rw [h]
theorem Sto.back {B' H' : Hp} {e' : Env} (S : Sto K G B H σ e) (S' : Sto K ⟨H, VL.full B H σ e, [], G.tok⟩ B' H' σ e') : Sto K G (tupsOf B B') H' σ e := by
  have sB : Same B B' := full_same.trans S'.b0
  have hk : ∀ a o, H a = some o → H' a = some o := fun a o h => S'.keep a o h (by simp)
  have sub : Same (tupsOf B B') H' := fun a o h => by
    rcases tupsOf_some h with h | ⟨_, h, _⟩
    · exact hk _ _ (S.sub _ _ h)
    · exact S'.sub _ _ h
  refine ⟨S.len, fun i s h => ?_, S.dis, sub, S.b0.trans tupsOf_same, fun a o h1 h2 => hk _ _ (S.keep a o h1 h2), fun a h => S'.dom a (S.dom a h), fun a h => ?_, S.iom⟩
  · obtain ⟨v, e1, ok⟩ := S.sl i s h
    refine ⟨v, e1, ?_⟩
    cases ok with
    | no => exact .no
    | tk => exact .tk
    | sh r => exact .sh (r.mono tupsOf_same)
    | @ow b p vs ds hb hg hh hr =>
      refine .ow ?_ hg (hk _ _ hh) (hr.mono tupsOf_same)
      cases z : tupsOf B B' p with
      | none => rfl
      | some o =>
        rcases tupsOf_some z with q | ⟨_, q, ne⟩
        · rw [hb] at q; cases q
        · have q2 := S'.sub _ _ q
          rw [hk _ _ hh] at q2
          cases q2
          rcases hr.kind with ⟨vs, w⟩ | ⟨kvs, w⟩
          · exact absurd w (ne.1 vs)
          · exact absurd w (ne.2 kvs)
  · cases z : tupsOf B B' a with
    | none => exact absurd z h
    | some o =>
      rcases tupsOf_some z with q | ⟨q0, q, ne⟩
      · exact S.new a (by rw [q]; simp)
      · rcases S'.new a (by rw [q]; simp) with w | w
        · have w : VL.full B H σ e a ≠ none := w
          have ho : Owned σ e a := Classical.byContradiction fun no => w (by
            unfold VL.full
            rw [q0]
            exact if_neg no)
          · obtain ⟨i, b, ds, h1, h2⟩ := ho
            obtain ⟨v, e1, ok⟩ := S.sl i _ h1
            rw [h2] at e1
            cases e1
            cases ok with
            | ow hb hg hh hr =>
              have q2 := S'.sub _ _ q
              rw [hk _ _ hh] at q2
              cases q2
              rcases hr.kind with ⟨vs, w⟩ | ⟨kvs, w⟩
              · exact absurd w (ne.1 vs)
              · exact absurd w (ne.2 kvs)
        · exact .inr (S.fresh w)
end
end VL

/-! VL3: looking at owned lists; calls; tests. -/
namespace VL
open PySem PySem.Spec PyProof.Rows L2
section
variable {K : PySem.W.Frag} {mg : Str → Option Value} {W : Am K} {G : Gr} {B H : Hp} {σ : L2.St} {e : Env}
theorem XRep.tups {B B' : Hp} {cls : Value} {dd : Option Addr} {x : Xc} (s : Same B B') (h : XRep K mg B' cls dd x) : XRep K mg (tupsOf B B') cls dd x := by
  obtain ⟨C, h1, h2, h3⟩ := h
  refine ⟨C, h1, h2, ?_⟩
  cases z : x.val with
  | none => rw [z] at h3; exact h3
  | some p =>
    rw [z] at h3
    obtain ⟨f, n⟩ := p
    obtain ⟨a, e1, e2⟩ := h3
    refine ⟨a, e1, ?_⟩
    unfold tupsOf
    cases q : B a with
    | some o => have w := s _ _ q; rw [e2] at w; exact w.symm
    | none => rw [e2]
theorem XRep.mono {B B' : Hp} {cls : Value} {dd : Option Addr} {x : Xc} (s : Same B B') (h : XRep K mg B cls dd x) : XRep K mg B' cls dd x := by
  obtain ⟨C, h1, h2, h3⟩ := h
  refine ⟨C, h1, h2, ?_⟩
  cases z : x.val with
  | none => rw [z] at h3; exact h3
  | some p =>
    rw [z] at h3
    obtain ⟨f, n⟩ := p
    obtain ⟨a, e1, e2⟩ := h3
    exact ⟨a, e1, s _ _ e2⟩
theorem frz_of_frz {e : Env} (h : Frz e) : frz e = e := by
  unfold frz
  refine List.ext_getElem? fun i => ?_
  rw [List.getElem?_map]
  cases z : e[i]? with
  | none => rfl
  | some s =>
    cases s with
    | no => rfl
    | tk => rfl
    | sh d => rfl
    | ow b ds => exact (h i b ds z).elim
theorem rd_bor {t : TE} {m : ME} (h : RdE K mg W t m) : RdE K mg W t (vBor m) where
  run := fun G hG B H σ e Q S q => by
    refine h.run ⟨H, VL.full B H σ e, [], G.tok⟩ (W.full G B H σ e hG S) (VL.full B H σ e) H σ (frz e) Q S.full ?_
    unfold vBor at q
    cases z : m (frz e) with
    | ok d e' =>
      rw [z] at q
      by_cases f : d.flat = true
      · simp only [f, if_true] at q
        exact fun v B' H' S' s' r' => q v (tupsOf B B') H' (S.back S') tupsOf_same (Rep.flat (tupsOf_tups (B0 := B) (full_same.trans s')) f r')
      · simp only [f] at q
        exact q.elim
    | err x e' =>
      rw [z] at q
      exact fun c d B' H' S' s' r' => q c d (tupsOf B B') H' (S.back S') tupsOf_same (r'.tups (full_same.trans s'))
    | bot => rw [z] at q; exact q
theorem rd_borT {t : TT} {m : MB} (h : RdB K mg W t m) : RdB K mg W t (vBorT m) where
  run := fun G hG B H σ e Q S q => by
    refine h.run ⟨H, VL.full B H σ e, [], G.tok⟩ (W.full G B H σ e hG S) (VL.full B H σ e) H σ (frz e) Q S.full ?_
    unfold vBorT at q
    cases z : m (frz e) with
    | ok d e' =>
      rw [z] at q
      exact fun v B' H' S' s' r' => q v (tupsOf B B') H' (S.back S') tupsOf_same r'
    | err x e' =>
      rw [z] at q
      exact fun c d B' H' S' s' r' => q c d (tupsOf B B') H' (S.back S') tupsOf_same (r'.tups (full_same.trans s'))
    | bot => rw [z] at q; exact q
theorem rd_borF {t : TE} {m : MA} (h : RdF K mg W t m) : RdF K mg W t (vBorF m) where
  run := fun G hG B H σ e Q S q => by
    refine h.run ⟨H, VL.full B H σ e, [], G.tok⟩ (W.full G B H σ e hG S) (VL.full B H σ e) H σ (frz e) Q S.full ?_
    unfold vBorF at q
    cases z : m (frz e) with
    | ok d e' =>
      rw [z] at q
      by_cases f : D.flats d = true
      · simp only [f, if_true] at q
        refine fun v B' H' S' s' r' => ?_
        obtain ⟨p, vs, rfl, hp, hb, hg, no, r⟩ := r'
        have hn : tupsOf B B' p = none := by
          cases w : tupsOf B B' p with
          | none => rfl
          | some o =>
            rcases tupsOf_some w with q1 | ⟨_, q1, _⟩
            · have q2 := S'.b0 _ _ (full_same _ _ q1); rw [hb] at q2; cases q2
            · rw [hb] at q1; cases q1
        have hH : H p = none := hg
        exact q (.ref p) (tupsOf B B') H' (S.back S') tupsOf_same ⟨p, vs, rfl, hp, hn, S.fresh hH, not_owned_new S hH, Reps.flat (tupsOf_tups (B0 := B) (full_same.trans s')) f r⟩
      · simp only [f] at q
        exact q.elim
    | err x e' =>
      rw [z] at q
      exact fun c d B' H' S' s' r' => q c d (tupsOf B B') H' (S.back S') tupsOf_same (r'.tups (full_same.trans s'))
    | bot => rw [z] at q; exact q

/-! what a def promises, from its meaning -/
/-- all that is new in B' is new to H, or stood in B -/
def News' (B H B' : Hp) : Prop := ∀ a, B' a ≠ none → B a ≠ none ∨ H a = none
def spV (K : PySem.W.Frag) (mg : Str → Option Value) (fn : List D → FR) : Sp := fun vs H Q E => ∃ (B : Hp) (ds : List D), Same B H ∧ Reps K B vs ds ∧ match fn ds with
  | .ok d => ∀ v B' H', Same H H' → Same B B' → Same B' H' → News' B H B' → Rep K B' v d → Q v H'
  | .err x => ∀ cls dd B' H', Same H H' → Same B B' → Same B' H' → News' B H B' → XRep K mg B' cls dd x → E cls dd H'
  | .bot => False
/-- .. a new list -/
def spF (K : PySem.W.Frag) (mg : Str → Option Value) (fn : List D → FR) : Sp := fun vs H Q E => ∃ (B : Hp) (ds : List D), Same B H ∧ Reps K B vs ds ∧ match fn ds with
  | .ok (.lst rs) => ∀ p ws B' H', Same H H' → Same B B' → Same B' H' → News' B H B' → H p = none → B' p = none → H' p = some (.lst ws) → Reps K B' ws rs → Q (.ref p) H'
  | .ok _ => False
  | .err x => ∀ cls dd B' H', Same H H' → Same B B' → Same B' H' → News' B H B' → XRep K mg B' cls dd x → E cls dd H'
  | .bot => False
theorem Sto.call {B' H' : Hp} (S : Sto K G B H σ e) (h1 : Same H H') (h2 : Same B B') (h3 : Same B' H') (h4 : News' B H B') : Sto K G B' H' σ e := by
  refine ⟨S.len, fun i s h => ?_, S.dis, h3, S.b0.trans h2, fun a o q1 q2 => h1 _ _ (S.keep a o q1 q2), fun a q => ?_, fun a q => ?_, S.iom⟩
  · obtain ⟨v, e1, ok⟩ := S.sl i s h
    refine ⟨v, e1, ?_⟩
    cases ok with
    | no => exact .no
    | tk => exact .tk
    | sh r => exact .sh (r.mono h2)
    | @ow b p vs ds hb hg hh hr =>
      refine .ow ?_ hg (h1 _ _ hh) (hr.mono h2)
      cases z : B' p with
      | none => rfl
      | some o =>
        rcases h4 p (by rw [z]; simp) with w | w
        · exact absurd hb w
        · rw [hh] at w; cases w
  · cases z : H a with
    | none => exact absurd z (S.dom a q)
    | some o => rw [h1 _ _ z]; simp
  · rcases h4 a q with w | w
    · exact S.new a w
    · exact .inr (S.fresh w)
theorem rd_call {fn : List D → FR} {t : TA} {m : MA} (ha : RdA K mg W t m) : RdE K mg W (tCallS (spV K mg fn) (WE W.w) t) (vCall fn m) where
  run := fun G hG B H σ e Q S q => by
    refine ha.run G hG B H σ e _ S (Po.bind q fun ds e1 vs B1 H1 S1 s1 r1 h1 => ?_)
    refine ⟨B1, ds, S1.sub, r1, ?_⟩
    cases z : fn ds with
    | ok d => rw [z] at h1; exact fun v B' H' a1 a2 a3 a4 r => h1 v B' H' (S1.call a1 a2 a3 a4) a2 r
    | err x => rw [z] at h1; exact fun c dd B' H' a1 a2 a3 a4 r => h1 c dd B' H' (S1.call a1 a2 a3 a4) a2 r
    | bot => rw [z] at h1; exact h1
theorem rd_callF {fn : List D → FR} {t : TA} {m : MA} (ha : RdA K mg W t m) : RdF K mg W (tCallS (spF K mg fn) (WE W.w) t) (vCallF fn m) where
  run := fun G hG B H σ e Q S q => by
    refine ha.run G hG B H σ e _ S (Po.bind q fun ds e1 vs B1 H1 S1 s1 r1 h1 => ?_)
    refine ⟨B1, ds, S1.sub, r1, ?_⟩
    cases z : fn ds with
    | ok d =>
      rw [z] at h1
      cases d with
      | lst rs =>
        exact fun p ws B' H' a1 a2 a3 a4 hp hb hh r => h1 (.ref p) B' H' (S1.call a1 a2 a3 a4) a2 ⟨p, ws, rfl, hh, hb, S1.fresh hp, not_owned_new S1 hp, r⟩
      | _ => exact h1
    | err x => rw [z] at h1; exact fun c dd B' H' a1 a2 a3 a4 r => h1 c dd B' H' (S1.call a1 a2 a3 a4) a2 r
    | bot => rw [z] at h1; exact h1

/-! tests -/
theorem rd_test {t : TE} {m : ME} (h : RdE K mg W t m) : RdB K mg W (tTest t) (vTest m) where
  run := fun G hG B H σ e Q S q => by
    refine h.run G hG B H σ e _ S (Po.bind q fun d e1 v B1 H1 S1 s1 r1 h1 => ?_)
    obtain ⟨b, hb, h2⟩ := h1.of
    cases d with
    | bl c =>
      cases hb
      cases r1
      exact ⟨_, rfl, Po.here h2 S1 rfl⟩
    | _ => cases hb
theorem rd_tB {t : TE} {m : ME} (h : RdE K mg W t m) : RdB K mg W (tB t) (vTest m) := rd_test h
theorem rd_and {t u : TT} {a b : MB} (ha : RdB K mg W t a) (hb : RdB K mg W u b) : RdB K mg W (tAnd t u) (vAnd a b) where
  run := fun G hG B H σ e Q S q => by
    refine ha.run G hG B H σ e _ S (Po.bind q fun d e1 v B1 H1 S1 s1 r1 h1 => ?_)
    have r1 : v = d := r1
    subst r1
    cases v with
    | true => exact hb.run G hG B1 H1 σ e1 Q S1 h1
    | false => exact Po.here h1 S1 rfl
theorem rd_or {t u : TT} {a b : MB} (ha : RdB K mg W t a) (hb : RdB K mg W u b) : RdB K mg W (tOr t u) (vOr a b) where
  run := fun G hG B H σ e Q S q => by
    refine ha.run G hG B H σ e _ S (Po.bind q fun d e1 v B1 H1 S1 s1 r1 h1 => ?_)
    have r1 : v = d := r1
    subst r1
    cases v with
    | false => exact hb.run G hG B1 H1 σ e1 Q S1 h1
    | true => exact Po.here h1 S1 rfl
theorem rd_not {t : TT} {a : MB} (ha : RdB K mg W t a) : RdB K mg W (tNot t) (vNot a) where
  run := fun G hG B H σ e Q S q => by
    refine ha.run G hG B H σ e _ S (Po.bind q fun d e1 v B1 H1 S1 s1 r1 h1 => ?_)
    have r1 : v = d := r1
    subst r1
    exact Po.here h1 S1 rfl
/-- as values -/
theorem rd_andV {t u : TE} {a b : ME} (ha : RdE K mg W t a) (hb : RdE K mg W u b) : RdE K mg W (tAndV t u) (fun e => (a e).bind fun x e1 => match x with
    | .bl true => b e1
    | .bl false => .ok (.bl false) e1
    | _ => .bot) where
  run := fun G hG B H σ e Q S q => by
    refine ha.run G hG B H σ e _ S (Po.bind q fun d e1 v B1 H1 S1 s1 r1 h1 => ?_)
    cases d with
    | bl c =>
      cases r1
      cases c with
      | true => exact ⟨true, rfl, (if_pos rfl).mpr (hb.run G hG B1 H1 σ e1 Q S1 h1)⟩
      | false => exact ⟨false, rfl, (if_neg Bool.false_ne_true).mpr (Po.here h1 S1 (.bl false))⟩
    | _ => exact h1.elim
theorem rd_orV {t u : TE} {a b : ME} (ha : RdE K mg W t a) (hb : RdE K mg W u b) : RdE K mg W (tOrV t u) (fun e => (a e).bind fun x e1 => match x with
    | .bl false => b e1
    | .bl true => .ok (.bl true) e1
    | _ => .bot) where
  run := fun G hG B H σ e Q S q => by
    refine ha.run G hG B H σ e _ S (Po.bind q fun d e1 v B1 H1 S1 s1 r1 h1 => ?_)
    cases d with
    | bl c =>
      cases r1
      cases c with
      | false => exact ⟨false, rfl, (if_neg Bool.false_ne_true).mpr (hb.run G hG B1 H1 σ e1 Q S1 h1)⟩
      | true => exact ⟨true, rfl, (if_pos rfl).mpr (Po.here h1 S1 (.bl true))⟩
    | _ => exact h1.elim
theorem rd_notV {t : TE} {a : ME} (ha : RdE K mg W t a) : RdE K mg W (tNotV t) (vUn (fun d => match d with
    | .bl c => some (.bl (!c))
    | _ => none) a) where
  run := fun G hG B H σ e Q S q => by
    refine ha.run G hG B H σ e _ S (Po.bind q fun d e1 v B1 H1 S1 s1 r1 h1 => ?_)
    cases d with
    | bl c =>
      cases r1
      exact ⟨c, rfl, Po.here h1 S1 (.bl _)⟩
    | _ => exact h1.elim
/-- a op b op' c -/
theorem rd_chain {r r' : R2} {op op' : D → D → Option D} {ta tb tc : TE} {a b c : ME} (hr : Op2 K mg W r op) (hr' : Op2 K mg W r' op') (hB : ∀ x y z, op x y = some z → ∃ k, z = .bl k) (ha : RdE K mg W ta a) (hb : RdE K mg W tb b) (hc : RdE K mg W tc c) :
    RdE K mg W (tChain r r' ta tb tc) (vChain op op' a b c) where
  run := fun G hG B H σ e Q S q => by
    refine ha.run G hG B H σ e _ S (Po.bind q fun x e1 vx B1 H1 S1 s1 r1 h1 => ?_)
    refine hb.run G hG B1 H1 σ e1 _ S1 (Po.bind h1 fun y e2 vy B2 H2 S2 s2 r2 h2 => ?_)
    cases z : op x y with
    | none => rw [z] at h2; exact h2.elim
    | some d =>
      rw [z] at h2
      obtain ⟨k, rfl⟩ := hB x y d z
      refine hr G B2 H2 σ e2 vx vy x y (.bl k) _ S2 (Rep.mono s2 r1) r2 z fun v B3 H3 S3 s3 r3 => ?_
      cases r3
      refine ⟨k, rfl, ?_⟩
      cases k with
      | true =>
        refine (if_pos rfl).mpr ?_
        refine hc.run G hG B3 H3 σ e2 _ S3 (Po.base s3 (Po.bind h2 fun w e4 vw B4 H4 S4 s4 r4 h4 => ?_))
        obtain ⟨d, hd, h5⟩ := h4.of
        exact hr' G B4 H4 σ e4 vy vw y w d Q S4 (Rep.mono s4 r2) r4 hd h5
      | false => exact (if_neg Bool.false_ne_true).mpr (h2 (.bl false) B3 H3 S3 s3 (.bl false))
end
end VL

/-! VL4: operators on data. -/
namespace VL
open PySem PySem.Spec PyProof.Rows L2
/-- an operator, told on data -/
def rDat (K : PySem.W.Frag) (op : D → D → Option D) : R2 := fun x y H Q => ∃ (G : Gr) (B : Hp) (σ : L2.St) (e : Env) (a b d : D), Sto K G B H σ e ∧ Rep K B x a ∧ Rep K B y b ∧ op a b = some d ∧
  ∀ v B' H', Sto K G B' H' σ e → Same B B' → Rep K B' v d → Q v H'
def rDat1 (K : PySem.W.Frag) (op : D → Option D) : V → Hp → VK → Prop := fun x H Q => ∃ (G : Gr) (B : Hp) (σ : L2.St) (e : Env) (a d : D), Sto K G B H σ e ∧ Rep K B x a ∧ op a = some d ∧
  ∀ v B' H', Sto K G B' H' σ e → Same B B' → Rep K B' v d → Q v H'
section
variable {K : PySem.W.Frag} {mg : Str → Option Value} {W : Am K} {G : Gr} {B H : Hp} {σ : L2.St} {e : Env}
theorem op2_dat {op : D → D → Option D} : Op2 K mg W (rDat K op) op := fun G B H σ e x y a b d Q S r1 r2 hd h => ⟨G, B, σ, e, a, b, d, S, r1, r2, hd, h⟩
theorem op1_dat {op : D → Option D} : Op1 K mg W (rDat1 K op) op := fun G B H σ e x a d Q S r1 hd h => ⟨G, B, σ, e, a, d, S, r1, hd, h⟩
theorem vok : vmax ≤ sizeLine := by rw [sizeLine_eq]; decide
theorem vle {n : Nat} (h : n ≤ vmax) : n ≤ sizeLine := Nat.le_trans h vok
theorem rd_sub (s : Same B H) {a : Addr} {u : HO} (h : Rd B a u) : Rd H a u := same_rd s h
end
section
variable {X : Cx}
theorem od_add : OpR X (binaryOp .Add) (rDat X.K opAdd) := by
  intro pins s σ H x y v u Q I rx ry ⟨G, B, σ', e, a, b, d, S, r1, r2, hd, h⟩
  unfold opAdd at hd
  split at hd
  · cases hd; cases r1; cases r2
    exact op_add pins s σ H _ _ v u Q I rx ry ⟨_, _, rfl, rfl, h _ B H S (Same.refl B) (.int _)⟩
  · cases r1; cases r2
    split at hd
    · rename_i z
      cases hd
      exact op_add_str pins s σ H _ _ v u Q I rx ry ⟨_, _, rfl, rfl, vle z, h _ B H S (Same.refl B) (.str _)⟩
    · cases hd
  · split at hd
    · rename_i z
      cases hd
      cases r1 with
      | @tup p vs _ h1 q1 =>
        cases r2 with
        | @tup p' vs' _ h2 q2 =>
          have l1 := q1.length
          have l2 := q2.length
          rw [List.length_cons] at l1 l2
          refine op_catT pins s σ H _ _ v u Q I rx ry ⟨p, p', vs, vs', rfl, rfl, same_sqT S.sub h1, same_sqT S.sub h2, fun q => by rw [q] at l1; simp at l1, vle (by omega), fun q => by rw [q] at l2; simp at l2, fun _ t ht => ?_⟩
          exact h _ _ _ (S.alloc ht) (same_upd' (same_none S.sub ht)) (.tup (SqT.of upd_same) (Reps.mono (same_upd' (same_none S.sub ht)) (q1.append q2)))
    · cases hd
  · split at hd
    · rename_i z
      cases hd
      cases r1 with
      | @lst p vs _ h1 q1 =>
        cases r2 with
        | @lst p' vs' _ h2 q2 =>
          have l1 := q1.length
          have l2 := q2.length
          cases rx
          cases ry
          obtain ⟨its, w1, ⟨⟨cls1, dd1, data1, sl1⟩, n1, e1, c1, _, d1⟩, _⟩ := I.list (same_sqL S.sub h1)
          obtain ⟨its2, w2, ⟨⟨cls2, dd2, data2, sl2⟩, n2, e2, c2, _, d2⟩, _⟩ := I.list (same_sqL S.sub h2)
          simp only at c1 d1 c2 d2
          subst c1 d1 c2 d2
          have m1 := w1.length
          have m2 := w2.length
          have hz : vs.length + vs'.length ≤ sizeLine := vle (by omega)
          refine concat_meets ⟨_, e1, rfl⟩ ⟨_, e2, rfl⟩ noFill_list_add seq_list_add PySem.F.slot_list_add PySem.F.entry_list_add (PySem.F.args_list_add_2 _ _) (list_addW p p' its.toArray its2.toArray n1 n2 dd1 dd2 sl1 sl2 (by simp only [List.size_toArray]; omega)) ⟨e1, e2, ?_⟩
          have ea : its.toArray ++ its2.toArray = (its ++ its2).toArray := by simp
          rw [ea]
          have hf : H s.heap.objs.size = none := I.hok.fresh (Nat.le_refl _)
          refine ⟨.ref _, _, I.laid (t' := s.toks) (o := .lst (vs ++ vs')) (fun b ob q => Heap.get?_push_of_some _ q) (Nat.le_refl _) ?_, rfl, h _ _ _ (S.alloc hf) (same_upd' (same_none S.sub hf)) (.lst (SqL.of upd_same) (Reps.mono (same_upd' (same_none S.sub hf)) (q1.append q2)))⟩
          exact ⟨by rw [List.length_append]; exact hz, _, 0, w1.append w2, Heap.get?_push_size _ rfl⟩
    · cases hd
  · cases hd
theorem od_sub : OpR X (binaryOp .Sub) (rDat X.K opSub) := by
  intro pins s σ H x y v u Q I rx ry ⟨G, B, σ', e, a, b, d, S, r1, r2, hd, h⟩
  unfold opSub at hd
  split at hd
  · cases hd; cases r1; cases r2
    exact op_sub pins s σ H _ _ v u Q I rx ry ⟨_, _, rfl, rfl, h _ B H S (Same.refl B) (.int _)⟩
  · cases hd
theorem mulOk_ok {i j : Int} (h : mulOk i j = true) : IntMulOk i j := by
  unfold mulOk at h
  rw [Bool.or_eq_true, Bool.or_eq_true] at h
  rcases h with (h | h) | h
  · have h := of_decide_eq_true h
    exact CMul.ok (.inl ⟨by omega, by omega⟩)
  · have h := of_decide_eq_true h
    exact CMul.ok (.inr ⟨by omega, by omega⟩)
  · have h := of_decide_eq_true h
    exact CMulW.ok h
theorem od_mul : OpR X (binaryOp .Mult) (rDat X.K opMul) := by
  intro pins s σ H x y v u Q I rx ry ⟨G, B, σ', e, a, b, d, S, r1, r2, hd, h⟩
  unfold opMul at hd
  split at hd
  · split at hd
    · rename_i z
      cases hd; cases r1; cases r2
      obtain ⟨t, rfl⟩ := rx
      obtain ⟨t', rfl⟩ := ry
      exact mul_int ⟨.int _, H, I.tok _, ⟨_, rfl⟩, h _ B H S (Same.refl B) (.int _)⟩ (mulOk_ok z)
    · cases hd
  · rename_i xs j
    split at hd
    · rename_i z
      cases hd
      cases r2
      cases r1 with
      | @lst p vs _ h1 q1 =>
        cases rx
        obtain ⟨t, rfl⟩ := ry
        obtain ⟨its, w1, ⟨⟨cls1, dd1, data1, sl1⟩, n1, e1, c1, _, d1⟩, _⟩ := I.list (same_sqL S.sub h1)
        simp only at c1 d1
        subst c1 d1
        have l1 := q1.length
        have m1 := w1.length
        have hz : its.toArray.size * j.toNat ≤ sizeLine := by
          rw [List.size_toArray, ← m1, l1]
          exact vle z.2.2
        have hz16 : its.toArray.size * j.toNat ≤ 2 ^ 24 := by
          rw [List.size_toArray, ← m1, l1]
          exact Nat.le_trans z.2.2 (by decide)
        refine wpAny_binaryOp_repeat_ref (T := "list") (U := "int") (by decide) ⟨_, e1, rfl⟩ (fun s' => typeIs_int s' j t) noFill_list_mul PySem.F.fills_int_mul PySem.F.slot_int_rmul repeat_list PySem.F.slot_int_index.lookup
          (call_meets PySem.F.slot_int_rmul (typeIs_int s j t) PySem.F.entry_int_rmul (PySem.F.args_int_rmul_2 _ _) (lm_int_rmul_list_any j t p its.toArray n1 dd1 sl1)
            ⟨e1, rfl, ⟨_, e1, rfl⟩, call_meets PySem.F.slot_list_mul ⟨_, e1, rfl⟩ PySem.F.entry_list_mul (PySem.F.args_list_mul_2 _ _)
              (lm_list_mul_any p its.toArray n1 dd1 sl1 j t (by simp [Builtin.List.listFitsIndex]; omega) (by omega) (by simp [Builtin.List.listTooLong, sizeLine]; omega)) ⟨e1, ?_⟩⟩)
        rw [listMul_foldl_if]
        have hf : H s.heap.objs.size = none := I.hok.fresh (Nat.le_refl _)
        refine ⟨.ref _, _, I.laid (t' := s.toks) (o := .lst (List.replicate j.toNat vs).flatten) (fun b ob q => Heap.get?_push_of_some _ q) (Nat.le_refl _) ?_, rfl, h _ _ _ (S.alloc hf) (same_upd' (same_none S.sub hf)) (.lst (SqL.of upd_same) (Reps.mono (same_upd' (same_none S.sub hf)) (q1.rep j.toNat)))⟩
        refine ⟨?_, _, 0, w1.rep j.toNat, Heap.get?_push_size _ rfl⟩
        rw [PyProof.Rows.lm_len_rep_flat, l1, Nat.mul_comm]
        exact vle z.2.2
    · cases hd
  · cases hd
theorem od_fdiv : OpR X (binaryOp .FloorDiv) (rDat X.K opFdiv) := by
  intro pins s σ H x y v u Q I rx ry ⟨G, B, σ', e, a, b, d, S, r1, r2, hd, h⟩
  unfold opFdiv at hd
  split at hd
  · split at hd
    · rename_i z
      cases hd; cases r1; cases r2
      obtain ⟨t, rfl⟩ := rx
      obtain ⟨t', rfl⟩ := ry
      unfold divOk at z
      rw [Bool.and_eq_true] at z
      exact floordiv_int (of_decide_eq_true z.1) ⟨.int _, H, I.tok _, ⟨_, rfl⟩, h _ B H S (Same.refl B) (.int _)⟩ (.inl (PyProof.noPylong_of_log2 (of_decide_eq_true z.2)))
    · cases hd
  · cases hd
theorem od_mod : OpR X (binaryOp .Mod) (rDat X.K opMod) := by
  intro pins s σ H x y v u Q I rx ry ⟨G, B, σ', e, a, b, d, S, r1, r2, hd, h⟩
  unfold opMod at hd
  split at hd
  · split at hd
    · rename_i z
      cases hd; cases r1; cases r2
      exact op_modN pins s σ H _ _ v u Q I rx ry ⟨_, _, rfl, rfl, z, h _ B H S (Same.refl B) (.int _)⟩
    · cases hd
  · cases hd
theorem od_pow : OpR X (binaryOp .Pow) (rDat X.K opPow) := by
  intro pins s σ H x y v u Q I rx ry ⟨G, B, σ', e, a, b, d, S, r1, r2, hd, h⟩
  unfold opPow at hd
  split at hd
  · split at hd
    · rename_i z
      cases hd; cases r1; cases r2
      exact op_pow pins s σ H _ _ v u Q I rx ry ⟨_, _, rfl, rfl, ⟨z.1, by have := z.2.1; omega, Nat.lt_of_le_of_lt z.2.2 (by decide)⟩, h _ B H S (Same.refl B) (.int _)⟩
    · cases hd
  · cases hd
theorem ud_neg : UnR X (unaryOp .USub) (rDat1 X.K opNeg) := by
  intro pins s σ H x v Q I rx ⟨G, B, σ', e, a, d, S, r1, hd, h⟩
  unfold opNeg at hd
  split at hd
  · cases hd; cases r1
    exact un_neg pins s σ H _ v Q I rx ⟨_, rfl, h _ B H S (Same.refl B) (.int _)⟩
  · cases hd
theorem od_lt : OpR X (compareOp .Lt) (rDat X.K opLt) := by
  intro pins s σ H x y v u Q I rx ry ⟨G, B, σ', e, a, b, d, S, r1, r2, hd, h⟩
  unfold opLt at hd
  split at hd
  · cases hd; cases r1; cases r2
    exact op_lt pins s σ H _ _ v u Q I rx ry ⟨_, _, rfl, rfl, h _ B H S (Same.refl B) (.bl _)⟩
  · cases hd
theorem od_le : OpR X (compareOp .LtE) (rDat X.K opLe) := by
  intro pins s σ H x y v u Q I rx ry ⟨G, B, σ', e, a, b, d, S, r1, r2, hd, h⟩
  unfold opLe at hd
  split at hd
  · cases hd; cases r1; cases r2
    exact op_le pins s σ H _ _ v u Q I rx ry ⟨_, _, rfl, rfl, h _ B H S (Same.refl B) (.bl _)⟩
  · cases hd
theorem od_gt : OpR X (compareOp .Gt) (rDat X.K opGt) := by
  intro pins s σ H x y v u Q I rx ry ⟨G, B, σ', e, a, b, d, S, r1, r2, hd, h⟩
  unfold opGt at hd
  split at hd
  · cases hd; cases r1; cases r2
    exact op_gt pins s σ H _ _ v u Q I rx ry ⟨_, _, rfl, rfl, h _ B H S (Same.refl B) (.bl _)⟩
  · cases hd
theorem od_ge : OpR X (compareOp .GtE) (rDat X.K opGe) := by
  intro pins s σ H x y v u Q I rx ry ⟨G, B, σ', e, a, b, d, S, r1, r2, hd, h⟩
  unfold opGe at hd
  split at hd
  · cases hd; cases r1; cases r2
    exact op_ge pins s σ H _ _ v u Q I rx ry ⟨_, _, rfl, rfl, h _ B H S (Same.refl B) (.bl _)⟩
  · cases hd
end

/-! ### == -/
mutual
def D.py : D → PyData
  | .non => .none
  | .bl b => .bool b
  | .int i => .int i
  | .str s => .str s
  | .tup ds => .tuple (D.pys ds)
  | .lst ds => .list (D.pys ds)
  | .dct _ _ => .none
def D.pys : List D → List PyData
  | [] => []
  | d :: ds => d.py :: D.pys ds
end
mutual
theorem deq_py : ∀ (n m : Nat) (a b : D), a.eqok n = true → b.eqok m = true → PyData.eqv a.py b.py = D.deq a b
  | n, m, .non, b, _, h2 => by cases b <;> first | rfl | (unfold D.eqok at h2; cases h2)
  | n, m, .bl x, b, _, h2 => by cases b <;> first | rfl | (unfold D.eqok at h2; cases h2)
  | n, m, .int x, b, _, h2 => by
    cases b with
    | int y => simp [D.py, PyData.eqv, D.deq, Bool.beq_eq_decide_eq]
    | dct _ _ => unfold D.eqok at h2; cases h2
    | _ => rfl
  | n, m, .str x, b, _, h2 => by
    cases b with
    | str y => simp [D.py, PyData.eqv, D.deq, Bool.beq_eq_decide_eq]
    | dct _ _ => unfold D.eqok at h2; cases h2
    | _ => rfl
  | n, m, .dct _ _, b, h1, _ => by unfold D.eqok at h1; cases h1
  | n, m, .tup xs, b, h1, h2 => by
    cases b with
    | tup ys =>
      unfold D.eqok at h1 h2
      cases n with
      | zero => cases h1
      | succ n =>
        cases m with
        | zero => cases h2
        | succ m =>
          have q := deqs_py n m xs ys h1 h2
          simp only [D.py, PyData.eqv, D.deq]
          exact q
    | dct _ _ => unfold D.eqok at h2; cases h2
    | _ => rfl
  | n, m, .lst xs, b, h1, h2 => by
    cases b with
    | lst ys =>
      unfold D.eqok at h1 h2
      cases n with
      | zero => cases h1
      | succ n =>
        cases m with
        | zero => cases h2
        | succ m =>
          have q := deqs_py n m xs ys h1 h2
          simp only [D.py, PyData.eqv, D.deq]
          exact q
    | dct _ _ => unfold D.eqok at h2; cases h2
    | _ => rfl
theorem deqs_py : ∀ (n m : Nat) (a b : List D), D.eqoks n a = true → D.eqoks m b = true → PyData.eqvAll (D.pys a) (D.pys b) = D.deqs a b
  | n, m, [], [], _, _ => rfl
  | n, m, [], _ :: _, _, _ => rfl
  | n, m, _ :: _, [], _, _ => rfl
  | n, m, x :: xs, y :: ys, h1, h2 => by
    unfold D.eqoks at h1 h2
    rw [Bool.and_eq_true] at h1 h2
    have q1 := deq_py n m x y h1.1 h2.1
    have q2 := deqs_py n m xs ys h1.2 h2.2
    simp only [D.pys, PyData.eqvAll, D.deqs]
    rw [q1, q2]
end
mutual
theorem shaped_py : ∀ (n : Nat) (a : D), a.eqok n = true → a.py.canLay0 = true ∧ a.py.depth ≤ n + 1
  | n, .non, _ => ⟨by simp [D.py, PyData.canLay0], by simp [D.py, PyData.depth]⟩
  | n, .bl x, _ => ⟨by simp [D.py, PyData.canLay0], by simp [D.py, PyData.depth]⟩
  | n, .int x, _ => ⟨by simp [D.py, PyData.canLay0], by simp [D.py, PyData.depth]⟩
  | n, .str x, h1 => ⟨by simp only [D.py, PyData.canLay0]; unfold D.eqok at h1; exact h1, by simp [D.py, PyData.depth]⟩
  | n, .dct _ _, h1 => by unfold D.eqok at h1; cases h1
  | n, .tup xs, h1 => by
    unfold D.eqok at h1
    cases n with
    | zero => cases h1
    | succ n =>
      obtain ⟨q1, q2⟩ := shapeds_py n xs h1
      simp only [D.py, PyData.canLay0, PyData.depth]
      exact ⟨q1, by omega⟩
  | n, .lst xs, h1 => by
    unfold D.eqok at h1
    cases n with
    | zero => cases h1
    | succ n =>
      obtain ⟨q1, q2⟩ := shapeds_py n xs h1
      simp only [D.py, PyData.canLay0, PyData.depth]
      exact ⟨q1, by omega⟩
theorem shapeds_py : ∀ (n : Nat) (a : List D), D.eqoks n a = true → PyData.canLayAll0 (D.pys a) = true ∧ PyData.depthAll (D.pys a) ≤ n + 1
  | n, [], _ => ⟨by simp [D.pys, PyData.canLayAll0], by simp [D.pys, PyData.depthAll]⟩
  | n, x :: xs, h1 => by
    unfold D.eqoks at h1
    rw [Bool.and_eq_true] at h1
    obtain ⟨a1, a2⟩ := shaped_py n x h1.1
    obtain ⟨b1, b2⟩ := shapeds_py n xs h1.2
    simp only [D.pys, PyData.canLayAll0, PyData.depthAll]
    exact ⟨by rw [a1, b1]; rfl, by omega⟩
end
section
variable {K : PySem.W.Frag} {B H : Hp}
mutual
theorem Rep.dp (s : Same B H) : ∀ {n : Nat} {v : V} {d : D}, d.eqok n = true → Rep K B v d → Dp K H v d.py
  | _, _, _, _, .non => .non
  | _, _, _, _, .bl b => .bl b
  | _, _, _, _, .int i => .int i
  | _, _, _, _, .str x => .str x
  | n, _, _, f, .tup h r => by
    unfold D.eqok at f
    cases n with
    | zero => cases f
    | succ n => exact .tup (same_sqT s h) (Reps.dp s f r)
  | n, _, _, f, .lst h r => by
    unfold D.eqok at f
    cases n with
    | zero => cases f
    | succ n => exact .lst (same_sqL s h) (Reps.dp s f r)
  | _, _, _, f, .dct h e r => by unfold D.eqok at f; cases f
theorem Reps.dp (s : Same B H) : ∀ {n : Nat} {v : List V} {d : List D}, D.eqoks n d = true → Reps K B v d → DpAll K H v (D.pys d)
  | _, _, _, _, .nil => .nil
  | _, _, _, f, .cons h r => by
    unfold D.eqoks at f
    rw [Bool.and_eq_true] at f
    exact .cons (Rep.dp s f.1 h) (Reps.dp s f.2 r)
end
theorem dct_get : ∀ {kvs : List (Key × V)} {ds : List D} {k : Key} {d : D}, Reps K B (kvs.map (·.2)) ds → dctGet (kvs.map (·.1)) ds k = some d → ∃ v, valV kvs k = some v ∧ Rep K B v d
  | [], ds, k, d, _, h => by simp [dctGet] at h
  | (k0, v0) :: kvs, [], k, d, r, _ => by cases r
  | (k0, v0) :: kvs, d0 :: ds, k, d, r, h => by
    cases r with
    | cons r0 rr =>
      by_cases e : k0 = k
      · subst e
        refine ⟨v0, valV_pos rfl, ?_⟩
        simp [dctGet] at h
        subst h
        exact r0
      · have h2 : dctGet (kvs.map (·.1)) ds k = some d := by
          simp only [dctGet, List.map_cons, List.zip_cons_cons, List.find?_cons, decide_eq_false e] at h ⊢
          exact h
        obtain ⟨v, h3, h4⟩ := dct_get rr h2
        exact ⟨v, (valV_neg e).trans h3, h4⟩
theorem dct_none : ∀ {kvs : List (Key × V)} {ds : List D} {k : Key}, Reps K B (kvs.map (·.2)) ds → dctGet (kvs.map (·.1)) ds k = none → valV kvs k = none
  | [], ds, k, _, h => rfl
  | (k0, v0) :: kvs, [], k, r, _ => by cases r
  | (k0, v0) :: kvs, d0 :: ds, k, r, h => by
    cases r with
    | cons r0 rr =>
      by_cases e : k0 = k
      · subst e
        simp [dctGet] at h
      · have h2 : dctGet (kvs.map (·.1)) ds k = none := by
          simp only [dctGet, List.map_cons, List.zip_cons_cons, List.find?_cons, decide_eq_false e] at h ⊢
          exact h
        rw [valV_neg e]
        exact dct_none rr h2
theorem dct_ok {n : Nat} : ∀ {ks : List Ky} {ds : List D} {k : Ky} {d : D}, D.eqoks n ds = true → dctGet ks ds k = some d → D.eqok n d = true
  | [], ds, k, d, _, h => by simp [dctGet] at h
  | k0 :: ks, [], k, d, _, h => by simp [dctGet] at h
  | k0 :: ks, d0 :: ds, k, d, ho, h => by
    unfold D.eqoks at ho
    rw [Bool.and_eq_true] at ho
    by_cases e : k0 = k
    · subst e
      simp [dctGet] at h
      subst h
      exact ho.1
    · have h2 : dctGet ks ds k = some d := by
        simp only [dctGet, List.zip_cons_cons, List.find?_cons, decide_eq_false e] at h ⊢
        exact h
      exact dct_ok ho.2 h2
theorem shaped_of {n : Nat} (hn : n < 64) {d : D} (h : d.eqok n = true) : SeqAt.shaped d.py = true := by
  obtain ⟨q1, q2⟩ := shaped_py n d h
  unfold SeqAt.shaped
  rw [q1]
  exact decide_eq_true (by omega)
end
section
variable {X : Cx} {pins : List (Addr × Obj)} {σ : L2.St} {H B : Hp} {s : Shared}
/-- the entries of two dicts side by side -/
theorem hits_run {A : Around} (I : Inv X pins σ H s) (sb : Same B H) {lvs : List (Key × V)} {es : List D} {vb : List (Key × Value)} (hu : A.units + 63 < cLine) (rb : KV lvs vb) (re : Reps X.K B (lvs.map (·.2)) es) (he : D.eqoks 20 es = true) :
    ∀ {kvs : List (Key × V)} {ds : List D} {va : List (Key × Value)}, KV kvs va → Reps X.K B (kvs.map (·.2)) ds → D.eqoks 20 ds = true → PySem.W.KeqHits A s vb va (hitsD (lvs.map (·.1)) es (kvs.map (·.1)) ds)
  | [], ds, va, ra, rd, hd => by
    cases ra
    cases rd
    exact .nil
  | (k, v) :: kvs, ds, va, ra, rd, hd => by
    cases ra with
    | cons h t =>
      cases rd with
      | @cons _ _ d ds' r0 rr =>
        rename_i q qs
        obtain ⟨h1, h2⟩ := h
        obtain ⟨k', u⟩ := q
        have h1 : k = k' := h1
        subst h1
        unfold D.eqoks at hd
        rw [Bool.and_eq_true] at hd
        have ih := hits_run I sb hu rb re he t rr hd.2
        rw [List.map_cons]
        unfold hitsD
        cases z : dctGet (lvs.map (·.1)) es k with
        | none =>
          have q := rb.val k
          rw [dct_none re z] at q
          refine .miss ?_
          cases w : valueAt vb k with
          | none => rfl
          | some y => rw [w] at q; exact q.elim
        | some e =>
          obtain ⟨w, hw, rw'⟩ := dct_get re z
          have q := rb.val k
          rw [hw] at q
          obtain ⟨y, hy, ry⟩ := q.some_of
          have he' : D.eqok 20 e = true := dct_ok he z
          obtain ⟨as, r1⟩ := Dp.reads I d.py v u (r0.dp sb hd.1) h2
          obtain ⟨bs, r2⟩ := Dp.reads I e.py w y (rw'.dp sb he') ry
          have := SeqAt.eqAt_reads d.py e.py A s u y as bs r1 r2 (shaped_py 20 d hd.1).1 (shaped_py 20 e he').1 (by have := (shaped_py 20 d hd.1).2; omega)
          rw [deq_py 20 20 d e hd.1 he'] at this
          exact .hit hy this ih
theorem od_eq (hu : X.A.units + 64 < cLine) : OpR X (compareOp .Eq) (rDat X.K opEq) := by
  intro pins s σ H x y v u Q I rx ry ⟨G, B, σ', e, a, b, d, S, r1, r2, hd, h⟩
  unfold opEq at hd
  split at hd
  · rename_i z
    cases hd
    rw [Bool.and_eq_true] at z
    refine op_eqD hu pins s σ H x y v u Q I rx ry ⟨a.py, b.py, r1.dp S.sub z.1, r2.dp S.sub z.2, shaped_of (by decide) z.1, shaped_of (by decide) z.2, ?_⟩
    rw [deq_py 20 20 a b z.1 z.2]
    exact h _ B H S (Same.refl B) (.bl _)
  · unfold opEqK at hd
    split at hd
    · rename_i ks ds ls es
      split at hd
      · rename_i z
        cases hd
        rw [Bool.and_eq_true] at z
        cases r1 with
        | @dct p kvs _ _ a1 a2 a3 =>
          cases r2 with
          | @dct p' lvs _ _ b1 b2 b3 =>
            subst a2 b2
            obtain rfl : v = Value.ref p := rx
            obtain rfl : u = Value.ref p' := ry
            obtain ⟨_, ya, va, ra, da⟩ := dk_rd I.hok (rd_sub S.sub a1)
            obtain ⟨_, yb, vb, rb, db⟩ := dk_rd I.hok (rd_sub S.sub b1)
            refine PySem.W.keq_eq (knd := mixKind X.prog X.w) ya yb da db (by omega) (fun _ => hits_run (A := X.A.in1) I S.sub (by show X.A.units + 1 + 63 < cLine; omega) rb b3 z.2 ra a3 z.1) ?_
            rw [← ra.length, ← rb.length]
            rw [List.length_map, List.length_map, Bool.false_xor] at h
            exact ⟨.bl _, H, I, rfl, h _ B H S (Same.refl B) (.bl _)⟩
      · cases hd
    · cases hd
theorem od_ne (hu : X.A.units + 64 < cLine) : OpR X (compareOp .NotEq) (rDat X.K opNe) := by
  intro pins s σ H x y v u Q I rx ry ⟨G, B, σ', e, a, b, d, S, r1, r2, hd, h⟩
  unfold opNe at hd
  split at hd
  · rename_i z
    cases hd
    rw [Bool.and_eq_true] at z
    refine op_neD hu pins s σ H x y v u Q I rx ry ⟨a.py, b.py, r1.dp S.sub z.1, r2.dp S.sub z.2, shaped_of (by decide) z.1, shaped_of (by decide) z.2, ?_⟩
    rw [deq_py 20 20 a b z.1 z.2]
    exact h _ B H S (Same.refl B) (.bl _)
  · unfold opEqK at hd
    split at hd
    · rename_i ks ds ls es
      split at hd
      · rename_i z
        cases hd
        rw [Bool.and_eq_true] at z
        cases r1 with
        | @dct p kvs _ _ a1 a2 a3 =>
          cases r2 with
          | @dct p' lvs _ _ b1 b2 b3 =>
            subst a2 b2
            obtain rfl : v = Value.ref p := rx
            obtain rfl : u = Value.ref p' := ry
            obtain ⟨_, ya, va, ra, da⟩ := dk_rd I.hok (rd_sub S.sub a1)
            obtain ⟨_, yb, vb, rb, db⟩ := dk_rd I.hok (rd_sub S.sub b1)
            refine PySem.W.keq_ne (knd := mixKind X.prog X.w) ya yb da db (by omega) (fun _ => hits_run (A := X.A.in1) I S.sub (by show X.A.units + 1 + 63 < cLine; omega) rb b3 z.2 ra a3 z.1) ?_
            rw [← ra.length, ← rb.length]
            rw [List.length_map, List.length_map, Bool.true_xor] at h
            exact ⟨.bl _, H, I, rfl, h _ B H S (Same.refl B) (.bl _)⟩
      · cases hd
    · cases hd
end
end VL

/-! VL5: is, in, subscripts, slices, built-in functions, isinstance. -/
namespace VL
open PySem PySem.Spec PyProof.Rows L2
section
variable {K : PySem.W.Frag} {B H : Hp}
theorem Rep.isNon {v : V} {d : D} (r : Rep K B v d) : decide (v = .non) = d.isNon := by
  cases r <;> first | rfl | (rw [decide_eq_false (by intro z; cases z)]; rfl)
theorem Rep.atom {v : V} {d : D} (r : Rep K B v d) (h : d.atom = true) : flatV v = true := by
  cases r <;> first | rfl | cases h
theorem Rep.eqV {v w : V} {a b : D} (r : Rep K B v a) (q : Rep K B w b) (ha : a.atom = true) (hb : b.atom = true) : eqV v w = D.deq a b := by
  cases r <;> first
    | exact (Bool.false_ne_true ha).elim
    | (cases q <;> first
        | exact (Bool.false_ne_true hb).elim
        | rfl
        | (simp [L2.eqV, D.deq, Bool.beq_eq_decide_eq]))
theorem Reps.atoms : ∀ {vs : List V} {ds : List D}, Reps K B vs ds → ds.all D.atom = true → vs.all flatV = true
  | _, _, .nil, _ => rfl
  | _, _, .cons r t, h => by
    rw [List.all_cons, Bool.and_eq_true] at h ⊢
    exact ⟨r.atom h.1, t.atoms h.2⟩
theorem Reps.inV {v : V} {a : D} (r : Rep K B v a) (ha : a.atom = true) : ∀ {vs : List V} {ds : List D}, Reps K B vs ds → ds.all D.atom = true → inV v vs = ds.any fun y => D.deq y a
  | _, _, .nil, _ => rfl
  | _, _, .cons q t, h => by
    rw [List.all_cons, Bool.and_eq_true] at h
    have ih := Reps.inV r ha t h.2
    unfold L2.inV at ih ⊢
    rw [List.any_cons, List.any_cons, ih, q.eqV r h.1 ha]
theorem atD_at {vs : List V} {ds : List D} {i : Int} {d : D} (r : Reps K B vs ds) (h : atD ds i = some d) : ∃ v, atI vs i = some v ∧ Rep K B v d := by
  unfold atD at h
  unfold atI
  rw [r.length]
  have e : ixN ds.length i = ixD ds.length i := rfl
  rw [e]
  cases z : ixD ds.length i with
  | none => rw [z] at h; cases h
  | some j => rw [z] at h; exact r.get h
theorem keyD_V {v : V} {d : D} {k : Ky} (r : Rep K B v d) (h : keyD d = some k) : v = kV k := by
  cases r <;> cases h <;> rfl
theorem dct_at {a : Addr} {kvs : List (Key × V)} {ds : List D} {v : V} {k : Ky} (s : Same B H) (h : Rd B a (.dK kvs)) (r : Reps K B (kvs.map (·.2)) ds) (hv : v = kV k) : ∃ o, DGet H a v o ∧ o.isSome = (dctGet (kvs.map (·.1)) ds k).isSome ∧ ∀ d, dctGet (kvs.map (·.1)) ds k = some d → ∃ w, o = some w ∧ Rep K B w d := by
  refine ⟨valV kvs k, .inl ⟨kvs, k, same_rd s h, hv, rfl⟩, ?_, fun d e => dct_get r e⟩
  cases e : dctGet (kvs.map (·.1)) ds k with
  | none => rw [dct_none r e] <;> rfl
  | some d =>
    obtain ⟨w, e2, _⟩ := dct_get r e
    rw [e2] <;> rfl
end
section
variable {X : Cx}
theorem od_is : OpR X (compareOp .Is) (rDat X.K opIs) := by
  intro pins s σ H x y v u Q I rx ry ⟨G, B, σ', e, a, b, d, S, r1, r2, hd, h⟩
  unfold opIs at hd
  split at hd
  · cases hd; cases r2
    refine op_isN pins s σ H _ _ v u Q I rx ry ⟨rfl, ?_⟩
    rw [r1.isNon]
    exact h _ B H S (Same.refl B) (.bl _)
  · cases hd; cases r1; cases r2
    refine op_isBl pins s σ H _ _ v u Q I rx ry ⟨_, _, rfl, rfl, ?_⟩
    rw [← Bool.beq_eq_decide_eq]
    exact h _ B H S (Same.refl B) (.bl _)
  · cases hd
theorem od_isnot : OpR X (compareOp .IsNot) (rDat X.K opIsNot) := by
  intro pins s σ H x y v u Q I rx ry ⟨G, B, σ', e, a, b, d, S, r1, r2, hd, h⟩
  unfold opIsNot at hd
  split at hd
  · cases hd; cases r2
    refine op_notN pins s σ H _ _ v u Q I rx ry ⟨rfl, ?_⟩
    rw [r1.isNon]
    exact h _ B H S (Same.refl B) (.bl _)
  · cases hd; cases r1; cases r2
    refine op_notBl pins s σ H _ _ v u Q I rx ry ⟨_, _, rfl, rfl, ?_⟩
    rw [← Bool.beq_eq_decide_eq]
    exact h _ B H S (Same.refl B) (.bl _)
  · cases hd
theorem od_in (hu : X.A.units + 1 < cLine) : OpR X (compareOp .In) (rDat X.K opIn) := by
  intro pins s σ H x y v u Q I rx ry ⟨G, B, σ', e, a, b, d, S, r1, r2, hd, h⟩
  unfold opIn at hd
  split at hd
  · split at hd
    · rename_i z
      cases hd
      rw [Bool.and_eq_true] at z
      cases r2 with
      | tup h1 q1 =>
        refine op_in_seq pins s σ H _ _ v u Q I rx ry ⟨_, _, rfl, .inr (same_sqT S.sub h1), r1.atom z.1, q1.atoms z.2, ?_⟩
        rw [if_neg Bool.false_ne_true, Reps.inV r1 z.1 q1 z.2]
        exact h _ B H S (Same.refl B) (.bl _)
    · cases hd
  · split at hd
    · rename_i z
      cases hd
      rw [Bool.and_eq_true] at z
      cases r2 with
      | lst h1 q1 =>
        refine op_in_seq pins s σ H _ _ v u Q I rx ry ⟨_, _, rfl, .inl (same_sqL S.sub h1), r1.atom z.1, q1.atoms z.2, ?_⟩
        rw [if_neg Bool.false_ne_true, Reps.inV r1 z.1 q1 z.2]
        exact h _ B H S (Same.refl B) (.bl _)
    · cases hd
  · cases r2 with
    | dct h1 he q1 =>
      subst he
      cases z : keyD a with
      | none => rw [z] at hd; cases hd
      | some k =>
        rw [z] at hd
        cases hd
        obtain ⟨o, g, hs, _⟩ := dct_at S.sub h1 q1 (keyD_V r1 z)
        cases ry
        refine d_in hu I g rx fun s3 I3 => ⟨.bl o.isSome, H, I3, rfl, ?_⟩
        rw [hs]
        exact h _ B H S (Same.refl B) (.bl _)
  · cases hd
theorem od_notin (hu : X.A.units + 1 < cLine) : OpR X (compareOp .NotIn) (rDat X.K opNotIn) := by
  intro pins s σ H x y v u Q I rx ry ⟨G, B, σ', e, a, b, d, S, r1, r2, hd, h⟩
  unfold opNotIn at hd
  split at hd
  · rename_i k hk
    cases hd
    unfold opIn at hk
    split at hk
    · split at hk
      · rename_i z
        cases hk
        rw [Bool.and_eq_true] at z
        cases r2 with
        | tup h1 q1 =>
          refine op_notIn_seq pins s σ H _ _ v u Q I rx ry ⟨_, _, rfl, .inr (same_sqT S.sub h1), r1.atom z.1, q1.atoms z.2, ?_⟩
          rw [if_pos rfl, Reps.inV r1 z.1 q1 z.2]
          exact h _ B H S (Same.refl B) (.bl _)
      · cases hk
    · split at hk
      · rename_i z
        cases hk
        rw [Bool.and_eq_true] at z
        cases r2 with
        | lst h1 q1 =>
          refine op_notIn_seq pins s σ H _ _ v u Q I rx ry ⟨_, _, rfl, .inl (same_sqL S.sub h1), r1.atom z.1, q1.atoms z.2, ?_⟩
          rw [if_pos rfl, Reps.inV r1 z.1 q1 z.2]
          exact h _ B H S (Same.refl B) (.bl _)
      · cases hk
    · cases r2 with
      | dct h1 he q1 =>
        subst he
        cases z : keyD a with
        | none => rw [z] at hk; cases hk
        | some k =>
          rw [z] at hk
          cases hk
          obtain ⟨o, g, hs, _⟩ := dct_at S.sub h1 q1 (keyD_V r1 z)
          cases ry
          refine d_notIn hu I g rx fun s3 I3 => ⟨.bl (!o.isSome), H, I3, rfl, ?_⟩
          rw [hs]
          exact h _ B H S (Same.refl B) (.bl _)
    · cases hk
  · cases hd
theorem od_ix (hu : X.A.units + 1 < cLine) : IxR X (rDat X.K opIx) := by
  intro value slice pins s σ H x y v u Q I rx ry ⟨G, B, σ', e, a, b, d, S, r1, r2, hd, h⟩ hs
  unfold opIx at hd
  split at hd
  · cases r1 with
    | tup h1 q1 =>
      cases r2
      obtain ⟨w, hw, rw'⟩ := atD_at q1 hd
      exact ix_tup value slice pins s σ H _ _ v u Q I rx ry ⟨_, _, _, w, rfl, rfl, same_sqT S.sub h1, hw, h w B H S (Same.refl B) rw'⟩ hs
  · cases r1 with
    | lst h1 q1 =>
      cases r2
      obtain ⟨w, hw, rw'⟩ := atD_at q1 hd
      exact ix_list value slice pins s σ H _ _ v u Q I rx ry ⟨_, _, _, w, rfl, rfl, same_sqL S.sub h1, hw, h w B H S (Same.refl B) rw'⟩ hs
  · split at hd
    · rename_i z i hz
      cases r1; cases r2
      cases e1 : ixD z.cps.toList.length i with
      | none => rw [e1] at hd; cases hd
      | some j =>
        rw [e1] at hd
        have hd : (z.cps.toList[j]?).map (fun c => D.str ⟨#[c]⟩) = some d := hd
        cases e2 : z.cps.toList[j]? with
        | none => rw [e2] at hd; cases hd
        | some c =>
          rw [e2] at hd
          cases hd
          refine ix_str value slice pins s σ H _ _ v u Q I rx ry ⟨_, _, c, rfl, rfl, vle hz, ?_, h _ B H S (Same.refl B) (.str _)⟩ hs
          unfold atI
          have e : ixN z.cps.toList.length i = ixD z.cps.toList.length i := rfl
          rw [e, e1]
          exact e2
    · cases hd
  · cases r1 with
    | dct h1 he q1 =>
      subst he
      cases z : keyD b with
      | none => rw [z] at hd; cases hd
      | some k =>
        rw [z] at hd
        obtain ⟨o, g, _, hv⟩ := dct_at S.sub h1 q1 (keyD_V r2 z)
        obtain ⟨w, ew, rw'⟩ := hv d hd
        subst ew
        cases rx
        refine tail_any (dict_typeIs I g) PySem.F.slot_dict_getitem.lookup (d_getItem hu I g ry fun w' s3 I3 rr => ⟨w, H, I3, rr, h w B H S (Same.refl B) rw'⟩) hs
  · cases hd

/-! built-in functions -/
def rDatC (K : PySem.W.Frag) (f : List D → Option D) : List V → Hp → VK → Prop := fun vs H Q => ∃ (G : Gr) (B : Hp) (σ : L2.St) (e : Env) (ds : List D) (d : D), Sto K G B H σ e ∧ Reps K B vs ds ∧ f ds = some d ∧
  ∀ v B' H', Sto K G B' H' σ e → Same B B' → Rep K B' v d → Q v H'
def rDatF (K : PySem.W.Frag) (f : List D → Option (List D)) : List V → Hp → VK → Prop := fun vs H Q => ∃ (G : Gr) (B : Hp) (σ : L2.St) (e : Env) (ds rs : List D), Sto K G B H σ e ∧ Reps K B vs ds ∧ f ds = some rs ∧
  ∀ v B' H', Sto K G B' H' σ e → Same B B' → rpF K G B' H' σ e v rs → Q v H'
theorem rd_bf {K : PySem.W.Frag} {mg : Str → Option Value} {W : Am K} {f : List D → Option D} {t : TA} {m : MA} (ha : RdA K mg W t m) : RdE K mg W (tCB (rDatC K f) t) (vBf f m) where
  run := fun G hG B H σ e Q S q => by
    refine ha.run G hG B H σ e _ S (Po.bind q fun ds e1 vs B1 H1 S1 s1 r1 h1 => ?_)
    obtain ⟨d, hd, h2⟩ := h1.of
    exact ⟨G, B1, σ, e1, ds, d, S1, r1, hd, h2⟩
theorem rd_bl' {K : PySem.W.Frag} {mg : Str → Option Value} {W : Am K} {f : List D → Option (List D)} {t : TA} {m : MA} (ha : RdA K mg W t m) : RdF K mg W (tCB (rDatF K f) t) (vBl f m) where
  run := fun G hG B H σ e Q S q => by
    refine ha.run G hG B H σ e _ S (Po.bind q fun ds e1 vs B1 H1 S1 s1 r1 h1 => ?_)
    obtain ⟨d, hd, h2⟩ := h1.of
    exact ⟨G, B1, σ, e1, ds, d, S1, r1, hd, h2⟩
theorem cd_len (hc : X.calm = true ∨ True) : CallR X (.builtin "len") (rDatC X.K bfLen) := by
  intro pins s σ H xs us Q I r ⟨G, B, σ', e, ds, d, S, rs, hd, h⟩
  unfold bfLen at hd
  split at hd
  · cases hd
    cases rs with
    | cons r0 rr =>
      cases rr
      cases r0 with
      | tup h1 q1 =>
        refine call_len pins s σ H _ us Q I r ⟨_, _, rfl, .inr ⟨_, same_sqT S.sub h1, rfl⟩, ?_⟩
        rw [q1.length]
        exact h _ B H S (Same.refl B) (.int _)
  · cases hd
    cases rs with
    | cons r0 rr =>
      cases rr
      cases r0 with
      | lst h1 q1 =>
        refine call_len pins s σ H _ us Q I r ⟨_, _, rfl, .inl ⟨_, same_sqL S.sub h1, rfl⟩, ?_⟩
        rw [q1.length]
        exact h _ B H S (Same.refl B) (.int _)
  · split at hd
    · rename_i z
      cases hd
      cases rs with
      | cons r0 rr =>
        cases rr
        cases r0
        exact call_len pins s σ H _ us Q I r ⟨_, _, rfl, ⟨vle z, rfl⟩, h _ B H S (Same.refl B) (.int _)⟩
    · cases hd
  · cases hd
    cases rs with
    | cons r0 rr =>
      cases rr
      cases r0 with
      | dct h1 he q1 =>
        subst he
        obtain ⟨u, rfl, ru⟩ := vals1 r
        cases ru
        refine d_len I (same_rd S.sub h1) fun t s' I' => ⟨.int _, H, I', ⟨t, rfl⟩, ?_⟩
        have q := h _ B H S (Same.refl B) (.int _)
        rw [List.length_map] at q
        exact q
  · cases hd
theorem cd_abs : CallR X (.builtin "abs") (rDatC X.K bfAbs) := by
  intro pins s σ H xs us Q I r ⟨G, B, σ', e, ds, d, S, rs, hd, h⟩
  unfold bfAbs at hd
  split at hd
  · cases hd
    cases rs with
    | cons r0 rr =>
      cases rr
      cases r0
      exact call_abs pins s σ H _ us Q I r ⟨_, rfl, h _ B H S (Same.refl B) (.int _)⟩
  · cases hd
theorem cd_min (hc : X.calm = true) : CallR X (.builtin "min") (rDatC X.K bfMin) := by
  intro pins s σ H xs us Q I r ⟨G, B, σ', e, ds, d, S, rs, hd, h⟩
  unfold bfMin at hd
  split at hd
  · cases hd
    cases rs with
    | cons r0 rr =>
      cases rr with
      | cons r1 rr =>
        cases rr
        cases r0
        cases r1
        exact call_min2 hc pins s σ H _ us Q I r ⟨_, _, rfl, h _ B H S (Same.refl B) (.int _)⟩
  · cases hd
theorem cd_max (hc : X.calm = true) : CallR X (.builtin "max") (rDatC X.K bfMax) := by
  intro pins s σ H xs us Q I r ⟨G, B, σ', e, ds, d, S, rs, hd, h⟩
  unfold bfMax at hd
  split at hd
  · cases hd
    cases rs with
    | cons r0 rr =>
      cases rr with
      | cons r1 rr =>
        cases rr
        cases r0
        cases r1
        exact call_max2 hc pins s σ H _ us Q I r ⟨_, _, rfl, h _ B H S (Same.refl B) (.int _)⟩
  · cases hd
theorem ints_rep {K : PySem.W.Frag} {B : Hp} : ∀ {ds : List D} {ns : List Int} {vs : List V}, intsD ds = some ns → Reps K B vs ds → vs = ns.map V.int
  | [], ns, vs, h, r => by cases h; cases r; rfl
  | d :: ds, ns, vs, h, r => by
    cases r with
    | cons r0 rr =>
      cases d with
      | int i =>
        unfold intsD at h
        obtain ⟨ms, h1, rfl⟩ := Option.map_eq_some_iff.mp h
        cases r0
        rw [ints_rep h1 rr] <;> rfl
      | _ => cases h
theorem bools_rep {K : PySem.W.Frag} {B : Hp} : ∀ {ds : List D} {ns : List Bool} {vs : List V}, boolsD ds = some ns → Reps K B vs ds → vs = ns.map V.bl
  | [], ns, vs, h, r => by cases h; cases r; rfl
  | d :: ds, ns, vs, h, r => by
    cases r with
    | cons r0 rr =>
      cases d with
      | bl i =>
        unfold boolsD at h
        obtain ⟨ms, h1, rfl⟩ := Option.map_eq_some_iff.mp h
        cases r0
        rw [bools_rep h1 rr] <;> rfl
      | _ => cases h
theorem cd_sum (hc : X.calm = true) : CallR X (.builtin "sum") (rDatC X.K bfSum) := by
  intro pins s σ H xs us Q I r ⟨G, B, σ', e, ds, d, S, rs, hd, h⟩
  unfold bfSum at hd
  split at hd
  · obtain ⟨ns, h1, rfl⟩ := Option.map_eq_some_iff.mp hd
    cases rs with
    | cons r0 rr =>
      cases rr
      cases r0 with
      | lst h2 q2 =>
        obtain rfl := ints_rep h1 q2
        exact cr_sum hc pins s σ H _ us Q I r ⟨_, ns, rfl, same_sqL S.sub h2, h _ B H S (Same.refl B) (.int _)⟩
  · cases hd
theorem cd_all (hc : X.calm = true) : CallR X (.builtin "all") (rDatC X.K bfAll) := by
  intro pins s σ H xs us Q I r ⟨G, B, σ', e, ds, d, S, rs, hd, h⟩
  unfold bfAll at hd
  split at hd
  · obtain ⟨ns, h1, rfl⟩ := Option.map_eq_some_iff.mp hd
    cases rs with
    | cons r0 rr =>
      cases rr
      cases r0 with
      | lst h2 q2 =>
        obtain rfl := bools_rep h1 q2
        exact cr_all hc pins s σ H _ us Q I r ⟨_, ns, rfl, same_sqL S.sub h2, h _ B H S (Same.refl B) (.bl _)⟩
  · cases hd
theorem cd_any (hc : X.calm = true) : CallR X (.builtin "any") (rDatC X.K bfAny) := by
  intro pins s σ H xs us Q I r ⟨G, B, σ', e, ds, d, S, rs, hd, h⟩
  unfold bfAny at hd
  split at hd
  · obtain ⟨ns, h1, rfl⟩ := Option.map_eq_some_iff.mp hd
    cases rs with
    | cons r0 rr =>
      cases rr
      cases r0 with
      | lst h2 q2 =>
        obtain rfl := bools_rep h1 q2
        exact cr_any hc pins s σ H _ us Q I r ⟨_, ns, rfl, same_sqL S.sub h2, h _ B H S (Same.refl B) (.bl _)⟩
  · cases hd
/-- what a new list is, from its place -/
theorem new_F {K : PySem.W.Frag} {G : Gr} {B H : Hp} {σ : L2.St} {e : Env} {Q : VK} {rs : List D} {vs : List V} (S : Sto K G B H σ e) (r : Reps K B vs rs) (h : ∀ v B' H', Sto K G B' H' σ e → Same B B' → rpF K G B' H' σ e v rs → Q v H') :
    ∀ p, H p = none → Q (.ref p) (upd H p (.lst vs)) := fun p hp => h _ B _ (S.loose hp) (Same.refl B) ⟨p, vs, rfl, upd_same, same_none S.sub hp, S.fresh hp, not_owned_new S hp, r⟩
theorem cd_list : CallR X (.type "list") (rDatF X.K bfList) := by
  intro pins s σ H xs us Q I r ⟨G, B, σ', e, ds, d, S, rs, hd, h⟩
  unfold bfList at hd
  split at hd
  · cases hd
    cases rs with
    | cons r0 rr =>
      cases rr
      cases r0 with
      | lst h2 q2 => exact call_list_of pins s σ H _ us Q I r ⟨_, _, rfl, .inl (same_sqL S.sub h2), new_F S q2 h⟩
  · cases hd
    cases rs with
    | cons r0 rr =>
      cases rr
      cases r0 with
      | tup h2 q2 => exact call_list_of pins s σ H _ us Q I r ⟨_, _, rfl, .inr (same_sqT S.sub h2), new_F S q2 h⟩
  · cases hd

/-! isinstance -/
def kitAll (t : String) : Bool := kitB "NoneType" t == some (t == "NoneType") && kitB "bool" t == some (t == "bool" || t == "int") && kitB "int" t == some (t == "int") && kitB "str" t == some (t == "str") &&
  kitB "tuple" t == some (t == "tuple") && kitB "list" t == some (t == "list") && kitB "dict" t == some (t == "dict")
theorem kit_int : kitAll "int" = true := by decide +kernel
theorem kit_bool : kitAll "bool" = true := by decide +kernel
theorem kit_str : kitAll "str" = true := by decide +kernel
theorem kit_tuple : kitAll "tuple" = true := by decide +kernel
theorem kit_list : kitAll "list" = true := by decide +kernel
theorem kit_dict : kitAll "dict" = true := by decide +kernel
theorem Rep.kit {K : PySem.W.Frag} {B H : Hp} {v : V} {d : D} {t : String} (s : Same B H) (r : Rep K B v d) (h : kitAll t = true) : ∃ u, TyX K H v u ∧ PySem.W.kitOne K u (.type t) = some (d.isT t) := by
  unfold kitAll at h
  simp only [Bool.and_eq_true, beq_iff_eq] at h
  obtain ⟨⟨⟨⟨⟨⟨h1, h2⟩, h3⟩, h4⟩, h5⟩, h6⟩, h7⟩ := h
  cases r with
  | non => exact ⟨_, .base .non, kit_ty h1⟩
  | bl b => exact ⟨_, .base (.bl b), kit_ty h2⟩
  | int i => exact ⟨_, .base (.int i), kit_ty h3⟩
  | str x => exact ⟨_, .base (.str x), kit_ty h4⟩
  | tup h r =>
    rcases same_sqT s h with (q | ⟨o, q⟩) | ⟨o, its, n, hk, hc, _⟩
    · exact ⟨_, .base (.tup q), kit_ty h5⟩
    · exact ⟨_, .fTuple q, kit_ty h5⟩
    · exact ⟨_, .kTuple hk hc, kit_ty h5⟩
  | lst h r =>
    rcases same_sqL s h with (q | ⟨o, q⟩) | ⟨o, its, n, hk, hc, _⟩
    · exact ⟨_, .base (.lst q), kit_ty h6⟩
    · exact ⟨_, .base (.frz q), kit_ty h6⟩
    · exact ⟨_, .kList hk hc, kit_ty h6⟩
  | dct h _ r =>
    rcases same_rd s h with q | ⟨o, q⟩
    · exact ⟨_, .base (.dK q), kit_ty h7⟩
    · exact ⟨_, .fDict q, kit_ty h7⟩
theorem rd_isi {K : PySem.W.Frag} {mg : Str → Option Value} {W : Am K} {t : String} {ta : TE} {ma : ME} (hk : kitAll t = true) (ha : RdE K mg W ta ma) : RdE K mg W (tCB (rIsi K) (tCons ta (tCons (tC (.ty t)) tNil))) (vIsi t ma) where
  run := fun G hG B H σ e Q S q => by
    refine ha.run G hG B H σ e _ S (Po.bind q fun d e1 v B1 H1 S1 s1 r1 h1 => ?_)
    obtain ⟨u, ty, ek⟩ := r1.kit S1.sub hk
    exact ⟨v, .ty t, u, _, _, rfl, .ty t, ty, ek, Po.here h1 S1 (.bl _)⟩

/-! slices -/
theorem cut_V {vs : List V} {n : Nat} (lo hi : Option Int) (h : vs.length = n) : cutV vs lo hi = (vs.drop (sIxD n 0 lo)).take (sIxD n n hi - sIxD n 0 lo) := by
  subst h
  rfl
theorem rd_part {K : PySem.W.Frag} {mg : Str → Option Value} {W : Am K} {t : TE} {m : ME} (h : RdE K mg W t m) : RdX K mg W (fun _ _ _ _ _ b a => b = a) (tPart t) (vPart m) where
  run := fun G hG B H σ e Q S q => by
    refine h.run G hG B H σ e _ S (Po.bind q fun d e1 v B1 H1 S1 s1 r1 h1 => ?_)
    obtain ⟨a, ha, h2⟩ := h1.of
    cases d with
    | int i => cases ha; cases r1; exact ⟨_, rfl, Po.here h2 S1 rfl⟩
    | _ => cases ha
theorem rd_nopart {K : PySem.W.Frag} {mg : Str → Option Value} {W : Am K} : RdX K mg W (fun _ _ _ _ _ b a => b = a) tNoPart vNoPart where
  run := fun G hG B H σ e Q S q => Po.here q S rfl
/-- a slice told on data -/
def rDatS (K : PySem.W.Frag) : V → Option Int → Option Int → Hp → VK → Prop := fun x lo hi H Q => ∃ (G : Gr) (B : Hp) (σ : L2.St) (e : Env) (a d : D), Sto K G B H σ e ∧ Rep K B x a ∧ slT lo hi a = some d ∧
  ∀ v B' H', Sto K G B' H' σ e → Same B B' → Rep K B' v d → Q v H'
theorem sl_dat : SlR X (rDatS X.K) := by
  intro pins s σ H x v vl vu lo hi sl Q I rx hs pl pu ⟨G, B, σ', e, a, d, S, r1, hd, h⟩
  cases a with
  | tup ds =>
    by_cases hw : sIxD ds.length 0 lo = 0 ∧ sIxD ds.length ds.length hi = ds.length
    · have hd : (if sIxD ds.length 0 lo = 0 ∧ sIxD ds.length ds.length hi = ds.length then none else some (D.tup (cutD ds lo hi))) = some d := hd
      rw [if_pos hw] at hd
      cases hd
    · have hd : (if sIxD ds.length 0 lo = 0 ∧ sIxD ds.length ds.length hi = ds.length then none else some (D.tup (cutD ds lo hi))) = some d := hd
      rw [if_neg hw] at hd
      cases hd
      cases r1 with
      | tup q1 q2 =>
        have hl := q2.length
        refine sl_tup pins s σ H _ v vl vu lo hi sl Q I rx hs pl pu ⟨_, _, rfl, same_sqT S.sub q1, ?_, fun p hp => h _ _ _ (S.alloc hp) (same_upd' (same_none S.sub hp)) (.tup (SqT.of upd_same) (Reps.mono (same_upd' (same_none S.sub hp)) ?_))⟩
        · rw [hl]; exact hw
        · rw [cut_V _ _ hl]
          exact (q2.drop _).take _
  | lst ds =>
    cases hd
    cases r1 with
    | lst q1 q2 =>
      have hl := q2.length
      refine sl_list pins s σ H _ v vl vu lo hi sl Q I rx hs pl pu ⟨_, _, rfl, same_sqL S.sub q1, fun p hp => h _ _ _ (S.alloc hp) (same_upd' (same_none S.sub hp)) (.lst (SqL.of upd_same) (Reps.mono (same_upd' (same_none S.sub hp)) ?_))⟩
      rw [cut_V _ _ hl]
      exact (q2.drop _).take _
  | str z =>
    by_cases hz : z.length ≤ vmax
    · have hd : (if z.length ≤ vmax then some (D.str (cutSD z lo hi)) else none) = some d := hd
      rw [if_pos hz] at hd
      cases hd
      cases r1
      exact sl_str pins s σ H _ v vl vu lo hi sl Q I rx hs pl pu ⟨z, rfl, vle hz, h _ B H S (Same.refl B) (.str _)⟩
    · have hd : (if z.length ≤ vmax then some (D.str (cutSD z lo hi)) else none) = some d := hd
      rw [if_neg hz] at hd
      cases hd
  | _ => cases hd
theorem rd_slT {K : PySem.W.Frag} {mg : Str → Option Value} {W : Am K} {t : TE} {m : ME} {tl th : TO} {ml mh : MO} (h : RdE K mg W t m) (hl : RdX K mg W (fun _ _ _ _ _ b a => b = a) tl ml) (hh : RdX K mg W (fun _ _ _ _ _ b a => b = a) th mh) :
    RdE K mg W (tSl (rDatS K) t tl th) (vSl m ml mh) where
  run := fun G hG B H σ e Q S q => by
    refine h.run G hG B H σ e _ S (Po.bind q fun d e1 v B1 H1 S1 s1 r1 h1 => ?_)
    refine hl.run G hG B1 H1 σ e1 _ S1 (Po.bind h1 fun lo e2 lo' B2 H2 S2 s2 r2 h2 => ?_)
    refine hh.run G hG B2 H2 σ e2 _ S2 (Po.bind h2 fun hi e3 hi' B3 H3 S3 s3 r3 h3 => ?_)
    have r2 : lo' = lo := r2
    have r3 : hi' = hi := r3
    subst r2 r3
    obtain ⟨x, hx, h4⟩ := h3.of
    exact ⟨G, B3, σ, e3, d, x, S3, Rep.mono (s2.trans s3) r1, hx, h4⟩
theorem rd_slF {K : PySem.W.Frag} {mg : Str → Option Value} {W : Am K} {t : TE} {m : ME} {tl th : TO} {ml mh : MO} (h : RdE K mg W t m) (hl : RdX K mg W (fun _ _ _ _ _ b a => b = a) tl ml) (hh : RdX K mg W (fun _ _ _ _ _ b a => b = a) th mh) :
    RdF K mg W (tSl (rSlL K) t tl th) (vSlF m ml mh) where
  run := fun G hG B H σ e Q S q => by
    refine h.run G hG B H σ e _ S (Po.bind q fun d e1 v B1 H1 S1 s1 r1 h1 => ?_)
    refine hl.run G hG B1 H1 σ e1 _ S1 (Po.bind h1 fun lo e2 lo' B2 H2 S2 s2 r2 h2 => ?_)
    refine hh.run G hG B2 H2 σ e2 _ S2 (Po.bind h2 fun hi e3 hi' B3 H3 S3 s3 r3 h3 => ?_)
    have r2 : lo' = lo := r2
    have r3 : hi' = hi := r3
    subst r2 r3
    obtain ⟨x, hx, h4⟩ := h3.of
    cases d with
    | lst ds =>
      cases hx
      cases Rep.mono (s2.trans s3) r1 with
      | lst q1 q2 =>
        have hl := q2.length
        refine ⟨_, _, rfl, same_sqL S3.sub q1, fresh_list S3 ?_ h4⟩
        rw [cut_V _ _ hl]
        exact (q2.drop _).take _
    | _ => cases hx
theorem rd_revF {K : PySem.W.Frag} {mg : Str → Option Value} {W : Am K} {t : TE} {m : ME} (h : RdE K mg W t m) : RdF K mg W (tRevL K t) (vRevF m) where
  run := fun G hG B H σ e Q S q => by
    refine h.run G hG B H σ e _ S (Po.bind q fun d e1 v B1 H1 S1 s1 r1 h1 => ?_)
    obtain ⟨x, hx, h4⟩ := h1.of
    cases d with
    | lst ds =>
      cases hx
      cases r1 with
      | lst q1 q2 => exact ⟨_, _, rfl, same_sqL S1.sub q1, fresh_list S1 q2.reverse h4⟩
    | _ => cases hx
end
end VL

/-! VL6: statements, loops, comprehensions. -/
namespace VL
open PySem PySem.Spec PyProof.Rows L2
section
variable (K : PySem.W.Frag) (mg : Str → Option Value) (W : Am K)
/-- what a return hands back: a value, or (k) a new list -/
def RetOk (k : Bool) (G : Gr) (B H : Hp) (σ : L2.St) (e : Env) (v : V) (d : D) : Prop := if k = true then ∃ rs, d = .lst rs ∧ rpF K G B H σ e v rs else Rep K B v d
def PoS (k : Bool) (G : Gr) (B : Hp) (D : Ends) (r : RS) : Prop := match r with
  | .nx e' => ∀ σ' B' H', Sto K G B' H' σ' e' → Same B B' → D.nx σ' H'
  | .rt d e' => ∀ v σ' B' H', Sto K G B' H' σ' e' → Same B B' → RetOk K k G B' H' σ' e' v d → D.rt v H'
  | .bk e' => ∀ σ' B' H', Sto K G B' H' σ' e' → Same B B' → D.bk σ' H'
  | .ct e' => ∀ σ' B' H', Sto K G B' H' σ' e' → Same B B' → D.ct σ' H'
  | .err x e' => ∀ cls dd σ' B' H', Sto K G B' H' σ' e' → Same B B' → XRep K mg B' cls dd x → W.w cls dd σ' H'
  | .bot => False
def RdS (k : Bool) (t : TS) (m : MS) : Prop := ∀ (G : Gr), W.g G → ∀ (B H : Hp) (σ : L2.St) (e : Env) (D : Ends), Sto K G B H σ e → PoS K mg W k G B D (m e) → t D σ H
/-- nothing but the slots own is touched -/
def Tch (own : List Nat) (σ σ' : L2.St) : Prop := σ'.length = σ.length ∧ ∀ i, i ∉ own → σ'[i]? = σ[i]?
/-- a target -/
def RdG (own : List Nat) (g : TG) (m : D → Env → Option Env) : Prop := ∀ (G : Gr) (B H : Hp) (σ : L2.St) (e e' : Env) (v : V) (d : D) (Q : L2.St → Hp → Prop), Sto K G B H σ e → Rep K B v d → m d e = some e' → (∀ σ', Sto K G B H σ' e' → Tch own σ σ' → Q σ' H) → g v σ H Q
def RdGs (own : List Nat) (g : TGs) (m : List D → Env → Option Env) : Prop := ∀ (G : Gr) (B H : Hp) (σ : L2.St) (e e' : Env) (v : List V) (d : List D) (Q : L2.St → Hp → Prop), Sto K G B H σ e → Reps K B v d → m d e = some e' → (∀ σ', Sto K G B H σ' e' → Tch own σ σ' → Q σ' H) → g v σ H Q
end
section
variable {K : PySem.W.Frag} {mg : Str → Option Value} {W : Am K} {k : Bool} {G : Gr} {B H : Hp} {σ : L2.St} {e : Env}
theorem PoS.base {B' : Hp} {D : Ends} {r : RS} (s : Same B B') (h : PoS K mg W k G B D r) : PoS K mg W k G B' D r := by
  cases r with
  | nx e' => exact fun σ2 B2 H2 S q => h σ2 B2 H2 S (s.trans q)
  | rt d e' => exact fun v σ2 B2 H2 S q => h v σ2 B2 H2 S (s.trans q)
  | bk e' => exact fun σ2 B2 H2 S q => h σ2 B2 H2 S (s.trans q)
  | ct e' => exact fun σ2 B2 H2 S q => h σ2 B2 H2 S (s.trans q)
  | err x e' => exact fun c d σ2 B2 H2 S q => h c d σ2 B2 H2 S (s.trans q)
  | bot => exact h
theorem PoS.thenS {α β : Type} {R : RP α β} {D : Ends} {Q : β → Hp → Prop} {r : Res α} {f : α → Env → RS} (h : PoS K mg W k G B D (r.thenS f))
    (q : ∀ a e1 b B1 H1, Sto K G B1 H1 σ e1 → Same B B1 → R G B1 H1 σ e1 b a → PoS K mg W k G B1 D (f a e1) → Q b H1) : Po K mg W R G σ B Q r := by
  cases r with
  | ok a e1 => exact fun b B1 H1 S s p => q a e1 b B1 H1 S s p (PoS.base s h)
  | err x e' => exact fun c d B' H' S s p => h c d σ B' H' S s p
  | bot => exact h
theorem PoS.nx {D : Ends} (h : PoS K mg W k G B D (.nx e)) (S : Sto K G B H σ e) : D.nx σ H := h σ B H S (Same.refl B)

theorem rs_next : RdS K mg W k tNext vNext := fun G hG B H σ e D S h => h.nx S
theorem rs_seq {t u : TS} {a b : MS} (ha : RdS K mg W k t a) (hb : RdS K mg W k u b) : RdS K mg W k (tSeq t u) (vSeq a b) := fun G hG B H σ e D S h => by
  refine ha G hG B H σ e _ S ?_
  unfold vSeq at h
  cases z : a e with
  | nx e1 => rw [z] at h; exact fun σ' B' H' S' s => hb G hG B' H' σ' e1 D S' (PoS.base s h)
  | rt d e1 => rw [z] at h; exact h
  | bk e1 => rw [z] at h; exact h
  | ct e1 => rw [z] at h; exact h
  | err x e1 => rw [z] at h; exact h
  | bot => rw [z] at h; exact h
theorem rs_break : RdS K mg W k tBreak vBreak := fun G hG B H σ e D S h => h σ B H S (Same.refl B)
theorem rs_cont : RdS K mg W k tCont vCont := fun G hG B H σ e D S h => h σ B H S (Same.refl B)
theorem rs_drop {t : TE} {m : ME} (ha : RdE K mg W t m) : RdS K mg W k (tDrop t) (vDrop m) := fun G hG B H σ e D S h =>
  ha.run G hG B H σ e _ S (PoS.thenS h fun _ _ _ _ _ S1 _ _ h1 => h1.nx S1)
theorem rs_ret {t : TE} {m : ME} (ha : RdE K mg W t m) : RdS K mg W false (tRet t) (vRet m) := fun G hG B H σ e D S h =>
  ha.run G hG B H σ e _ S (PoS.thenS h fun d e1 v B1 H1 S1 _ r1 h1 => h1 v σ B1 H1 S1 (Same.refl B1) (by unfold RetOk; rw [if_neg Bool.false_ne_true]; exact r1))
theorem rs_retF {t : TE} {m : MA} (ha : RdF K mg W t m) : RdS K mg W true (tRet t) (vRetF m) := fun G hG B H σ e D S h =>
  ha.run G hG B H σ e _ S (PoS.thenS h fun d e1 v B1 H1 S1 _ r1 h1 => h1 v σ B1 H1 S1 (Same.refl B1) (by unfold RetOk; rw [if_pos rfl]; exact ⟨d, rfl, r1⟩))
theorem rs_retN : RdS K mg W false tRetN vRetN := fun G hG B H σ e D S h => h .non σ B H S (Same.refl B) (by unfold RetOk; rw [if_neg Bool.false_ne_true]; exact .non)
theorem rs_if {c : TT} {t u : TS} {mc : MB} {a b : MS} (hc : RdB K mg W c mc) (ha : RdS K mg W k t a) (hb : RdS K mg W k u b) : RdS K mg W k (tIfS c t u) (vIf mc a b) := fun G hG B H σ e D S h =>
  hc.run G hG B H σ e _ S (PoS.thenS h fun d e1 v B1 H1 S1 _ r1 h1 => by
    have r1 : v = d := r1
    subst r1
    cases v with
    | true => rw [if_pos rfl] at h1 ⊢; exact ha G hG B1 H1 σ e1 D S1 h1
    | false => rw [if_neg Bool.false_ne_true] at h1 ⊢; exact hb G hG B1 H1 σ e1 D S1 h1)
theorem rs_never : RdS K mg W k tNever (fun _ => .bot) := fun G hG B H σ e D S h => h
/-- the owned name handed back -/
theorem rd_own (i : Nat) : RdF K mg W (tVar i) (vOwn i) where
  run := fun G hG B H σ e Q S h => by
    unfold vOwn at h
    cases z : e[i]? with
    | none => rw [z] at h; exact h.elim
    | some s =>
      rw [z] at h
      obtain ⟨v, hv, ok⟩ := S.sl i s z
      cases ok with
      | no => exact h.elim
      | tk => exact h.elim
      | sh r => exact h.elim
      | @ow b p vs ds hb hg hh hr =>
        cases hr with
        | dct e1 r1 => exact h.elim
        | lst hr =>
          refine ⟨_, hv, h (.ref p) B H (S.lose i) (Same.refl B) ⟨p, _, rfl, hh, hb, hg, fun ⟨j, b, es, h1, h2⟩ => ?_, hr⟩⟩
          by_cases q : i = j
          · subst q
            have hl := (List.getElem?_eq_some_iff.mp h1).1
            rw [List.length_set] at hl
            rw [List.getElem?_set_self hl] at h1
            cases h1
          · rw [List.getElem?_set_ne q] at h1
            exact q (S.dis i j p _ _ ds es z h1 hv h2)

/-! stores -/
theorem Tch.refl (own : List Nat) (σ : L2.St) : Tch own σ σ := ⟨rfl, fun _ _ => rfl⟩
theorem Tch.trans {o1 o2 : List Nat} {σ1 σ2 σ3 : L2.St} (a : Tch o1 σ1 σ2) (b : Tch o2 σ2 σ3) : Tch (o1 ++ o2) σ1 σ3 := ⟨b.1.trans a.1, fun i h => by
  rw [List.mem_append, not_or] at h
  exact (b.2 i h.2).trans (a.2 i h.1)⟩
theorem rg_name (i : Nat) : RdG K [i] (gName i) (gNam i) := fun G B H σ e e' v d Q S r he q => by
  unfold gNam at he
  split at he
  · cases he
    exact q _ (S.put i (.sh r) fun _ _ _ z => nomatch z) ⟨List.length_set, fun j h => by
      rw [List.getElem?_set_ne]
      exact fun z => h (by rw [z]; exact List.mem_singleton.mpr rfl)⟩
  · cases he
theorem rg_nil : RdGs K [] gNil gNil' := fun G B H σ e e' v d Q S r he q => by
  cases r with
  | nil => cases he; exact ⟨rfl, q σ S (Tch.refl _ _)⟩
  | cons _ _ => cases he
theorem rg_cons {o1 o2 : List Nat} {t : TG} {u : TGs} {g : D → Env → Option Env} {r : List D → Env → Option Env} (ht : RdG K o1 t g) (hu : RdGs K o2 u r) : RdGs K (o1 ++ o2) (gCons t u) (gCon g r) := fun G B H σ e e' v d Q S rr he q => by
  cases rr with
  | nil => cases he
  | @cons v vs d ds r0 rs =>
    unfold gCon at he
    cases z : g d e with
    | none => simp only [z] at he; cases he
    | some e1 =>
      simp only [z] at he
      exact ⟨v, vs, rfl, ht G B H σ e e1 v d _ S r0 z fun σ' S' t1 => hu G B H σ' e1 e' vs ds Q S' rs he fun σ2 S2 t2 => q σ2 S2 (t1.trans t2)⟩
theorem gCon_len {g : D → Env → Option Env} {r : List D → Env → Option Env} {n : Nat} (hr : ∀ ds e e', r ds e = some e' → ds.length = n) : ∀ ds e e', gCon g r ds e = some e' → ds.length = n + 1 := fun ds e e' h => by
  cases ds with
  | nil => cases h
  | cons d ds =>
    unfold gCon at h
    cases z : g d e with
    | none => simp only [z] at h; cases h
    | some e1 => simp only [z] at h; rw [List.length_cons, hr _ _ _ h]
theorem gNil_len : ∀ ds e e', gNil' ds e = some e' → ds.length = 0 := fun ds e e' h => by
  cases ds with
  | nil => rfl
  | cons _ _ => cases h
/-- (a, b, ..) = a tuple or a list of that length -/
def gSeq (K : PySem.W.Frag) (n : Nat) (t : TGs) : TG := fun v σ H Q => ∃ a xs, v = .ref a ∧ (SqT K H a xs ∨ SqL K H a xs) ∧ xs.length = n ∧ t xs σ H Q
theorem pg_seq {X : Cx} {pos : Pos} {es : List Expr} {k : Nat} {t : TGs} {n : Nat} (hc : X.calm = true) (h : PGs X es t)
    (hn : (assignEach es X.env).length = n := by rfl) (hst : (assignEach es X.env).findIdx? (·.1) = none := by rfl) : PG X (.Tuple es k pos) (gSeq X.K n t) := by
  refine ⟨fun pins s σ H v u Q I r hw => ?_⟩
  obtain ⟨a, xs, e1, hq, hl, hw⟩ := hw
  rcases hq with hq | hq
  · exact (pg_tup hc h hn hst).run pins s σ H _ _ Q I r ⟨a, xs, e1, hq, hl, hw⟩
  · subst e1
    cases r
    obtain ⟨its, rv, ⟨o, n', e, hcl, hd, hda⟩, hz⟩ := I.list hq
    have hL : s.heap.IsList a its.toArray := ⟨o, e, hcl, n', hda⟩
    have hn2 : (assignEach es X.env).length = its.toArray.size := by simp [hn, ← hl, rv.length]
    rw [assign_Tuple]
    refine wpAny_bind (wpAny_standAt ?_)
    unfold unpack
    rw [hn2, hst]
    refine wpAny_bind (wpAny_holding (PySem.W.kun_itemsOf (I.ok.hd hc) hL fun h' hx => ?_))
    have I1 : Inv X pins σ H { s with heap := h' } := I.kept (t' := s.toks) fun b o e => hx b o (Nat.ne_of_lt (Heap.lt_size e)) e
    exact h.run pins _ σ H xs _ Q I1 (by simpa using rv) hw
theorem rg_tup {n : Nat} {o : List Nat} {u : TGs} {r : List D → Env → Option Env} (hu : RdGs K o u r) (hn : ∀ ds e e', r ds e = some e' → ds.length = n) : RdG K o (gSeq K n u) (gTup' r) := fun G B H σ e e' v d Q S rr he q => by
  cases d with
  | tup ds =>
    cases rr with
    | tup h1 h2 =>
      refine ⟨_, _, rfl, .inl (same_sqT S.sub h1), ?_, hu G B H σ e e' _ ds Q S h2 he q⟩
      rw [h2.length]
      exact hn _ _ _ he
  | lst ds =>
    cases rr with
    | lst h1 h2 =>
      refine ⟨_, _, rfl, .inr (same_sqL S.sub h1), ?_, hu G B H σ e e' _ ds Q S h2 he q⟩
      rw [h2.length]
      exact hn _ _ _ he
  | _ => cases he
theorem rs_asg {t : TE} {m : ME} {g : TG} {o : List Nat} {mg' : D → Env → Option Env} (ha : RdE K mg W t m) (hg : RdG K o g mg') : RdS K mg W k (tAsg t g) (vAsg m mg') := fun G hG B H σ e D S h =>
  ha.run G hG B H σ e _ S (PoS.thenS h fun d e1 v B1 H1 S1 _ r1 h1 => by
    cases z : mg' d e1 with
    | none => rw [z] at h1; exact h1.elim
    | some e2 => rw [z] at h1; exact hg G B1 H1 σ e1 e2 v d _ S1 r1 z fun σ' S' _ => h1.nx S')
theorem rs_asgF {t : TE} {m : MA} {i : Nat} (ha : RdF K mg W t m) : RdS K mg W k (tAsg t (gName i)) (vAsgF i m) := fun G hG B H σ e D S h =>
  ha.run G hG B H σ e _ S (PoS.thenS h fun ds e1 v B1 H1 S1 _ r1 h1 => by
    by_cases hl : i < e1.length
    · rw [if_pos hl] at h1
      obtain ⟨p, vs, rfl, hp, hb, hg, no, r⟩ := r1
      exact h1.nx (S1.put i (.ow hb hg hp (.lst r)) fun b ds' p' e1' e2' j b' ds'' hj hjs => by
        cases e2'
        exact fun q => no ⟨j, b', ds'', hjs, q⟩)
    · rw [if_neg hl] at h1; exact h1.elim)
theorem rs_par {i j : Nat} {ta tb : TE} {a b : ME} (ha : RdE K mg W ta a) (hb : RdE K mg W tb b) : RdS K mg W k (tPar i j (tCons ta (tCons tb tNil))) (vPar i j a b) := fun G hG B H σ e D S h =>
  ha.run G hG B H σ e _ S (PoS.thenS h fun d e1 v B1 H1 S1 s1 r1 h1 => hb.run G hG B1 H1 σ e1 _ S1 (PoS.thenS h1 fun d' e2 v' B2 H2 S2 s2 r2 h2 => by
    by_cases hl : i < e2.length ∧ j < e2.length
    · rw [if_pos hl] at h2
      exact ⟨v, v', rfl, h2.nx ((S2.put i (.sh (r1.mono s2)) fun _ _ _ z => nomatch z).put j (.sh r2) fun _ _ _ z => nomatch z)⟩
    · rw [if_neg hl] at h2; exact h2.elim))
theorem rs_aug {i : Nat} {t : TE} {m : ME} {r : TIp} {op : D → D → Option D} (hr : Op2 K mg W r op) (ha : RdE K mg W t m) : RdS K mg W k (tAug i t r) (vAug i op m) := fun G hG B H σ e D S h => by
  unfold vAug at h
  cases z : e[i]? with
  | none => rw [z] at h; exact h.elim
  | some s =>
    rw [z] at h
    obtain ⟨v, hv, ok⟩ := S.sl i s z
    cases ok with
    | no => exact h.elim
    | tk => exact h.elim
    | @sh v x r0 =>
      refine ⟨v, hv, ha.run G hG B H σ e _ S (PoS.thenS h fun y e1 w B1 H1 S1 s1 r1 h1 => ?_)⟩
      cases q : op x y with
      | none => simp only [q] at h1; exact h1.elim
      | some d =>
        simp only [q] at h1
        refine hr G B1 H1 σ e1 v w x y d _ S1 (r0.mono s1) r1 q fun u B2 H2 S2 s2 r2 => ?_
        by_cases hl : i < e1.length
        · rw [if_pos hl] at h1
          exact (PoS.base s2 h1).nx (S2.put i (.sh r2) fun _ _ _ z => nomatch z)
        · rw [if_neg hl] at h1; exact h1.elim
    | ow _ _ _ _ => exact h.elim
/-- an owned list in a slot -/
theorem Sto.ow (S : Sto K G B H σ e) {i : Nat} {ds : List D} (z : e[i]? = some (.ow false ds)) : ∃ p vs, σ[i]? = some (some (.ref p)) ∧ H p = some (.lst vs) ∧ Reps K B vs ds := by
  obtain ⟨v, hv, ok⟩ := S.sl i _ z
  cases ok with
  | ow hb hg hh hr => cases hr with
    | lst hr => exact ⟨_, _, hv, hh, hr⟩
theorem PoS.slot {D' : Ends} {i : Nat} {f : List VL.D → RS} (h : PoS K mg W k G B D' (match e[i]? with
  | some (.ow false ds) => f ds
  | _ => .bot)) : ∃ ds, e[i]? = some (.ow false ds) ∧ PoS K mg W k G B D' (f ds) := by
  cases z : e[i]? with
  | none => rw [z] at h; exact h.elim
  | some s =>
    rw [z] at h
    cases s with
    | no => exact h.elim
    | tk => exact h.elim
    | sh _ => exact h.elim
    | ow b ds => cases b with
      | false => exact ⟨ds, rfl, h⟩
      | true => exact h.elim
/-- xs.append(e) of an owned list -/
theorem rs_app {i : Nat} {t : TE} {m : ME} (ha : RdE K mg W t m) : RdS K mg W k (tDrop (tBM K "list" rAppend (tVar i) (tCons t tNil))) (vApp i m) := fun G hG B H σ e D S h => by
  unfold vApp at h
  obtain ⟨ds, z, h⟩ := PoS.slot h
  obtain ⟨p, vs, hv, hh, hr⟩ := S.ow z
  refine ⟨_, hv, .inl ⟨rfl, vs, .inl (.inl hh)⟩, ha.run G hG B H σ e _ S (PoS.thenS h fun d e1 v B1 H1 S1 s1 r1 h1 => ?_)⟩
  obtain ⟨ds1, z1, h1⟩ := PoS.slot h1
  obtain ⟨p1, vs1, hv1, hh1, hr1⟩ := S1.ow z1
  rw [hv] at hv1
  cases hv1
  by_cases hl : ds1.length < vmax
  · rw [if_pos hl] at h1
    exact ⟨p, vs1, v, rfl, rfl, hh1, by rw [hr1.length]; exact Nat.lt_of_lt_of_le hl vok, h1.nx (S1.write z1 hv (.lst (hr1.append (.cons r1 .nil))))⟩
  · rw [if_neg hl] at h1; exact h1.elim
/-- xs.extend(e) -/
theorem rs_ext {i : Nat} {t : TE} {m : ME} (ha : RdE K mg W t m) : RdS K mg W k (tDrop (tBM K "list" (fun x vs H Q => ∃ l b xs zs, x = .ref l ∧ vs = [.ref b] ∧ H l = some (.lst xs) ∧ SqL K H b zs ∧ xs.length + zs.length ≤ sizeLine ∧ Q .non (upd H l (.lst (xs ++ zs)))) (tVar i) (tCons t tNil))) (vExt i m) := fun G hG B H σ e D S h => by
  unfold vExt at h
  obtain ⟨ds, z, h⟩ := PoS.slot h
  obtain ⟨p, vs, hv, hh, hr⟩ := S.ow z
  refine ⟨_, hv, .inl ⟨rfl, vs, .inl (.inl hh)⟩, ha.run G hG B H σ e _ S (PoS.thenS h fun d e1 v B1 H1 S1 s1 r1 h1 => ?_)⟩
  obtain ⟨ds1, z1, h1⟩ := PoS.slot h1
  obtain ⟨p1, vs1, hv1, hh1, hr1⟩ := S1.ow z1
  rw [hv] at hv1
  cases hv1
  cases d with
  | lst xs =>
    by_cases hl : ds1.length + xs.length < vmax
    · have h1 : PoS K mg W k G B1 D (if ds1.length + xs.length < vmax then .nx (e1.set i (.ow false (ds1 ++ xs))) else .bot) := h1
      rw [if_pos hl] at h1
      cases r1 with
      | lst q1 q2 =>
        exact ⟨p, _, vs1, _, rfl, rfl, hh1, same_sqL S1.sub q1, by rw [hr1.length, q2.length]; exact Nat.le_trans (Nat.le_of_lt hl) vok, h1.nx (S1.write z1 hv (.lst (hr1.append q2)))⟩
    · have h1 : PoS K mg W k G B1 D (if ds1.length + xs.length < vmax then .nx (e1.set i (.ow false (ds1 ++ xs))) else .bot) := h1
      rw [if_neg hl] at h1; exact h1.elim
  | _ => exact h1.elim
/-- xs[i] = e of an owned list -/
theorem rs_set {i : Nat} {t tx : TE} {m mx : ME} (ha : RdE K mg W t m) (hx : RdE K mg W tx mx) : RdS K mg W k (tAsg t (gSub (tVar i) tx rSetL)) (vSet i mx m) := fun G hG B H σ e D S h =>
  ha.run G hG B H σ e _ S (PoS.thenS h fun d e1 v B1 H1 S1 s1 r1 h1 => by
    obtain ⟨ds, z, h1⟩ := PoS.slot h1
    obtain ⟨p, vs, hv, hh, hr⟩ := S1.ow z
    refine ⟨_, hv, hx.run G hG B1 H1 σ e1 _ S1 (PoS.thenS h1 fun x e2 vx B2 H2 S2 s2 r2 h2 => ?_)⟩
    obtain ⟨ds1, z1, h2⟩ := PoS.slot h2
    obtain ⟨p1, vs1, hv1, hh1, hr1⟩ := S2.ow z1
    rw [hv] at hv1
    cases hv1
    cases x with
    | int n =>
      cases w : ixD ds1.length n with
      | none => simp only [w] at h2; exact h2.elim
      | some j =>
        simp only [w] at h2
        cases r2
        exact ⟨p, vs1, n, j, rfl, rfl, hh1, by rw [hr1.length]; exact w, h2.nx (S2.write z1 hv (.lst (hr1.set j (r1.mono s2))))⟩
    | _ => exact h2.elim)
/-- xs.pop() of an owned list -/
theorem rd_pop {i : Nat} : RdE K mg W (tBM0 K "list" rPop (tVar i)) (vPop i) where
  run := fun G hG B H σ e Q S h => by
    unfold vPop at h
    cases z : e[i]? with
    | none => rw [z] at h; exact h.elim
    | some s =>
      rw [z] at h
      cases s with
      | no => exact h.elim
      | tk => exact h.elim
      | sh _ => exact h.elim
      | ow b ds =>
        cases b with
        | true => exact h.elim
        | false =>
        obtain ⟨p, vs, hv, hh, hr⟩ := S.ow z
        cases w : ds.getLast? with
        | none => simp only [w] at h; exact h.elim
        | some d =>
          simp only [w] at h
          rw [List.getLast?_eq_getElem?] at w
          obtain ⟨y, hy, ry⟩ := hr.get w
          refine ⟨_, hv, .inl ⟨rfl, vs, .inl (.inl hh)⟩, p, vs, y, rfl, rfl, hh, by rw [hr.length]; exact hy, h y B _ (S.write z hv (.lst hr.dropLast)) (Same.refl B) ry⟩

/-! loops -/
/-- what an iterator yields: data ds, one after the other, whatever stands beside -/
def ItOk (K : PySem.W.Frag) (B : Hp) (J : It) (ds : List D) : Prop := ∀ (i : Nat) (B' H' : Hp), Same B B' → Same B' H' →
  (∀ d, ds[i]? = some d → J.go i H' ∧ ∀ x H2, J.yld i H' x H2 → ∃ B2, Same B' B2 ∧ Same B2 H2 ∧ Same H' H2 ∧ News' B' H' B2 ∧ Rep K B2 x d) ∧ (ds[i]? = none → J.stop i H')
/-- an iterable's reading -/
structure RdI (K : PySem.W.Frag) (mg : Str → Option Value) (W : Am K) (t : TI) (m : MA) : Prop where
  run : ∀ (G : Gr), W.g G → ∀ (B H : Hp) (σ : L2.St) (e : Env) (Q : It → Hp → Prop), Sto K G B H σ e → Po K mg W (fun G B' H' σ e J ds => ItOk K B' J ds) G σ B Q (m e) → t σ H Q
theorem rs_for {wi : TI} {mi : MA} {g : TG} {o : List Nat} {gm : D → Env → Option Env} {t : TS} {b : MS} (hi : RdI K mg W wi mi) (hg : RdG K o g gm) (hb : RdS K mg W k t b) : RdS K mg W k (tFor wi g t) (vFor mi gm b) := fun G hG B H σ e D S h => by
  refine hi.run G hG B H σ e _ S (PoS.thenS h fun ds e1 J B1 H1 S1 s1 it h1 => ?_)
  refine ⟨fun i m σ' H' => m = ds.length - i ∧ ∃ e' B', Sto K G B' H' σ' e' ∧ Same B1 B' ∧ PoS K mg W k G B1 D (forL gm b (ds.drop i) e'), ⟨_, rfl, e1, B1, S1, Same.refl B1, h1⟩, ?_⟩
  rintro i m σ2 H2 ⟨rfl, e2, B2, S2, s2, h2⟩
  obtain ⟨hgo, hstop⟩ := it i B2 H2 s2 S2.sub
  cases z : ds[i]? with
  | none =>
    have hl : ds.length ≤ i := List.getElem?_eq_none_iff.mp z
    rw [List.drop_eq_nil_of_le hl] at h2
    exact .inl ⟨hstop z, (PoS.base s2 h2).nx S2⟩
  | some d =>
    have hl : i < ds.length := (List.getElem?_eq_some_iff.mp z).1
    have hd : ds.drop i = d :: ds.drop (i + 1) := by
      rw [List.drop_eq_getElem_cons hl]
      have : ds[i] = d := (List.getElem?_eq_some_iff.mp z).2
      rw [this]
    rw [hd] at h2
    obtain ⟨go, yl⟩ := hgo d z
    refine .inr ⟨go, fun σ' H' => ∃ e' B', Sto K G B' H' σ' e' ∧ Same B1 B' ∧ PoS K mg W k G B1 D (forL gm b (ds.drop (i + 1)) e'), fun σ' H' ⟨e', B', q1, q2, q3⟩ => ⟨ds.length - (i + 1), by omega, rfl, e', B', q1, q2, q3⟩, fun x H3 hy => ?_⟩
    obtain ⟨B3, t1, t2, t3, t4, rx⟩ := yl x H3 hy
    have S3 : Sto K G B3 H3 σ2 e2 := S2.call t3 t1 t2 t4
    unfold forL at h2
    have s13 : Same B1 B3 := s2.trans t1
    cases w : gm d e2 with
    | none => rw [w] at h2; exact h2.elim
    | some e3 =>
      rw [w] at h2
      refine hg G B3 H3 σ2 e2 e3 x d _ S3 rx w fun σ4 S4 _ => ?_
      refine hb G hG B3 H3 σ4 e3 _ S4 ?_
      cases q : b e3 with
      | nx e4 => simp only [q] at h2; exact fun σ' B' H' S' s' => ⟨e4, B', S', s13.trans s', h2⟩
      | ct e4 => simp only [q] at h2; exact fun σ' B' H' S' s' => ⟨e4, B', S', s13.trans s', h2⟩
      | bk e4 => simp only [q] at h2; exact fun σ' B' H' S' s' => h2 σ' B' H' S' (s13.trans s')
      | rt d e4 => simp only [q] at h2; exact fun v σ' B' H' S' s' => h2 v σ' B' H' S' (s13.trans s')
      | err x e4 => simp only [q] at h2; exact fun c dd σ' B' H' S' s' => h2 c dd σ' B' H' S' (s13.trans s')
      | bot => simp only [q] at h2; exact h2
theorem rs_while {c : TT} {mc : MB} {t : TS} {b : MS} (hc : RdB K mg W c mc) (hb : RdS K mg W k t b) : RdS K mg W k (tWhile c t) (vWhile mc b) := fun G hG B H σ e D S h => by
  have hne : vWhile mc b e ≠ .bot := fun z => by rw [z] at h; exact h
  obtain ⟨n, hn⟩ := vWhile_some hne
  refine ⟨fun m σ' H' => ∃ e' B' r, Sto K G B' H' σ' e' ∧ Same B B' ∧ iterW mc b m e' = some r ∧ PoS K mg W k G B D r, ⟨n, e, B, _, S, Same.refl B, hn, h⟩, ?_⟩
  rintro m σ1 H1 ⟨e1, B1, r, S1, s1, hit, hr⟩
  cases m with
  | zero => cases hit
  | succ m =>
    rw [iterW] at hit
    refine hc.run G hG B1 H1 σ1 e1 _ S1 ?_
    cases z : mc e1 with
    | ok x e2 =>
      rw [z] at hit
      intro y B2 H2 S2 s2 r2
      have r2 : y = x := r2
      subst r2
      cases y with
      | false =>
        rw [if_neg Bool.false_ne_true]
        cases hit
        exact hr σ1 B2 H2 S2 (s1.trans s2)
      | true =>
        rw [if_pos rfl]
        refine ⟨fun σ' H' => ∃ e' B' r, Sto K G B' H' σ' e' ∧ Same B B' ∧ iterW mc b m e' = some r ∧ PoS K mg W k G B D r, fun σ' H' q => ⟨m, Nat.lt_succ_self m, q⟩, hb G hG B2 H2 σ1 e2 _ S2 ?_⟩
        have s12 : Same B B2 := s1.trans s2
        cases q : b e2 with
        | nx e3 => simp only [q] at hit; exact fun σ' B' H' S' s' => ⟨e3, B', r, S', s12.trans s', hit, hr⟩
        | ct e3 => simp only [q] at hit; exact fun σ' B' H' S' s' => ⟨e3, B', r, S', s12.trans s', hit, hr⟩
        | bk e3 => simp only [q] at hit; cases hit; exact fun σ' B' H' S' s' => hr σ' B' H' S' (s12.trans s')
        | rt d e3 => simp only [q] at hit; cases hit; exact fun v σ' B' H' S' s' => hr v σ' B' H' S' (s12.trans s')
        | err x e3 => simp only [q] at hit; cases hit; exact fun c dd σ' B' H' S' s' => hr c dd σ' B' H' S' (s12.trans s')
        | bot => simp only [q] at hit; cases hit; exact hr
    | err x e2 =>
      rw [z] at hit
      cases hit
      exact fun c dd B' H' S' s' => hr c dd σ1 B' H' S' (s1.trans s')
    | bot =>
      rw [z] at hit
      cases hit
      exact hr
end
end VL

/-! VL7: what is walked; comprehensions; a def by its body. -/
namespace VL
open PySem PySem.Spec PyProof.Rows L2
section
variable {X : Cx}
/-- a list, a tuple, a text -/
def iSeq (K : PySem.W.Frag) (tl : TE) : TI := fun σ H R => tl σ H fun x H1 => (∃ a, x = .ref a ∧ (∃ xs, SqL K H1 a xs) ∧ R (Itl K a) H1) ∨ (∃ a, x = .ref a ∧ (∃ xs, SqT K H1 a xs) ∧ R (Itt K a) H1) ∨ ∃ z, x = .str z ∧ R (Its z) H1
theorem pi_seq {tg l : Expr} {tl : TE} (hl : PE X l tl) : PI X tg l (iSeq X.K tl) := by
  refine ⟨fun pins s σ H R I h => ?_⟩
  refine thn (hl.run pins s σ H _ I h) fun v s1 ⟨x, H1, I1, r1, q1⟩ => ?_
  rcases q1 with ⟨a, e, ⟨xs, hq⟩, q⟩ | ⟨a, e, ⟨xs, hq⟩, q⟩ | ⟨z, e, q⟩
  · subst e
    cases r1
    obtain ⟨its, rv, p, hz⟩ := I1.list hq
    refine wpAny_pyIter_list p.isList ?_
    refine ⟨s1.heap.objs.size, [s1.heap.objs.size], _, _, H1, rfl, I1.kept (t' := s1.toks) fun b o e => Heap.get?_push_of_some _ e, turn_list a _, ⟨_, Heap.get?_push_size _ rfl, rfl, rfl⟩, fun b hb => ?_, q⟩
    have e : b = s1.heap.objs.size := by simpa using hb
    subst e
    exact I1.fpOk (Nat.le_refl _) (I1.hok.fresh (Nat.le_refl _))
  · subst e
    cases r1
    obtain ⟨its, rv, p, hz⟩ := I1.tuple hq
    refine wpAny_pyIter_tuple (show s1.heap.IsTuple a its.toArray from p) ?_
    refine ⟨s1.heap.objs.size, [s1.heap.objs.size], _, _, H1, rfl, I1.kept (t' := s1.toks) fun b o e => Heap.get?_push_of_some _ e, turn_tuple a _, ⟨_, Heap.get?_push_size _ rfl, rfl, rfl⟩, fun b hb => ?_, q⟩
    have e : b = s1.heap.objs.size := by simpa using hb
    subst e
    exact I1.fpOk (Nat.le_refl _) (I1.hok.fresh (Nat.le_refl _))
  · subst e
    obtain ⟨t, rfl⟩ := r1
    cases ha : z.cps.all (· < 128)
    · exact wpAny_pyIter_wide ha (pi_one (tk := s1.toks) I1 _ (turn_str _ z t "str_iterator" (.inr rfl)) ⟨_, Heap.get?_push_size _ rfl, rfl, rfl⟩ q)
    · exact wpAny_pyIter_ascii ha (pi_one (tk := s1.toks) I1 _ (turn_str _ z t "str_ascii_iterator" (.inl rfl)) ⟨_, Heap.get?_push_size _ rfl, rfl, rfl⟩ q)
end
section
variable {K : PySem.W.Frag} {mg : Str → Option Value} {W : Am K} {k : Bool} {G : Gr} {B H : Hp} {σ : L2.St} {e : Env}
theorem news_refl : News' B H B := fun a h => .inl h
theorem rep_news {B' H' : Hp} : Same H' H' := Same.refl _
theorem itl_ok {a : Addr} {xs : List V} {ds : List D} (h : SqL K B a xs) (r : Reps K B xs ds) : ItOk K B (Itl K a) ds := fun i B' H' s1 s2 => by
  have hB : SqL K H' a xs := same_sqL (s1.trans s2) h
  refine ⟨fun d hd => ?_, fun hd => ?_⟩
  · obtain ⟨x, hx, rx⟩ := r.get hd
    refine ⟨⟨xs, x, hB, hx⟩, fun y H2 hy => ?_⟩
    obtain ⟨e1, e2⟩ := hy
    subst e1
    have q := e2 xs hB
    rw [hx] at q
    cases q
    exact ⟨B', Same.refl _, s2, Same.refl _, fun b hb => .inl hb, rx.mono s1⟩
  · exact ⟨xs, hB, by rw [r.length]; exact List.getElem?_eq_none_iff.mp hd⟩
theorem itt_ok {a : Addr} {xs : List V} {ds : List D} (h : SqT K B a xs) (r : Reps K B xs ds) : ItOk K B (Itt K a) ds := fun i B' H' s1 s2 => by
  have hB : SqT K H' a xs := same_sqT (s1.trans s2) h
  refine ⟨fun d hd => ?_, fun hd => ?_⟩
  · obtain ⟨x, hx, rx⟩ := r.get hd
    refine ⟨⟨xs, x, hB, hx⟩, fun y H2 hy => ?_⟩
    obtain ⟨e1, e2⟩ := hy
    subst e1
    have q := e2 xs hB
    rw [hx] at q
    cases q
    exact ⟨B', Same.refl _, s2, Same.refl _, fun b hb => .inl hb, rx.mono s1⟩
  · exact ⟨xs, hB, by rw [r.length]; exact List.getElem?_eq_none_iff.mp hd⟩
theorem its_ok {z : Str} : ItOk K B (Its z) (z.cps.toList.map fun c => .str ⟨#[c]⟩) := fun i B' H' s1 s2 => by
  refine ⟨fun d hd => ?_, fun hd => ?_⟩
  · rw [List.getElem?_map] at hd
    cases w : z.cps.toList[i]? with
    | none => rw [w] at hd; cases hd
    | some c =>
      rw [w] at hd
      cases hd
      have hl : i < z.cps.size := by
        have := (List.getElem?_eq_some_iff.mp w).1
        simpa using this
      refine ⟨hl, fun y H2 hy => ?_⟩
      obtain ⟨e1, c', hc, e2⟩ := hy
      subst e1 e2
      have w' : z.cps[i]? = some c := by simpa using w
      rw [w'] at hc
      cases hc
      exact ⟨B', Same.refl _, s2, Same.refl _, fun b hb => .inl hb, .str _⟩
  · rw [List.getElem?_map] at hd
    cases w : z.cps.toList[i]? with
    | none =>
      have := List.getElem?_eq_none_iff.mp w
      show z.cps.size ≤ i
      simpa using this
    | some c => rw [w] at hd; cases hd
theorem ri_seq {t : TE} {m : ME} (h : RdE K mg W t m) : RdI K mg W (iSeq K t) (vSeqI m) where
  run := fun G hG B H σ e Q S q => by
    refine h.run G hG B H σ e _ S (Po.bind q fun d e1 v B1 H1 S1 s1 r1 h1 => ?_)
    obtain ⟨ds, hd, h2⟩ := h1.of
    cases d with
    | lst xs =>
      cases hd
      cases r1 with
      | lst q1 q2 => exact .inl ⟨_, rfl, ⟨_, same_sqL S1.sub q1⟩, Po.here h2 S1 (itl_ok q1 q2)⟩
    | tup xs =>
      cases hd
      cases r1 with
      | tup q1 q2 => exact .inr (.inl ⟨_, rfl, ⟨_, same_sqT S1.sub q1⟩, Po.here h2 S1 (itt_ok q1 q2)⟩)
    | str z =>
      cases hd
      cases r1
      exact .inr (.inr ⟨_, rfl, Po.here h2 S1 its_ok⟩)
    | _ => cases hd
theorem itr_ok {lo : Int} {n : Nat} : ItOk K B (Itr lo n) ((List.range n).map fun (i : Nat) => .int (lo + (i : Int))) := fun i B' H' s1 s2 => by
  refine ⟨fun d hd => ?_, fun hd => ?_⟩
  · rw [List.getElem?_map] at hd
    cases w : (List.range n)[i]? with
    | none => rw [w] at hd; cases hd
    | some c =>
      rw [w] at hd
      cases hd
      have hl : i < n := by
        have := (List.getElem?_eq_some_iff.mp w).1
        simpa using this
      have hc : c = i := by
        have := (List.getElem?_eq_some_iff.mp w).2
        simpa using this.symm
      subst hc
      refine ⟨hl, fun y H2 hy => ?_⟩
      obtain ⟨e1, e2⟩ := hy
      subst e1 e2
      exact ⟨B', Same.refl _, s2, Same.refl _, fun b hb => .inl hb, .int _⟩
  · rw [List.getElem?_map] at hd
    cases w : (List.range n)[i]? with
    | none =>
      have := List.getElem?_eq_none_iff.mp w
      show n ≤ i
      simpa using this
    | some c => rw [w] at hd; cases hd
theorem ri_rng1 {t : TA} {m : MA} (h : RdA K mg W t m) : RdI K mg W (iRng1 t) (fun e => (m e).bind fun ds e1 => match ds with
    | [_] => .of (rngD ds) e1
    | _ => .bot) where
  run := fun G hG B H σ e Q S q => by
    refine h.run G hG B H σ e _ S (Po.bind q fun d e1 v B1 H1 S1 s1 r1 h1 => ?_)
    cases d with
    | nil => exact h1.elim
    | cons x xs =>
      cases xs with
      | cons _ _ => exact h1.elim
      | nil =>
        obtain ⟨ds, hd, h2⟩ := h1.of
        cases r1 with
        | cons r0 rr =>
          cases rr
          cases x with
          | int j =>
            cases r0
            unfold rngD at hd
            by_cases z : -(2 ^ 62) ≤ j ∧ j < 2 ^ 62
            · simp only [z, and_self, if_true] at hd
              cases hd
              exact ⟨j, rfl, z.1, z.2, Po.here h2 S1 itr_ok⟩
            · have hd : (if -(2 ^ 62) ≤ j ∧ j < 2 ^ 62 then some ((List.range j.toNat).map fun (i : Nat) => D.int (0 + (i : Int))) else none) = some ds := hd
              rw [if_neg z] at hd
              cases hd
          | _ => cases hd
theorem ri_rng2 {t : TA} {m : MA} (h : RdA K mg W t m) : RdI K mg W (iRng2 t) (fun e => (m e).bind fun ds e1 => match ds with
    | [_, _] => .of (rngD ds) e1
    | _ => .bot) where
  run := fun G hG B H σ e Q S q => by
    refine h.run G hG B H σ e _ S (Po.bind q fun d e1 v B1 H1 S1 s1 r1 h1 => ?_)
    cases d with
    | nil => exact h1.elim
    | cons x xs =>
      cases xs with
      | nil => exact h1.elim
      | cons y ys =>
        cases ys with
        | cons _ _ => exact h1.elim
        | nil =>
          obtain ⟨ds, hd, h2⟩ := h1.of
          cases r1 with
          | cons r0 rr =>
            cases rr with
            | cons r2 rr =>
              cases rr
              cases x with
              | int i =>
                cases y with
                | int j =>
                  cases r0
                  cases r2
                  have hd : (if -(2 ^ 62) ≤ i ∧ i < 2 ^ 62 ∧ -(2 ^ 62) ≤ j ∧ j < 2 ^ 62 then some ((List.range (j - i).toNat).map fun (n : Nat) => D.int (i + (n : Int))) else none) = some ds := hd
                  by_cases z : -(2 ^ 62) ≤ i ∧ i < 2 ^ 62 ∧ -(2 ^ 62) ≤ j ∧ j < 2 ^ 62
                  · rw [if_pos z] at hd
                    cases hd
                    exact ⟨i, j, rfl, z, Po.here h2 S1 itr_ok⟩
                  · rw [if_neg z] at hd
                    cases hd
                | _ => cases hd
              | _ => cases hd
theorem ite_ok {a : Addr} {xs : List V} {ds : List D} (h : SqL K B a xs) (r : Reps K B xs ds) : ItOk K B (Ite K a) (ds.zipIdx.map fun p => .tup [.int ((p.2 : Nat) : Int), p.1]) := fun i B' H' s1 s2 => by
  have hB : SqL K H' a xs := same_sqL (s1.trans s2) h
  refine ⟨fun d hd => ?_, fun hd => ?_⟩
  · rw [List.getElem?_map, List.getElem?_zipIdx] at hd
    cases w : ds[i]? with
    | none => rw [w] at hd; cases hd
    | some c =>
      rw [w] at hd
      have hd : some (D.tup [.int (((0 + i : Nat)) : Int), c]) = some d := hd
      cases hd
      obtain ⟨x, hx, rx⟩ := r.get w
      refine ⟨⟨xs, x, hB, hx⟩, fun y H2 hy => ?_⟩
      obtain ⟨T, x', e1, hT, e2, e3⟩ := hy
      subst e1 e2
      have q := e3 xs hB
      rw [hx] at q
      cases q
      have bT : B' T = none := same_none s2 hT
      refine ⟨upd B' T (.tup [.int (i : Nat), x]), same_upd' bT, same_upd2 s2, same_upd' hT, fun b hb => ?_, ?_⟩
      · by_cases z : b = T
        · exact .inr (z ▸ hT)
        · rw [upd_ne z] at hb; exact .inl hb
      · refine .tup (SqT.of upd_same) (.cons ?_ (.cons ((rx.mono s1).mono (same_upd' bT)) .nil))
        rw [Nat.zero_add]
        exact .int _
  · rw [List.getElem?_map, List.getElem?_zipIdx] at hd
    cases w : ds[i]? with
    | none => exact ⟨xs, hB, by rw [r.length]; exact List.getElem?_eq_none_iff.mp w⟩
    | some c => rw [w] at hd; cases hd
theorem ri_enum {t : TA} {m : MA} (h : RdA K mg W t m) : RdI K mg W (iEnum K t) (vEnum m) where
  run := fun G hG B H σ e Q S q => by
    refine h.run G hG B H σ e _ S (Po.bind q fun d e1 v B1 H1 S1 s1 r1 h1 => ?_)
    obtain ⟨ds, hd, h2⟩ := h1.of
    unfold enumD at hd
    split at hd
    · cases hd
      cases r1 with
      | cons r0 rr =>
        cases rr
        cases r0 with
        | lst q1 q2 => exact ⟨_, _, rfl, same_sqL S1.sub q1, Po.here h2 S1 (ite_ok q1 q2)⟩
    · cases hd

/-! comprehensions -/
theorem OwnF.new (S : Sto K G B H σ e) {a : Addr} (h : OwnF σ e a) : G.H a = none ∧ B a = none := by
  obtain ⟨i, b, ds, h1, h2⟩ := h
  obtain ⟨v, hv, ok⟩ := S.sl i _ h1
  rw [h2] at hv
  cases hv
  cases ok with
  | ow hb hg hh hr => exact ⟨hg, hb⟩
theorem Sto.reb (S : Sto K G B H σ e) : Sto K (VL.reb G B H σ e) B H σ e where
  len := S.len
  sl := fun i s h => by
    obtain ⟨v, hv, ok⟩ := S.sl i s h
    refine ⟨v, hv, ?_⟩
    cases ok with
    | no => exact .no
    | tk => exact .tk
    | sh r => exact .sh r
    | @ow b p vs ds hb hg hh hr =>
      refine .ow hb ?_ hh hr
      show (VL.reb G B H σ e).H p = none
      exact if_pos ⟨i, b, ds, h, hv⟩
  dis := S.dis
  sub := S.sub
  b0 := Same.refl B
  keep := fun a o h1 _ => by
    by_cases q : OwnF σ e a
    · have z : (VL.reb G B H σ e).H a = none := if_pos q
      rw [z] at h1; cases h1
    · have z : (VL.reb G B H σ e).H a = H a := if_neg q
      rw [z] at h1; exact h1
  dom := fun a h1 => by
    by_cases q : OwnF σ e a
    · have z : (VL.reb G B H σ e).H a = none := if_pos q
      rw [z] at h1; exact absurd rfl h1
    · have z : (VL.reb G B H σ e).H a = H a := if_neg q
      rw [z] at h1; exact h1
  new := fun a h => .inl h
  iom := fun a h => by
    have h : a ∈ G.io := h
    have q : ¬ OwnF σ e a := fun q => S.iom a h (q.new S).1
    have z : (VL.reb G B H σ e).H a = H a := if_neg q
    rw [z]
    exact S.dom a (S.iom a h)
theorem Sto.unreb {B' H' : Hp} {σ' : L2.St} {e' : Env} (S : Sto K G B H σ e) (S' : Sto K (VL.reb G B H σ e) B' H' σ' e') : Sto K G B' H' σ' e' where
  len := S'.len
  sl := fun i s h => by
    obtain ⟨v, hv, ok⟩ := S'.sl i s h
    refine ⟨v, hv, ?_⟩
    cases ok with
    | no => exact .no
    | tk => exact .tk
    | sh r => exact .sh r
    | @ow b p vs ds hb hg hh hr =>
      refine .ow hb ?_ hh hr
      · have hg : (VL.reb G B H σ e).H p = none := hg
        show G.H p = none
        by_cases q : OwnF σ e p
        · exact (q.new S).1
        · have z : (VL.reb G B H σ e).H p = H p := if_neg q
          rw [z] at hg
          exact S.fresh hg
  dis := S'.dis
  sub := S'.sub
  b0 := S.b0.trans S'.b0
  keep := fun a o h1 h2 => by
    have h3 := S.keep a o h1 h2
    have q : ¬ OwnF σ e a := fun q => by rw [(q.new S).1] at h1; cases h1
    have z : (VL.reb G B H σ e).H a = H a := if_neg q
    exact S'.keep a o (z.trans h3) h2
  dom := fun a h1 => by
    have h3 := S.dom a h1
    have q : ¬ OwnF σ e a := fun q => h1 (q.new S).1
    have z : (VL.reb G B H σ e).H a = H a := if_neg q
    exact S'.dom a (by rw [z]; exact h3)
  new := fun a h => by
    rcases S'.new a h with w | w
    · exact S.new a w
    · right
      by_cases q : OwnF σ e a
      · exact (q.new S).1
      · have z : (VL.reb G B H σ e).H a = H a := if_neg q
        rw [z] at w
        exact S.fresh w
  iom := S.iom
theorem wipeE_get {e : Env} {i : Nat} : ∀ {own : List Nat}, (i ∉ own → (wipeE e own)[i]? = e[i]?) ∧ (∀ s, i ∈ own → (wipeE e own)[i]? = some s → s = .no) ∧ (wipeE e own).length = e.length
  | [] => ⟨fun _ => rfl, fun _ h => by simp at h, rfl⟩
  | v :: vs => by
    obtain ⟨h1, h2, h3⟩ := wipeE_get (e := e) (i := i) (own := vs)
    refine ⟨fun h => ?_, fun s h hs => ?_, ?_⟩
    · rw [List.mem_cons, not_or] at h
      show ((wipeE e vs).set v .no)[i]? = e[i]?
      rw [List.getElem?_set_ne (Ne.symm h.1)]
      exact h1 h.2
    · have hs : ((wipeE e vs).set v .no)[i]? = some s := hs
      by_cases z : v = i
      · subst z
        have hl := (List.getElem?_eq_some_iff.mp hs).1
        rw [List.length_set] at hl
        rw [List.getElem?_set_self hl] at hs
        exact (Option.some.inj hs).symm
      · rw [List.getElem?_set_ne z] at hs
        rcases List.mem_cons.mp h with q | q
        · exact absurd q.symm z
        · exact h2 s q hs
    · show ((wipeE e vs).set v .no).length = e.length
      rw [List.length_set]; exact h3
theorem Sto.chg {own : List Nat} {σ' : L2.St} (S : Sto K G B H σ e) (t : Tch own σ σ') : Sto K G B H σ' (wipeE e own) where
  len := by rw [(wipeE_get (i := 0)).2.2, t.1]; exact S.len
  sl := fun i s h => by
    by_cases q : i ∈ own
    · have z := wipeE_get.2.1 s q h
      subst z
      have hl := (List.getElem?_eq_some_iff.mp h).1
      rw [(wipeE_get (i := 0)).2.2] at hl
      have hl' : i < σ'.length := by rw [t.1, S.len]; exact hl
      exact ⟨σ'[i], List.getElem?_eq_getElem hl', .no⟩
    · rw [wipeE_get.1 q] at h
      rw [t.2 i q]
      exact S.sl i s h
  dis := fun i j p b b' ds ds' h1 h2 h3 h4 => by
    by_cases qi : i ∈ own
    · have z := wipeE_get.2.1 _ qi h1; cases z
    · by_cases qj : j ∈ own
      · have z := wipeE_get.2.1 _ qj h2; cases z
      · rw [wipeE_get.1 qi] at h1
        rw [wipeE_get.1 qj] at h2
        rw [t.2 i qi] at h3
        rw [t.2 j qj] at h4
        exact S.dis i j p b b' ds ds' h1 h2 h3 h4
  sub := S.sub
  b0 := S.b0
  keep := S.keep
  dom := S.dom
  new := S.new
  iom := S.iom
theorem tch_wipe (σ : L2.St) (own : List Nat) : Tch own σ (wipe σ own) := ⟨wipe_length σ own, fun i h => wipe_out h⟩
theorem Tch.symm {own : List Nat} {σ σ' : L2.St} (t : Tch own σ σ') : Tch own σ' σ := ⟨t.1.symm, fun i h => (t.2 i h).symm⟩
theorem wipe_in {σ : L2.St} {i : Nat} : ∀ {vs : List Nat}, i ∈ vs → (wipe σ vs)[i]? = if i < σ.length then some none else none
  | [], h => by simp at h
  | v :: vs, h => by
    show ((wipe σ vs).set v none)[i]? = _
    by_cases z : v = i
    · subst z
      by_cases hl : v < σ.length
      · rw [List.getElem?_set_self (by rw [wipe_length]; exact hl), if_pos hl]
      · rw [List.getElem?_eq_none (by rw [List.length_set, wipe_length]; omega), if_neg hl]
    · rw [List.getElem?_set_ne z]
      rcases List.mem_cons.mp h with q | q
      · exact absurd q.symm z
      · exact wipe_in q
theorem wipe_of_tch {own : List Nat} {σ σ' : L2.St} (t : Tch own (wipe σ own) σ') : wipe σ' own = wipe σ own := by
  have hl : σ'.length = σ.length := t.1.trans (wipe_length σ own)
  refine List.ext_getElem? fun i => ?_
  by_cases q : i ∈ own
  · rw [wipe_in q, wipe_in q, hl]
  · rw [wipe_out q, t.2 i q]
abbrev Wn : WX := fun _ _ _ _ => False
/-- the accumulator of a comprehension lies apart -/
theorem rd_lc {wi : TI} {mi : MA} {g : TG} {gm : D → Env → Option Env} {tt : TT} {mt : MB} {te : TE} {me : ME} {own : List Nat} (hi : RdI K mg W wi mi) (hg : RdG K own g gm) (ht : RdB K mg (W.to Wn) tt mt) (he : RdE K mg (W.to Wn) te me) :
    RdF K mg W (tLc wi g tt te own) (vLc mi gm mt me own) where
  run := fun G hG B H σ e Q S q => by
    refine hi.run G hG B H σ e _ S (Po.bind q fun ds e1 J B1 H1 S1 s1 it h1 => fun D' hD => ?_)
    have S1w : Sto K G B1 H1 (wipe σ own) (wipeE e1 own) := S1.chg (tch_wipe σ own)
    refine ⟨fun i m H' => m = ds.length - i ∧ ∃ e' B' acc vs, Sto K G B' H' (wipe σ own) e' ∧ Same B1 B' ∧ H' D' = some (.lst vs) ∧ B' D' = none ∧ ¬ Owned (wipe σ own) e' D' ∧ Reps K B' vs acc ∧ Po K mg W (rpF K) G σ B1 Q (lcL gm mt me own (ds.drop i) acc e'),
      ⟨_, rfl, wipeE e1 own, B1, [], [], S1w.loose hD, Same.refl B1, upd_same, same_none S1.sub hD, not_owned_new S1w hD, .nil, h1⟩, ?_⟩
    rintro i m H2 ⟨rfl, e2, B2, acc, vs, S2, s2, hD2, bD2, nD2, ra, h2⟩
    have gD : G.H D' = none := S1.fresh hD
    obtain ⟨hgo, hstop⟩ := it i B2 H2 s2 S2.sub
    cases z : ds[i]? with
    | none =>
      have hl : ds.length ≤ i := List.getElem?_eq_none_iff.mp z
      rw [List.drop_eq_nil_of_le hl] at h2
      have S3 : Sto K G B2 H2 σ (wipeE e2 own) := S2.chg (tch_wipe σ own).symm
      refine .inl ⟨hstop z, h2 (.ref D') B2 H2 S3 s2 ⟨D', vs, rfl, hD2, bD2, gD, fun ⟨j, b, es, q1, q2⟩ => ?_, ra⟩⟩
      by_cases qj : j ∈ own
      · have w := wipeE_get.2.1 _ qj q1; cases w
      · rw [wipeE_get.1 qj] at q1
        exact nD2 ⟨j, b, es, q1, by rw [wipe_out qj]; exact q2⟩
    | some d =>
      have hl : i < ds.length := (List.getElem?_eq_some_iff.mp z).1
      have hd : ds.drop i = d :: ds.drop (i + 1) := by
        rw [List.drop_eq_getElem_cons hl]
        have : ds[i] = d := (List.getElem?_eq_some_iff.mp z).2
        rw [this]
      rw [hd] at h2
      obtain ⟨go, yl⟩ := hgo d z
      refine .inr ⟨go, fun H' => ∃ e' B' acc vs, Sto K G B' H' (wipe σ own) e' ∧ Same B1 B' ∧ H' D' = some (.lst vs) ∧ B' D' = none ∧ ¬ Owned (wipe σ own) e' D' ∧ Reps K B' vs acc ∧ Po K mg W (rpF K) G σ B1 Q (lcL gm mt me own (ds.drop (i + 1)) acc e'),
        fun H' ⟨e', B', acc', vs', q1⟩ => ⟨ds.length - (i + 1), by omega, rfl, e', B', acc', vs', q1⟩, fun x H3 hy => ?_⟩
      obtain ⟨B3, t1, t2, t3, t4, rx⟩ := yl x H3 hy
      have S3 : Sto K G B3 H3 (wipe σ own) e2 := S2.call t3 t1 t2 t4
      have s13 : Same B1 B3 := s2.trans t1
      have hD3 : H3 D' = some (.lst vs) := t3 _ _ hD2
      have bD3 : B3 D' = none := by
        cases w : B3 D' with
        | none => rfl
        | some o =>
          rcases t4 D' (by rw [w]; simp) with u | u
          · exact absurd bD2 u
          · rw [hD2] at u; cases u
      have nF : ¬ OwnF (wipe σ own) e2 D' := fun ⟨j, b, es, q1, q2⟩ => nD2 ⟨j, b, es, q1, q2⟩
      have rebD : (reb G B3 H3 (wipe σ own) e2).H D' = some (.lst vs) := (if_neg nF).trans hD3
      unfold lcL at h2
      cases w : gm d e2 with
      | none => simp only [w] at h2; exact h2.elim
      | some e3 =>
        simp only [w] at h2
        refine hg _ B3 H3 (wipe σ own) e2 e3 x d _ S3.reb rx w fun σ4 S4 tc => ⟨wipe_of_tch tc, ?_⟩
        -- what stays apart
        have nio : D' ∉ G.io := fun q => S1.iom D' q gD
        have apart : ∀ {B5 H5 : Hp} {e5 : Env}, Sto K (reb G B3 H3 (wipe σ own) e2) B5 H5 σ4 e5 → H5 D' = some (.lst vs) ∧ B5 D' = none ∧ ¬ Owned (wipe σ own) (wipeE e5 own) D' := fun {B5 H5 e5} S5 => by
          refine ⟨S5.keep D' _ rebD nio, ?_, fun ⟨j, b, es, q1, q2⟩ => ?_⟩
          · cases u : B5 D' with
            | none => rfl
            | some o =>
              rcases S5.new D' (by rw [u]; simp) with v1 | v1
              · exact absurd bD3 v1
              · rw [rebD] at v1; cases v1
          · by_cases qj : j ∈ own
            · have u := wipeE_get.2.1 _ qj q1; cases u
            · rw [wipeE_get.1 qj] at q1
              rw [← tc.2 j qj] at q2
              obtain ⟨v1, e1', ok⟩ := S5.sl j _ q1
              rw [q2] at e1'
              cases e1'
              cases ok with
              | ow hb hg hh hr =>
                have hg : (reb G B3 H3 (wipe σ own) e2).H D' = none := hg
                rw [rebD] at hg; cases hg
        have home : ∀ {B5 H5 : Hp} {e5 : Env}, Sto K (reb G B3 H3 (wipe σ own) e2) B5 H5 σ4 e5 → Sto K G B5 H5 (wipe σ own) (wipeE e5 own) := fun {B5 H5 e5} S5 => (S3.unreb S5).chg tc.symm
        refine ht.run _ (W.reb G B3 H3 (wipe σ own) e2 hG S3) B3 H3 σ4 e3 _ S4 ?_
        cases u : mt e3 with
        | err x e4 => simp only [u, Res.bindN] at h2; exact h2.elim
        | bot => simp only [u, Res.bindN] at h2; exact h2.elim
        | ok kb e4 =>
          simp only [u, Res.bindN] at h2
          intro kb' B4 H4 S4' s4 rk
          have rk : kb' = kb := rk
          subst rk
          cases kb' with
          | false =>
            rw [if_neg Bool.false_ne_true] at h2 ⊢
            obtain ⟨a1, a2, a3⟩ := apart S4'
            exact ⟨wipeE e4 own, B4, acc, vs, home S4', s13.trans s4, a1, a2, a3, ra.mono (t1.trans s4), h2⟩
          | true =>
            rw [if_pos rfl] at h2 ⊢
            refine he.run _ (W.reb G B3 H3 (wipe σ own) e2 hG S3) B4 H4 σ4 e4 _ S4' ?_
            cases u2 : me e4 with
            | err x e4 => simp only [u2] at h2; exact h2.elim
            | bot => simp only [u2] at h2; exact h2.elim
            | ok xd e5 =>
              simp only [u2] at h2
              intro y B5 H5 S5 s5 ry
              obtain ⟨a1, a2, a3⟩ := apart S5
              have hl : acc.length < vmax := by
                by_cases hl : acc.length < vmax
                · exact hl
                · rw [if_neg hl] at h2; exact h2.elim
              rw [if_pos hl] at h2
              have ra5 : Reps K B5 vs acc := ra.mono ((t1.trans s4).trans s5)
              refine ⟨vs, a1, by rw [ra.length]; exact Nat.lt_of_lt_of_le hl vok, wipeE e5 own, B5, acc ++ [xd], vs ++ [y], (home S5).poke a2 gD fun j b es q1 q2 => a3 ⟨j, b, es, q1, q2⟩, s13.trans (s4.trans s5), upd_same, a2, a3, ra5.append (.cons ry .nil), h2⟩
end
end VL

/-! VL8: the two together: a piece of the text and its meaning; a def by its body; raise. -/
namespace VL
open PySem PySem.Spec PyProof.Rows L2


variable {ι : Type}
def VE (K : PySem.W.Frag) (mg : Str → Option Value) (X : ι → Cx) (W : Am K) (e : Expr) (m : ME) : Prop := ∃ t, (∀ i, PE (X i) e t) ∧ RdE K mg W t m
def VF (K : PySem.W.Frag) (mg : Str → Option Value) (X : ι → Cx) (W : Am K) (e : Expr) (m : MA) : Prop := ∃ t, (∀ i, PE (X i) e t) ∧ RdF K mg W t m
def VA (K : PySem.W.Frag) (mg : Str → Option Value) (X : ι → Cx) (W : Am K) (es : List Expr) (m : MA) : Prop := ∃ t, (∀ i, PA (X i) es t) ∧ RdA K mg W t m
def VT (K : PySem.W.Frag) (mg : Str → Option Value) (X : ι → Cx) (W : Am K) (e : Expr) (m : MB) : Prop := ∃ t, (∀ i, PT (X i) e t) ∧ RdB K mg W t m
def VTs (K : PySem.W.Frag) (mg : Str → Option Value) (X : ι → Cx) (W : Am K) (e : List Expr) (m : MB) : Prop := ∃ t, (∀ i, PTs (X i) e t) ∧ RdB K mg W t m
def VW (K : PySem.W.Frag) (mg : Str → Option Value) (X : ι → Cx) (W : Am K) (e : Expr) (m : MB) : Prop := ∃ t, (∀ i, PW (X i) e t) ∧ RdB K mg W t m
def VP (K : PySem.W.Frag) (mg : Str → Option Value) (X : ι → Cx) (W : Am K) (e : Option Expr) (m : MO) : Prop := ∃ t, (∀ i, PO (X i) e t) ∧ RdX K mg W (fun _ _ _ _ _ b a => b = a) t m
def VG (K : PySem.W.Frag) (X : ι → Cx) (own : List Nat) (e : Expr) (m : D → Env → Option Env) : Prop := ∃ t, (∀ i, PG (X i) e t) ∧ RdG K own t m
def VGs (K : PySem.W.Frag) (X : ι → Cx) (own : List Nat) (n : Nat) (e : List Expr) (m : List D → Env → Option Env) : Prop := ∃ t, (∀ i, PGs (X i) e t) ∧ RdGs K own t m ∧ ∀ ds e e', m ds e = some e' → ds.length = n
def VI (K : PySem.W.Frag) (mg : Str → Option Value) (X : ι → Cx) (W : Am K) (tg it : Expr) (m : MA) : Prop := ∃ t, (∀ i, PI (X i) tg it t) ∧ RdI K mg W t m
def VS (X : Cx) (W : Am X.K) (k : Bool) (s : Stmt) (m : MS) : Prop := ∃ t, PS X s t ∧ RdS X.K X.mg W k t m
def VSs (X : Cx) (W : Am X.K) (k : Bool) (s : List Stmt) (m : MS) : Prop := ∃ t, PSs X s t ∧ RdS X.K X.mg W k t m
/-- one context -/
abbrev at1 (X : Cx) : Unit → Cx := fun _ => X
/-- the contexts of a block -/
abbrev Bk : Type := Shared × Hp × Addr × List (Str × Addr) × List Addr
abbrev blkF (X : ι → Cx) (scope : Scope) : ι × Bk → Cx := fun p => (X p.1).blk p.2.1 p.2.2.1 scope (compEnvC scope p.2.2.2.2.1 p.2.2.2.1 (X p.1).env) p.2.2.2.2.2

/-- what the contexts have in common -/
def IsX (X : ι → Cx) (P : Program) (w : World) (K : PySem.W.Frag) (mg : Str → Option Value) (base : Heap) : Prop := ∀ i, (X i).prog = P ∧ (X i).w = w ∧ (X i).K = K ∧ (X i).mg = mg ∧ (X i).base = base
theorem call_at {Y : Cx} {P : Program} {w : World} {K : PySem.W.Frag} {mg : Str → Option Value} {base : Heap} {k : Nat} {f : Addr} {fd : FuncData} {ps : List Str} {sp : Sp} {x : Str} {p pos : Pos} {e : Expr} {es : List Expr} {t : TA} {E : _ → XK} (F : FnOk P w K mg base (L2.CX P w) k f fd ps sp) (h : Y.prog = P ∧ Y.w = w ∧ Y.K = K ∧ Y.mg = mg ∧ Y.base = base) (hr : Room k Y.A) (hg : Gl Y x) (hm : mg x = some (.ref f)) (hk : PySem.W.keepIn K (.ref f) = true) (hb : Binds K fd ps []) (hx : ∀ σ, PassesAt (L2.CX Y.prog Y.w) Y σ (E σ))
    (ha : PA Y (e :: es) t) (hdb : (x == ("__debug__" : Str)) = false) (he : starEach (e :: es) Y.env = (false, eval e Y.env) :: starEach es Y.env) (hpl : (backTo pos (starEach es Y.env)).any (·.1) = false) : PE Y (.Call (.Name x p) (e :: es) [] pos) (tCallS sp E t) := by
  obtain ⟨rfl, rfl, rfl, rfl, rfl⟩ := h
  exact pe_callS F hr hg hm hk hb hx ha hdb he hpl
section
variable {K : PySem.W.Frag} {mg : Str → Option Value} {X : ι → Cx} {W : Am K} {pos : Pos} {a b c e o i : Expr} {es : List Expr} {ma mb mc m mi : ME} {ms : MA} {k : Bool}
/-! ### expressions -/
theorem ve_var (i : Nat) {x : Str} (hN : ∀ j, (X j).N[i]? = some x := by intro _; rfl) (hv : ∀ j, Vis (X j).env.scope x := by intro _; first | exact Or.inl rfl | exact Or.inr (Or.inl rfl) | exact Or.inr (Or.inr rfl)) (hd : (x == ("__debug__" : Str)) = false := by decide)
    (hcd : (x == ("__classdict__" : Str)) = false := by decide) : VE K mg X W (.Name x pos) (vVar i) := ⟨_, fun i => pe_var (hN i) (hv i) hd hcd, rd_var i⟩
theorem vf_own (i : Nat) {x : Str} (hN : ∀ j, (X j).N[i]? = some x := by intro _; rfl) (hv : ∀ j, Vis (X j).env.scope x := by intro _; first | exact Or.inl rfl | exact Or.inr (Or.inl rfl) | exact Or.inr (Or.inr rfl)) (hd : (x == ("__debug__" : Str)) = false := by decide)
    (hcd : (x == ("__classdict__" : Str)) = false := by decide) : VF K mg X W (.Name x pos) (vOwn i) := ⟨_, fun i => pe_var (hN i) (hv i) hd hcd, rd_own i⟩
theorem ve_int {i : Int} {j} : VE K mg X W (.Constant (.int i) j pos) (vC (.int i)) := ⟨_, fun i => pe_int, rd_int i⟩
theorem ve_bl {i : Bool} {j} : VE K mg X W (.Constant (.bool i) j pos) (vC (.bl i)) := ⟨_, fun i => pe_bl, rd_bl i⟩
theorem ve_non {j} : VE K mg X W (.Constant .none j pos) (vC .non) := ⟨_, fun i => pe_non, rd_non⟩
theorem ve_str {x : Str} {j} : VE K mg X W (.Constant (.str x) j pos) (vC (.str x)) := ⟨_, fun i => pe_str, rd_str x⟩
/-- a module's own constant -/
theorem ve_glob {x : Str} {v : V} {u : Value} {d : D} (hm : ∀ j, (X j).mg x = some u) (r : RelV v u) (rd : ∀ B, Rep K B v d) (hg : ∀ j, Gl (X j) x := by intro _; rfl) (hd : (x == ("__debug__" : Str)) = false := by decide) : VE K mg X W (.Name x pos) (vC d) := ⟨_, fun i => pe_glob (hg i) (hm i) r hd, rd_c rd⟩
theorem ve_bin {op : Operator} {f : D → D → Option D} (ho : ∀ j, OpR (X j) (binaryOp op) (rDat K f)) (ha : VE K mg X W a ma) (hb : VE K mg X W b mb) : VE K mg X W (.BinOp a op b pos) (vOp f ma mb) :=
  let ⟨_, p, r⟩ := ha; let ⟨_, p', r'⟩ := hb; ⟨_, fun i => pe_op (ho i) (p i) (p' i), rd_op op2_dat r r'⟩
theorem ve_un {op : UnaryOp} {f : D → Option D} (ho : ∀ j, UnR (X j) (unaryOp op) (rDat1 K f)) (ha : VE K mg X W a ma) : VE K mg X W (.UnaryOp op a pos) (vUn f ma) :=
  let ⟨_, p, r⟩ := ha; ⟨_, fun i => pe_un (ho i) (p i), rd_un op1_dat r⟩
theorem ve_cmp {op : CmpOp} {f : D → D → Option D} (ho : ∀ j, OpR (X j) (compareOp op) (rDat K f)) (ha : VE K mg X W a ma) (hb : VE K mg X W b mb) (hm : behindInMarks op b = false) : VE K mg X W (.Compare a [op] [b] pos) (vOp f ma mb) :=
  let ⟨_, p, r⟩ := ha; let ⟨_, p', r'⟩ := hb; ⟨_, fun i => pe_cmpR (ho i) (p i) (p' i) hm, rd_op op2_dat r r'⟩
theorem vt_cmp {op : CmpOp} {f : D → D → Option D} (ho : ∀ j, OpR (X j) (compareOp op) (rDat K f)) (ha : VE K mg X W a ma) (hb : VE K mg X W b mb) (hm : behindInMarks op b = false) : VT K mg X W (.Compare a [op] [b] pos) (vTest (vOp f ma mb)) :=
  let ⟨_, p, r⟩ := ha; let ⟨_, p', r'⟩ := hb; ⟨_, fun i => pt_cmpR (ho i) (p i) (p' i) hm, rd_test (rd_op op2_dat r r')⟩
theorem ve_chain {op op' : CmpOp} {f f' : D → D → Option D} (ho : ∀ j, OpR (X j) (compareOp op) (rDat K f)) (ho' : ∀ j, OpR (X j) (compareOp op') (rDat K f')) (hB : ∀ x y z, f x y = some z → ∃ k, z = .bl k) (ha : VE K mg X W a ma) (hb : VE K mg X W b mb) (hc : VE K mg X W c mc)
    (hm : lastMarks [op, op'] [b, c] = false := by with_unfolding_all rfl) : VE K mg X W (.Compare a [op, op'] [b, c] pos) (vChain f f' ma mb mc) :=
  let ⟨_, p, r⟩ := ha; let ⟨_, p', r'⟩ := hb; let ⟨_, p2, r2⟩ := hc; ⟨_, fun i => pe_chain (ho i) (ho' i) (p i) (p' i) (p2 i) hm, rd_chain op2_dat op2_dat hB r r' r2⟩
theorem vt_chain {op op' : CmpOp} {f f' : D → D → Option D} (ho : ∀ j, OpR (X j) (compareOp op) (rDat K f)) (ho' : ∀ j, OpR (X j) (compareOp op') (rDat K f')) (hB : ∀ x y z, f x y = some z → ∃ k, z = .bl k) (ha : VE K mg X W a ma) (hb : VE K mg X W b mb) (hc : VE K mg X W c mc)
    (hm : lastMarks [op, op'] [b, c] = false := by with_unfolding_all rfl) : VT K mg X W (.Compare a [op, op'] [b, c] pos) (vTest (vChain f f' ma mb mc)) :=
  let ⟨_, p, r⟩ := ha; let ⟨_, p', r'⟩ := hb; let ⟨_, p2, r2⟩ := hc; ⟨_, fun i => pt_chain (ho i) (ho' i) (p i) (p' i) (p2 i) hm, rd_test (rd_chain op2_dat op2_dat hB r r' r2)⟩
theorem lt_bl : ∀ x y z, opLt x y = some z → ∃ k, z = .bl k := fun x y z h => by unfold opLt at h; split at h <;> cases h; exact ⟨_, rfl⟩
theorem le_bl : ∀ x y z, opLe x y = some z → ∃ k, z = .bl k := fun x y z h => by unfold opLe at h; split at h <;> cases h; exact ⟨_, rfl⟩
theorem gt_bl : ∀ x y z, opGt x y = some z → ∃ k, z = .bl k := fun x y z h => by unfold opGt at h; split at h <;> cases h; exact ⟨_, rfl⟩
theorem ge_bl : ∀ x y z, opGe x y = some z → ∃ k, z = .bl k := fun x y z h => by unfold opGe at h; split at h <;> cases h; exact ⟨_, rfl⟩
/-- any expression as a test -/
theorem vt_val (ha : VE K mg X W a ma) (he : ∀ j whole, isTrue a (X j).env whole = (do let v ← whole; standAt a.pos; holding [v] (truthy v)) := by intro _ _; rfl) : VT K mg X W a (vTest ma) :=
  let ⟨_, p, r⟩ := ha; ⟨_, fun i => pt_val (p i) (he i), rd_tB r⟩
section
variable {ta tb : MB} {rest : List Expr}
theorem vw_and1 (ha : VT K mg X W a ta) : VW K mg X W (.BoolOp .And [a] pos) ta := let ⟨_, p, r⟩ := ha; ⟨_, fun i => pw_and1 (p i), r⟩
theorem vw_or1 (ha : VT K mg X W a ta) : VW K mg X W (.BoolOp .Or [a] pos) ta := let ⟨_, p, r⟩ := ha; ⟨_, fun i => pw_or1 (p i), r⟩
theorem vw_and (ha : VT K mg X W a ta) (hb : VW K mg X W (.BoolOp .And (b :: rest) pos) tb) : VW K mg X W (.BoolOp .And (a :: b :: rest) pos) (vAnd ta tb) := let ⟨_, p, r⟩ := ha; let ⟨_, p', r'⟩ := hb; ⟨_, fun i => pw_and (p i) (p' i), rd_and r r'⟩
theorem vw_or (ha : VT K mg X W a ta) (hb : VW K mg X W (.BoolOp .Or (b :: rest) pos) tb) : VW K mg X W (.BoolOp .Or (a :: b :: rest) pos) (vOr ta tb) := let ⟨_, p, r⟩ := ha; let ⟨_, p', r'⟩ := hb; ⟨_, fun i => pw_or (p i) (p' i), rd_or r r'⟩
theorem vt_w (ha : VW K mg X W a ta) : VT K mg X W a ta := let ⟨_, p, r⟩ := ha; ⟨_, fun i => (p i).pt, r⟩
theorem vt_not (ha : VT K mg X W a ta) : VT K mg X W (.UnaryOp .Not a pos) (vNot ta) := let ⟨_, p, r⟩ := ha; ⟨_, fun i => pt_not (p i), rd_not r⟩
theorem ve_one {op} (ha : VE K mg X W a ma) : VE K mg X W (.BoolOp op [a] pos) ma := let ⟨_, p, r⟩ := ha; ⟨_, fun i => pe_one (p i), r⟩
theorem ve_and (ha : VE K mg X W a ma) (hb : VE K mg X W (.BoolOp .And (b :: rest) pos) mb) : VE K mg X W (.BoolOp .And (a :: b :: rest) pos) (vAndV ma mb) := let ⟨_, p, r⟩ := ha; let ⟨_, p', r'⟩ := hb; ⟨_, fun i => pe_and (p i) (p' i), rd_andV r r'⟩
theorem ve_or (ha : VE K mg X W a ma) (hb : VE K mg X W (.BoolOp .Or (b :: rest) pos) mb) : VE K mg X W (.BoolOp .Or (a :: b :: rest) pos) (vOrV ma mb) := let ⟨_, p, r⟩ := ha; let ⟨_, p', r'⟩ := hb; ⟨_, fun i => pe_or (p i) (p' i), rd_orV r r'⟩
theorem ve_not (ha : VE K mg X W a ma) : VE K mg X W (.UnaryOp .Not a pos) (vNotV ma) := let ⟨_, p, r⟩ := ha; ⟨_, fun i => pe_not (p i), rd_notV r⟩
end
theorem ve_ix (hu : ∀ j, (X j).A.units + 1 < cLine) (ho : VE K mg X W o m) (hi : VE K mg X W i mi) (hs : PlainIx i) (hK : ∀ j, (X j).K = K := by intro _; rfl) : VE K mg X W (.Subscript o i pos) (vOp opIx m mi) := let ⟨_, p, r⟩ := ho; let ⟨_, p', r'⟩ := hi; ⟨_, fun i => pe_ix (hK i ▸ od_ix (hu i) : IxR (X i) (rDat K opIx)) (p i) (p' i) hs, rd_op op2_dat r r'⟩
theorem vp_none : VP K mg X W none vNoPart := ⟨_, fun i => po_none, rd_nopart⟩
theorem vp_some (ha : VE K mg X W a ma) : VP K mg X W (some a) (vPart ma) := let ⟨_, p, r⟩ := ha; ⟨_, fun i => po_some (p i), rd_part r⟩
section
variable {lo hi : Option Expr} {ml mh : MO} {p2 : Pos}
theorem ve_slT (he : VE K mg X W e m) (hl : VP K mg X W lo ml) (hh : VP K mg X W hi mh) (hK : ∀ j, (X j).K = K := by intro _; rfl) : VE K mg X W (.Subscript e (.Slice lo hi none p2) pos) (vSl m ml mh) := let ⟨_, p, r⟩ := he; let ⟨_, p', r'⟩ := hl; let ⟨_, q, s⟩ := hh; ⟨_, fun i => pe_slice (hK i ▸ sl_dat : SlR (X i) (rDatS K)) (p i) (p' i) (q i), rd_slT r r' s⟩
theorem vf_slL (he : VE K mg X W e m) (hl : VP K mg X W lo ml) (hh : VP K mg X W hi mh) (hK : ∀ j, (X j).K = K := by intro _; rfl) : VF K mg X W (.Subscript e (.Slice lo hi none p2) pos) (vSlF m ml mh) := let ⟨_, p, r⟩ := he; let ⟨_, p', r'⟩ := hl; let ⟨_, q, s⟩ := hh; ⟨_, fun i => pe_slice (hK i ▸ sl_list : SlR (X i) (rSlL K)) (p i) (p' i) (q i), rd_slF r r' s⟩
theorem vf_rev {k : Nat} {p1 p2 p3 : Pos} (he : VE K mg X W e m) (hK : ∀ j, (X j).K = K := by intro _; rfl) : VF K mg X W (.Subscript e (.Slice none none (some (.UnaryOp .USub (.Constant (.int 1) k p1) p2)) p3) pos) (vRevF m) := let ⟨_, p, r⟩ := he; ⟨_, fun i => (hK i ▸ pe_revL (p i) : PE (X i) _ (tRevL K _)), rd_revF r⟩
end
theorem va_nil : VA K mg X W [] vNil := ⟨_, fun i => pa_nil, rd_nil⟩
theorem va_cons (ha : VE K mg X W e m) (hr : VA K mg X W es ms) (hs : ∀ j, starEach (e :: es) (X j).env = (false, eval e (X j).env) :: starEach es (X j).env := by intro _; rfl) : VA K mg X W (e :: es) (vCons m ms) := let ⟨_, p, r⟩ := ha; let ⟨_, p', r'⟩ := hr; ⟨_, fun i => pa_cons (p i) (p' i) (hs i), rd_cons r r'⟩
theorem ve_tup {x1} (h : VA K mg X W es ms) : VE K mg X W (.Tuple es x1 pos) (vTupD ms) := let ⟨_, p, r⟩ := h; ⟨_, fun i => pe_tup (p i), rd_tup r⟩
theorem vf_lst (h : VA K mg X W es ms) : VF K mg X W (.List es pos) (vLstD ms) := let ⟨_, p, r⟩ := h; ⟨_, fun i => pe_lst (p i), rd_lst r⟩
theorem ve_of (h : VF K mg X W e ms) : VE K mg X W e (vOf ms) := let ⟨_, p, r⟩ := h; ⟨_, fun i => p i, rd_of r⟩
theorem ve_bor (h : VE K mg X W e m) : VE K mg X W e (vBor m) := let ⟨_, p, r⟩ := h; ⟨_, fun i => p i, rd_bor r⟩
theorem vt_bor {m : MB} (h : VT K mg X W e m) : VT K mg X W e (vBorT m) := let ⟨_, p, r⟩ := h; ⟨_, fun i => p i, rd_borT r⟩
theorem vf_bor (h : VF K mg X W e ms) : VF K mg X W e (vBorF ms) := let ⟨_, p, r⟩ := h; ⟨_, fun i => p i, rd_borF r⟩
/-- calls of defs -/
theorem ve_call {j k : Nat} {f : Addr} {fd : FuncData} {ps : List Str} {fn : List D → FR} {x : Str} {p : Pos} {P : Program} {w : World} {base : Heap} (F : FnOk P w K mg base (L2.CX P w) j f fd ps (spV K mg fn)) (hX : IsX X P w K mg base) (hr : ∀ i, Room k (X i).A) (hj : j ≤ k) (hm : mg x = some (.ref f)) (hk : PySem.W.keepIn K (.ref f) = true) (hb : Binds K fd ps []) (tk : ∀ i, Takes (X i) W.w)
    (ha : VA K mg X W (e :: es) ms) (hg : ∀ j, Gl (X j) x := by intro _; rfl) (hdb : (x == ("__debug__" : Str)) = false := by decide) (he : ∀ j, starEach (e :: es) (X j).env = (false, eval e (X j).env) :: starEach es (X j).env := by intro _; rfl) (hpl : ∀ j, (backTo pos (starEach es (X j).env)).any (·.1) = false := by intro _; rfl) :
    VE K mg X W (.Call (.Name x p) (e :: es) [] pos) (vCall fn ms) := let ⟨_, p, r⟩ := ha; ⟨_, fun i => call_at F (hX i) ((hr i).mono hj) (hg i) hm hk hb (fun σ => passAt (tk i) σ) (p i) hdb (he i) (hpl i), rd_call r⟩
theorem vf_call {j k : Nat} {f : Addr} {fd : FuncData} {ps : List Str} {fn : List D → FR} {x : Str} {p : Pos} {P : Program} {w : World} {base : Heap} (F : FnOk P w K mg base (L2.CX P w) j f fd ps (spF K mg fn)) (hX : IsX X P w K mg base) (hr : ∀ i, Room k (X i).A) (hj : j ≤ k) (hm : mg x = some (.ref f)) (hk : PySem.W.keepIn K (.ref f) = true) (hb : Binds K fd ps []) (tk : ∀ i, Takes (X i) W.w)
    (ha : VA K mg X W (e :: es) ms) (hg : ∀ j, Gl (X j) x := by intro _; rfl) (hdb : (x == ("__debug__" : Str)) = false := by decide) (he : ∀ j, starEach (e :: es) (X j).env = (false, eval e (X j).env) :: starEach es (X j).env := by intro _; rfl) (hpl : ∀ j, (backTo pos (starEach es (X j).env)).any (·.1) = false := by intro _; rfl) :
    VF K mg X W (.Call (.Name x p) (e :: es) [] pos) (vCallF fn ms) := let ⟨_, p, r⟩ := ha; ⟨_, fun i => call_at F (hX i) ((hr i).mono hj) (hg i) hm hk hb (fun σ => passAt (tk i) σ) (p i) hdb (he i) (hpl i), rd_callF r⟩
/-- .. of built-in functions -/
theorem ve_bf {id : String} {x : Str} {p : Pos} {f : List D → Option D} (hc : ∀ j, CallR (X j) (.builtin id) (rDatC K f)) (hm : ∀ j, (X j).mg x = none) (hv : bootBuiltins x = some (.builtin id)) (ha : VA K mg X W (e :: es) ms) (hg : ∀ j, Gl (X j) x := by intro _; rfl) (hn : x ≠ "__name__" := by decide) (hdb : (x == ("__debug__" : Str)) = false := by decide)
    (he : ∀ j, starEach (e :: es) (X j).env = (false, eval e (X j).env) :: starEach es (X j).env := by intro _; rfl) (hpl : ∀ j, (backTo pos (starEach es (X j).env)).any (·.1) = false := by intro _; rfl) : VE K mg X W (.Call (.Name x p) (e :: es) [] pos) (vBf f ms) :=
  let ⟨_, p, r⟩ := ha; ⟨_, fun i => pe_callB (hc i) (hg i) (hm i) hv (p i) hn hdb (he i) (hpl i), rd_bf r⟩
theorem vf_ty {T : String} {x : Str} {p : Pos} {f : List D → Option (List D)} (hc : ∀ j, CallR (X j) (.type T) (rDatF K f)) (hm : ∀ j, (X j).mg x = none) (hv : bootBuiltins x = some (.type T)) (ha : VA K mg X W (e :: es) ms) (hg : ∀ j, Gl (X j) x := by intro _; rfl) (hn : x ≠ "__name__" := by decide) (hdb : (x == ("__debug__" : Str)) = false := by decide)
    (he : ∀ j, starEach (e :: es) (X j).env = (false, eval e (X j).env) :: starEach es (X j).env := by intro _; rfl) (hpl : ∀ j, (backTo pos (starEach es (X j).env)).any (·.1) = false := by intro _; rfl) : VF K mg X W (.Call (.Name x p) (e :: es) [] pos) (vBl f ms) :=
  let ⟨_, p, r⟩ := ha; ⟨_, fun i => pe_callTy (hc i) (hg i) (hm i) hv (p i) hn hdb (he i) (hpl i), rd_bl' r⟩
theorem ve_isi {T : String} {p p2 : Pos} {x : Str} (hk : kitAll T = true) (hm : ∀ j, (X j).mg "isinstance" = none) (hmT : ∀ j, (X j).mg x = none) (hvT : bootBuiltins x = some (.type T)) (hv : bootBuiltins "isinstance" = some (.builtin "isinstance")) (ha : VE K mg X W a ma) (hgT : ∀ j, Gl (X j) x := by intro _; rfl) (hnT : x ≠ "__name__" := by decide) (hdT : (x == ("__debug__" : Str)) = false := by decide)
    (hg : ∀ j, Gl (X j) "isinstance" := by intro _; rfl) (he : ∀ j, starEach [a, .Name x p2] (X j).env = (false, eval a (X j).env) :: starEach [.Name x p2] (X j).env := by intro _; rfl) (he2 : ∀ j, starEach [(.Name x p2 : Expr)] (X j).env = (false, eval (.Name x p2) (X j).env) :: starEach [] (X j).env := by intro _; rfl)
    (hpl : ∀ j, (backTo pos (starEach [(.Name x p2 : Expr)] (X j).env)).any (·.1) = false := by intro _; rfl) (hK : ∀ j, (X j).K = K := by intro _; rfl) : VE K mg X W (.Call (.Name "isinstance" p) [a, .Name x p2] [] pos) (vIsi T ma) :=
  let ⟨_, p, r⟩ := ha; ⟨_, fun i => pe_callB (hK i ▸ call_isi : CallR (X i) (.builtin "isinstance") (rIsi K)) (hg i) (hm i) hv (pa_cons (p i) (pa_cons (pe_bltn (v := .ty T) (hgT i) (hmT i) hvT rfl hnT hdT) pa_nil (he2 i)) (he i)) (by decide) (by decide) (he i) (hpl i), rd_isi hk r⟩
/-- xs.pop() -/
theorem ve_pop (i : Nat) {x : Str} {p apos : Pos} (hN : ∀ j, (X j).N[i]? = some x := by intro _; rfl) (hv : ∀ j, Vis (X j).env.scope x := by intro _; first | exact Or.inl rfl | exact Or.inr (Or.inl rfl) | exact Or.inr (Or.inr rfl)) (hd : (x == ("__debug__" : Str)) = false := by decide)
    (hcd : (x == ("__classdict__" : Str)) = false := by decide) (hbase : ∀ j, attributeBase (.Name x p) "pop" (X j).env (eval (.Name x p) (X j).env) = eval (.Name x p) (X j).env := by intro _; rfl) (hline : (apos.endLine == pos.line) = true := by rfl) (hK : ∀ j, (X j).K = K := by intro _; rfl) :
    VE K mg X W (.Call (.Attribute (.Name x p) "pop" apos) [] [] pos) (vPop i) := ⟨_, fun i => (hK i ▸ pe_bm0 PySem.F.plainAttrs_list PySem.F.slot_list_pop PySem.F.type_list_pop mt_pop (pe_var (hN i) (hv i) hd hcd) (hbase i) hline : PE (X i) _ (tBM0 K "list" rPop (tVar _))), rd_pop⟩
end
end VL

/-! VL9: statements of the text; a def by its body; raise. -/
namespace VL
open PySem PySem.Spec PyProof.Rows L2

section
variable {ι : Type} {K : PySem.W.Frag} {mg : Str → Option Value} {X : ι → Cx} {W : Am K} {pos : Pos} {a b c e o i it tg : Expr} {es : List Expr} {ma mb mc m mi : ME} {ms : MA}
/-! targets -/
theorem vg_name (i : Nat) {x : Str} (hN : ∀ j, (X j).N.Nodup) (hx : ∀ j, Loc (X j).env.scope x := by intro _; first | exact Or.inl rfl | exact Or.inr rfl) (hi : ∀ j, (X j).N[i]? = some x := by intro _; rfl) (hf : ∀ j, (X j).fn x = true ∨ (X j).env.scope.names.lookup x = some .local := by intro _; first | exact .inl rfl | exact .inr rfl) : VG K X [i] (.Name x pos) (gNam i) := ⟨_, fun j => pg_name (hN j) (hi j) (hx j) (hf j), rg_name i⟩
theorem vgs_nil : VGs K X [] 0 [] gNil' := ⟨_, fun _ => pgs_nil, rg_nil, gNil_len⟩
theorem vgs_cons {o1 o2 : List Nat} {n : Nat} {g : D → Env → Option Env} {r : List D → Env → Option Env} (h : VG K X o1 e g) (hr : VGs K X o2 n es r) (hs : ∀ j, (assignEach (e :: es) (X j).env).map (·.2) = assign e (X j).env :: (assignEach es (X j).env).map (·.2) := by intro _; rfl) : VGs K X (o1 ++ o2) (n + 1) (e :: es) (gCon g r) :=
  let ⟨_, p, q⟩ := h; let ⟨_, p', q', l⟩ := hr; ⟨_, fun i => pgs_cons (p i) (p' i) (hs i), rg_cons q q', gCon_len l⟩
theorem vg_tup {o : List Nat} {n k : Nat} {r : List D → Env → Option Env} (hc : ∀ j, (X j).calm = true) (h : VGs K X o n es r) (hn : ∀ j, (assignEach es (X j).env).length = n := by intro _; rfl) (hst : ∀ j, (assignEach es (X j).env).findIdx? (·.1) = none := by intro _; rfl) (hK : ∀ j, (X j).K = K := by intro _; rfl) : VG K X o (.Tuple es k pos) (gTup' r) :=
  let ⟨_, p, q, l⟩ := h; ⟨_, fun i => (hK i ▸ pg_seq (hc i) (p i) (hn i) (hst i) : PG (X i) _ (gSeq K n _)), rg_tup q l⟩
/-! iterables -/
theorem vi_seq (h : VE K mg X W it m) (hK : ∀ j, (X j).K = K := by intro _; rfl) : VI K mg X W tg it (vSeqI m) := let ⟨_, p, r⟩ := h; ⟨_, fun i => (hK i ▸ pi_seq (p i) : PI (X i) _ _ (iSeq K _)), ri_seq r⟩
theorem vi_rng1 {p : Pos} (hm : ∀ j, (X j).mg "range" = none) (h : VA K mg X W [a] ms) (hg : ∀ j, Gl (X j) "range" := by intro _; rfl) (hs : ∀ j, starEach [a] (X j).env = [(false, eval a (X j).env)] := by intro _; rfl) : VI K mg X W tg (.Call (.Name "range" p) [a] [] pos) (vRng1 ms) := let ⟨_, p, r⟩ := h; ⟨_, fun i => pi_range1 (hg i) (hm i) (p i) (hs i), ri_rng1 r⟩
theorem vi_rng2 {p : Pos} (hm : ∀ j, (X j).mg "range" = none) (h : VA K mg X W [a, b] ms) (hg : ∀ j, Gl (X j) "range" := by intro _; rfl) (hs : ∀ j, starEach [a, b] (X j).env = [(false, eval a (X j).env), (false, eval b (X j).env)] := by intro _; rfl) (hs2 : ∀ j, starEach [b] (X j).env = [(false, eval b (X j).env)] := by intro _; rfl) : VI K mg X W tg (.Call (.Name "range" p) [a, b] [] pos) (vRng2 ms) :=
  let ⟨_, p, r⟩ := h; ⟨_, fun i => pi_range2 (hg i) (hm i) (p i) (hs i) (hs2 i), ri_rng2 r⟩
theorem vi_enum {p tpos : Pos} {elts : List Expr} {kk : Nat} (hm : ∀ j, (X j).mg "enumerate" = none) (h : VA K mg X W [a] ms) (hg : ∀ j, Gl (X j) "enumerate" := by intro _; rfl) (hs : ∀ j, starEach [a] (X j).env = [(false, eval a (X j).env)] := by intro _; rfl) (hK : ∀ j, (X j).K = K := by intro _; rfl) : VI K mg X W (.Tuple elts kk tpos) (.Call (.Name "enumerate" p) [a] [] pos) (vEnum ms) := let ⟨_, p, r⟩ := h; ⟨_, fun i => (hK i ▸ pi_enum (hg i) (hm i) (p i) (hs i) : PI (X i) _ _ (iEnum K _)), ri_enum r⟩
/-! comprehensions -/
theorem rd_yes : RdB K mg W tYes vYes where
  run := fun G hG B H σ e Q S h => Po.here h S (show true = true from rfl)
theorem vts_nil : VTs K mg X W [] vYes := ⟨_, fun _ => pts_nil, rd_yes⟩
theorem vts_one {mt : MB} (h : VT K mg X W e mt) : VTs K mg X W [e] mt := let ⟨_, p, r⟩ := h; ⟨_, fun i => pts_one (p i), r⟩
theorem vf_lc {elt : Expr} {ifs : List Expr} {scope : Scope} {own : List (Str × Nat)} {mi : MA} {gm : D → Env → Option Env} {mt : MB} {me : ME} (hc : ∀ j, (X j).calm = true) (hN : ∀ j, (X j).N.Nodup) (hi : VI K mg X W tg it mi) (ok : ∀ j, BlkOk (X j).N (X j).env.scope scope own)
    (hg : VG K (blkF X scope) (own.map (·.2)) tg gm) (ht : VTs K mg (blkF X scope) (W.to Wn) ifs mt) (he : VE K mg (blkF X scope) (W.to Wn) elt me) (hs : ∀ j x, foldedSetIterable it (X j).env x = pure x := by intro _ _; rfl) :
    VF K mg X W (.ListComp elt [⟨tg, it, ifs, 0⟩] scope pos) (vLc mi gm mt me (own.map (·.2))) := by
  obtain ⟨wi, pi, ri⟩ := hi
  obtain ⟨g, pg, rg⟩ := hg
  obtain ⟨t, pt, rt⟩ := ht
  obtain ⟨te, pe, re⟩ := he
  exact ⟨_, fun i => pe_lc (hc i) (hN i) (pi i) (ok i) (fun s H C cl fp => pg (i, s, H, C, cl, fp)) (fun s H C cl fp => pt (i, s, H, C, cl, fp)) (fun s H C cl fp => pe (i, s, H, C, cl, fp)) (hs i), rd_lc ri rg rt re⟩
end
section
variable {X : Cx} {W : Am X.K} {pos : Pos} {a b c e o i it tg : Expr} {es : List Expr} {ma mb mc m mi : ME} {ms : MA} {k : Bool} {st : Stmt} {body rest : List Stmt} {mm mn : MS}
/-! statements -/
theorem vss_nil : VSs X W k [] vNext := ⟨_, pss_nil, rs_next⟩
theorem vss_cons (h : VS X W k st mm) (hr : VSs X W k rest mn) : VSs X W k (st :: rest) (vSeq mm mn) := let ⟨_, p, r⟩ := h; let ⟨_, p', r'⟩ := hr; ⟨_, pss_cons p p', rs_seq r r'⟩
theorem vs_expr (h : VE X.K X.mg (at1 X) W e m) (hs : swapsWith e none pos.line X.env = pure false := by rfl) : VS X W k (.Expr e pos) (vDrop m) := let ⟨_, p, r⟩ := h; ⟨_, ps_expr (p ()) hs, rs_drop r⟩
theorem vs_ret (h : VE X.K X.mg (at1 X) W e m) : VS X W false (.Return (some e) pos) (vRet m) := let ⟨_, p, r⟩ := h; ⟨_, ps_ret (p ()), rs_ret r⟩
theorem vs_retF (h : VF X.K X.mg (at1 X) W e ms) : VS X W true (.Return (some e) pos) (vRetF ms) := let ⟨_, p, r⟩ := h; ⟨_, ps_ret (p ()), rs_retF r⟩
theorem vs_retN : VS X W false (.Return none pos) vRetN := ⟨_, ps_retN, rs_retN⟩
theorem vs_if {mt : MB} (h : VT X.K X.mg (at1 X) W c mt) (ha : VSs X W k body mm) (hb : VSs X W k rest mn) : VS X W k (.If c body rest pos) (vIf mt mm mn) := let ⟨_, p, r⟩ := h; let ⟨_, p', r'⟩ := ha; let ⟨_, p2, r2⟩ := hb; ⟨_, ps_if (p ()) p' p2, rs_if r r' r2⟩
theorem vs_pass : VS X W k (.Pass pos) vPass := ⟨_, ps_pass, rs_next⟩
theorem vs_break : VS X W k (.Break pos) vBreak := ⟨_, ps_break, rs_break⟩
theorem vs_never : VS X W k st (fun _ => .bot) := ⟨_, ps_never, rs_never⟩
section
variable {x : Str} {pos' : Pos}
theorem vs_set (i : Nat) (hN : X.N.Nodup) (he : VE X.K X.mg (at1 X) W e m) (hi : X.N[i]? = some x := by rfl) (hx : Loc X.env.scope x := by first | exact Or.inl rfl | exact Or.inr rfl) (hs : swapsWith e (some (.Name x pos')) pos.line X.env = pure false := by rfl) (hf : X.fn x = true ∨ X.env.scope.names.lookup x = some .local := by first | exact .inl rfl | exact .inr rfl) :
    VS X W k (.Assign [.Name x pos'] e pos) (vAsg m (gNam i)) := let ⟨_, p, r⟩ := he; ⟨_, ps_set hN hi hx (p ()) hs hf, rs_asg r (rg_name i)⟩
theorem vs_setF (i : Nat) (hN : X.N.Nodup) (he : VF X.K X.mg (at1 X) W e ms) (hi : X.N[i]? = some x := by rfl) (hx : Loc X.env.scope x := by first | exact Or.inl rfl | exact Or.inr rfl) (hs : swapsWith e (some (.Name x pos')) pos.line X.env = pure false := by rfl) (hf : X.fn x = true ∨ X.env.scope.names.lookup x = some .local := by first | exact .inl rfl | exact .inr rfl) :
    VS X W k (.Assign [.Name x pos'] e pos) (vAsgF i ms) := let ⟨_, p, r⟩ := he; ⟨_, ps_set hN hi hx (p ()) hs hf, rs_asgF r⟩
/-- x = [..]: the comprehension's list, x's own (F) or handed out -/
theorem vs_setLcF {elt : Expr} {ifs : List Expr} {scope : Scope} {own : List (Str × Nat)} {mi : MA} {gm : D → Env → Option Env} {mt : MB} {me : ME} {cpos : Pos} (i : Nat) (hc : X.calm = true) (hN : X.N.Nodup) (hi : VI X.K X.mg (at1 X) W tg it mi) (ok : BlkOk X.N X.env.scope scope own)
    (hg : VG X.K (blkF (at1 X) scope) (own.map (·.2)) tg gm) (ht : VTs X.K X.mg (blkF (at1 X) scope) (W.to Wn) ifs mt) (he : VE X.K X.mg (blkF (at1 X) scope) (W.to Wn) elt me)
    (hsw : swapsWith (.ListComp elt [⟨tg, it, ifs, 0⟩] scope cpos) (some (.Name x pos')) pos.line X.env = pure true) (hi' : X.N[i]? = some x := by rfl) (hyl : X.env.scope.names.lookup x = some .local := by rfl) (hs : ∀ x, foldedSetIterable it X.env x = pure x := by intro _; rfl) :
    VS X W k (.Assign [.Name x pos'] (.ListComp elt [⟨tg, it, ifs, 0⟩] scope cpos) pos) (vAsgF i (vLc mi gm mt me (own.map (·.2)))) := by
  obtain ⟨wi, pi, ri⟩ := hi
  obtain ⟨g, pg, rg⟩ := hg
  obtain ⟨t, pt, rt⟩ := ht
  obtain ⟨te, pe, re⟩ := he
  exact ⟨_, ps_setLc hc hN hi' hyl hsw (pi ()) ok (fun s H C cl fp => pg ((), s, H, C, cl, fp)) (fun s H C cl fp => pt ((), s, H, C, cl, fp)) (fun s H C cl fp => pe ((), s, H, C, cl, fp)) hs, rs_asgF (rd_lc ri rg rt re)⟩
theorem vs_setLc {elt : Expr} {ifs : List Expr} {scope : Scope} {own : List (Str × Nat)} {mi : MA} {gm : D → Env → Option Env} {mt : MB} {me : ME} {cpos : Pos} (i : Nat) (hc : X.calm = true) (hN : X.N.Nodup) (hi : VI X.K X.mg (at1 X) W tg it mi) (ok : BlkOk X.N X.env.scope scope own)
    (hg : VG X.K (blkF (at1 X) scope) (own.map (·.2)) tg gm) (ht : VTs X.K X.mg (blkF (at1 X) scope) (W.to Wn) ifs mt) (he : VE X.K X.mg (blkF (at1 X) scope) (W.to Wn) elt me)
    (hsw : swapsWith (.ListComp elt [⟨tg, it, ifs, 0⟩] scope cpos) (some (.Name x pos')) pos.line X.env = pure true) (hi' : X.N[i]? = some x := by rfl) (hyl : X.env.scope.names.lookup x = some .local := by rfl) (hs : ∀ x, foldedSetIterable it X.env x = pure x := by intro _; rfl) :
    VS X W k (.Assign [.Name x pos'] (.ListComp elt [⟨tg, it, ifs, 0⟩] scope cpos) pos) (vAsg (vOf (vLc mi gm mt me (own.map (·.2)))) (gNam i)) := by
  obtain ⟨wi, pi, ri⟩ := hi
  obtain ⟨g, pg, rg⟩ := hg
  obtain ⟨t, pt, rt⟩ := ht
  obtain ⟨te, pe, re⟩ := he
  exact ⟨_, ps_setLc hc hN hi' hyl hsw (pi ()) ok (fun s H C cl fp => pg ((), s, H, C, cl, fp)) (fun s H C cl fp => pt ((), s, H, C, cl, fp)) (fun s H C cl fp => pe ((), s, H, C, cl, fp)) hs, rs_asg (rd_of (rd_lc ri rg rt re)) (rg_name i)⟩
/-- targets of other forms -/
theorem vs_asg {o : List Nat} {g : D → Env → Option Env} (he : VE X.K X.mg (at1 X) W e m) (hg : VG X.K (at1 X) o tg g) (hs : swapsWithSole [tg] e pos.line X.env = pure false := by rfl) (hw : swappedStores [tg] e X.env = pure none := by rfl)
    (h1 : (assignEach [tg] X.env).map (·.2) = [assign tg X.env] := by rfl) : VS X W k (.Assign [tg] e pos) (vAsg m g) := let ⟨_, p, r⟩ := he; let ⟨_, p', r'⟩ := hg; ⟨_, ps_asg (p ()) (p' ()) hs hw h1, rs_asg r r'⟩
theorem vs_par {i j : Nat} {y : Str} {px py pt : Pos} {kt k2 pt2} (hc : X.calm = true) (hN : X.N.Nodup) (hij : i ≠ j) (ha : VE X.K X.mg (at1 X) W a ma) (hb : VE X.K X.mg (at1 X) W b mb) (hi : X.N[i]? = some x := by rfl) (hj : X.N[j]? = some y := by rfl)
    (hx : X.env.scope.names.lookup x = some .local := by rfl) (hy : X.env.scope.names.lookup y = some .local := by rfl) (h2 : starEach [a, b] X.env = (false, eval a X.env) :: starEach [b] X.env := by rfl) (h3 : starEach [b] X.env = (false, eval b X.env) :: starEach [] X.env := by rfl)
    (hw : swappedStores [.Tuple [.Name x px, .Name y py] kt pt] (.Tuple [a, b] k2 pt2) X.env = pure (some [x, y]) := by rfl)
    (hs : swapsWithSole [.Tuple [.Name x px, .Name y py] kt pt] (.Tuple [a, b] k2 pt2) pos.line X.env = pure false := by rfl) :
    VS X W k (.Assign [.Tuple [.Name x px, .Name y py] kt pt] (.Tuple [a, b] k2 pt2) pos) (vPar i j ma mb) := let ⟨_, p, r⟩ := ha; let ⟨_, p', r'⟩ := hb; ⟨_, ps_par hc hN hi hj hij hx hy (pa_cons (p ()) (pa_cons (p' ()) pa_nil h3) h2) hw hs, rs_par r r'⟩
theorem vs_augAdd (i : Nat) (hN : X.N.Nodup) (he : VE X.K X.mg (at1 X) W e m) (hi : X.N[i]? = some x := by rfl) (hx : Loc X.env.scope x := by first | exact Or.inl rfl | exact Or.inr rfl) (hf : X.fn x = true ∨ X.env.scope.names.lookup x = some .local := by first | exact .inl rfl | exact .inr rfl) :
    VS X W k (.AugAssign (.Name x pos') .Add e pos) (vAug i (fun a b => match a, b with
      | .int i, .int j => some (.int (i + j))
      | _, _ => none) m) := let ⟨_, p, r⟩ := he; ⟨_, ps_aug hN hi hx (p ()) ip_add hf, rs_aug (fun G B H σ e x y a b d Q S r1 r2 hd h => by
    cases a with
    | int u =>
      cases b with
      | int v =>
        cases hd
        cases r1
        cases r2
        exact ⟨_, _, rfl, rfl, Po.here h S (.int _)⟩
      | _ => cases hd
    | _ => cases hd) r⟩
/-- methods of owned lists, as statements -/
theorem vs_app (i : Nat) {p apos cpos : Pos} (he : VE X.K X.mg (at1 X) W e m) (hN : X.N[i]? = some x := by rfl) (hv : Vis X.env.scope x := by first | exact Or.inl rfl | exact Or.inr (Or.inl rfl) | exact Or.inr (Or.inr rfl)) (hd : (x == ("__debug__" : Str)) = false := by decide)
    (hcd : (x == ("__classdict__" : Str)) = false := by decide) (hbase : attributeBase (.Name x p) "append" X.env (eval (.Name x p) X.env) = eval (.Name x p) X.env := by rfl)
    (hfew : ((backTo cpos (starEach [e] X.env)).all (fun x => !x.1) && (backToKw cpos (keywordEach [] X.env)).all (fun x => x.1.isSome) && decide ([e].length + ([] : List Keyword).length + (if ([] : List Keyword).isEmpty then 0 else 1) < 30)) = true := by rfl)
    (hline : (apos.endLine == cpos.line) = true := by rfl) (hs1 : starEach [e] X.env = (false, eval e X.env) :: starEach [] X.env := by rfl) (hplain : (backTo cpos (starEach [] X.env)).any (·.1) = false := by rfl)
    (hs : swapsWith (.Call (.Attribute (.Name x p) "append" apos) [e] [] cpos) none pos.line X.env = pure false := by rfl) : VS X W k (.Expr (.Call (.Attribute (.Name x p) "append" apos) [e] [] cpos) pos) (vApp i m) :=
  let ⟨_, q, r⟩ := he; ⟨_, ps_expr (pe_bm PySem.F.plainAttrs_list PySem.F.slot_list_append PySem.F.type_list_append mt_append (pe_var hN hv hd hcd) (pa_cons (q ()) pa_nil hs1) hbase hfew hline hs1 hplain) hs, rs_app r⟩
/-- xs[i] = e -/
theorem vs_sub (i : Nat) {p tpos : Pos} {ix : Expr} {mx : ME} (he : VE X.K X.mg (at1 X) W e m) (hx : VE X.K X.mg (at1 X) W ix mx) (hN : X.N[i]? = some x := by rfl) (hv : Vis X.env.scope x := by first | exact Or.inl rfl | exact Or.inr (Or.inl rfl) | exact Or.inr (Or.inr rfl)) (hd : (x == ("__debug__" : Str)) = false := by decide)
    (hcd : (x == ("__classdict__" : Str)) = false := by decide) (hs : swapsWithSole [.Subscript (.Name x p) ix tpos] e pos.line X.env = pure false := by rfl) (hw : swappedStores [.Subscript (.Name x p) ix tpos] e X.env = pure none := by rfl)
    (h1 : (assignEach [.Subscript (.Name x p) ix tpos] X.env).map (·.2) = [assign (.Subscript (.Name x p) ix tpos) X.env] := by rfl)
    (ha : ∀ v, assign (.Subscript (.Name x p) ix tpos) X.env v = (do
      let ov ← holding [v] (eval (.Name x p) X.env)
      let iv ← holding [v, ov] (eval ix X.env)
      standAt tpos
      holding [v, ov, iv] (setItem ov iv v)
      release [v, ov, iv] []) := by intro _; rfl) : VS X W k (.Assign [.Subscript (.Name x p) ix tpos] e pos) (vSet i mx m) :=
  let ⟨_, q, r⟩ := he; let ⟨_, q', r'⟩ := hx; ⟨_, ps_asg (q ()) (pg_sub (pe_var hN hv hd hcd) (q' ()) set_list ha) hs hw h1, rs_set r r'⟩
end
theorem vs_for {o : List Nat} {mi : MA} {g : D → Env → Option Env} (hp : PassesOwn (model X.prog X.w) X.A X.env X.xe) (hc : X.calm = true) (hi : VI X.K X.mg (at1 X) W tg it mi) (hg : VG X.K (at1 X) o tg g) (hb : VSs X W k body mm) (hs : ∀ x, foldedSetIterable it X.env x = pure x := by intro _; rfl) :
    VS X W k (.For tg it body [] pos) (vFor mi g mm) := let ⟨_, p, r⟩ := hi; let ⟨_, p', r'⟩ := hg; let ⟨_, p2, r2⟩ := hb; ⟨_, ps_for hp hc (p ()) (p' ()) p2 hs, rs_for r r' r2⟩
theorem vs_while {mt : MB} (hp : PassesOwn (model X.prog X.w) X.A X.env X.xe) (h : VT X.K X.mg (at1 X) W c mt) (hb : VSs X W k body mm) : VS X W k (.While c body [] pos) (vWhile mt mm) := let ⟨_, p, r⟩ := h; let ⟨_, p', r'⟩ := hb; ⟨_, ps_while hp (p ()) p', rs_while r r'⟩
/-! raise -/
theorem pmk_own0 {C : Addr} {bmB : List Value} {B newId initId : String} {x : Str} {p pos : Pos} (F : ExcBaseFacts B newId initId bmB) (q : PySem.W.excIn X.K C bmB newId = true) (gC : X.mg x = some (.ref C)) (kC : PySem.W.keepIn X.K (.ref C) = true) (r : Raises X (.ref C)) (hg : Gl X x)
    (hdb : (x == ("__debug__" : Str)) = false := by decide) : PMk X (.Call (.Name x p) [] [] pos) (fun _ H Q => Q (.ref C) none H) := by
  intro pins s σ H Q I h
  refine wpAny_Call_Name_kw (ld_glob I hg gC ?_ hdb)
  refine PySem.W.callWith_K0 I.kIn kC ?_
  obtain ⟨bm, N, nm, qn, bs, hdct, sn, sub, ab, col, dd, k0, k1, k2, k3, k5, mN, hC, hN, hni, T⟩ := exc_obj I.kIn q
  refine wpAny_call_exc_subT F T hC hN hni (fun h' e hm => ?_) (by show 0 ≤ sizeLine; omega)
  exact mk_of I hm r h (I.hok.gone hm.new)
theorem rs_raise {x : Str} {C : Addr} (hm : X.mg x = some (.ref C)) : RdS X.K X.mg W k (fun _ σ H => W.w (.ref C) none σ H) (vRaise x) := fun G hG B H σ e D S h => h (.ref C) none σ B H S (Same.refl B) ⟨C, hm, rfl, rfl⟩
/-- what the text's classes of errors are, as the top has made them -/
structure ExcCls (K : PySem.W.Frag) (mg : Str → Option Value) (x : Str) (C : Addr) : Prop where
  g : mg x = some (.ref C)
  q : PySem.W.excIn K C [.type "ValueError", .type "Exception", .type "BaseException", .type "object"] "ValueError.__new__" = true
  k : PySem.W.keepIn K (.ref C) = true
  b : PySem.W.subIn K (.ref C) (.type "BaseException") = some true
  t : PySem.W.typeIn K (.ref C) = some (.type "type")
theorem vs_raise0 {x : Str} {C : Addr} {p cpos : Pos} (T : ExcCls X.K X.mg x C) (tk : Takes X W.w) (hc : X.calm = true) (hg : Gl X x := by rfl) (hdb : (x == ("__debug__" : Str)) = false := by decide) : VS X W k (.Raise (some (.Call (.Name x p) [] [] cpos)) none pos) (vRaise x) :=
  ⟨_, ps_raise hc tk (pmk_own0 PySem.F.excBase_ValueError T.q T.g T.k (raises_own T.b T.t) hg hdb), rs_raise T.g⟩
theorem vs_raise1 {x m : Str} {C : Addr} {j : Nat} {p p2 cpos : Pos} (T : ExcCls X.K X.mg x C) (tk : Takes X W.w) (hc : X.calm = true) (hg : Gl X x := by rfl) (hdb : (x == ("__debug__" : Str)) = false := by decide) : VS X W k (.Raise (some (.Call (.Name x p) [.Constant (.str m) j p2] [] cpos)) none pos) (vRaise x) :=
  ⟨_, ps_raise hc tk (pmk_own PySem.F.excBase_ValueError T.q T.g T.k (raises_own T.b T.t) hg hdb), rs_raise T.g⟩
end

/-! ### a def by its body -/
section
variable {P : Program} {w : World} {K : PySem.W.Frag} {mg : Str → Option Value} {base : Heap}
theorem start_sto {N : List Str} {B H : Hp} {vs : List V} {ds : List D} (sm : Same B H) (r : Reps K B vs ds) (hl : ds.length ≤ N.length) : Sto K ⟨H, B, [], fun _ => 0⟩ B H (L2.start N vs) (ds.map Sl.sh ++ List.replicate (N.length - ds.length) .no) where
  len := by
    unfold L2.start
    have := r.length
    simp only [List.length_append, List.length_map, List.length_replicate]
    omega
  sl := fun i s h => by
    have hv := r.length
    unfold L2.start
    by_cases hi : i < ds.length
    · rw [List.getElem?_append_left (by rw [List.length_map]; exact hi), List.getElem?_map] at h
      cases z : ds[i]? with
      | none => rw [z] at h; cases h
      | some d =>
        rw [z] at h
        cases h
        obtain ⟨v, e1, rv⟩ := r.get z
        refine ⟨some v, ?_, .sh rv⟩
        rw [List.getElem?_append_left (by rw [List.length_map, hv]; exact hi), List.getElem?_map, e1] <;> rfl
    · have hlen := (List.getElem?_eq_some_iff.mp h).1
      rw [List.getElem?_append_right (by rw [List.length_map]; omega), List.getElem?_replicate] at h
      split at h
      · cases h
        simp only [List.length_append, List.length_map, List.length_replicate] at hlen
        have q : i < (vs.map some ++ List.replicate (N.length - vs.length) (none : Option V)).length := by simp only [List.length_append, List.length_map, List.length_replicate]; omega
        exact ⟨_, List.getElem?_eq_getElem q, .no⟩
      · cases h
  dis := fun i j p b b' es es' h1 => by
    exfalso
    by_cases hi : i < ds.length
    · rw [List.getElem?_append_left (by rw [List.length_map]; exact hi), List.getElem?_map] at h1
      cases z : ds[i]? with
      | none => rw [z] at h1; cases h1
      | some d => rw [z] at h1; cases h1
    · rw [List.getElem?_append_right (by rw [List.length_map]; omega), List.getElem?_replicate] at h1
      split at h1 <;> cases h1
  sub := sm
  b0 := Same.refl B
  keep := fun a o h _ => h
  dom := fun a h => h
  new := fun a h => .inl h
  iom := fun a h => by simp at h
theorem Sto.out {B H B' H' : Hp} {σ : L2.St} {e : Env} (S : Sto K ⟨H, B, [], fun _ => 0⟩ B' H' σ e) : Same H H' ∧ Same B B' ∧ Same B' H' ∧ News' B H B' := ⟨fun a o h => S.keep a o h (by simp), S.b0, S.sub, S.new⟩
theorem len_of {np n : Nat} {m : MS} {K : PySem.W.Frag} {mg : Str → Option Value} : (∀ vs H Q E, spV K mg (runB np n m) vs H Q E → vs.length = np) ∧ ∀ vs H Q E, spF K mg (runB np n m) vs H Q E → vs.length = np := by
  refine ⟨fun vs H Q E h => ?_, fun vs H Q E h => ?_⟩
  · obtain ⟨B, ds, sm, r, h⟩ := h
    rw [r.length]
    by_cases q : ds.length = np
    · exact q
    · unfold runB at h
      rw [if_neg q] at h
      exact h.elim
  · obtain ⟨B, ds, sm, r, h⟩ := h
    rw [r.length]
    by_cases q : ds.length = np
    · exact q
    · unfold runB at h
      rw [if_neg q] at h
      exact h.elim
/-- a def that hands back a value -/
theorem fn_V {x qual : Str} {st : Stmt} {f : Addr} {fd : FuncData} {N ps : List Str} {k : Nat} {m : MS} (F : Fun K x qual st f fd) (S : FnScope N ps (defScope st)) (hl : ps.length ≤ N.length)
    (hbody : ∀ (cdv : Value) (A : Around) (outer : List PySem.Env) (s : Shared) (H : Hp) (E : XK), Room k (A.deeper (envOfC qual (defScope st) s.heap.objs.size f cdv)) →
      VSs (cxOf (L2.CX P w) P w K mg base N qual (defScope st) f cdv A outer s H E) (Am.of K fun cls d _ H => E cls d H) false (defBody st) m) :
    FnOk P w K mg base (L2.CX P w) (k + 1) f fd ps (spV K mg (runB ps.length N.length m)) := by
  refine F.okX S len_of.1 (fun cdv A outer s H vs Q E hr h => ?_)
  obtain ⟨B, ds, sm, r, h⟩ := h
  obtain ⟨t, pt, rt⟩ := hbody cdv A outer s H E hr
  refine ⟨t, pt, rt ⟨H, B, [], fun _ => 0⟩ trivial B H _ _ _ (start_sto sm r (by
    by_cases q : ds.length = ps.length
    · omega
    · unfold runB at h; rw [if_neg q] at h; exact h.elim)) ?_⟩
  have q : ds.length = ps.length := by
    by_cases q : ds.length = ps.length
    · exact q
    · unfold runB at h; rw [if_neg q] at h; exact h.elim
  unfold runB at h
  rw [if_pos q] at h
  rw [q]
  cases z : m (ds.map Sl.sh ++ List.replicate (N.length - ps.length) .no) with
  | nx e' =>
    rw [z] at h
    exact fun σ' B' H' S' _ => let ⟨a1, a2, a3, a4⟩ := S'.out; h .non B' H' a1 a2 a3 a4 .non
  | rt d e' =>
    rw [z] at h
    refine fun v σ' B' H' S' _ ro => let ⟨a1, a2, a3, a4⟩ := S'.out; h v B' H' a1 a2 a3 a4 ?_
    unfold RetOk at ro
    rw [if_neg Bool.false_ne_true] at ro
    exact ro
  | bk e' => rw [z] at h; exact h.elim
  | ct e' => rw [z] at h; exact h.elim
  | err x e' =>
    rw [z] at h
    exact fun c dd σ' B' H' S' _ xr => let ⟨a1, a2, a3, a4⟩ := S'.out; h c dd B' H' a1 a2 a3 a4 xr
  | bot => rw [z] at h; exact h.elim
/-- a def that hands back a new list -/
theorem fn_F {x qual : Str} {st : Stmt} {f : Addr} {fd : FuncData} {N ps : List Str} {k : Nat} {m : MS} (F : Fun K x qual st f fd) (S : FnScope N ps (defScope st)) (hl : ps.length ≤ N.length)
    (hbody : ∀ (cdv : Value) (A : Around) (outer : List PySem.Env) (s : Shared) (H : Hp) (E : XK), Room k (A.deeper (envOfC qual (defScope st) s.heap.objs.size f cdv)) →
      VSs (cxOf (L2.CX P w) P w K mg base N qual (defScope st) f cdv A outer s H E) (Am.of K fun cls d _ H => E cls d H) true (defBody st) m) :
    FnOk P w K mg base (L2.CX P w) (k + 1) f fd ps (spF K mg (runB ps.length N.length m)) := by
  refine F.okX S len_of.2 (fun cdv A outer s H vs Q E hr h => ?_)
  obtain ⟨B, ds, sm, r, h⟩ := h
  obtain ⟨t, pt, rt⟩ := hbody cdv A outer s H E hr
  have q : ds.length = ps.length := by
    by_cases q : ds.length = ps.length
    · exact q
    · unfold runB at h; rw [if_neg q] at h; exact h.elim
  refine ⟨t, pt, rt ⟨H, B, [], fun _ => 0⟩ trivial B H _ _ _ (start_sto sm r (by omega)) ?_⟩
  unfold runB at h
  rw [if_pos q] at h
  rw [q]
  cases z : m (ds.map Sl.sh ++ List.replicate (N.length - ps.length) .no) with
  | nx e' => rw [z] at h; exact h.elim
  | rt d e' =>
    rw [z] at h
    refine fun v σ' B' H' S' _ ro => ?_
    unfold RetOk at ro
    rw [if_pos rfl] at ro
    obtain ⟨rs, rfl, p, ws, rfl, hp, hb, hg, no, rr⟩ := ro
    obtain ⟨a1, a2, a3, a4⟩ := S'.out
    exact h p ws B' H' a1 a2 a3 a4 hg hb hp rr
  | bk e' => rw [z] at h; exact h.elim
  | ct e' => rw [z] at h; exact h.elim
  | err x e' =>
    rw [z] at h
    exact fun c dd σ' B' H' S' _ xr => let ⟨a1, a2, a3, a4⟩ := S'.out; h c dd B' H' a1 a2 a3 a4 xr
  | bot => rw [z] at h; exact h.elim
/-- a promise of a better meaning -/
theorem spV_eq {fn fn' : List D → FR} (h : fn = fn') {f : Addr} {fd : FuncData} {k : Nat} {ps : List Str} (F : FnOk P w K mg base (L2.CX P w) k f fd ps (spV K mg fn)) : FnOk P w K mg base (L2.CX P w) k f fd ps (spV K mg fn') := h ▸ F
/-- the law's end -/
theorem law_ok {fn : List D → FR} (hfn : ∀ ns : List Int, ns.length ≤ 63 → fn [.lst (ns.map D.int)] = .ok (.bl true)) (H : Hp) (a : Addr) (ns : List Int) (hl : ns.length ≤ 63) (hS : SqL K H a (ns.map V.int)) : spV K mg fn [.ref a] H (fun v _ => v = .bl true) fun _ _ _ => False := by
  refine ⟨H, [.lst (ns.map D.int)], Same.refl H, .cons (.lst hS Rep.ints) .nil, ?_⟩
  rw [hfn ns hl]
  intro v B' H' _ _ _ _ r
  cases r
  rfl
end
end VL

/-! VL10: the text's defs by their names. -/
namespace VL
open PySem PySem.Spec PyProof.Rows L2
/-- every parameter is written -/
def Bnd (fd : FuncData) (ps : List Str) : Prop := ∀ (s : Shared) (us : List Value), us.length = ps.length → BindsTo s fd ⟨us, []⟩ (ps.zip us)
theorem Bnd.b {K : PySem.W.Frag} {fd : FuncData} {ps : List Str} (h : Bnd fd ps) : Binds K fd ps [] := fun s us _ hl => by
  rw [List.append_nil] at hl ⊢
  exact h s us hl
/-- a def of the top -/
def Def1 (K : PySem.W.Frag) (mg : Str → Option Value) (x : Str) (st : Stmt) (ps : List Str) : Prop := ∃ f fd, Fun K x x st f fd ∧ mg x = some (.ref f) ∧ Bnd fd ps
/-- a def and its promise -/
def Ok1 (P : Program) (w : World) (K : PySem.W.Frag) (mg : Str → Option Value) (x : Str) (ps : List Str) (k : Nat) (sp : Sp) : Prop :=
  ∃ f fd, mg x = some (.ref f) ∧ PySem.W.keepIn K (.ref f) = true ∧ Bnd fd ps ∧ ∀ base, FnOk P w K mg base (L2.CX P w) k f fd ps sp
section
variable {P : Program} {w : World} {K : PySem.W.Frag} {mg : Str → Option Value} {x : Str} {st : Stmt} {N ps : List Str} {k : Nat} {m : MS}
theorem Def1.V (d : Def1 K mg x st ps) (S : FnScope N ps (defScope st)) (hl : ps.length ≤ N.length)
    (hbody : ∀ (base : Heap) (f : Addr) (cdv : Value) (A : Around) (outer : List PySem.Env) (s : Shared) (H : Hp) (E : XK), Room k (A.deeper (envOfC x (defScope st) s.heap.objs.size f cdv)) →
      VSs (cxOf (L2.CX P w) P w K mg base N x (defScope st) f cdv A outer s H E) (Am.of K fun cls d _ H => E cls d H) false (defBody st) m) : Ok1 P w K mg x ps (k + 1) (spV K mg (runB ps.length N.length m)) :=
  let ⟨f, fd, F, g, b⟩ := d; ⟨f, fd, g, F.kp, b, fun base => fn_V F S hl (hbody base f)⟩
theorem Def1.F (d : Def1 K mg x st ps) (S : FnScope N ps (defScope st)) (hl : ps.length ≤ N.length)
    (hbody : ∀ (base : Heap) (f : Addr) (cdv : Value) (A : Around) (outer : List PySem.Env) (s : Shared) (H : Hp) (E : XK), Room k (A.deeper (envOfC x (defScope st) s.heap.objs.size f cdv)) →
      VSs (cxOf (L2.CX P w) P w K mg base N x (defScope st) f cdv A outer s H E) (Am.of K fun cls d _ H => E cls d H) true (defBody st) m) : Ok1 P w K mg x ps (k + 1) (spF K mg (runB ps.length N.length m)) :=
  let ⟨f, fd, F, g, b⟩ := d; ⟨f, fd, g, F.kp, b, fun base => fn_F F S hl (hbody base f)⟩
end
section
variable {ι : Type} {K : PySem.W.Frag} {mg : Str → Option Value} {X : ι → Cx} {W : Am K} {P : Program} {w : World} {base : Heap} {pos : Pos} {e : Expr} {es : List Expr} {ms : MA} {j k : Nat} {ps : List Str} {fn : List D → FR} {x : Str} {p : Pos}
theorem ve_cal (o : Ok1 P w K mg x ps j (spV K mg fn)) (hr : ∀ i, Room k (X i).A) (tk : ∀ i, Takes (X i) W.w) (ha : VA K mg X W (e :: es) ms) (hX : IsX X P w K mg base := by intro _; exact ⟨rfl, rfl, rfl, rfl, rfl⟩) (hj : j ≤ k := by decide) (hg : ∀ i, Gl (X i) x := by intro _; rfl) (hdb : (x == ("__debug__" : Str)) = false := by decide)
    (he : ∀ i, starEach (e :: es) (X i).env = (false, eval e (X i).env) :: starEach es (X i).env := by intro _; rfl) (hpl : ∀ i, (backTo pos (starEach es (X i).env)).any (·.1) = false := by intro _; rfl) : VE K mg X W (.Call (.Name x p) (e :: es) [] pos) (vCall fn ms) :=
  let ⟨_, _, g, kp, b, F⟩ := o; ve_call (F base) hX hr hj g kp b.b tk ha hg hdb he hpl
theorem vf_cal (o : Ok1 P w K mg x ps j (spF K mg fn)) (hr : ∀ i, Room k (X i).A) (tk : ∀ i, Takes (X i) W.w) (ha : VA K mg X W (e :: es) ms) (hX : IsX X P w K mg base := by intro _; exact ⟨rfl, rfl, rfl, rfl, rfl⟩) (hj : j ≤ k := by decide) (hg : ∀ i, Gl (X i) x := by intro _; rfl) (hdb : (x == ("__debug__" : Str)) = false := by decide)
    (he : ∀ i, starEach (e :: es) (X i).env = (false, eval e (X i).env) :: starEach es (X i).env := by intro _; rfl) (hpl : ∀ i, (backTo pos (starEach es (X i).env)).any (·.1) = false := by intro _; rfl) : VF K mg X W (.Call (.Name x p) (e :: es) [] pos) (vCallF fn ms) :=
  let ⟨_, _, g, kp, b, F⟩ := o; vf_call (F base) hX hr hj g kp b.b tk ha hg hdb he hpl
end
/-! ### the head -/
theorem Fun.of_funD {K : PySem.W.Frag} {x : Str} {st : Stmt} {f : Addr} {fd : FuncData} (F : FunD K x x (defArgs st) (defBody st) (defScope st) [] [] f fd) : Fun K x x st f fd := by
  obtain ⟨oc, od, dV, kV, doc, pm, an, cdv, ct, osl, rfl, lk, hcd, hd, _⟩ := F.ex
  have e : dV = .none := by
    rcases hd with ⟨_, e⟩ | ⟨h, _⟩
    · exact e
    · exact absurd rfl h
  subst e
  exact ⟨⟨oc, od, kV, doc, pm, an, cdv, ct, osl, rfl, lk, hcd⟩, F.kp⟩
abbrev defD (x : Str) (st : Stmt) : He.DefD := ⟨(x, none), x, x, defArgs st, defBody st, defScope st, [], []⟩
theorem def1_of {K : PySem.W.Frag} {h : Heap} {mg : Str → Option Value} {x : Str} {st : Stmt} {ps : List Str} (e : ∃ fd, FunD K x x (defArgs st) (defBody st) (defScope st) [] [] (He.fAd K (x, none)) fd) (X : K.In h) (G : h.Ns mainGlobals mg) (c : (He.Fa.glo x).ok K = true)
    (hb : ∀ (kV doc pm : Value) (an : Option Addr) (cdv ct : Value) (us : List Value), us.length = ps.length → bindArgs (PySem.W.fnOf x x (defArgs st) (defBody st) (defScope st) .none kV doc pm an cdv ct) ⟨us, []⟩ = pure (ps.zip us)) : Def1 K mg x st ps :=
  let ⟨fd, F⟩ := e; ⟨_, fd, Fun.of_funD F, He.glo_ok X G c, fun s us hl => F.bindsA hb s us hl⟩
theorem excCls_of {K : PySem.W.Frag} {h : Heap} {mg : Str → Option Value} {x : Str} (X : K.In h) (G : h.Ns mainGlobals mg) (g : (He.Fa.glo x).ok K = true) (c : (He.Fa.exc x).ok K = true) : ∃ C, ExcCls K mg x C :=
  let ⟨q, k, b, t⟩ := He.exc_ok c; ⟨_, ⟨He.glo_ok X G g, q, k, b, t⟩⟩
/-- the law's end -/
theorem law_walk {l : PySem.W.OpenLaw} {k : Nat} {q : Program} {lo : List Str} {XP : (Str → Option Value) → Heap → Prop} {YP : World → Heap → Prop} {d : DefRec} {x : Str} {fn : List D → FR} (hn : l.most = some 63) (hdf : d.params.defaults = []) (hna : d.name = ("law" : Str)) (hr : Room k callerA)
    (hfn : ∀ ns : List Int, ns.length ≤ 63 → fn [.lst (ns.map D.int)] = .ok (.bl true))
    (hY : ∀ (w : World) (mg : Str → Option Value) (h : Heap), YP w h → h.Ns mainGlobals mg → ∃ K : PySem.W.Frag, K.In h ∧ Ok1 l.prog w K mg "law" [x] k (spV K mg fn)) :
    PySem.W.WalkO q lo XP YP l.row.toRowW d [] (fun f vs => PySem.call f vs) :=
  Att.attach_call hn hdf fun w sa sb mg mb fa ob pm cd doc ad vals ns Gd Yd hob hdd hcd hmg hobj hints hlen hge => by
    obtain ⟨K, KX, f, fd, g, kp, b, F⟩ := hY w mg _ Yd Gd.T.g
    rw [hna] at hmg
    cases g.symm.trans hmg
    refine law_call KX Gd.T.g Gd.T.b Gd.T.builtins Gd.T.nolimit hge hobj hints (Nat.le_trans hlen (by decide)) hr (CX := L2.CX l.prog w)
      (fun base _ _ => F base) (fun s u => b s [u] rfl) (fun H hO hS => law_ok hfn H ad ns hlen hS) fun H e s' z => ?_
    obtain ⟨_, _, _, _, _, _, _, _, _, _, _, _, hE⟩ := z
    exact hE
end VL

/-! VL11: tokens; loops over own lists; try. -/
namespace VL
open PySem PySem.Spec PyProof.Rows L2
section
variable {K : PySem.W.Frag} {mg : Str → Option Value} {G : Gr} {B B' H H' : Hp} {σ σ' : L2.St} {e e' : Env} {i n : Nat} {p : Addr}
theorem clrTk_tk {m : Nat} : clrTk n (.tk m) = if m = n then .no else .tk m := rfl
theorem SlOk.owI {v : Option V} {b : Bool} {ds : List D} (h : SlOk K G B H v (.ow b ds)) : ∃ p o, v = some (.ref p) ∧ B p = none ∧ G.H p = none ∧ H p = some o ∧ OwR K B b o ds := by
  cases h with
  | ow a1 a2 a3 a4 => exact ⟨_, _, rfl, a1, a2, a3, a4⟩
theorem SlOk.tkI {v : Option V} {m : Nat} (h : SlOk K G B H v (.tk m)) : v = some (.ref (G.tok m)) := by
  cases h
  rfl
theorem clr_get {s : Sl} (h : (clrE n e)[i]? = some s) : ∃ s0, e[i]? = some s0 ∧ s = clrTk n s0 := by
  unfold clrE at h
  rw [List.getElem?_map] at h
  cases z : e[i]? with
  | none => rw [z] at h; cases h
  | some s0 => rw [z] at h; cases h; exact ⟨s0, rfl, rfl⟩
theorem clr_len : (clrE n e).length = e.length := List.length_map ..
theorem clr_ow {b : Bool} {ds : List D} (h : (clrE n e)[i]? = some (.ow b ds)) : e[i]? = some (.ow b ds) := by
  obtain ⟨s0, h0, h1⟩ := clr_get h
  cases s0 with
  | ow b' ds' => cases h1; exact h0
  | no => cases h1
  | sh d => cases h1
  | tk m =>
    rw [clrTk_tk] at h1
    by_cases q : m = n
    · rw [if_pos q] at h1; cases h1
    · rw [if_neg q] at h1; cases h1
theorem SlOk.clrU {v : Option V} {s : Sl} (h : SlOk K (GT G n p) B H v s) : SlOk K G B H v (clrTk n s) := by
  cases h with
  | no => exact .no
  | sh r => exact .sh r
  | ow a b c d => exact .ow a b c d
  | @tk m =>
    rw [clrTk_tk]
    by_cases q : m = n
    · rw [if_pos q]; exact .no
    · rw [if_neg q]
      have e : (GT G n p).tok m = G.tok m := if_neg q
      rw [e]
      exact .tk
theorem SlOk.clrD {v : Option V} {s : Sl} (h : SlOk K G B H v s) : SlOk K (GT G n p) B H v (clrTk n s) := by
  cases h with
  | no => exact .no
  | sh r => exact .sh r
  | ow a b c d => exact .ow a b c d
  | @tk m =>
    rw [clrTk_tk]
    by_cases q : m = n
    · rw [if_pos q]; exact .no
    · rw [if_neg q]
      have e : G.tok m = (GT G n p).tok m := (if_neg q).symm
      rw [e]
      exact .tk
theorem Sto.untok (S : Sto K (GT G n p) B H σ e) : Sto K G B H σ (clrE n e) where
  len := by rw [clr_len]; exact S.len
  sl := fun j s h => by
    obtain ⟨s0, h0, rfl⟩ := clr_get h
    obtain ⟨v, hv, ok⟩ := S.sl j s0 h0
    exact ⟨v, hv, ok.clrU⟩
  dis := fun j k q b b' ds ds' h1 h2 h3 h4 => S.dis j k q b b' ds ds' (clr_ow h1) (clr_ow h2) h3 h4
  sub := S.sub
  b0 := S.b0
  keep := S.keep
  dom := S.dom
  new := S.new
  iom := S.iom
theorem Sto.tokAt (S : Sto K G B H σ (e.set i .no)) (hi : i < e.length) (hσ : σ[i]? = some (some (.ref p))) : Sto K (GT G n p) B H σ ((clrE n e).set i (.tk n)) where
  len := by
    have := S.len
    rw [List.length_set] at this ⊢
    rw [clr_len]; exact this
  sl := fun j s h => by
    by_cases q : i = j
    · subst q
      rw [List.getElem?_set_self (by rw [clr_len]; exact hi)] at h
      cases h
      have e1 : p = (GT G n p).tok n := (if_pos rfl).symm
      refine ⟨_, hσ, ?_⟩
      exact Eq.subst (motive := fun z => SlOk K (GT G n p) B H (some (.ref z)) (.tk n)) e1.symm .tk
    · rw [List.getElem?_set_ne q] at h
      obtain ⟨s0, h0, rfl⟩ := clr_get h
      obtain ⟨v, hv, ok⟩ := S.sl j s0 (by rw [List.getElem?_set_ne q]; exact h0)
      exact ⟨v, hv, ok.clrD⟩
  dis := fun j k q b b' ds ds' h1 h2 h3 h4 => by
    have nj : i ≠ j := fun z => by
      subst z
      rw [List.getElem?_set_self (by rw [clr_len]; exact hi)] at h1
      cases h1
    have nk : i ≠ k := fun z => by
      subst z
      rw [List.getElem?_set_self (by rw [clr_len]; exact hi)] at h2
      cases h2
    rw [List.getElem?_set_ne nj] at h1
    rw [List.getElem?_set_ne nk] at h2
    exact S.dis j k q b b' ds ds' (by rw [List.getElem?_set_ne nj]; exact clr_ow h1) (by rw [List.getElem?_set_ne nk]; exact clr_ow h2) h3 h4
  sub := S.sub
  b0 := S.b0
  keep := S.keep
  dom := S.dom
  new := S.new
  iom := S.iom
/-- the meaning as a wish -/
def canS (K : PySem.W.Frag) (mg : Str → Option Value) (W : Am K) (k : Bool) (m : MS) : TS := fun D σ H => ∃ (G : Gr) (B : Hp) (e : Env), W.g G ∧ Sto K G B H σ e ∧ PoS K mg W k G B D (m e)
theorem rs_can {W : Am K} {k : Bool} {m : MS} : RdS K mg W k (canS K mg W k m) m := fun G hG B H σ e D S h => ⟨G, B, e, hG, S, h⟩
end
theorem VSs.can {X : Cx} {W : Am X.K} {k : Bool} {s : List Stmt} {m : MS} (h : VSs X W k s m) : PSs X s (canS X.K X.mg W k m) := by
  obtain ⟨t, p, r⟩ := h
  exact ⟨fun pins s σ H D I ⟨G, B, e, hG, S, q⟩ => p.run pins s σ H D I (r G hG B H σ e D S q)⟩
section
variable {K : PySem.W.Frag} {mg : Str → Option Value} {W : Am K} {k : Bool}
theorem RetOk.clr {G : Gr} {B H : Hp} {σ : L2.St} {e : Env} {n : Nat} {p : Addr} {v : V} {d : D} (h : RetOk K k (GT G n p) B H σ e v d) : RetOk K k G B H σ (clrE n e) v d := by
  unfold RetOk at *
  split
  · rename_i hk
    rw [if_pos hk] at h
    obtain ⟨rs, rfl, q, vs, e1, e2, e3, e4, e5, e6⟩ := h
    exact ⟨rs, rfl, q, vs, e1, e2, e3, e4, fun ⟨j, b, ds, h1, h2⟩ => e5 ⟨j, b, ds, clr_ow h1, h2⟩, e6⟩
  · rename_i hk
    rw [if_neg hk] at h
    exact h
theorem RetOk.unreb {G : Gr} {B0 H0 B H : Hp} {σ0 σ : L2.St} {e0 e : Env} {v : V} {d : D} (S : Sto K G B0 H0 σ0 e0) (h : RetOk K k (reb G B0 H0 σ0 e0) B H σ e v d) : RetOk K k G B H σ e v d := by
  unfold RetOk at *
  split
  · rename_i hk
    rw [if_pos hk] at h
    obtain ⟨rs, rfl, q, vs, e1, e2, e3, e4, e5, e6⟩ := h
    refine ⟨rs, rfl, q, vs, e1, e2, e3, ?_, e5, e6⟩
    cases z : G.H q with
    | none => rfl
    | some o =>
      exfalso
      have h1 := S.dom q (by rw [z]; simp)
      have h2 : ¬ OwnF σ0 e0 q := fun w => by rw [(w.new S).1] at z; cases z
      have h3 : (reb G B0 H0 σ0 e0).H q = H0 q := if_neg h2
      rw [h3] at e4
      exact h1 e4
  · rename_i hk
    rw [if_neg hk] at h
    exact h
/-- a loop over an own list that is left alone -/
theorem rs_forO {i n : Nat} {g : TG} {o : List Nat} {gm : D → Env → Option Env} {t : TS} {b : MS} (hn : n ≠ 0) (hg : RdG K o g gm) (hb : RdS K mg W k t b) : RdS K mg W k (tFor (iSeq K (tVar i)) g t) (vForO n i gm b) := fun G hG B H σ e D S h => by
  unfold vForO at h
  cases z : e[i]? with
  | none => rw [z] at h; exact h.elim
  | some s =>
    rw [z] at h
    cases s with
    | no => exact h.elim
    | sh d => exact h.elim
    | tk m => exact h.elim
    | ow b0 ds =>
      cases b0 with
      | true => exact h.elim
      | false =>
        obtain ⟨v, hv, ok⟩ := S.sl i _ z
        cases ok with
        | @ow _ p _ _ hB hg0 hp hr =>
          cases hr with
          | @lst vs _ hr =>
          have hi : i < e.length := (List.getElem?_eq_some_iff.mp z).1
          have S2 := S.lose i
          have npO : ¬ OwnF σ (e.set i .no) p := fun ⟨j, b', ds', h1, h2⟩ => by
            by_cases q : i = j
            · subst q
              rw [List.getElem?_set_self hi] at h1
              cases h1
            · rw [List.getElem?_set_ne q] at h1
              exact q (S.dis i j p _ _ _ _ z h1 hv h2)
          have hRp : (reb G B H σ (e.set i .no)).H p = some (.lst vs) := (if_neg npO).trans hp
          have S3 := S2.reb
          have S4 := S3.tokAt (n := n) hi hv
          have hG4 : W.g (GT (reb G B H σ (e.set i .no)) n p) := W.gtk _ n p hn (W.reb G B H σ _ hG S2)
          have pio : p ∉ G.io := fun q => S.iom p q hg0
          refine ⟨.ref p, hv, .inl ⟨p, rfl, ⟨vs, SqL.of hp⟩, ?_⟩⟩
          have at' : ∀ {B' H' : Hp} {σ' : L2.St} {e' : Env}, Sto K (GT (reb G B H σ (e.set i .no)) n p) B' H' σ' e' → H' p = some (.lst vs) := fun S' => S'.keep p _ hRp pio
          dsimp only at h
          have key : PoS K mg W k (GT (reb G B H σ (e.set i .no)) n p) B D (forL gm b ds ((clrE n e).set i (.tk n))) := by
            cases r : forL gm b ds ((clrE n e).set i (.tk n)) with
            | nx e1 =>
              rw [r] at h
              intro σ' B' H' S' sB
              cases z1 : e1[i]? with
              | none => simp only [z1] at h; exact h.elim
              | some s1 =>
                cases s1 with
                | no => simp only [z1] at h; exact h.elim
                | sh d => simp only [z1] at h; exact h.elim
                | ow b1 d1 => simp only [z1] at h; exact h.elim
                | tk m =>
                  simp only [z1] at h
                  by_cases hm : m = n
                  · rw [if_pos hm] at h
                    subst hm
                    obtain ⟨v1, hv1, ok1⟩ := S'.sl i _ z1
                    have e2 : v1 = some (.ref p) := by
                      rw [ok1.tkI]
                      have : (GT (reb G B H σ (e.set i .no)) m p).tok m = p := if_pos rfl
                      rw [this]
                    subst e2
                    have hp' := at' S'
                    have bp' : B' p = none := by
                      cases q : B' p with
                      | none => rfl
                      | some o =>
                        exfalso
                        rcases S'.new p (by rw [q]; simp) with w | w
                        · exact w hB
                        · have w : (reb G B H σ (e.set i .no)).H p = none := w
                          rw [hRp] at w; cases w
                    have noO : ∀ (j : Nat) (b' : Bool) (ds' : List VL.D), e1[j]? = some (.ow b' ds') → σ'[j]? ≠ some (some (.ref p)) := fun j b' ds' h1 h2 => by
                      obtain ⟨v2, hv2, ok2⟩ := S'.sl j _ h1
                      rw [h2] at hv2
                      obtain ⟨p2, vs2, ev, a1, a2, a3, a4⟩ := ok2.owI
                      rw [ev] at hv2
                      cases hv2
                      · have a3 : (reb G B H σ (e.set i .no)).H p = none := a2
                        rw [hRp] at a3; cases a3
                    have U := Sto.unreb S2 S'.untok
                    have P := U.put i (v := .ref p) (s := .ow false ds) (.ow bp' hg0 hp' (.lst (hr.mono sB))) (fun b' ds' q e1' e2' j b'' ds'' hj h1 h2 => by
                      cases e2'
                      exact absurd h2 (noO j _ _ (clr_ow h1)))
                    have eσ : σ'.set i (some (.ref p)) = σ' := by
                      refine List.ext_getElem? fun j => ?_
                      by_cases q : i = j
                      · subst q
                        rw [List.getElem?_set_self (List.getElem?_eq_some_iff.mp hv1).1, hv1]
                      · rw [List.getElem?_set_ne q]
                    rw [eσ] at P
                    exact h σ' B' H' P sB
                  · rw [if_neg hm] at h; exact h.elim
            | rt d e1 =>
              rw [r] at h
              intro v σ' B' H' S' sB ro
              exact h v σ' B' H' (Sto.unreb S2 S'.untok) sB (RetOk.unreb S2 ro.clr)
            | err x e1 =>
              rw [r] at h
              intro c dd σ' B' H' S' sB xr
              exact h c dd σ' B' H' (Sto.unreb S2 S'.untok) sB xr
            | bk e1 => rw [r] at h; exact h.elim
            | ct e1 => rw [r] at h; exact h.elim
            | bot => rw [r] at h; exact h.elim
          refine ⟨fun j m σ' H' => m = ds.length - j ∧ ∃ e' B', Sto K (GT (reb G B H σ (e.set i .no)) n p) B' H' σ' e' ∧ Same B B' ∧ PoS K mg W k (GT (reb G B H σ (e.set i .no)) n p) B D (forL gm b (ds.drop j) e'), ⟨_, rfl, _, B, S4, Same.refl B, key⟩, ?_⟩
          rintro j m σ2 H2 ⟨rfl, e2, B2, S', s2, h2⟩
          have hq : SqL K H2 p vs := SqL.of (at' S')
          have lv := hr.length
          cases zj : ds[j]? with
          | none =>
            have hl : ds.length ≤ j := List.getElem?_eq_none_iff.mp zj
            rw [List.drop_eq_nil_of_le hl] at h2
            exact .inl ⟨⟨vs, hq, by omega⟩, (PoS.base s2 h2).nx S'⟩
          | some d =>
            have hl : j < ds.length := (List.getElem?_eq_some_iff.mp zj).1
            have hd : ds.drop j = d :: ds.drop (j + 1) := by
              rw [List.drop_eq_getElem_cons hl]
              have : ds[j] = d := (List.getElem?_eq_some_iff.mp zj).2
              rw [this]
            rw [hd] at h2
            obtain ⟨v, hvj, rv⟩ := hr.get zj
            refine .inr ⟨⟨vs, v, hq, hvj⟩, fun σ' H' => ∃ e' B', Sto K (GT (reb G B H σ (e.set i .no)) n p) B' H' σ' e' ∧ Same B B' ∧ PoS K mg W k (GT (reb G B H σ (e.set i .no)) n p) B D (forL gm b (ds.drop (j + 1)) e'), fun σ' H' ⟨e', B', q1, q2, q3⟩ => ⟨ds.length - (j + 1), by omega, rfl, e', B', q1, q2, q3⟩, fun x H3 hy => ?_⟩
            obtain ⟨eH, hx⟩ := hy
            subst eH
            have ex := hx vs hq
            rw [hvj] at ex
            cases ex
            unfold forL at h2
            cases w : gm d e2 with
            | none => rw [w] at h2; exact h2.elim
            | some e3 =>
              rw [w] at h2
              refine hg _ B2 _ σ2 e2 e3 v d _ S' (rv.mono s2) w fun σ4 S4' _ => ?_
              refine hb _ hG4 B2 _ σ4 e3 _ S4' ?_
              cases q : b e3 with
              | nx e4 => simp only [q] at h2; exact fun σ' B' H' S'' s' => ⟨e4, B', S'', s2.trans s', h2⟩
              | ct e4 => simp only [q] at h2; exact fun σ' B' H' S'' s' => ⟨e4, B', S'', s2.trans s', h2⟩
              | bk e4 => simp only [q] at h2; exact fun σ' B' H' S'' s' => h2 σ' B' H' S'' (s2.trans s')
              | rt d e4 => simp only [q] at h2; exact fun v σ' B' H' S'' s' => h2 v σ' B' H' S'' (s2.trans s')
              | err x e4 => simp only [q] at h2; exact fun c dd σ' B' H' S'' s' => h2 c dd σ' B' H' S'' (s2.trans s')
              | bot => simp only [q] at h2; exact h2
end
/-! ### a loop over an own list, try -/
section
variable {X : Cx} {W : Am X.K} {k : Bool} {pos p : Pos} {x : Str} {tg : Expr} {body : List Stmt} {mm : MS}
theorem vs_forO {o : List Nat} {g : D → Env → Option Env} (n i : Nat) (hp : PassesOwn (model X.prog X.w) X.A X.env X.xe) (hc : X.calm = true) (hg : VG X.K (at1 X) o tg g) (hb : VSs X W k body mm) (hn : n ≠ 0 := by decide) (hN : X.N[i]? = some x := by rfl) (hv : Vis X.env.scope x := by first | exact Or.inl rfl | exact Or.inr (Or.inl rfl) | exact Or.inr (Or.inr rfl)) (hd : (x == ("__debug__" : Str)) = false := by decide)
    (hcd : (x == ("__classdict__" : Str)) = false := by decide) (hs : ∀ z, foldedSetIterable (.Name x p) X.env z = pure z := by intro _; rfl) : VS X W k (.For tg (.Name x p) body [] pos) (vForO n i g mm) :=
  let ⟨_, p', r'⟩ := hg; let ⟨_, p2, r2⟩ := hb; ⟨_, ps_for hp hc (pi_seq (pe_var hN hv hd hcd)) (p' ()) p2 hs, rs_forO hn r' r2⟩
/-- the text's classes of errors, and which takes which -/
structure ExT (K : PySem.W.Frag) (mg : Str → Option Value) (names : List Str) (anc : Str → Str → Bool) (bi : List String) : Prop where
  top : ∀ y ∈ names, ∃ C, mg y = some (.ref C)
  exm : ∀ x ∈ names, ∀ y ∈ names, ∀ C D, mg x = some (.ref C) → mg y = some (.ref D) → PySem.W.exmOne K (.ref C) (.ref D) = some (anc x y)
  isi : ∀ x ∈ names, ∀ y ∈ names, ∀ C D, mg x = some (.ref C) → mg y = some (.ref D) → PySem.W.kitOne K (.ref C) (.ref D) = some (anc x y)
  isB : ∀ x ∈ names, ∀ t ∈ bi, ∀ C, mg x = some (.ref C) → PySem.W.kitOne K (.ref C) (.type t) = some (anc x t)
  cls : ∀ x ∈ names, ∀ C, mg x = some (.ref C) → ExcC K C
/-- within an except's suite: the error stands at a, nothing is raised -/
def Am.ex (K : PySem.W.Frag) (a : Addr) : Am K := ⟨fun _ _ _ _ => False, fun G => G.tok 0 = a, fun _ _ _ _ _ h _ => h, fun _ _ _ _ _ h _ => h, fun G n p hn h => (if_neg (Ne.symm hn)).trans h⟩
end
section
variable {K : PySem.W.Frag} {mg : Str → Option Value} {W : Am K} {k : Bool} {names : List Str} {anc : Str → Str → Bool} {bi : List String} {i : Nat} {y : Str} {m : MS} {h : Str → MS}
theorem ow_post {G : Gr} {B H : Hp} {σ : L2.St} {e : Env} {n i : Nat} {v : V} {d : D} (r : RetOk K k G B H σ e v d) (o : Option V) : RetOk K k G B H (σ.set i o) (e.set i .no) v d := by
  unfold RetOk at *
  split
  · rename_i hk
    rw [if_pos hk] at r
    obtain ⟨rs, rfl, q, vs, e1, e2, e3, e4, e5, e6⟩ := r
    refine ⟨rs, rfl, q, vs, e1, e2, e3, e4, fun ⟨j, b, ds, h1, h2⟩ => ?_, e6⟩
    by_cases z : i = j
    · subst z
      have hl := (List.getElem?_eq_some_iff.mp h1).1
      rw [List.length_set] at hl
      rw [List.getElem?_set_self hl] at h1
      cases h1
    · rw [List.getElem?_set_ne z] at h1 h2
      exact e5 ⟨j, b, ds, h1, h2⟩
  · rename_i hk
    rw [if_neg hk] at r
    exact r
/-- behind a token's time -/
theorem PoS.post {a : Addr} {G : Gr} {B : Hp} {D : Ends} {r : RS} (hi : True) (q : PoS K mg W k G B D (r.post 0 i .no)) :
    PoS K mg (Am.ex K a) k (GT G 0 a) B { nx := fun σ' H' => D.nx (σ'.set i none) H', rt := D.rt, bk := fun σ' H' => D.bk (σ'.set i none) H', ct := fun σ' H' => D.ct (σ'.set i none) H' } r := by
  cases r with
  | nx e' => exact fun σ' B' H' S' s => q (σ'.set i none) B' H' (S'.untok.drop i none) s
  | bk e' => exact fun σ' B' H' S' s => q (σ'.set i none) B' H' (S'.untok.drop i none) s
  | ct e' => exact fun σ' B' H' S' s => q (σ'.set i none) B' H' (S'.untok.drop i none) s
  | rt d e' => exact fun v σ' B' H' S' s ro => q v (σ'.set i none) B' H' (S'.untok.drop i none) s (ow_post (n := 0) ro.clr none)
  | err x e' => exact q.elim
  | bot => exact q.elim
theorem rs_tryAs {c : Addr} (T : ExT K mg names anc bi) (hy : y ∈ names) (hD : mg y = some (.ref c)) : RdS K mg W k (fun D σ H => canS K mg (W.to (wAs K (.ref c) i (fun a cls d D σ H => ∃ x, x ∈ names ∧ mg x = some cls ∧ d = none ∧ canS K mg (Am.ex K a) k (h x) D σ H) W.w D)) k m D σ H)
    (vTryAs names anc y i m h) := fun G hG B H σ e D S q => by
  refine ⟨G, B, e, hG, S, ?_⟩
  unfold vTryAs at q
  cases r : m e with
  | nx e' => simp only [r] at q; exact q
  | rt d e' => simp only [r] at q; exact q
  | bk e' => simp only [r] at q; exact q
  | ct e' => simp only [r] at q; exact q
  | bot => simp only [r] at q; exact q.elim
  | err x e1 =>
    simp only [r] at q
    intro cls dd σ' B' H' S' s xr
    obtain ⟨C, h1, h2, h3⟩ := xr
    cases xv : x.val with
    | some p => simp only [xv] at q; exact q.elim
    | none =>
      simp only [xv] at q h3
      subst h2 h3
      by_cases hx : x.cls ∈ names
      · rw [if_pos hx] at q
        refine ⟨anc x.cls y, T.exm x.cls hx y hy C c h1 hD, fun hb a ha => ?_, fun hb => ?_⟩
        · rw [if_pos hb] at q
          refine ⟨x.cls, hx, h1, rfl, GT G 0 a, B', (clrE 0 e1).set i (.tk 0), show (if (0 : Nat) = 0 then a else G.tok 0) = a from if_pos rfl, ?_, PoS.post trivial (PoS.base s q)⟩
          by_cases hi : i < e1.length
          · exact (S'.drop i (some (.ref a))).tokAt hi (List.getElem?_set_self (by rw [S'.len]; exact hi))
          · have z1 : (clrE 0 e1).set i (.tk 0) = clrE 0 e1 := List.set_eq_of_length_le (by rw [clr_len]; omega)
            have z2 : σ'.set i (some (.ref a)) = σ' := List.set_eq_of_length_le (by rw [S'.len]; omega)
            rw [z1, z2]
            exact (Sto.untok (G := GT G 0 a) (n := 0) (p := G.tok 0) (by
              have e2 : GT (GT G 0 a) 0 (G.tok 0) = G := by
                unfold GT
                cases G
                simp only [Gr.mk.injEq, true_and]
                funext m
                by_cases hm : m = 0
                · simp [hm]
                · simp [hm]
              rw [e2]
              exact S'))
        · rw [if_neg (by rw [hb]; exact Bool.false_ne_true)] at q
          exact q (.ref C) none σ' B' H' S' s ⟨C, h1, rfl, by rw [xv]⟩
      · rw [if_neg hx] at q; exact q.elim
end
section
variable {X : Cx} {W : Am X.K} {k : Bool} {pos np pos' : Pos} {n y : Str} {body suite : List Stmt} {b₀ : Stmt} {m : MS} {h : Str → MS} {names : List Str} {anc : Str → Str → Bool} {bi : List String}
theorem vs_tryAs (T : ExT X.K X.mg names anc bi) (i : Nat) (hs : X.stack = X.env :: X.outer) (hf : X.env.frame = some X.env.locals) (hN : X.N.Nodup) (tk : Takes X W.w)
    (hb : ∀ (Wx : WX) (pn : List (Addr × Obj)) (xe : Value → Shared → Prop), Takes (X.tr pn xe) Wx → PassesOwn (model X.prog X.w) X.A X.env xe → VSs (X.tr pn xe) (W.to Wx) k body m)
    (hsu : ∀ c, c ∈ names → ∀ (a : Addr) (oe : Obj) (C : Addr) (pn : List (Addr × Obj)), X.mg c = some (.ref C) → Zc (.ref C) none oe → (∃ vs, oe.data = .fields vs) → VSs (X.suite a ((a, oe) :: pn)) (Am.ex X.K a) k (b₀ :: suite) (h c))
    (hy : y ∈ names := by decide +kernel) (hi : X.N[i]? = some n := by rfl) (hln : X.env.kindOf n = some .local := by rfl) (hg : Gl X y := by rfl) (hdb : (y == ("__debug__" : Str)) = false := by decide) :
    VS X W k (.Try body [.ExceptHandler (some (.Name y np)) (some n) (b₀ :: suite) pos'] [] [] pos) (vTryAs names anc y i m h) := by
  obtain ⟨D, hD⟩ := T.top y hy
  refine ⟨_, ps_try_as (tb := fun Wx => canS X.K X.mg (W.to Wx) k m) (ts := fun a cls d D σ H => ∃ x, x ∈ names ∧ X.mg x = some cls ∧ d = none ∧ canS X.K X.mg (Am.ex X.K a) k (h x) D σ H) hs hf hN hi hln ⟨hg, hdb, .inl hD⟩ tk (fun Wx pn xe t p => (hb Wx pn xe t p).can) (fun a oe cls d pn hz hfl => ⟨fun pins s σ H D I ⟨c, hc, e1, e2, q⟩ => ?_⟩), rs_tryAs T hy hD⟩
  obtain ⟨C, hC⟩ := T.top c hc
  rw [hC] at e1
  cases e1
  subst e2
  exact (hsu c hc a oe C pn hC hz hfl).can.run pins s σ H D I q
end
/-- isinstance(e, y) of the error in hand -/
theorem ve_isE {X : Cx} {a C : Addr} {oe : Obj} {pn : List (Addr × Obj)} {c e y : Str} {pos p p1 p2 : Pos} {names : List Str} {anc : Str → Str → Bool} {bi : List String} (T : ExT X.K X.mg names anc bi) (hc : c ∈ names) (hC : X.mg c = some (.ref C)) (hz : Zc (.ref C) none oe) (hf : ∃ vs, oe.data = .fields vs) (i : Nat) (hm : X.mg "isinstance" = none)
    (hy : y ∈ names := by decide +kernel) (hN : X.N[i]? = some e := by rfl) (hv : Vis X.env.scope e := by first | exact Or.inl rfl | exact Or.inr (Or.inl rfl) | exact Or.inr (Or.inr rfl)) (hd : (e == ("__debug__" : Str)) = false := by decide) (hcd : (e == ("__classdict__" : Str)) = false := by decide) (hgy : Gl X y := by rfl) (hdy : (y == ("__debug__" : Str)) = false := by decide)
    (hb : bootBuiltins "isinstance" = some (.builtin "isinstance") := by decide +kernel) (hg : Gl X "isinstance" := by rfl) (he : starEach [.Name e p1, .Name y p2] X.env = (false, eval (.Name e p1) X.env) :: starEach [.Name y p2] X.env := by rfl) (he2 : starEach [(.Name y p2 : Expr)] X.env = (false, eval (.Name y p2) X.env) :: starEach [] X.env := by rfl)
    (hpl : (backTo pos (starEach [(.Name y p2 : Expr)] X.env)).any (·.1) = false := by rfl) : VE X.K X.mg (at1 (X.suite a ((a, oe) :: pn))) (Am.ex X.K a) (.Call (.Name "isinstance" p) [.Name e p1, .Name y p2] [] pos) (vIsE i (anc c y)) := by
  obtain ⟨D, hD⟩ := T.top y hy
  refine ⟨tCB (rIsE X.K C a) (tCons (tVar i) (tCons (tC (.ref D)) tNil)), fun _ => pe_callB (call_isE (X := X) (T.cls c hc C hC) hz hf) hg hm hb (pa_cons (pe_var hN hv hd hcd) (pa_cons (pe_glob hgy hD rfl hdy) pa_nil he2) he) (by decide) (by decide) he hpl, ⟨fun G hG B H σ e Q S q => ?_⟩⟩
  unfold vIsE at q
  cases z : e[i]? with
  | none => rw [z] at q; exact q.elim
  | some s =>
    cases s with
    | tk t =>
      cases t with
      | succ t => rw [z] at q; exact q.elim
      | zero =>
        simp only [z] at q
        obtain ⟨v, hv', ok⟩ := S.sl i _ z
        have e1 := ok.tkI
        have hG : G.tok 0 = a := hG
        rw [hG] at e1
        subst e1
        exact ⟨_, hv', .ref D, .ref D, anc c y, rfl, fun u r => by cases r; rfl, T.isi c hc y hy C D hC hD, Po.here q S (.bl _)⟩
    | no => rw [z] at q; exact q.elim
    | sh d => rw [z] at q; exact q.elim
    | ow b d => rw [z] at q; exact q.elim
theorem ve_isEB {X : Cx} {a C : Addr} {oe : Obj} {pn : List (Addr × Obj)} {c e : Str} {t : String} {y : Str} {pos p p1 p2 : Pos} {names : List Str} {anc : Str → Str → Bool} {bi : List String} (T : ExT X.K X.mg names anc bi) (hc : c ∈ names) (hC : X.mg c = some (.ref C)) (hz : Zc (.ref C) none oe) (hf : ∃ vs, oe.data = .fields vs) (i : Nat) (hm : X.mg "isinstance" = none) (hmy : X.mg y = none) (hby : bootBuiltins y = some (.type t))
    (hy : t ∈ bi := by decide +kernel) (hN : X.N[i]? = some e := by rfl) (hv : Vis X.env.scope e := by first | exact Or.inl rfl | exact Or.inr (Or.inl rfl) | exact Or.inr (Or.inr rfl)) (hd : (e == ("__debug__" : Str)) = false := by decide) (hcd : (e == ("__classdict__" : Str)) = false := by decide) (hgy : Gl X y := by rfl) (hdy : (y == ("__debug__" : Str)) = false := by decide) (hny : y ≠ "__name__" := by decide)
    (hb : bootBuiltins "isinstance" = some (.builtin "isinstance") := by decide +kernel) (hg : Gl X "isinstance" := by rfl) (he : starEach [.Name e p1, .Name y p2] X.env = (false, eval (.Name e p1) X.env) :: starEach [.Name y p2] X.env := by rfl) (he2 : starEach [(.Name y p2 : Expr)] X.env = (false, eval (.Name y p2) X.env) :: starEach [] X.env := by rfl)
    (hpl : (backTo pos (starEach [(.Name y p2 : Expr)] X.env)).any (·.1) = false := by rfl) : VE X.K X.mg (at1 (X.suite a ((a, oe) :: pn))) (Am.ex X.K a) (.Call (.Name "isinstance" p) [.Name e p1, .Name y p2] [] pos) (vIsE i (anc c t)) := by
  refine ⟨tCB (rIsE X.K C a) (tCons (tVar i) (tCons (tC (.ty t)) tNil)), fun _ => pe_callB (call_isE (X := X) (T.cls c hc C hC) hz hf) hg hm hb (pa_cons (pe_var hN hv hd hcd) (pa_cons (pe_bltn (v := .ty t) hgy hmy hby rfl hny hdy) pa_nil he2) he) (by decide) (by decide) he hpl, ⟨fun G hG B H σ e Q S q => ?_⟩⟩
  unfold vIsE at q
  cases z : e[i]? with
  | none => rw [z] at q; exact q.elim
  | some s =>
    cases s with
    | tk n =>
      cases n with
      | succ n => rw [z] at q; exact q.elim
      | zero =>
        simp only [z] at q
        obtain ⟨v, hv', ok⟩ := S.sl i _ z
        have e1 := ok.tkI
        have hG : G.tok 0 = a := hG
        rw [hG] at e1
        subst e1
        exact ⟨_, hv', .ty t, .type t, anc c t, rfl, fun u r => by cases r; rfl, T.isB c hc t hy C hC, Po.here q S (.bl _)⟩
    | no => rw [z] at q; exact q.elim
    | sh d => rw [z] at q; exact q.elim
    | ow b d => rw [z] at q; exact q.elim
/-! ### the head: facts of one's own -/
def hookX (n : Nat) (fa : List He.Fa) (fn : List He.DefD) (fx : PySem.W.Frag → Bool) : PySem.W.Hook where
  α := He.AlD × Bool
  obs := fun s => (He.obsD fa fn (He.frG s.heap.get? (He.asD s.heap.get? n)), fx (He.frG s.heap.get? (He.asD s.heap.get? n)))
  val := fun _ => (He.valD fn, true)
  says := fun _ h => ∃ K : PySem.W.Frag, K.In h ∧ He.SaysD fa fn K ∧ fx K = true
  of := fun w s q => ⟨He.frG s.heap.get? (He.asD s.heap.get? n), He.frG_in, (Prod.mk.inj q).1, (Prod.mk.inj q).2⟩
  keeps := fun w h h' z k => let ⟨K, hK, c, d⟩ := z; ⟨K, PySem.W.Frag.In.keeps hK k, c, d⟩
def obX (n : Nat) (fa : List He.Fa) (fn : List He.DefD) (fx : PySem.W.Frag → Bool) (g : Addr → Option Obj) : He.AlD × Bool := (He.obsD fa fn (He.frG g (He.asD g n)), fx (He.frG g (He.asD g n)))
theorem obX_eq {n : Nat} {fa : List He.Fa} {fn : List He.DefD} {fx : PySem.W.Frag → Bool} {g : Addr → Option Obj} {s : Shared} (h : ∀ a, g a = s.heap.get? a) : obX n fa fn fx g = (hookX n fa fn fx).obs s := by
  cases (funext h : g = s.heap.get?)
  exact rfl
def excCB (K : PySem.W.Frag) (D : Addr) : Bool := decide (PySem.W.findIn K (.ref D) "__getattribute__" = some (some (.builtin "BaseException.__getattribute__"))) && (decide (PySem.W.findIn K (.ref D) "__getattr__" = some none) && (decide (PySem.W.subIn K (.ref D) (.type "BaseException") = some true) && (PySem.W.hasDictIn K D &&
  (decide (PySem.W.findIn K (.ref D) "__class__" = some (some (.builtin "object.__class__"))) && (decide (PySem.W.specialIn K (.builtin "object.__class__") "__get__" = some (some (.builtin "getset_descriptor.__get__"))) && (decide (PySem.W.takesIn K (.builtin "object.__class__") = some true) && decide (PySem.W.mroIn K D (.type "object") = some true)))))))
theorem excCB_ok {K : PySem.W.Frag} {D : Addr} (h : excCB K D = true) : ExcC K D := by
  unfold excCB at h
  simp only [Bool.and_eq_true, decide_eq_true_eq] at h
  obtain ⟨h1, h2, h3, h4, h5, h6, h7, h8⟩ := h
  exact ⟨h1, h2, h3, h4, h5, h6, h7, h8⟩
def exOk (names : List Str) (anc : Str → Str → Bool) (bi : List String) (K : PySem.W.Frag) : Bool := names.all fun x => (He.Fa.glo x).ok K && (excCB K (He.ga K x) &&
  ((names.all fun y => decide (PySem.W.exmOne K (.ref (He.ga K x)) (.ref (He.ga K y)) = some (anc x y)) && decide (PySem.W.kitOne K (.ref (He.ga K x)) (.ref (He.ga K y)) = some (anc x y))) && (bi.all fun t => decide (PySem.W.kitOne K (.ref (He.ga K x)) (.type t) = some (anc x t)))))
theorem exT_of {K : PySem.W.Frag} {h : Heap} {mg : Str → Option Value} {names : List Str} {anc : Str → Str → Bool} {bi : List String} (X : K.In h) (G : h.Ns mainGlobals mg) (c : exOk names anc bi K = true) : ExT K mg names anc bi := by
  unfold exOk at c
  rw [List.all_eq_true] at c
  have one : ∀ x ∈ names, (He.Fa.glo x).ok K = true ∧ excCB K (He.ga K x) = true ∧ (∀ y ∈ names, PySem.W.exmOne K (.ref (He.ga K x)) (.ref (He.ga K y)) = some (anc x y) ∧ PySem.W.kitOne K (.ref (He.ga K x)) (.ref (He.ga K y)) = some (anc x y)) ∧ ∀ t ∈ bi, PySem.W.kitOne K (.ref (He.ga K x)) (.type t) = some (anc x t) := fun x hx => by
    have q := c x hx
    simp only [Bool.and_eq_true, List.all_eq_true, decide_eq_true_eq] at q
    exact ⟨q.1, q.2.1, q.2.2.1, q.2.2.2⟩
  have at' : ∀ x ∈ names, ∀ C, mg x = some (.ref C) → C = He.ga K x := fun x hx C hC => by
    have e := (He.glo_ok X G (one x hx).1).symm.trans hC
    cases e
    rfl
  exact ⟨fun y hy => ⟨_, He.glo_ok X G (one y hy).1⟩, fun x hx y hy C D hC hD => by rw [at' x hx C hC, at' y hy D hD]; exact ((one x hx).2.2.1 y hy).1,
    fun x hx y hy C D hC hD => by rw [at' x hx C hC, at' y hy D hD]; exact ((one x hx).2.2.1 y hy).2, fun x hx t ht C hC => by rw [at' x hx C hC]; exact (one x hx).2.2.2 t ht, fun x hx C hC => by rw [at' x hx C hC]; exact excCB_ok (one x hx).2.1⟩
/-! ### what a module's name stands for -/
def GCon (K : PySem.W.Frag) (mg : Str → Option Value) (x : Str) (d : D) : Prop := ∃ (v : V) (u : Value), mg x = some u ∧ RelV v u ∧ ∀ B, Rep K B v d
theorem ve_con {ι : Type} {K : PySem.W.Frag} {mg : Str → Option Value} {X : ι → Cx} {W : Am K} {pos : Pos} {x : Str} {d : D} (h : GCon K mg x d) (hm : ∀ j, (X j).mg = mg := by intro _; rfl) (hg : ∀ j, Gl (X j) x := by intro _; rfl) (hd : (x == ("__debug__" : Str)) = false := by decide) : VE K mg X W (.Name x pos) (vC d) :=
  let ⟨_, _, e, r, rd⟩ := h; ve_glob (fun j => by rw [hm j]; exact e) r rd hg hd
/-- plain values of a tuple -/
def dvD : He.Dv → Option D
  | .non => some .non
  | .bl b => some (.bl b)
  | .int i => some (.int i)
  | .str x => some (.str x)
  | _ => none
theorem dvs_rep {K : PySem.W.Frag} {B : Hp} : ∀ {vs : List He.Dv} {ds : List D}, vs.map dvD = ds.map some → Reps K B (vs.map (He.Dv.v K)) ds
  | [], [], _ => .nil
  | [], d :: ds, h => by cases h
  | v :: vs, [], h => by cases h
  | v :: vs, d :: ds, h => by
    rw [List.map_cons, List.map_cons] at h
    have h1 : dvD v = some d := (List.cons.inj h).1
    refine .cons ?_ (dvs_rep (List.cons.inj h).2)
    cases v <;> first | (cases h1; constructor) | cases h1
theorem gcon_tup {K : PySem.W.Frag} {h : Heap} {mg : Str → Option Value} {x : Str} {vs : List He.Dv} {ds : List D} (X : K.In h) (G : h.Ns mainGlobals mg) (c : ((He.Fa.glo x).ok K && He.tupB K x vs) = true) (e : vs.map dvD = ds.map some) : GCon K mg x (.tup ds) := by
  obtain ⟨c1, c2⟩ := He.ba c
  exact ⟨.ref (He.ga K x), .ref (He.ga K x), He.glo_ok X G c1, rfl, fun B => .tup (He.tupB_ok c2 B) (dvs_rep e)⟩
theorem gcon_int {K : PySem.W.Frag} {h : Heap} {mg : Str → Option Value} {x : Str} {i : Int} (X : K.In h) (G : h.Ns mainGlobals mg) (c : (He.Fa.int x i).ok K = true) : GCon K mg x (.int i) :=
  let ⟨t, e⟩ := He.int_ok X G c; ⟨.int i, _, e, ⟨t, rfl⟩, fun _ => .int i⟩
theorem gcon_str {K : PySem.W.Frag} {h : Heap} {mg : Str → Option Value} {x z : Str} (X : K.In h) (G : h.Ns mainGlobals mg) (c : (He.Fa.str x z).ok K = true) : GCon K mg x (.str z) :=
  let ⟨t, e⟩ := He.str_ok X G c; ⟨.str z, _, e, ⟨t, rfl⟩, fun _ => .str z⟩
/-! ### displays of dicts -/
section
variable {K : PySem.W.Frag} {mg : Str → Option Value} {W : Am K}
def rpP (K : PySem.W.Frag) : RP (List (D × D)) (List (V × V)) := fun _ B _ _ _ vs ds => Reps K B (vs.map (·.1)) (ds.map (·.1)) ∧ Reps K B (vs.map (·.2)) (ds.map (·.2))
theorem rd_pnil : RdX K mg W (rpP K) (tPairs []) vPN where
  run := fun G hG B H σ e Q S h => Po.here h S ⟨.nil, .nil⟩
theorem rd_pcons {tk tv : TE} {trs : List (TE × TE)} {mk mv : ME} {r : MQ} (hk : RdE K mg W tk mk) (hv : RdE K mg W tv mv) (hr : RdX K mg W (rpP K) (tPairs trs) r) : RdX K mg W (rpP K) (tPairs ((tk, tv) :: trs)) (vPC mk mv r) where
  run := fun G hG B H σ e Q S h => by
    refine hk.run G hG B H σ e _ S (Po.bind h fun x e1 v1 B1 H1 S1 s1 r1 h1 => ?_)
    refine hv.run G hG B1 H1 σ e1 _ S1 (Po.bind h1 fun y e2 v2 B2 H2 S2 s2 r2 h2 => ?_)
    refine hr.run G hG B2 H2 σ e2 _ S2 (Po.bind h2 fun ps e3 vs B3 H3 S3 s3 r3 h3 => ?_)
    have a1 : Rep K B1 v1 x := r1
    have a2 : Rep K B2 v2 y := r2
    exact Po.here h3 S3 ⟨.cons ((a1.mono s2).mono s3) r3.1, .cons (a2.mono s3) r3.2⟩
theorem keys_rep {B : Hp} : ∀ {ps : List (V × V)} {ds : List D} {ks : List Ky}, Reps K B (ps.map (·.1)) ds → keysD ds = some ks → ∃ kvs : List (Key × V), ps = kvs.map (fun kv => (kV kv.1, kv.2)) ∧ kvs.map (·.1) = ks ∧ kvs.map (·.2) = ps.map (·.2)
  | [], [], ks, _, h => by cases h; exact ⟨[], rfl, rfl, rfl⟩
  | [], d :: ds, ks, r, h => by cases r
  | p :: ps, [], ks, r, h => by cases r
  | p :: ps, d :: ds, ks, r, h => by
    rw [List.map_cons] at r
    cases r with
    | cons r1 rr =>
      unfold keysD at h
      cases z : keyD d with
      | none => simp only [z] at h; cases h
      | some k =>
        simp only [z] at h
        cases w : keysD ds with
        | none => rw [w] at h; cases h
        | some ks' =>
          rw [w] at h
          cases h
          obtain ⟨kvs, e1, e2, e3⟩ := keys_rep rr w
          refine ⟨(k, p.2) :: kvs, ?_, by rw [List.map_cons, e2], by rw [List.map_cons, List.map_cons, e3]⟩
          rw [List.map_cons, ← e1, ← keyD_V r1 z]
theorem merge_app : ∀ (more acc : List (Key × V)), ((acc ++ more).map (·.1)).Nodup → mergeK acc more = acc ++ more
  | [], acc, _ => by simp [mergeK]
  | p :: r, acc, h => by
    have e : putK acc p.1 p.2 = acc ++ [p] := by
      unfold putK
      rw [if_neg]
      intro q
      obtain ⟨kv, h1, h2⟩ := List.any_eq_true.mp q
      have h2 : kv.1 = p.1 := of_decide_eq_true h2
      rw [List.map_append, List.map_cons, List.nodup_append] at h
      exact h.2.2 kv.1 (List.mem_map.mpr ⟨kv, h1, rfl⟩) p.1 List.mem_cons_self h2
    show mergeK (putK acc p.1 p.2) r = _
    rw [e, merge_app r (acc ++ [p]) (by simpa using h)]
    simp
theorem rd_disp {trs : List (TE × TE)} {r : MQ} (hr : RdX K mg W (rpP K) (tPairs trs) r) : RdE K mg W (tDisp trs) (vDisp r) where
  run := fun G hG B H σ e Q S h => by
    intro p hp
    have S1 : Sto K G B (upd H p (.dK [])) σ e := S.loose hp
    have gp := S.fresh hp
    have bp : B p = none := S.sub.free hp
    have npO : ¬ OwnF σ e p := fun q => by
      obtain ⟨i, b, ds, h1, h2⟩ := q
      obtain ⟨v, hv, ok⟩ := S.sl i _ h1
      obtain ⟨p2, vs2, ev, a1, a2, a3, a4⟩ := ok.owI
      rw [h2, ev] at hv
      cases hv
      rw [hp] at a3; cases a3
    have hRp : (reb G B (upd H p (.dK [])) σ e).H p = some (.dK []) := (if_neg npO).trans upd_same
    have pio : p ∉ G.io := fun q => S.iom p q gp
    refine hr.run _ (W.reb G B _ σ e hG S1) B _ σ e _ S1.reb ?_
    unfold vDisp at h
    cases q : r e with
    | bot => rw [q] at h; exact h.elim
    | err x e1 =>
      rw [q] at h
      intro c dd B' H' S' s xr
      exact h c dd B' H' (Sto.unreb S1 S') s xr
    | ok ps e1 =>
      rw [q] at h
      intro vs B2 H2 S2 s2 rp
      have hp2 : H2 p = some (.dK []) := S2.keep p _ hRp pio
      refine ⟨hp2, ?_⟩
      obtain ⟨d, hd, h'⟩ := Po.of (R := rpE K) (Q := Q) (show Po K mg W (rpE K) G σ B Q (.of (dispD ps) e1) from h)
      unfold dispD at hd
      cases w : keysD (ps.map (·.1)) with
      | none => rw [w] at hd; cases hd
      | some ks =>
        simp only [w] at hd
        by_cases z : ks.Nodup ∧ ks.length ≤ 15
        · rw [if_pos z] at hd
          cases hd
          obtain ⟨kvs, e2, e3, e4⟩ := keys_rep rp.1 w
          have mk : mergeK [] kvs = kvs := by
            have := merge_app kvs [] (by rw [List.nil_append, e3]; exact z.1)
            rwa [List.nil_append] at this
          refine ⟨kvs, e2, by have := congrArg List.length e3; rw [List.length_map] at this; omega, ?_⟩
          rw [mk]
          have U := Sto.unreb S1 S2
          have b2 : B2 p = none := by
            cases q2 : B2 p with
            | none => rfl
            | some o =>
              exfalso
              rcases S2.new p (by rw [q2]; simp) with t | t
              · exact t bp
              · rw [hRp] at t; cases t
          have noO : ∀ (i : Nat) (b : Bool) (ds : List D), e1[i]? = some (.ow b ds) → σ[i]? ≠ some (some (.ref p)) := fun i b ds h1 h2 => by
            obtain ⟨v, hv, ok⟩ := S2.sl i _ h1
            obtain ⟨p2, vs2, ev, a1, a2, a3, a4⟩ := ok.owI
            rw [h2, ev] at hv
            cases hv
            rw [hRp] at a2; cases a2
          have P1 := U.poke (p := p) (o := .dK kvs) b2 gp noO
          have P2 := P1.take (p := p) (o := .dK kvs) upd_same b2 gp noO
          have sm : Same B2 (upd B2 p (.dK kvs)) := same_upd' b2
          exact h' (.ref p) _ _ P2 (s2.trans sm) (.dct (.inl upd_same) e3 (by rw [e4]; exact rp.2.mono sm))
        · rw [if_neg z] at hd; cases hd
end
section
variable {ι : Type} {K : PySem.W.Frag} {mg : Str → Option Value} {X : ι → Cx} {W : Am K} {pos : Pos}
def VQ (K : PySem.W.Frag) (mg : Str → Option Value) (X : ι → Cx) (W : Am K) (pos : Pos) (ks : List (Option Expr)) (vs : List Expr) (m : MQ) : Prop := ∃ t, (∀ i, PPs (X i) pos ks vs t) ∧ RdX K mg W (rpP K) (tPairs t) m
theorem vq_nil : VQ K mg X W pos [] [] vPN := ⟨[], fun _ => pps_nil, rd_pnil⟩
theorem vq_cons {k v : Expr} {ks : List (Option Expr)} {vs : List Expr} {mk mv : ME} {r : MQ} (hk : VE K mg X W k mk) (hv : VE K mg X W v mv) (hr : VQ K mg X W pos ks vs r) : VQ K mg X W pos (some k :: ks) (v :: vs) (vPC mk mv r) :=
  let ⟨tk, p1, r1⟩ := hk; let ⟨tv, p2, r2⟩ := hv; let ⟨t, p3, r3⟩ := hr; ⟨(tk, tv) :: t, fun i => pps_cons (p1 i) (p2 i) (p3 i), rd_pcons r1 r2 r3⟩
theorem ve_disp {ks : List (Option Expr)} {vs : List Expr} {r : MQ} (h : VQ K mg X W pos ks vs r) (hall : ks.all (·.isSome) = true := by rfl) (hl : ks.length = vs.length := by rfl) (h0 : ks ≠ [] := by simp) (h15 : ks.length ≤ 15 := by simp) : VE K mg X W (.Dict ks vs pos) (vDisp r) :=
  let ⟨t, p, q⟩ := h; ⟨tDisp t, fun i => pe_disp (p i) hall hl h0 h15, rd_disp q⟩
/-- a call of a built-in type that gives a plain value -/
theorem ve_bt {T : String} {x : Str} {p : Pos} {e : Expr} {es : List Expr} {ms : MA} {f : List D → Option D} (hc : ∀ j, CallR (X j) (.type T) (rDatC K f)) (hm : ∀ j, (X j).mg x = none) (hv : bootBuiltins x = some (.type T)) (ha : VA K mg X W (e :: es) ms) (hg : ∀ j, Gl (X j) x := by intro _; rfl) (hn : x ≠ "__name__" := by decide) (hdb : (x == ("__debug__" : Str)) = false := by decide)
    (he : ∀ j, starEach (e :: es) (X j).env = (false, eval e (X j).env) :: starEach es (X j).env := by intro _; rfl) (hpl : ∀ j, (backTo pos (starEach es (X j).env)).any (·.1) = false := by intro _; rfl) : VE K mg X W (.Call (.Name x p) (e :: es) [] pos) (vBf f ms) :=
  let ⟨_, p, r⟩ := ha; ⟨_, fun i => pe_callTy (hc i) (hg i) (hm i) hv (p i) hn hdb (he i) (hpl i), rd_bf r⟩
end
theorem cd_str {X : Cx} : CallR X (.type "str") (rDatC X.K bfStr) := by
  intro pins s σ H xs us Q I r h
  obtain ⟨G, B, σ', e, ds, d, S, rr, hd, h⟩ := h
  unfold bfStr at hd
  split at hd
  · rename_i i
    split at hd
    · rename_i hz
      cases hd
      cases rr with
      | cons r1 r2 =>
        cases r2
        cases r1
        exact call_str_int pins s σ H _ us Q I r ⟨i, rfl, hz, h _ B H S (Same.refl B) (.str _)⟩
    · cases hd
  · cases hd
/-! ### methods of texts -/
section
variable {K : PySem.W.Frag} {mg : Str → Option Value} {W : Am K}
theorem rd_m1 {r : V → List V → Hp → VK → Prop} {op : Str → D → Option D} {ta tb : TE} {ma mb : ME} (hr : ∀ (G : Gr) (B H : Hp) (σ : L2.St) (e : Env) (z : Str) (y : V) (b d : D) (Q : VK), Sto K G B H σ e → Rep K B y b → op z b = some d → Po K mg W (rpE K) G σ B Q (.ok d e) → r (.str z) [y] H Q)
    (ha : RdE K mg W ta ma) (hb : RdE K mg W tb mb) : RdE K mg W (tM1 r ta tb) (vM1 op ma mb) where
  run := fun G hG B H σ e Q S h => by
    refine ha.run G hG B H σ e _ S (Po.bind h fun x e1 v B1 H1 S1 s1 r1 h1 => ?_)
    have r1 : Rep K B1 v x := r1
    cases x with
    | str z =>
      cases r1
      refine ⟨⟨z, rfl⟩, hb.run G hG B1 H1 σ e1 _ S1 (Po.bind h1 fun y e2 w B2 H2 S2 s2 r2 h2 => ?_)⟩
      obtain ⟨d, hd, h3⟩ := Po.of h2
      exact hr G B2 H2 σ e2 z w y d Q S2 r2 hd h3
    | _ => exact h1.elim
end
theorem ve_strip {ι : Type} {K : PySem.W.Frag} {mg : Str → Option Value} {X : ι → Cx} {W : Am K} {pos apos : Pos} {o e : Expr} {ma mb : ME} (ha : VE K mg X W o ma) (hb : VE K mg X W e mb) (hs : ∀ j, starEach [e] (X j).env = [(false, eval e (X j).env)] := by intro _; rfl)
    (hbase : ∀ j, attributeBase o "strip" (X j).env (eval o (X j).env) = eval o (X j).env := by intro _; rfl) (hline : (apos.endLine == pos.line) = true := by rfl) : VE K mg X W (.Call (.Attribute o "strip" apos) [e] [] pos) (vM1 opStrip ma mb) := by
  obtain ⟨_, p, r⟩ := ha
  obtain ⟨_, p', r'⟩ := hb
  refine ⟨_, fun i => pe_m1 F.slot_str_strip F.type_str_strip mt_stripChars (p i) (p' i) (hs i) (hbase i) hline, rd_m1 (fun G B H σ e z y b d Q S ry hd h => ?_) r r'⟩
  cases b with
  | str w =>
    cases ry
    have hd : (if z.length ≤ vmax then some (D.str (Txt.stripChars z w)) else none) = some d := hd
    by_cases q : z.length ≤ vmax
    · rw [if_pos q] at hd
      cases hd
      exact ⟨z, w, rfl, rfl, vle q, Po.here h S (.str _)⟩
    · rw [if_neg q] at hd; cases hd
  | _ => cases hd
/-! ### except without a name -/
section
variable {K : PySem.W.Frag} {mg : Str → Option Value} {W : Am K} {k : Bool} {names : List Str} {anc : Str → Str → Bool} {bi : List String} {y : Str} {m h : MS}
theorem rs_tryOnly {c : Addr} (T : ExT K mg names anc bi) (hy : y ∈ names) (hD : mg y = some (.ref c)) : RdS K mg W k (fun D σ H => canS K mg (W.to (wOnly K (.ref c) (fun a cls d D σ H => canS K mg (Am.of K fun _ _ _ _ => False) k h D σ H) W.w D)) k m D σ H)
    (vTryOnly names anc y m h) := fun G hG B H σ e D S q => by
  refine ⟨G, B, e, hG, S, ?_⟩
  unfold vTryOnly at q
  cases r : m e with
  | nx e' => simp only [r] at q; exact q
  | rt d e' => simp only [r] at q; exact q
  | bk e' => simp only [r] at q; exact q
  | ct e' => simp only [r] at q; exact q
  | bot => simp only [r] at q; exact q.elim
  | err x e1 =>
    simp only [r] at q
    intro cls dd σ' B' H' S' s xr
    have xr' := xr
    obtain ⟨C, h1, h2, h3⟩ := xr
    subst h2
    by_cases hx : x.cls ∈ names
    · rw [if_pos hx] at q
      refine ⟨anc x.cls y, T.exm x.cls hx y hy C c h1 hD, fun hb a ha => ?_, fun hb => ?_⟩
      · rw [if_pos hb] at q
        refine ⟨G, B', e1, trivial, S', ?_⟩
        have q := PoS.base s q
        cases w : h e1 with
        | nx e' => simp only [w] at q; exact q
        | rt d e' => simp only [w] at q; exact q
        | bk e' => simp only [w] at q; exact q
        | ct e' => simp only [w] at q; exact q
        | err x e' => simp only [w] at q; exact q.elim
        | bot => simp only [w] at q; exact q.elim
      · rw [if_neg (by rw [hb]; exact Bool.false_ne_true)] at q
        exact q (.ref C) dd σ' B' H' S' s xr'
    · rw [if_neg hx] at q; exact q.elim
end
section
variable {X : Cx} {W : Am X.K} {k : Bool} {pos np pos' : Pos} {y : Str} {body suite : List Stmt} {b₀ : Stmt} {m h : MS} {names : List Str} {anc : Str → Str → Bool} {bi : List String}
theorem vs_tryOnly (T : ExT X.K X.mg names anc bi) (hs : X.stack = X.env :: X.outer) (hf : X.env.frame = some X.env.locals) (tk : Takes X W.w)
    (hb : ∀ (Wx : WX) (pn : List (Addr × Obj)) (xe : Value → Shared → Prop), Takes (X.tr pn xe) Wx → PassesOwn (model X.prog X.w) X.A X.env xe → VSs (X.tr pn xe) (W.to Wx) k body m)
    (hsu : ∀ (a : Addr) (oe : Obj) (pn : List (Addr × Obj)), VSs (X.suite a ((a, oe) :: pn)) (Am.of X.K fun _ _ _ _ => False) k (b₀ :: suite) h)
    (hy : y ∈ names := by decide +kernel) (hg : Gl X y := by rfl) (hdb : (y == ("__debug__" : Str)) = false := by decide) :
    VS X W k (.Try body [.ExceptHandler (some (.Name y np)) none (b₀ :: suite) pos'] [] [] pos) (vTryOnly names anc y m h) := by
  obtain ⟨D, hD⟩ := T.top y hy
  exact ⟨_, ps_try_only (tb := fun Wx => canS X.K X.mg (W.to Wx) k m) (ts := fun a cls d D σ H => canS X.K X.mg (Am.of X.K fun _ _ _ _ => False) k h D σ H) hs hf ⟨hg, hdb, .inl hD⟩ tk (fun Wx pn xe t p => (hb Wx pn xe t p).can) (fun a oe cls d pn hz hfl => (hsu a oe pn).can), rs_tryOnly T hy hD⟩
end
end VL

/-! VL12: dicts of one's own. -/
namespace VL
open PySem PySem.Spec PyProof.Rows L2
section
variable {K : PySem.W.Frag} {mg : Str → Option Value} {W : Am K} {G : Gr} {B B' H H' : Hp} {σ σ' : L2.St} {e e' : Env} {k : Bool}
/-- a new dict, nobody's -/
def rpK (K : PySem.W.Frag) : RP (List Ky × List D) V := fun G B H σ e v kd => ∃ (p : Addr) (kvs : List (Key × V)), v = .ref p ∧ H p = some (.dK kvs) ∧ B p = none ∧ G.H p = none ∧ ¬ Owned σ e p ∧ kvs.map (·.1) = kd.1 ∧ Reps K B (kvs.map (·.2)) kd.2
abbrev RdK (K : PySem.W.Frag) (mg : Str → Option Value) (W : Am K) (t : TE) (m : MK) : Prop := RdX K mg W (rpK K) t m
theorem fresh_dict (S : Sto K G B H σ e) {kd : List Ky × List D} {kvs : List (Key × V)} {Q : VK} (ek : kvs.map (·.1) = kd.1) (r : Reps K B (kvs.map (·.2)) kd.2) (h : Po K mg W (rpK K) G σ B Q (.ok kd e)) : ∀ p, H p = none → Q (.ref p) (upd H p (.dK kvs)) := fun p hp =>
  h _ B _ (S.loose hp) (Same.refl B) ⟨p, kvs, rfl, upd_same, same_none S.sub hp, S.fresh hp, not_owned_new S hp, ek, r⟩
theorem rk_nil : RdK K mg W tDNewK vK0 where
  run := fun G hG B H σ e Q S h p hp => fresh_dict (kd := ([], [])) S rfl .nil h p hp
theorem rd_ofK {t : TE} {m : MK} (h : RdK K mg W t m) : RdE K mg W t (vOfK m) where
  run := fun G hG B H σ e Q S q => by
    refine h.run G hG B H σ e _ S (Po.bind q fun kd e1 x B1 H1 S1 s1 r1 h1 => ?_)
    obtain ⟨p, kvs, rfl, hp, hb, hg, no, ek, r⟩ := r1
    exact h1 _ _ _ (S1.take hp hb hg fun i b ds z1 z2 => no ⟨i, b, ds, z1, z2⟩) (same_upd' hb) (.dct (.inl upd_same) ek (r.mono (same_upd' hb)))
theorem rs_asgK {t : TE} {m : MK} {i : Nat} (ha : RdK K mg W t m) : RdS K mg W k (tAsg t (gName i)) (vAsgK i m) := fun G hG B H σ e D S h =>
  ha.run G hG B H σ e _ S (PoS.thenS h fun kd e1 v B1 H1 S1 _ r1 h1 => by
    by_cases hl : i < e1.length
    · rw [if_pos hl] at h1
      obtain ⟨p, kvs, rfl, hp, hb, hg, no, ek, r⟩ := r1
      exact h1.nx (S1.put i (.ow hb hg hp (.dct ek r)) fun b ds' p' e1' e2' j b' ds'' hj hjs => by
        cases e2'
        exact fun q => no ⟨j, b', ds'', hjs, q⟩)
    · rw [if_neg hl] at h1; exact h1.elim)
theorem rk_disp {trs : List (TE × TE)} {r : MQ} (hr : RdX K mg W (rpP K) (tPairs trs) r) : RdK K mg W (tDisp trs) (vKD r) where
  run := fun G hG B H σ e Q S h => by
    intro p hp
    have S1 : Sto K G B (upd H p (.dK [])) σ e := S.loose hp
    have gp := S.fresh hp
    have bp : B p = none := S.sub.free hp
    have npO : ¬ OwnF σ e p := fun q => by
      obtain ⟨i, b, ds, h1, h2⟩ := q
      obtain ⟨v, hv, ok⟩ := S.sl i _ h1
      obtain ⟨p2, vs2, ev, a1, a2, a3, a4⟩ := ok.owI
      rw [h2, ev] at hv
      cases hv
      rw [hp] at a3; cases a3
    have hRp : (reb G B (upd H p (.dK [])) σ e).H p = some (.dK []) := (if_neg npO).trans upd_same
    have pio : p ∉ G.io := fun q => S.iom p q gp
    refine hr.run _ (W.reb G B _ σ e hG S1) B _ σ e _ S1.reb ?_
    unfold vKD at h
    cases q : r e with
    | bot => rw [q] at h; exact h.elim
    | err x e1 =>
      rw [q] at h
      intro c dd B' H' S' s xr
      exact h c dd B' H' (Sto.unreb S1 S') s xr
    | ok ps e1 =>
      rw [q] at h
      intro vs B2 H2 S2 s2 rp
      have hp2 : H2 p = some (.dK []) := S2.keep p _ hRp pio
      refine ⟨hp2, ?_⟩
      obtain ⟨d, hd, h'⟩ := Po.of (R := rpK K) (Q := Q) (show Po K mg W (rpK K) G σ B Q (.of (dispK ps) e1) from h)
      unfold dispK at hd
      cases w : keysD (ps.map (·.1)) with
      | none => rw [w] at hd; cases hd
      | some ks =>
        simp only [w] at hd
        by_cases z : ks.Nodup ∧ ks.length ≤ 15
        · rw [if_pos z] at hd
          cases hd
          obtain ⟨kvs, e2, e3, e4⟩ := keys_rep rp.1 w
          have mk : mergeK [] kvs = kvs := by
            have := merge_app kvs [] (by rw [List.nil_append, e3]; exact z.1)
            rwa [List.nil_append] at this
          refine ⟨kvs, e2, by have := congrArg List.length e3; rw [List.length_map] at this; omega, ?_⟩
          rw [mk]
          have U := Sto.unreb S1 S2
          have b2 : B2 p = none := by
            cases q2 : B2 p with
            | none => rfl
            | some o =>
              exfalso
              rcases S2.new p (by rw [q2]; simp) with t | t
              · exact t bp
              · rw [hRp] at t; cases t
          have noO : ∀ (i : Nat) (b : Bool) (ds : List D), e1[i]? = some (.ow b ds) → σ[i]? ≠ some (some (.ref p)) := fun i b ds h1 h2 => by
            obtain ⟨v, hv, ok⟩ := S2.sl i _ h1
            obtain ⟨p2, vs2, ev, a1, a2, a3, a4⟩ := ok.owI
            rw [h2, ev] at hv
            cases hv
            rw [hRp] at a2; cases a2
          have P1 := U.poke (p := p) (o := .dK kvs) b2 gp noO
          exact h' (.ref p) B2 _ P1 s2 ⟨p, kvs, rfl, upd_same, b2, gp, fun ⟨i, b, ds, q1, q2⟩ => noO i b ds q1 q2, e3, by rw [e4]; exact rp.2⟩
        · rw [if_neg z] at hd; cases hd
/-- a callee that gives a new dict -/
def rDatK (K : PySem.W.Frag) (f : List D → Option (List Ky × List D)) : List V → Hp → VK → Prop := fun vs H Q => ∃ (G : Gr) (B : Hp) (σ : L2.St) (e : Env) (ds : List D) (kd : List Ky × List D), Sto K G B H σ e ∧ Reps K B vs ds ∧ f ds = some kd ∧
  ∀ v B' H', Sto K G B' H' σ e → Same B B' → rpK K G B' H' σ e v kd → Q v H'
theorem rk_call {t : TA} {m : MA} (ha : RdA K mg W t m) : RdK K mg W (tCB (rDatK K copyK) t) (vKC m) where
  run := fun G hG B H σ e Q S q => by
    refine ha.run G hG B H σ e _ S (Po.bind q fun ds e1 vs B1 H1 S1 s1 r1 h1 => ?_)
    obtain ⟨d, hd, h2⟩ := h1.of
    exact ⟨G, B1, σ, e1, ds, d, S1, r1, hd, h2⟩
theorem rk_bor {t : TE} {m : MK} (h : RdK K mg W t m) : RdK K mg W t (vBorK m) where
  run := fun G hG B H σ e Q S q => by
    refine h.run ⟨H, VL.full B H σ e, [], G.tok⟩ (W.full G B H σ e hG S) (VL.full B H σ e) H σ (frz e) Q S.full ?_
    unfold vBorK at q
    cases z : m (frz e) with
    | ok d e' =>
      rw [z] at q
      by_cases f : D.flats d.2 = true
      · simp only [f, if_true] at q
        refine fun v B' H' S' s' r' => ?_
        obtain ⟨p, vs, rfl, hp, hb, hg, no, ek, r⟩ := r'
        have hn : tupsOf B B' p = none := by
          cases w : tupsOf B B' p with
          | none => rfl
          | some o =>
            rcases tupsOf_some w with q1 | ⟨_, q1, _⟩
            · have q2 := S'.b0 _ _ (full_same _ _ q1); rw [hb] at q2; cases q2
            · rw [hb] at q1; cases q1
        have hH : H p = none := hg
        exact q (.ref p) (tupsOf B B') H' (S.back S') tupsOf_same ⟨p, vs, rfl, hp, hn, S.fresh hH, not_owned_new S hH, ek, Reps.flat (tupsOf_tups (B0 := B) (full_same.trans s')) f r⟩
      · simp only [f] at q
        exact q.elim
    | err x e' =>
      rw [z] at q
      exact fun c d B' H' S' s' r' => q c d (tupsOf B B') H' (S.back S') tupsOf_same (r'.tups (full_same.trans s'))
    | bot => rw [z] at q; exact q
theorem Sto.owK (S : Sto K G B H σ e) {i : Nat} {ds : List D} (z : e[i]? = some (.ow true ds)) : ∃ p kvs ks es, σ[i]? = some (some (.ref p)) ∧ H p = some (.dK kvs) ∧ ds = [.dct ks es] ∧ kvs.map (·.1) = ks ∧ Reps K B (kvs.map (·.2)) es := by
  obtain ⟨v, hv, ok⟩ := S.sl i _ z
  cases ok with
  | ow hb hg hh hr => cases hr with
    | dct e1 r => exact ⟨_, _, _, _, hv, hh, rfl, e1, r⟩
theorem put_pos {k : Ky} {v : V} {d : D} (rv : Rep K B v d) : ∀ {kvs : List (Key × V)} {ds : List D}, Reps K B (kvs.map (·.2)) ds →
    Reps K B ((kvs.map fun kv => if kv.1 = k then (kv.1, v) else kv).map (·.2)) (((kvs.map (·.1)).zip ds).map fun p => if p.1 = k then d else p.2)
  | [], ds, r => .nil
  | (k0, v0) :: kvs, ds, r => by
    cases r with
    | cons r0 rr =>
      simp only [List.map_cons, List.zip_cons_cons]
      refine .cons ?_ (put_pos rv rr)
      by_cases e : k0 = k
      · rw [if_pos e, if_pos e]; exact rv
      · rw [if_neg e, if_neg e]; exact r0
theorem put_keys {k : Ky} {v : V} : ∀ (kvs : List (Key × V)), (kvs.map fun kv => if kv.1 = k then (kv.1, v) else kv).map (·.1) = kvs.map (·.1)
  | [] => rfl
  | (k0, v0) :: kvs => by
    simp only [List.map_cons]
    rw [put_keys kvs]
    congr 1
    by_cases e : k0 = k
    · rw [if_pos e]
    · rw [if_neg e]
theorem put_rep {kvs : List (Key × V)} {ds : List D} {k : Ky} {v : V} {d : D} (r : Reps K B (kvs.map (·.2)) ds) (rv : Rep K B v d) : (putK kvs k v).map (·.1) = (putD (kvs.map (·.1)) ds k d).1 ∧ Reps K B ((putK kvs k v).map (·.2)) (putD (kvs.map (·.1)) ds k d).2 := by
  have ea : ((kvs.map (·.1)).any fun j => decide (j = k)) = kvs.any fun kv => decide (kv.1 = k) := by rw [List.any_map]; rfl
  unfold putK putD
  rw [ea]
  by_cases h : (kvs.any fun kv => decide (kv.1 = k)) = true
  · rw [if_pos h, if_pos h]
    exact ⟨put_keys kvs, put_pos rv r⟩
  · rw [if_neg h, if_neg h]
    refine ⟨by simp, ?_⟩
    rw [List.map_append]
    exact r.append (.cons rv .nil)
theorem rs_setK {i : Nat} {t tx : TE} {m mx : ME} (ha : RdE K mg W t m) (hx : RdE K mg W tx mx) : RdS K mg W k (sDPut (tVar i) tx t) (vSetK i mx m) := fun G hG B H σ e D S h =>
  ha.run G hG B H σ e _ S (PoS.thenS h fun d e1 v B1 H1 S1 s1 r1 h1 => by
    cases z : e1[i]? with
    | none => rw [z] at h1; exact h1.elim
    | some s =>
      rw [z] at h1
      cases s with
      | no => exact h1.elim
      | tk _ => exact h1.elim
      | sh _ => exact h1.elim
      | ow b ds =>
        cases b with
        | false => exact h1.elim
        | true =>
          obtain ⟨p, kvs, ks, es, hv, hh, _, _, _⟩ := S1.owK z
          refine ⟨_, hv, hx.run G hG B1 H1 σ e1 _ S1 (PoS.thenS h1 fun x e2 vx B2 H2 S2 s2 r2 h2 => ?_)⟩
          cases z1 : e2[i]? with
          | none => rw [z1] at h2; exact h2.elim
          | some s2' =>
            rw [z1] at h2
            cases s2' with
            | no => exact h2.elim
            | tk _ => exact h2.elim
            | sh _ => exact h2.elim
            | ow b ds2 =>
              cases b with
              | false => exact h2.elim
              | true =>
                obtain ⟨p1, kvs1, ks1, es1, hv1, hh1, rfl, e3, hr1⟩ := S2.owK z1
                rw [hv] at hv1
                cases hv1
                dsimp only at h2
                cases w : keyD x with
                | none => rw [w] at h2; exact h2.elim
                | some kk =>
                  rw [w] at h2
                  dsimp only at h2
                  by_cases hl : ks1.length < vmax
                  · rw [if_pos hl] at h2
                    subst e3
                    obtain ⟨q1, q2⟩ := put_rep (k := kk) hr1 (r1.mono s2)
                    rw [List.length_map] at hl
                    exact ⟨p, _, rfl, .inl ⟨kvs1, kk, hh1, keyD_V r2 w, Nat.lt_of_lt_of_le hl vok, rfl⟩, h2.nx (S2.write z1 hv (.dct q1 q2))⟩
                  · rw [if_neg hl] at h2; exact h2.elim)
end
section
variable {X : Cx}
theorem cd_dict : CallR X (.type "dict") (rDatK X.K copyK) := by
  intro pins s σ H xs us Q I r ⟨G, B, σ', e, ds, kd, S, rs, hd, h⟩
  unfold copyK at hd
  split at hd
  · cases hd
    cases rs with
    | cons r0 rr =>
      cases rr
      cases r0 with
      | @dct a kvs _ _ h1 h2 h3 =>
        cases r with
        | cons ra rt =>
          cases rt
          obtain rfl := (show _ = Value.ref a from ra)
          exact d_copyOf I (rd_sub S.sub h1) fun p s' hp I' => ⟨.ref p, _, I', rfl, h (.ref p) B _ (S.loose hp) (Same.refl B) ⟨p, kvs, rfl, upd_same, same_none S.sub hp, S.fresh hp, not_owned_new S hp, h2, h3⟩⟩
  · cases hd
end
section
variable {ι : Type} {K : PySem.W.Frag} {mg : Str → Option Value} {X : ι → Cx} {W : Am K} {pos : Pos}
def VD (K : PySem.W.Frag) (mg : Str → Option Value) (X : ι → Cx) (W : Am K) (e : Expr) (m : MK) : Prop := ∃ t, (∀ i, PE (X i) e t) ∧ RdK K mg W t m
theorem vd_nil : VD K mg X W (.Dict [] [] pos) vK0 := ⟨_, fun _ => pe_dnewK, rk_nil⟩
theorem vd_disp {ks : List (Option Expr)} {vs : List Expr} {r : MQ} (h : VQ K mg X W pos ks vs r) (hall : ks.all (·.isSome) = true := by rfl) (hl : ks.length = vs.length := by rfl) (h0 : ks ≠ [] := by simp) (h15 : ks.length ≤ 15 := by simp) : VD K mg X W (.Dict ks vs pos) (vKD r) :=
  let ⟨t, p, q⟩ := h; ⟨tDisp t, fun i => pe_disp (p i) hall hl h0 h15, rk_disp q⟩
theorem vd_dict {p : Pos} {e : Expr} {es : List Expr} {ms : MA} (hm : ∀ j, (X j).mg "dict" = none) (ha : VA K mg X W (e :: es) ms) (hg : ∀ j, Gl (X j) "dict" := by intro _; rfl)
    (he : ∀ j, starEach (e :: es) (X j).env = (false, eval e (X j).env) :: starEach es (X j).env := by intro _; rfl) (hpl : ∀ j, (backTo pos (starEach es (X j).env)).any (·.1) = false := by intro _; rfl) (hK : ∀ j, (X j).K = K := by intro _; rfl) : VD K mg X W (.Call (.Name "dict" p) (e :: es) [] pos) (vKC ms) :=
  let ⟨_, p, r⟩ := ha; ⟨_, fun i => pe_callTy (hK i ▸ cd_dict : CallR (X i) (.type "dict") (rDatK K copyK)) (hg i) (hm i) (by decide +kernel) (p i) (by decide) (by decide) (he i) (hpl i), rk_call r⟩
theorem vd_bor {e : Expr} {m : MK} (h : VD K mg X W e m) : VD K mg X W e (vBorK m) := let ⟨t, p, r⟩ := h; ⟨t, p, rk_bor r⟩
theorem ve_ofK {e : Expr} {m : MK} (h : VD K mg X W e m) : VE K mg X W e (vOfK m) := let ⟨t, p, r⟩ := h; ⟨t, p, rd_ofK r⟩
end
section
variable {X : Cx} {W : Am X.K} {k : Bool} {pos pos' : Pos} {x : Str} {e : Expr} {ms : MK} {m : ME}
theorem vs_setK (i : Nat) (hN : X.N.Nodup) (he : VD X.K X.mg (at1 X) W e ms) (hi : X.N[i]? = some x := by rfl) (hx : Loc X.env.scope x := by first | exact Or.inl rfl | exact Or.inr rfl) (hs : swapsWith e (some (.Name x pos')) pos.line X.env = pure false := by rfl) (hf : X.fn x = true ∨ X.env.scope.names.lookup x = some .local := by first | exact .inl rfl | exact .inr rfl) :
    VS X W k (.Assign [.Name x pos'] e pos) (vAsgK i ms) := let ⟨_, p, r⟩ := he; ⟨_, ps_set hN hi hx (p ()) hs hf, rs_asgK r⟩
theorem vs_subK (i : Nat) {p tpos : Pos} {ix : Expr} {mx : ME} (hu : X.A.units + 1 < cLine) (he : VE X.K X.mg (at1 X) W e m) (hx : VE X.K X.mg (at1 X) W ix mx) (hN : X.N[i]? = some x := by rfl) (hv : Vis X.env.scope x := by first | exact Or.inl rfl | exact Or.inr (Or.inl rfl) | exact Or.inr (Or.inr rfl)) (hd : (x == ("__debug__" : Str)) = false := by decide)
    (hcd : (x == ("__classdict__" : Str)) = false := by decide) (hs : swapsWith e (some (.Subscript (.Name x p) ix tpos)) pos.line X.env = pure false := by rfl) : VS X W k (.Assign [.Subscript (.Name x p) ix tpos] e pos) (vSetK i mx m) :=
  let ⟨_, q, r⟩ := he; let ⟨_, q', r'⟩ := hx; ⟨_, ps_dput hu (pe_var hN hv hd hcd) (q' ()) (q ()) hs, rs_setK r r'⟩
end
end VL

/-! VL13: a module's own table (a dict with text keys) asked by `in`, `not in`, `[..]`. -/
namespace VL
open PySem PySem.Spec PyProof.Rows L2
/-- a world, one of its texts' follows put to a truth -/
def fixW (w : World) (x : String) (b : Bool) : World := { w with params := { w.params with followText := fun s => if s = x then b else w.params.followText s } }
theorem fixW_eq (w : World) (x : String) : fixW w x (w.params.followText x) = w := by
  have key : (fun s => if s = x then w.params.followText x else w.params.followText s) = w.params.followText := by
    funext s
    by_cases h : s = x
    · rw [if_pos h, h]
    · rw [if_neg h]
  unfold fixW
  rw [key]
/-- the head's facts, a table's keys among them -/
def hookY (n : Nat) (fa : List He.Fa) (fn : List He.DefD) (ts : List He.Tab) (fx : PySem.W.Frag → Bool) : PySem.W.Hook where
  α := He.AlT × Bool
  obs := fun s => (He.obsT fa fn ts (He.frG s.heap.get? (cStatics :: He.asD s.heap.get? n)), fx (He.frG s.heap.get? (cStatics :: He.asD s.heap.get? n)))
  val := fun w => (He.valT fn ts w, true)
  says := fun w h => ∃ K : PySem.W.Frag, K.In h ∧ He.SaysT fa fn ts w K ∧ fx K = true
  of := fun w s q => ⟨He.frG s.heap.get? (cStatics :: He.asD s.heap.get? n), He.frG_in, (Prod.mk.inj q).1, (Prod.mk.inj q).2⟩
  keeps := fun w h h' z k => let ⟨K, hK, c, d⟩ := z; ⟨K, PySem.W.Frag.In.keeps hK k, c, d⟩
def obY (n : Nat) (fa : List He.Fa) (fn : List He.DefD) (ts : List He.Tab) (fx : PySem.W.Frag → Bool) (g : Addr → Option Obj) : He.AlT × Bool := (He.obsT fa fn ts (He.frG g (cStatics :: He.asD g n)), fx (He.frG g (cStatics :: He.asD g n)))
theorem obY_eq {n : Nat} {fa : List He.Fa} {fn : List He.DefD} {ts : List He.Tab} {fx : PySem.W.Frag → Bool} {g : Addr → Option Obj} {s : Shared} (h : ∀ a, g a = s.heap.get? a) : obY n fa fn ts fx g = (hookY n fa fn ts fx).obs s := by
  cases (funext h : g = s.heap.get?)
  exact rfl
theorem says_tab {fa : List He.Fa} {fn : List He.DefD} {ts : List He.Tab} {w : World} {K : PySem.W.Frag} (c : He.SaysT fa fn ts w K) (i : Nat) {t : He.Tab} (h : ts[i]? = some t := by rfl) : He.dicW K (t.1 K) = some (He.keysIn w.params t.2) := by
  have e : ts.map (fun t => He.dicW K (t.1 K)) = ts.map fun t => some (He.keysIn w.params t.2) := congrArg (fun z : He.AlT => z.2) c
  have e2 : (ts.map fun t => He.dicW K (t.1 K))[i]? = (ts.map fun t => some (He.keysIn w.params t.2))[i]? := by rw [e]
  rw [List.getElem?_map, List.getElem?_map, h] at e2
  exact Option.some.inj e2
theorem keys_not {P : Params} {z : Str} : ∀ {l : List DictEntry} {ks : List Str}, l.map He.keyOf = He.keysIn P ks → z ∉ ks → l.find? (·.key.isStr z) = none ∧ l.any (·.refKey) = false
  | [], _, _, _ => ⟨rfl, rfl⟩
  | e :: r, [], h, _ => by cases h
  | e :: r, k :: ks, h, nz => by
    have h1 : He.keyOf e :: r.map He.keyOf = some (k, PyData.keyHash P k) :: He.keysIn P ks := h
    injection h1 with h2 h3
    obtain ⟨a1, a2⟩ := keys_not (z := z) h3 fun q => nz (List.mem_cons_of_mem _ q)
    unfold He.keyOf at h2
    split at h2
    · rename_i x t q
      obtain ⟨h5, h6⟩ := Prod.mk.inj (Option.some.inj h2)
      have ne : ¬ x = z := fun w => nz (by rw [← w, h5]; exact List.mem_cons_self)
      have e1 : e.key.isStr z = false := by rw [q]; simpa [Value.isStr] using ne
      have e2 : e.refKey = false := by unfold DictEntry.refKey; rw [q]; try rfl
      rw [List.find?_cons, e1, List.any_cons, e2]
      exact ⟨a1, a2⟩
    · cases h2
theorem nsIn_not {K : PySem.W.Frag} {P : Params} {a : Addr} {ks : List Str} {z : Str} (h : He.dicW K a = some (He.keysIn P ks)) (nz : z ∉ ks) : PySem.W.nsIn K a z = some none := by
  unfold He.dicW at h
  cases q : K.lookup a with
  | none => rw [q] at h; cases h
  | some o =>
    obtain ⟨oc, od, dt, osl⟩ := o
    rw [q] at h
    cases oc with
    | type c =>
      cases od with
      | none =>
        cases dt with
        | dict es n =>
          have h1 : (match decide (c = "dict") && (osl.isEmpty && !(a == sysModules)) with
            | true => some (es.toList.map He.keyOf)
            | false => none) = some (He.keysIn P ks) := h
          cases z1 : decide (c = "dict") && (osl.isEmpty && !(a == sysModules)) with
          | false => rw [z1] at h1; cases h1
          | true =>
            rw [z1] at h1
            obtain ⟨a1, a2⟩ := keys_not (Option.some.inj h1) nz
            unfold PySem.W.nsIn
            rw [q]
            dsimp only
            rw [a1, a2]
            rfl
        | _ => cases h
      | some b => cases dt <;> cases h
    | _ => cases od <;> cases dt <;> cases h
structure TCon (K : PySem.W.Frag) (w : World) (mg : Str → Option Value) (x : Str) (t : Tb) : Prop where
  ex : ∃ (a : Addr) (es : Array DictEntry) (n : Nat), mg x = some (.ref a) ∧ KDict K w a es n ∧ ∀ z, match tbGet t z with
    | none => PySem.W.nsIn K a z = some none
    | some d => ∃ (u : Value) (v : V), PySem.W.nsIn K a z = some (some u) ∧ RelV v u ∧ ∀ B, Rep K B v d
theorem tb_vals : ∀ {kvs : List (Str × He.Dv)} {t : Tb}, kvs.map (fun q => (q.1, dvD q.2)) = t.map (fun q => (q.1, some q.2)) → ∀ z d, tbGet t z = some d → ∃ q ∈ kvs, q.1 = z ∧ dvD q.2 = some d
  | [], [], _, z, d, h => by cases h
  | [], p :: t, e, _, _, _ => by cases e
  | q :: kvs, [], e, _, _, _ => by cases e
  | q :: kvs, p :: t, e, z, d, h => by
    rw [List.map_cons, List.map_cons] at e
    obtain ⟨e1, e2⟩ := List.cons.inj e
    obtain ⟨e3, e4⟩ := Prod.mk.inj e1
    unfold tbGet at h
    rw [List.find?_cons] at h
    by_cases n : p.1 = z
    · rw [decide_eq_true n] at h
      cases h
      exact ⟨q, List.mem_cons_self, e3.trans n, e4⟩
    · rw [decide_eq_false n] at h
      obtain ⟨q', m, r⟩ := tb_vals e2 z d h
      exact ⟨q', List.mem_cons_of_mem _ m, r⟩
theorem dv_rep {K : PySem.W.Frag} {B : Hp} {v : He.Dv} {d : D} (h : dvD v = some d) : Rep K B (v.v K) d := by
  cases v <;> first | (cases h; constructor) | cases h
theorem tcon_of {K : PySem.W.Frag} {w : World} {h : Heap} {mg : Str → Option Value} {x : Str} {ks : List Str} {kvs : List (Str × He.Dv)} {t : Tb} (X : K.In h) (G : h.Ns mainGlobals mg) (c : He.dicW K (He.ga K x) = some (He.keysIn w.params ks)) (c2 : ((He.Fa.glo x).ok K && He.valsB K (He.ga K x) kvs) = true)
    (e : kvs.map (fun q => (q.1, dvD q.2)) = t.map (fun q => (q.1, some q.2))) (ek : t.map (·.1) = ks) : TCon K w mg x t := by
  obtain ⟨g, vs⟩ := He.ba c2
  obtain ⟨es, n, kd⟩ := He.dicW_ok (w := w) c
  refine ⟨He.ga K x, es, n, He.glo_ok X G g, kd, fun z => ?_⟩
  cases q : tbGet t z with
  | none =>
    refine nsIn_not c fun m => ?_
    rw [← ek] at m
    obtain ⟨p, hp, e⟩ := List.mem_map.mp m
    unfold tbGet at q
    have := List.find?_eq_none.mp (Option.map_eq_none_iff.mp q) p hp
    exact this (decide_eq_true e)
  | some d =>
    obtain ⟨p, hp, e1, e2⟩ := tb_vals e z d q
    obtain ⟨u, h1, h2⟩ := He.valsB_ok vs hp
    rw [e1] at h1
    exact ⟨u, _, h1, h2, fun B => dv_rep e2⟩
section
variable {K : PySem.W.Frag} {mg : Str → Option Value} {W : Am K} {G : Gr} {B H : Hp} {σ : L2.St} {e : Env} {a : Addr} {t : Tb} {ta : TE} {ma : ME}
theorem rd_tabIn (ht : ∀ z, match tbGet t z with
    | none => PySem.W.nsIn K a z = some none
    | some d => ∃ (u : Value) (v : V), PySem.W.nsIn K a z = some (some u) ∧ RelV v u ∧ ∀ B, Rep K B v d) (b : Bool) (ha : RdE K mg W ta ma) :
    RdE K mg W (tOp (fun x y H Q => ∃ (z : Str) (r : Option Value), x = .str z ∧ y = .ref a ∧ PySem.W.nsIn K a z = some r ∧ Q (.bl (b ^^ r.isSome)) H) ta (tC (.ref a))) (vUn (fun d => match d with
      | .str z => some (.bl (b ^^ (tbGet t z).isSome))
      | _ => none) ma) where
  run := fun G hG B H σ e Q S h => by
    refine ha.run G hG B H σ e _ S (Po.bind h fun x e1 v B1 H1 S1 s1 r1 h1 => ?_)
    obtain ⟨d, hd, h2⟩ := h1.of
    have r1 : Rep K B1 v x := r1
    cases x with
    | str z =>
      cases r1
      cases hd
      have q := ht z
      cases w : tbGet t z with
      | none =>
        rw [w] at q h2
        exact ⟨z, none, rfl, rfl, q, Po.here h2 S1 (.bl _)⟩
      | some d =>
        rw [w] at q h2
        obtain ⟨u, v, q1, q2, q3⟩ := q
        exact ⟨z, some u, rfl, rfl, q1, Po.here h2 S1 (.bl _)⟩
    | _ => cases hd
theorem rd_tabIx (ht : ∀ z, match tbGet t z with
    | none => PySem.W.nsIn K a z = some none
    | some d => ∃ (u : Value) (v : V), PySem.W.nsIn K a z = some (some u) ∧ RelV v u ∧ ∀ B, Rep K B v d) (ha : RdE K mg W ta ma) :
    RdE K mg W (tOp (fun x y H Q => ∃ (z : Str) (u0 : Value) (v0 : V), x = .ref a ∧ y = .str z ∧ PySem.W.nsIn K a z = some (some u0) ∧ RelV v0 u0 ∧ Q v0 H) (tC (.ref a)) ta) (vUn (tabIx t) ma) where
  run := fun G hG B H σ e Q S h => by
    refine ha.run G hG B H σ e _ S (Po.bind h fun x e1 v B1 H1 S1 s1 r1 h1 => ?_)
    obtain ⟨d, hd, h2⟩ := h1.of
    have r1 : Rep K B1 v x := r1
    cases x with
    | str z =>
      cases r1
      have hd : tbGet t z = some d := hd
      have q := ht z
      rw [hd] at q
      obtain ⟨u, v, q1, q2, q3⟩ := q
      exact ⟨z, u, v, rfl, rfl, q1, q2, Po.here h2 S1 (q3 B1)⟩
    | _ => cases hd
end
section
variable {ι : Type} {K : PySem.W.Frag} {mg : Str → Option Value} {X : ι → Cx} {W : Am K} {w : World} {pos p : Pos} {a : Expr} {ma : ME} {x : Str} {t : Tb}
theorem kd_at {j : ι} {b : Addr} {es : Array DictEntry} {n : Nat} (kd : KDict K w b es n) (hK : (X j).K = K) (hw : (X j).w = w) : KDict (X j).K (X j).w b es n := by rw [hK, hw]; exact kd
theorem op_tabIn {j : ι} {b : Addr} {es : Array DictEntry} {n : Nat} (kd : KDict K w b es n) (hK : (X j).K = K) (hw : (X j).w = w) : OpR (X j) (compareOp .In) (fun x y H Q => ∃ (z : Str) (r : Option Value), x = .str z ∧ y = .ref b ∧ PySem.W.nsIn K b z = some r ∧ Q (.bl r.isSome) H) := by
  have q := op_in_kd (X := X j) (kd_at kd hK hw)
  rw [hK] at q
  exact q
theorem op_tabNotIn {j : ι} {b : Addr} {es : Array DictEntry} {n : Nat} (kd : KDict K w b es n) (hK : (X j).K = K) (hw : (X j).w = w) : OpR (X j) (compareOp .NotIn) (fun x y H Q => ∃ (z : Str) (r : Option Value), x = .str z ∧ y = .ref b ∧ PySem.W.nsIn K b z = some r ∧ Q (.bl (!r.isSome)) H) := by
  have q := op_notIn_kd (X := X j) (kd_at kd hK hw)
  rw [hK] at q
  exact q
theorem ix_tab {j : ι} {b : Addr} {es : Array DictEntry} {n : Nat} (kd : KDict K w b es n) (hK : (X j).K = K) (hw : (X j).w = w) : IxR (X j) (fun x y H Q => ∃ (z : Str) (u0 : Value) (v0 : V), x = .ref b ∧ y = .str z ∧ PySem.W.nsIn K b z = some (some u0) ∧ RelV v0 u0 ∧ Q v0 H) := by
  have kd' := kd_at kd hK hw
  intro value slice pins s σ H x y v u Q I rx ry h hs
  obtain ⟨z, u0, v0, rfl, rfl, e1, e2, e3⟩ := h
  have h' := op_item_kd (X := X j) kd' pins s σ H _ _ v u Q I rx ry ⟨z, u0, v0, rfl, rfl, by rw [hK]; exact e1, e2, e3⟩
  cases rx
  exact tail_any (kd_type kd' I) PySem.F.slot_dict_getitem.lookup h' hs
section
variable (T : TCon K w mg x t) (ha : VE K mg X W a ma) (hm : ∀ j, (X j).mg = mg := by intro _; rfl) (hg : ∀ j, Gl (X j) x := by intro _; rfl) (hd : (x == ("__debug__" : Str)) = false := by decide) (hK : ∀ j, (X j).K = K := by intro _; rfl) (hw : ∀ j, (X j).w = w := by intro _; rfl) (hM : behindInMarks .In (.Name x p) = false := by rfl) (hM' : behindInMarks .NotIn (.Name x p) = false := by rfl)
include T ha hm hg hd hK hw hM in
theorem ve_tabIn : VE K mg X W (.Compare a [.In] [.Name x p] pos) (vUn (tabIn t) ma) := by
  obtain ⟨b, es, n, e1, kd, ht⟩ := T.ex
  obtain ⟨_, p', r⟩ := ha
  have key := rd_tabIn ht false r
  simp only [Bool.false_xor] at key
  exact ⟨_, fun i => pe_cmpR (op_tabIn kd (hK i) (hw i)) (p' i) (pe_glob (v := .ref b) (u := .ref b) (hg i) (by rw [hm i]; exact e1) rfl hd) hM, key⟩
include T ha hm hg hd hK hw hM in
theorem vt_tabIn : VT K mg X W (.Compare a [.In] [.Name x p] pos) (vTest (vUn (tabIn t) ma)) := by
  obtain ⟨b, es, n, e1, kd, ht⟩ := T.ex
  obtain ⟨_, p', r⟩ := ha
  have key := rd_tabIn ht false r
  simp only [Bool.false_xor] at key
  exact ⟨_, fun i => pt_cmpR (op_tabIn kd (hK i) (hw i)) (p' i) (pe_glob (v := .ref b) (u := .ref b) (hg i) (by rw [hm i]; exact e1) rfl hd) hM, rd_test key⟩
include T ha hm hg hd hK hw hM' in
theorem ve_tabNotIn : VE K mg X W (.Compare a [.NotIn] [.Name x p] pos) (vUn (tabNotIn t) ma) := by
  obtain ⟨b, es, n, e1, kd, ht⟩ := T.ex
  obtain ⟨_, p', r⟩ := ha
  have key := rd_tabIn ht true r
  simp only [Bool.true_xor] at key
  exact ⟨_, fun i => pe_cmpR (op_tabNotIn kd (hK i) (hw i)) (p' i) (pe_glob (v := .ref b) (u := .ref b) (hg i) (by rw [hm i]; exact e1) rfl hd) hM', key⟩
include T ha hm hg hd hK hw hM' in
theorem vt_tabNotIn : VT K mg X W (.Compare a [.NotIn] [.Name x p] pos) (vTest (vUn (tabNotIn t) ma)) := by
  obtain ⟨b, es, n, e1, kd, ht⟩ := T.ex
  obtain ⟨_, p', r⟩ := ha
  have key := rd_tabIn ht true r
  simp only [Bool.true_xor] at key
  exact ⟨_, fun i => pt_cmpR (op_tabNotIn kd (hK i) (hw i)) (p' i) (pe_glob (v := .ref b) (u := .ref b) (hg i) (by rw [hm i]; exact e1) rfl hd) hM', rd_test key⟩
include T ha hm hg hd hK hw in
theorem ve_tabIx (hs : PlainIx a) : VE K mg X W (.Subscript (.Name x p) a pos) (vUn (tabIx t) ma) := by
  obtain ⟨b, es, n, e1, kd, ht⟩ := T.ex
  obtain ⟨_, p', r⟩ := ha
  exact ⟨_, fun i => pe_ix (ix_tab kd (hK i) (hw i)) (pe_glob (v := .ref b) (u := .ref b) (hg i) (by rw [hm i]; exact e1) rfl hd) (p' i) hs, rd_tabIx ht r⟩
end
end
end VL

/-! VL14: errors with a number of their own; several except clauses. -/
namespace VL
open PySem PySem.Spec PyProof.Rows L2
/-! ### the class -/
def oexB (K : PySem.W.Frag) (C : Addr) : Bool := match K.lookup C with
  | some ⟨.type "type", _, .cls cd, sl⟩ => (match cd.mro, sl.toList with
    | .ref C' :: bm, [_, _, _, _, some (.builtin n), _] => C' == C && n == "ValueError.__new__" && !cd.hasDel && cd.hasDict && PySem.HandSPX.refsVE bm
    | _, _ => false)
  | _ => false
theorem oexB_ok {K : PySem.W.Frag} {C : Addr} (q : oexB K C = true) : ∃ nm qn N bs bm sn sub ab col dd k0 k1 k2 k3 k5, K.lookup C = some (excClassObj nm qn C N bs bm true sn sub ab col dd k0 k1 k2 k3 k5 "ValueError.__new__") ∧ PySem.HandSPX.refsVE bm = true := by
  unfold oexB at q
  split at q
  · rename_i dd cd sl ho
    split at q
    · rename_i C' bm k0 k1 k2 k3 n k5 hm hs
      simp only [Bool.and_eq_true, beq_iff_eq, Bool.not_eq_true'] at q
      obtain ⟨⟨⟨⟨rfl, rfl⟩, hdel⟩, hdct⟩, ht⟩ := q
      obtain ⟨nm, bs, mro, ns, qn, hd, sn, sub, ab, col, del⟩ := cd
      dsimp only at hm hdel hdct
      subst hm hdel hdct
      have hsl : sl = #[k0, k1, k2, k3, some (.builtin "ValueError.__new__"), k5] := by
        obtain ⟨l⟩ := sl
        simp only at hs
        rw [hs]
      subst hsl
      exact ⟨nm, qn, ns, bs, bm, sn, sub, ab, col, dd, k0, k1, k2, k3, k5, ho, ht⟩
    · cases q
  · cases q
/-- the class that its __init__ calls by its name -/
structure OexB (K : PySem.W.Frag) (mg : Str → Option Value) (b : Str) : Prop where
  ex : ∃ C, mg b = some (.ref C) ∧ PySem.W.specialIn K (.ref C) "__getattribute__" = some (some (.builtin "type.__getattribute__")) ∧ PySem.W.readsIn K C (.type "type") = true ∧ PySem.W.findCls K (.ref C) (.type "type") "__init__" = some (.val (.builtin "ValueError.__init__"))
/-- an error's class x with its number's field f, its __init__ st -/
structure OexT (K : PySem.W.Frag) (mg : Str → Option Value) (x f b : Str) (st : Stmt) (p q : Str) : Prop where
  ex : ∃ C fI fd, mg x = some (.ref C) ∧ OexC K C ∧ PySem.W.findIn K (.ref C) "__init__" = some (some (.ref fI)) ∧ PySem.W.typeIn K (.ref fI) = some (.type "function") ∧ PySem.W.findIn K (.ref C) f = some none ∧ Fun K "__init__" q st fI fd ∧ Bnd fd ["self", p]
  b : OexB K mg b
theorem pe_cutinit {X : Cx} {b : Str} {e : Expr} {es : List Expr} {ta : TA} {p1 p2 pos : Pos} {pl : Sem Bool} (T : OexB X.K X.mg b) (hg : Gl X b) (hdb : (b == ("__debug__" : Str)) = false) (ha : PA X (e :: es) ta)
    (hc : eval (.Call (.Attribute (.Name b p1) "__init__" p2) (e :: es) [] pos) X.env = (do
      let ov ← eval (.Name b p1) X.env
      standAt p2.atName
      let (f, first) ← holding [ov] (getMethod ov "__init__" pl)
      callWith pos f first (backTo pos (starEach (e :: es) X.env)) (backToKw pos (keywordEach [] X.env))) := by rfl)
    (he : starEach (e :: es) X.env = (false, eval e X.env) :: starEach es X.env := by rfl) (hpl : (backTo pos (starEach es X.env)).any (·.1) = false := by rfl) :
    PE X (.Call (.Attribute (.Name b p1) "__init__" p2) (e :: es) [] pos) (tVeI X.K ta) := by
  obtain ⟨C0, g0, s0, r0, f0⟩ := T.ex
  refine ⟨fun pins s σ H Q I h => ?_⟩
  refine PySem.W.methodCall_KW (ld_glob I hg g0 ?_ hdb) hc
  refine PySem.W.method_cls I.kIn s0 (PySem.W.cls_value I.kIn r0 f0 (by decide +kernel) ?_)
  show wpAny _ _ (callWith pos (Value.builtin "ValueError.__init__") [] (backTo pos (starEach (e :: es) X.env)) []) _ _ _
  refine PyProof.Rows.callWith_method1 (thn (ha.run pos pins _ σ H _ (I.tok _) h) fun us s1 ⟨vs, H1, I1, r1, a, C, ws, ev, hl, T, ea, q⟩ => ?_) he hpl
  subst ev
  cases r1 with
  | @cons _ u0 _ ur ra rw' =>
    obtain rfl : u0 = Value.ref a := ra
    have hlen : ur.length ≤ sizeLine := by
      rw [← Paired.length rw', sizeLine_eq]
      omega
    exact oinit_ok T I1 ea hlen fun s' J => ⟨.non, H1, J, rfl, q⟩
/-- what such an __init__ does -/
def spI (K : PySem.W.Frag) (f : Str) : Sp := fun vs H Q _ => ∃ (a C : Addr) (m : V), vs = [.ref a, m] ∧ OexC K C ∧ PySem.W.findIn K (.ref C) f = some none ∧ H a = some (exo a C none) ∧ ∀ dx, H dx = none → dx ≠ a → Q .non (upd (upd H dx (exd dx [(f, m)])) a (exo a C (some dx)))
section
variable {P : Program} {w : World} {K : PySem.W.Frag} {mg : Str → Option Value} {base : Heap}
theorem fn_initOf {f p q m : Str} {st : Stmt} {fI : Addr} {fd : FuncData} {k : Nat} (F : Fun K "__init__" q st fI fd) (S : FnScope ["self", p] ["self", p] (defScope st))
    (hps : ∀ (cdv : Value) (A : Around) (outer : List PySem.Env) (s : Shared) (H : Hp) (E : XK), PSs (cxOf (L2.CX P w) P w K mg base ["self", p] q (defScope st) fI cdv A outer s H E) (defBody st) (tSeq (tDrop (tVeI K (tCons (tVar 0) (tCons (tC (.str m)) tNil)))) (tSeq (tOst K f (tVar 0) (tVar 1)) tNext))) :
    FnOk P w K mg base (L2.CX P w) (k + 1) fI fd ["self", p] (spI K f) := by
  refine F.okX S (fun vs H Q E h => ?_) (fun cdv A outer s H vs Q E hr h => ⟨_, hps cdv A outer s H E, ?_⟩)
  · obtain ⟨a, C, m, rfl, _⟩ := h
    rfl
  · obtain ⟨a, C, v, rfl, T, hno, ha, h⟩ := h
    refine ⟨.ref a, rfl, a, C, [.str m], rfl, by simp, T, ha, ?_⟩
    refine ⟨v, rfl, .ref a, rfl, a, C, rfl, T, hno, .inl ⟨ha, fun dx h1 h2 => ?_⟩⟩
    exact h dx h1 h2
end
/-! ### raise -/
section
variable {K : PySem.W.Frag} {mg : Str → Option Value} {W : Am K} {k : Bool} {x f b p : Str} {t : TE} {m : ME}
theorem rs_raiseI {C : Addr} (hm : mg x = some (.ref C)) (T : OexC K C) (hno : PySem.W.findIn K (.ref C) f = some none) (ha : RdE K mg W t m) : RdS K mg W k (fun _ σ H => tMkO C (spI K f) [] (tCons t tNil) σ H fun cls d H' => W.w cls d σ H') (vRaiseI x f m) := fun G hG B H σ e D S h => by
  unfold vRaiseI at h
  refine ha.run G hG B H σ e _ S ?_
  cases r : m e with
  | bot => rw [r] at h; exact h.elim
  | err y e1 => rw [r] at h; exact fun cls dd B' H' S' s' x' => h cls dd σ B' H' S' s' x'
  | ok d e1 =>
    rw [r] at h
    intro v B1 H1 S1 s1 r1
    cases d with
    | int n =>
      have r1 : Rep K B1 v (.int n) := r1
      cases r1
      have h : ∀ cls dd σ' B' H', Sto K G B' H' σ' e1 → Same B B' → XRep K mg B' cls dd ⟨x, some (f, n)⟩ → W.w cls dd σ' H' := h
      refine ⟨by simp, fun a ha => ⟨a, C, .int n, rfl, T, hno, upd_same, fun dx hdx ne => ?_⟩⟩
      have hd1 : H1 dx = none := by rwa [upd_ne ne] at hdx
      refine ⟨rfl, dx, [(f, .int n)], upd_same, by rw [upd_ne ne, upd_same], hd1, ?_⟩
      have e2 : upd (del (upd (upd (upd H1 a (exo a C none)) dx (exd dx [(f, .int n)])) a (exo a C (some dx))) a) dx (.xd [(f, .int n)]) = upd H1 dx (.xd [(f, .int n)]) := by
        funext c
        by_cases h1 : c = dx
        · rw [h1, upd_same, upd_same]
        · rw [upd_ne h1, upd_ne h1]
          by_cases h2 : c = a
          · rw [h2, del_same, ha]
          · rw [del_ne h2, upd_ne h2, upd_ne h1, upd_ne h2]
      rw [e2]
      have S2 := S1.alloc (p := dx) (o := .xd [(f, .int n)]) hd1
      exact h (.ref C) (some dx) _ _ _ S2 (s1.trans (same_upd' (S1.sub.free hd1))) ⟨C, hm, rfl, dx, rfl, upd_same⟩
    | _ => exact h.elim
end
section
variable {X : Cx} {W : Am X.K} {k : Bool} {pos p0 cpos : Pos} {x f b p q m0 : Str} {st : Stmt} {e : Expr} {m : ME} {P : Program} {w : World}
/-- raise x(e) -/
theorem vs_raiseI {j : Nat} (T : OexT X.K X.mg x f b st p q) (hX : X.prog = P ∧ X.w = w) (S : FnScope ["self", p] ["self", p] (defScope st))
    (hps : ∀ (fI : Addr) (base : Heap) (cdv : Value) (A : Around) (outer : List PySem.Env) (s : Shared) (H : Hp) (E : XK), PSs (cxOf (L2.CX P w) P w X.K X.mg base ["self", p] q (defScope st) fI cdv A outer s H E) (defBody st) (tSeq (tDrop (tVeI X.K (tCons (tVar 0) (tCons (tC (.str m0)) tNil)))) (tSeq (tOst X.K f (tVar 0) (tVar 1)) tNext)))
    (hr : Room (j + 2) X.A) (tk : Takes X W.w) (hc : X.calm = true) (he : VE X.K X.mg (at1 X) W e m) (hg : Gl X x := by rfl) (hdb : (x == ("__debug__" : Str)) = false := by decide)
    (hs : starEach [e] X.env = (false, eval e X.env) :: starEach [] X.env := by rfl) : VS X W k (.Raise (some (.Call (.Name x p0) [e] [] cpos)) none pos) (vRaiseI x f m) := by
  obtain ⟨C, fI, fd, g, O, iC, tI, hno, F, B⟩ := T.ex
  obtain ⟨rfl, rfl⟩ := hX
  obtain ⟨t, pt, rt⟩ := he
  have F1 : FnOk X.prog X.w X.K X.mg X.base (L2.CX X.prog X.w) (j + 1) fI fd ["self", p] (spI X.K f) := fn_initOf F S fun cdv A outer s H E => hps fI X.base cdv A outer s H E
  exact ⟨_, ps_raise hc tk (pmk_oex (k := j + 1) (ds := []) (dvs := []) O iC tI F1 hr B.b .nil (passes_call tk fun _ _ _ _ z => z.elim) hg g (pa_cons (pt ()) pa_nil hs) hdb hs rfl), rs_raiseI g O hno rt⟩
end
end VL

/-! VL15: several except clauses, with and without names. -/
namespace VL
open PySem PySem.Spec PyProof.Rows L2
/-! ### the rule -/
/-- what the clauses wish of an exception of the body, one after the other -/
def wManyN (K : PySem.W.Frag) (Wout : WX) (D : Ends) : List (Value × Option Nat × (Addr → Value → Option Addr → TS)) → WX
  | [] => Wout
  | (c, oi, ts) :: r => fun cls d σ H => ∃ b, PySem.W.exmOne K cls c = some b ∧ (b = true → ∀ a, H a = none → match oi with
      | none => ts a cls d D σ H
      | some i => ts a cls d { nx := fun σ' H' => D.nx (σ'.set i none) H', rt := D.rt, bk := fun σ' H' => D.bk (σ'.set i none) H', ct := fun σ' H' => D.ct (σ'.set i none) H' } (σ.set i (some (.ref a))) H) ∧
    (b = false → wManyN K Wout D r cls d σ H)
inductive HdsN (X : Cx) : List ExceptHandler → List (Value × Option Nat × (Addr → Value → Option Addr → TS)) → Prop
  | nil : HdsN X [] []
  | one {x : Str} {c : Value} {ts : Addr → Value → Option Addr → TS} {b₀ : Stmt} {suite : List Stmt} {np pos' : Pos} {hds : List ExceptHandler} {l : List (Value × Option Nat × (Addr → Value → Option Addr → TS))} (hc : Names X x c)
      (hsu : ∀ (a : Addr) (oe : Obj) (cls : Value) (d : Option Addr) (pn : List (Addr × Obj)), Zc cls d oe → (∃ vs, oe.data = .fields vs) → PSs (X.suite a ((a, oe) :: pn)) (b₀ :: suite) (ts a cls d)) (r : HdsN X hds l) :
      HdsN X (.ExceptHandler (some (.Name x np)) none (b₀ :: suite) pos' :: hds) ((c, none, ts) :: l)
  | as {x n : Str} {i : Nat} {c : Value} {ts : Addr → Value → Option Addr → TS} {b₀ : Stmt} {suite : List Stmt} {np pos' : Pos} {hds : List ExceptHandler} {l : List (Value × Option Nat × (Addr → Value → Option Addr → TS))} (hi : X.N[i]? = some n) (hln : X.env.kindOf n = some .local) (hc : Names X x c)
      (hsu : ∀ (a : Addr) (oe : Obj) (cls : Value) (d : Option Addr) (pn : List (Addr × Obj)), Zc cls d oe → (∃ vs, oe.data = .fields vs) → PSs (X.suite a ((a, oe) :: pn)) (b₀ :: suite) (ts a cls d)) (r : HdsN X hds l) :
      HdsN X (.ExceptHandler (some (.Name x np)) (some n) (b₀ :: suite) pos' :: hds) ((c, some i, ts) :: l)
section
variable {X : Cx} {body : List Stmt} {h₀ : ExceptHandler} {hds : List ExceptHandler} {l : List (Value × Option Nat × (Addr → Value → Option Addr → TS))} {pos : Pos} {tb : WX → TS} {Wout : WX}
theorem ps_try_manyN (hs : X.stack = X.env :: X.outer) (hf : X.env.frame = some X.env.locals) (hN : X.N.Nodup) (tk : Takes X Wout)
    (hb : ∀ (W : WX) (pn : List (Addr × Obj)) (xe : Value → Shared → Prop), Takes (X.tr pn xe) W → PassesOwn (model X.prog X.w) X.A X.env xe → PSs (X.tr pn xe) body (tb W))
    (hh : HdsN X (h₀ :: hds) l) : PS X (.Try body (h₀ :: hds) [] [] pos) (fun D σ H => tb (wManyN X.K Wout D l) D σ H) := by
  refine ⟨fun pins s σ H D I h => ?_⟩
  have ok := I.ok
  have hfr : X.A.frames = some (X.env :: X.outer) := by rw [ok.frames, hs]
  refine wpAny_Try_except ?_
  refine wpAny_mono ((hb (wManyN X.K Wout D l) (X.pn ++ pins) (fun e s₁ => wpAny (model X.prog X.w) X.A (noteFrame e X.env) (fun _ s₂ => wpAny (model X.prog X.w) X.A (setFlight e none) (fun _ s₃ =>
    wpAny (model X.prog X.w) X.A (handleBy e X.env (h₀ :: hds)) (SP X pins D) X.xe s₃) X.xe s₂) X.xe s₁) (fun u s' xx => ?_) PassesOwn.looking).run [] s σ H D (I.toTry _) h) (fun f s1 hsp => ?_) (fun e s1 he => he)
  · -- the catch
    obtain ⟨a, B, sI, pins', σ', H', cls, d, rfl, J', nb, up, sky, na, os, ag, w⟩ := xx
    have J : Inv X pins σ' H' sI := J'.ofTry ok
    have sky' : Sky B (X.env :: X.outer) a (Zc cls d) X.env.locals s'.heap := by rw [← hs]; exact sky
    show wpAny (model X.prog X.w) X.A (noteFrame (.ref a) X.env) _ _ _
    refine Sky.land Zc.steady hfr hf sky' fun h3 fl3 up3 => ?_
    have J3 : Inv X pins σ' H' { s' with heap := h3 } := J.landed nb fl3.1 (up.trans up3) os ag
    obtain ⟨oe3, vs3, he3, hz3, hd3⟩ := fl3.there
    have notFr : ∀ {h : Heap} {o : Obj} {vs : Array Value}, h.FunFrames B (X.env :: X.outer) → h.get? a = some o → o.data = .fields vs → a ∉ frs (X.env :: X.outer) := fun {h o vs} ff e dd hm => by
      obtain ⟨_, o', e', hnf⟩ := ff.mem hm
      rw [e] at e'; cases e'
      exact hnf _ dd
    have nfr := notFr fl3.2.2.1 he3 hd3
    have nL : a ≠ X.env.locals := fun z => nfr (List.mem_filterMap.mpr ⟨X.env, List.mem_cons_self, by rw [hf, z]⟩)
    have nF : a ∉ X.fs := fun hm => by
      obtain ⟨e, he, q⟩ := List.mem_filterMap.mp hm
      exact nfr (List.mem_filterMap.mpr ⟨e, List.mem_cons_of_mem _ he, q⟩)
    have S3 := J3.suite he3 hd3 na nL nF
    have LT : PySem.W.Looks (model X.prog X.w) h3 (typeOf (.ref a)) cls := fun A Q E s k q => wpAny_typeOf_ref (k _ _ he3) (by rw [hz3.1]; exact q)
    have test : ∀ {x : Str} {np : Pos} {c : Value} {Q : Value → Shared → Prop} {E : Value → Shared → Prop}, Names X x c → Q c { s' with heap := h3 } → wpAny (model X.prog X.w) (X.A.mark (some (.ref a))) (eval (.Name x np) X.env) Q E { s' with heap := h3 } := fun {x np c Q E} hc q => by
      obtain ⟨hg, hdbg, hm | ⟨hm, hv, hnn⟩⟩ := hc
      · exact ld_glob (X := X.suite a ((a, oe3) :: (X.pn ++ pins))) S3 hg hm q hdbg
      · exact ld_blt (X := X.suite a ((a, oe3) :: (X.pn ++ pins))) S3 hg hm hv q hnn hdbg
    have go : ∀ {hds' : List ExceptHandler} {l' : List (Value × Option Nat × (Addr → Value → Option Addr → TS))}, HdsN X hds' l' → wManyN X.K Wout D l' cls d σ' H' →
        wpAny (model X.prog X.w) X.A (handleBy (.ref a) X.env hds') (SP X pins D) X.xe { s' with heap := h3 } := by
      intro hds' l' hk
      induction hk with
      | nil =>
        intro w
        refine wpAny_handleBy_nil ?_
        obtain ⟨k1, k2, k3, oe, vs, T, oT, ts', he, hz, hd, h1, hr⟩ := id fl3
        unfold PySem.passOn
        refine wpAny_bind (wpAny_field he hd h1 ?_)
        rw [if_neg (show ¬ ((Value.ref T == Value.none) = true) from by simp)]
        have fin : wpAny (model X.prog X.w) X.A (setFlight (.ref a) X.env.frame) (fun _ s4 => wpAny (model X.prog X.w) X.A (throw (.ref a) : Sem Flow) (SP X pins D) X.xe s4) X.xe { s' with heap := h3 } := by
          rw [hf]
          refine HandSPX.setFlight_upZ fl3 fun h4 hh4 up4 => wpAny_throw (tk _ _ ?_)
          exact ⟨a, B, sI, pins, σ', H', cls, d, rfl, J, nb, (up.trans up3).trans up4, .inr (.inr (by rw [hs]; exact hh4)), na, os, ag, w⟩
        first
          | exact wpAny_bind (wpAny_pure (wpAny_bind fin))
          | exact wpAny_bind fin
      | @one x c ts b₀ suite np pos' hds2 l2 hc hsu r ih =>
        intro w
        obtain ⟨b, hb1, hyes, hno⟩ := w
        refine wpAny_handleBy_cons (codeAny_handlers_test ?_) (by intro q; cases q)
        have LM := PySem.W.exm_one (M := model X.prog X.w) (J3.kIn) LT hb1
        refine test hc (LM.here ?_)
        cases b with
        | true =>
          refine codeAny_handlers_suite ?_
          refine HandSPX.lands_againZ fl3 fun h4 fl4 up4 => ?_
          have J4 : Inv X pins σ' H' { s' with heap := h4 } := J.landed nb fl4.1 ((up.trans up3).trans up4) os ag
          obtain ⟨oe4, vs4, he4, hz4, hd4⟩ := fl4.there
          have S4 := J4.suite he4 hd4 na nL nF
          refine wpAny_mono ((hsu a oe4 cls d (X.pn ++ pins) hz4 ⟨_, hd4⟩).run [] _ _ H' _ S4 (hyes rfl a na)) (fun f s6 hsp => ?_) (fun _ _ z => False.elim z)
          cases f with
          | next =>
            obtain ⟨σ6, H6, S6, q6⟩ := hsp
            exact ⟨_, _, S6.unsuite ok, q6⟩
          | brk =>
            obtain ⟨σ6, H6, S6, q6⟩ := hsp
            exact ⟨_, _, S6.unsuite ok, q6⟩
          | cont =>
            obtain ⟨σ6, H6, S6, q6⟩ := hsp
            exact ⟨_, _, S6.unsuite ok, q6⟩
          | ret u =>
            obtain ⟨v6, σ6, H6, S6, r6, q6⟩ := hsp
            exact ⟨_, _, _, S6.unsuite ok, r6, q6⟩
        | false =>
          show wpAny _ X.A (handleBy (.ref a) X.env hds2) _ _ _
          exact ih (hno rfl)
      | @as x n i c ts b₀ suite np pos' hds2 l2 hi hln hc hsu r ih =>
        intro w
        obtain ⟨b, hb1, hyes, hno⟩ := w
        have hloc : Loc X.env.scope n := .inl hln
        refine wpAny_handleBy_cons (codeAny_handlers_test ?_) (by intro q; cases q)
        have LM := PySem.W.exm_one (M := model X.prog X.w) (J3.kIn) LT hb1
        refine test hc (LM.here ?_)
        cases b with
        | true =>
          refine codeAny_handlers_suite_as ?_
          refine HandSPX.lands_againZ fl3 fun h4 fl4 up4 => ?_
          have J4 : Inv X pins σ' H' { s' with heap := h4 } := J.landed nb fl4.1 ((up.trans up3).trans up4) os ag
          obtain ⟨oe4, vs4, he4, hz4, hd4⟩ := fl4.there
          have S4 := J4.suite he4 hd4 na nL nF
          refine store_ok (X := X.suite a ((a, oe4) :: (X.pn ++ pins))) (v := .ref a) S4 hN hi hloc rfl (fun s5 S5 => ?_) (.inr hln)
          refine wpAny_mono ((hsu a oe4 cls d (X.pn ++ pins) hz4 ⟨_, hd4⟩).run [] s5 _ H' _ S5 (hyes rfl a na)) (fun f s6 hsp => ?_) (fun _ _ z => False.elim z)
          have end_ : ∀ {σ6 : L2.St} {H6 : Hp} {Q : Shared → Prop}, Inv (X.suite a ((a, oe4) :: (X.pn ++ pins))) [] σ6 H6 s6 → (∀ s7, Inv X pins (σ6.set i none) H6 s7 → Q s7) →
              wpAny (model X.prog X.w) X.A (do bindName X.env n .none; unbindBehindTheSuite X.env n pos') (fun _ s7 => Q s7) X.xe s6 := fun {σ6 H6 Q} S6 hq => gone_ok (S6.unsuite ok) hN hi hln hq
          cases f with
          | next =>
            obtain ⟨σ6, H6, S6, q6⟩ := hsp
            exact end_ S6 fun s7 J7 => ⟨_, _, J7, q6⟩
          | brk =>
            obtain ⟨σ6, H6, S6, q6⟩ := hsp
            exact end_ S6 fun s7 J7 => ⟨_, _, J7, q6⟩
          | cont =>
            obtain ⟨σ6, H6, S6, q6⟩ := hsp
            exact end_ S6 fun s7 J7 => ⟨_, _, J7, q6⟩
          | ret u =>
            obtain ⟨v6, σ6, H6, S6, r6, q6⟩ := hsp
            exact end_ S6 fun s7 J7 => ⟨_, _, _, J7, r6, q6⟩
        | false =>
          show wpAny _ X.A (handleBy (.ref a) X.env hds2) _ _ _
          exact ih (hno rfl)
    exact go hh w
  · cases f with
    | next =>
      obtain ⟨σ', H', J', q⟩ := hsp
      exact wpAny_execs_nil ⟨σ', H', J'.ofTry ok, q⟩
    | brk =>
      obtain ⟨σ', H', J', q⟩ := hsp
      exact ⟨σ', H', J'.ofTry ok, q⟩
    | cont =>
      obtain ⟨σ', H', J', q⟩ := hsp
      exact ⟨σ', H', J'.ofTry ok, q⟩
    | ret u =>
      obtain ⟨v, σ', H', J', r, q⟩ := hsp
      exact ⟨v, σ', H', J'.ofTry ok, r, q⟩
end
/-! ### within the suite -/
/-- what stands with the error's dict -/
def pay (B : Hp) (d : Option Addr) (x : Xc) : Prop := match x.val with
  | none => d = none
  | some (f, n) => ∃ dd, d = some dd ∧ B dd = some (.xd [(f, .int n)])
theorem pay_sub {B B' : Hp} {d : Option Addr} {x : Xc} (s : Same B B') (h : pay B d x) : pay B' d x := by
  unfold pay at *
  split
  · rename_i q; rw [q] at h; exact h
  · rename_i f n q
    rw [q] at h
    obtain ⟨dd, e, hb⟩ := h
    exact ⟨dd, e, s _ _ hb⟩
theorem full_b {B H : Hp} {σ : L2.St} {e : Env} : Same B (full B H σ e) := fun a o h => by
  unfold full
  rw [h]
/-- within an except's suite: the error stands at a (where it has a name), its dict at d, nothing is raised -/
def Am.exv (K : PySem.W.Frag) (oa : Option Addr) (d : Option Addr) (x : Xc) : Am K := ⟨fun _ _ _ _ => False, fun G => (∀ a, oa = some a → G.tok 0 = a) ∧ pay G.B d x,
  fun G B H σ e h S => ⟨h.1, pay_sub (S.b0.trans full_b) h.2⟩, fun G B H σ e h S => ⟨h.1, pay_sub S.b0 h.2⟩, fun G n p hn h => ⟨fun a ha => (if_neg (Ne.symm hn)).trans (h.1 a ha), h.2⟩⟩
section
variable {K : PySem.W.Frag} {mg : Str → Option Value} {W : Am K} {k : Bool} {G : Gr} {B H : Hp} {σ : L2.St} {e : Env}
/-- told from the entry on, where it is told from here on -/
theorem PoS.unreb {D : Ends} {r : RS} (S : Sto K G B H σ e) (h : PoS K mg W k G B D r) : PoS K mg W k (VL.reb G B H σ e) B D r := by
  cases r with
  | nx e' => exact fun σ' B' H' S' s => h σ' B' H' (S.unreb S') s
  | bk e' => exact fun σ' B' H' S' s => h σ' B' H' (S.unreb S') s
  | ct e' => exact fun σ' B' H' S' s => h σ' B' H' (S.unreb S') s
  | rt d e' => exact fun v σ' B' H' S' s ro => h v σ' B' H' (S.unreb S') s (ro.unreb S)
  | err x e' => exact fun c d σ' B' H' S' s xr => h c d σ' B' H' (S.unreb S') s xr
  | bot => exact h
end
section
variable {K : PySem.W.Frag} {mg : Str → Option Value} {W : Am K} {k : Bool} {names : List Str} {anc : Str → Str → Bool} {bi : List String} {m : MS}
def clT (K : PySem.W.Frag) (mg : Str → Option Value) (k : Bool) (names : List Str) (c : Cl) : Value × Option Nat × (Addr → Value → Option Addr → TS) :=
  ((mg c.1).getD .none, c.2.1, fun a cls d D σ H => ∃ x C, x.cls ∈ names ∧ mg x.cls = some (.ref C) ∧ cls = .ref C ∧ canS K mg (Am.exv K (c.2.1.map fun _ => a) d x) k (c.2.2 x) D σ H)
theorem noX_pos {W' : Am K} {G : Gr} {B : Hp} {D : Ends} {r : RS} (h : PoS K mg W k G B D (noX r)) : PoS K mg W' k G B D (noX r) := by
  cases r with
  | err x e' => exact h.elim
  | nx e' => exact h
  | bk e' => exact h
  | ct e' => exact h
  | rt d e' => exact h
  | bot => exact h
theorem noX_of {G : Gr} {B : Hp} {D : Ends} {r : RS} (h : PoS K mg W k G B D (noX r)) : PoS K mg W k G B D r := by
  cases r with
  | err x e' => exact h.elim
  | nx e' => exact h
  | bk e' => exact h
  | ct e' => exact h
  | rt d e' => exact h
  | bot => exact h
theorem PoS.to {W' : Am K} {G : Gr} {B : Hp} {D : Ends} {r : RS} (hw : W.w = W'.w) (h : PoS K mg W k G B D r) : PoS K mg W' k G B D r := by
  cases r with
  | err x e' => exact fun c d σ' B' H' S' s xr => hw ▸ h c d σ' B' H' S' s xr
  | nx e' => exact h
  | bk e' => exact h
  | ct e' => exact h
  | rt d e' => exact h
  | bot => exact h
theorem handle_ok (T : ExT K mg names anc bi) {D : Ends} : ∀ (cl : List Cl), (∀ c ∈ cl, c.1 ∈ names) → ∀ (G : Gr) (B B' H' : Hp) (σ' : L2.St) (e1 : Env) (x : Xc) (C : Addr) (dd : Option Addr), W.g G → Sto K G B' H' σ' e1 → Same B B' → x.cls ∈ names → mg x.cls = some (.ref C) → XRep K mg B' (.ref C) dd x → PoS K mg W k G B D (vHandle anc cl x e1) →
    wManyN K W.w D (cl.map (clT K mg k names)) (.ref C) dd σ' H'
  | [], _, G, B, B', H', σ', e1, x, C, dd, hG, S', s, hx, h1, xr, q => q (.ref C) dd σ' B' H' S' s xr
  | (y, none, h) :: r, hc, G, B, B', H', σ', e1, x, C, dd, hG, S', s, hx, h1, xr, q => by
    obtain ⟨c, hD⟩ := T.top y (hc _ List.mem_cons_self)
    have py : pay B' dd x := by
      obtain ⟨C', g1, g2, g3⟩ := xr
      exact g3
    refine ⟨anc x.cls y, ?_, fun hb a ha => ?_, fun hb => ?_⟩
    · have : (mg y).getD .none = .ref c := by rw [hD]; rfl
      show PySem.W.exmOne K (.ref C) ((mg y).getD .none) = _
      rw [this]
      exact T.exm x.cls hx y (hc _ List.mem_cons_self) C c h1 hD
    · unfold vHandle at q
      rw [if_pos hb] at q
      refine ⟨x, C, hx, h1, rfl, reb G B' H' σ' e1, B', e1, ⟨fun a' ha' => (by cases ha'), py⟩, S'.reb, ?_⟩
      exact PoS.unreb S' (noX_of (noX_pos (PoS.base s q)))
    · unfold vHandle at q
      rw [if_neg (by rw [hb]; exact Bool.false_ne_true)] at q
      exact handle_ok T r (fun c hm => hc c (List.mem_cons_of_mem _ hm)) G B B' H' σ' e1 x C dd hG S' s hx h1 xr q
  | (y, some i, h) :: r, hc, G, B, B', H', σ', e1, x, C, dd, hG, S', s, hx, h1, xr, q => by
    obtain ⟨c, hD⟩ := T.top y (hc _ List.mem_cons_self)
    have py : pay B' dd x := by
      obtain ⟨C', g1, g2, g3⟩ := xr
      exact g3
    refine ⟨anc x.cls y, ?_, fun hb a ha => ?_, fun hb => ?_⟩
    · have : (mg y).getD .none = .ref c := by rw [hD]; rfl
      show PySem.W.exmOne K (.ref C) ((mg y).getD .none) = _
      rw [this]
      exact T.exm x.cls hx y (hc _ List.mem_cons_self) C c h1 hD
    · unfold vHandle at q
      rw [if_pos hb] at q
      have S2 : Sto K (GT G 0 a) B' H' (σ'.set i (some (.ref a))) ((clrE 0 e1).set i (.tk 0)) := by
        by_cases hi : i < e1.length
        · exact (S'.drop i (some (.ref a))).tokAt hi (List.getElem?_set_self (by rw [S'.len]; exact hi))
        · have z1 : (clrE 0 e1).set i (.tk 0) = clrE 0 e1 := List.set_eq_of_length_le (by rw [clr_len]; omega)
          have z2 : σ'.set i (some (.ref a)) = σ' := List.set_eq_of_length_le (by rw [S'.len]; omega)
          rw [z1, z2]
          exact (Sto.untok (G := GT G 0 a) (n := 0) (p := G.tok 0) (by
            have e2 : GT (GT G 0 a) 0 (G.tok 0) = G := by
              unfold GT
              cases G
              simp only [Gr.mk.injEq, true_and]
              funext m
              by_cases hm : m = 0
              · simp [hm]
              · simp [hm]
            rw [e2]
            exact S'))
      refine ⟨x, C, hx, h1, rfl, reb (GT G 0 a) B' H' _ _, B', (clrE 0 e1).set i (.tk 0), ⟨fun a' ha' => ?_, py⟩, S2.reb, ?_⟩
      · cases ha'
        exact show (if (0 : Nat) = 0 then a else G.tok 0) = a from if_pos rfl
      · exact PoS.to (W := Am.ex K a) rfl (PoS.unreb S2 (PoS.post trivial (PoS.base s q)))
    · unfold vHandle at q
      rw [if_neg (by rw [hb]; exact Bool.false_ne_true)] at q
      exact handle_ok T r (fun c hm => hc c (List.mem_cons_of_mem _ hm)) G B B' H' σ' e1 x C dd hG S' s hx h1 xr q
theorem rs_tryM (T : ExT K mg names anc bi) {cl : List Cl} (hc : ∀ c ∈ cl, c.1 ∈ names) : RdS K mg W k (fun D σ H => canS K mg (W.to (wManyN K W.w D (cl.map (clT K mg k names)))) k m D σ H) (vTryM names anc cl m) := fun G hG B H σ e D S q => by
  refine ⟨G, B, e, hG, S, ?_⟩
  unfold vTryM at q
  cases r : m e with
  | nx e' => simp only [r] at q; exact q
  | rt d e' => simp only [r] at q; exact q
  | bk e' => simp only [r] at q; exact q
  | ct e' => simp only [r] at q; exact q
  | bot => simp only [r] at q; exact q.elim
  | err x e1 =>
    simp only [r] at q
    intro cls dd σ' B' H' S' s xr
    obtain ⟨C, h1, h2, h3⟩ := id xr
    subst h2
    by_cases hx : x.cls ∈ names
    · rw [if_pos hx] at q
      exact handle_ok T cl hc G B B' H' σ' e1 x C dd hG S' s hx h1 xr q
    · rw [if_neg hx] at q; exact q.elim
end
/-! ### the clauses of the text -/
inductive VHds (X : Cx) (k : Bool) (names : List Str) : List ExceptHandler → List Cl → Prop
  | nil : VHds X k names [] []
  | one {y : Str} {h : Xc → MS} {b₀ : Stmt} {suite : List Stmt} {np pos' : Pos} {hds : List ExceptHandler} {cl : List Cl} (hy : y ∈ names) (hg : Gl X y) (hdb : (y == ("__debug__" : Str)) = false)
      (hsu : ∀ (x : Xc), x.cls ∈ names → ∀ (a : Addr) (oe : Obj) (C : Addr) (d : Option Addr) (pn : List (Addr × Obj)), X.mg x.cls = some (.ref C) → Zc (.ref C) d oe → (∃ vs, oe.data = .fields vs) → VSs (X.suite a ((a, oe) :: pn)) (Am.exv X.K none d x) k (b₀ :: suite) (h x))
      (r : VHds X k names hds cl) : VHds X k names (.ExceptHandler (some (.Name y np)) none (b₀ :: suite) pos' :: hds) ((y, none, h) :: cl)
  | as {y n : Str} {i : Nat} {h : Xc → MS} {b₀ : Stmt} {suite : List Stmt} {np pos' : Pos} {hds : List ExceptHandler} {cl : List Cl} (hy : y ∈ names) (hi : X.N[i]? = some n) (hln : X.env.kindOf n = some .local) (hg : Gl X y) (hdb : (y == ("__debug__" : Str)) = false)
      (hsu : ∀ (x : Xc), x.cls ∈ names → ∀ (a : Addr) (oe : Obj) (C : Addr) (d : Option Addr) (pn : List (Addr × Obj)), X.mg x.cls = some (.ref C) → Zc (.ref C) d oe → (∃ vs, oe.data = .fields vs) → VSs (X.suite a ((a, oe) :: pn)) (Am.exv X.K (some a) d x) k (b₀ :: suite) (h x))
      (r : VHds X k names hds cl) : VHds X k names (.ExceptHandler (some (.Name y np)) (some n) (b₀ :: suite) pos' :: hds) ((y, some i, h) :: cl)
section
variable {X : Cx} {W : Am X.K} {k : Bool} {pos : Pos} {body : List Stmt} {h₀ : ExceptHandler} {hds : List ExceptHandler} {cl : List Cl} {m : MS} {names : List Str} {anc : Str → Str → Bool} {bi : List String}
theorem VHds.nms {hds : List ExceptHandler} {cl : List Cl} (h : VHds X k names hds cl) : ∀ c ∈ cl, c.1 ∈ names := by
  induction h with
  | nil => exact fun c hc => nomatch hc
  | one hy _ _ _ _ ih =>
    intro c hc
    rcases List.mem_cons.mp hc with rfl | hc
    · exact hy
    · exact ih c hc
  | as hy _ _ _ _ _ _ ih =>
    intro c hc
    rcases List.mem_cons.mp hc with rfl | hc
    · exact hy
    · exact ih c hc
theorem VHds.ok (T : ExT X.K X.mg names anc bi) {hds : List ExceptHandler} {cl : List Cl} (h : VHds X k names hds cl) : HdsN X hds (cl.map (clT X.K X.mg k names)) := by
  induction h with
  | nil => exact .nil
  | @one y h b₀ suite np pos' hds cl hy hg hdb hsu r ih =>
    obtain ⟨D, hD⟩ := T.top y hy
    have e : (X.mg y).getD .none = .ref D := by rw [hD]; rfl
    refine .one (c := (X.mg y).getD .none) (by rw [e]; exact ⟨hg, hdb, .inl hD⟩) (fun a oe cls d pn hz hfl => ⟨fun pins s σ H D I ⟨x, C, hx, e1, e2, q⟩ => ?_⟩) ih
    subst e2
    exact (hsu x hx a oe C d pn e1 hz hfl).can.run pins s σ H D I q
  | @as y n i h b₀ suite np pos' hds cl hy hi hln hg hdb hsu r ih =>
    obtain ⟨D, hD⟩ := T.top y hy
    have e : (X.mg y).getD .none = .ref D := by rw [hD]; rfl
    refine .as (c := (X.mg y).getD .none) hi hln (by rw [e]; exact ⟨hg, hdb, .inl hD⟩) (fun a oe cls d pn hz hfl => ⟨fun pins s σ H D I ⟨x, C, hx, e1, e2, q⟩ => ?_⟩) ih
    subst e2
    exact (hsu x hx a oe C d pn e1 hz hfl).can.run pins s σ H D I q
theorem vs_tryM (T : ExT X.K X.mg names anc bi) (hs : X.stack = X.env :: X.outer) (hf : X.env.frame = some X.env.locals) (hN : X.N.Nodup) (tk : Takes X W.w)
    (hb : ∀ (Wx : WX) (pn : List (Addr × Obj)) (xe : Value → Shared → Prop), Takes (X.tr pn xe) Wx → PassesOwn (model X.prog X.w) X.A X.env xe → VSs (X.tr pn xe) (W.to Wx) k body m)
    (hh : VHds X k names (h₀ :: hds) cl) : VS X W k (.Try body (h₀ :: hds) [] [] pos) (vTryM names anc cl m) :=
  ⟨_, ps_try_manyN (tb := fun Wx => canS X.K X.mg (W.to Wx) k m) hs hf hN tk (fun Wx pn xe t p => (hb Wx pn xe t p).can) (hh.ok T), rs_tryM T hh.nms⟩
end
end VL

/-! VL16: what an except suite asks of the error in hand. -/
namespace PySem.W
open PySem PySem.Spec PySem.Calls PyProof.Rows
section
variable {prog : Program} {w : World} {A : Around} {E : Value → Shared → Prop} {s : Shared} {K : Frag} {x D : Addr} {ox : Obj} {od : Option Obj}
theorem findObj_dataO {C : Addr} {name : Str} {a g : Value} (hc : (clsIn K C).isSome = true) (ha : findIn K (.ref C) name = some (some a)) (hg : specialIn K a "__get__" = some (some g)) (ht : takesIn K a = some true) : findObj K C od name = some (.bind g a) := by
  obtain ⟨cd, hc⟩ := Option.isSome_iff_exists.mp hc
  unfold findObj
  rw [hc, Option.bind_some, ha, Option.bind_some]
  simp [hg, ht]
theorem kin_classO {Q : Option Value → Shared → Prop} (hga : findIn K (.ref D) "__getattribute__" = some (some (.builtin "BaseException.__getattribute__"))) (hgt : findIn K (.ref D) "__getattr__" = some none) (hsub : subIn K (.ref D) (.type "BaseException") = some true)
    (hdct : hasDictIn K D = true) (ha : findIn K (.ref D) "__class__" = some (some (.builtin "object.__class__")))
    (hn : specialIn K (.builtin "object.__class__") "__get__" = some (some (.builtin "getset_descriptor.__get__"))) (htk : takesIn K (.builtin "object.__class__") = some true) (hm : mroIn K D (.type "object") = some true)
    (X : K.In s.heap) (I : InstAt s.heap x ox D od) (h : Q (some (.ref D)) { s with toks := s.toks + 1 }) : wpAny (model prog w) A (getAttr? (.ref x) "__class__") Q E s := by
  have hf : findObj K D od "__class__" = some (.bind (.builtin "getset_descriptor.__get__") (.builtin "object.__class__")) := findObj_dataO (by obtain ⟨cd, hc, _⟩ := any_some hdct; rw [hc]; rfl) ha hn htk
  obtain ⟨hp, g, d, t, os⟩ := s
  have L0 := I.type (M := model prog w)
  have L1 := looks_findIn (M := model prog w) X hga
  have L2 := looks_findIn (M := model prog w) X hgt
  have L3 := looks_find (M := model prog w) X I hf
  have sub : Looks (model prog w) hp (isInstance (.ref x) (.type "BaseException")) true := L0.andThen (looks_subIn X hsub)
  have hx0 : (false && onTheHeap (Value.builtin "BaseException.__getattribute__")) = false := rfl
  have hx2 : (Value.builtin "BaseException.__getattribute__" == Value.builtin "object.__getattribute__") = false := by decide +kernel
  have hx1 : (onTheHeap (Value.ref D) && Value.builtin "BaseException.__getattribute__" == Value.builtin "object.__getattribute__") = false := by rw [hx2]; rfl
  unfold getAttr? getAttrBy? getAttrBy
  refine wpAny_bind (wpAny_mkText (wpAny_bind (wpAny_attempt (wpAny_holding (wpAny_bind (L0.at (wpAny_bind (L1.at ?_))))))))
  show wpAny _ _ (if (onTheHeap (Value.ref D) && Value.builtin "BaseException.__getattribute__" == Value.builtin "object.__getattribute__") = true then _ else _) _ _ _
  rw [hx1, if_neg Bool.false_ne_true]
  unfold getAttrByItsOwn hookBefore
  refine wpAny_bind ?_
  rw [if_pos (show onTheHeap (Value.ref D) = true from rfl)]
  refine L2.at ?_
  refine wpAny_bind (wpAny_attempt (wpAny_holding ?_))
  unfold callGetattribute
  rw [hx0, if_neg Bool.false_ne_true]
  unfold boundAndCalled
  rw [PySem.F.excAttr_ValueError.ga.bind (.ref x)]
  refine wpAny_bind (wpAny_pure ?_)
  show wpAny _ _ (call (.builtin "BaseException.__getattribute__") [.ref x, .str "__class__" t]) _ _ _
  refine wpAny_call (codeAny_call_builtin PySem.F.excAttr_ValueError.ga.plain PySem.F.entry_bexc_ga ?_)
  refine @check_slot (model prog w) _ _ ⟨hp, g, d, t + 1, os⟩ "BaseException.__getattribute__" "BaseException" "__getattribute__" (.ref x) [.str "__class__" t] [] _ (by decide +kernel) (by decide +kernel) sub (PySem.F.args_bexc_ga (.ref x) (.str "__class__" t)) ?_
  unfold Builtin.«object.__getattribute__»
  refine wpAny_bind (wpAny_of_eq (a := ((Value.ref x : Value), [Value.str "__class__" t])) (by first | rfl | (simp only [slotArgs]; rfl)) ?_)
  refine wpAny_bind (wpAny_pure (wpAny_bind (L0.at (wpAny_bind (L3.at ?_)))))
  show wpAny _ _ (holding [Value.builtin "object.__class__"] (call (.builtin "getset_descriptor.__get__") [.builtin "object.__class__", .ref x, .ref D]) >>= ret) _ _ _
  refine wpAny_bind (wpAny_holding (wpAny_call (class_get (s := ⟨hp, g, d, t + 1, os⟩) (ox := ox) (od := od) X I hm ?_)))
  refine wpAny_pure ?_
  show wpAny _ _ (handedOut (.ref D)) _ _ _
  rw [handedOut_of (v := .ref D) rfl]
  first
    | exact wpAny_pure (wpAny_pure h)
    | exact wpAny_pure h
    | exact wpAny_pure (wpAny_bind (wpAny_pure (wpAny_pure h)))
theorem kitx_excO (hga : findIn K (.ref D) "__getattribute__" = some (some (.builtin "BaseException.__getattribute__"))) (hgt : findIn K (.ref D) "__getattr__" = some none) (hsub : subIn K (.ref D) (.type "BaseException") = some true) (hdct : hasDictIn K D = true) (ha : findIn K (.ref D) "__class__" = some (some (.builtin "object.__class__")))
    (hn : specialIn K (.builtin "object.__class__") "__get__" = some (some (.builtin "getset_descriptor.__get__"))) (htk : takesIn K (.builtin "object.__class__") = some true) (hm : mroIn K D (.type "object") = some true) :
    KitX K (.ref x) (.ref D) (fun h => ∃ od, InstAt h x ox D od) where
  ty := fun _ _ _ ⟨_, I⟩ => I.type
  it := fun _ _ X _ => by
    obtain ⟨cdD, hcD, _⟩ := any_some hdct
    unfold clsIn at hcD
    split at hcD
    · rename_i c' d' cd' sl' ho
      intro A' Q' E' s' k q
      unfold isType loadHead
      exact wpAny_bind (wpAny_loadPart (k _ _ (X _ _ ho)) (wpAny_pure q))
    · cases hcD
  ne := fun h tp dd its n sl X htp => by
    obtain ⟨cdD, hcD, _⟩ := any_some hdct
    refine Bool.eq_false_iff.mpr fun q => ?_
    have e : D = tp := Value.ref.inj (beq_iff_eq.mp q)
    subst e
    unfold clsIn at hcD
    split at hcD
    · rename_i c' d' cd' sl' ho
      have z := (X _ _ ho).symm.trans htp
      cases z
    · cases hcD
  ca := fun X ⟨_, I⟩ k => kin_classO hga hgt hsub hdct ha hn htk hm X I k
end
end PySem.W
namespace VL
open PySem PySem.Spec PyProof.Rows L2
/-- isinstance(e, c), e the exception that the suite holds, d its dict -/
def rIsX (K : PySem.W.Frag) (D a : Addr) (d : Option Addr) : List V → Hp → VK → Prop := fun xs H Q => ∃ (c : V) (cv : Value) (b : Bool), xs = [.ref a, c] ∧ (∀ u, RelV c u → u = cv) ∧ PySem.W.kitOne K (.ref D) cv = some b ∧ (∀ dd, d = some dd → ∃ fs, H dd = some (.xd fs)) ∧ Q (.bl b) H
theorem call_isX {X : Cx} {a D : Addr} {d : Option Addr} {oe : Obj} {pn : List (Addr × Obj)} (C : ExcC X.K D) (hz : Zc (.ref D) d oe) (hf : ∃ vs, oe.data = .fields vs) : CallR (X.suite a ((a, oe) :: pn)) (.builtin "isinstance") (rIsX X.K D a d) := by
  intro pins s σ H xs us Q I r h
  obtain ⟨c, cv, b, rfl, hcv, e, hd, q⟩ := h
  cases r with
  | cons rx rr =>
    cases rr with
    | cons rt rr =>
      cases rr
      cases rx
      have ec := hcv _ rt
      subst ec
      obtain ⟨hget, _⟩ := I.pin (a, oe) (List.mem_append.mpr (.inl List.mem_cons_self))
      obtain ⟨vs, hv⟩ := hf
      have J : ∃ od, PySem.W.InstAt s.heap a oe D od := by
        cases d with
        | none =>
          refine ⟨none, ?_⟩
          obtain ⟨oc, od, oda, osl⟩ := oe
          obtain ⟨h1, h2⟩ := hz
          dsimp only at h1 h2 hv
          subst h1 h2 hv
          exact ⟨hget, rfl, rfl, trivial⟩
        | some dd =>
          obtain ⟨fs, ea⟩ := hd dd rfl
          have hx : ObjOk X.prog X.w H s.heap dd (.xd fs) := I.hok dd _ ea
          obtain ⟨mA, hns, hr⟩ := hx
          obtain ⟨od, ho, hl⟩ := lookIn_ns hns
          exact ⟨some od, hget, hz.1, by unfold PySem.W.notCls; rw [hv] <;> rfl, by rw [hz.2]; exact ho⟩
      exact PySem.W.kia_one (PySem.W.kitx_excO C.hg C.hk C.hs C.hd C.ha C.hn C.ht C.hm) I.kIn J e (fun z => nomatch z) fun tk => ⟨.bl b, H, I.kept (t' := tk) fun _ _ z => z, rfl, q⟩
theorem pay_at {K : PySem.W.Frag} {G : Gr} {B H : Hp} {σ : L2.St} {e : Env} {d : Option Addr} {x : Xc} (S : Sto K G B H σ e) (h : pay G.B d x) : ∀ dd, d = some dd → ∃ fs, H dd = some (.xd fs) := fun dd hd => by
  have h := pay_sub (S.b0.trans S.sub) h
  unfold pay at h
  split at h
  · rw [h] at hd; cases hd
  · obtain ⟨dd', e1, e2⟩ := h
    rw [e1] at hd
    cases hd
    exact ⟨_, e2⟩
theorem ve_isX {X : Cx} {a C : Addr} {d : Option Addr} {oe : Obj} {pn : List (Addr × Obj)} {x : Xc} {e y : Str} {pos p p1 p2 : Pos} {names : List Str} {anc : Str → Str → Bool} {bi : List String} (T : ExT X.K X.mg names anc bi) (hc : x.cls ∈ names) (hC : X.mg x.cls = some (.ref C)) (hz : Zc (.ref C) d oe) (hf : ∃ vs, oe.data = .fields vs) (i : Nat) (hm : X.mg "isinstance" = none)
    (hy : y ∈ names := by decide +kernel) (hN : X.N[i]? = some e := by rfl) (hv : Vis X.env.scope e := by first | exact Or.inl rfl | exact Or.inr (Or.inl rfl) | exact Or.inr (Or.inr rfl)) (hd : (e == ("__debug__" : Str)) = false := by decide) (hcd : (e == ("__classdict__" : Str)) = false := by decide) (hgy : Gl X y := by rfl) (hdy : (y == ("__debug__" : Str)) = false := by decide)
    (hb : bootBuiltins "isinstance" = some (.builtin "isinstance") := by decide +kernel) (hg : Gl X "isinstance" := by rfl) (he : starEach [.Name e p1, .Name y p2] X.env = (false, eval (.Name e p1) X.env) :: starEach [.Name y p2] X.env := by rfl) (he2 : starEach [(.Name y p2 : Expr)] X.env = (false, eval (.Name y p2) X.env) :: starEach [] X.env := by rfl)
    (hpl : (backTo pos (starEach [(.Name y p2 : Expr)] X.env)).any (·.1) = false := by rfl) : VE X.K X.mg (at1 (X.suite a ((a, oe) :: pn))) (Am.exv X.K (some a) d x) (.Call (.Name "isinstance" p) [.Name e p1, .Name y p2] [] pos) (vIsE i (anc x.cls y)) := by
  obtain ⟨D, hD⟩ := T.top y hy
  refine ⟨tCB (rIsX X.K C a d) (tCons (tVar i) (tCons (tC (.ref D)) tNil)), fun _ => pe_callB (call_isX (X := X) (T.cls x.cls hc C hC) hz hf) hg hm hb (pa_cons (pe_var hN hv hd hcd) (pa_cons (pe_glob hgy hD rfl hdy) pa_nil he2) he) (by decide) (by decide) he hpl, ⟨fun G hG B H σ e Q S q => ?_⟩⟩
  unfold vIsE at q
  cases z : e[i]? with
  | none => rw [z] at q; exact q.elim
  | some s =>
    cases s with
    | tk t =>
      cases t with
      | succ t => rw [z] at q; exact q.elim
      | zero =>
        simp only [z] at q
        obtain ⟨v, hv', ok⟩ := S.sl i _ z
        have e1 := ok.tkI
        have hG1 : G.tok 0 = a := hG.1 a rfl
        rw [hG1] at e1
        subst e1
        exact ⟨_, hv', .ref D, .ref D, anc x.cls y, rfl, fun u r => by cases r; rfl, T.isi x.cls hc y hy C D hC hD, pay_at S hG.2, Po.here q S (.bl _)⟩
    | no => rw [z] at q; exact q.elim
    | sh d => rw [z] at q; exact q.elim
    | ow b d => rw [z] at q; exact q.elim
theorem ve_isXB {X : Cx} {a C : Addr} {d : Option Addr} {oe : Obj} {pn : List (Addr × Obj)} {x : Xc} {e : Str} {t : String} {y : Str} {pos p p1 p2 : Pos} {names : List Str} {anc : Str → Str → Bool} {bi : List String} (T : ExT X.K X.mg names anc bi) (hc : x.cls ∈ names) (hC : X.mg x.cls = some (.ref C)) (hz : Zc (.ref C) d oe) (hf : ∃ vs, oe.data = .fields vs) (i : Nat) (hm : X.mg "isinstance" = none) (hmy : X.mg y = none) (hby : bootBuiltins y = some (.type t))
    (hy : t ∈ bi := by decide +kernel) (hN : X.N[i]? = some e := by rfl) (hv : Vis X.env.scope e := by first | exact Or.inl rfl | exact Or.inr (Or.inl rfl) | exact Or.inr (Or.inr rfl)) (hd : (e == ("__debug__" : Str)) = false := by decide) (hcd : (e == ("__classdict__" : Str)) = false := by decide) (hgy : Gl X y := by rfl) (hdy : (y == ("__debug__" : Str)) = false := by decide) (hny : y ≠ "__name__" := by decide)
    (hb : bootBuiltins "isinstance" = some (.builtin "isinstance") := by decide +kernel) (hg : Gl X "isinstance" := by rfl) (he : starEach [.Name e p1, .Name y p2] X.env = (false, eval (.Name e p1) X.env) :: starEach [.Name y p2] X.env := by rfl) (he2 : starEach [(.Name y p2 : Expr)] X.env = (false, eval (.Name y p2) X.env) :: starEach [] X.env := by rfl)
    (hpl : (backTo pos (starEach [(.Name y p2 : Expr)] X.env)).any (·.1) = false := by rfl) : VE X.K X.mg (at1 (X.suite a ((a, oe) :: pn))) (Am.exv X.K (some a) d x) (.Call (.Name "isinstance" p) [.Name e p1, .Name y p2] [] pos) (vIsE i (anc x.cls t)) := by
  refine ⟨tCB (rIsX X.K C a d) (tCons (tVar i) (tCons (tC (.ty t)) tNil)), fun _ => pe_callB (call_isX (X := X) (T.cls x.cls hc C hC) hz hf) hg hm hb (pa_cons (pe_var hN hv hd hcd) (pa_cons (pe_bltn (v := .ty t) hgy hmy hby rfl hny hdy) pa_nil he2) he) (by decide) (by decide) he hpl, ⟨fun G hG B H σ e Q S q => ?_⟩⟩
  unfold vIsE at q
  cases z : e[i]? with
  | none => rw [z] at q; exact q.elim
  | some s =>
    cases s with
    | tk n =>
      cases n with
      | succ n => rw [z] at q; exact q.elim
      | zero =>
        simp only [z] at q
        obtain ⟨v, hv', ok⟩ := S.sl i _ z
        have e1 := ok.tkI
        have hG1 : G.tok 0 = a := hG.1 a rfl
        rw [hG1] at e1
        subst e1
        exact ⟨_, hv', .ty t, .type t, anc x.cls t, rfl, fun u r => by cases r; rfl, T.isB x.cls hc t hy C hC, pay_at S hG.2, Po.here q S (.bl _)⟩
    | no => rw [z] at q; exact q.elim
    | sh d => rw [z] at q; exact q.elim
    | ow b d => rw [z] at q; exact q.elim
/-- no class of the names has an attribute f -/
def NoAt (K : PySem.W.Frag) (mg : Str → Option Value) (names : List Str) (f : Str) : Prop := ∀ c ∈ names, ∀ C, mg c = some (.ref C) → PySem.W.findIn K (.ref C) f = some none
/-- e.f -/
theorem ve_xf {X : Cx} {a C : Addr} {d : Option Addr} {oe : Obj} {pn : List (Addr × Obj)} {x : Xc} {e f : Str} {pos p1 : Pos} {names : List Str} {anc : Str → Str → Bool} {bi : List String} (T : ExT X.K X.mg names anc bi) (hno : NoAt X.K X.mg names f) (hc : x.cls ∈ names) (hC : X.mg x.cls = some (.ref C)) (hz : Zc (.ref C) d oe) (hf : ∃ vs, oe.data = .fields vs) (i : Nat)
    (hN : X.N[i]? = some e := by rfl) (hv : Vis X.env.scope e := by first | exact Or.inl rfl | exact Or.inr (Or.inl rfl) | exact Or.inr (Or.inr rfl)) (hd : (e == ("__debug__" : Str)) = false := by decide) (hcd : (e == ("__classdict__" : Str)) = false := by decide)
    (hb : attributeBase (.Name e p1) f X.env (eval (.Name e p1) X.env) = eval (.Name e p1) X.env := by rfl) : VE X.K X.mg (at1 (X.suite a ((a, oe) :: pn))) (Am.exv X.K (some a) d x) (.Attribute (.Name e p1) f pos) (vXf i f x) := by
  have T2 := T.cls x.cls hc C hC
  refine ⟨tXf a (.ref C) d C f (tVar i), fun _ => pe_xf ⟨T2.hg, T2.hk, T2.hs, T2.hd⟩ (hno x.cls hc C hC) hz hf (pe_var hN hv hd hcd) hb, ⟨fun G hG B H σ e Q S q => ?_⟩⟩
  unfold vXf at q
  cases z : e[i]? with
  | none => rw [z] at q; exact q.elim
  | some s =>
    cases s with
    | tk n =>
      cases n with
      | succ n => rw [z] at q; exact q.elim
      | zero =>
        simp only [z] at q
        obtain ⟨v, hv', ok⟩ := S.sl i _ z
        have e1 := ok.tkI
        have hG1 : G.tok 0 = a := hG.1 a rfl
        rw [hG1] at e1
        subst e1
        have py := pay_sub (S.b0.trans S.sub) hG.2
        unfold pay at py
        cases w : x.val with
        | none => rw [w] at q; exact q.elim
        | some g =>
          obtain ⟨g, n⟩ := g
          rw [w] at q py
          simp only at q py
          obtain ⟨dd, e3, e4⟩ := py
          by_cases gf : g = f
          · rw [if_pos gf] at q
            subst gf
            exact ⟨_, hv', rfl, rfl, dd, _, .int n, e3, e4, by simp [List.lookup], Po.here q S (.int _)⟩
          · rw [if_neg gf] at q; exact q.elim
    | no => rw [z] at q; exact q.elim
    | sh d => rw [z] at q; exact q.elim
    | ow b d => rw [z] at q; exact q.elim
end VL

/-! VL17: the head's facts of errors with a number. -/
namespace VL
open PySem PySem.Spec PyProof.Rows L2
def valIs (r : Option PySem.W.CFound) (n : String) : Bool := match r with
  | some (.val (.builtin m)) => m == n
  | _ => false
theorem valIs_ok {r : Option PySem.W.CFound} {n : String} (h : valIs r n = true) : r = some (.val (.builtin n)) := by
  unfold valIs at h
  split at h
  · rw [beq_iff_eq.mp h]
  · cases h
def oexOk (K : PySem.W.Frag) (x f b : Str) : Bool := (He.Fa.glo x).ok K && ((He.Fa.glo b).ok K && (oexB K (He.ga K x) && (decide (PySem.W.findIn K (.ref (He.ga K x)) "__setattr__" = some (some (.builtin "object.__setattr__"))) &&
  (decide (PySem.W.subIn K (.ref (He.ga K x)) (.type "BaseException") = some true) && (decide (PySem.W.typeIn K (.ref (He.ga K x)) = some (.type "type")) && (PySem.W.keepIn K (.ref (He.ga K x)) &&
  (decide (PySem.W.findIn K (.ref (He.ga K x)) "__init__" = some (some (.ref (He.fAd K (x, some "__init__"))))) && (decide (PySem.W.typeIn K (.ref (He.fAd K (x, some "__init__"))) = some (.type "function")) &&
  (decide (PySem.W.findIn K (.ref (He.ga K x)) f = some none) && (decide (PySem.W.specialIn K (.ref (He.ga K b)) "__getattribute__" = some (some (.builtin "type.__getattribute__"))) &&
  (PySem.W.readsIn K (He.ga K b) (.type "type") && valIs (PySem.W.findCls K (.ref (He.ga K b)) (.type "type") "__init__") "ValueError.__init__")))))))))))
theorem Fun.of_funDq {K : PySem.W.Frag} {x q : Str} {st : Stmt} {f : Addr} {fd : FuncData} (F : FunD K x q (defArgs st) (defBody st) (defScope st) [] [] f fd) : Fun K x q st f fd := by
  obtain ⟨oc, od, dV, kV, doc, pm, an, cdv, ct, osl, rfl, lk, hcd, hd, _⟩ := F.ex
  have e : dV = .none := by
    rcases hd with ⟨_, e⟩ | ⟨h, _⟩
    · exact e
    · exact absurd rfl h
  subst e
  exact ⟨⟨oc, od, kV, doc, pm, an, cdv, ct, osl, rfl, lk, hcd⟩, F.kp⟩
theorem oexT_of {K : PySem.W.Frag} {h : Heap} {mg : Str → Option Value} {x f b p q : Str} {st : Stmt} (e : ∃ fd, FunD K "__init__" q (defArgs st) (defBody st) (defScope st) [] [] (He.fAd K (x, some "__init__")) fd) (X : K.In h) (G : h.Ns mainGlobals mg) (c : oexOk K x f b = true)
    (hb : ∀ (kV doc pm : Value) (an : Option Addr) (cdv ct : Value) (us : List Value), us.length = 2 → bindArgs (PySem.W.fnOf "__init__" q (defArgs st) (defBody st) (defScope st) .none kV doc pm an cdv ct) ⟨us, []⟩ = pure ((["self", p] : List Str).zip us)) : OexT K mg x f b st p q := by
  obtain ⟨fd, F⟩ := e
  unfold oexOk at c
  simp only [Bool.and_eq_true, decide_eq_true_eq] at c
  obtain ⟨g, gb, o, c1, c2, c3, c4, c5, c6, c7, c8, c9, c10⟩ := c
  obtain ⟨nm, qn, N, bs, bm, sn, sub, ab, col, dd, k0, k1, k2, k3, k5, hl, hr⟩ := oexB_ok o
  exact ⟨⟨_, _, fd, He.glo_ok X G g, ⟨⟨nm, qn, N, bs, bm, sn, sub, ab, col, dd, k0, k1, k2, k3, k5, hl, hr⟩, c1, c2, c3, c4⟩, c5, c6, c7, Fun.of_funDq F, fun s us hl => F.bindsA (ps := ["self", p]) hb s us hl⟩, ⟨⟨_, He.glo_ok X G gb, c8, c9, valIs_ok c10⟩⟩⟩
def noAtB (names : List Str) (f : Str) (K : PySem.W.Frag) : Bool := names.all fun c => (He.Fa.glo c).ok K && decide (PySem.W.findIn K (.ref (He.ga K c)) f = some none)
theorem noAt_of {K : PySem.W.Frag} {h : Heap} {mg : Str → Option Value} {names : List Str} {f : Str} (X : K.In h) (G : h.Ns mainGlobals mg) (c : noAtB names f K = true) : NoAt K mg names f := fun y hy C hC => by
  unfold noAtB at c
  rw [List.all_eq_true] at c
  have q := c y hy
  simp only [Bool.and_eq_true, decide_eq_true_eq] at q
  have e := (He.glo_ok X G q.1).symm.trans hC
  cases e
  exact q.2
end VL

/-! VL18: a + b of lists, a new list of one's own. -/
namespace VL
open PySem PySem.Spec PyProof.Rows L2
def rCat (K : PySem.W.Frag) : V → V → Hp → VK → Prop := fun x y H Q => ∃ (p p' : Addr) (vs vs' : List V), x = .ref p ∧ y = .ref p' ∧ SqL K H p vs ∧ SqL K H p' vs' ∧ vs.length + vs'.length ≤ vmax ∧ ∀ t, H t = none → Q (.ref t) (upd H t (.lst (vs ++ vs')))
theorem od_cat {X : Cx} : OpR X (binaryOp .Add) (rCat X.K) := by
  intro pins s σ H x y v u Q I rx ry ⟨p, p', vs, vs', e1, e2, h1, h2, hl, h⟩
  subst e1 e2
  cases rx
  cases ry
  obtain ⟨its, w1, ⟨⟨cls1, dd1, data1, sl1⟩, n1, e1, c1, _, d1⟩, _⟩ := I.list h1
  obtain ⟨its2, w2, ⟨⟨cls2, dd2, data2, sl2⟩, n2, e2, c2, _, d2⟩, _⟩ := I.list h2
  simp only at c1 d1 c2 d2
  subst c1 d1 c2 d2
  have m1 := w1.length
  have m2 := w2.length
  have hz : vs.length + vs'.length ≤ sizeLine := vle (by omega)
  refine concat_meets ⟨_, e1, rfl⟩ ⟨_, e2, rfl⟩ noFill_list_add seq_list_add PySem.F.slot_list_add PySem.F.entry_list_add (PySem.F.args_list_add_2 _ _) (list_addW p p' its.toArray its2.toArray n1 n2 dd1 dd2 sl1 sl2 (by simp only [List.size_toArray]; omega)) ⟨e1, e2, ?_⟩
  have ea : its.toArray ++ its2.toArray = (its ++ its2).toArray := by simp
  rw [ea]
  have hf : H s.heap.objs.size = none := I.hok.fresh (Nat.le_refl _)
  refine ⟨.ref _, _, I.laid (t' := s.toks) (o := .lst (vs ++ vs')) (fun b ob q => Heap.get?_push_of_some _ q) (Nat.le_refl _) ?_, rfl, h _ hf⟩
  exact ⟨by rw [List.length_append]; exact hz, _, 0, w1.append w2, Heap.get?_push_size _ rfl⟩
section
variable {K : PySem.W.Frag} {mg : Str → Option Value} {W : Am K} {ta tb : TE} {ma mb : ME}
theorem rd_catF (ha : RdE K mg W ta ma) (hb : RdE K mg W tb mb) : RdF K mg W (tOp (rCat K) ta tb) (vCatF ma mb) where
  run := fun G hG B H σ e Q S q => by
    refine ha.run G hG B H σ e _ S (Po.bind q fun x e1 v B1 H1 S1 s1 r1 h1 => ?_)
    refine hb.run G hG B1 H1 σ e1 _ S1 (Po.bind h1 fun y e2 w B2 H2 S2 s2 r2 h2 => ?_)
    obtain ⟨zs, hz, h4⟩ := h2.of
    have r1 : Rep K B1 v x := r1
    have r2 : Rep K B2 w y := r2
    cases x with
    | lst xs =>
      cases y with
      | lst ys =>
        have hz : (if xs.length + ys.length ≤ vmax then some (xs ++ ys) else none) = some zs := hz
        by_cases l : xs.length + ys.length ≤ vmax
        · rw [if_pos l] at hz
          cases hz
          cases r1 with
          | lst q1 q2 =>
            cases r2 with
            | lst q3 q4 =>
              refine ⟨_, _, _, _, rfl, rfl, same_sqL S2.sub (same_sqL s2 q1), same_sqL S2.sub q3, ?_, fresh_list S2 ((q2.mono s2).append q4) h4⟩
              rw [q2.length, q4.length]
              exact l
        · rw [if_neg l] at hz; cases hz
      | _ => cases hz
    | _ => cases hz
end
section
variable {ι : Type} {K : PySem.W.Frag} {mg : Str → Option Value} {X : ι → Cx} {W : Am K} {pos : Pos} {a b : Expr} {ma mb : ME}
theorem vf_cat (ha : VE K mg X W a ma) (hb : VE K mg X W b mb) (hK : ∀ j, (X j).K = K := by intro _; rfl) : VF K mg X W (.BinOp a .Add b pos) (vCatF ma mb) :=
  let ⟨_, p, r⟩ := ha; let ⟨_, p', r'⟩ := hb; ⟨_, fun i => pe_op (hK i ▸ od_cat : OpR (X i) (binaryOp .Add) (rCat K)) (p i) (p' i), rd_catF r r'⟩
end
end VL

/-! VL19: int(x), list(d), xs.index(y). -/
namespace VL
open PySem PySem.Spec PyProof.Rows L2
theorem cd_int {X : Cx} : CallR X (.type "int") (rDatC X.K bfInt) := by
  intro pins s σ H xs us Q I r h
  obtain ⟨G, B, σ', e, ds, d, S, rr, hd, h⟩ := h
  unfold bfInt at hd
  split at hd
  · cases hd
    cases rr with
    | cons r1 r2 =>
      cases r2
      cases r1
      exact call_int1 pins s σ H _ us Q I r (.inl ⟨_, rfl, h _ B H S (Same.refl B) (.int _)⟩)
  · cases hd
    cases rr with
    | cons r1 r2 =>
      cases r2
      cases r1
      exact call_int1 pins s σ H _ us Q I r (.inr ⟨_, rfl, h _ B H S (Same.refl B) (.int _)⟩)
  · cases hd
theorem keys_reps {K : PySem.W.Frag} {B : Hp} : ∀ {kvs : List (Key × V)} {ks : List Ky}, kvs.map (·.1) = ks → Reps K B (kvs.map fun kv => kV kv.1) (ks.map kyD)
  | [], ks, h => by
    cases h
    exact .nil
  | (k, v) :: kvs, ks, h => by
    cases h
    refine .cons ?_ (keys_reps rfl)
    cases k with
    | inl i => exact .int i
    | inr z => exact .str z
theorem cd_listK {X : Cx} (hc : X.calm = true) : CallR X (.type "list") (rDatF X.K bfListK) := by
  intro pins s σ H xs us Q I r ⟨G, B, σ', e, ds, d, S, rs, hd, h⟩
  unfold bfListK at hd
  split at hd
  · split at hd
    · cases hd
      cases rs with
      | cons r0 rr =>
        cases rr
        cases r0 with
        | dct h2 e2 q2 => exact call_listD hc pins s σ H _ us Q I r ⟨_, _, rfl, same_rd S.sub h2, new_F S (keys_reps e2) h⟩
    · cases hd
  · exact cd_list pins s σ H xs us Q I r ⟨G, B, σ', e, _, d, S, rs, hd, h⟩
theorem bool_reps {K : PySem.W.Frag} {B : Hp} : ∀ {ds : List D} {vs : List V}, allB ds = true → Reps K B vs ds → vs.all flatV = true ∧ ∀ {c : Bool} {j : Nat}, boolAt c ds = some j → ∃ z, vs[j]? = some z ∧ eqV z (.bl c) = true ∧ ∀ (m : Nat) (z' : V), m < j → vs[m]? = some z' → eqV z' (.bl c) = false
  | [], vs, _, r => by
    cases r
    exact ⟨rfl, fun {c j} h => by cases h⟩
  | d :: ds, vs, hb, r => by
    cases r with
    | @cons v vs' _ _ r1 r2 =>
      cases d with
      | bl b =>
        cases r1
        obtain ⟨h1, h2⟩ := bool_reps (ds := ds) (by simpa [allB] using hb) r2
        refine ⟨by simp [flatV, h1], fun {c j} h => ?_⟩
        unfold boolAt at h
        by_cases q : b = c
        · rw [if_pos q] at h
          cases h
          exact ⟨.bl b, rfl, by simp [eqV, q], fun m z' hm => by omega⟩
        · rw [if_neg q] at h
          cases w : boolAt c ds with
          | none => rw [w] at h; cases h
          | some i =>
            rw [w] at h
            obtain rfl : i + 1 = j := Option.some.inj h
            obtain ⟨z, e1, e2, e3⟩ := h2 w
            refine ⟨z, by simpa using e1, e2, fun m z' hm hz => ?_⟩
            cases m with
            | zero =>
              cases hz
              simpa [eqV] using q
            | succ m => exact e3 m z' (by omega) (by simpa using hz)
      | _ => simp [allB] at hb
section
variable {K : PySem.W.Frag} {mg : Str → Option Value} {W : Am K} {ta tb : TE} {ma mb : ME}
theorem rd_index (ha : RdE K mg W ta ma) (hb : RdE K mg W tb mb) : RdE K mg W (tBM K "list" (rIndex K) ta (tCons tb tNil)) (vBm1 opIndex ma mb) where
  run := fun G hG B H σ e Q S q => by
    refine ha.run G hG B H σ e _ S (Po.bind q fun x e1 v B1 H1 S1 s1 r1 h1 => ?_)
    have r1 : Rep K B1 v x := r1
    cases x with
    | lst xs =>
      cases r1 with
      | @lst a vs _ q1 q2 =>
        refine ⟨.inl ⟨rfl, vs, same_sqL S1.sub q1⟩, ?_⟩
        refine hb.run G hG B1 H1 σ e1 _ S1 (Po.bind h1 fun y e2 w B2 H2 S2 s2 r2 h2 => ?_)
        obtain ⟨d, hd, h4⟩ := h2.of
        have r2 : Rep K B2 w y := r2
        cases y with
        | bl c =>
          cases r2
          have hd : (if allB xs = true then (boolAt c xs).map (fun j => D.int (j : Nat)) else none) = some d := hd
          by_cases l : allB xs = true
          · rw [if_pos l] at hd
            cases z : boolAt c xs with
            | none => rw [z] at hd; cases hd
            | some j =>
              rw [z] at hd
              cases hd
              obtain ⟨f1, f2⟩ := bool_reps l (q2.mono s2)
              obtain ⟨u, e1', e2', e3'⟩ := f2 z
              exact ⟨a, vs, .bl c, j, u, rfl, rfl, same_sqL S2.sub (same_sqL s2 q1), rfl, f1, e1', e2', e3', Po.here h4 S2 (.int _)⟩
          · rw [if_neg l] at hd; cases hd
        | _ => cases hd
    | _ => exact h1.elim
end
section
variable {ι : Type} {K : PySem.W.Frag} {mg : Str → Option Value} {X : ι → Cx} {W : Am K} {pos apos : Pos} {o e : Expr} {ma mb : ME}
theorem ve_index (ha : VE K mg X W o ma) (hb : VE K mg X W e mb) (hK : ∀ j, (X j).K = K := by intro _; rfl) (hbase : ∀ j, attributeBase o "index" (X j).env (eval o (X j).env) = eval o (X j).env := by intro _; rfl)
    (hfew : ∀ j, ((backTo pos (starEach [e] (X j).env)).all (fun x => !x.1) && (backToKw pos (keywordEach [] (X j).env)).all (fun x => x.1.isSome) && decide (([e] : List Expr).length + ([] : List Keyword).length + (if ([] : List Keyword).isEmpty then 0 else 1) < 30)) = true := by intro _; rfl)
    (hline : (apos.endLine == pos.line) = true := by rfl) (hs : ∀ j, starEach [e] (X j).env = (false, eval e (X j).env) :: starEach [] (X j).env := by intro _; rfl) (hplain : ∀ j, (backTo pos (starEach [] (X j).env)).any (·.1) = false := by intro _; rfl) :
    VE K mg X W (.Call (.Attribute o "index" apos) [e] [] pos) (vBm1 opIndex ma mb) :=
  let ⟨_, p, r⟩ := ha; let ⟨_, p', r'⟩ := hb
  ⟨_, fun i => (hK i ▸ pe_bm PySem.F.plainAttrs_list PySem.F.slot_list_index PySem.F.type_list_index mt_index (p i) (pa_cons (p' i) pa_nil (hs i)) (hbase i) (hfew i) hline (hs i) (hplain i) : PE (X i) _ (tBM K "list" (rIndex K) _ (tCons _ tNil))), rd_index r r'⟩
end
end VL

/-! VL20: the head's run, cut into pieces (the memory of one piece is given back behind it). -/
namespace VL
open PySem PySem.Spec PyProof.Rows L2
theorem run_cut {S α β γ ε δ : Type} {o : Option S} {l : S → Bool} {k : S → α} {a : α} {fl : List ε} {fp : S → ε → Bool} {dl : List δ} {dp : S → δ → Bool} {f6 : S → Bool} {f4 : S → β} {b : β} {f5 : S → γ} {c : γ} (n m : Nat)
    (h1 : o.map l = some true) (h1b : o.map k = some a) (h2 : o.map (fun s => (fl.take n).all (fp s)) = some true) (h2b : o.map (fun s => (fl.drop n).all (fp s)) = some true)
    (h3 : o.map (fun s => (dl.take m).all (dp s)) = some true) (h3b : o.map (fun s => (dl.drop m).all (dp s)) = some true) (h3c : o.map f4 = some b) (h4 : o.map (fun s => (f5 s, f6 s)) = some (c, true)) :
    o.map (fun s => (l s, k s, (((fl.all (fp s) && dl.all (dp s), f4 s), f5 s), f6 s))) = some (true, a, (((true, b), c), true)) := by
  cases o with
  | none => cases h2
  | some s =>
    have e1 : l s = true := Option.some.inj h1
    have e2 : k s = a := Option.some.inj h1b
    have e3 : (fl.take n).all (fp s) = true := Option.some.inj h2
    have e4 : (fl.drop n).all (fp s) = true := Option.some.inj h2b
    have e5 : (dl.take m).all (dp s) = true := Option.some.inj h3
    have e6 : (dl.drop m).all (dp s) = true := Option.some.inj h3b
    have e7 : f4 s = b := Option.some.inj h3c
    obtain ⟨e8, e9⟩ := Prod.mk.inj (Option.some.inj h4)
    have e10 : fl.all (fp s) = true := by rw [← List.take_append_drop n fl, List.all_append, e3, e4]; rfl
    have e11 : dl.all (dp s) = true := by rw [← List.take_append_drop m dl, List.all_append, e5, e6]; rfl
    show some (l s, k s, (((fl.all (fp s) && dl.all (dp s), f4 s), f5 s), f6 s)) = _
    rw [e1, e2, e7, e8, e9, e10, e11]
    rfl
end VL

/-! VL21: more of texts: startswith, partition, split, not in, int of a text, a text so many times. -/
namespace VL
open PySem PySem.Spec PyProof.Rows L2
theorem od_notinS {X : Cx} : OpR X (compareOp .NotIn) (rDat X.K opNotInS) := by
  intro pins s σ H x y v u Q I rx ry ⟨G, B, σ', e, a, b, d, S, r1, r2, hd, h⟩
  unfold opNotInS at hd
  split at hd
  · cases hd
    cases r1
    cases r2
    refine op_notin_str pins s σ H _ _ v u Q I rx ry ⟨_, _, rfl, rfl, ?_⟩
    rw [Bool.not_not]
    exact h _ B H S (Same.refl B) (.bl _)
  · cases hd
theorem cd_intS {X : Cx} : CallR X (.type "int") (rDatC X.K bfIntS) := by
  intro pins s σ H xs us Q I r h
  obtain ⟨G, B, σ', e, ds, d, S, rr, hd, h⟩ := h
  unfold bfIntS at hd
  split at hd
  · cases hd
    cases rr with
    | cons r1 r2 =>
      cases r2
      cases r1
      exact call_int1 pins s σ H _ us Q I r (.inl ⟨_, rfl, h _ B H S (Same.refl B) (.int _)⟩)
  · cases hd
    cases rr with
    | cons r1 r2 =>
      cases r2
      cases r1
      exact call_int1 pins s σ H _ us Q I r (.inr ⟨_, rfl, h _ B H S (Same.refl B) (.int _)⟩)
  · split at hd
    · rename_i z hz
      obtain ⟨n, hn, rfl⟩ := Option.map_eq_some_iff.mp hd
      cases rr with
      | cons r1 r2 =>
        cases r2
        cases r1
        exact call_int_str pins s σ H _ us Q I r ⟨_, n, rfl, hn, hz, h _ B H S (Same.refl B) (.int _)⟩
    · cases hd
  · cases hd
section
variable {ι : Type} {K : PySem.W.Frag} {mg : Str → Option Value} {X : ι → Cx} {W : Am K} {pos apos : Pos} {o e : Expr} {ma mb : ME}
theorem ve_starts (ha : VE K mg X W o ma) (hb : VE K mg X W e mb) (hs : ∀ j, starEach [e] (X j).env = [(false, eval e (X j).env)] := by intro _; rfl)
    (hbase : ∀ j, attributeBase o "startswith" (X j).env (eval o (X j).env) = eval o (X j).env := by intro _; rfl) (hline : (apos.endLine == pos.line) = true := by rfl) : VE K mg X W (.Call (.Attribute o "startswith" apos) [e] [] pos) (vM1 opStarts ma mb) := by
  obtain ⟨_, p, r⟩ := ha
  obtain ⟨_, p', r'⟩ := hb
  refine ⟨_, fun i => pe_m1 F.slot_str_startswith F.type_str_startswith mt_startswith (p i) (p' i) (hs i) (hbase i) hline, rd_m1 (fun G B H σ e z y b d Q S ry hd h => ?_) r r'⟩
  cases b with
  | str w =>
    cases ry
    cases hd
    exact ⟨z, w, rfl, rfl, Po.here h S (.bl _)⟩
  | _ => cases hd
theorem ve_parti (ha : VE K mg X W o ma) (hb : VE K mg X W e mb) (hs : ∀ j, starEach [e] (X j).env = [(false, eval e (X j).env)] := by intro _; rfl)
    (hbase : ∀ j, attributeBase o "partition" (X j).env (eval o (X j).env) = eval o (X j).env := by intro _; rfl) (hline : (apos.endLine == pos.line) = true := by rfl) : VE K mg X W (.Call (.Attribute o "partition" apos) [e] [] pos) (vM1 opParti ma mb) := by
  obtain ⟨_, p, r⟩ := ha
  obtain ⟨_, p', r'⟩ := hb
  refine ⟨_, fun i => pe_partition (p i) (p' i) (hs i) (hbase i) hline, rd_m1 (fun G B H σ e z y b d Q S ry hd h => ?_) r r'⟩
  cases b with
  | str w =>
    cases ry
    have hd : (if w.length ≠ 0 ∧ z.length ≤ vmax then some (D.tup [.str (Txt.partition z w).1, .str (Txt.partition z w).2.1, .str (Txt.partition z w).2.2]) else none) = some d := hd
    by_cases q : w.length ≠ 0 ∧ z.length ≤ vmax
    · rw [if_pos q] at hd
      cases hd
      refine ⟨z, w, rfl, rfl, by simpa using q.1, vle q.2, fun p hp => ?_⟩
      exact h _ _ _ (S.alloc hp) (same_upd' (same_none S.sub hp)) (.tup (SqT.of upd_same) (.cons (.str _) (.cons (.str _) (.cons (.str _) .nil))))
    · rw [if_neg q] at hd; cases hd
  | _ => cases hd
theorem rd_mf1 {K : PySem.W.Frag} {mg : Str → Option Value} {W : Am K} {r : V → List V → Hp → VK → Prop} {op : Str → D → Option (List D)} {ta tb : TE} {ma mb : ME} (hr : ∀ (G : Gr) (B H : Hp) (σ : L2.St) (e : Env) (z : Str) (y : V) (b : D) (d : List D) (Q : VK), Sto K G B H σ e → Rep K B y b → op z b = some d → Po K mg W (rpF K) G σ B Q (.ok d e) → r (.str z) [y] H Q)
    (ha : RdE K mg W ta ma) (hb : RdE K mg W tb mb) : RdF K mg W (tM1 r ta tb) (vMF1 op ma mb) where
  run := fun G hG B H σ e Q S h => by
    refine ha.run G hG B H σ e _ S (Po.bind h fun x e1 v B1 H1 S1 s1 r1 h1 => ?_)
    have r1 : Rep K B1 v x := r1
    cases x with
    | str z =>
      cases r1
      refine ⟨⟨z, rfl⟩, hb.run G hG B1 H1 σ e1 _ S1 (Po.bind h1 fun y e2 w B2 H2 S2 s2 r2 h2 => ?_)⟩
      obtain ⟨d, hd, h3⟩ := Po.of h2
      exact hr G B2 H2 σ e2 z w y d Q S2 r2 hd h3
    | _ => exact h1.elim
theorem strs_reps {K : PySem.W.Frag} {B : Hp} : ∀ zs : List Str, Reps K B (zs.map V.str) (zs.map D.str)
  | [] => .nil
  | z :: zs => .cons (.str z) (strs_reps zs)
theorem vf_split (ha : VE K mg X W o ma) (hb : VE K mg X W e mb) (hs : ∀ j, starEach [e] (X j).env = [(false, eval e (X j).env)] := by intro _; rfl)
    (hbase : ∀ j, attributeBase o "split" (X j).env (eval o (X j).env) = eval o (X j).env := by intro _; rfl) (hline : (apos.endLine == pos.line) = true := by rfl) : VF K mg X W (.Call (.Attribute o "split" apos) [e] [] pos) (vMF1 opSplit ma mb) := by
  obtain ⟨_, p, r⟩ := ha
  obtain ⟨_, p', r'⟩ := hb
  refine ⟨_, fun i => pe_split (p i) (p' i) (hs i) (hbase i) hline, rd_mf1 (fun G B H σ e z y b d Q S ry hd h => ?_) r r'⟩
  cases b with
  | str w =>
    cases ry
    have hd : (if w.length ≠ 0 ∧ z.length + 2 ≤ vmax then some ((Txt.split z w).map D.str) else none) = some d := hd
    by_cases q : w.length ≠ 0 ∧ z.length + 2 ≤ vmax
    · rw [if_pos q] at hd
      cases hd
      exact ⟨z, w, rfl, rfl, by simpa using q.1, vle q.2, new_F S (strs_reps _) h⟩
    · rw [if_neg q] at hd; cases hd
  | _ => cases hd
end
theorem mulOk_small {z : Str} {n : Int} (q : z.length ≤ 1000 ∧ -1000 ≤ n ∧ n ≤ 1000) : MulOk z n := by
  refine ⟨by simp; omega, fun h1 _ h2 => ?_, fun h1 _ => ?_⟩
  · have h3 : (2 ^ 63 - 1) / n ≥ 1000 := by
      have : (1000 : Int) * n ≤ 2 ^ 63 - 1 := by omega
      exact (Int.le_ediv_iff_mul_le (by omega)).mpr this
    omega
  · have : z.length * n.toNat ≤ 1000 * 1000 := Nat.mul_le_mul q.1 (by omega)
    unfold Builtin.Str.tooLong
    simp
    have e : sizeLine ≥ 1000000 := by decide
    omega
theorem od_mulS {X : Cx} : OpR X (binaryOp .Mult) (rDat X.K opMulS) := by
  intro pins s σ H x y v u Q I rx ry ⟨G, B, σ', e, a, b, d, S, r1, r2, hd, h⟩
  unfold opMulS at hd
  split at hd
  · rename_i z n
    split at hd
    · rename_i q
      cases hd
      cases r1
      cases r2
      obtain ⟨t, rfl⟩ := rx
      obtain ⟨t', rfl⟩ := ry
      exact SB.mul (mulOk_small q) fun t'' k => ⟨.str _, H, I.tok k, ⟨t'', rfl⟩, h _ B H S (Same.refl B) (.str _)⟩
    · cases hd
  · cases hd
end VL

/-! VL22: texts (join, in, str of a text); comprehensions whose element may raise. -/
namespace VL
open PySem PySem.Spec PyProof.Rows L2
theorem od_inS {X : Cx} : OpR X (compareOp .In) (rDat X.K opInS) := by
  intro pins s σ H x y v u Q I rx ry ⟨G, B, σ', e, a, b, d, S, r1, r2, hd, h⟩
  unfold opInS at hd
  split at hd
  · cases hd
    cases r1
    cases r2
    exact op_in_str pins s σ H _ _ v u Q I rx ry ⟨_, _, rfl, rfl, h _ B H S (Same.refl B) (.bl _)⟩
  · cases hd
theorem cd_strS {X : Cx} : CallR X (.type "str") (rDatC X.K bfStrS) := by
  intro pins s σ H xs us Q I r h
  obtain ⟨G, B, σ', e, ds, d, S, rr, hd, h⟩ := h
  unfold bfStrS at hd
  split at hd
  · rename_i i
    split at hd
    · rename_i hz
      cases hd
      cases rr with
      | cons r1 r2 =>
        cases r2
        cases r1
        exact call_str_int pins s σ H _ us Q I r ⟨i, rfl, hz, h _ B H S (Same.refl B) (.str _)⟩
    · cases hd
  · cases hd
    cases rr with
    | cons r1 r2 =>
      cases r2
      cases r1
      exact SkE.call_str_str pins s σ H _ us Q I r ⟨_, rfl, h _ B H S (Same.refl B) (.str _)⟩
  · cases hd
theorem strsD_reps {K : PySem.W.Frag} {B : Hp} : ∀ {ds : List D} {ys : List Str} {vs : List V}, strsD ds = some ys → Reps K B vs ds → vs = ys.map V.str
  | [], _, _, h, r => by
    cases h
    cases r
    rfl
  | d :: ds, ys, vs, h, r => by
    cases r with
    | @cons v _ vs' _ r1 r2 =>
      cases d with
      | str z =>
        have h : (strsD ds).map (z :: ·) = some ys := h
        obtain ⟨zs, hz, rfl⟩ := Option.map_eq_some_iff.mp h
        cases r1
        rw [strsD_reps hz r2]
        rfl
      | _ => cases h
section
variable {ι : Type} {K : PySem.W.Frag} {mg : Str → Option Value} {X : ι → Cx} {W : Am K} {pos apos : Pos} {o e : Expr} {ma mb : ME}
theorem ve_join (ha : VE K mg X W o ma) (hb : VE K mg X W e mb) (hs : ∀ j, starEach [e] (X j).env = [(false, eval e (X j).env)] := by intro _; rfl)
    (hbase : ∀ j, attributeBase o "join" (X j).env (eval o (X j).env) = eval o (X j).env := by intro _; rfl) (hline : (apos.endLine == pos.line) = true := by rfl) (hK : ∀ j, (X j).K = K := by intro _; rfl) : VE K mg X W (.Call (.Attribute o "join" apos) [e] [] pos) (vM1 opJoin ma mb) := by
  obtain ⟨_, p, r⟩ := ha
  obtain ⟨_, p', r'⟩ := hb
  refine ⟨_, fun i => by have q := pe_join (pos := pos) (apos := apos) (p i) (p' i) (hs i) (hbase i) hline; rw [hK i] at q; exact q, rd_m1 (fun G B H σ e z y b d Q S ry hd h => ?_) r r'⟩
  cases b with
  | lst ds =>
    have hd : (match strsD ds with
      | some ys => if (ys.map (·.length)).sum + ys.length * z.length ≤ 16777216 then some (D.str (Txt.join z ys)) else none
      | none => none) = some d := hd
    cases hz : strsD ds with
    | none => rw [hz] at hd; cases hd
    | some ys =>
      rw [hz] at hd
      by_cases q : (ys.map (·.length)).sum + ys.length * z.length ≤ 16777216
      · have hd : (if (ys.map (·.length)).sum + ys.length * z.length ≤ 16777216 then some (D.str (Txt.join z ys)) else none) = some d := hd
        rw [if_pos q] at hd
        cases hd
        cases ry with
        | lst q1 q2 =>
          have e := strsD_reps hz q2
          subst e
          exact ⟨z, _, ys, rfl, rfl, .inl (same_sqL S.sub q1), q, Po.here h S (.str _)⟩
      · have hd : (if (ys.map (·.length)).sum + ys.length * z.length ≤ 16777216 then some (D.str (Txt.join z ys)) else none) = some d := hd
        rw [if_neg q] at hd; cases hd
  | _ => cases hd
end
/-! ### an exception out of a block -/
section
variable {X : Cx} {pins : List (Addr × Obj)} {σ : L2.St} {H : Hp} {sI s s' : Shared} {B : Heap} {W : WX} {E : XK}
theorem noted_out {cenv : PySem.Env} {a : Addr} {cls : Value} {d : Option Addr} {m : Str → Option Value} (tk : Takes X W) (hs : X.stack = X.env :: X.outer) (hf : X.env.frame = some X.env.locals) (hcf : cenv.frame = X.env.frame)
    (I : Inv X pins σ H sI) (nb : ∀ b o, sI.heap.get? b = some o → b ∉ frs X.stack → B.get? b = some o) (up : sI.heap.UpToSlots s'.heap) (sky : Sky B X.stack a (Zc cls d) X.env.locals s'.heap) (na : H a = none) (os : s'.os = sI.os) (ag : AllBare s'.gens) (w : W cls d σ H)
    (hn : sI.heap.Ns cenv.locals m) (f : FpOk X pins H cenv.locals) : notedBy (model X.prog X.w) X.A cenv (CompFails (model X.prog X.w) X.A X.xe cenv) (.ref a) s' := by
  show wpAny _ _ (noteFrame (.ref a) cenv) _ _ s'
  rw [noteFrame_env _ hcf]
  have hfr : X.A.frames = some (X.env :: X.outer) := by rw [I.ok.frames, hs]
  obtain ⟨f0, fL, ff, f3, f4, f5⟩ := f
  have hCs : cenv.locals ∉ frs X.stack := fun hm => by
    rcases List.mem_cons.mp (I.stkSub _ hm) with z | z
    · exact fL z
    · exact ff z
  have hnB : B.Ns cenv.locals m := by
    obtain ⟨oL, es, ep, hoL, r⟩ := hn
    exact ⟨oL, es, ep, nb _ _ hoL hCs, r⟩
  have fin : ∀ h1, HandSPX.HeldZ B X.stack a (Zc cls d) X.env.locals h1 → s'.heap.UpToSlots h1 → CompFails (model X.prog X.w) X.A X.xe cenv (.ref a) { s' with heap := h1 } := by
    intro h1 ⟨b1, b0, f1, t1⟩ up1
    have hn1 : h1.Ns cenv.locals m := by
      obtain ⟨oL, es, ep, hoL, r⟩ := hnB
      exact ⟨oL, es, ep, b1 _ _ hoL, r⟩
    refine ⟨m, hn1, fun h2 m2 hn2 sb => ?_⟩
    obtain ⟨oB, _, _, hoB, _⟩ := id hnB
    obtain ⟨G, g1, g2⟩ := restrict h2 fun b => (B.get? b).isSome
    have gn : ∀ b, B.get? b = none → G.get? b = none := fun b e => g2 b (by rw [e]; rfl)
    have gs : ∀ b o, B.get? b = some o → G.get? b = h2.get? b := fun b o e => g1 b (by rw [e]; rfl)
    have GS : G.StaysIn h2 := fun b o e => by
      cases q : B.get? b with
      | none => rw [gn b q] at e; cases e
      | some o' => rw [gs b o' q] at e; exact e
    have f2 : h2.FunFrames G X.stack := funFrames_none (Heap.FunFrames.sameBut sb hn2 f1) fun L hL => gn L (f1.mem hL).1
    obtain ⟨oe, vs, T, oT, ts, he, hz, hd, ho1, hnT, hTe, hT, hdT, ht3⟩ := t1
    have aC : a ≠ cenv.locals := fun z => by rw [z, hoB] at b0; cases b0
    have TC : T ≠ cenv.locals := fun z => by rw [z, hoB] at hnT; cases hnT
    have he2 : h2.get? a = some oe := (sb.2 a aC).trans he
    have t2 : HandSPX.TracedZ h2 G a (Zc cls d) (rawInt X.env.locals) := ⟨oe, vs, T, oT, ts, he2, hz, hd, ho1, gn T hnT, hTe, (sb.2 T TC).trans hT, hdT, ht3⟩
    unfold PySem.passOn
    refine wpAny_bind (wpAny_field (s := { s' with heap := h2 }) he2 hd ho1 ?_)
    rw [if_neg (show ¬ ((Value.ref T == Value.none) = true) from by simp)]
    rw [hcf, hf]
    refine wpAny_bind (HandSPX.setFlight_anyZ (s := { s' with heap := h2 }) (l := X.stack) GS f2 t2 fun h3 b3 f3' t3 k3 => wpAny_throw ?_)
    -- the ground without the block
    obtain ⟨oC, esC, epC, hoC, hdC⟩ := hn
    obtain ⟨o2, es2, ep2, ho2, hd2⟩ := hn2
    have gC : (sI.heap.update cenv.locals fun _ => o2).get? cenv.locals = some o2 := Heap.get?_update_self (fun _ => o2) hoC (by
      obtain ⟨c0, d0, dt0, sl0⟩ := o2
      have z : dt0 = _ := hd2.1
      subst z
      rfl)
    have gO : ∀ b, b ≠ cenv.locals → (sI.heap.update cenv.locals fun _ => o2).get? b = sI.heap.get? b := fun b hb => Heap.get?_update_other _ _ (Ne.symm hb)
    refine tk _ _ ⟨a, G, { sI with heap := sI.heap.update cenv.locals fun _ => o2 }, pins, σ, H, cls, d, rfl, I.turned (t' := sI.toks) (fun b o hb e => (gO b hb).trans e) f0 fL f3 f4 f5, fun b o e hb => ?_, fun b o e hnf => ?_, .inr (.inr ⟨b3, gn a b0, f3', t3⟩), na, os, ag, w⟩
    · by_cases z : b = cenv.locals
      · subst z
        have e : (sI.heap.update cenv.locals fun _ => o2).get? cenv.locals = some o := e
        rw [gC] at e
        cases e
        rw [gs _ _ hoB]
        exact ho2
      · have e : (sI.heap.update cenv.locals fun _ => o2).get? b = some o := e
        rw [gO b z] at e
        have q := nb b o e hb
        rw [gs b o q]
        exact (sb.2 b z).trans (b1 b o q)
    · by_cases z : b = cenv.locals
      · subst z
        have e : (sI.heap.update cenv.locals fun _ => o2).get? cenv.locals = some o := e
        rw [gC] at e
        cases e
        exact k3 _ _ ho2 hnf
      · have e : (sI.heap.update cenv.locals fun _ => o2).get? b = some o := e
        rw [gO b z] at e
        obtain ⟨sl1, e1⟩ := up b o e hnf
        obtain ⟨sl2, e2⟩ := up1 b _ e1 hnf
        have e2' : h2.get? b = some { o with slots := sl2 } := (sb.2 b z).trans e2
        obtain ⟨sl3, e3⟩ := k3 b _ e2' hnf
        exact ⟨sl3, e3⟩
  rw [hs] at sky fin
  rcases sky with ⟨hB, hne, hl, oe, vs, he, hz, hd, h1⟩ | fl | hh
  · exact HandSPX.look_newZ Zc.steady hfr hl hf he hB hne hd h1 hz fin
  · exact HandSPX.looks_onZ Zc.steady hfr hf fl fin
  · exact HandSPX.againZ hf hh.2.2.2 (fin s'.heap hh (Heap.UpToSlots.refl _))
/-- a call in the block: its exception goes out of the block -/
theorem blk_passes {scope : Scope} {cenv : PySem.Env} {fp : List Addr} {H3 : Hp} {s3 : Shared} {σb : L2.St} (tk : Takes X W) (hW : ∀ c d σ σ' H, W c d σ H → W c d σ' H) (hs : X.stack = X.env :: X.outer) (hf : X.env.frame = some X.env.locals) (hcf : cenv.frame = X.env.frame)
    (I3 : Inv X pins σ H3 s3) (hC : s3.heap.objs.size ≤ cenv.locals) (hfp : ∀ b ∈ fp, FpOk X pins H3 b) :
    PassesAt (L2.CX X.prog X.w) ((X.blk s3 H3 scope cenv fp).tr [] (notedBy (model X.prog X.w) X.A cenv (CompFails (model X.prog X.w) X.A X.xe cenv))) σb (WE W σb) := by
  intro pinsb Hb s e s' J c
  have I : Inv X pins σ Hb s := I3.call' (ch := fp) J.os J.base J.hok J.bare fun b hb => ⟨(hfp b hb).2.2.2.1, (hfp b hb).2.1, (hfp b hb).2.2.2.2.1, (hfp b hb).2.2.2.2.2⟩
  have JF : Hb cenv.locals = none := J.free
  obtain ⟨m, hn, _⟩ := J.loc
  have hn : s.heap.Ns cenv.locals m := hn
  have c : L2.CX X.prog X.w X.stack Hb s (WE W σb) e s' := c
  obtain ⟨a, B, H', cls, d, rfl, fl, hok, ub, na, os, ag, hE⟩ := c
  obtain ⟨oC, esC, epC, hoC, rC⟩ := id hn
  have fC : FpOk X pins H' cenv.locals := I3.fpOk hC (ub.free _ _ hoC JF)
  have hCs : cenv.locals ∉ frs X.stack := fun hm => by
    rcases List.mem_cons.mp (I.stkSub _ hm) with z | z
    · exact fC.2.1 z
    · exact fC.2.2.1 z
  obtain ⟨G, g1, g2⟩ := restrict s'.heap fun b => (B.get? b).isSome || decide (b ∈ frs X.stack)
  have st : B.StaysIn s'.heap := fl.1
  have gB : ∀ b o, B.get? b = some o → G.get? b = some o := fun b o e => by
    rw [g1 b (by simp [e])]
    exact st b o e
  have gF : ∀ b, b ∈ frs X.stack → G.get? b = s'.heap.get? b := fun b hb => g1 b (by simp [hb])
  have og : ∀ b o, G.get? b = some o → s'.heap.get? b = some o ∧ ((B.get? b).isSome = true ∨ b ∈ frs X.stack) := fun b o e => by
    cases q : ((B.get? b).isSome || decide (b ∈ frs X.stack)) with
    | false => rw [g2 b q] at e; cases e
    | true =>
      rw [g1 b q] at e
      exact ⟨e, by simpa [Bool.or_eq_true] using q⟩
  refine noted_out (sI := { s with heap := G, gens := s'.gens, drawn := s'.drawn, toks := s'.toks }) (B := B) (pins := pins) (σ := σ) (H := H') (m := m) tk hs hf hcf ?_ (fun b o e hb => ?_) (Heap.UpToSlots.of_keeps fun b o e => (og b o e).1) (.inr (.inl fl)) na os ag (hW _ _ _ _ _ hE) ?_ fC
  · refine I.call (ch := []) ⟨fun b o e n hb _ => gB b o (ub.keep b o e n hb), fun b o e n hb _ => ?_, fun b o e n _ => ub.free b o e n, fun b o e _ => ?_, ub.tups, ub.frzs, ub.tbls⟩ (hok.kept gB) ag (fun _ z => nomatch z)
    · obtain ⟨sl, q⟩ := ub.slot b o e hb
      exact ⟨sl, by rw [gF b hb]; exact q⟩
    · by_cases hb : b ∈ frs X.stack
      · obtain ⟨sl, q⟩ := ub.slot b o e hb
        exact ⟨_, by rw [gF b hb]; exact q⟩
      · obtain ⟨o', q⟩ := ub.there b o e hb
        exact ⟨o', gB b o' q⟩
  · obtain ⟨e', h⟩ := og b o e
    rcases h with h | h
    · obtain ⟨o', q⟩ := Option.isSome_iff_exists.mp h
      have z := st b o' q
      rw [e'] at z; cases z
      exact q
    · exact absurd h hb
  · exact ⟨oC, esC, epC, gB _ _ (ub.keep _ _ hoC JF hCs), rC⟩
end
theorem Inv.tr0 {X : Cx} {pins : List (Addr × Obj)} {σ : L2.St} {H : Hp} {s : Shared} (I : Inv X pins σ H s) (xe : Value → Shared → Prop) (h : X.pn = []) : Inv (X.tr [] xe) pins σ H s :=
  ⟨I.ok.toTry [] xe, I.os, I.bare, I.base, I.loc, I.cell, I.free, I.freeC, fun p hp => I.pin p (by rw [h]; exact hp), I.hok, I.len⟩
theorem Inv.tr0' {X : Cx} {pins : List (Addr × Obj)} {σ : L2.St} {H : Hp} {s : Shared} {xe : Value → Shared → Prop} (I : Inv (X.tr [] xe) pins σ H s) (h : X.pn = []) : Inv X pins σ H s :=
  ⟨I.ok.ofTry, I.os, I.bare, I.base, I.loc, I.cell, I.free, I.freeC, fun p hp => I.pin p (by rw [h] at hp; exact hp), I.hok, I.len⟩

section
variable {X : Cx}
/-- a list comprehension whose element may raise; what its element may let out is told by W, which asks nothing of the slots -/
theorem lc_coreX {W : WX} {pins : List (Addr × Obj)} {s : Shared} {σ : L2.St} {H : Hp} {Q : VK} {elt tg iter : Expr} {ifs : List Expr} {scope : Scope} {own : List (Str × Nat)} {pos pos' : Pos} {wi : TI} {g : TG} {tt : TT} {te : TE} {use : Option (Value → Sem Unit)} {Qf : Value → Shared → Prop}
    (tk : Takes X W) (hW : ∀ c d σ σ' H, W c d σ H → W c d σ' H) (hst : X.stack = X.env :: X.outer) (hf : X.env.frame = some X.env.locals)
    (hc : X.calm = true) (hN : X.N.Nodup) (I : Inv X pins σ H s) (hi : PI X tg iter wi) (ok : BlkOk X.N X.env.scope scope own)
    (hg : ∀ (s : Shared) (H : Hp) (C : Addr) (cl : List (Str × Addr)) (fp : List Addr), PG (X.blk s H scope (compEnvC scope cl C X.env) fp) tg g) (ht : ∀ (s : Shared) (H : Hp) (C : Addr) (cl : List (Str × Addr)) (fp : List Addr), PTs (X.blk s H scope (compEnvC scope cl C X.env) fp) ifs tt)
    (he : ∀ (s : Shared) (H : Hp) (C : Addr) (cl : List (Str × Addr)) (fp : List Addr) (xe : Value → Shared → Prop), (∀ σ, PassesAt (L2.CX X.prog X.w) ((X.blk s H scope (compEnvC scope cl C X.env) fp).tr [] xe) σ (WE W σ)) → PE ((X.blk s H scope (compEnvC scope cl C X.env) fp).tr [] xe) elt te) (hs : ∀ x, foldedSetIterable iter X.env x = pure x)
    (h : tLc wi g tt te (own.map (·.2)) σ H Q)
    (hRR : ∀ (D : Addr) (ce : PySem.Env) s' m H', Inv X pins σ H' s' → Q (.ref D) H' → s'.heap.Ns ce.locals m → FpOk X pins H' ce.locals → compEnds (model X.prog X.w) X.A X.xe use Qf (.ref D) ce (.ok .next) s') :
    wpAny (model X.prog X.w) X.A (comprehension (.ListComp elt [⟨tg, iter, ifs, 0⟩] scope pos) scope X.env pos' (newList []) false (eval iter X.env) use) Qf X.xe s := by
  have hfree : ∀ y ∈ scope.names, y.2 = .free → ∃ c, X.env.cells.lookup y.1 = some c := fun y hy e => by
    rcases ok.free y hy e with k | k
    · exact I.ok.has _ (.inl k)
    · exact I.ok.has _ (.inr k)
  refine comprehension_at (use := use) rfl hs (closure_ok hfree) ok.kind (fun y hy e => by rw [ok.uniq y hy, e])
    (thn (hi.run pins s σ H _ I h) fun xv s1 hx => thn hx fun itv s2 h2 => ?_)
  obtain ⟨it, fp, tn, J, H2, e, I2, T, st2, f2, q⟩ := h2
  subst e
  refine wpAny_newObj_type (newEnv_comp ?_) (by show 0 ≤ sizeLine; decide)
  generalize hD : s2.heap.objs.size = D
  have hDn : H2 D = none := I2.hok.fresh (Nat.le_of_eq hD)
  obtain ⟨W', ⟨m0, w0⟩, turn⟩ := q D hDn
  generalize hs3 : ({ s2 with heap := s2.heap.push { cls := .type "list", data := .seq ([] : List Value).toArray } } : Shared) = s3
  have I3 : Inv X pins σ (upd H2 D (.lst [])) s3 := by
    rw [← hs3]
    refine I2.laid (t' := s2.toks) (fun b o e => Heap.get?_push_of_some _ e) (Nat.le_of_eq hD) ⟨Nat.zero_le _, [], 0, .nil, ?_⟩
    rw [← hD]
    exact Heap.get?_push_size _ rfl
  have h3 : s3.heap = s2.heap.push { cls := .type "list", data := .seq ([] : List Value).toArray } := by rw [← hs3]
  have sz : ∀ b ∈ fp, b < s2.heap.objs.size := fun b hb => by
    obtain ⟨o, e, _⟩ := T.obj _ _ st2 b hb
    exact Heap.lt_size e
  have f3 : ∀ b ∈ fp, FpOk X pins (upd H2 D (.lst [])) b ∧ b < s3.heap.objs.size := fun b hb => by
    have hlt := sz b hb
    refine ⟨⟨?_, (f2 b hb).2⟩, by rw [h3, Heap.size_push]; exact Nat.lt_succ_of_lt hlt⟩
    rw [upd_ne (by rw [← hD]; exact Nat.ne_of_lt hlt)]
    exact (f2 b hb).1
  have st3 : tn 0 s3.heap := T.keep _ _ _ st2 fun b _ o e => by rw [h3]; exact Heap.get?_push_of_some _ e
  have I4 := block_start I3 ok hN f3
  have pg := hg s3 (upd H2 D (.lst [])) s3.heap.objs.size (cellsFrom (s3.heap.objs.size + 1) scope.names (cloFrom X.env.cells scope.names [])) fp
  have pt := ht s3 (upd H2 D (.lst [])) s3.heap.objs.size (cellsFrom (s3.heap.objs.size + 1) scope.names (cloFrom X.env.cells scope.names [])) fp
  have pe := he s3 (upd H2 D (.lst [])) s3.heap.objs.size (cellsFrom (s3.heap.objs.size + 1) scope.names (cloFrom X.env.cells scope.names [])) fp _
    (fun σb => blk_passes (scope := scope) (σb := σb) tk hW hst hf (cenv := compEnvC scope (cellsFrom (s3.heap.objs.size + 1) scope.names (cloFrom X.env.cells scope.names [])) s3.heap.objs.size X.env) rfl I3 (Nat.le_refl _) fun b hb => (f3 b hb).1)
  show codeAny _ _ (.compStart (.ListComp elt [⟨tg, iter, ifs, 0⟩] scope pos) 0 (.ref it) (.ref D) (compEnvC scope (cellsFrom (s3.heap.objs.size + 1) scope.names (cloFrom X.env.cells scope.names [])) s3.heap.objs.size X.env)) (compEnds (model X.prog X.w) X.A X.xe use Qf (.ref D) (compEnvC scope (cellsFrom (s3.heap.objs.size + 1) scope.names (cloFrom X.env.cells scope.names [])) s3.heap.objs.size X.env)) { s3 with heap := pushCells (s3.heap.push { cls := .type "dict", data := .dict #[] }) scope.names }
  have nfp : ∀ b ∈ fp, (upd H2 D (.lst [])) b = none := fun b hb => (f3 b hb).1.1
  generalize hce : compEnvC scope (cellsFrom (s3.heap.objs.size + 1) scope.names (cloFrom X.env.cells scope.names [])) s3.heap.objs.size X.env = ce at I4 pg pt pe ⊢
  have cL : ce.locals = s3.heap.objs.size := by subst hce; rfl
  generalize hH3 : upd H2 D (.lst []) = H3 at I3 I4 pg pt pe w0 nfp f3
  generalize hs4 : ({ s3 with heap := pushCells (s3.heap.push { cls := .type "dict", data := .dict #[] }) scope.names } : Shared) = s4 at I4 ⊢
  have st4 : tn 0 s4.heap := T.keep _ _ _ st3 fun b _ o e => by rw [← hs4]; exact pushCells_keeps _ _ _ _ (Heap.get?_push_of_some _ e)
  have stat : ∀ {σ' : L2.St} {H' : Hp} {s' : Shared}, Inv (X.blk s3 H3 scope ce fp) [] σ' H' s' → (∀ b ∈ fp, H' b = none) → ∀ b ∈ fp, FpOk (X.blk s3 H3 scope ce fp) [] H' b := fun {σ' H' s'} I' hn b hb =>
    ⟨hn b hb, (I'.ok.exf b hb).1, I'.ok.exfs b hb, .inl hb, fun x c e => (I'.ok.exf b hb).2 x c e, fun p hp => absurd (show p ∈ ([] : List (Addr × Obj)) ++ [] from hp) (by simp)⟩
  have loop : codeAny (model X.prog X.w) X.A (.compLoop (.ListComp elt [⟨tg, iter, ifs, 0⟩] scope pos) 0 (.ref it) (.ref D) ce) (compEnds (model X.prog X.w) X.A X.xe use Qf (.ref D) ce) s4 := by
    refine compLoop_any (fun n s' => ∃ i H', Inv (X.blk s3 H3 scope ce fp) [] (wipe σ (own.map (·.2))) H' s' ∧ tn i s'.heap ∧ (∀ b ∈ fp, H' b = none) ∧ W' i n H') ?_ m0 ⟨0, H3, I4, st4, nfp, w0⟩
    rintro n s5 ⟨i, H5, I5, st5, n5, w5⟩
    rcases turn i n H5 w5 with ⟨stop, qq⟩ | ⟨go, Nx, hNx, step⟩
    · have td := T.done (X.blk s3 H3 scope ce fp) rfl rfl rfl hc i [] s5 _ H5 (fun _ _ => False) I5 (stat I5 n5) st5 stop
      refine thnF td fun r s6 ⟨hr, I6⟩ => ?_
      subst hr
      have I7 : Inv X pins σ H5 s6 := I3.call' (ch := fp) I6.os I6.base I6.hok I6.bare fun b hb => ⟨(f3 b hb).1.2.2.2.1, (f3 b hb).1.2.1, (f3 b hb).1.2.2.2.2.1, (f3 b hb).1.2.2.2.2.2⟩
      have nC : H5 ce.locals = none := I6.free
      obtain ⟨m, hn, _⟩ := I6.loc
      exact hRR D ce s6 m H5 I7 qq hn (by rw [cL] at nC ⊢; exact I3.fpOk (Nat.le_refl _) nC)
    · have ti := T.item (X.blk s3 H3 scope ce fp) rfl rfl rfl hc i [] s5 _ H5 (fun _ _ => False) I5 (stat I5 n5) st5 go
      refine thnF ti fun r s6 ⟨u, hr, h6⟩ => ?_
      subst hr
      refine thnF h6 fun _ s7 ⟨x, H7, I7, r7, y7, st7, n7⟩ => ?_
      have I7' := I7.pinned (stat I7 n7) (T.obj _ _ st7)
      refine thnF (pg.run _ s7 _ H7 x u _ I7' r7 (step x H7 y7)) fun _ s8 ⟨σ8, H8, I8, hw8, q8⟩ => ?_
      refine thnF (pt.run _ s8 σ8 H8 _ I8 q8) fun b s9 ⟨H9, I9, q9⟩ => ?_
      have fin : ∀ {s' : Shared} {H' : Hp}, Inv (X.blk s3 H3 scope ce fp) ([] ++ pinsAt fp s7.heap) σ8 H' s' → Nx H' → ∃ m, m < n ∧ ∃ i H', Inv (X.blk s3 H3 scope ce fp) [] (wipe σ (own.map (·.2))) H' s' ∧ tn i s'.heap ∧ (∀ b ∈ fp, H' b = none) ∧ W' i m H' := fun {s' H'} I' nx => by
        obtain ⟨m', hm, w'⟩ := hNx H' nx
        have pin' : ∀ b ∈ fp, ∀ o, s7.heap.get? b = some o → s'.heap.get? b = some o ∧ H' b = none := fun b hb o e =>
          let z := I'.pin (b, o) (List.mem_append_right _ (List.mem_append_right _ (mem_pinsAt hb e)))
          ⟨z.1, z.2.1⟩
        have hl : (wipe σ (own.map (·.2))).length = σ8.length := by rw [← hw8, wipe_length]
        refine ⟨m', hm, i + 1, H', (I'.unpinned (pins := [])).weak hl (fun j v e => ?_), T.keep _ _ _ st7 fun b hb o e => (pin' b hb o e).1, fun b hb => ?_, w'⟩
        · rw [← hw8] at e
          exact (wipe_some e).1
        · obtain ⟨o, e, _⟩ := T.obj _ _ st7 b hb
          exact (pin' b hb o e).2
      cases b with
      | false =>
        simp only [Bool.false_eq_true, if_false] at q9 ⊢
        exact fin I9 q9
      | true =>
        simp only [if_true] at q9 ⊢
        refine wpAny_mono (pe.run _ s9 σ8 H9 _ (Inv.tr0 I9 _ rfl) q9) (fun z s10 ⟨yv, H10, I10, r10, acc, hD10, hz10, nx⟩ => ?_) (fun u s10 z => ?_)
        · exact app_ok (X := X.blk s3 H3 scope ce fp) (Inv.tr0' I10 rfl) hD10 hz10 r10 fun s11 I11 => fin I11 nx
        · have eq : (fun e s' => compEnds (model X.prog X.w) X.A X.xe use Qf (.ref D) ce (.error e) s') = CompFails (model X.prog X.w) X.A X.xe ce := by cases use <;> rfl
          rw [eq]
          subst hce
          exact z
  exact codeAny_compStart_list loop (T.self X.A 0 _ _ _ st4 loop)
theorem pe_lcX {W : WX} {elt tg iter : Expr} {ifs : List Expr} {scope : Scope} {own : List (Str × Nat)} {pos : Pos} {wi : TI} {g : TG} {tt : TT} {te : TE} (tk : Takes X W) (hW : ∀ c d σ σ' H, W c d σ H → W c d σ' H) (hst : X.stack = X.env :: X.outer) (hf : X.env.frame = some X.env.locals) (hc : X.calm = true) (hN : X.N.Nodup) (hi : PI X tg iter wi) (ok : BlkOk X.N X.env.scope scope own)
    (hg : ∀ (s : Shared) (H : Hp) (C : Addr) (cl : List (Str × Addr)) (fp : List Addr), PG (X.blk s H scope (compEnvC scope cl C X.env) fp) tg g) (ht : ∀ (s : Shared) (H : Hp) (C : Addr) (cl : List (Str × Addr)) (fp : List Addr), PTs (X.blk s H scope (compEnvC scope cl C X.env) fp) ifs tt)
    (he : ∀ (s : Shared) (H : Hp) (C : Addr) (cl : List (Str × Addr)) (fp : List Addr) (xe : Value → Shared → Prop), (∀ σ, PassesAt (L2.CX X.prog X.w) ((X.blk s H scope (compEnvC scope cl C X.env) fp).tr [] xe) σ (WE W σ)) → PE ((X.blk s H scope (compEnvC scope cl C X.env) fp).tr [] xe) elt te) (hs : ∀ x, foldedSetIterable iter X.env x = pure x) :
    PE X (.ListComp elt [⟨tg, iter, ifs, 0⟩] scope pos) (tLc wi g tt te (own.map (·.2))) := by
  refine ⟨fun pins s σ H Q I h => ?_⟩
  rw [eval_ListComp]
  refine lc_coreX tk hW hst hf hc hN I hi ok hg ht he hs h fun D C s' m H' I' q hn f => ⟨m, hn, fun h'' sb => ?_⟩
  obtain ⟨f0, f1, f2, f3, f4, f5⟩ := f
  exact ⟨.ref D, H', I'.turned (t' := s'.toks) (fun b o hb e => (sb.2 b hb).trans e) f0 f1 f3 f4 f5, rfl, q⟩
theorem ps_setLcX {W : WX} {i : Nat} {y : Str} {py : Pos} {elt tg iter : Expr} {ifs : List Expr} {scope : Scope} {own : List (Str × Nat)} {pos spos : Pos} {wi : TI} {g : TG} {tt : TT} {te : TE} (tk : Takes X W) (hW : ∀ c d σ σ' H, W c d σ H → W c d σ' H) (hst : X.stack = X.env :: X.outer) (hf : X.env.frame = some X.env.locals) (hc : X.calm = true) (hN : X.N.Nodup) (hy : X.N[i]? = some y) (hyl : X.env.scope.names.lookup y = some .local)
    (hsw : swapsWith (.ListComp elt [⟨tg, iter, ifs, 0⟩] scope pos) (some (.Name y py)) spos.line X.env = pure true) (hi : PI X tg iter wi) (ok : BlkOk X.N X.env.scope scope own)
    (hg : ∀ (s : Shared) (H : Hp) (C : Addr) (cl : List (Str × Addr)) (fp : List Addr), PG (X.blk s H scope (compEnvC scope cl C X.env) fp) tg g) (ht : ∀ (s : Shared) (H : Hp) (C : Addr) (cl : List (Str × Addr)) (fp : List Addr), PTs (X.blk s H scope (compEnvC scope cl C X.env) fp) ifs tt)
    (he : ∀ (s : Shared) (H : Hp) (C : Addr) (cl : List (Str × Addr)) (fp : List Addr) (xe : Value → Shared → Prop), (∀ σ, PassesAt (L2.CX X.prog X.w) ((X.blk s H scope (compEnvC scope cl C X.env) fp).tr [] xe) σ (WE W σ)) → PE ((X.blk s H scope (compEnvC scope cl C X.env) fp).tr [] xe) elt te) (hs : ∀ x, foldedSetIterable iter X.env x = pure x) :
    PS X (.Assign [.Name y py] (.ListComp elt [⟨tg, iter, ifs, 0⟩] scope pos) spos) (tAsg (tLc wi g tt te (own.map (·.2))) (gName i)) := by
  refine ⟨fun pins s σ H D I h => ?_⟩
  rw [exec_Assign_Name_used _ _ _ _ hsw]
  refine wpAny_bind (wpAny_standAt (wpAny_bind ?_))
  show wpAny _ X.A (do let _ ← comprehension (.ListComp elt [⟨tg, iter, ifs, 0⟩] scope pos) scope X.env (firstIterPos [⟨tg, iter, ifs, 0⟩] pos) (newList []) false (eval iter X.env) (some (assign (.Name y py) X.env))) _ _ s
  have h : tLc wi g tt te (own.map (·.2)) σ H (fun x H1 => gName i x σ H1 D.nx) := h
  refine wpAny_bind (thn (lc_coreX (Qf := fun _ s' => SP X pins D .next s') tk hW hst hf hc hN I hi ok hg ht he hs h fun L ce s' m H' I' q hn f => ?_) fun _ s' hq => wpAny_pure (wpAny_pure hq))
  show wpAny _ _ (assign (.Name y py) X.env (.ref L)) _ _ _
  refine wpAny_assign_Name (store_ok2 (v := V.ref L) I' hN hy (.inl hyl) rfl (fun s2 I2 ⟨a, sb, ha⟩ => ?_) (.inr hyl))
  obtain ⟨f0, f1, f2, f3, f4, f5⟩ := f
  have haC : ce.locals ≠ a := by
    rcases ha with z | z
    · rw [z]; exact f1
    · exact fun e => f4 y a z e.symm
  refine ⟨m, hn.sameBut sb haC, fun h3 sb3 => ?_⟩
  exact ⟨_, H', I2.turned (t' := s2.toks) (fun b o hb e => (sb3.2 b hb).trans e) f0 f1 f3 f4 f5, q⟩
end
section
variable {K : PySem.W.Frag} {mg : Str → Option Value} {W : Am K}
theorem rd_lcX (hW : ∀ c d σ σ' H, W.w c d σ H → W.w c d σ' H) {wi : TI} {mi : MA} {g : TG} {gm : D → Env → Option Env} {tt : TT} {mt : MB} {te : TE} {me : ME} {own : List Nat} (hi : RdI K mg W wi mi) (hg : RdG K own g gm) (ht : RdB K mg (W.to Wn) tt mt) (he : RdE K mg W te me) :
    RdF K mg W (tLc wi g tt te own) (vLcX mi gm mt me own) where
  run := fun G hG B H σ e Q S q => by
    refine hi.run G hG B H σ e _ S (Po.bind q fun ds e1 J B1 H1 S1 s1 it h1 => fun D' hD => ?_)
    have S1w : Sto K G B1 H1 (wipe σ own) (wipeE e1 own) := S1.chg (tch_wipe σ own)
    refine ⟨fun i m H' => m = ds.length - i ∧ ∃ e' B' acc vs, Sto K G B' H' (wipe σ own) e' ∧ Same B1 B' ∧ H' D' = some (.lst vs) ∧ B' D' = none ∧ ¬ Owned (wipe σ own) e' D' ∧ Reps K B' vs acc ∧ Po K mg W (rpF K) G σ B1 Q (lcLX gm mt me own (ds.drop i) acc e'),
      ⟨_, rfl, wipeE e1 own, B1, [], [], S1w.loose hD, Same.refl B1, upd_same, same_none S1.sub hD, not_owned_new S1w hD, .nil, h1⟩, ?_⟩
    rintro i m H2 ⟨rfl, e2, B2, acc, vs, S2, s2, hD2, bD2, nD2, ra, h2⟩
    have gD : G.H D' = none := S1.fresh hD
    obtain ⟨hgo, hstop⟩ := it i B2 H2 s2 S2.sub
    cases z : ds[i]? with
    | none =>
      have hl : ds.length ≤ i := List.getElem?_eq_none_iff.mp z
      rw [List.drop_eq_nil_of_le hl] at h2
      have S3 : Sto K G B2 H2 σ (wipeE e2 own) := S2.chg (tch_wipe σ own).symm
      refine .inl ⟨hstop z, h2 (.ref D') B2 H2 S3 s2 ⟨D', vs, rfl, hD2, bD2, gD, fun ⟨j, b, es, q1, q2⟩ => ?_, ra⟩⟩
      by_cases qj : j ∈ own
      · have w := wipeE_get.2.1 _ qj q1; cases w
      · rw [wipeE_get.1 qj] at q1
        exact nD2 ⟨j, b, es, q1, by rw [wipe_out qj]; exact q2⟩
    | some d =>
      have hl : i < ds.length := (List.getElem?_eq_some_iff.mp z).1
      have hd : ds.drop i = d :: ds.drop (i + 1) := by
        rw [List.drop_eq_getElem_cons hl]
        have : ds[i] = d := (List.getElem?_eq_some_iff.mp z).2
        rw [this]
      rw [hd] at h2
      obtain ⟨go, yl⟩ := hgo d z
      refine .inr ⟨go, fun H' => ∃ e' B' acc vs, Sto K G B' H' (wipe σ own) e' ∧ Same B1 B' ∧ H' D' = some (.lst vs) ∧ B' D' = none ∧ ¬ Owned (wipe σ own) e' D' ∧ Reps K B' vs acc ∧ Po K mg W (rpF K) G σ B1 Q (lcLX gm mt me own (ds.drop (i + 1)) acc e'),
        fun H' ⟨e', B', acc', vs', q1⟩ => ⟨ds.length - (i + 1), by omega, rfl, e', B', acc', vs', q1⟩, fun x H3 hy => ?_⟩
      obtain ⟨B3, t1, t2, t3, t4, rx⟩ := yl x H3 hy
      have S3 : Sto K G B3 H3 (wipe σ own) e2 := S2.call t3 t1 t2 t4
      have s13 : Same B1 B3 := s2.trans t1
      have hD3 : H3 D' = some (.lst vs) := t3 _ _ hD2
      have bD3 : B3 D' = none := by
        cases w : B3 D' with
        | none => rfl
        | some o =>
          rcases t4 D' (by rw [w]; simp) with u | u
          · exact absurd bD2 u
          · rw [hD2] at u; cases u
      have nF : ¬ OwnF (wipe σ own) e2 D' := fun ⟨j, b, es, q1, q2⟩ => nD2 ⟨j, b, es, q1, q2⟩
      have rebD : (reb G B3 H3 (wipe σ own) e2).H D' = some (.lst vs) := (if_neg nF).trans hD3
      unfold lcLX at h2
      cases w : gm d e2 with
      | none => simp only [w] at h2; exact h2.elim
      | some e3 =>
        simp only [w] at h2
        refine hg _ B3 H3 (wipe σ own) e2 e3 x d _ S3.reb rx w fun σ4 S4 tc => ⟨wipe_of_tch tc, ?_⟩
        -- what stays apart
        have nio : D' ∉ G.io := fun q => S1.iom D' q gD
        have apart : ∀ {B5 H5 : Hp} {e5 : Env}, Sto K (reb G B3 H3 (wipe σ own) e2) B5 H5 σ4 e5 → H5 D' = some (.lst vs) ∧ B5 D' = none ∧ ¬ Owned (wipe σ own) (wipeE e5 own) D' := fun {B5 H5 e5} S5 => by
          refine ⟨S5.keep D' _ rebD nio, ?_, fun ⟨j, b, es, q1, q2⟩ => ?_⟩
          · cases u : B5 D' with
            | none => rfl
            | some o =>
              rcases S5.new D' (by rw [u]; simp) with v1 | v1
              · exact absurd bD3 v1
              · rw [rebD] at v1; cases v1
          · by_cases qj : j ∈ own
            · have u := wipeE_get.2.1 _ qj q1; cases u
            · rw [wipeE_get.1 qj] at q1
              rw [← tc.2 j qj] at q2
              obtain ⟨v1, e1', ok⟩ := S5.sl j _ q1
              rw [q2] at e1'
              cases e1'
              cases ok with
              | ow hb hg hh hr =>
                have hg : (reb G B3 H3 (wipe σ own) e2).H D' = none := hg
                rw [rebD] at hg; cases hg
        have home : ∀ {B5 H5 : Hp} {e5 : Env}, Sto K (reb G B3 H3 (wipe σ own) e2) B5 H5 σ4 e5 → Sto K G B5 H5 (wipe σ own) (wipeE e5 own) := fun {B5 H5 e5} S5 => (S3.unreb S5).chg tc.symm
        refine ht.run _ (W.reb G B3 H3 (wipe σ own) e2 hG S3) B3 H3 σ4 e3 _ S4 ?_
        cases u : mt e3 with
        | err x e4 => simp only [u, Res.bindN] at h2; exact h2.elim
        | bot => simp only [u, Res.bindN] at h2; exact h2.elim
        | ok kb e4 =>
          simp only [u, Res.bindN] at h2
          intro kb' B4 H4 S4' s4 rk
          have rk : kb' = kb := rk
          subst rk
          cases kb' with
          | false =>
            rw [if_neg Bool.false_ne_true] at h2 ⊢
            obtain ⟨a1, a2, a3⟩ := apart S4'
            exact ⟨wipeE e4 own, B4, acc, vs, home S4', s13.trans s4, a1, a2, a3, ra.mono (t1.trans s4), h2⟩
          | true =>
            rw [if_pos rfl] at h2 ⊢
            refine he.run _ (W.reb G B3 H3 (wipe σ own) e2 hG S3) B4 H4 σ4 e4 _ S4' ?_
            cases u2 : me e4 with
            | err x e5 =>
              simp only [u2] at h2
              intro cls dd B5 H5 S5 s5 rx5
              exact hW _ _ _ _ _ (h2 cls dd B5 H5 ((home S5).chg (tch_wipe σ own).symm) (s13.trans (s4.trans s5)) rx5)
            | bot => simp only [u2] at h2; exact h2.elim
            | ok xd e5 =>
              simp only [u2] at h2
              intro y B5 H5 S5 s5 ry
              obtain ⟨a1, a2, a3⟩ := apart S5
              have hl : acc.length < vmax := by
                by_cases hl : acc.length < vmax
                · exact hl
                · rw [if_neg hl] at h2; exact h2.elim
              rw [if_pos hl] at h2
              have ra5 : Reps K B5 vs acc := ra.mono ((t1.trans s4).trans s5)
              refine ⟨vs, a1, by rw [ra.length]; exact Nat.lt_of_lt_of_le hl vok, wipeE e5 own, B5, acc ++ [xd], vs ++ [y], (home S5).poke a2 gD fun j b es q1 q2 => a3 ⟨j, b, es, q1, q2⟩, s13.trans (s4.trans s5), upd_same, a2, a3, ra5.append (.cons ry .nil), h2⟩
end
/-- the contexts of a block whose element may raise -/
abbrev BkX {ι : Type} (X : ι → Cx) (W : WX) (scope : Scope) : Type := { p : (ι × Bk) × (Value → Shared → Prop) // ∀ σ, PassesAt (L2.CX (X p.1.1).prog (X p.1.1).w) ((blkF X scope p.1).tr [] p.2) σ (WE W σ) }
abbrev blkX {ι : Type} (X : ι → Cx) (W : WX) (scope : Scope) : BkX X W scope → Cx := fun p => (blkF X scope p.1.1).tr [] p.1.2
section
variable {ι : Type} {K : PySem.W.Frag} {mg : Str → Option Value} {X : ι → Cx} {W : Am K} {P : Program} {w : World} {base : Heap} {pos : Pos} {e : Expr} {es : List Expr} {ms : MA} {j k : Nat} {ps : List Str} {fn : List D → FR} {x : Str} {p : Pos} {it tg : Expr}
theorem ve_calP (o : Ok1 P w K mg x ps j (spV K mg fn)) (hr : ∀ i, Room k (X i).A) (pa : ∀ i σ, PassesAt (L2.CX (X i).prog (X i).w) (X i) σ (WE W.w σ)) (ha : VA K mg X W (e :: es) ms) (hX : IsX X P w K mg base := by intro _; exact ⟨rfl, rfl, rfl, rfl, rfl⟩) (hj : j ≤ k := by decide) (hg : ∀ i, Gl (X i) x := by intro _; rfl) (hdb : (x == ("__debug__" : Str)) = false := by decide)
    (he : ∀ i, starEach (e :: es) (X i).env = (false, eval e (X i).env) :: starEach es (X i).env := by intro _; rfl) (hpl : ∀ i, (backTo pos (starEach es (X i).env)).any (·.1) = false := by intro _; rfl) : VE K mg X W (.Call (.Name x p) (e :: es) [] pos) (vCall fn ms) :=
  let ⟨_, _, hm, kp, b, F⟩ := o; let ⟨_, p, r⟩ := ha; ⟨_, fun i => call_at (F base) (hX i) ((hr i).mono hj) (hg i) hm kp b.b (pa i) (p i) hdb (he i) (hpl i), rd_call r⟩
theorem vf_lcX {elt : Expr} {ifs : List Expr} {scope : Scope} {own : List (Str × Nat)} {mi : MA} {gm : D → Env → Option Env} {mt : MB} {me : ME} (tk : ∀ i, Takes (X i) W.w) (hW : ∀ c d σ σ' H, W.w c d σ H → W.w c d σ' H) (hst : ∀ j, (X j).stack = (X j).env :: (X j).outer) (hf : ∀ j, (X j).env.frame = some (X j).env.locals) (hc : ∀ j, (X j).calm = true) (hN : ∀ j, (X j).N.Nodup) (hi : VI K mg X W tg it mi) (ok : ∀ j, BlkOk (X j).N (X j).env.scope scope own)
    (hg : VG K (blkF X scope) (own.map (·.2)) tg gm) (ht : VTs K mg (blkF X scope) (W.to Wn) ifs mt) (he : VE K mg (blkX X W.w scope) W elt me) (hs : ∀ j x, foldedSetIterable it (X j).env x = pure x := by intro _ _; rfl) :
    VF K mg X W (.ListComp elt [⟨tg, it, ifs, 0⟩] scope pos) (vLcX mi gm mt me (own.map (·.2))) := by
  obtain ⟨wi, pi, ri⟩ := hi
  obtain ⟨g, pg, rg⟩ := hg
  obtain ⟨t, pt, rt⟩ := ht
  obtain ⟨te, pe, re⟩ := he
  exact ⟨_, fun i => pe_lcX (tk i) hW (hst i) (hf i) (hc i) (hN i) (pi i) (ok i) (fun s H C cl fp => pg (i, s, H, C, cl, fp)) (fun s H C cl fp => pt (i, s, H, C, cl, fp)) (fun s H C cl fp xe hx => pe ⟨((i, s, H, C, cl, fp), xe), hx⟩) (hs i), rd_lcX hW ri rg rt re⟩
end
section
variable {X : Cx} {W : Am X.K} {pos pos' : Pos} {x : Str} {it tg : Expr} {k : Bool}
theorem vs_setLcFX {elt : Expr} {ifs : List Expr} {scope : Scope} {own : List (Str × Nat)} {mi : MA} {gm : D → Env → Option Env} {mt : MB} {me : ME} {cpos : Pos} (i : Nat) (tk : Takes X W.w) (hW : ∀ c d σ σ' H, W.w c d σ H → W.w c d σ' H) (hst : X.stack = X.env :: X.outer) (hf : X.env.frame = some X.env.locals) (hc : X.calm = true) (hN : X.N.Nodup) (hi : VI X.K X.mg (at1 X) W tg it mi) (ok : BlkOk X.N X.env.scope scope own)
    (hg : VG X.K (blkF (at1 X) scope) (own.map (·.2)) tg gm) (ht : VTs X.K X.mg (blkF (at1 X) scope) (W.to Wn) ifs mt) (he : VE X.K X.mg (blkX (at1 X) W.w scope) W elt me)
    (hsw : swapsWith (.ListComp elt [⟨tg, it, ifs, 0⟩] scope cpos) (some (.Name x pos')) pos.line X.env = pure true) (hi' : X.N[i]? = some x := by rfl) (hyl : X.env.scope.names.lookup x = some .local := by rfl) (hs : ∀ x, foldedSetIterable it X.env x = pure x := by intro _; rfl) :
    VS X W k (.Assign [.Name x pos'] (.ListComp elt [⟨tg, it, ifs, 0⟩] scope cpos) pos) (vAsgF i (vLcX mi gm mt me (own.map (·.2)))) := by
  obtain ⟨wi, pi, ri⟩ := hi
  obtain ⟨g, pg, rg⟩ := hg
  obtain ⟨t, pt, rt⟩ := ht
  obtain ⟨te, pe, re⟩ := he
  exact ⟨_, ps_setLcX tk hW hst hf hc hN hi' hyl hsw (pi ()) ok (fun s H C cl fp => pg ((), s, H, C, cl, fp)) (fun s H C cl fp => pt ((), s, H, C, cl, fp)) (fun s H C cl fp xe hx => pe ⟨(((), s, H, C, cl, fp), xe), hx⟩) hs, rs_asgF (rd_lcX hW ri rg rt re)⟩
theorem vs_setLcX {elt : Expr} {ifs : List Expr} {scope : Scope} {own : List (Str × Nat)} {mi : MA} {gm : D → Env → Option Env} {mt : MB} {me : ME} {cpos : Pos} (i : Nat) (tk : Takes X W.w) (hW : ∀ c d σ σ' H, W.w c d σ H → W.w c d σ' H) (hst : X.stack = X.env :: X.outer) (hf : X.env.frame = some X.env.locals) (hc : X.calm = true) (hN : X.N.Nodup) (hi : VI X.K X.mg (at1 X) W tg it mi) (ok : BlkOk X.N X.env.scope scope own)
    (hg : VG X.K (blkF (at1 X) scope) (own.map (·.2)) tg gm) (ht : VTs X.K X.mg (blkF (at1 X) scope) (W.to Wn) ifs mt) (he : VE X.K X.mg (blkX (at1 X) W.w scope) W elt me)
    (hsw : swapsWith (.ListComp elt [⟨tg, it, ifs, 0⟩] scope cpos) (some (.Name x pos')) pos.line X.env = pure true) (hi' : X.N[i]? = some x := by rfl) (hyl : X.env.scope.names.lookup x = some .local := by rfl) (hs : ∀ x, foldedSetIterable it X.env x = pure x := by intro _; rfl) :
    VS X W k (.Assign [.Name x pos'] (.ListComp elt [⟨tg, it, ifs, 0⟩] scope cpos) pos) (vAsg (vOf (vLcX mi gm mt me (own.map (·.2)))) (gNam i)) := by
  obtain ⟨wi, pi, ri⟩ := hi
  obtain ⟨g, pg, rg⟩ := hg
  obtain ⟨t, pt, rt⟩ := ht
  obtain ⟨te, pe, re⟩ := he
  exact ⟨_, ps_setLcX tk hW hst hf hc hN hi' hyl hsw (pi ()) ok (fun s H C cl fp => pg ((), s, H, C, cl, fp)) (fun s H C cl fp => pt ((), s, H, C, cl, fp)) (fun s H C cl fp xe hx => pe ⟨(((), s, H, C, cl, fp), xe), hx⟩) hs, rs_asg (rd_of (rd_lcX hW ri rg rt re)) (rg_name i)⟩
end
end VL

namespace VL
open PySem PySem.Spec PyProof.Rows L2
def names0 : List Str := ["CutError", "NoNumber", "NoClip", "NoText"]
def bi0 : List String := []
def anc0 : Str → Str → Bool := ancOf [("CutError", ["CutError", "ValueError", "Exception", "BaseException", "object"]), ("NoNumber", ["NoNumber", "CutError", "ValueError", "Exception", "BaseException", "object"]), ("NoClip", ["NoClip", "CutError", "ValueError", "Exception", "BaseException", "object"]), ("NoText", ["NoText", "CutError", "ValueError", "Exception", "BaseException", "object"])]
def g_FIGURES : D := .str "0123456789"
def g_LETTERS : D := .str "abcdefghijklmnopqrstuvwxyz"
def g_MOST_FIGURES : D := .int 60
def g_MOST_LETTERS : D := .int 8
noncomputable section
/-- _law_part -/
def b__law_part : MS := (vSeq (vAsg (vOp opIx (vOf (vLstD (vCons (vTupD (vCons (vC (.int 1)) (vCons (vC (.int 1)) vNil))) (vCons (vTupD (vCons (vC (.int 1)) (vCons (vC (.int 2)) vNil))) (vCons (vTupD (vCons (vUn opNeg (vC (.int 1))) (vCons (vC (.int 1)) vNil))) (vCons (vTupD (vCons (vC (.int 0)) (vCons (vC (.int 1)) vNil))) (vCons (vTupD (vCons (vC (.int 7)) (vCons (vC (.int 3)) vNil))) (vCons (vTupD (vCons (vUn opNeg (vC (.int 30000))) (vCons (vC (.int 1001)) vNil))) vNil)))))))) (vOp opMod (vOp opFdiv (vVar 0) (vC (.int 5))) (vC (.int 6)))) (gNam 2))
    (vSeq (vAsg (vOp opIx (vOf (vLstD (vCons (vTupD (vCons (vC (.int 0)) (vCons (vC (.int 1)) vNil))) (vCons (vTupD (vCons (vOp opMod (vOp opFdiv (vVar 0) (vC (.int 30))) (vC (.int 90))) (vCons (vC (.int 1)) vNil))) (vCons (vTupD (vCons (vOp opAdd (vC (.int 1)) (vOp opMul (vC (.int 2)) (vOp opMod (vOp opFdiv (vVar 0) (vC (.int 30))) (vC (.int 90))))) (vCons (vC (.int 2)) vNil))) (vCons (vTupD (vCons (vUn opNeg (vC (.int 5))) (vCons (vC (.int 3)) vNil))) vNil)))))) (vOp opMod (vOp opFdiv (vVar 0) (vC (.int 30))) (vC (.int 4)))) (gNam 3))
    (vSeq (vAsg (vOp opIx (vOf (vLstD (vCons (vOp opAdd (vC (.int 1)) (vOp opMod (vOp opFdiv (vVar 0) (vC (.int 17))) (vC (.int 9)))) (vCons (vOp opAdd (vC (.int 1)) (vOp opMod (vOp opFdiv (vVar 0) (vC (.int 17))) (vC (.int 9)))) (vCons (vOp opAdd (vC (.int 1)) (vOp opMod (vVar 0) (vC (.int 5000)))) (vCons (vOp opAdd (vC (.int 1)) (vOp opMod (vOp opAdd (vOp opMul (vVar 1) (vC (.int 48271))) (vVar 0)) (vOp opPow (vC (.int 10)) (vC (.int 30))))) vNil)))))) (vOp opMod (vOp opFdiv (vVar 0) (vC (.int 11))) (vC (.int 4)))) (gNam 4))
    (vSeq (vIf (vTest (vOp opEq (vOp opMod (vVar 0) (vC (.int 5))) (vC (.int 0))))
    (vSeq (vRet (vTupD (vCons (vC (.str "gap")) (vCons (vVar 4) vNil))))
    vNext)
    vNext)
    (vSeq (vIf (vTest (vOp opEq (vOp opMod (vVar 0) (vC (.int 5))) (vC (.int 1))))
    (vSeq (vRet (vTupD (vCons (vC (.str "nest")) (vCons (vOp opIx (vOf (vLstD (vCons (vC (.str "t")) (vCons (vC (.str "other")) (vCons (vC (.str "zzzzzzzz")) vNil))))) (vOp opMod (vOp opFdiv (vVar 0) (vC (.int 7))) (vC (.int 3)))) (vCons (vOp opMod (vOp opFdiv (vVar 0) (vC (.int 19))) (vC (.int 50))) (vCons (vVar 4) vNil))))))
    vNext)
    vNext)
    (vSeq (vRet (vTupD (vCons (vC (.str "clip")) (vCons (vOp opIx (vOf (vLstD (vCons (vC (.str "a")) (vCons (vC (.str "reel")) (vCons (vC (.str "abcdefgh")) vNil))))) (vOp opMod (vOp opFdiv (vVar 0) (vC (.int 7))) (vC (.int 3)))) (vCons (vVar 3) (vCons (vVar 2) (vCons (vVar 4) vNil)))))))
    vNext))))))
def fn__law_part : List D → FR := runB 2 5 b__law_part
/-- _law_drawn -/
def b__law_drawn_1 : MS := (vSeq (vAsg (vOp opMod (vOp opAdd (vOp opAdd (vOp opAdd (vOp opMul (vVar 3) (vVar 3)) (vOp opMul (vC (.int 40692)) (vVar 3))) (vOp opMul (vC (.int 2)) (vVar 4))) (vC (.int 1))) (vC (.int 2147483629))) (gNam 3))
    (vSeq (vApp 2 (vOp opFdiv (vVar 3) (vC (.int 3))))
    vNext))
def b__law_drawn : MS := (vSeq (vAsgF 2 (vLstD vNil))
    (vSeq (vAsg (vOp opMod (vVar 0) (vC (.int 2147483629))) (gNam 3))
    (vSeq (vFor (vRng1 (vCons (vVar 1) vNil)) (gNam 4)
    b__law_drawn_1)
    (vSeq (vRetF (vOwn 2))
    vNext))))
def fn__law_drawn : List D → FR := runB 2 5 b__law_drawn
/-- _law_track -/
def b__law_track_1 : MS := (vSeq (vAsg (vOp opIx (vOf (vCallF fn__law_drawn (vCons (vOp opAdd (vOp opIx (vVar 0) (vVar 2)) (vOp opMul (vC (.int 31)) (vVar 2))) (vCons (vC (.int 3)) vNil)))) (vC (.int 2))) (gNam 3))
    (vSeq (vAsg (vCall fn__law_part (vCons (vVar 3) (vCons (vOp opIx (vVar 0) (vVar 2)) vNil))) (gNam 4))
    (vSeq (vIf (vAnd (vTest (vOp opEq (vOp opIx (vVar 4) (vC (.int 0))) (vC (.str "clip")))) (vAnd (vBorT (vTest (vOp opNe (vVar 1) (vOf (vLstD vNil))))) (vAnd (vBorT (vTest (vOp opEq (vOp opIx (vOp opIx (vVar 1) (vUn opNeg (vC (.int 1)))) (vC (.int 0))) (vC (.str "clip"))))) (vTest (vOp opLt (vOp opMod (vVar 3) (vC (.int 4))) (vC (.int 2)))))))
    (vSeq (vApp 1 (vTupD (vCons (vC (.str "mix")) (vCons (vOp opAdd (vC (.int 1)) (vOp opMod (vOp opFdiv (vVar 3) (vC (.int 23))) (vC (.int 9)))) vNil))))
    vNext)
    vNext)
    (vSeq (vIf (vOr (vTest (vOp opNe (vOp opIx (vVar 4) (vC (.int 0))) (vC (.str "gap")))) (vOr (vBorT (vTest (vOp opEq (vVar 1) (vOf (vLstD vNil))))) (vBorT (vTest (vOp opNe (vOp opIx (vOp opIx (vVar 1) (vUn opNeg (vC (.int 1)))) (vC (.int 0))) (vC (.str "gap")))))))
    (vSeq (vApp 1 (vVar 4))
    vNext)
    vNext)
    vNext))))
def b__law_track : MS := (vSeq (vAsgF 1 (vLstD vNil))
    (vSeq (vFor (vRng1 (vCons (vBf bfLen (vCons (vVar 0) vNil)) vNil)) (gNam 2)
    b__law_track_1)
    (vSeq (vIf (vAnd (vBorT (vTest (vOp opNe (vVar 1) (vOf (vLstD vNil))))) (vBorT (vTest (vOp opEq (vOp opIx (vOp opIx (vVar 1) (vUn opNeg (vC (.int 1)))) (vC (.int 0))) (vC (.str "gap"))))))
    (vSeq (vDrop (vPop 1))
    vNext)
    vNext)
    (vSeq (vRetF (vOwn 1))
    vNext))))
def fn__law_track : List D → FR := runB 1 5 b__law_track
/-- _law_is_name -/
def el__law_is_name_1 : ME := (vOp opInS (vVar 1) (vC (.str "abcdefghijklmnopqrstuvwxyz")))
def b__law_is_name : MS := (vSeq (vRet (vAndV (vChain opLe opLe (vC (.int 1)) (vBf bfLen (vCons (vVar 0) vNil)) (vC (.int 8))) (vBf bfAll (vCons (vOf (vLc (vSeqI (vVar 0)) (gNam 1) vYes el__law_is_name_1 [1])) vNil))))
    vNext)
def fn__law_is_name : List D → FR := runB 1 2 b__law_is_name
/-- _law_number -/
def el__law_number_1 : ME := (vOp opNotInS (vVar 3) (vC (.str "0123456789")))
def b__law_number : MS := (vSeq (vAsg (vVar 0) (gNam 2))
    (vSeq (vIf (vTest (vOp opEq (vSl (vVar 0) vNoPart (vPart (vC (.int 1)))) (vC (.str "-"))))
    (vSeq (vAsg (vSl (vVar 0) (vPart (vC (.int 1))) vNoPart) (gNam 2))
    vNext)
    vNext)
    (vSeq (vIf (vOr (vTest (vOp opEq (vVar 2) (vC (.str "")))) (vOr (vTest (vOp opGt (vBf bfLen (vCons (vVar 2) vNil)) (vC (.int 60)))) (vAnd (vTest (vOp opEq (vOp opIx (vVar 2) (vC (.int 0))) (vC (.str "0")))) (vTest (vOp opNe (vVar 0) (vC (.str "0")))))))
    (vSeq (vRet (vC .non))
    vNext)
    vNext)
    (vSeq (vIf (vOr (vTest (vBf bfAny (vCons (vOf (vLc (vSeqI (vVar 2)) (gNam 3) vYes el__law_number_1 [3])) vNil))) (vAnd (vTest (vOp opIsNot (vVar 1) (vC .non))) (vTest (vOp opLt (vBf bfIntS (vCons (vVar 0) vNil)) (vVar 1)))))
    (vSeq (vRet (vC .non))
    vNext)
    vNext)
    (vSeq (vRet (vBf bfIntS (vCons (vVar 0) vNil)))
    vNext)))))
def fn__law_number : List D → FR := runB 2 4 b__law_number
/-- _law_fraction -/
def c__law_fraction_1 : MB := (vTest (vOp opNe (vVar 3) (vC (.int 0))))
def b__law_fraction_1 : MS := (vSeq (vPar 2 3 (vVar 3) (vOp opMod (vVar 2) (vVar 3)))
    vNext)
def b__law_fraction : MS := (vSeq (vAsg (vOf (vMF1 opSplit (vVar 0) (vC (.str "/")))) (gNam 1))
    (vSeq (vIf (vOr (vTest (vOp opGt (vBf bfLen (vCons (vVar 1) vNil)) (vC (.int 2)))) (vTest (vOp opIs (vCall fn__law_number (vCons (vOp opIx (vVar 1) (vC (.int 0))) (vCons (vC .non) vNil))) (vC .non))))
    (vSeq (vRet (vC .non))
    vNext)
    vNext)
    (vSeq (vIf (vTest (vOp opEq (vBf bfLen (vCons (vVar 1) vNil)) (vC (.int 1))))
    (vSeq (vRet (vTupD (vCons (vBf bfIntS (vCons (vVar 0) vNil)) (vCons (vC (.int 1)) vNil))))
    vNext)
    vNext)
    (vSeq (vIf (vTest (vOp opIs (vCall fn__law_number (vCons (vOp opIx (vVar 1) (vC (.int 1))) (vCons (vC (.int 2)) vNil))) (vC .non)))
    (vSeq (vRet (vC .non))
    vNext)
    vNext)
    (vSeq (vAsg (vBf bfAbs (vCons (vBf bfIntS (vCons (vOp opIx (vVar 1) (vC (.int 0))) vNil)) vNil)) (gNam 2))
    (vSeq (vAsg (vBf bfIntS (vCons (vOp opIx (vVar 1) (vC (.int 1))) vNil)) (gNam 3))
    (vSeq (vWhile c__law_fraction_1
    b__law_fraction_1)
    (vSeq (vIf (vTest (vOp opNe (vVar 2) (vC (.int 1))))
    (vSeq (vRet (vC .non))
    vNext)
    vNext)
    (vSeq (vRet (vTupD (vCons (vBf bfIntS (vCons (vOp opIx (vVar 1) (vC (.int 0))) vNil)) (vCons (vBf bfIntS (vCons (vOp opIx (vVar 1) (vC (.int 1))) vNil)) vNil))))
    vNext)))))))))
def fn__law_fraction : List D → FR := runB 1 4 b__law_fraction
/-- _law_item_read -/
def el__law_item_read_1 : ME := (vOp opIs (vVar 4) (vC .non))
def b__law_item_read : MS := (vSeq (vAsg (vOf (vMF1 opSplit (vVar 0) (vC (.str " ")))) (gNam 1))
    (vSeq (vAsg (vOp opIx (vVar 1) (vC (.int 0))) (gNam 2))
    (vSeq (vAsg (vC .non) (gNam 3))
    (vSeq (vIf (vAnd (vTest (vOp opEq (vBf bfLen (vCons (vVar 1) vNil)) (vC (.int 5)))) (vAnd (vTest (vOp opEq (vVar 2) (vC (.str "clip")))) (vTest (vCall fn__law_is_name (vCons (vOp opIx (vVar 1) (vC (.int 1))) vNil)))))
    (vSeq (vAsg (vTupD (vCons (vVar 2) (vCons (vOp opIx (vVar 1) (vC (.int 1))) (vCons (vCall fn__law_fraction (vCons (vOp opIx (vVar 1) (vC (.int 2))) vNil)) (vCons (vCall fn__law_fraction (vCons (vOp opIx (vVar 1) (vC (.int 3))) vNil)) vNil))))) (gNam 3))
    (vSeq (vAsg (vOp opAdd (vVar 3) (vTupD (vCons (vCall fn__law_number (vCons (vOp opIx (vVar 1) (vC (.int 4))) (vCons (vC (.int 1)) vNil))) vNil))) (gNam 3))
    vNext))
    vNext)
    (vSeq (vIf (vAnd (vTest (vOp opEq (vBf bfLen (vCons (vVar 1) vNil)) (vC (.int 4)))) (vAnd (vTest (vOp opEq (vVar 2) (vC (.str "nest")))) (vTest (vCall fn__law_is_name (vCons (vOp opIx (vVar 1) (vC (.int 1))) vNil)))))
    (vSeq (vAsg (vTupD (vCons (vVar 2) (vCons (vOp opIx (vVar 1) (vC (.int 1))) (vCons (vCall fn__law_number (vCons (vOp opIx (vVar 1) (vC (.int 2))) (vCons (vC (.int 0)) vNil))) (vCons (vCall fn__law_number (vCons (vOp opIx (vVar 1) (vC (.int 3))) (vCons (vC (.int 1)) vNil))) vNil))))) (gNam 3))
    vNext)
    vNext)
    (vSeq (vIf (vAnd (vTest (vOp opEq (vBf bfLen (vCons (vVar 1) vNil)) (vC (.int 2)))) (vTest (vOp opIn (vVar 2) (vOf (vLstD (vCons (vC (.str "gap")) (vCons (vC (.str "mix")) vNil)))))))
    (vSeq (vAsg (vTupD (vCons (vVar 2) (vCons (vCall fn__law_number (vCons (vOp opIx (vVar 1) (vC (.int 1))) (vCons (vC (.int 1)) vNil))) vNil))) (gNam 3))
    vNext)
    vNext)
    (vSeq (vIf (vOr (vTest (vOp opIs (vVar 3) (vC .non))) (vTest (vBf bfAny (vCons (vOf (vLc (vSeqI (vVar 3)) (gNam 4) vYes el__law_item_read_1 [4])) vNil))))
    (vSeq (vRet (vC .non))
    vNext)
    vNext)
    (vSeq (vRet (vVar 3))
    vNext))))))))
def fn__law_item_read : List D → FR := runB 1 5 b__law_item_read
/-- _law_one_form -/
def el__law_one_form_1 : ME := (vOp opIx (vVar 3) (vC (.int 0)))
def b__law_one_form_2 : MS := (vSeq (vIf (vAnd (vTest (vOp opEq (vOp opIx (vVar 1) (vOp opSub (vVar 2) (vC (.int 1)))) (vC (.str "gap")))) (vTest (vOp opIn (vOp opIx (vVar 1) (vVar 2)) (vOf (vLstD (vCons (vC (.str "gap")) (vCons (vC (.str "end")) vNil)))))))
    (vSeq (vRet (vC (.bl false)))
    vNext)
    vNext)
    (vSeq (vIf (vAnd (vTest (vOp opEq (vOp opIx (vVar 1) (vVar 2)) (vC (.str "mix")))) (vOr (vTest (vOp opNe (vOp opIx (vVar 1) (vOp opSub (vVar 2) (vC (.int 1)))) (vC (.str "clip")))) (vTest (vOp opNe (vOp opIx (vVar 1) (vOp opAdd (vVar 2) (vC (.int 1)))) (vC (.str "clip"))))))
    (vSeq (vRet (vC (.bl false)))
    vNext)
    vNext)
    vNext))
def b__law_one_form : MS := (vSeq (vAsg (vOf (vCatF (vOf (vCatF (vOf (vLstD (vCons (vC (.str "begin")) vNil))) (vOf (vLc (vSeqI (vVar 0)) (gNam 3) vYes el__law_one_form_1 [3])))) (vOf (vLstD (vCons (vC (.str "end")) vNil))))) (gNam 1))
    (vSeq (vFor (vRng2 (vCons (vC (.int 1)) (vCons (vBf bfLen (vCons (vVar 1) vNil)) vNil))) (gNam 2)
    b__law_one_form_2)
    (vSeq (vRet (vC (.bl true)))
    vNext)))
def fn__law_one_form : List D → FR := runB 1 4 b__law_one_form
/-- _law_track_read -/
def el__law_track_read_1 : ME := (vCall fn__law_item_read (vCons (vVar 2) vNil))
def el__law_track_read_2 : ME := (vOp opIs (vVar 3) (vC .non))
def b__law_track_read : MS := (vSeq (vIf (vTest (vOp opEq (vVar 0) (vC (.str ""))))
    (vSeq (vRet (vOf (vLstD vNil)))
    vNext)
    vNext)
    (vSeq (vAsg (vOf (vLc (vSeqI (vOf (vMF1 opSplit (vVar 0) (vC (.str "; "))))) (gNam 2) vYes el__law_track_read_1 [2])) (gNam 1))
    (vSeq (vIf (vOr (vTest (vBf bfAny (vCons (vOf (vLc (vSeqI (vVar 1)) (gNam 3) vYes el__law_track_read_2 [3])) vNil))) (vNot (vTest (vCall fn__law_one_form (vCons (vVar 1) vNil)))))
    (vSeq (vRet (vC .non))
    vNext)
    vNext)
    (vSeq (vRet (vVar 1))
    vNext))))
def fn__law_track_read : List D → FR := runB 1 4 b__law_track_read
/-- read_number -/
def b_read_number_1 : MS := (vSeq (vIf (vTest (vOp opNotInS (vVar 2) (vC g_FIGURES)))
    (vSeq (vRaise "NoText")
    vNext)
    vNext)
    vNext)
def b_read_number : MS := (vSeq (vIf (vNot (vTest (vIsi "str" (vVar 0))))
    (vSeq (vRaise "NoText")
    vNext)
    vNext)
    (vSeq (vAsg (vVar 0) (gNam 1))
    (vSeq (vIf (vTest (vM1 opStarts (vVar 0) (vC (.str "-"))))
    (vSeq (vAsg (vSl (vVar 0) (vPart (vC (.int 1))) vNoPart) (gNam 1))
    vNext)
    vNext)
    (vSeq (vIf (vOr (vTest (vOp opEq (vVar 1) (vC (.str "")))) (vOr (vTest (vOp opGt (vBf bfLen (vCons (vVar 1) vNil)) (vC g_MOST_FIGURES))) (vAnd (vTest (vOp opEq (vOp opIx (vVar 1) (vC (.int 0))) (vC (.str "0")))) (vTest (vOp opNe (vVar 0) (vC (.str "0")))))))
    (vSeq (vRaise "NoText")
    vNext)
    vNext)
    (vSeq (vFor (vSeqI (vVar 1)) (gNam 2)
    b_read_number_1)
    (vSeq (vRet (vBf bfIntS (vCons (vVar 0) vNil)))
    vNext))))))
def fn_read_number : List D → FR := runB 1 3 b_read_number
/-- shared_by -/
def c_shared_by_1 : MB := (vTest (vOp opNe (vVar 1) (vC (.int 0))))
def b_shared_by_1 : MS := (vSeq (vPar 0 1 (vVar 1) (vOp opMod (vVar 0) (vVar 1)))
    vNext)
def b_shared_by : MS := (vSeq (vWhile c_shared_by_1
    b_shared_by_1)
    (vSeq (vRet (vBf bfAbs (vCons (vVar 0) vNil)))
    vNext))
def fn_shared_by : List D → FR := runB 2 2 b_shared_by
/-- is_whole -/
def b_is_whole : MS := (vSeq (vRet (vAndV (vIsi "int" (vVar 0)) (vNotV (vIsi "bool" (vVar 0)))))
    vNext)
def fn_is_whole : List D → FR := runB 1 1 b_is_whole
/-- fraction -/
def b_fraction : MS := (vSeq (vIf (vOr (vNot (vTest (vCall fn_is_whole (vCons (vVar 0) vNil)))) (vOr (vNot (vTest (vCall fn_is_whole (vCons (vVar 1) vNil)))) (vTest (vOp opEq (vVar 1) (vC (.int 0))))))
    (vSeq (vRaise "NoNumber")
    vNext)
    vNext)
    (vSeq (vAsg (vCall fn_shared_by (vCons (vVar 0) (vCons (vVar 1) vNil))) (gNam 2))
    (vSeq (vIf (vTest (vOp opLt (vVar 1) (vC (.int 0))))
    (vSeq (vAsg (vUn opNeg (vVar 2)) (gNam 2))
    vNext)
    vNext)
    (vSeq (vRet (vTupD (vCons (vOp opFdiv (vVar 0) (vVar 2)) (vCons (vOp opFdiv (vVar 1) (vVar 2)) vNil))))
    vNext))))
def fn_fraction : List D → FR := runB 2 3 b_fraction
/-- read_fraction -/
def b_read_fraction : MS := (vSeq (vIf (vNot (vTest (vIsi "str" (vVar 0))))
    (vSeq (vRaise "NoText")
    vNext)
    vNext)
    (vSeq (vAsg (vM1 opParti (vVar 0) (vC (.str "/"))) (gTup' (gCon (gNam 1) (gCon (gNam 2) (gCon (gNam 3) gNil')))))
    (vSeq (vIf (vTest (vOp opEq (vVar 2) (vC (.str ""))))
    (vSeq (vRet (vTupD (vCons (vCall fn_read_number (vCons (vVar 0) vNil)) (vCons (vC (.int 1)) vNil))))
    vNext)
    vNext)
    (vSeq (vAsg (vTupD (vCons (vCall fn_read_number (vCons (vVar 1) vNil)) (vCons (vCall fn_read_number (vCons (vVar 3) vNil)) vNil))) (gNam 4))
    (vSeq (vIf (vOr (vTest (vOp opLt (vOp opIx (vVar 4) (vC (.int 1))) (vC (.int 2)))) (vTest (vOp opNe (vCall fn_fraction (vCons (vOp opIx (vVar 4) (vC (.int 0))) (vCons (vOp opIx (vVar 4) (vC (.int 1))) vNil))) (vVar 4))))
    (vSeq (vRaise "NoText")
    vNext)
    vNext)
    (vSeq (vRet (vVar 4))
    vNext))))))
def fn_read_fraction : List D → FR := runB 1 5 b_read_fraction
/-- is_name -/
def b_is_name : MS := (vSeq (vIf (vOr (vNot (vTest (vIsi "str" (vVar 0)))) (vOr (vTest (vOp opEq (vVar 0) (vC (.str "")))) (vTest (vOp opGt (vBf bfLen (vCons (vVar 0) vNil)) (vC g_MOST_LETTERS)))))
    (vSeq (vRet (vC (.bl false)))
    vNext)
    vNext)
    (vSeq (vRet (vOp opEq (vM1 opStrip (vVar 0) (vC g_LETTERS)) (vC (.str ""))))
    vNext))
def fn_is_name : List D → FR := runB 1 1 b_is_name
/-- read_name -/
def b_read_name : MS := (vSeq (vIf (vNot (vTest (vCall fn_is_name (vCons (vVar 0) vNil))))
    (vSeq (vRaise "NoText")
    vNext)
    vNext)
    (vSeq (vRet (vVar 0))
    vNext))
def fn_read_name : List D → FR := runB 1 1 b_read_name
/-- read_from -/
def b_read_from : MS := (vSeq (vAsg (vCall fn_read_number (vCons (vVar 0) vNil)) (gNam 2))
    (vSeq (vIf (vTest (vOp opLt (vVar 2) (vVar 1)))
    (vSeq (vRaise "NoText")
    vNext)
    vNext)
    (vSeq (vRet (vVar 2))
    vNext)))
def fn_read_from : List D → FR := runB 2 3 b_read_from
/-- read_item -/
def b_read_item : MS := (vSeq (vIf (vNot (vTest (vIsi "str" (vVar 0))))
    (vSeq (vRaise "NoText")
    vNext)
    vNext)
    (vSeq (vAsg (vOf (vMF1 opSplit (vVar 0) (vC (.str " ")))) (gNam 1))
    (vSeq (vIf (vAnd (vTest (vOp opEq (vBf bfLen (vCons (vVar 1) vNil)) (vC (.int 5)))) (vTest (vOp opEq (vOp opIx (vVar 1) (vC (.int 0))) (vC (.str "clip")))))
    (vSeq (vAsg (vCall fn_read_fraction (vCons (vOp opIx (vVar 1) (vC (.int 2))) vNil)) (gNam 2))
    (vSeq (vRet (vTupD (vCons (vC (.str "clip")) (vCons (vCall fn_read_name (vCons (vOp opIx (vVar 1) (vC (.int 1))) vNil)) (vCons (vVar 2) (vCons (vCall fn_read_fraction (vCons (vOp opIx (vVar 1) (vC (.int 3))) vNil)) (vCons (vCall fn_read_from (vCons (vOp opIx (vVar 1) (vC (.int 4))) (vCons (vC (.int 1)) vNil))) vNil)))))))
    vNext))
    vNext)
    (vSeq (vIf (vAnd (vTest (vOp opEq (vBf bfLen (vCons (vVar 1) vNil)) (vC (.int 4)))) (vTest (vOp opEq (vOp opIx (vVar 1) (vC (.int 0))) (vC (.str "nest")))))
    (vSeq (vRet (vTupD (vCons (vC (.str "nest")) (vCons (vCall fn_read_name (vCons (vOp opIx (vVar 1) (vC (.int 1))) vNil)) (vCons (vCall fn_read_from (vCons (vOp opIx (vVar 1) (vC (.int 2))) (vCons (vC (.int 0)) vNil))) (vCons (vCall fn_read_from (vCons (vOp opIx (vVar 1) (vC (.int 3))) (vCons (vC (.int 1)) vNil))) vNil))))))
    vNext)
    vNext)
    (vSeq (vIf (vAnd (vTest (vOp opEq (vBf bfLen (vCons (vVar 1) vNil)) (vC (.int 2)))) (vOr (vTest (vOp opEq (vOp opIx (vVar 1) (vC (.int 0))) (vC (.str "gap")))) (vTest (vOp opEq (vOp opIx (vVar 1) (vC (.int 0))) (vC (.str "mix"))))))
    (vSeq (vRet (vTupD (vCons (vOp opIx (vVar 1) (vC (.int 0))) (vCons (vCall fn_read_from (vCons (vOp opIx (vVar 1) (vC (.int 1))) (vCons (vC (.int 1)) vNil))) vNil))))
    vNext)
    vNext)
    (vSeq (vRaise "NoText")
    vNext))))))
def fn_read_item : List D → FR := runB 1 3 b_read_item
/-- one_form -/
def b_one_form_1 : MS := (vSeq (vIf (vAnd (vTest (vOp opEq (vOp opIx (vVar 2) (vC (.int 0))) (vC (.str "gap")))) (vAnd (vBorT (vTest (vOp opNe (vVar 1) (vOf (vLstD vNil))))) (vBorT (vTest (vOp opEq (vOp opIx (vOp opIx (vVar 1) (vUn opNeg (vC (.int 1)))) (vC (.int 0))) (vC (.str "gap")))))))
    (vSeq (vSet 1 (vUn opNeg (vC (.int 1))) (vTupD (vCons (vC (.str "gap")) (vCons (vOp opAdd (vBor (vOp opIx (vOp opIx (vVar 1) (vUn opNeg (vC (.int 1)))) (vC (.int 1)))) (vOp opIx (vVar 2) (vC (.int 1)))) vNil))))
    vNext)
    (vSeq (vIf (vOr (vTest (vOp opNe (vOp opIx (vVar 2) (vC (.int 0))) (vC (.str "gap")))) (vTest (vOp opGt (vOp opIx (vVar 2) (vC (.int 1))) (vC (.int 0)))))
    (vSeq (vApp 1 (vVar 2))
    vNext)
    vNext)
    vNext))
    vNext)
def b_one_form : MS := (vSeq (vAsgF 1 (vLstD vNil))
    (vSeq (vFor (vSeqI (vVar 0)) (gNam 2)
    b_one_form_1)
    (vSeq (vIf (vAnd (vBorT (vTest (vOp opNe (vVar 1) (vOf (vLstD vNil))))) (vBorT (vTest (vOp opEq (vOp opIx (vOp opIx (vVar 1) (vUn opNeg (vC (.int 1)))) (vC (.int 0))) (vC (.str "gap"))))))
    (vSeq (vDrop (vPop 1))
    vNext)
    vNext)
    (vSeq (vRetF (vOwn 1))
    vNext))))
def fn_one_form : List D → FR := runB 1 3 b_one_form
/-- mixes_stand -/
def el_mixes_stand_2 : ME := (vOp opIx (vVar 4) (vC (.int 0)))
def b_mixes_stand_1 : MS := (vSeq (vIf (vTest (vOp opEq (vOp opIx (vVar 2) (vC (.int 0))) (vC (.str "mix"))))
    (vSeq (vAsg (vOf (vLc (vSeqI (vSl (vVar 0) (vPart (vBf bfMax (vCons (vC (.int 0)) (vCons (vOp opSub (vVar 1) (vC (.int 1))) vNil)))) (vPart (vOp opAdd (vVar 1) (vC (.int 2)))))) (gNam 4) vYes el_mixes_stand_2 [4])) (gNam 3))
    (vSeq (vIf (vTest (vOp opNe (vVar 3) (vOf (vLstD (vCons (vC (.str "clip")) (vCons (vC (.str "mix")) (vCons (vC (.str "clip")) vNil)))))))
    (vSeq (vRet (vC (.bl false)))
    vNext)
    vNext)
    vNext))
    vNext)
    vNext)
def b_mixes_stand : MS := (vSeq (vFor (vEnum (vCons (vVar 0) vNil)) (gTup' (gCon (gNam 1) (gCon (gNam 2) gNil')))
    b_mixes_stand_1)
    (vSeq (vRet (vC (.bl true)))
    vNext))
def fn_mixes_stand : List D → FR := runB 1 5 b_mixes_stand
/-- read_track -/
def el_read_track_1 : ME := (vCall fn_read_item (vCons (vVar 2) vNil))
def b_read_track : MS := (vSeq (vIf (vNot (vTest (vIsi "str" (vVar 0))))
    (vSeq (vRaise "NoText")
    vNext)
    vNext)
    (vSeq (vIf (vTest (vOp opEq (vVar 0) (vC (.str ""))))
    (vSeq (vRetF (vLstD vNil))
    vNext)
    vNext)
    (vSeq (vAsgF 1 (vLcX (vSeqI (vOf (vMF1 opSplit (vVar 0) (vC (.str "; "))))) (gNam 2) vYes el_read_track_1 [2]))
    (vSeq (vIf (vOr (vBorT (vTest (vOp opNe (vOf (vCallF fn_one_form (vCons (vVar 1) vNil))) (vVar 1)))) (vNot (vBorT (vTest (vCall fn_mixes_stand (vCons (vVar 1) vNil))))))
    (vSeq (vRaise "NoText")
    vNext)
    vNext)
    (vSeq (vRetF (vOwn 1))
    vNext)))))
def fn_read_track : List D → FR := runB 1 3 b_read_track
/-- _law_read -/
def b__law_read : MS := (vSeq (vAsg (vC .non) (gNam 1))
    (vSeq (vTryAs names0 anc0 "NoText" 2 (vSeq (vAsg (vOf (vCallF fn_read_track (vCons (vVar 0) vNil))) (gNam 1))
    vNext) fun c => (vSeq (vAsg (vIsE 2 (anc0 c "NoClip")) (gNam 1))
    vNext))
    (vSeq (vRet (vVar 1))
    vNext)))
def fn__law_read : List D → FR := runB 1 3 b__law_read
/-- _law_cell_at -/
def b__law_cell_at : MS := (vSeq (vIf (vTest (vOp opLt (vVar 1) (vBf bfLen (vCons (vVar 0) vNil))))
    (vSeq (vRet (vOp opIx (vVar 0) (vVar 1)))
    vNext)
    vNext)
    (vSeq (vRet (vC (.int 0)))
    vNext))
def fn__law_cell_at : List D → FR := runB 2 2 b__law_cell_at
/-- _law_items_changed -/
def b__law_items_changed : MS := (vSeq (vAsg (vOf (vMF1 opSplit (vVar 0) (vC (.str "; ")))) (gNam 3))
    (vSeq (vAsg (vOp opMod (vOp opFdiv (vVar 1) (vC (.int 3))) (vBf bfLen (vCons (vVar 3) vNil))) (gNam 4))
    (vSeq (vAsg (vOp opMod (vVar 2) (vBf bfLen (vCons (vVar 3) vNil))) (gNam 5))
    (vSeq (vIf (vTest (vOp opEq (vOp opMod (vVar 1) (vC (.int 3))) (vC (.int 0))))
    (vSeq (vRet (vM1 opJoin (vC (.str "; ")) (vOf (vCatF (vSl (vVar 3) vNoPart (vPart (vVar 4))) (vSl (vVar 3) (vPart (vOp opAdd (vVar 4) (vC (.int 1)))) vNoPart)))))
    vNext)
    vNext)
    (vSeq (vIf (vTest (vOp opEq (vOp opMod (vVar 1) (vC (.int 3))) (vC (.int 1))))
    (vSeq (vRet (vM1 opJoin (vC (.str "; ")) (vOf (vCatF (vOf (vCatF (vSl (vVar 3) vNoPart (vPart (vVar 4))) (vOf (vLstD (vCons (vOp opIx (vVar 3) (vVar 5)) vNil))))) (vSl (vVar 3) (vPart (vVar 4)) vNoPart)))))
    vNext)
    vNext)
    (vSeq (vRet (vM1 opJoin (vC (.str "; ")) (vOf (vCatF (vOf (vCatF (vSl (vVar 3) vNoPart (vPart (vVar 4))) (vOf (vLstD (vCons (vOp opIx (vVar 3) (vVar 5)) vNil))))) (vSl (vVar 3) (vPart (vOp opAdd (vVar 4) (vC (.int 1)))) vNoPart)))))
    vNext))))))
def fn__law_items_changed : List D → FR := runB 3 6 b__law_items_changed
/-- _law_changed -/
def b__law_changed : MS := (vSeq (vAsg (vOp opMod (vVar 1) (vC (.int 6))) (gNam 3))
    (vSeq (vAsg (vOp opMod (vVar 2) (vOp opAdd (vBf bfLen (vCons (vVar 0) vNil)) (vC (.int 1)))) (gNam 4))
    (vSeq (vIf (vTest (vOp opLt (vVar 3) (vC (.int 2))))
    (vSeq (vRet (vCall fn__law_items_changed (vCons (vVar 0) (vCons (vOp opFdiv (vVar 1) (vC (.int 6))) (vCons (vVar 2) vNil)))))
    vNext)
    vNext)
    (vSeq (vAsgF 5 (vMF1 opSplit (vVar 0) (vC (.str " "))))
    (vSeq (vAsg (vOp opMod (vVar 2) (vBor (vBf bfLen (vCons (vVar 5) vNil)))) (gNam 6))
    (vSeq (vIf (vTest (vOp opEq (vVar 3) (vC (.int 2))))
    (vSeq (vRet (vM1 opJoin (vC (.str " ")) (vOf (vCatF (vSl (vVar 5) vNoPart (vPart (vVar 6))) (vSl (vVar 5) (vPart (vOp opAdd (vVar 6) (vC (.int 1)))) vNoPart)))))
    vNext)
    vNext)
    (vSeq (vIf (vTest (vOp opEq (vVar 3) (vC (.int 3))))
    (vSeq (vSet 5 (vVar 6) (vBor (vOp opIx (vVar 5) (vOp opMod (vOp opFdiv (vVar 2) (vC (.int 97))) (vBf bfLen (vCons (vVar 5) vNil))))))
    (vSeq (vRet (vM1 opJoin (vC (.str " ")) (vVar 5)))
    vNext))
    vNext)
    (vSeq (vIf (vTest (vOp opEq (vVar 3) (vC (.int 4))))
    (vSeq (vRet (vOp opAdd (vSl (vVar 0) vNoPart (vPart (vVar 4))) (vSl (vVar 0) (vPart (vOp opAdd (vVar 4) (vC (.int 1)))) vNoPart)))
    vNext)
    vNext)
    (vSeq (vAsg (vC (.str "0123456789-/; abclipnestgapmixz")) (gNam 7))
    (vSeq (vRet (vOp opAdd (vOp opAdd (vSl (vVar 0) vNoPart (vPart (vVar 4))) (vOp opIx (vVar 7) (vOp opMod (vOp opFdiv (vVar 2) (vC (.int 97))) (vC (.int 31))))) (vSl (vVar 0) (vPart (vVar 4)) vNoPart)))
    vNext))))))))))
def fn__law_changed : List D → FR := runB 3 8 b__law_changed
/-- _law_shown -/
def b__law_shown : MS := (vSeq (vIf (vTest (vOp opEq (vOp opIx (vVar 0) (vC (.int 1))) (vC (.int 1))))
    (vSeq (vRet (vBf bfStrS (vCons (vOp opIx (vVar 0) (vC (.int 0))) vNil)))
    vNext)
    vNext)
    (vSeq (vRet (vOp opAdd (vOp opAdd (vBf bfStrS (vCons (vOp opIx (vVar 0) (vC (.int 0))) vNil)) (vC (.str "/"))) (vBf bfStrS (vCons (vOp opIx (vVar 0) (vC (.int 1))) vNil))))
    vNext))
def fn__law_shown : List D → FR := runB 1 1 b__law_shown
/-- _law_item_text -/
def el__law_item_text_1 : ME := (vBf bfStrS (vCons (vVar 1) vNil))
def b__law_item_text : MS := (vSeq (vIf (vTest (vOp opEq (vOp opIx (vVar 0) (vC (.int 0))) (vC (.str "clip"))))
    (vSeq (vRet (vM1 opJoin (vC (.str " ")) (vOf (vLstD (vCons (vC (.str "clip")) (vCons (vOp opIx (vVar 0) (vC (.int 1))) (vCons (vCall fn__law_shown (vCons (vOp opIx (vVar 0) (vC (.int 2))) vNil)) (vCons (vCall fn__law_shown (vCons (vOp opIx (vVar 0) (vC (.int 3))) vNil)) (vCons (vBf bfStrS (vCons (vOp opIx (vVar 0) (vC (.int 4))) vNil)) vNil)))))))))
    vNext)
    vNext)
    (vSeq (vRet (vM1 opJoin (vC (.str " ")) (vOf (vLc (vSeqI (vVar 0)) (gNam 1) vYes el__law_item_text_1 [1]))))
    vNext))
def fn__law_item_text : List D → FR := runB 1 2 b__law_item_text
/-- show_fraction -/
def b_show_fraction : MS := (vSeq (vIf (vTest (vOp opEq (vOp opIx (vVar 0) (vC (.int 1))) (vC (.int 1))))
    (vSeq (vRet (vBf bfStrS (vCons (vOp opIx (vVar 0) (vC (.int 0))) vNil)))
    vNext)
    vNext)
    (vSeq (vRet (vOp opAdd (vOp opAdd (vBf bfStrS (vCons (vOp opIx (vVar 0) (vC (.int 0))) vNil)) (vC (.str "/"))) (vBf bfStrS (vCons (vOp opIx (vVar 0) (vC (.int 1))) vNil))))
    vNext))
def fn_show_fraction : List D → FR := runB 1 1 b_show_fraction
/-- show_item -/
def el_show_item_1 : ME := (vBf bfStrS (vCons (vVar 1) vNil))
def b_show_item : MS := (vSeq (vIf (vTest (vOp opEq (vOp opIx (vVar 0) (vC (.int 0))) (vC (.str "clip"))))
    (vSeq (vRet (vM1 opJoin (vC (.str " ")) (vOf (vLstD (vCons (vC (.str "clip")) (vCons (vOp opIx (vVar 0) (vC (.int 1))) (vCons (vCall fn_show_fraction (vCons (vOp opIx (vVar 0) (vC (.int 2))) vNil)) (vCons (vCall fn_show_fraction (vCons (vOp opIx (vVar 0) (vC (.int 3))) vNil)) (vCons (vBf bfStrS (vCons (vOp opIx (vVar 0) (vC (.int 4))) vNil)) vNil)))))))))
    vNext)
    vNext)
    (vSeq (vRet (vM1 opJoin (vC (.str " ")) (vOf (vLc (vSeqI (vVar 0)) (gNam 1) vYes el_show_item_1 [1]))))
    vNext))
def fn_show_item : List D → FR := runB 1 2 b_show_item
/-- show_track -/
def el_show_track_1 : ME := (vCall fn_show_item (vCons (vVar 1) vNil))
def b_show_track : MS := (vSeq (vRet (vM1 opJoin (vC (.str "; ")) (vOf (vLc (vSeqI (vVar 0)) (gNam 1) vYes el_show_track_1 [1]))))
    vNext)
def fn_show_track : List D → FR := runB 1 2 b_show_track
/-- law -/
def el_law_1 : ME := (vCall fn__law_item_text (vCons (vVar 4) vNil))
def b_law_2 : MS := (vSeq (vIf (vOr (vTest (vOp opNe (vCall fn_show_item (vCons (vVar 4) vNil)) (vCall fn__law_item_text (vCons (vVar 4) vNil)))) (vTest (vOp opNe (vCall fn_read_item (vCons (vCall fn_show_item (vCons (vVar 4) vNil)) vNil)) (vVar 4))))
    (vSeq (vRet (vC (.bl false)))
    vNext)
    vNext)
    vNext)
def b_law_3 : MS := (vSeq (vAsg (vCall fn__law_changed (vCons (vVar 2) (vCons (vOp opIx (vVar 5) (vOp opAdd (vC (.int 3)) (vVar 6))) (vCons (vOp opIx (vVar 5) (vOp opAdd (vC (.int 5)) (vVar 6))) vNil)))) (gNam 2))
    vNext)
def b_law_4 : MS := (vSeq (vIf (vTest (vOp opIsNot (vCall fn__law_read (vCons (vVar 9) vNil)) (vC (.bl false))))
    (vSeq (vRet (vC (.bl false)))
    vNext)
    vNext)
    vNext)
def b_law : MS := (vSeq (vAsg (vOf (vCallF fn__law_track (vCons (vSl (vVar 0) (vPart (vC (.int 1))) (vPart (vC (.int 13)))) vNil))) (gNam 1))
    (vSeq (vAsg (vM1 opJoin (vC (.str "; ")) (vOf (vLc (vSeqI (vVar 1)) (gNam 4) vYes el_law_1 [4]))) (gNam 2))
    (vSeq (vAsg (vOf (vBl bfListK (vCons (vVar 1) vNil))) (gNam 3))
    (vSeq (vIf (vOr (vTest (vOp opNe (vCall fn_show_track (vCons (vVar 3) vNil)) (vVar 2))) (vOr (vTest (vOp opNe (vVar 3) (vVar 1))) (vTest (vOp opNe (vOf (vCallF fn_read_track (vCons (vVar 2) vNil))) (vVar 1)))))
    (vSeq (vRet (vC (.bl false)))
    vNext)
    vNext)
    (vSeq (vFor (vSeqI (vVar 1)) (gNam 4)
    b_law_2)
    (vSeq (vAsg (vOf (vCallF fn__law_drawn (vCons (vCall fn__law_cell_at (vCons (vVar 0) (vCons (vC (.int 0)) vNil))) (vCons (vC (.int 8)) vNil)))) (gNam 5))
    (vSeq (vFor (vRng1 (vCons (vOp opAdd (vC (.int 1)) (vOp opMod (vOp opIx (vVar 5) (vC (.int 2))) (vC (.int 2)))) vNil)) (gNam 6)
    b_law_3)
    (vSeq (vAsg (vCall fn__law_track_read (vCons (vVar 2) vNil)) (gNam 7))
    (vSeq (vAsg (vCall fn__law_read (vCons (vVar 2) vNil)) (gNam 8))
    (vSeq (vIf (vOr (vAnd (vTest (vOp opIs (vVar 7) (vC .non))) (vTest (vOp opIsNot (vVar 8) (vC (.bl false))))) (vAnd (vTest (vOp opIsNot (vVar 7) (vC .non))) (vTest (vOp opNe (vVar 8) (vVar 7)))))
    (vSeq (vRet (vC (.bl false)))
    vNext)
    vNext)
    (vSeq (vFor (vSeqI (vOf (vLstD (vCons (vC .non) (vCons (vC (.int 7)) (vCons (vVar 1) (vCons (vTupD (vCons (vC (.str "gap")) (vCons (vC (.int 3)) vNil))) (vCons (vC (.bl true)) vNil)))))))) (gNam 9)
    b_law_4)
    (vSeq (vRet (vOp opEq (vOf (vCallF fn_read_track (vCons (vC (.str "")) vNil))) (vOf (vLstD vNil))))
    vNext))))))))))))
def fn_law : List D → FR := runB 1 10 b_law
end
def topS (i : Nat) : Stmt := PySem.Challenge.pw_reelcut_k85_tracks_in_texts.main.body.getD i (.Pass ⟨0, 0, 0, 0⟩)
/-- what the top has made -/
structure Top (K : PySem.W.Frag) (w : World) (mg : Str → Option Value) : Prop where
  d_is_whole : Def1 K mg "is_whole" (topS 6) ["x"]
  d_shared_by : Def1 K mg "shared_by" (topS 7) ["one", "other"]
  d_fraction : Def1 K mg "fraction" (topS 8) ["top", "bottom"]
  d_is_name : Def1 K mg "is_name" (topS 12) ["thing"]
  d_one_form : Def1 K mg "one_form" (topS 14) ["some"]
  d_show_fraction : Def1 K mg "show_fraction" (topS 18) ["one"]
  d_show_item : Def1 K mg "show_item" (topS 19) ["item"]
  d_show_track : Def1 K mg "show_track" (topS 20) ["track"]
  d_read_number : Def1 K mg "read_number" (topS 21) ["text"]
  d_read_fraction : Def1 K mg "read_fraction" (topS 22) ["text"]
  d_read_from : Def1 K mg "read_from" (topS 23) ["text", "least"]
  d_read_name : Def1 K mg "read_name" (topS 24) ["text"]
  d_read_item : Def1 K mg "read_item" (topS 25) ["text"]
  d_mixes_stand : Def1 K mg "mixes_stand" (topS 26) ["track"]
  d_read_track : Def1 K mg "read_track" (topS 27) ["text"]
  d__law_cell_at : Def1 K mg "_law_cell_at" (topS 29) ["_law_script", "_law_k"]
  d__law_drawn : Def1 K mg "_law_drawn" (topS 30) ["_law_number_here", "_law_many"]
  d__law_part : Def1 K mg "_law_part" (topS 31) ["_law_x", "_law_cell"]
  d__law_track : Def1 K mg "_law_track" (topS 32) ["_law_cells"]
  d__law_shown : Def1 K mg "_law_shown" (topS 34) ["_law_one"]
  d__law_item_text : Def1 K mg "_law_item_text" (topS 35) ["_law_item"]
  d__law_items_changed : Def1 K mg "_law_items_changed" (topS 36) ["_law_text", "_law_x", "_law_y"]
  d__law_changed : Def1 K mg "_law_changed" (topS 37) ["_law_text", "_law_x", "_law_y"]
  d__law_read : Def1 K mg "_law_read" (topS 38) ["_law_text"]
  d__law_one_form : Def1 K mg "_law_one_form" (topS 39) ["_law_track_here"]
  d__law_number : Def1 K mg "_law_number" (topS 40) ["_law_text", "_law_least"]
  d__law_fraction : Def1 K mg "_law_fraction" (topS 41) ["_law_text"]
  d__law_is_name : Def1 K mg "_law_is_name" (topS 42) ["_law_text"]
  d__law_item_read : Def1 K mg "_law_item_read" (topS 43) ["_law_text"]
  d__law_track_read : Def1 K mg "_law_track_read" (topS 44) ["_law_text"]
  d_law : Def1 K mg "law" (topS 45) ["_law_script"]
  z_abs : mg "abs" = none
  z_all : mg "all" = none
  z_any : mg "any" = none
  z_bool : mg "bool" = none
  z_enumerate : mg "enumerate" = none
  z_int : mg "int" = none
  z_isinstance : mg "isinstance" = none
  z_len : mg "len" = none
  z_list : mg "list" = none
  z_max : mg "max" = none
  z_range : mg "range" = none
  z_str : mg "str" = none
  x_NoNumber : ∃ C, ExcCls K mg "NoNumber" C
  x_NoText : ∃ C, ExcCls K mg "NoText" C
  x : ExT K mg names0 anc0 bi0
  g_FIGURES : GCon K mg "FIGURES" g_FIGURES
  g_LETTERS : GCon K mg "LETTERS" g_LETTERS
  g_MOST_FIGURES : GCon K mg "MOST_FIGURES" g_MOST_FIGURES
  g_MOST_LETTERS : GCon K mg "MOST_LETTERS" g_MOST_LETTERS
section
variable {P : Program} {w : World} {K : PySem.W.Frag} {mg : Str → Option Value}
theorem sc__law_part : FnScope ["_law_x", "_law_cell", "_law_step", "_law_start", "_law_length"] ["_law_x", "_law_cell"] (defScope (topS 31)) := ⟨rfl, rfl, rfl, by decide +kernel, rfl, by decide +kernel, by decide +kernel⟩
theorem ok__law_part (T : Top K w mg) : Ok1 P w K mg "_law_part" ["_law_x", "_law_cell"] 1 (spV K mg fn__law_part) :=
  Def1.V T.d__law_part sc__law_part (by decide) fun base f cdv A outer s H E hr => ((vss_cons (vs_set 2 sc__law_part.nd (ve_ix (fun _ => hu_of hr) (ve_of (vf_lst (va_cons (ve_tup (va_cons ve_int (va_cons ve_int va_nil))) (va_cons (ve_tup (va_cons ve_int (va_cons ve_int va_nil))) (va_cons (ve_tup (va_cons (ve_un (fun _ => ud_neg) ve_int) (va_cons ve_int va_nil))) (va_cons (ve_tup (va_cons ve_int (va_cons ve_int va_nil))) (va_cons (ve_tup (va_cons ve_int (va_cons ve_int va_nil))) (va_cons (ve_tup (va_cons (ve_un (fun _ => ud_neg) ve_int) (va_cons ve_int va_nil))) va_nil)))))))) (ve_bin (fun _ => od_mod) (ve_bin (fun _ => od_fdiv) (ve_var 0) ve_int) ve_int) (fun _ _ => rfl)))
    (vss_cons (vs_set 3 sc__law_part.nd (ve_ix (fun _ => hu_of hr) (ve_of (vf_lst (va_cons (ve_tup (va_cons ve_int (va_cons ve_int va_nil))) (va_cons (ve_tup (va_cons (ve_bin (fun _ => od_mod) (ve_bin (fun _ => od_fdiv) (ve_var 0) ve_int) ve_int) (va_cons ve_int va_nil))) (va_cons (ve_tup (va_cons (ve_bin (fun _ => od_add) ve_int (ve_bin (fun _ => od_mul) ve_int (ve_bin (fun _ => od_mod) (ve_bin (fun _ => od_fdiv) (ve_var 0) ve_int) ve_int))) (va_cons ve_int va_nil))) (va_cons (ve_tup (va_cons (ve_un (fun _ => ud_neg) ve_int) (va_cons ve_int va_nil))) va_nil)))))) (ve_bin (fun _ => od_mod) (ve_bin (fun _ => od_fdiv) (ve_var 0) ve_int) ve_int) (fun _ _ => rfl)))
    (vss_cons (vs_set 4 sc__law_part.nd (ve_ix (fun _ => hu_of hr) (ve_of (vf_lst (va_cons (ve_bin (fun _ => od_add) ve_int (ve_bin (fun _ => od_mod) (ve_bin (fun _ => od_fdiv) (ve_var 0) ve_int) ve_int)) (va_cons (ve_bin (fun _ => od_add) ve_int (ve_bin (fun _ => od_mod) (ve_bin (fun _ => od_fdiv) (ve_var 0) ve_int) ve_int)) (va_cons (ve_bin (fun _ => od_add) ve_int (ve_bin (fun _ => od_mod) (ve_var 0) ve_int)) (va_cons (ve_bin (fun _ => od_add) ve_int (ve_bin (fun _ => od_mod) (ve_bin (fun _ => od_add) (ve_bin (fun _ => od_mul) (ve_var 1) ve_int) (ve_var 0)) (ve_bin (fun _ => od_pow) ve_int ve_int))) va_nil)))))) (ve_bin (fun _ => od_mod) (ve_bin (fun _ => od_fdiv) (ve_var 0) ve_int) ve_int) (fun _ _ => rfl)))
    (vss_cons (vs_if (vt_cmp (fun _ => od_eq hr.units) (ve_bin (fun _ => od_mod) (ve_var 0) ve_int) ve_int (nomark _))
    (vss_cons (vs_ret (ve_tup (va_cons ve_str (va_cons (ve_var 4) va_nil))))
    vss_nil)
    vss_nil)
    (vss_cons (vs_if (vt_cmp (fun _ => od_eq hr.units) (ve_bin (fun _ => od_mod) (ve_var 0) ve_int) ve_int (nomark _))
    (vss_cons (vs_ret (ve_tup (va_cons ve_str (va_cons (ve_ix (fun _ => hu_of hr) (ve_of (vf_lst (va_cons ve_str (va_cons ve_str (va_cons ve_str va_nil))))) (ve_bin (fun _ => od_mod) (ve_bin (fun _ => od_fdiv) (ve_var 0) ve_int) ve_int) (fun _ _ => rfl)) (va_cons (ve_bin (fun _ => od_mod) (ve_bin (fun _ => od_fdiv) (ve_var 0) ve_int) ve_int) (va_cons (ve_var 4) va_nil))))))
    vss_nil)
    vss_nil)
    (vss_cons (vs_ret (ve_tup (va_cons ve_str (va_cons (ve_ix (fun _ => hu_of hr) (ve_of (vf_lst (va_cons ve_str (va_cons ve_str (va_cons ve_str va_nil))))) (ve_bin (fun _ => od_mod) (ve_bin (fun _ => od_fdiv) (ve_var 0) ve_int) ve_int) (fun _ _ => rfl)) (va_cons (ve_var 3) (va_cons (ve_var 2) (va_cons (ve_var 4) va_nil)))))))
    vss_nil)))))) : VSs _ _ _ _ b__law_part)
theorem sc__law_drawn : FnScope ["_law_number_here", "_law_many", "_law_found", "_law_x", "_law_k"] ["_law_number_here", "_law_many"] (defScope (topS 30)) := ⟨rfl, rfl, rfl, by decide +kernel, rfl, by decide +kernel, by decide +kernel⟩
theorem ok__law_drawn (T : Top K w mg) : Ok1 P w K mg "_law_drawn" ["_law_number_here", "_law_many"] 1 (spF K mg fn__law_drawn) :=
  Def1.F T.d__law_drawn sc__law_drawn (by decide) fun base f cdv A outer s H E hr => ((vss_cons (vs_setF 2 sc__law_drawn.nd (vf_lst va_nil))
    (vss_cons (vs_set 3 sc__law_drawn.nd (ve_bin (fun _ => od_mod) (ve_var 0) ve_int))
    (vss_cons (vs_for (passes_of rfl) rfl (vi_rng1 (fun _ => T.z_range) (va_cons (ve_var 1) va_nil)) (vg_name 4 (fun _ => sc__law_drawn.nd))
    (vss_cons (vs_set 3 sc__law_drawn.nd (ve_bin (fun _ => od_mod) (ve_bin (fun _ => od_add) (ve_bin (fun _ => od_add) (ve_bin (fun _ => od_add) (ve_bin (fun _ => od_mul) (ve_var 3) (ve_var 3)) (ve_bin (fun _ => od_mul) ve_int (ve_var 3))) (ve_bin (fun _ => od_mul) ve_int (ve_var 4))) ve_int) ve_int))
    (vss_cons (vs_app 2 (ve_bin (fun _ => od_fdiv) (ve_var 3) ve_int))
    vss_nil)))
    (vss_cons (vs_retF (vf_own 2))
    vss_nil)))) : VSs _ _ _ _ b__law_drawn)
theorem sc__law_track : FnScope ["_law_cells", "_law_track_here", "_law_k", "_law_x", "_law_item"] ["_law_cells"] (defScope (topS 32)) := ⟨rfl, rfl, rfl, by decide +kernel, rfl, by decide +kernel, by decide +kernel⟩
theorem ok__law_track (T : Top K w mg) : Ok1 P w K mg "_law_track" ["_law_cells"] 2 (spF K mg fn__law_track) :=
  Def1.F T.d__law_track sc__law_track (by decide) fun base f cdv A outer s H E hr => ((vss_cons (vs_setF 1 sc__law_track.nd (vf_lst va_nil))
    (vss_cons (vs_for (passes_of rfl) rfl (vi_rng1 (fun _ => T.z_range) (va_cons (ve_bf (fun _ => cd_len (.inr trivial)) (fun _ => T.z_len) (by decide +kernel) (va_cons (ve_var 0) va_nil)) va_nil)) (vg_name 2 (fun _ => sc__law_track.nd))
    (vss_cons (vs_set 3 sc__law_track.nd (ve_ix (fun _ => hu_of hr) (ve_of (vf_cal (ok__law_drawn T) (fun _ => hr) (fun _ => (takes_of rfl rfl rfl rfl)) (va_cons (ve_bin (fun _ => od_add) (ve_ix (fun _ => hu_of hr) (ve_var 0) (ve_var 2) (fun _ _ => rfl)) (ve_bin (fun _ => od_mul) ve_int (ve_var 2))) (va_cons ve_int va_nil)))) ve_int (fun _ _ => rfl)))
    (vss_cons (vs_set 4 sc__law_track.nd (ve_cal (ok__law_part T) (fun _ => hr) (fun _ => (takes_of rfl rfl rfl rfl)) (va_cons (ve_var 3) (va_cons (ve_ix (fun _ => hu_of hr) (ve_var 0) (ve_var 2) (fun _ _ => rfl)) va_nil))))
    (vss_cons (vs_if (vt_w (vw_and (vt_cmp (fun _ => od_eq hr.units) (ve_ix (fun _ => hu_of hr) (ve_var 4) ve_int (fun _ _ => rfl)) ve_str (nomark _)) (vw_and (vt_bor (vt_cmp (fun _ => od_ne hr.units) (ve_var 1) (ve_of (vf_lst va_nil)) (nomark _))) (vw_and (vt_bor (vt_cmp (fun _ => od_eq hr.units) (ve_ix (fun _ => hu_of hr) (ve_ix (fun _ => hu_of hr) (ve_var 1) (ve_un (fun _ => ud_neg) ve_int) (fun _ _ => rfl)) ve_int (fun _ _ => rfl)) ve_str (nomark _))) (vw_and1 (vt_cmp (fun _ => od_lt) (ve_bin (fun _ => od_mod) (ve_var 3) ve_int) ve_int (nomark _)))))))
    (vss_cons (vs_app 1 (ve_tup (va_cons ve_str (va_cons (ve_bin (fun _ => od_add) ve_int (ve_bin (fun _ => od_mod) (ve_bin (fun _ => od_fdiv) (ve_var 3) ve_int) ve_int)) va_nil))))
    vss_nil)
    vss_nil)
    (vss_cons (vs_if (vt_w (vw_or (vt_cmp (fun _ => od_ne hr.units) (ve_ix (fun _ => hu_of hr) (ve_var 4) ve_int (fun _ _ => rfl)) ve_str (nomark _)) (vw_or (vt_bor (vt_cmp (fun _ => od_eq hr.units) (ve_var 1) (ve_of (vf_lst va_nil)) (nomark _))) (vw_or1 (vt_bor (vt_cmp (fun _ => od_ne hr.units) (ve_ix (fun _ => hu_of hr) (ve_ix (fun _ => hu_of hr) (ve_var 1) (ve_un (fun _ => ud_neg) ve_int) (fun _ _ => rfl)) ve_int (fun _ _ => rfl)) ve_str (nomark _)))))))
    (vss_cons (vs_app 1 (ve_var 4))
    vss_nil)
    vss_nil)
    vss_nil)))))
    (vss_cons (vs_if (vt_w (vw_and (vt_bor (vt_cmp (fun _ => od_ne hr.units) (ve_var 1) (ve_of (vf_lst va_nil)) (nomark _))) (vw_and1 (vt_bor (vt_cmp (fun _ => od_eq hr.units) (ve_ix (fun _ => hu_of hr) (ve_ix (fun _ => hu_of hr) (ve_var 1) (ve_un (fun _ => ud_neg) ve_int) (fun _ _ => rfl)) ve_int (fun _ _ => rfl)) ve_str (nomark _))))))
    (vss_cons (vs_expr (ve_pop 1))
    vss_nil)
    vss_nil)
    (vss_cons (vs_retF (vf_own 1))
    vss_nil)))) : VSs _ _ _ _ b__law_track)
theorem sc__law_is_name : FnScope ["_law_text", "_law_sign"] ["_law_text"] (defScope (topS 42)) := ⟨rfl, rfl, rfl, by decide +kernel, rfl, by decide +kernel, by decide +kernel⟩
theorem ok__law_is_name (T : Top K w mg) : Ok1 P w K mg "_law_is_name" ["_law_text"] 1 (spV K mg fn__law_is_name) :=
  Def1.V T.d__law_is_name sc__law_is_name (by decide) fun base f cdv A outer s H E hr => ((vss_cons (vs_ret (ve_and (ve_chain (fun _ => od_le) (fun _ => od_le) le_bl ve_int (ve_bf (fun _ => cd_len (.inr trivial)) (fun _ => T.z_len) (by decide +kernel) (va_cons (ve_var 0) va_nil)) ve_int) (ve_one (ve_bf (fun _ => cd_all rfl) (fun _ => T.z_all) (by decide +kernel) (va_cons (ve_of (vf_lc (fun _ => rfl) (fun _ => sc__law_is_name.nd) (vi_seq (ve_var 0)) (own := [("_law_sign", 1)]) (fun _ => blkOk_by (by kernel_rfl)) (vg_name 1 (fun _ => sc__law_is_name.nd)) vts_nil (ve_cmp (fun _ => od_inS) (ve_var 1) ve_str (by rfl)))) va_nil)))))
    vss_nil) : VSs _ _ _ _ b__law_is_name)
theorem sc__law_number : FnScope ["_law_text", "_law_least", "_law_figures", "_law_sign"] ["_law_text", "_law_least"] (defScope (topS 40)) := ⟨rfl, rfl, rfl, by decide +kernel, rfl, by decide +kernel, by decide +kernel⟩
theorem ok__law_number (T : Top K w mg) : Ok1 P w K mg "_law_number" ["_law_text", "_law_least"] 1 (spV K mg fn__law_number) :=
  Def1.V T.d__law_number sc__law_number (by decide) fun base f cdv A outer s H E hr => ((vss_cons (vs_set 2 sc__law_number.nd (ve_var 0))
    (vss_cons (vs_if (vt_cmp (fun _ => od_eq hr.units) (ve_slT (ve_var 0) vp_none (vp_some ve_int)) ve_str (nomark _))
    (vss_cons (vs_set 2 sc__law_number.nd (ve_slT (ve_var 0) (vp_some ve_int) vp_none))
    vss_nil)
    vss_nil)
    (vss_cons (vs_if (vt_w (vw_or (vt_cmp (fun _ => od_eq hr.units) (ve_var 2) ve_str (nomark _)) (vw_or (vt_cmp (fun _ => od_gt) (ve_bf (fun _ => cd_len (.inr trivial)) (fun _ => T.z_len) (by decide +kernel) (va_cons (ve_var 2) va_nil)) ve_int (nomark _)) (vw_or1 (vt_w (vw_and (vt_cmp (fun _ => od_eq hr.units) (ve_ix (fun _ => hu_of hr) (ve_var 2) ve_int (fun _ _ => rfl)) ve_str (nomark _)) (vw_and1 (vt_cmp (fun _ => od_ne hr.units) (ve_var 0) ve_str (nomark _)))))))))
    (vss_cons (vs_ret ve_non)
    vss_nil)
    vss_nil)
    (vss_cons (vs_if (vt_w (vw_or (vt_val (ve_bf (fun _ => cd_any rfl) (fun _ => T.z_any) (by decide +kernel) (va_cons (ve_of (vf_lc (fun _ => rfl) (fun _ => sc__law_number.nd) (vi_seq (ve_var 2)) (own := [("_law_sign", 3)]) (fun _ => blkOk_by (by kernel_rfl)) (vg_name 3 (fun _ => sc__law_number.nd)) vts_nil (ve_cmp (fun _ => od_notinS) (ve_var 3) ve_str (by rfl)))) va_nil))) (vw_or1 (vt_w (vw_and (vt_cmp (fun _ => od_isnot) (ve_var 1) ve_non (nomark _)) (vw_and1 (vt_cmp (fun _ => od_lt) (ve_bt (fun _ => cd_intS) (fun _ => T.z_int) (by decide +kernel) (va_cons (ve_var 0) va_nil)) (ve_var 1) (nomark _))))))))
    (vss_cons (vs_ret ve_non)
    vss_nil)
    vss_nil)
    (vss_cons (vs_ret (ve_bt (fun _ => cd_intS) (fun _ => T.z_int) (by decide +kernel) (va_cons (ve_var 0) va_nil)))
    vss_nil))))) : VSs _ _ _ _ b__law_number)
theorem sc__law_fraction : FnScope ["_law_text", "_law_parts", "_law_one", "_law_other"] ["_law_text"] (defScope (topS 41)) := ⟨rfl, rfl, rfl, by decide +kernel, rfl, by decide +kernel, by decide +kernel⟩
theorem ok__law_fraction (T : Top K w mg) : Ok1 P w K mg "_law_fraction" ["_law_text"] 2 (spV K mg fn__law_fraction) :=
  Def1.V T.d__law_fraction sc__law_fraction (by decide) fun base f cdv A outer s H E hr => ((vss_cons (vs_set 1 sc__law_fraction.nd (ve_of (vf_split (ve_var 0) ve_str)))
    (vss_cons (vs_if (vt_w (vw_or (vt_cmp (fun _ => od_gt) (ve_bf (fun _ => cd_len (.inr trivial)) (fun _ => T.z_len) (by decide +kernel) (va_cons (ve_var 1) va_nil)) ve_int (nomark _)) (vw_or1 (vt_cmp (fun _ => od_is) (ve_cal (ok__law_number T) (fun _ => hr) (fun _ => (takes_of rfl rfl rfl rfl)) (va_cons (ve_ix (fun _ => hu_of hr) (ve_var 1) ve_int (fun _ _ => rfl)) (va_cons ve_non va_nil))) ve_non (nomark _)))))
    (vss_cons (vs_ret ve_non)
    vss_nil)
    vss_nil)
    (vss_cons (vs_if (vt_cmp (fun _ => od_eq hr.units) (ve_bf (fun _ => cd_len (.inr trivial)) (fun _ => T.z_len) (by decide +kernel) (va_cons (ve_var 1) va_nil)) ve_int (nomark _))
    (vss_cons (vs_ret (ve_tup (va_cons (ve_bt (fun _ => cd_intS) (fun _ => T.z_int) (by decide +kernel) (va_cons (ve_var 0) va_nil)) (va_cons ve_int va_nil))))
    vss_nil)
    vss_nil)
    (vss_cons (vs_if (vt_cmp (fun _ => od_is) (ve_cal (ok__law_number T) (fun _ => hr) (fun _ => (takes_of rfl rfl rfl rfl)) (va_cons (ve_ix (fun _ => hu_of hr) (ve_var 1) ve_int (fun _ _ => rfl)) (va_cons ve_int va_nil))) ve_non (nomark _))
    (vss_cons (vs_ret ve_non)
    vss_nil)
    vss_nil)
    (vss_cons (vs_set 2 sc__law_fraction.nd (ve_bf (fun _ => cd_abs) (fun _ => T.z_abs) (by decide +kernel) (va_cons (ve_bt (fun _ => cd_intS) (fun _ => T.z_int) (by decide +kernel) (va_cons (ve_ix (fun _ => hu_of hr) (ve_var 1) ve_int (fun _ _ => rfl)) va_nil)) va_nil)))
    (vss_cons (vs_set 3 sc__law_fraction.nd (ve_bt (fun _ => cd_intS) (fun _ => T.z_int) (by decide +kernel) (va_cons (ve_ix (fun _ => hu_of hr) (ve_var 1) ve_int (fun _ _ => rfl)) va_nil)))
    (vss_cons (vs_while (passes_of rfl) (vt_cmp (fun _ => od_ne hr.units) (ve_var 3) ve_int (nomark _))
    (vss_cons (vs_par rfl sc__law_fraction.nd (by decide) (ve_var 3) (ve_bin (fun _ => od_mod) (ve_var 2) (ve_var 3)))
    vss_nil))
    (vss_cons (vs_if (vt_cmp (fun _ => od_ne hr.units) (ve_var 2) ve_int (nomark _))
    (vss_cons (vs_ret ve_non)
    vss_nil)
    vss_nil)
    (vss_cons (vs_ret (ve_tup (va_cons (ve_bt (fun _ => cd_intS) (fun _ => T.z_int) (by decide +kernel) (va_cons (ve_ix (fun _ => hu_of hr) (ve_var 1) ve_int (fun _ _ => rfl)) va_nil)) (va_cons (ve_bt (fun _ => cd_intS) (fun _ => T.z_int) (by decide +kernel) (va_cons (ve_ix (fun _ => hu_of hr) (ve_var 1) ve_int (fun _ _ => rfl)) va_nil)) va_nil))))
    vss_nil))))))))) : VSs _ _ _ _ b__law_fraction)
theorem sc__law_item_read : FnScope ["_law_text", "_law_words", "_law_kind", "_law_found", "_law_part_here"] ["_law_text"] (defScope (topS 43)) := ⟨rfl, rfl, rfl, by decide +kernel, rfl, by decide +kernel, by decide +kernel⟩
theorem ok__law_item_read (T : Top K w mg) : Ok1 P w K mg "_law_item_read" ["_law_text"] 3 (spV K mg fn__law_item_read) :=
  Def1.V T.d__law_item_read sc__law_item_read (by decide) fun base f cdv A outer s H E hr => ((vss_cons (vs_set 1 sc__law_item_read.nd (ve_of (vf_split (ve_var 0) ve_str)))
    (vss_cons (vs_set 2 sc__law_item_read.nd (ve_ix (fun _ => hu_of hr) (ve_var 1) ve_int (fun _ _ => rfl)))
    (vss_cons (vs_set 3 sc__law_item_read.nd ve_non)
    (vss_cons (vs_if (vt_w (vw_and (vt_cmp (fun _ => od_eq hr.units) (ve_bf (fun _ => cd_len (.inr trivial)) (fun _ => T.z_len) (by decide +kernel) (va_cons (ve_var 1) va_nil)) ve_int (nomark _)) (vw_and (vt_cmp (fun _ => od_eq hr.units) (ve_var 2) ve_str (nomark _)) (vw_and1 (vt_val (ve_cal (ok__law_is_name T) (fun _ => hr) (fun _ => (takes_of rfl rfl rfl rfl)) (va_cons (ve_ix (fun _ => hu_of hr) (ve_var 1) ve_int (fun _ _ => rfl)) va_nil)))))))
    (vss_cons (vs_set 3 sc__law_item_read.nd (ve_tup (va_cons (ve_var 2) (va_cons (ve_ix (fun _ => hu_of hr) (ve_var 1) ve_int (fun _ _ => rfl)) (va_cons (ve_cal (ok__law_fraction T) (fun _ => hr) (fun _ => (takes_of rfl rfl rfl rfl)) (va_cons (ve_ix (fun _ => hu_of hr) (ve_var 1) ve_int (fun _ _ => rfl)) va_nil)) (va_cons (ve_cal (ok__law_fraction T) (fun _ => hr) (fun _ => (takes_of rfl rfl rfl rfl)) (va_cons (ve_ix (fun _ => hu_of hr) (ve_var 1) ve_int (fun _ _ => rfl)) va_nil)) va_nil))))))
    (vss_cons (vs_set 3 sc__law_item_read.nd (ve_bin (fun _ => od_add) (ve_var 3) (ve_tup (va_cons (ve_cal (ok__law_number T) (fun _ => hr) (fun _ => (takes_of rfl rfl rfl rfl)) (va_cons (ve_ix (fun _ => hu_of hr) (ve_var 1) ve_int (fun _ _ => rfl)) (va_cons ve_int va_nil))) va_nil))))
    vss_nil))
    vss_nil)
    (vss_cons (vs_if (vt_w (vw_and (vt_cmp (fun _ => od_eq hr.units) (ve_bf (fun _ => cd_len (.inr trivial)) (fun _ => T.z_len) (by decide +kernel) (va_cons (ve_var 1) va_nil)) ve_int (nomark _)) (vw_and (vt_cmp (fun _ => od_eq hr.units) (ve_var 2) ve_str (nomark _)) (vw_and1 (vt_val (ve_cal (ok__law_is_name T) (fun _ => hr) (fun _ => (takes_of rfl rfl rfl rfl)) (va_cons (ve_ix (fun _ => hu_of hr) (ve_var 1) ve_int (fun _ _ => rfl)) va_nil)))))))
    (vss_cons (vs_set 3 sc__law_item_read.nd (ve_tup (va_cons (ve_var 2) (va_cons (ve_ix (fun _ => hu_of hr) (ve_var 1) ve_int (fun _ _ => rfl)) (va_cons (ve_cal (ok__law_number T) (fun _ => hr) (fun _ => (takes_of rfl rfl rfl rfl)) (va_cons (ve_ix (fun _ => hu_of hr) (ve_var 1) ve_int (fun _ _ => rfl)) (va_cons ve_int va_nil))) (va_cons (ve_cal (ok__law_number T) (fun _ => hr) (fun _ => (takes_of rfl rfl rfl rfl)) (va_cons (ve_ix (fun _ => hu_of hr) (ve_var 1) ve_int (fun _ _ => rfl)) (va_cons ve_int va_nil))) va_nil))))))
    vss_nil)
    vss_nil)
    (vss_cons (vs_if (vt_w (vw_and (vt_cmp (fun _ => od_eq hr.units) (ve_bf (fun _ => cd_len (.inr trivial)) (fun _ => T.z_len) (by decide +kernel) (va_cons (ve_var 1) va_nil)) ve_int (nomark _)) (vw_and1 (vt_cmp (fun _ => od_in (hu_of hr)) (ve_var 2) (ve_of (vf_lst (va_cons ve_str (va_cons ve_str va_nil)))) (by rfl)))))
    (vss_cons (vs_set 3 sc__law_item_read.nd (ve_tup (va_cons (ve_var 2) (va_cons (ve_cal (ok__law_number T) (fun _ => hr) (fun _ => (takes_of rfl rfl rfl rfl)) (va_cons (ve_ix (fun _ => hu_of hr) (ve_var 1) ve_int (fun _ _ => rfl)) (va_cons ve_int va_nil))) va_nil))))
    vss_nil)
    vss_nil)
    (vss_cons (vs_if (vt_w (vw_or (vt_cmp (fun _ => od_is) (ve_var 3) ve_non (nomark _)) (vw_or1 (vt_val (ve_bf (fun _ => cd_any rfl) (fun _ => T.z_any) (by decide +kernel) (va_cons (ve_of (vf_lc (fun _ => rfl) (fun _ => sc__law_item_read.nd) (vi_seq (ve_var 3)) (own := [("_law_part_here", 4)]) (fun _ => blkOk_by (by kernel_rfl)) (vg_name 4 (fun _ => sc__law_item_read.nd)) vts_nil (ve_cmp (fun _ => od_is) (ve_var 4) ve_non (nomark _)))) va_nil))))))
    (vss_cons (vs_ret ve_non)
    vss_nil)
    vss_nil)
    (vss_cons (vs_ret (ve_var 3))
    vss_nil)))))))) : VSs _ _ _ _ b__law_item_read)
theorem sc__law_one_form : FnScope ["_law_track_here", "_law_words", "_law_k", "_law_item"] ["_law_track_here"] (defScope (topS 39)) := ⟨rfl, rfl, rfl, by decide +kernel, rfl, by decide +kernel, by decide +kernel⟩
theorem ok__law_one_form (T : Top K w mg) : Ok1 P w K mg "_law_one_form" ["_law_track_here"] 1 (spV K mg fn__law_one_form) :=
  Def1.V T.d__law_one_form sc__law_one_form (by decide) fun base f cdv A outer s H E hr => ((vss_cons (vs_set 1 sc__law_one_form.nd (ve_of (vf_cat (ve_of (vf_cat (ve_of (vf_lst (va_cons ve_str va_nil))) (ve_of (vf_lc (fun _ => rfl) (fun _ => sc__law_one_form.nd) (vi_seq (ve_var 0)) (own := [("_law_item", 3)]) (fun _ => blkOk_by (by kernel_rfl)) (vg_name 3 (fun _ => sc__law_one_form.nd)) vts_nil (ve_ix (fun _ => hu_of hr) (ve_var 3) ve_int (fun _ _ => rfl)))))) (ve_of (vf_lst (va_cons ve_str va_nil))))))
    (vss_cons (vs_for (passes_of rfl) rfl (vi_rng2 (fun _ => T.z_range) (va_cons ve_int (va_cons (ve_bf (fun _ => cd_len (.inr trivial)) (fun _ => T.z_len) (by decide +kernel) (va_cons (ve_var 1) va_nil)) va_nil))) (vg_name 2 (fun _ => sc__law_one_form.nd))
    (vss_cons (vs_if (vt_w (vw_and (vt_cmp (fun _ => od_eq hr.units) (ve_ix (fun _ => hu_of hr) (ve_var 1) (ve_bin (fun _ => od_sub) (ve_var 2) ve_int) (fun _ _ => rfl)) ve_str (nomark _)) (vw_and1 (vt_cmp (fun _ => od_in (hu_of hr)) (ve_ix (fun _ => hu_of hr) (ve_var 1) (ve_var 2) (fun _ _ => rfl)) (ve_of (vf_lst (va_cons ve_str (va_cons ve_str va_nil)))) (by rfl)))))
    (vss_cons (vs_ret ve_bl)
    vss_nil)
    vss_nil)
    (vss_cons (vs_if (vt_w (vw_and (vt_cmp (fun _ => od_eq hr.units) (ve_ix (fun _ => hu_of hr) (ve_var 1) (ve_var 2) (fun _ _ => rfl)) ve_str (nomark _)) (vw_and1 (vt_w (vw_or (vt_cmp (fun _ => od_ne hr.units) (ve_ix (fun _ => hu_of hr) (ve_var 1) (ve_bin (fun _ => od_sub) (ve_var 2) ve_int) (fun _ _ => rfl)) ve_str (nomark _)) (vw_or1 (vt_cmp (fun _ => od_ne hr.units) (ve_ix (fun _ => hu_of hr) (ve_var 1) (ve_bin (fun _ => od_add) (ve_var 2) ve_int) (fun _ _ => rfl)) ve_str (nomark _))))))))
    (vss_cons (vs_ret ve_bl)
    vss_nil)
    vss_nil)
    vss_nil)))
    (vss_cons (vs_ret ve_bl)
    vss_nil))) : VSs _ _ _ _ b__law_one_form)
theorem sc__law_track_read : FnScope ["_law_text", "_law_track_here", "_law_part_here", "_law_item"] ["_law_text"] (defScope (topS 44)) := ⟨rfl, rfl, rfl, by decide +kernel, rfl, by decide +kernel, by decide +kernel⟩
theorem ok__law_track_read (T : Top K w mg) : Ok1 P w K mg "_law_track_read" ["_law_text"] 4 (spV K mg fn__law_track_read) :=
  Def1.V T.d__law_track_read sc__law_track_read (by decide) fun base f cdv A outer s H E hr => ((vss_cons (vs_if (vt_cmp (fun _ => od_eq hr.units) (ve_var 0) ve_str (nomark _))
    (vss_cons (vs_ret (ve_of (vf_lst va_nil)))
    vss_nil)
    vss_nil)
    (vss_cons (vs_setLc 1 rfl sc__law_track_read.nd (vi_seq (ve_of (vf_split (ve_var 0) ve_str))) (own := [("_law_part_here", 2)]) (blkOk_by (by kernel_rfl)) (vg_name 2 (fun _ => sc__law_track_read.nd)) vts_nil (ve_cal (ok__law_item_read T) (fun _ => hr) (fun _ => takes0) (va_cons (ve_var 2) va_nil)) (sw_true rfl rfl rfl (by decide +kernel)))
    (vss_cons (vs_if (vt_w (vw_or (vt_val (ve_bf (fun _ => cd_any rfl) (fun _ => T.z_any) (by decide +kernel) (va_cons (ve_of (vf_lc (fun _ => rfl) (fun _ => sc__law_track_read.nd) (vi_seq (ve_var 1)) (own := [("_law_item", 3)]) (fun _ => blkOk_by (by kernel_rfl)) (vg_name 3 (fun _ => sc__law_track_read.nd)) vts_nil (ve_cmp (fun _ => od_is) (ve_var 3) ve_non (nomark _)))) va_nil))) (vw_or1 (vt_not (vt_val (ve_cal (ok__law_one_form T) (fun _ => hr) (fun _ => (takes_of rfl rfl rfl rfl)) (va_cons (ve_var 1) va_nil)))))))
    (vss_cons (vs_ret ve_non)
    vss_nil)
    vss_nil)
    (vss_cons (vs_ret (ve_var 1))
    vss_nil)))) : VSs _ _ _ _ b__law_track_read)
theorem sc_read_number : FnScope ["text", "figures", "sign"] ["text"] (defScope (topS 21)) := ⟨rfl, rfl, rfl, by decide +kernel, rfl, by decide +kernel, by decide +kernel⟩
theorem ok_read_number (T : Top K w mg) : Ok1 P w K mg "read_number" ["text"] 1 (spV K mg fn_read_number) :=
  Def1.V T.d_read_number sc_read_number (by decide) fun base f cdv A outer s H E hr => ((vss_cons (vs_if (vt_not (vt_val (ve_isi kit_str (fun _ => T.z_isinstance) (fun _ => T.z_str) (by decide +kernel) (by decide +kernel) (ve_var 0))))
    (vss_cons (T.x_NoText.elim fun _ h => vs_raise0 h (takes_of rfl rfl rfl rfl) rfl)
    vss_nil)
    vss_nil)
    (vss_cons (vs_set 1 sc_read_number.nd (ve_var 0))
    (vss_cons (vs_if (vt_val (ve_starts (ve_var 0) ve_str))
    (vss_cons (vs_set 1 sc_read_number.nd (ve_slT (ve_var 0) (vp_some ve_int) vp_none))
    vss_nil)
    vss_nil)
    (vss_cons (vs_if (vt_w (vw_or (vt_cmp (fun _ => od_eq hr.units) (ve_var 1) ve_str (nomark _)) (vw_or (vt_cmp (fun _ => od_gt) (ve_bf (fun _ => cd_len (.inr trivial)) (fun _ => T.z_len) (by decide +kernel) (va_cons (ve_var 1) va_nil)) (ve_con T.g_MOST_FIGURES) (nomark _)) (vw_or1 (vt_w (vw_and (vt_cmp (fun _ => od_eq hr.units) (ve_ix (fun _ => hu_of hr) (ve_var 1) ve_int (fun _ _ => rfl)) ve_str (nomark _)) (vw_and1 (vt_cmp (fun _ => od_ne hr.units) (ve_var 0) ve_str (nomark _)))))))))
    (vss_cons (T.x_NoText.elim fun _ h => vs_raise0 h (takes_of rfl rfl rfl rfl) rfl)
    vss_nil)
    vss_nil)
    (vss_cons (vs_for (passes_of rfl) rfl (vi_seq (ve_var 1)) (vg_name 2 (fun _ => sc_read_number.nd))
    (vss_cons (vs_if (vt_cmp (fun _ => od_notinS) (ve_var 2) (ve_con T.g_FIGURES) (by rfl))
    (vss_cons (T.x_NoText.elim fun _ h => vs_raise0 h (takes_of rfl rfl rfl rfl) rfl)
    vss_nil)
    vss_nil)
    vss_nil))
    (vss_cons (vs_ret (ve_bt (fun _ => cd_intS) (fun _ => T.z_int) (by decide +kernel) (va_cons (ve_var 0) va_nil)))
    vss_nil)))))) : VSs _ _ _ _ b_read_number)
theorem sc_shared_by : FnScope ["one", "other"] ["one", "other"] (defScope (topS 7)) := ⟨rfl, rfl, rfl, by decide +kernel, rfl, by decide +kernel, by decide +kernel⟩
theorem ok_shared_by (T : Top K w mg) : Ok1 P w K mg "shared_by" ["one", "other"] 1 (spV K mg fn_shared_by) :=
  Def1.V T.d_shared_by sc_shared_by (by decide) fun base f cdv A outer s H E hr => ((vss_cons (vs_while (passes_of rfl) (vt_cmp (fun _ => od_ne hr.units) (ve_var 1) ve_int (nomark _))
    (vss_cons (vs_par rfl sc_shared_by.nd (by decide) (ve_var 1) (ve_bin (fun _ => od_mod) (ve_var 0) (ve_var 1)))
    vss_nil))
    (vss_cons (vs_ret (ve_bf (fun _ => cd_abs) (fun _ => T.z_abs) (by decide +kernel) (va_cons (ve_var 0) va_nil)))
    vss_nil)) : VSs _ _ _ _ b_shared_by)
theorem sc_is_whole : FnScope ["x"] ["x"] (defScope (topS 6)) := ⟨rfl, rfl, rfl, by decide +kernel, rfl, by decide +kernel, by decide +kernel⟩
theorem ok_is_whole (T : Top K w mg) : Ok1 P w K mg "is_whole" ["x"] 1 (spV K mg fn_is_whole) :=
  Def1.V T.d_is_whole sc_is_whole (by decide) fun base f cdv A outer s H E hr => ((vss_cons (vs_ret (ve_and (ve_isi kit_int (fun _ => T.z_isinstance) (fun _ => T.z_int) (by decide +kernel) (by decide +kernel) (ve_var 0)) (ve_one (ve_not (ve_isi kit_bool (fun _ => T.z_isinstance) (fun _ => T.z_bool) (by decide +kernel) (by decide +kernel) (ve_var 0))))))
    vss_nil) : VSs _ _ _ _ b_is_whole)
theorem sc_fraction : FnScope ["top", "bottom", "share"] ["top", "bottom"] (defScope (topS 8)) := ⟨rfl, rfl, rfl, by decide +kernel, rfl, by decide +kernel, by decide +kernel⟩
theorem ok_fraction (T : Top K w mg) : Ok1 P w K mg "fraction" ["top", "bottom"] 2 (spV K mg fn_fraction) :=
  Def1.V T.d_fraction sc_fraction (by decide) fun base f cdv A outer s H E hr => ((vss_cons (vs_if (vt_w (vw_or (vt_not (vt_val (ve_cal (ok_is_whole T) (fun _ => hr) (fun _ => (takes_of rfl rfl rfl rfl)) (va_cons (ve_var 0) va_nil)))) (vw_or (vt_not (vt_val (ve_cal (ok_is_whole T) (fun _ => hr) (fun _ => (takes_of rfl rfl rfl rfl)) (va_cons (ve_var 1) va_nil)))) (vw_or1 (vt_cmp (fun _ => od_eq hr.units) (ve_var 1) ve_int (nomark _))))))
    (vss_cons (T.x_NoNumber.elim fun _ h => vs_raise0 h (takes_of rfl rfl rfl rfl) rfl)
    vss_nil)
    vss_nil)
    (vss_cons (vs_set 2 sc_fraction.nd (ve_cal (ok_shared_by T) (fun _ => hr) (fun _ => (takes_of rfl rfl rfl rfl)) (va_cons (ve_var 0) (va_cons (ve_var 1) va_nil))))
    (vss_cons (vs_if (vt_cmp (fun _ => od_lt) (ve_var 1) ve_int (nomark _))
    (vss_cons (vs_set 2 sc_fraction.nd (ve_un (fun _ => ud_neg) (ve_var 2)))
    vss_nil)
    vss_nil)
    (vss_cons (vs_ret (ve_tup (va_cons (ve_bin (fun _ => od_fdiv) (ve_var 0) (ve_var 2)) (va_cons (ve_bin (fun _ => od_fdiv) (ve_var 1) (ve_var 2)) va_nil))))
    vss_nil)))) : VSs _ _ _ _ b_fraction)
theorem sc_read_fraction : FnScope ["text", "top", "stroke", "bottom", "pair"] ["text"] (defScope (topS 22)) := ⟨rfl, rfl, rfl, by decide +kernel, rfl, by decide +kernel, by decide +kernel⟩
theorem ok_read_fraction (T : Top K w mg) : Ok1 P w K mg "read_fraction" ["text"] 3 (spV K mg fn_read_fraction) :=
  Def1.V T.d_read_fraction sc_read_fraction (by decide) fun base f cdv A outer s H E hr => ((vss_cons (vs_if (vt_not (vt_val (ve_isi kit_str (fun _ => T.z_isinstance) (fun _ => T.z_str) (by decide +kernel) (by decide +kernel) (ve_var 0))))
    (vss_cons (T.x_NoText.elim fun _ h => vs_raise0 h (takes_of rfl rfl rfl rfl) rfl)
    vss_nil)
    vss_nil)
    (vss_cons (vs_asg (ve_parti (ve_var 0) ve_str) (vg_tup (fun _ => rfl) (vgs_cons (vg_name 1 (fun _ => sc_read_fraction.nd)) (vgs_cons (vg_name 2 (fun _ => sc_read_fraction.nd)) (vgs_cons (vg_name 3 (fun _ => sc_read_fraction.nd)) vgs_nil)))))
    (vss_cons (vs_if (vt_cmp (fun _ => od_eq hr.units) (ve_var 2) ve_str (nomark _))
    (vss_cons (vs_ret (ve_tup (va_cons (ve_cal (ok_read_number T) (fun _ => hr) (fun _ => (takes_of rfl rfl rfl rfl)) (va_cons (ve_var 0) va_nil)) (va_cons ve_int va_nil))))
    vss_nil)
    vss_nil)
    (vss_cons (vs_set 4 sc_read_fraction.nd (ve_tup (va_cons (ve_cal (ok_read_number T) (fun _ => hr) (fun _ => (takes_of rfl rfl rfl rfl)) (va_cons (ve_var 1) va_nil)) (va_cons (ve_cal (ok_read_number T) (fun _ => hr) (fun _ => (takes_of rfl rfl rfl rfl)) (va_cons (ve_var 3) va_nil)) va_nil))))
    (vss_cons (vs_if (vt_w (vw_or (vt_cmp (fun _ => od_lt) (ve_ix (fun _ => hu_of hr) (ve_var 4) ve_int (fun _ _ => rfl)) ve_int (nomark _)) (vw_or1 (vt_cmp (fun _ => od_ne hr.units) (ve_cal (ok_fraction T) (fun _ => hr) (fun _ => (takes_of rfl rfl rfl rfl)) (va_cons (ve_ix (fun _ => hu_of hr) (ve_var 4) ve_int (fun _ _ => rfl)) (va_cons (ve_ix (fun _ => hu_of hr) (ve_var 4) ve_int (fun _ _ => rfl)) va_nil))) (ve_var 4) (nomark _)))))
    (vss_cons (T.x_NoText.elim fun _ h => vs_raise0 h (takes_of rfl rfl rfl rfl) rfl)
    vss_nil)
    vss_nil)
    (vss_cons (vs_ret (ve_var 4))
    vss_nil)))))) : VSs _ _ _ _ b_read_fraction)
theorem sc_is_name : FnScope ["thing"] ["thing"] (defScope (topS 12)) := ⟨rfl, rfl, rfl, by decide +kernel, rfl, by decide +kernel, by decide +kernel⟩
theorem ok_is_name (T : Top K w mg) : Ok1 P w K mg "is_name" ["thing"] 1 (spV K mg fn_is_name) :=
  Def1.V T.d_is_name sc_is_name (by decide) fun base f cdv A outer s H E hr => ((vss_cons (vs_if (vt_w (vw_or (vt_not (vt_val (ve_isi kit_str (fun _ => T.z_isinstance) (fun _ => T.z_str) (by decide +kernel) (by decide +kernel) (ve_var 0)))) (vw_or (vt_cmp (fun _ => od_eq hr.units) (ve_var 0) ve_str (nomark _)) (vw_or1 (vt_cmp (fun _ => od_gt) (ve_bf (fun _ => cd_len (.inr trivial)) (fun _ => T.z_len) (by decide +kernel) (va_cons (ve_var 0) va_nil)) (ve_con T.g_MOST_LETTERS) (nomark _))))))
    (vss_cons (vs_ret ve_bl)
    vss_nil)
    vss_nil)
    (vss_cons (vs_ret (ve_cmp (fun _ => od_eq hr.units) (ve_strip (ve_var 0) (ve_con T.g_LETTERS)) ve_str (nomark _)))
    vss_nil)) : VSs _ _ _ _ b_is_name)
theorem sc_read_name : FnScope ["text"] ["text"] (defScope (topS 24)) := ⟨rfl, rfl, rfl, by decide +kernel, rfl, by decide +kernel, by decide +kernel⟩
theorem ok_read_name (T : Top K w mg) : Ok1 P w K mg "read_name" ["text"] 2 (spV K mg fn_read_name) :=
  Def1.V T.d_read_name sc_read_name (by decide) fun base f cdv A outer s H E hr => ((vss_cons (vs_if (vt_not (vt_val (ve_cal (ok_is_name T) (fun _ => hr) (fun _ => (takes_of rfl rfl rfl rfl)) (va_cons (ve_var 0) va_nil))))
    (vss_cons (T.x_NoText.elim fun _ h => vs_raise0 h (takes_of rfl rfl rfl rfl) rfl)
    vss_nil)
    vss_nil)
    (vss_cons (vs_ret (ve_var 0))
    vss_nil)) : VSs _ _ _ _ b_read_name)
theorem sc_read_from : FnScope ["text", "least", "number"] ["text", "least"] (defScope (topS 23)) := ⟨rfl, rfl, rfl, by decide +kernel, rfl, by decide +kernel, by decide +kernel⟩
theorem ok_read_from (T : Top K w mg) : Ok1 P w K mg "read_from" ["text", "least"] 2 (spV K mg fn_read_from) :=
  Def1.V T.d_read_from sc_read_from (by decide) fun base f cdv A outer s H E hr => ((vss_cons (vs_set 2 sc_read_from.nd (ve_cal (ok_read_number T) (fun _ => hr) (fun _ => (takes_of rfl rfl rfl rfl)) (va_cons (ve_var 0) va_nil)))
    (vss_cons (vs_if (vt_cmp (fun _ => od_lt) (ve_var 2) (ve_var 1) (nomark _))
    (vss_cons (T.x_NoText.elim fun _ h => vs_raise0 h (takes_of rfl rfl rfl rfl) rfl)
    vss_nil)
    vss_nil)
    (vss_cons (vs_ret (ve_var 2))
    vss_nil))) : VSs _ _ _ _ b_read_from)
theorem sc_read_item : FnScope ["text", "words", "start"] ["text"] (defScope (topS 25)) := ⟨rfl, rfl, rfl, by decide +kernel, rfl, by decide +kernel, by decide +kernel⟩
theorem ok_read_item (T : Top K w mg) : Ok1 P w K mg "read_item" ["text"] 4 (spV K mg fn_read_item) :=
  Def1.V T.d_read_item sc_read_item (by decide) fun base f cdv A outer s H E hr => ((vss_cons (vs_if (vt_not (vt_val (ve_isi kit_str (fun _ => T.z_isinstance) (fun _ => T.z_str) (by decide +kernel) (by decide +kernel) (ve_var 0))))
    (vss_cons (T.x_NoText.elim fun _ h => vs_raise0 h (takes_of rfl rfl rfl rfl) rfl)
    vss_nil)
    vss_nil)
    (vss_cons (vs_set 1 sc_read_item.nd (ve_of (vf_split (ve_var 0) ve_str)))
    (vss_cons (vs_if (vt_w (vw_and (vt_cmp (fun _ => od_eq hr.units) (ve_bf (fun _ => cd_len (.inr trivial)) (fun _ => T.z_len) (by decide +kernel) (va_cons (ve_var 1) va_nil)) ve_int (nomark _)) (vw_and1 (vt_cmp (fun _ => od_eq hr.units) (ve_ix (fun _ => hu_of hr) (ve_var 1) ve_int (fun _ _ => rfl)) ve_str (nomark _)))))
    (vss_cons (vs_set 2 sc_read_item.nd (ve_cal (ok_read_fraction T) (fun _ => hr) (fun _ => (takes_of rfl rfl rfl rfl)) (va_cons (ve_ix (fun _ => hu_of hr) (ve_var 1) ve_int (fun _ _ => rfl)) va_nil)))
    (vss_cons (vs_ret (ve_tup (va_cons ve_str (va_cons (ve_cal (ok_read_name T) (fun _ => hr) (fun _ => (takes_of rfl rfl rfl rfl)) (va_cons (ve_ix (fun _ => hu_of hr) (ve_var 1) ve_int (fun _ _ => rfl)) va_nil)) (va_cons (ve_var 2) (va_cons (ve_cal (ok_read_fraction T) (fun _ => hr) (fun _ => (takes_of rfl rfl rfl rfl)) (va_cons (ve_ix (fun _ => hu_of hr) (ve_var 1) ve_int (fun _ _ => rfl)) va_nil)) (va_cons (ve_cal (ok_read_from T) (fun _ => hr) (fun _ => (takes_of rfl rfl rfl rfl)) (va_cons (ve_ix (fun _ => hu_of hr) (ve_var 1) ve_int (fun _ _ => rfl)) (va_cons ve_int va_nil))) va_nil)))))))
    vss_nil))
    vss_nil)
    (vss_cons (vs_if (vt_w (vw_and (vt_cmp (fun _ => od_eq hr.units) (ve_bf (fun _ => cd_len (.inr trivial)) (fun _ => T.z_len) (by decide +kernel) (va_cons (ve_var 1) va_nil)) ve_int (nomark _)) (vw_and1 (vt_cmp (fun _ => od_eq hr.units) (ve_ix (fun _ => hu_of hr) (ve_var 1) ve_int (fun _ _ => rfl)) ve_str (nomark _)))))
    (vss_cons (vs_ret (ve_tup (va_cons ve_str (va_cons (ve_cal (ok_read_name T) (fun _ => hr) (fun _ => (takes_of rfl rfl rfl rfl)) (va_cons (ve_ix (fun _ => hu_of hr) (ve_var 1) ve_int (fun _ _ => rfl)) va_nil)) (va_cons (ve_cal (ok_read_from T) (fun _ => hr) (fun _ => (takes_of rfl rfl rfl rfl)) (va_cons (ve_ix (fun _ => hu_of hr) (ve_var 1) ve_int (fun _ _ => rfl)) (va_cons ve_int va_nil))) (va_cons (ve_cal (ok_read_from T) (fun _ => hr) (fun _ => (takes_of rfl rfl rfl rfl)) (va_cons (ve_ix (fun _ => hu_of hr) (ve_var 1) ve_int (fun _ _ => rfl)) (va_cons ve_int va_nil))) va_nil))))))
    vss_nil)
    vss_nil)
    (vss_cons (vs_if (vt_w (vw_and (vt_cmp (fun _ => od_eq hr.units) (ve_bf (fun _ => cd_len (.inr trivial)) (fun _ => T.z_len) (by decide +kernel) (va_cons (ve_var 1) va_nil)) ve_int (nomark _)) (vw_and1 (vt_w (vw_or (vt_cmp (fun _ => od_eq hr.units) (ve_ix (fun _ => hu_of hr) (ve_var 1) ve_int (fun _ _ => rfl)) ve_str (nomark _)) (vw_or1 (vt_cmp (fun _ => od_eq hr.units) (ve_ix (fun _ => hu_of hr) (ve_var 1) ve_int (fun _ _ => rfl)) ve_str (nomark _))))))))
    (vss_cons (vs_ret (ve_tup (va_cons (ve_ix (fun _ => hu_of hr) (ve_var 1) ve_int (fun _ _ => rfl)) (va_cons (ve_cal (ok_read_from T) (fun _ => hr) (fun _ => (takes_of rfl rfl rfl rfl)) (va_cons (ve_ix (fun _ => hu_of hr) (ve_var 1) ve_int (fun _ _ => rfl)) (va_cons ve_int va_nil))) va_nil))))
    vss_nil)
    vss_nil)
    (vss_cons (T.x_NoText.elim fun _ h => vs_raise0 h (takes_of rfl rfl rfl rfl) rfl)
    vss_nil)))))) : VSs _ _ _ _ b_read_item)
theorem sc_one_form : FnScope ["some", "track", "item"] ["some"] (defScope (topS 14)) := ⟨rfl, rfl, rfl, by decide +kernel, rfl, by decide +kernel, by decide +kernel⟩
theorem ok_one_form (T : Top K w mg) : Ok1 P w K mg "one_form" ["some"] 1 (spF K mg fn_one_form) :=
  Def1.F T.d_one_form sc_one_form (by decide) fun base f cdv A outer s H E hr => ((vss_cons (vs_setF 1 sc_one_form.nd (vf_lst va_nil))
    (vss_cons (vs_for (passes_of rfl) rfl (vi_seq (ve_var 0)) (vg_name 2 (fun _ => sc_one_form.nd))
    (vss_cons (vs_if (vt_w (vw_and (vt_cmp (fun _ => od_eq hr.units) (ve_ix (fun _ => hu_of hr) (ve_var 2) ve_int (fun _ _ => rfl)) ve_str (nomark _)) (vw_and (vt_bor (vt_cmp (fun _ => od_ne hr.units) (ve_var 1) (ve_of (vf_lst va_nil)) (nomark _))) (vw_and1 (vt_bor (vt_cmp (fun _ => od_eq hr.units) (ve_ix (fun _ => hu_of hr) (ve_ix (fun _ => hu_of hr) (ve_var 1) (ve_un (fun _ => ud_neg) ve_int) (fun _ _ => rfl)) ve_int (fun _ _ => rfl)) ve_str (nomark _)))))))
    (vss_cons (vs_sub 1 (ve_tup (va_cons ve_str (va_cons (ve_bin (fun _ => od_add) (ve_bor (ve_ix (fun _ => hu_of hr) (ve_ix (fun _ => hu_of hr) (ve_var 1) (ve_un (fun _ => ud_neg) ve_int) (fun _ _ => rfl)) ve_int (fun _ _ => rfl))) (ve_ix (fun _ => hu_of hr) (ve_var 2) ve_int (fun _ _ => rfl))) va_nil))) (ve_un (fun _ => ud_neg) ve_int))
    vss_nil)
    (vss_cons (vs_if (vt_w (vw_or (vt_cmp (fun _ => od_ne hr.units) (ve_ix (fun _ => hu_of hr) (ve_var 2) ve_int (fun _ _ => rfl)) ve_str (nomark _)) (vw_or1 (vt_cmp (fun _ => od_gt) (ve_ix (fun _ => hu_of hr) (ve_var 2) ve_int (fun _ _ => rfl)) ve_int (nomark _)))))
    (vss_cons (vs_app 1 (ve_var 2))
    vss_nil)
    vss_nil)
    vss_nil))
    vss_nil))
    (vss_cons (vs_if (vt_w (vw_and (vt_bor (vt_cmp (fun _ => od_ne hr.units) (ve_var 1) (ve_of (vf_lst va_nil)) (nomark _))) (vw_and1 (vt_bor (vt_cmp (fun _ => od_eq hr.units) (ve_ix (fun _ => hu_of hr) (ve_ix (fun _ => hu_of hr) (ve_var 1) (ve_un (fun _ => ud_neg) ve_int) (fun _ _ => rfl)) ve_int (fun _ _ => rfl)) ve_str (nomark _))))))
    (vss_cons (vs_expr (ve_pop 1))
    vss_nil)
    vss_nil)
    (vss_cons (vs_retF (vf_own 1))
    vss_nil)))) : VSs _ _ _ _ b_one_form)
theorem sc_mixes_stand : FnScope ["track", "place", "item", "beside", "one"] ["track"] (defScope (topS 26)) := ⟨rfl, rfl, rfl, by decide +kernel, rfl, by decide +kernel, by decide +kernel⟩
theorem ok_mixes_stand (T : Top K w mg) : Ok1 P w K mg "mixes_stand" ["track"] 1 (spV K mg fn_mixes_stand) :=
  Def1.V T.d_mixes_stand sc_mixes_stand (by decide) fun base f cdv A outer s H E hr => ((vss_cons (vs_for (passes_of rfl) rfl (vi_enum (fun _ => T.z_enumerate) (va_cons (ve_var 0) va_nil)) (vg_tup (fun _ => rfl) (vgs_cons (vg_name 1 (fun _ => sc_mixes_stand.nd)) (vgs_cons (vg_name 2 (fun _ => sc_mixes_stand.nd)) vgs_nil)))
    (vss_cons (vs_if (vt_cmp (fun _ => od_eq hr.units) (ve_ix (fun _ => hu_of hr) (ve_var 2) ve_int (fun _ _ => rfl)) ve_str (nomark _))
    (vss_cons (vs_setLc 3 rfl sc_mixes_stand.nd (vi_seq (ve_slT (ve_var 0) (vp_some (ve_bf (fun _ => cd_max rfl) (fun _ => T.z_max) (by decide +kernel) (va_cons ve_int (va_cons (ve_bin (fun _ => od_sub) (ve_var 1) ve_int) va_nil)))) (vp_some (ve_bin (fun _ => od_add) (ve_var 1) ve_int)))) (own := [("one", 4)]) (blkOk_by (by kernel_rfl)) (vg_name 4 (fun _ => sc_mixes_stand.nd)) vts_nil (ve_ix (fun _ => hu_of hr) (ve_var 4) ve_int (fun _ _ => rfl)) (sw_true rfl rfl rfl (by decide +kernel)))
    (vss_cons (vs_if (vt_cmp (fun _ => od_ne hr.units) (ve_var 3) (ve_of (vf_lst (va_cons ve_str (va_cons ve_str (va_cons ve_str va_nil))))) (nomark _))
    (vss_cons (vs_ret ve_bl)
    vss_nil)
    vss_nil)
    vss_nil))
    vss_nil)
    vss_nil))
    (vss_cons (vs_ret ve_bl)
    vss_nil)) : VSs _ _ _ _ b_mixes_stand)
theorem sc_read_track : FnScope ["text", "track", "part"] ["text"] (defScope (topS 27)) := ⟨rfl, rfl, rfl, by decide +kernel, rfl, by decide +kernel, by decide +kernel⟩
theorem ok_read_track (T : Top K w mg) : Ok1 P w K mg "read_track" ["text"] 5 (spF K mg fn_read_track) :=
  Def1.F T.d_read_track sc_read_track (by decide) fun base f cdv A outer s H E hr => ((vss_cons (vs_if (vt_not (vt_val (ve_isi kit_str (fun _ => T.z_isinstance) (fun _ => T.z_str) (by decide +kernel) (by decide +kernel) (ve_var 0))))
    (vss_cons (T.x_NoText.elim fun _ h => vs_raise0 h (takes_of rfl rfl rfl rfl) rfl)
    vss_nil)
    vss_nil)
    (vss_cons (vs_if (vt_cmp (fun _ => od_eq hr.units) (ve_var 0) ve_str (nomark _))
    (vss_cons (vs_retF (vf_lst va_nil))
    vss_nil)
    vss_nil)
    (vss_cons (vs_setLcFX 1 (takes_of rfl rfl rfl rfl) (fun _ _ _ _ _ h => h) rfl rfl rfl sc_read_track.nd (vi_seq (ve_of (vf_split (ve_var 0) ve_str))) (own := [("part", 2)]) (blkOk_by (by kernel_rfl)) (vg_name 2 (fun _ => sc_read_track.nd)) vts_nil (ve_calP (ok_read_item T) (fun _ => hr) (fun i => i.2) (va_cons (ve_var 2) va_nil)) (sw_true rfl rfl rfl (by decide +kernel)))
    (vss_cons (vs_if (vt_w (vw_or (vt_bor (vt_cmp (fun _ => od_ne hr.units) (ve_of (vf_cal (ok_one_form T) (fun _ => hr) (fun _ => (takes_of rfl rfl rfl rfl)) (va_cons (ve_var 1) va_nil))) (ve_var 1) (nomark _))) (vw_or1 (vt_not (vt_bor (vt_val (ve_cal (ok_mixes_stand T) (fun _ => hr) (fun _ => (takes_of rfl rfl rfl rfl)) (va_cons (ve_var 1) va_nil))))))))
    (vss_cons (T.x_NoText.elim fun _ h => vs_raise0 h (takes_of rfl rfl rfl rfl) rfl)
    vss_nil)
    vss_nil)
    (vss_cons (vs_retF (vf_own 1))
    vss_nil))))) : VSs _ _ _ _ b_read_track)
theorem sc__law_read : FnScope ["_law_text", "_law_found", "e"] ["_law_text"] (defScope (topS 38)) := ⟨rfl, rfl, rfl, by decide +kernel, rfl, by decide +kernel, by decide +kernel⟩
theorem ok__law_read (T : Top K w mg) : Ok1 P w K mg "_law_read" ["_law_text"] 6 (spV K mg fn__law_read) :=
  Def1.V T.d__law_read sc__law_read (by decide) fun base f cdv A outer s H E hr => ((vss_cons (vs_set 1 sc__law_read.nd ve_non)
    (vss_cons (vs_tryAs T.x 2 rfl rfl sc__law_read.nd (takes_of rfl rfl rfl rfl) (fun Wx pn xe tk hp => (vss_cons (vs_set 1 sc__law_read.nd (ve_of (vf_cal (ok_read_track T) (fun _ => hr) (fun _ => tk) (va_cons (ve_var 0) va_nil))))
    vss_nil))
    (fun c hc a oe C pn hC hz hf => (vss_cons (vs_set 1 sc__law_read.nd (ve_isE T.x hc hC hz hf 2 T.z_isinstance))
    vss_nil)))
    (vss_cons (vs_ret (ve_var 1))
    vss_nil))) : VSs _ _ _ _ b__law_read)
theorem sc__law_cell_at : FnScope ["_law_script", "_law_k"] ["_law_script", "_law_k"] (defScope (topS 29)) := ⟨rfl, rfl, rfl, by decide +kernel, rfl, by decide +kernel, by decide +kernel⟩
theorem ok__law_cell_at (T : Top K w mg) : Ok1 P w K mg "_law_cell_at" ["_law_script", "_law_k"] 1 (spV K mg fn__law_cell_at) :=
  Def1.V T.d__law_cell_at sc__law_cell_at (by decide) fun base f cdv A outer s H E hr => ((vss_cons (vs_if (vt_cmp (fun _ => od_lt) (ve_var 1) (ve_bf (fun _ => cd_len (.inr trivial)) (fun _ => T.z_len) (by decide +kernel) (va_cons (ve_var 0) va_nil)) (nomark _))
    (vss_cons (vs_ret (ve_ix (fun _ => hu_of hr) (ve_var 0) (ve_var 1) (fun _ _ => rfl)))
    vss_nil)
    vss_nil)
    (vss_cons (vs_ret ve_int)
    vss_nil)) : VSs _ _ _ _ b__law_cell_at)
theorem sc__law_items_changed : FnScope ["_law_text", "_law_x", "_law_y", "_law_some", "_law_at", "_law_other"] ["_law_text", "_law_x", "_law_y"] (defScope (topS 36)) := ⟨rfl, rfl, rfl, by decide +kernel, rfl, by decide +kernel, by decide +kernel⟩
theorem ok__law_items_changed (T : Top K w mg) : Ok1 P w K mg "_law_items_changed" ["_law_text", "_law_x", "_law_y"] 1 (spV K mg fn__law_items_changed) :=
  Def1.V T.d__law_items_changed sc__law_items_changed (by decide) fun base f cdv A outer s H E hr => ((vss_cons (vs_set 3 sc__law_items_changed.nd (ve_of (vf_split (ve_var 0) ve_str)))
    (vss_cons (vs_set 4 sc__law_items_changed.nd (ve_bin (fun _ => od_mod) (ve_bin (fun _ => od_fdiv) (ve_var 1) ve_int) (ve_bf (fun _ => cd_len (.inr trivial)) (fun _ => T.z_len) (by decide +kernel) (va_cons (ve_var 3) va_nil))))
    (vss_cons (vs_set 5 sc__law_items_changed.nd (ve_bin (fun _ => od_mod) (ve_var 2) (ve_bf (fun _ => cd_len (.inr trivial)) (fun _ => T.z_len) (by decide +kernel) (va_cons (ve_var 3) va_nil))))
    (vss_cons (vs_if (vt_cmp (fun _ => od_eq hr.units) (ve_bin (fun _ => od_mod) (ve_var 1) ve_int) ve_int (nomark _))
    (vss_cons (vs_ret (ve_join ve_str (ve_of (vf_cat (ve_slT (ve_var 3) vp_none (vp_some (ve_var 4))) (ve_slT (ve_var 3) (vp_some (ve_bin (fun _ => od_add) (ve_var 4) ve_int)) vp_none)))))
    vss_nil)
    vss_nil)
    (vss_cons (vs_if (vt_cmp (fun _ => od_eq hr.units) (ve_bin (fun _ => od_mod) (ve_var 1) ve_int) ve_int (nomark _))
    (vss_cons (vs_ret (ve_join ve_str (ve_of (vf_cat (ve_of (vf_cat (ve_slT (ve_var 3) vp_none (vp_some (ve_var 4))) (ve_of (vf_lst (va_cons (ve_ix (fun _ => hu_of hr) (ve_var 3) (ve_var 5) (fun _ _ => rfl)) va_nil))))) (ve_slT (ve_var 3) (vp_some (ve_var 4)) vp_none)))))
    vss_nil)
    vss_nil)
    (vss_cons (vs_ret (ve_join ve_str (ve_of (vf_cat (ve_of (vf_cat (ve_slT (ve_var 3) vp_none (vp_some (ve_var 4))) (ve_of (vf_lst (va_cons (ve_ix (fun _ => hu_of hr) (ve_var 3) (ve_var 5) (fun _ _ => rfl)) va_nil))))) (ve_slT (ve_var 3) (vp_some (ve_bin (fun _ => od_add) (ve_var 4) ve_int)) vp_none)))))
    vss_nil)))))) : VSs _ _ _ _ b__law_items_changed)
theorem sc__law_changed : FnScope ["_law_text", "_law_x", "_law_y", "_law_way", "_law_at", "_law_words", "_law_place", "_law_signs"] ["_law_text", "_law_x", "_law_y"] (defScope (topS 37)) := ⟨rfl, rfl, rfl, by decide +kernel, rfl, by decide +kernel, by decide +kernel⟩
theorem ok__law_changed (T : Top K w mg) : Ok1 P w K mg "_law_changed" ["_law_text", "_law_x", "_law_y"] 2 (spV K mg fn__law_changed) :=
  Def1.V T.d__law_changed sc__law_changed (by decide) fun base f cdv A outer s H E hr => ((vss_cons (vs_set 3 sc__law_changed.nd (ve_bin (fun _ => od_mod) (ve_var 1) ve_int))
    (vss_cons (vs_set 4 sc__law_changed.nd (ve_bin (fun _ => od_mod) (ve_var 2) (ve_bin (fun _ => od_add) (ve_bf (fun _ => cd_len (.inr trivial)) (fun _ => T.z_len) (by decide +kernel) (va_cons (ve_var 0) va_nil)) ve_int)))
    (vss_cons (vs_if (vt_cmp (fun _ => od_lt) (ve_var 3) ve_int (nomark _))
    (vss_cons (vs_ret (ve_cal (ok__law_items_changed T) (fun _ => hr) (fun _ => (takes_of rfl rfl rfl rfl)) (va_cons (ve_var 0) (va_cons (ve_bin (fun _ => od_fdiv) (ve_var 1) ve_int) (va_cons (ve_var 2) va_nil)))))
    vss_nil)
    vss_nil)
    (vss_cons (vs_setF 5 sc__law_changed.nd (vf_split (ve_var 0) ve_str))
    (vss_cons (vs_set 6 sc__law_changed.nd (ve_bin (fun _ => od_mod) (ve_var 2) (ve_bor (ve_bf (fun _ => cd_len (.inr trivial)) (fun _ => T.z_len) (by decide +kernel) (va_cons (ve_var 5) va_nil)))))
    (vss_cons (vs_if (vt_cmp (fun _ => od_eq hr.units) (ve_var 3) ve_int (nomark _))
    (vss_cons (vs_ret (ve_join ve_str (ve_of (vf_cat (ve_slT (ve_var 5) vp_none (vp_some (ve_var 6))) (ve_slT (ve_var 5) (vp_some (ve_bin (fun _ => od_add) (ve_var 6) ve_int)) vp_none)))))
    vss_nil)
    vss_nil)
    (vss_cons (vs_if (vt_cmp (fun _ => od_eq hr.units) (ve_var 3) ve_int (nomark _))
    (vss_cons (vs_sub 5 (ve_bor (ve_ix (fun _ => hu_of hr) (ve_var 5) (ve_bin (fun _ => od_mod) (ve_bin (fun _ => od_fdiv) (ve_var 2) ve_int) (ve_bf (fun _ => cd_len (.inr trivial)) (fun _ => T.z_len) (by decide +kernel) (va_cons (ve_var 5) va_nil))) (fun _ _ => rfl))) (ve_var 6))
    (vss_cons (vs_ret (ve_join ve_str (ve_var 5)))
    vss_nil))
    vss_nil)
    (vss_cons (vs_if (vt_cmp (fun _ => od_eq hr.units) (ve_var 3) ve_int (nomark _))
    (vss_cons (vs_ret (ve_bin (fun _ => od_add) (ve_slT (ve_var 0) vp_none (vp_some (ve_var 4))) (ve_slT (ve_var 0) (vp_some (ve_bin (fun _ => od_add) (ve_var 4) ve_int)) vp_none)))
    vss_nil)
    vss_nil)
    (vss_cons (vs_set 7 sc__law_changed.nd ve_str)
    (vss_cons (vs_ret (ve_bin (fun _ => od_add) (ve_bin (fun _ => od_add) (ve_slT (ve_var 0) vp_none (vp_some (ve_var 4))) (ve_ix (fun _ => hu_of hr) (ve_var 7) (ve_bin (fun _ => od_mod) (ve_bin (fun _ => od_fdiv) (ve_var 2) ve_int) ve_int) (fun _ _ => rfl))) (ve_slT (ve_var 0) (vp_some (ve_var 4)) vp_none)))
    vss_nil)))))))))) : VSs _ _ _ _ b__law_changed)
theorem sc__law_shown : FnScope ["_law_one"] ["_law_one"] (defScope (topS 34)) := ⟨rfl, rfl, rfl, by decide +kernel, rfl, by decide +kernel, by decide +kernel⟩
theorem ok__law_shown (T : Top K w mg) : Ok1 P w K mg "_law_shown" ["_law_one"] 1 (spV K mg fn__law_shown) :=
  Def1.V T.d__law_shown sc__law_shown (by decide) fun base f cdv A outer s H E hr => ((vss_cons (vs_if (vt_cmp (fun _ => od_eq hr.units) (ve_ix (fun _ => hu_of hr) (ve_var 0) ve_int (fun _ _ => rfl)) ve_int (nomark _))
    (vss_cons (vs_ret (ve_bt (fun _ => cd_strS) (fun _ => T.z_str) (by decide +kernel) (va_cons (ve_ix (fun _ => hu_of hr) (ve_var 0) ve_int (fun _ _ => rfl)) va_nil)))
    vss_nil)
    vss_nil)
    (vss_cons (vs_ret (ve_bin (fun _ => od_add) (ve_bin (fun _ => od_add) (ve_bt (fun _ => cd_strS) (fun _ => T.z_str) (by decide +kernel) (va_cons (ve_ix (fun _ => hu_of hr) (ve_var 0) ve_int (fun _ _ => rfl)) va_nil)) ve_str) (ve_bt (fun _ => cd_strS) (fun _ => T.z_str) (by decide +kernel) (va_cons (ve_ix (fun _ => hu_of hr) (ve_var 0) ve_int (fun _ _ => rfl)) va_nil))))
    vss_nil)) : VSs _ _ _ _ b__law_shown)
theorem sc__law_item_text : FnScope ["_law_item", "_law_part_here"] ["_law_item"] (defScope (topS 35)) := ⟨rfl, rfl, rfl, by decide +kernel, rfl, by decide +kernel, by decide +kernel⟩
theorem ok__law_item_text (T : Top K w mg) : Ok1 P w K mg "_law_item_text" ["_law_item"] 2 (spV K mg fn__law_item_text) :=
  Def1.V T.d__law_item_text sc__law_item_text (by decide) fun base f cdv A outer s H E hr => ((vss_cons (vs_if (vt_cmp (fun _ => od_eq hr.units) (ve_ix (fun _ => hu_of hr) (ve_var 0) ve_int (fun _ _ => rfl)) ve_str (nomark _))
    (vss_cons (vs_ret (ve_join ve_str (ve_of (vf_lst (va_cons ve_str (va_cons (ve_ix (fun _ => hu_of hr) (ve_var 0) ve_int (fun _ _ => rfl)) (va_cons (ve_cal (ok__law_shown T) (fun _ => hr) (fun _ => (takes_of rfl rfl rfl rfl)) (va_cons (ve_ix (fun _ => hu_of hr) (ve_var 0) ve_int (fun _ _ => rfl)) va_nil)) (va_cons (ve_cal (ok__law_shown T) (fun _ => hr) (fun _ => (takes_of rfl rfl rfl rfl)) (va_cons (ve_ix (fun _ => hu_of hr) (ve_var 0) ve_int (fun _ _ => rfl)) va_nil)) (va_cons (ve_bt (fun _ => cd_strS) (fun _ => T.z_str) (by decide +kernel) (va_cons (ve_ix (fun _ => hu_of hr) (ve_var 0) ve_int (fun _ _ => rfl)) va_nil)) va_nil)))))))))
    vss_nil)
    vss_nil)
    (vss_cons (vs_ret (ve_join ve_str (ve_of (vf_lc (fun _ => rfl) (fun _ => sc__law_item_text.nd) (vi_seq (ve_var 0)) (own := [("_law_part_here", 1)]) (fun _ => blkOk_by (by kernel_rfl)) (vg_name 1 (fun _ => sc__law_item_text.nd)) vts_nil (ve_bt (fun _ => cd_strS) (fun _ => T.z_str) (by decide +kernel) (va_cons (ve_var 1) va_nil))))))
    vss_nil)) : VSs _ _ _ _ b__law_item_text)
theorem sc_show_fraction : FnScope ["one"] ["one"] (defScope (topS 18)) := ⟨rfl, rfl, rfl, by decide +kernel, rfl, by decide +kernel, by decide +kernel⟩
theorem ok_show_fraction (T : Top K w mg) : Ok1 P w K mg "show_fraction" ["one"] 1 (spV K mg fn_show_fraction) :=
  Def1.V T.d_show_fraction sc_show_fraction (by decide) fun base f cdv A outer s H E hr => ((vss_cons (vs_if (vt_cmp (fun _ => od_eq hr.units) (ve_ix (fun _ => hu_of hr) (ve_var 0) ve_int (fun _ _ => rfl)) ve_int (nomark _))
    (vss_cons (vs_ret (ve_bt (fun _ => cd_strS) (fun _ => T.z_str) (by decide +kernel) (va_cons (ve_ix (fun _ => hu_of hr) (ve_var 0) ve_int (fun _ _ => rfl)) va_nil)))
    vss_nil)
    vss_nil)
    (vss_cons (vs_ret (ve_bin (fun _ => od_add) (ve_bin (fun _ => od_add) (ve_bt (fun _ => cd_strS) (fun _ => T.z_str) (by decide +kernel) (va_cons (ve_ix (fun _ => hu_of hr) (ve_var 0) ve_int (fun _ _ => rfl)) va_nil)) ve_str) (ve_bt (fun _ => cd_strS) (fun _ => T.z_str) (by decide +kernel) (va_cons (ve_ix (fun _ => hu_of hr) (ve_var 0) ve_int (fun _ _ => rfl)) va_nil))))
    vss_nil)) : VSs _ _ _ _ b_show_fraction)
theorem sc_show_item : FnScope ["item", "part"] ["item"] (defScope (topS 19)) := ⟨rfl, rfl, rfl, by decide +kernel, rfl, by decide +kernel, by decide +kernel⟩
theorem ok_show_item (T : Top K w mg) : Ok1 P w K mg "show_item" ["item"] 2 (spV K mg fn_show_item) :=
  Def1.V T.d_show_item sc_show_item (by decide) fun base f cdv A outer s H E hr => ((vss_cons (vs_if (vt_cmp (fun _ => od_eq hr.units) (ve_ix (fun _ => hu_of hr) (ve_var 0) ve_int (fun _ _ => rfl)) ve_str (nomark _))
    (vss_cons (vs_ret (ve_join ve_str (ve_of (vf_lst (va_cons ve_str (va_cons (ve_ix (fun _ => hu_of hr) (ve_var 0) ve_int (fun _ _ => rfl)) (va_cons (ve_cal (ok_show_fraction T) (fun _ => hr) (fun _ => (takes_of rfl rfl rfl rfl)) (va_cons (ve_ix (fun _ => hu_of hr) (ve_var 0) ve_int (fun _ _ => rfl)) va_nil)) (va_cons (ve_cal (ok_show_fraction T) (fun _ => hr) (fun _ => (takes_of rfl rfl rfl rfl)) (va_cons (ve_ix (fun _ => hu_of hr) (ve_var 0) ve_int (fun _ _ => rfl)) va_nil)) (va_cons (ve_bt (fun _ => cd_strS) (fun _ => T.z_str) (by decide +kernel) (va_cons (ve_ix (fun _ => hu_of hr) (ve_var 0) ve_int (fun _ _ => rfl)) va_nil)) va_nil)))))))))
    vss_nil)
    vss_nil)
    (vss_cons (vs_ret (ve_join ve_str (ve_of (vf_lc (fun _ => rfl) (fun _ => sc_show_item.nd) (vi_seq (ve_var 0)) (own := [("part", 1)]) (fun _ => blkOk_by (by kernel_rfl)) (vg_name 1 (fun _ => sc_show_item.nd)) vts_nil (ve_bt (fun _ => cd_strS) (fun _ => T.z_str) (by decide +kernel) (va_cons (ve_var 1) va_nil))))))
    vss_nil)) : VSs _ _ _ _ b_show_item)
theorem sc_show_track : FnScope ["track", "item"] ["track"] (defScope (topS 20)) := ⟨rfl, rfl, rfl, by decide +kernel, rfl, by decide +kernel, by decide +kernel⟩
theorem ok_show_track (T : Top K w mg) : Ok1 P w K mg "show_track" ["track"] 3 (spV K mg fn_show_track) :=
  Def1.V T.d_show_track sc_show_track (by decide) fun base f cdv A outer s H E hr => ((vss_cons (vs_ret (ve_join ve_str (ve_of (vf_lc (fun _ => rfl) (fun _ => sc_show_track.nd) (vi_seq (ve_var 0)) (own := [("item", 1)]) (fun _ => blkOk_by (by kernel_rfl)) (vg_name 1 (fun _ => sc_show_track.nd)) vts_nil (ve_cal (ok_show_item T) (fun _ => hr) (fun _ => takes0) (va_cons (ve_var 1) va_nil))))))
    vss_nil) : VSs _ _ _ _ b_show_track)
theorem sc_law : FnScope ["_law_script", "_law_track_here", "_law_text", "_law_handed", "_law_item", "_law_xs", "_law_k", "_law_due", "_law_found", "_law_odd"] ["_law_script"] (defScope (topS 45)) := ⟨rfl, rfl, rfl, by decide +kernel, rfl, by decide +kernel, by decide +kernel⟩
theorem ok_law (T : Top K w mg) : Ok1 P w K mg "law" ["_law_script"] 7 (spV K mg fn_law) :=
  Def1.V T.d_law sc_law (by decide) fun base f cdv A outer s H E hr => ((vss_cons (vs_set 1 sc_law.nd (ve_of (vf_cal (ok__law_track T) (fun _ => hr) (fun _ => (takes_of rfl rfl rfl rfl)) (va_cons (ve_slT (ve_var 0) (vp_some ve_int) (vp_some ve_int)) va_nil))))
    (vss_cons (vs_set 2 sc_law.nd (ve_join ve_str (ve_of (vf_lc (fun _ => rfl) (fun _ => sc_law.nd) (vi_seq (ve_var 1)) (own := [("_law_item", 4)]) (fun _ => blkOk_by (by kernel_rfl)) (vg_name 4 (fun _ => sc_law.nd)) vts_nil (ve_cal (ok__law_item_text T) (fun _ => hr) (fun _ => takes0) (va_cons (ve_var 4) va_nil))))))
    (vss_cons (vs_set 3 sc_law.nd (ve_of (vf_ty (fun _ => cd_listK rfl) (fun _ => T.z_list) (by decide +kernel) (va_cons (ve_var 1) va_nil))))
    (vss_cons (vs_if (vt_w (vw_or (vt_cmp (fun _ => od_ne hr.units) (ve_cal (ok_show_track T) (fun _ => hr) (fun _ => (takes_of rfl rfl rfl rfl)) (va_cons (ve_var 3) va_nil)) (ve_var 2) (nomark _)) (vw_or (vt_cmp (fun _ => od_ne hr.units) (ve_var 3) (ve_var 1) (nomark _)) (vw_or1 (vt_cmp (fun _ => od_ne hr.units) (ve_of (vf_cal (ok_read_track T) (fun _ => hr) (fun _ => (takes_of rfl rfl rfl rfl)) (va_cons (ve_var 2) va_nil))) (ve_var 1) (nomark _))))))
    (vss_cons (vs_ret ve_bl)
    vss_nil)
    vss_nil)
    (vss_cons (vs_for (passes_of rfl) rfl (vi_seq (ve_var 1)) (vg_name 4 (fun _ => sc_law.nd))
    (vss_cons (vs_if (vt_w (vw_or (vt_cmp (fun _ => od_ne hr.units) (ve_cal (ok_show_item T) (fun _ => hr) (fun _ => (takes_of rfl rfl rfl rfl)) (va_cons (ve_var 4) va_nil)) (ve_cal (ok__law_item_text T) (fun _ => hr) (fun _ => (takes_of rfl rfl rfl rfl)) (va_cons (ve_var 4) va_nil)) (nomark _)) (vw_or1 (vt_cmp (fun _ => od_ne hr.units) (ve_cal (ok_read_item T) (fun _ => hr) (fun _ => (takes_of rfl rfl rfl rfl)) (va_cons (ve_cal (ok_show_item T) (fun _ => hr) (fun _ => (takes_of rfl rfl rfl rfl)) (va_cons (ve_var 4) va_nil)) va_nil)) (ve_var 4) (nomark _)))))
    (vss_cons (vs_ret ve_bl)
    vss_nil)
    vss_nil)
    vss_nil))
    (vss_cons (vs_set 5 sc_law.nd (ve_of (vf_cal (ok__law_drawn T) (fun _ => hr) (fun _ => (takes_of rfl rfl rfl rfl)) (va_cons (ve_cal (ok__law_cell_at T) (fun _ => hr) (fun _ => (takes_of rfl rfl rfl rfl)) (va_cons (ve_var 0) (va_cons ve_int va_nil))) (va_cons ve_int va_nil)))))
    (vss_cons (vs_for (passes_of rfl) rfl (vi_rng1 (fun _ => T.z_range) (va_cons (ve_bin (fun _ => od_add) ve_int (ve_bin (fun _ => od_mod) (ve_ix (fun _ => hu_of hr) (ve_var 5) ve_int (fun _ _ => rfl)) ve_int)) va_nil)) (vg_name 6 (fun _ => sc_law.nd))
    (vss_cons (vs_set 2 sc_law.nd (ve_cal (ok__law_changed T) (fun _ => hr) (fun _ => (takes_of rfl rfl rfl rfl)) (va_cons (ve_var 2) (va_cons (ve_ix (fun _ => hu_of hr) (ve_var 5) (ve_bin (fun _ => od_add) ve_int (ve_var 6)) (fun _ _ => rfl)) (va_cons (ve_ix (fun _ => hu_of hr) (ve_var 5) (ve_bin (fun _ => od_add) ve_int (ve_var 6)) (fun _ _ => rfl)) va_nil)))))
    vss_nil))
    (vss_cons (vs_set 7 sc_law.nd (ve_cal (ok__law_track_read T) (fun _ => hr) (fun _ => (takes_of rfl rfl rfl rfl)) (va_cons (ve_var 2) va_nil)))
    (vss_cons (vs_set 8 sc_law.nd (ve_cal (ok__law_read T) (fun _ => hr) (fun _ => (takes_of rfl rfl rfl rfl)) (va_cons (ve_var 2) va_nil)))
    (vss_cons (vs_if (vt_w (vw_or (vt_w (vw_and (vt_cmp (fun _ => od_is) (ve_var 7) ve_non (nomark _)) (vw_and1 (vt_cmp (fun _ => od_isnot) (ve_var 8) ve_bl (nomark _))))) (vw_or1 (vt_w (vw_and (vt_cmp (fun _ => od_isnot) (ve_var 7) ve_non (nomark _)) (vw_and1 (vt_cmp (fun _ => od_ne hr.units) (ve_var 8) (ve_var 7) (nomark _))))))))
    (vss_cons (vs_ret ve_bl)
    vss_nil)
    vss_nil)
    (vss_cons (vs_for (passes_of rfl) rfl (vi_seq (ve_of (vf_lst (va_cons ve_non (va_cons ve_int (va_cons (ve_var 1) (va_cons (ve_tup (va_cons ve_str (va_cons ve_int va_nil))) (va_cons ve_bl va_nil)))))))) (vg_name 9 (fun _ => sc_law.nd))
    (vss_cons (vs_if (vt_cmp (fun _ => od_isnot) (ve_cal (ok__law_read T) (fun _ => hr) (fun _ => (takes_of rfl rfl rfl rfl)) (va_cons (ve_var 9) va_nil)) ve_bl (nomark _))
    (vss_cons (vs_ret ve_bl)
    vss_nil)
    vss_nil)
    vss_nil))
    (vss_cons (vs_ret (ve_cmp (fun _ => od_eq hr.units) (ve_of (vf_cal (ok_read_track T) (fun _ => hr) (fun _ => (takes_of rfl rfl rfl rfl)) (va_cons ve_str va_nil))) (ve_of (vf_lst va_nil)) (nomark _)))
    vss_nil)))))))))))) : VSs _ _ _ _ b_law)
end
/-! the head -/
def dd_is_whole : He.DefD := defD "is_whole" (topS 6)
def dd_shared_by : He.DefD := defD "shared_by" (topS 7)
def dd_fraction : He.DefD := defD "fraction" (topS 8)
def dd_is_name : He.DefD := defD "is_name" (topS 12)
def dd_one_form : He.DefD := defD "one_form" (topS 14)
def dd_show_fraction : He.DefD := defD "show_fraction" (topS 18)
def dd_show_item : He.DefD := defD "show_item" (topS 19)
def dd_show_track : He.DefD := defD "show_track" (topS 20)
def dd_read_number : He.DefD := defD "read_number" (topS 21)
def dd_read_fraction : He.DefD := defD "read_fraction" (topS 22)
def dd_read_from : He.DefD := defD "read_from" (topS 23)
def dd_read_name : He.DefD := defD "read_name" (topS 24)
def dd_read_item : He.DefD := defD "read_item" (topS 25)
def dd_mixes_stand : He.DefD := defD "mixes_stand" (topS 26)
def dd_read_track : He.DefD := defD "read_track" (topS 27)
def dd__law_cell_at : He.DefD := defD "_law_cell_at" (topS 29)
def dd__law_drawn : He.DefD := defD "_law_drawn" (topS 30)
def dd__law_part : He.DefD := defD "_law_part" (topS 31)
def dd__law_track : He.DefD := defD "_law_track" (topS 32)
def dd__law_shown : He.DefD := defD "_law_shown" (topS 34)
def dd__law_item_text : He.DefD := defD "_law_item_text" (topS 35)
def dd__law_items_changed : He.DefD := defD "_law_items_changed" (topS 36)
def dd__law_changed : He.DefD := defD "_law_changed" (topS 37)
def dd__law_read : He.DefD := defD "_law_read" (topS 38)
def dd__law_one_form : He.DefD := defD "_law_one_form" (topS 39)
def dd__law_number : He.DefD := defD "_law_number" (topS 40)
def dd__law_fraction : He.DefD := defD "_law_fraction" (topS 41)
def dd__law_is_name : He.DefD := defD "_law_is_name" (topS 42)
def dd__law_item_read : He.DefD := defD "_law_item_read" (topS 43)
def dd__law_track_read : He.DefD := defD "_law_track_read" (topS 44)
def dd_law : He.DefD := defD "law" (topS 45)
def dds : List He.DefD := [dd_is_whole, dd_shared_by, dd_fraction, dd_is_name, dd_one_form, dd_show_fraction, dd_show_item, dd_show_track, dd_read_number, dd_read_fraction, dd_read_from, dd_read_name, dd_read_item, dd_mixes_stand, dd_read_track, dd__law_cell_at, dd__law_drawn, dd__law_part, dd__law_track, dd__law_shown, dd__law_item_text, dd__law_items_changed, dd__law_changed, dd__law_read, dd__law_one_form, dd__law_number, dd__law_fraction, dd__law_is_name, dd__law_item_read, dd__law_track_read, dd_law]
def fas : List He.Fa := [.glo "is_whole", .glo "shared_by", .glo "fraction", .glo "is_name", .glo "one_form", .glo "show_fraction", .glo "show_item", .glo "show_track", .glo "read_number", .glo "read_fraction", .glo "read_from", .glo "read_name", .glo "read_item", .glo "mixes_stand", .glo "read_track", .glo "_law_cell_at", .glo "_law_drawn", .glo "_law_part", .glo "_law_track", .glo "_law_shown", .glo "_law_item_text", .glo "_law_items_changed", .glo "_law_changed", .glo "_law_read", .glo "_law_one_form", .glo "_law_number", .glo "_law_fraction", .glo "_law_is_name", .glo "_law_item_read", .glo "_law_track_read", .glo "law", .free "abs", .free "all", .free "any", .free "bool", .free "enumerate", .free "int", .free "isinstance", .free "len", .free "list", .free "max", .free "range", .free "str", .glo "NoNumber", .exc "NoNumber", .glo "NoText", .exc "NoText"]
def loose0 : List Str := ["CutError", "NoNumber", "NoClip", "NoText", "is_whole", "shared_by", "fraction", "LETTERS", "MOST_LETTERS", "is_name", "one_form", "FIGURES", "MOST_FIGURES", "show_fraction", "show_item", "show_track", "read_number", "read_fraction", "read_from", "read_name", "read_item", "mixes_stand", "read_track", "_law_cell_at", "_law_drawn", "_law_part", "_law_track", "_law_rate", "_law_shown", "_law_item_text"]
def loose1 : List Str := ["_law_items_changed", "_law_changed", "_law_read", "_law_one_form", "_law_number", "_law_fraction", "_law_is_name", "_law_item_read", "_law_track_read"]
abbrev looseN : List Str := loose0 ++ loose1
abbrev R0 : PySem.W.OpenRow := PySem.W.OpenLaw.row PySem.Challenge.rw_reelcut_k85_tracks_in_texts
def tbs : List He.Tab := []
def fx0 : PySem.W.Frag → Bool := fun K => exOk names0 anc0 bi0 K && ((He.Fa.str "FIGURES" "0123456789").ok K && ((He.Fa.str "LETTERS" "abcdefghijklmnopqrstuvwxyz").ok K && ((He.Fa.int "MOST_FIGURES" 60).ok K && ((He.Fa.int "MOST_LETTERS" 8).ok K && (true)))))
abbrev hk0 : PySem.W.Hook := hookY 4 fas dds tbs fx0
def ob0 (s : PySem.W.SharedT) : He.AlT × Bool := obY 4 fas dds tbs fx0 (HandSHeadRun.getT s)
theorem ob0_eq (s : PySem.W.SharedT) : ob0 s = hk0.obs s.abs := obY_eq (HandSHeadRun.getT_eq s)
theorem run0 (w : World) : HandSHeadRun.RunEq R0 (PySem.W.view R0.prog [45]) hk0 ob0 3160 looseN w := by
  intro os
  kernel_rfl
theorem top_of {K : PySem.W.Frag} {w : World} {h : Heap} {mg : Str → Option Value} (X : K.In h) (G : h.Ns mainGlobals mg) (c : He.SaysT fas dds tbs w K) (d : fx0 K = true) : Top K w mg where
  d_is_whole := def1_of (c.d.def_ 0 (d := dd_is_whole) rfl) X G (c.d.fact 0 (f := .glo "is_whole") rfl) fun _ _ _ _ _ _ us hl => match us, hl with | [_], _ => rfl
  d_shared_by := def1_of (c.d.def_ 1 (d := dd_shared_by) rfl) X G (c.d.fact 1 (f := .glo "shared_by") rfl) fun _ _ _ _ _ _ us hl => match us, hl with | [_, _], _ => rfl
  d_fraction := def1_of (c.d.def_ 2 (d := dd_fraction) rfl) X G (c.d.fact 2 (f := .glo "fraction") rfl) fun _ _ _ _ _ _ us hl => match us, hl with | [_, _], _ => rfl
  d_is_name := def1_of (c.d.def_ 3 (d := dd_is_name) rfl) X G (c.d.fact 3 (f := .glo "is_name") rfl) fun _ _ _ _ _ _ us hl => match us, hl with | [_], _ => rfl
  d_one_form := def1_of (c.d.def_ 4 (d := dd_one_form) rfl) X G (c.d.fact 4 (f := .glo "one_form") rfl) fun _ _ _ _ _ _ us hl => match us, hl with | [_], _ => rfl
  d_show_fraction := def1_of (c.d.def_ 5 (d := dd_show_fraction) rfl) X G (c.d.fact 5 (f := .glo "show_fraction") rfl) fun _ _ _ _ _ _ us hl => match us, hl with | [_], _ => rfl
  d_show_item := def1_of (c.d.def_ 6 (d := dd_show_item) rfl) X G (c.d.fact 6 (f := .glo "show_item") rfl) fun _ _ _ _ _ _ us hl => match us, hl with | [_], _ => rfl
  d_show_track := def1_of (c.d.def_ 7 (d := dd_show_track) rfl) X G (c.d.fact 7 (f := .glo "show_track") rfl) fun _ _ _ _ _ _ us hl => match us, hl with | [_], _ => rfl
  d_read_number := def1_of (c.d.def_ 8 (d := dd_read_number) rfl) X G (c.d.fact 8 (f := .glo "read_number") rfl) fun _ _ _ _ _ _ us hl => match us, hl with | [_], _ => rfl
  d_read_fraction := def1_of (c.d.def_ 9 (d := dd_read_fraction) rfl) X G (c.d.fact 9 (f := .glo "read_fraction") rfl) fun _ _ _ _ _ _ us hl => match us, hl with | [_], _ => rfl
  d_read_from := def1_of (c.d.def_ 10 (d := dd_read_from) rfl) X G (c.d.fact 10 (f := .glo "read_from") rfl) fun _ _ _ _ _ _ us hl => match us, hl with | [_, _], _ => rfl
  d_read_name := def1_of (c.d.def_ 11 (d := dd_read_name) rfl) X G (c.d.fact 11 (f := .glo "read_name") rfl) fun _ _ _ _ _ _ us hl => match us, hl with | [_], _ => rfl
  d_read_item := def1_of (c.d.def_ 12 (d := dd_read_item) rfl) X G (c.d.fact 12 (f := .glo "read_item") rfl) fun _ _ _ _ _ _ us hl => match us, hl with | [_], _ => rfl
  d_mixes_stand := def1_of (c.d.def_ 13 (d := dd_mixes_stand) rfl) X G (c.d.fact 13 (f := .glo "mixes_stand") rfl) fun _ _ _ _ _ _ us hl => match us, hl with | [_], _ => rfl
  d_read_track := def1_of (c.d.def_ 14 (d := dd_read_track) rfl) X G (c.d.fact 14 (f := .glo "read_track") rfl) fun _ _ _ _ _ _ us hl => match us, hl with | [_], _ => rfl
  d__law_cell_at := def1_of (c.d.def_ 15 (d := dd__law_cell_at) rfl) X G (c.d.fact 15 (f := .glo "_law_cell_at") rfl) fun _ _ _ _ _ _ us hl => match us, hl with | [_, _], _ => rfl
  d__law_drawn := def1_of (c.d.def_ 16 (d := dd__law_drawn) rfl) X G (c.d.fact 16 (f := .glo "_law_drawn") rfl) fun _ _ _ _ _ _ us hl => match us, hl with | [_, _], _ => rfl
  d__law_part := def1_of (c.d.def_ 17 (d := dd__law_part) rfl) X G (c.d.fact 17 (f := .glo "_law_part") rfl) fun _ _ _ _ _ _ us hl => match us, hl with | [_, _], _ => rfl
  d__law_track := def1_of (c.d.def_ 18 (d := dd__law_track) rfl) X G (c.d.fact 18 (f := .glo "_law_track") rfl) fun _ _ _ _ _ _ us hl => match us, hl with | [_], _ => rfl
  d__law_shown := def1_of (c.d.def_ 19 (d := dd__law_shown) rfl) X G (c.d.fact 19 (f := .glo "_law_shown") rfl) fun _ _ _ _ _ _ us hl => match us, hl with | [_], _ => rfl
  d__law_item_text := def1_of (c.d.def_ 20 (d := dd__law_item_text) rfl) X G (c.d.fact 20 (f := .glo "_law_item_text") rfl) fun _ _ _ _ _ _ us hl => match us, hl with | [_], _ => rfl
  d__law_items_changed := def1_of (c.d.def_ 21 (d := dd__law_items_changed) rfl) X G (c.d.fact 21 (f := .glo "_law_items_changed") rfl) fun _ _ _ _ _ _ us hl => match us, hl with | [_, _, _], _ => rfl
  d__law_changed := def1_of (c.d.def_ 22 (d := dd__law_changed) rfl) X G (c.d.fact 22 (f := .glo "_law_changed") rfl) fun _ _ _ _ _ _ us hl => match us, hl with | [_, _, _], _ => rfl
  d__law_read := def1_of (c.d.def_ 23 (d := dd__law_read) rfl) X G (c.d.fact 23 (f := .glo "_law_read") rfl) fun _ _ _ _ _ _ us hl => match us, hl with | [_], _ => rfl
  d__law_one_form := def1_of (c.d.def_ 24 (d := dd__law_one_form) rfl) X G (c.d.fact 24 (f := .glo "_law_one_form") rfl) fun _ _ _ _ _ _ us hl => match us, hl with | [_], _ => rfl
  d__law_number := def1_of (c.d.def_ 25 (d := dd__law_number) rfl) X G (c.d.fact 25 (f := .glo "_law_number") rfl) fun _ _ _ _ _ _ us hl => match us, hl with | [_, _], _ => rfl
  d__law_fraction := def1_of (c.d.def_ 26 (d := dd__law_fraction) rfl) X G (c.d.fact 26 (f := .glo "_law_fraction") rfl) fun _ _ _ _ _ _ us hl => match us, hl with | [_], _ => rfl
  d__law_is_name := def1_of (c.d.def_ 27 (d := dd__law_is_name) rfl) X G (c.d.fact 27 (f := .glo "_law_is_name") rfl) fun _ _ _ _ _ _ us hl => match us, hl with | [_], _ => rfl
  d__law_item_read := def1_of (c.d.def_ 28 (d := dd__law_item_read) rfl) X G (c.d.fact 28 (f := .glo "_law_item_read") rfl) fun _ _ _ _ _ _ us hl => match us, hl with | [_], _ => rfl
  d__law_track_read := def1_of (c.d.def_ 29 (d := dd__law_track_read) rfl) X G (c.d.fact 29 (f := .glo "_law_track_read") rfl) fun _ _ _ _ _ _ us hl => match us, hl with | [_], _ => rfl
  d_law := def1_of (c.d.def_ 30 (d := dd_law) rfl) X G (c.d.fact 30 (f := .glo "law") rfl) fun _ _ _ _ _ _ us hl => match us, hl with | [_], _ => rfl
  z_abs := He.free_ok X G (c.d.fact 31 (f := .free "abs") rfl)
  z_all := He.free_ok X G (c.d.fact 32 (f := .free "all") rfl)
  z_any := He.free_ok X G (c.d.fact 33 (f := .free "any") rfl)
  z_bool := He.free_ok X G (c.d.fact 34 (f := .free "bool") rfl)
  z_enumerate := He.free_ok X G (c.d.fact 35 (f := .free "enumerate") rfl)
  z_int := He.free_ok X G (c.d.fact 36 (f := .free "int") rfl)
  z_isinstance := He.free_ok X G (c.d.fact 37 (f := .free "isinstance") rfl)
  z_len := He.free_ok X G (c.d.fact 38 (f := .free "len") rfl)
  z_list := He.free_ok X G (c.d.fact 39 (f := .free "list") rfl)
  z_max := He.free_ok X G (c.d.fact 40 (f := .free "max") rfl)
  z_range := He.free_ok X G (c.d.fact 41 (f := .free "range") rfl)
  z_str := He.free_ok X G (c.d.fact 42 (f := .free "str") rfl)
  x_NoNumber := excCls_of X G (c.d.fact 43 (f := .glo "NoNumber") rfl) (c.d.fact 44 (f := .exc "NoNumber") rfl)
  x_NoText := excCls_of X G (c.d.fact 45 (f := .glo "NoText") rfl) (c.d.fact 46 (f := .exc "NoText") rfl)
  x := exT_of X G (He.ba d).1
  g_FIGURES := gcon_str X G (He.ba (He.ba d).2).1
  g_LETTERS := gcon_str X G (He.ba (He.ba (He.ba d).2).2).1
  g_MOST_FIGURES := gcon_int X G (He.ba (He.ba (He.ba (He.ba d).2).2).2).1
  g_MOST_LETTERS := gcon_int X G (He.ba (He.ba (He.ba (He.ba (He.ba d).2).2).2).2).1
end VL

/-! PL: running the plain functions: each combinator as a frame over what stands at its place. -/
namespace VL
open PySem
def RS.seq (r : RS) (b : MS) : RS := match r with
  | .nx e1 => b e1
  | r => r
@[simp] theorem sq1 {e b} : RS.seq (.nx e) b = b e := (rfl)
@[simp] theorem sq2 {d e b} : RS.seq (.rt d e) b = .rt d e := (rfl)
@[simp] theorem sq3 {x e b} : RS.seq (.err x e) b = .err x e := (rfl)
@[simp] theorem sq4 {b} : RS.seq .bot b = .bot := (rfl)
@[simp] theorem sq5 {e b} : RS.seq (.bk e) b = .bk e := (rfl)
@[simp] theorem sq6 {e b} : RS.seq (.ct e) b = .ct e := (rfl)
@[simp] theorem e_seq {a b e} : vSeq a b e = RS.seq (a e) b := by unfold vSeq; cases (a e) <;> rfl
@[simp] theorem e_next {e} : vNext e = .nx e := (rfl)
@[simp] theorem e_pass {e} : vPass e = .nx e := (rfl)
@[simp] theorem e_break {e} : vBreak e = .bk e := (rfl)
@[simp] theorem e_cont {e} : vCont e = .ct e := (rfl)
@[simp] theorem of1 {α : Type} {a : α} {e} : Res.of (some a) e = .ok a e := (rfl)
@[simp] theorem of2 {α : Type} {e} : (Res.of (none : Option α) e) = .bot := (rfl)
@[simp] theorem e_c {d e} : vC d e = .ok d e := (rfl)
def fVar (i : Nat) (e : Env) : Option Sl → Res D
  | some (.sh d) => .ok d e
  | some (.ow b ds) => .ok (outD b ds) (e.set i (.sh (outD b ds)))
  | _ => .bot
@[simp] theorem fv1 {i e d} : fVar i e (some (.sh d)) = .ok d e := (rfl)
@[simp] theorem fv2 {i e ds} : fVar i e (some (.ow false ds)) = .ok (.lst ds) (e.set i (.sh (.lst ds))) := (rfl)
@[simp] theorem fv3 {i e d} : fVar i e (some (.ow true [d])) = .ok d (e.set i (.sh d)) := (rfl)
@[simp] theorem e_var {i e} : vVar i e = fVar i e e[i]? := by 
  unfold vVar
  cases e[i]? with
  | none => rfl
  | some s => cases s with
    | ow b ds => cases b <;> rfl
    | _ => rfl
/-! one place -/
def fUn (op : D → Option D) : Res D → Res D
  | .ok x e => .of (op x) e
  | .err x e => .err x e
  | .bot => .bot
@[simp] theorem fu1 {op x e} : fUn op (.ok x e) = .of (op x) e := (rfl)
@[simp] theorem fu2 {op x e} : fUn op (.err x e) = .err x e := (rfl)
@[simp] theorem e_un {op a e} : vUn op a e = fUn op (a e) := by unfold vUn; cases (a e) <;> rfl
@[simp] theorem e_isi {t a e} : vIsi t a e = fUn (opIsi t) (a e) := e_un
/-! two places -/
def fOp2 (op : D → D → Option D) (x : D) : Res D → Res D
  | .ok y e => .of (op x y) e
  | .err x e => .err x e
  | .bot => .bot
def fOp (op : D → D → Option D) (r : Res D) (b : ME) : Res D := match r with
  | .ok x e => fOp2 op x (b e)
  | .err x e => .err x e
  | .bot => .bot
@[simp] theorem fo1 {op x e b} : fOp op (.ok x e) b = fOp2 op x (b e) := (rfl)
@[simp] theorem fo2 {op x e b} : fOp op (.err x e) b = .err x e := (rfl)
@[simp] theorem fo3 {op x e y} : fOp2 op x (.ok y e) = .of (op x y) e := (rfl)
@[simp] theorem fo4 {op x e y} : fOp2 op x (.err y e) = .err y e := (rfl)
@[simp] theorem e_op {op a b e} : vOp op a b e = fOp op (a e) b := by
  unfold vOp
  cases (a e) with
  | ok x e1 => show (b e1).bind _ = fOp2 op x (b e1); cases (b e1) <;> rfl
  | err x e1 => rfl
  | bot => rfl
/-! arguments -/
def fCon2 (x : D) : Res (List D) → Res (List D)
  | .ok xs e => .ok (x :: xs) e
  | .err x e => .err x e
  | .bot => .bot
def fCon (r : Res D) (b : MA) : Res (List D) := match r with
  | .ok x e => fCon2 x (b e)
  | .err x e => .err x e
  | .bot => .bot
@[simp] theorem fc1 {x e b} : fCon (.ok x e) b = fCon2 x (b e) := (rfl)
@[simp] theorem fc2 {x e b} : fCon (.err x e) b = .err x e := (rfl)
@[simp] theorem fc3 {x e xs} : fCon2 x (.ok xs e) = .ok (x :: xs) e := (rfl)
@[simp] theorem fc4 {x e y} : fCon2 x (.err y e) = .err y e := (rfl)
@[simp] theorem e_nil {e} : vNil e = .ok [] e := (rfl)
@[simp] theorem e_cons {a b e} : vCons a b e = fCon (a e) b := by
  unfold vCons
  cases (a e) with
  | ok x e1 => show (b e1).bind _ = fCon2 x (b e1); cases (b e1) <;> rfl
  | err x e1 => rfl
  | bot => rfl
theorem vmax_eq : vmax = 1000000 := (rfl)
def fTup : Res (List D) → Res D
  | .ok xs e => if xs.length ≤ vmax then .ok (.tup xs) e else .bot
  | .err x e => .err x e
  | .bot => .bot
@[simp] theorem ft1 {xs e} : fTup (.ok xs e) = if xs.length ≤ 1000000 then .ok (.tup xs) e else .bot := by
  rw [← vmax_eq, fTup]
@[simp] theorem ft2 {xs e} : fTup (.err xs e) = .err xs e := (rfl)
@[simp] theorem e_tup {a e} : vTupD a e = fTup (a e) := by unfold vTupD fTup; cases (a e) <;> rfl
def fLst : Res (List D) → Res (List D)
  | .ok xs e => if xs.length ≤ vmax then .ok xs e else .bot
  | .err x e => .err x e
  | .bot => .bot
@[simp] theorem fl1 {xs e} : fLst (.ok xs e) = if xs.length ≤ 1000000 then .ok xs e else .bot := by
  rw [← vmax_eq, fLst]
@[simp] theorem fl2 {xs e} : fLst (.err xs e) = .err xs e := (rfl)
@[simp] theorem e_lst {a e} : vLstD a e = fLst (a e) := by unfold vLstD fLst; cases (a e) <;> rfl
def fOf : Res (List D) → Res D
  | .ok xs e => .ok (.lst xs) e
  | .err x e => .err x e
  | .bot => .bot
@[simp] theorem ff1 {xs e} : fOf (.ok xs e) = .ok (.lst xs) e := (rfl)
@[simp] theorem ff2 {xs e} : fOf (.err xs e) = .err xs e := (rfl)
@[simp] theorem e_of {a e} : vOf a e = fOf (a e) := by unfold vOf fOf; cases (a e) <;> rfl
/-! calls -/
def fCal2 (r : FR) (e : Env) : Res D := match r with
  | .ok d => .ok d e
  | .err x => .err x e
  | .bot => .bot
def fCal (fn : List D → FR) : Res (List D) → Res D
  | .ok xs e => fCal2 (fn xs) e
  | .err x e => .err x e
  | .bot => .bot
@[simp] theorem fk1 {fn xs e} : fCal fn (.ok xs e) = fCal2 (fn xs) e := (rfl)
@[simp] theorem fk2 {fn xs e} : fCal fn (.err xs e) = .err xs e := (rfl)
@[simp] theorem fk3 {d e} : fCal2 (.ok d) e = .ok d e := (rfl)
@[simp] theorem fk4 {d e} : fCal2 (.err d) e = .err d e := (rfl)
@[simp] theorem e_call {fn a e} : vCall fn a e = fCal fn (a e) := by
  unfold vCall
  cases (a e) with
  | ok x e1 => show _ = fCal2 (fn x) e1; dsimp only [Res.bind]; cases (fn x) <;> rfl
  | err x e1 => rfl
  | bot => rfl
def fCaF2 (r : FR) (e : Env) : Res (List D) := match r with
  | .ok (.lst d) => .ok d e
  | .ok _ => .bot
  | .err x => .err x e
  | .bot => .bot
def fCaF (fn : List D → FR) : Res (List D) → Res (List D)
  | .ok xs e => fCaF2 (fn xs) e
  | .err x e => .err x e
  | .bot => .bot
@[simp] theorem fk5 {fn xs e} : fCaF fn (.ok xs e) = fCaF2 (fn xs) e := (rfl)
@[simp] theorem fk6 {fn xs e} : fCaF fn (.err xs e) = .err xs e := (rfl)
@[simp] theorem fk7 {d e} : fCaF2 (.ok (.lst d)) e = .ok d e := (rfl)
@[simp] theorem fk8 {d e} : fCaF2 (.err d) e = .err d e := (rfl)
@[simp] theorem e_callF {fn a e} : vCallF fn a e = fCaF fn (a e) := by
  unfold vCallF
  cases (a e) with
  | ok x e1 =>
    show _ = fCaF2 (fn x) e1
    dsimp only [Res.bind]
    cases (fn x) with
    | ok d => cases d <;> rfl
    | err x => rfl
    | bot => rfl
  | err x e1 => rfl
  | bot => rfl
def fBuf (f : List D → Option D) : Res (List D) → Res D
  | .ok xs e => .of (f xs) e
  | .err x e => .err x e
  | .bot => .bot
@[simp] theorem fb1 {f xs e} : fBuf f (.ok xs e) = .of (f xs) e := (rfl)
@[simp] theorem fb2 {f xs e} : fBuf f (.err xs e) = .err xs e := (rfl)
@[simp] theorem e_bf {f a e} : vBf f a e = fBuf f (a e) := by unfold vBf fBuf; cases (a e) <;> rfl
def fBul (f : List D → Option (List D)) : Res (List D) → Res (List D)
  | .ok xs e => .of (f xs) e
  | .err x e => .err x e
  | .bot => .bot
@[simp] theorem fb3 {f xs e} : fBul f (.ok xs e) = .of (f xs) e := (rfl)
@[simp] theorem e_bl {f a e} : vBl f a e = fBul f (a e) := by unfold vBl fBul; cases (a e) <;> rfl
/-! owned lists looked at -/
@[simp] theorem frz0 : frz [] = [] := (rfl)
def frS : Sl → Sl
  | .ow b ds => .sh (outD b ds)
  | s => s
@[simp] theorem frz1 {s r} : frz (s :: r) = frS s :: frz r := by
  unfold frz
  rw [List.map_cons]
  cases s <;> rfl
@[simp] theorem frs1 {d} : frS (.sh d) = .sh d := (rfl)
@[simp] theorem frs2 {ds} : frS (.ow false ds) = .sh (.lst ds) := (rfl)
@[simp] theorem frs5 {d} : frS (.ow true [d]) = .sh d := (rfl)
@[simp] theorem frs3 : frS .no = .no := (rfl)
@[simp] theorem frs4 {n} : frS (.tk n) = .tk n := (rfl)
def fBor (e : Env) : Res D → Res D
  | .ok d _ => if d.flat then .ok d e else .bot
  | .err x _ => .err x e
  | .bot => .bot
@[simp] theorem fr1 {e d e1} : fBor e (.ok d e1) = if d.flat then .ok d e else .bot := (rfl)
@[simp] theorem fr2 {e d e1} : fBor e (.err d e1) = .err d e := (rfl)
@[simp] theorem e_bor {a e} : vBor a e = fBor e (a (frz e)) := by unfold vBor; cases (a (frz e)) <;> rfl
def fBorF (e : Env) : Res (List D) → Res (List D)
  | .ok d _ => if D.flats d then .ok d e else .bot
  | .err x _ => .err x e
  | .bot => .bot
@[simp] theorem fr3 {e d e1} : fBorF e (.ok d e1) = if D.flats d then .ok d e else .bot := (rfl)
@[simp] theorem fr4 {e d e1} : fBorF e (.err d e1) = .err d e := (rfl)
@[simp] theorem e_borF {a e} : vBorF a e = fBorF e (a (frz e)) := by unfold vBorF; cases (a (frz e)) <;> rfl
def fBorT (e : Env) : Res Bool → Res Bool
  | .ok d _ => .ok d e
  | .err x _ => .err x e
  | .bot => .bot
@[simp] theorem fr5 {e d e1} : fBorT e (.ok d e1) = .ok d e := (rfl)
@[simp] theorem fr6 {e d e1} : fBorT e (.err d e1) = .err d e := (rfl)
@[simp] theorem e_borT {a e} : vBorT a e = fBorT e (a (frz e)) := by unfold vBorT; cases (a (frz e)) <;> rfl
def fOwn (i : Nat) (e : Env) : Option Sl → Res (List D)
  | some (.ow false ds) => .ok ds (e.set i .no)
  | _ => .bot
@[simp] theorem fw1 {i e ds} : fOwn i e (some (.ow false ds)) = .ok ds (e.set i .no) := (rfl)
@[simp] theorem e_own {i e} : vOwn i e = fOwn i e e[i]? := by 
  unfold vOwn
  cases e[i]? with
  | none => rfl
  | some s => cases s with
    | ow b ds => cases b <;> rfl
    | _ => rfl
/-! tests -/
def fTst : Res D → Res Bool
  | .ok (.bl b) e => .ok b e
  | .ok _ _ => .bot
  | .err x e => .err x e
  | .bot => .bot
@[simp] theorem fs1 {b e} : fTst (.ok (.bl b) e) = .ok b e := (rfl)
@[simp] theorem fs2 {b e} : fTst (.err b e) = .err b e := (rfl)
@[simp] theorem e_test {a e} : vTest a e = fTst (a e) := by
  unfold vTest Res.bind
  cases a e with
  | ok x e1 => cases x <;> rfl
  | err x e1 => rfl
  | bot => rfl
def fAnd (r : Res Bool) (b : MB) : Res Bool := match r with
  | .ok x e => if x = true then b e else .ok false e
  | .err x e => .err x e
  | .bot => .bot
@[simp] theorem fa1 {x e b} : fAnd (.ok x e) b = if x = true then b e else .ok false e := (rfl)
@[simp] theorem fa2 {x e b} : fAnd (.err x e) b = .err x e := (rfl)
@[simp] theorem e_and {a b e} : vAnd a b e = fAnd (a e) b := by unfold vAnd fAnd; cases (a e) <;> rfl
def fOr (r : Res Bool) (b : MB) : Res Bool := match r with
  | .ok x e => if x = true then .ok true e else b e
  | .err x e => .err x e
  | .bot => .bot
@[simp] theorem fa3 {x e b} : fOr (.ok x e) b = if x = true then .ok true e else b e := (rfl)
@[simp] theorem fa4 {x e b} : fOr (.err x e) b = .err x e := (rfl)
@[simp] theorem e_or {a b e} : vOr a b e = fOr (a e) b := by unfold vOr fOr; cases (a e) <;> rfl
def fNot : Res Bool → Res Bool
  | .ok b e => .ok (!b) e
  | .err x e => .err x e
  | .bot => .bot
@[simp] theorem fn1 {b e} : fNot (.ok b e) = .ok (!b) e := (rfl)
@[simp] theorem fn2 {b e} : fNot (.err b e) = .err b e := (rfl)
@[simp] theorem e_not {a e} : vNot a e = fNot (a e) := by unfold vNot fNot; cases (a e) <;> rfl
@[simp] theorem e_yes {e} : vYes e = .ok true e := (rfl)
def fAndV (r : Res D) (b : ME) : Res D := match r with
  | .ok (.bl x) e => if x = true then b e else .ok (.bl false) e
  | .ok _ _ => .bot
  | .err x e => .err x e
  | .bot => .bot
@[simp] theorem fa5 {x e b} : fAndV (.ok (.bl x) e) b = if x = true then b e else .ok (.bl false) e := (rfl)
@[simp] theorem fa6 {x e b} : fAndV (.err x e) b = .err x e := (rfl)
@[simp] theorem e_andV {a b e} : vAndV a b e = fAndV (a e) b := by
  unfold vAndV Res.bind
  cases a e with
  | ok x e1 => cases x with
    | bl c => cases c <;> rfl
    | _ => rfl
  | err x e1 => rfl
  | bot => rfl
def fOrV (r : Res D) (b : ME) : Res D := match r with
  | .ok (.bl x) e => if x = true then .ok (.bl true) e else b e
  | .ok _ _ => .bot
  | .err x e => .err x e
  | .bot => .bot
@[simp] theorem fa7 {x e b} : fOrV (.ok (.bl x) e) b = if x = true then .ok (.bl true) e else b e := (rfl)
@[simp] theorem fa8 {x e b} : fOrV (.err x e) b = .err x e := (rfl)
@[simp] theorem e_orV {a b e} : vOrV a b e = fOrV (a e) b := by
  unfold vOrV Res.bind
  cases a e with
  | ok x e1 => cases x with
    | bl c => cases c <;> rfl
    | _ => rfl
  | err x e1 => rfl
  | bot => rfl
def opNot : D → Option D
  | .bl c => some (.bl (!c))
  | _ => none
@[simp] theorem opNot1 {c} : opNot (.bl c) = some (.bl (!c)) := (rfl)
@[simp] theorem e_notV {a e} : vNotV a e = fUn opNot (a e) := by
  unfold vNotV vUn
  cases (a e) <;> rfl
def fCh3 (op : D → D → Option D) (y : D) : Res D → Res D
  | .ok z e => .of (op y z) e
  | .err x e => .err x e
  | .bot => .bot
def fCh2 (op op' : D → D → Option D) (x : D) (r : Res D) (c : ME) : Res D := match r with
  | .ok y e => (match op x y with
    | some (.bl true) => fCh3 op' y (c e)
    | some (.bl false) => .ok (.bl false) e
    | _ => .bot)
  | .err x e => .err x e
  | .bot => .bot
def fCh (op op' : D → D → Option D) (r : Res D) (b c : ME) : Res D := match r with
  | .ok x e => fCh2 op op' x (b e) c
  | .err x e => .err x e
  | .bot => .bot
@[simp] theorem fh1 {op op' x e b c} : fCh op op' (.ok x e) b c = fCh2 op op' x (b e) c := (rfl)
@[simp] theorem fh2 {op op' y e x c} {k : Bool} (h : op x y = some (.bl k)) : fCh2 op op' x (.ok y e) c = if k = true then fCh3 op' y (c e) else .ok (.bl false) e := by
  unfold fCh2
  simp only [h]
  cases k <;> rfl
@[simp] theorem fh3 {op y e z} : fCh3 op y (.ok z e) = .of (op y z) e := (rfl)
@[simp] theorem e_chain {op op' a b c e} : vChain op op' a b c e = fCh op op' (a e) b c := by
  unfold vChain
  cases (a e) with
  | ok x e1 =>
    show (b e1).bind _ = fCh2 op op' x (b e1) c
    cases (b e1) with
    | ok y e2 =>
      show _ = fCh2 op op' x (.ok y e2) c
      dsimp only [fCh2, Res.bind]
      cases op x y with
      | none => rfl
      | some d => cases d with
        | bl k => cases k with
          | true =>
            show _ = fCh3 op' y (c e2)
            simp only []
            cases (c e2) <;> rfl
          | false => rfl
        | _ => rfl
    | err x e1 => rfl
    | bot => rfl
  | err x e1 => rfl
  | bot => rfl
/-! slices -/
def fPart : Res D → Res (Option Int)
  | .ok x e => .of (asI x) e
  | .err x e => .err x e
  | .bot => .bot
@[simp] theorem fp1 {i e} : fPart (.ok (.int i) e) = .ok (some i) e := (rfl)
@[simp] theorem e_part {a e} : vPart a e = fPart (a e) := by unfold vPart fPart; cases (a e) <;> rfl
@[simp] theorem e_nopart {e} : vNoPart e = .ok none e := (rfl)
@[simp] theorem rb1 {α β : Type} {a : α} {e} {f : α → Env → Res β} : (Res.ok a e).bind f = f a e := (rfl)
@[simp] theorem e_sl {a lo hi e} : vSl a lo hi e = (a e).bind fun x e1 => (lo e1).bind fun l e2 => (hi e2).bind fun h e3 => .of (slT l h x) e3 := (rfl)
@[simp] theorem e_slF {a lo hi e} : vSlF a lo hi e = (a e).bind fun x e1 => (lo e1).bind fun l e2 => (hi e2).bind fun h e3 => .of (slL l h x) e3 := (rfl)
@[simp] theorem e_rev {a e} : vRevF a e = (a e).bind fun x e1 => .of (revL x) e1 := (rfl)
/-! statements -/
def fIf (r : Res Bool) (a b : MS) : RS := match r with
  | .ok x e => if x = true then a e else b e
  | .err x e => .err x e
  | .bot => .bot
@[simp] theorem fi1 {x e a b} : fIf (.ok x e) a b = if x = true then a e else b e := (rfl)
@[simp] theorem fi2 {x e a b} : fIf (.err x e) a b = .err x e := (rfl)
@[simp] theorem e_if {c a b e} : vIf c a b e = fIf (c e) a b := by unfold vIf fIf; cases (c e) <;> rfl
def fRet : Res D → RS
  | .ok x e => .rt x e
  | .err x e => .err x e
  | .bot => .bot
@[simp] theorem fe1 {x e} : fRet (.ok x e) = .rt x e := (rfl)
@[simp] theorem fe2 {x e} : fRet (.err x e) = .err x e := (rfl)
@[simp] theorem e_ret {a e} : vRet a e = fRet (a e) := by unfold vRet fRet; cases (a e) <;> rfl
def fRetF : Res (List D) → RS
  | .ok x e => .rt (.lst x) e
  | .err x e => .err x e
  | .bot => .bot
@[simp] theorem fe3 {x e} : fRetF (.ok x e) = .rt (.lst x) e := (rfl)
@[simp] theorem fe4 {x e} : fRetF (.err x e) = .err x e := (rfl)
@[simp] theorem e_retF {a e} : vRetF a e = fRetF (a e) := by unfold vRetF fRetF; cases (a e) <;> rfl
@[simp] theorem e_retN {e} : vRetN e = .rt .non e := (rfl)
def fDrop : Res D → RS
  | .ok _ e => .nx e
  | .err x e => .err x e
  | .bot => .bot
@[simp] theorem fe5 {x e} : fDrop (.ok x e) = .nx e := (rfl)
@[simp] theorem fe6 {x e} : fDrop (.err x e) = .err x e := (rfl)
@[simp] theorem e_drop {a e} : vDrop a e = fDrop (a e) := by unfold vDrop fDrop; cases (a e) <;> rfl
@[simp] theorem e_raise {x e} : vRaise x e = .err ⟨x, none⟩ e := (rfl)
def fAsg2 : Option Env → RS
  | some e => .nx e
  | none => .bot
def fAsg (r : Res D) (g : D → Env → Option Env) : RS := match r with
  | .ok x e => fAsg2 (g x e)
  | .err x e => .err x e
  | .bot => .bot
@[simp] theorem fe7 {x e g} : fAsg (.ok x e) g = fAsg2 (g x e) := (rfl)
@[simp] theorem fe8 {x e g} : fAsg (.err x e) g = .err x e := (rfl)
@[simp] theorem fe9 {e} : fAsg2 (some e) = .nx e := (rfl)
@[simp] theorem e_asg {a g e} : vAsg a g e = fAsg (a e) g := by
  unfold vAsg
  cases (a e) with
  | ok x e1 => show _ = fAsg2 (g x e1); dsimp only [Res.thenS]; cases (g x e1) <;> rfl
  | err x e1 => rfl
  | bot => rfl
@[simp] theorem e_nam {i d e} : gNam i d e = if i < e.length then some (e.set i (.sh d)) else none := (rfl)
@[simp] theorem e_gnil {e} : gNil' [] e = some e := (rfl)
@[simp] theorem e_gcon {g r d ds e} : gCon g r (d :: ds) e = (g d e).bind fun e1 => r ds e1 := by dsimp only [gCon]; cases g d e <;> rfl
@[simp] theorem e_gtup {r ds e} : gTup' r (.tup ds) e = r ds e := (rfl)
@[simp] theorem e_gtupL {r ds e} : gTup' r (.lst ds) e = r ds e := (rfl)
def fAsF (i : Nat) : Res (List D) → RS
  | .ok ds e => if i < e.length then .nx (e.set i (.ow false ds)) else .bot
  | .err x e => .err x e
  | .bot => .bot
@[simp] theorem fg1 {i ds e} : fAsF i (.ok ds e) = if i < e.length then .nx (e.set i (.ow false ds)) else .bot := (rfl)
@[simp] theorem fg2 {i ds e} : fAsF i (.err ds e) = .err ds e := (rfl)
@[simp] theorem e_asgF {i a e} : vAsgF i a e = fAsF i (a e) := by unfold vAsgF fAsF; cases (a e) <;> rfl
def fPar2 (i j : Nat) (x : D) : Res D → RS
  | .ok y e => if i < e.length ∧ j < e.length then .nx ((e.set i (.sh x)).set j (.sh y)) else .bot
  | .err x e => .err x e
  | .bot => .bot
def fPar (i j : Nat) (r : Res D) (b : ME) : RS := match r with
  | .ok x e => fPar2 i j x (b e)
  | .err x e => .err x e
  | .bot => .bot
@[simp] theorem fg3 {i j x e b} : fPar i j (.ok x e) b = fPar2 i j x (b e) := (rfl)
@[simp] theorem fg4 {i j x e y} : fPar2 i j x (.ok y e) = if i < e.length ∧ j < e.length then .nx ((e.set i (.sh x)).set j (.sh y)) else .bot := (rfl)
@[simp] theorem e_par {i j a b e} : vPar i j a b e = fPar i j (a e) b := by
  unfold vPar
  cases (a e) with
  | ok x e1 => show (b e1).thenS _ = fPar2 i j x (b e1); cases (b e1) <;> rfl
  | err x e1 => rfl
  | bot => rfl
def fApp3 (i : Nat) (d : D) (e : Env) : Option Sl → RS
  | some (.ow false ds) => if ds.length < vmax then .nx (e.set i (.ow false (ds ++ [d]))) else .bot
  | _ => .bot
def fApp2 (i : Nat) : Res D → RS
  | .ok d e => fApp3 i d e e[i]?
  | .err x e => .err x e
  | .bot => .bot
def fApp (i : Nat) (e : Env) (a : ME) : Option Sl → RS
  | some (.ow false _) => fApp2 i (a e)
  | _ => .bot
@[simp] theorem fj1 {i e a ds} : fApp i e a (some (.ow false ds)) = fApp2 i (a e) := (rfl)
@[simp] theorem fj2 {i d e} : fApp2 i (.ok d e) = fApp3 i d e e[i]? := (rfl)
@[simp] theorem fj3 {i d e} : fApp2 i (.err d e) = .err d e := (rfl)
@[simp] theorem fj4 {i d e ds} : fApp3 i d e (some (.ow false ds)) = if ds.length < 1000000 then .nx (e.set i (.ow false (ds ++ [d]))) else .bot := by
  rw [← vmax_eq, fApp3]
@[simp] theorem e_app {i a e} : vApp i a e = fApp i e a e[i]? := by
  unfold vApp
  cases h : e[i]? with
  | none => rfl
  | some s => cases s with
    | ow b ds =>
      cases b with
      | true => rfl
      | false =>
      show _ = fApp2 i (a e)
      simp only []
      cases (a e) with
      | ok d e1 =>
        show _ = fApp3 i d e1 e1[i]?
        dsimp only [Res.thenS]
        cases e1[i]? with
        | none => rfl
        | some s => cases s with
          | ow b ds => cases b <;> rfl
          | _ => rfl
      | err x e1 => rfl
      | bot => rfl
    | _ => rfl
def fFor (r : Res (List D)) (g : D → Env → Option Env) (b : MS) : RS := match r with
  | .ok ds e => forL g b ds e
  | .err x e => .err x e
  | .bot => .bot
@[simp] theorem fl3 {ds e g b} : fFor (.ok ds e) g b = forL g b ds e := (rfl)
@[simp] theorem e_for {it g b e} : vFor it g b e = fFor (it e) g b := by unfold vFor fFor; cases (it e) <;> rfl
@[simp] theorem e_seqI {m e} : vSeqI m e = (m e).bind fun d e1 => .of (seqD d) e1 := (rfl)
@[simp] theorem seqD1 {ds} : seqD (.lst ds) = some ds := (rfl)
@[simp] theorem seqD2 {ds} : seqD (.tup ds) = some ds := (rfl)
def fRng : Res (List D) → Res (List D)
  | .ok [.int j] e => .of (rngD [.int j]) e
  | .ok _ _ => .bot
  | .err x e => .err x e
  | .bot => .bot
theorem e_rng1 {m e} : vRng1 m e = (m e).bind fun ds e1 => match ds with
  | [_] => .of (rngD ds) e1
  | _ => .bot := (rfl)
theorem rng1_of {m e e1} {j : Int} (h : m e = .ok [.int j] e1) (h1 : -(2 ^ 62) ≤ j) (h2 : j < 2 ^ 62) : vRng1 m e = .ok ((List.range j.toNat).map fun (i : Nat) => .int (i : Int)) e1 := by
  rw [e_rng1, h]
  show Res.of (if -(2 ^ 62) ≤ j ∧ j < 2 ^ 62 then some ((List.range j.toNat).map fun (i : Nat) => D.int (0 + (i : Int))) else none) e1 = _
  rw [if_pos ⟨h1, h2⟩]
  simp only [Int.zero_add]
  rfl
theorem rng2_of {m e e1} {i j : Int} (h : m e = .ok [.int i, .int j] e1) (h1 : -(2 ^ 62) ≤ i ∧ i < 2 ^ 62 ∧ -(2 ^ 62) ≤ j ∧ j < 2 ^ 62) : vRng2 m e = .ok ((List.range (j - i).toNat).map fun (n : Nat) => .int (i + (n : Int))) e1 := by
  show (m e).bind _ = _
  rw [h]
  show Res.of (if -(2 ^ 62) ≤ i ∧ i < 2 ^ 62 ∧ -(2 ^ 62) ≤ j ∧ j < 2 ^ 62 then some ((List.range (j - i).toNat).map fun (n : Nat) => D.int (i + (n : Int))) else none) e1 = _
  rw [if_pos h1]
  rfl
/-! a def -/
def fRun : RS → FR
  | .nx _ => .ok .non
  | .rt d _ => .ok d
  | .err x _ => .err x
  | _ => .bot
@[simp] theorem fz1 {e} : fRun (.nx e) = .ok .non := (rfl)
@[simp] theorem fz2 {d e} : fRun (.rt d e) = .ok d := (rfl)
@[simp] theorem fz3 {d e} : fRun (.err d e) = .err d := (rfl)
@[simp] theorem e_run {np n b ds} : runB np n b ds = if ds.length = np then fRun (b (ds.map Sl.sh ++ List.replicate (n - np) .no)) else .bot := by
  unfold runB fRun
  split
  · split <;> simp_all
  · rfl
/-! operators on what they take -/
@[simp] theorem o_add {i j} : opAdd (.int i) (.int j) = some (.int (i + j)) := (rfl)
@[simp] theorem o_sub {i j} : opSub (.int i) (.int j) = some (.int (i - j)) := (rfl)
theorem o_mul {i j} (h : mulOk i j = true) : opMul (.int i) (.int j) = some (.int (i * j)) := by unfold opMul; simp [h]
theorem mulOk_l {i j : Int} (h1 : -(2 ^ 64) < i) (h2 : i < 2 ^ 64) : mulOk i j = true := by
  unfold mulOk
  have : i.natAbs < 2 ^ 64 := by omega
  simp [this]
theorem mulOk_r {i j : Int} (h1 : -(2 ^ 64) < j) (h2 : j < 2 ^ 64) : mulOk i j = true := by
  unfold mulOk
  have : j.natAbs < 2 ^ 64 := by omega
  simp [this]
theorem log2_lt {n k : Nat} (h : n < 2 ^ k) (hk : 0 < k) : n.log2 < k := by
  by_cases z : n = 0
  · subst z
    have : Nat.log2 0 = 0 := (rfl)
    omega
  · exact (Nat.log2_lt z).mpr h
theorem mulOk_b {i j : Int} (h1 : i.natAbs < 2 ^ 400000) (h2 : j.natAbs < 2 ^ 400000) : mulOk i j = true := by
  unfold mulOk
  have a := log2_lt h1 (by decide)
  have b := log2_lt h2 (by decide)
  have : i.natAbs.log2 + j.natAbs.log2 < 1000000 := by omega
  simp only [this, decide_true, Bool.or_true]
theorem o_fdiv {i j} (h : divOk j = true) : opFdiv (.int i) (.int j) = some (.int (i.fdiv j)) := by unfold opFdiv; simp [h]
theorem divOk_s {j : Int} (h : j ≠ 0) (h1 : -(2 ^ 64) < j) (h2 : j < 2 ^ 64) : divOk j = true := by
  unfold divOk
  have q : j.natAbs < 2 ^ 64 := by omega
  have := log2_lt q (by decide)
  have : j.natAbs.log2 < 9000 := by omega
  simp [this, h]
theorem divOk_b {j : Int} (h : j ≠ 0) (h1 : j.natAbs < 2 ^ 8000) : divOk j = true := by
  unfold divOk
  have := log2_lt h1 (by decide)
  have : j.natAbs.log2 < 9000 := by omega
  simp [this, h]
theorem o_mod {i j : Int} (h : j ≠ 0) : opMod (.int i) (.int j) = some (.int (i.fmod j)) := by unfold opMod; simp [h]
@[simp] theorem o_neg {i} : opNeg (.int i) = some (.int (-i)) := (rfl)
@[simp] theorem o_lt {i j} : opLt (.int i) (.int j) = some (.bl (decide (i < j))) := (rfl)
@[simp] theorem o_le {i j} : opLe (.int i) (.int j) = some (.bl (decide (i ≤ j))) := (rfl)
@[simp] theorem o_gt {i j} : opGt (.int i) (.int j) = some (.bl (decide (j < i))) := (rfl)
@[simp] theorem o_ge {i j} : opGe (.int i) (.int j) = some (.bl (decide (j ≤ i))) := (rfl)
@[simp] theorem eqok_int {n i} : D.eqok n (.int i) = true := by unfold D.eqok; rfl
@[simp] theorem eqok_bl {n i} : D.eqok n (.bl i) = true := by unfold D.eqok; rfl
@[simp] theorem eqok_non {n} : D.eqok n .non = true := by unfold D.eqok; rfl
@[simp] theorem eqok_str {n s} : D.eqok n (.str s) = strS s := by unfold D.eqok; rfl
@[simp] theorem eqok_tup {n ds} : D.eqok (n + 1) (.tup ds) = D.eqoks n ds := by rw [D.eqok]
@[simp] theorem eqok_lst {n ds} : D.eqok (n + 1) (.lst ds) = D.eqoks n ds := by rw [D.eqok]
@[simp] theorem eqoks_nil {n} : D.eqoks n [] = true := by rw [D.eqoks]
@[simp] theorem eqoks_cons {n d ds} : D.eqoks n (d :: ds) = (D.eqok n d && D.eqoks n ds) := by rw [D.eqoks]
@[simp] theorem deq_int {i j} : D.deq (.int i) (.int j) = decide (i = j) := by rw [D.deq]
@[simp] theorem deq_bl {i j} : D.deq (.bl i) (.bl j) = (i == j) := by rw [D.deq]
@[simp] theorem deq_str {i j} : D.deq (.str i) (.str j) = decide (i = j) := by rw [D.deq]
@[simp] theorem deq_tup {i j} : D.deq (.tup i) (.tup j) = D.deqs i j := by rw [D.deq]
@[simp] theorem deq_lst {i j} : D.deq (.lst i) (.lst j) = D.deqs i j := by rw [D.deq]
@[simp] theorem deqs_nil : D.deqs [] [] = true := by rw [D.deqs]
@[simp] theorem deqs_cons {x xs y ys} : D.deqs (x :: xs) (y :: ys) = (D.deq x y && D.deqs xs ys) := by rw [D.deqs]
@[simp] theorem deqs_nc {y ys} : D.deqs [] (y :: ys) = false := by rw [D.deqs] <;> simp
@[simp] theorem deqs_cn {y ys} : D.deqs (y :: ys) [] = false := by rw [D.deqs] <;> simp
theorem o_eq {a b : D} (h : a.eqok 20 = true) (h2 : b.eqok 20 = true) : opEq a b = some (.bl (D.deq a b)) := by unfold opEq; simp [h, h2]
theorem o_ne {a b : D} (h : a.eqok 20 = true) (h2 : b.eqok 20 = true) : opNe a b = some (.bl (!D.deq a b)) := by unfold opNe; simp [h, h2]
@[simp] theorem o_eqI {i j} : opEq (.int i) (.int j) = some (.bl (decide (i = j))) := by rw [o_eq] <;> simp
@[simp] theorem o_neI {i j} : opNe (.int i) (.int j) = some (.bl (!decide (i = j))) := by rw [o_ne] <;> simp
@[simp] theorem flat_int {i} : D.flat (.int i) = true := by rw [D.flat]
@[simp] theorem flat_bl {i} : D.flat (.bl i) = true := by rw [D.flat]
@[simp] theorem flat_str {i} : D.flat (.str i) = true := by rw [D.flat]
@[simp] theorem flat_non : D.flat .non = true := by rw [D.flat]
@[simp] theorem flat_tup {ds} : D.flat (.tup ds) = D.flats ds := by rw [D.flat]
@[simp] theorem flats_nil : D.flats [] = true := by rw [D.flats]
@[simp] theorem flats_cons {d ds} : D.flats (d :: ds) = (D.flat d && D.flats ds) := by rw [D.flats]
@[simp] theorem isi_int {i} : opIsi "int" (.int i) = some (.bl true) := (rfl)
@[simp] theorem isi_bool {i} : opIsi "bool" (.int i) = some (.bl false) := (rfl)
@[simp] theorem isi_tup {ds} : opIsi "tuple" (.tup ds) = some (.bl true) := (rfl)
@[simp] theorem isi_lst {ds} : opIsi "list" (.lst ds) = some (.bl true) := (rfl)
@[simp] theorem isi_boolB {b} : opIsi "bool" (.bl b) = some (.bl true) := (rfl)
@[simp] theorem len_tup {xs} : bfLen [.tup xs] = some (.int xs.length) := (rfl)
@[simp] theorem len_lst {xs} : bfLen [.lst xs] = some (.int xs.length) := (rfl)
@[simp] theorem abs_int {i} : bfAbs [.int i] = some (.int (if i < 0 then -i else i)) := (rfl)
@[simp] theorem min_int {i j} : bfMin [.int i, .int j] = some (.int (if j < i then j else i)) := (rfl)
@[simp] theorem max_int {i j} : bfMax [.int i, .int j] = some (.int (if j > i then j else i)) := (rfl)
@[simp] theorem ix_tup {xs i} : opIx (.tup xs) (.int i) = atD xs i := (rfl)
@[simp] theorem ix_lst {xs i} : opIx (.lst xs) (.int i) = atD xs i := (rfl)
@[simp] theorem at_0 {x xs} : atD (x :: xs) 0 = some x := by
  unfold atD ixD
  have h : (0 : Int) < ((x :: xs).length : Nat) := by rw [List.length_cons]; omega
  rw [if_pos (by decide), if_pos h]
  rfl
theorem at_nat {xs : List D} {i : Nat} (h : i < xs.length) : atD xs (i : Int) = some xs[i] := by
  unfold atD ixD
  rw [if_pos (by omega), if_pos (by omega)]
  simp [h]
theorem at_of {xs : List D} {i : Int} {n : Nat} {d : D} (hn : i = n) (h : xs[n]? = some d) : atD xs i = some d := by
  subst hn
  obtain ⟨q, e⟩ := List.getElem?_eq_some_iff.mp h
  rw [at_nat q, e]
@[simp] theorem at_1 {x y xs} : atD (x :: y :: xs) 1 = some y := at_of (n := 1) rfl rfl
@[simp] theorem at_2 {x y z xs} : atD (x :: y :: z :: xs) 2 = some z := at_of (n := 2) rfl rfl
@[simp] theorem at_3 {x y z u xs} : atD (x :: y :: z :: u :: xs) 3 = some u := at_of (n := 3) rfl rfl
@[simp] theorem at_4 {x y z u v xs} : atD (x :: y :: z :: u :: v :: xs) 4 = some v := at_of (n := 4) rfl rfl
@[simp] theorem at_5 {x y z u v a xs} : atD (x :: y :: z :: u :: v :: a :: xs) 5 = some a := at_of (n := 5) rfl rfl
theorem at_last {xs : List D} {d : D} : atD (xs ++ [d]) (-1) = some d := by
  unfold atD ixD
  rw [if_neg (by decide), if_pos (by simp only [List.length_append, List.length_cons, List.length_nil]; omega)]
  have e : ((-1 : Int) + ((xs ++ [d]).length : Nat)).toNat = xs.length := by
    simp only [List.length_append, List.length_cons, List.length_nil]; omega
  simp only [Option.bind_some, e]
  simp
/-! loops -/
theorem forL_inv {g : D → Env → Option Env} {b : MS} (I : Env → Prop) : ∀ (ds : List D) (e : Env), I e → (∀ d ∈ ds, ∀ e, I e → ∃ e1, g d e = some e1 ∧ ∃ e2, b e1 = .nx e2 ∧ I e2) → ∃ e', forL g b ds e = .nx e' ∧ I e'
  | [], e, h, _ => ⟨e, rfl, h⟩
  | d :: ds, e, h, st => by
    obtain ⟨e1, h1, e2, h2, h3⟩ := st d List.mem_cons_self e h
    obtain ⟨e', q, i⟩ := forL_inv I ds e2 h3 fun d hd => st d (List.mem_cons_of_mem _ hd)
    refine ⟨e', ?_, i⟩
    rw [forL]
    simp only [h1, h2]
    exact q
/-- .. by the place -/
theorem forL_at {g : D → Env → Option Env} {b : MS} (I : Nat → Env → Prop) : ∀ (ds : List D) (k : Nat) (e : Env), I k e → (∀ i d, ds[i]? = some d → ∀ e, I (k + i) e → ∃ e1, g d e = some e1 ∧ ∃ e2, b e1 = .nx e2 ∧ I (k + i + 1) e2) → ∃ e', forL g b ds e = .nx e' ∧ I (k + ds.length) e'
  | [], k, e, h, _ => ⟨e, rfl, h⟩
  | d :: ds, k, e, h, st => by
    obtain ⟨e1, h1, e2, h2, h3⟩ := st 0 d rfl e h
    obtain ⟨e', q, i⟩ := forL_at I ds (k + 1) e2 h3 fun i d hd e he => by
      have := st (i + 1) d (by simpa using hd) e (by rw [show k + (i + 1) = k + 1 + i by omega]; exact he)
      rw [show k + (i + 1) + 1 = k + 1 + i + 1 by omega] at this
      exact this
    refine ⟨e', ?_, by rw [show k + (d :: ds).length = k + 1 + ds.length by rw [List.length_cons]; omega]; exact i⟩
    rw [forL]
    simp only [h1, h2]
    exact q
theorem lcL_map {g : D → Env → Option Env} {t : MB} {el : ME} {own : List Nat} {e : Env} (h : D → D) : ∀ (ds acc : List D), (∀ d ∈ ds, ∃ e1, g d e = some e1 ∧ t e1 = .ok true e1 ∧ el e1 = .ok (h d) e1 ∧ wipeE e1 own = e) → wipeE e own = e → acc.length + ds.length ≤ 1000000 → lcL g t el own ds acc e = .ok (acc ++ ds.map h) e
  | [], acc, _, w, _ => by rw [lcL, w]; simp
  | d :: ds, acc, st, w, hl => by
    obtain ⟨e1, h1, h2, h3, h4⟩ := st d List.mem_cons_self
    have hv : acc.length < vmax := by rw [vmax_eq]; simp at hl; omega
    rw [lcL]
    simp only [h1, h2, Res.bindN, if_true, h3, hv, h4]
    rw [lcL_map h ds (acc ++ [h d]) (fun d hd => st d (List.mem_cons_of_mem _ hd)) w (by simp at hl ⊢; omega)]
    simp
theorem vLc_map {it : MA} {g : D → Env → Option Env} {t : MB} {el : ME} {own : List Nat} {e e0 e1 : Env} {ds : List D} (h : D → D) (hi : it e = .ok ds e0) (hw : wipeE e0 own = e1) (st : ∀ d ∈ ds, ∃ e2, g d e1 = some e2 ∧ t e2 = .ok true e2 ∧ el e2 = .ok (h d) e2 ∧ wipeE e2 own = e1) (w : wipeE e1 own = e1) (hl : ds.length ≤ 1000000) : vLc it g t el own e = .ok (ds.map h) e1 := by
  show (it e).bind _ = _
  rw [hi]
  show lcL g t el own ds [] (wipeE e0 own) = _
  rw [hw, lcL_map h ds [] st w (by simpa using hl)]
  rfl
theorem o_div {i j : Int} (h0 : 0 < j) (h : divOk j = true) : opFdiv (.int i) (.int j) = some (.int (i / j)) := by rw [o_fdiv h, Int.fdiv_eq_ediv_of_nonneg _ (by omega)]
theorem o_rem {i j : Int} (h0 : 0 < j) : opMod (.int i) (.int j) = some (.int (i % j)) := by rw [o_mod (by omega), Int.fmod_eq_emod_of_nonneg _ (by omega)]
theorem o_pow {i j : Int} (h : 0 ≤ j) (h1 : j ≤ 1000) (h2 : i.natAbs ≤ 1000) : opPow (.int i) (.int j) = some (.int (i ^ j.toNat)) := by
  show (if 0 ≤ j ∧ j ≤ 1000 ∧ i.natAbs ≤ 1000 then some (D.int (i ^ j.toNat)) else none) = _
  rw [if_pos ⟨h, h1, h2⟩]
theorem slT_to {xs : List D} {v : Int} (h : 0 ≤ v) : slT none (some v) (.lst xs) = some (.lst (xs.take v.toNat)) := by
  unfold slT cutD sIxD
  simp only [if_neg (show ¬ v < 0 by omega), List.drop_zero, Nat.sub_zero, Option.some.injEq, D.lst.injEq]
  rw [← List.take_take, List.take_length]
theorem slT_from {xs : List D} {v : Int} (h : 0 ≤ v) : slT (some v) none (.lst xs) = some (.lst (xs.drop v.toNat)) := by
  unfold slT cutD sIxD
  simp only [if_neg (show ¬ v < 0 by omega), Option.some.injEq, D.lst.injEq]
  by_cases q : v.toNat ≤ xs.length
  · rw [Nat.min_eq_left q, List.take_of_length_le (by rw [List.length_drop]; omega)]
  · rw [Nat.min_eq_right (by omega), List.drop_of_length_le (Nat.le_refl _), List.drop_of_length_le (by omega)]
    simp
theorem slT_two {xs : List D} {u v : Int} (h : 0 ≤ u) (h1 : u ≤ v) : slT (some u) (some v) (.lst xs) = some (.lst ((xs.drop u.toNat).take (v.toNat - u.toNat))) := by
  unfold slT cutD sIxD
  simp only [if_neg (show ¬ v < 0 by omega), if_neg (show ¬ u < 0 by omega), Option.some.injEq, D.lst.injEq]
  by_cases q : u.toNat ≤ xs.length
  · rw [Nat.min_eq_left q]
    by_cases q2 : v.toNat ≤ xs.length
    · rw [Nat.min_eq_left q2]
    · rw [Nat.min_eq_right (by omega), List.take_of_length_le (by rw [List.length_drop]; omega), List.take_of_length_le (by rw [List.length_drop]; omega)]
  · rw [Nat.min_eq_right (show xs.length ≤ u.toNat by omega), List.drop_of_length_le (Nat.le_refl _), List.drop_of_length_le (show xs.length ≤ u.toNat by omega)]
    simp
theorem lcL_ex {g : D → Env → Option Env} {t : MB} {el : ME} {own : List Nat} {e : Env} (P : D → Prop) : ∀ (ds acc : List D), (∀ d ∈ ds, ∃ e1, g d e = some e1 ∧ t e1 = .ok true e1 ∧ ∃ y, el e1 = .ok y e1 ∧ P y ∧ wipeE e1 own = e) → wipeE e own = e → acc.length + ds.length ≤ 1000000 → ∃ zs, lcL g t el own ds acc e = .ok (acc ++ zs) e ∧ zs.length = ds.length ∧ ∀ z ∈ zs, P z
  | [], acc, _, w, _ => ⟨[], by rw [lcL, w]; simp, rfl, by simp⟩
  | d :: ds, acc, st, w, hl => by
    obtain ⟨e1, h1, h2, y, h3, hp, h4⟩ := st d List.mem_cons_self
    have hv : acc.length < vmax := by rw [vmax_eq]; simp at hl; omega
    obtain ⟨zs, q, l, a⟩ := lcL_ex P ds (acc ++ [y]) (fun d hd => st d (List.mem_cons_of_mem _ hd)) w (by simp at hl ⊢; omega)
    refine ⟨y :: zs, ?_, by simp [l], by
      intro z hz
      rcases List.mem_cons.mp hz with rfl | hz
      · exact hp
      · exact a z hz⟩
    rw [lcL]
    simp only [h1, h2, Res.bindN, if_true, h3, hv, h4]
    rw [q]
    simp
theorem vLc_ex {it : MA} {g : D → Env → Option Env} {t : MB} {el : ME} {own : List Nat} {e e0 e1 : Env} {ds : List D} (P : D → Prop) (hi : it e = .ok ds e0) (hw : wipeE e0 own = e1) (st : ∀ d ∈ ds, ∃ e2, g d e1 = some e2 ∧ t e2 = .ok true e2 ∧ ∃ y, el e2 = .ok y e2 ∧ P y ∧ wipeE e2 own = e1) (w : wipeE e1 own = e1) (hl : ds.length ≤ 1000000) :
    ∃ zs, vLc it g t el own e = .ok zs e1 ∧ zs.length = ds.length ∧ ∀ z ∈ zs, P z := by
  obtain ⟨zs, q, l, a⟩ := lcL_ex (g := g) (t := t) (el := el) (own := own) P ds [] st w (by simpa using hl)
  refine ⟨zs, ?_, l, a⟩
  show (it e).bind _ = _
  rw [hi]
  show lcL g t el own ds [] (wipeE e0 own) = _
  rw [hw, q]
  rfl
@[simp] theorem wipe0 {e} : wipeE e [] = e := (rfl)
@[simp] theorem wipe1 {e v vs} : wipeE e (v :: vs) = (wipeE e vs).set v .no := (rfl)
theorem o_addL {xs ys : List D} (h : xs.length + ys.length ≤ 1000000) : opAdd (.lst xs) (.lst ys) = some (.lst (xs ++ ys)) := by
  show (if xs.length + ys.length ≤ vmax then some (D.lst (xs ++ ys)) else none) = _
  exact if_pos h
theorem at_ints {ns : List Int} {i : Nat} (h : i < ns.length) : atD (ns.map D.int) (i : Int) = some (.int ns[i]) := at_of rfl (by simp [h])
/-- small by bits -/
def Bd (n : Nat) (x : Int) : Prop := x.natAbs < 2 ^ n
theorem Bd.mono {n m : Nat} {x : Int} (h : Bd n x) (q : n ≤ m) : Bd m x := Nat.lt_of_lt_of_le h (Nat.pow_le_pow_right (by decide) q)
theorem Bd.mul {n m : Nat} {x y : Int} (h : Bd n x) (q : Bd m y) : Bd (n + m) (x * y) := by
  unfold Bd
  rw [Int.natAbs_mul, Nat.pow_add]
  exact Nat.mul_lt_mul'' h q
theorem Bd.add {n : Nat} {x y : Int} (h : Bd n x) (q : Bd n y) : Bd (n + 1) (x + y) := by
  unfold Bd at *
  rw [Nat.pow_succ]
  omega
theorem Bd.sub {n : Nat} {x y : Int} (h : Bd n x) (q : Bd n y) : Bd (n + 1) (x - y) := by
  unfold Bd at *
  rw [Nat.pow_succ]
  omega
theorem Bd.mulOk {x y : Int} (h : Bd 400000 x) (q : Bd 400000 y) : VL.mulOk x y = true := mulOk_b h q
theorem Bd.divOk {x : Int} (h : Bd 8000 x) (q : x ≠ 0) : VL.divOk x = true := divOk_b q h
theorem Bd.le {n : Nat} {x y : Int} (h : Bd n y) (q : x.natAbs ≤ y.natAbs) : Bd n x := Nat.lt_of_le_of_lt q h
@[simp] theorem o_isB {a b : Bool} : opIs (.bl a) (.bl b) = some (.bl (a == b)) := (rfl)
@[simp] theorem o_isnotB {a b : Bool} : opIsNot (.bl a) (.bl b) = some (.bl (!(a == b))) := (rfl)
@[simp] theorem o_isN {x : D} : opIs x .non = some (.bl x.isNon) := by cases x <;> rfl
@[simp] theorem o_isnotN {x : D} : opIsNot x .non = some (.bl (!x.isNon)) := by cases x <;> rfl
@[simp] theorem isNon_tup {xs} : D.isNon (.tup xs) = false := (rfl)
@[simp] theorem isNon_int {xs} : D.isNon (.int xs) = false := (rfl)
@[simp] theorem isNon_lst {xs} : D.isNon (.lst xs) = false := (rfl)
@[simp] theorem isNon_str {xs} : D.isNon (.str xs) = false := (rfl)
@[simp] theorem isNon_non : D.isNon .non = true := (rfl)
theorem at_mem {xs : List D} {i : Int} (h : 0 ≤ i) (h1 : i < xs.length) : ∃ y ∈ xs, atD xs i = some y := by
  have q : i.toNat < xs.length := by omega
  exact ⟨xs[i.toNat], List.getElem_mem q, at_of (n := i.toNat) (by omega) (by simp [q])⟩
/-- one turn of a loop -/
def turn (g : D → Env → Option Env) (b : MS) (d : D) (e : Env) : RS := match g d e with
  | some e1 => b e1
  | none => .bot
theorem turn_of {g : D → Env → Option Env} {b : MS} {d : D} {e e2 : Env} (h : turn g b d e = .nx e2) : ∃ e1, g d e = some e1 ∧ b e1 = .nx e2 := by
  unfold turn at h
  split at h
  · exact ⟨_, by assumption, h⟩
  · cases h
theorem turn_nam {i b d e} : turn (gNam i) b d e = if i < e.length then b (e.set i (.sh d)) else .bot := by
  unfold turn gNam
  by_cases h : i < e.length <;> simp [h]
/-- by the place -/
theorem loop_at {g : D → Env → Option Env} {b : MS} (I : Nat → Env → Prop) (ds : List D) (e : Env) (h : I 0 e) (st : ∀ i d, ds[i]? = some d → ∀ e, I i e → ∃ e2, turn g b d e = .nx e2 ∧ I (i + 1) e2) : ∃ e', forL g b ds e = .nx e' ∧ I ds.length e' := by
  have := forL_at (g := g) (b := b) I ds 0 e h fun i d hd e he => by
    rw [Nat.zero_add] at *
    obtain ⟨e2, h1, h2⟩ := st i d hd e he
    obtain ⟨e1, h3, h4⟩ := turn_of h1
    exact ⟨e1, h3, e2, h4, h2⟩
  rwa [Nat.zero_add] at this
theorem loop_inv {g : D → Env → Option Env} {b : MS} (I : Env → Prop) (ds : List D) (e : Env) (h : I e) (st : ∀ d ∈ ds, ∀ e, I e → ∃ e2, turn g b d e = .nx e2 ∧ I e2) : ∃ e', forL g b ds e = .nx e' ∧ I e' :=
  forL_inv I ds e h fun d hd e he => by
    obtain ⟨e2, h1, h2⟩ := st d hd e he
    obtain ⟨e1, h3, h4⟩ := turn_of h1
    exact ⟨e1, h3, e2, h4, h2⟩
theorem rng_at {m i : Nat} {d : D} (h : ((List.range m).map fun (i : Nat) => D.int (i : Int))[i]? = some d) : i < m ∧ d = .int (i : Int) := by
  have hi : i < m := by
    have := (List.getElem?_eq_some_iff.mp h).1
    simpa using this
  exact ⟨hi, by simpa [hi] using h.symm⟩
/-! texts -/
theorem str_len (x y : Str) : (x ++ y).length = x.length + y.length := by
  show (x.cps ++ y.cps).size = _
  rw [Array.size_append]
  rfl
theorem str_one (c : Nat) : (⟨#[c]⟩ : Str).length = 1 := rfl
theorem str_at {z : Str} {i : Int} (h : z.length ≤ 1000000) (h0 : 0 ≤ i) (h1 : i < z.length) : ∃ c, opIx (.str z) (.int i) = some (.str ⟨#[c]⟩) ∧ c ∈ z.cps := by
  show ∃ c, (if z.length ≤ vmax then (ixD z.cps.toList.length i).bind fun j => (z.cps.toList[j]?).map fun c => D.str ⟨#[c]⟩ else none) = _ ∧ _
  have q : i.toNat < z.cps.toList.length := by
    have : z.length = z.cps.toList.length := rfl
    omega
  refine ⟨z.cps.toList[i.toNat], ?_, by simp⟩
  rw [if_pos (show z.length ≤ vmax from h)]
  unfold ixD
  rw [if_pos h0, if_pos (by omega)]
  simp only [Option.bind_some]
  rw [List.getElem?_eq_getElem q]
  try rfl
theorem o_addS {x y : Str} (h : x.length + y.length ≤ 1000000) : opAdd (.str x) (.str y) = some (.str (x ++ y)) := if_pos h
theorem strS_add {x y : Str} (h : strS x = true) (h1 : strS y = true) : strS (x ++ y) = true := by
  unfold strS at *
  show (x.cps ++ y.cps).all _ = true
  rw [Array.all_append, h, h1]
  try rfl
theorem strS_one {c : Nat} {z : Str} (h : c ∈ z.cps) (h1 : strS z = true) : strS ⟨#[c]⟩ = true := by
  unfold strS at *
  have := (Array.all_eq_true_iff_forall_mem.mp h1) c h
  simpa using this
theorem cutSD_sub {z : Str} {lo hi : Option Int} : (∀ c ∈ (cutSD z lo hi).cps, c ∈ z.cps) ∧ (cutSD z lo hi).length ≤ z.length := by
  constructor
  · intro c hc
    have h : c ∈ ((z.cps.toList.drop (sIxD z.length 0 lo)).take (sIxD z.length z.length hi - sIxD z.length 0 lo)) := by
      simpa [cutSD] using hc
    simpa using List.mem_of_mem_drop (List.mem_of_mem_take h)
  · show (((z.cps.toList.drop (sIxD z.length 0 lo)).take (sIxD z.length z.length hi - sIxD z.length 0 lo)).toArray).size ≤ z.cps.size
    simp
    omega
theorem strS_of {y z : Str} (h : ∀ c ∈ y.cps, c ∈ z.cps) (h1 : strS z = true) : strS y = true := by
  unfold strS at *
  rw [Array.all_eq_true_iff_forall_mem] at *
  exact fun c hc => h1 c (h c hc)
theorem slT_str {z : Str} {lo hi : Option Int} (h : z.length ≤ 1000000) : slT lo hi (.str z) = some (.str (cutSD z lo hi)) := if_pos h
theorem o_addT {x y : D} {xs ys : List D} (h : xs.length + ys.length + 2 ≤ 1000000) : opAdd (.tup (x :: xs)) (.tup (y :: ys)) = some (.tup (x :: xs ++ y :: ys)) := if_pos h
theorem str_eq (a b : String) (h : decide (Str.ofString a = Str.ofString b) = false) : Str.ofString a ≠ Str.ofString b := of_decide_eq_false h
theorem ints_of {P : Int → Prop} : ∀ {zs : List D}, (∀ z ∈ zs, ∃ k, z = D.int k ∧ P k) → ∃ ks : List Int, zs = ks.map D.int ∧ ∀ k ∈ ks, P k
  | [], _ => ⟨[], rfl, by simp⟩
  | z :: zs, h => by
    obtain ⟨k, rfl, p⟩ := h z List.mem_cons_self
    obtain ⟨ks, rfl, q⟩ := ints_of (zs := zs) fun z hz => h z (List.mem_cons_of_mem _ hz)
    exact ⟨k :: ks, rfl, fun x hx => by
      rcases List.mem_cons.mp hx with rfl | hx
      · exact p
      · exact q x hx⟩
mutual
theorem deq_self : ∀ (n : Nat) (d : D), d.eqok n = true → D.deq d d = true
  | n, .non, _ => by rw [D.deq]
  | n, .bl b, _ => by simp
  | n, .int i, _ => by simp
  | n, .str s, _ => by simp
  | n, .dct _ _, h => by unfold D.eqok at h; cases h
  | 0, .tup _, h => by unfold D.eqok at h; cases h
  | 0, .lst _, h => by unfold D.eqok at h; cases h
  | n + 1, .tup ds, h => by
    rw [eqok_tup] at h
    rw [deq_tup]
    exact deqs_self n ds h
  | n + 1, .lst ds, h => by
    rw [eqok_lst] at h
    rw [deq_lst]
    exact deqs_self n ds h
theorem deqs_self : ∀ (n : Nat) (ds : List D), D.eqoks n ds = true → D.deqs ds ds = true
  | n, [], _ => by simp
  | n, d :: ds, h => by
    rw [eqoks_cons, Bool.and_eq_true] at h
    rw [deqs_cons, deq_self n d h.1, deqs_self n ds h.2]
    rfl
end
theorem eqoks_all {n : Nat} : ∀ {ds : List D}, (∀ d ∈ ds, D.eqok n d = true) → D.eqoks n ds = true
  | [], _ => by simp
  | d :: ds, h => by rw [eqoks_cons, h d List.mem_cons_self, eqoks_all fun d hd => h d (List.mem_cons_of_mem _ hd)]; rfl
theorem eqoks_ints {n : Nat} {ns : List Int} : D.eqoks n (ns.map D.int) = true := eqoks_all fun d hd => by
  obtain ⟨i, _, rfl⟩ := List.mem_map.mp hd
  simp
theorem o_eqS {a : D} (h : a.eqok 20 = true) : opEq a a = some (.bl true) := by rw [o_eq h h, deq_self 20 a h]
theorem o_neS {a : D} (h : a.eqok 20 = true) : opNe a a = some (.bl false) := by rw [o_ne h h, deq_self 20 a h]; rfl
theorem pop_of {i : Nat} {e : Env} {xs : List D} {d : D} (h : e[i]? = some (.ow false (xs ++ [d]))) : vPop i e = .ok d (e.set i (.ow false xs)) := by
  unfold vPop
  simp [h]
@[simp] theorem rev1 {xs} : revL (.lst xs) = some xs.reverse := (rfl)
@[simp] theorem e_enum {m e} : vEnum m e = (m e).bind fun ds e1 => .of (enumD ds) e1 := (rfl)
@[simp] theorem enum1 {ds} : enumD [.lst ds] = some (ds.zipIdx.map fun p => .tup [.int ((p.2 : Nat) : Int), p.1]) := (rfl)
@[simp] theorem list1 {ds} : bfList [.lst ds] = some ds := (rfl)
theorem intsD_map : ∀ (ns : List Int), intsD (ns.map D.int) = some ns
  | [] => rfl
  | n :: ns => by
    show (intsD (ns.map D.int)).map (n :: ·) = _
    rw [intsD_map ns]
    rfl
theorem sum_ints {ns : List Int} : bfSum [.lst (ns.map D.int)] = some (.int ns.sum) := by
  show (intsD (ns.map D.int)).map _ = _
  rw [intsD_map]
  rfl
theorem boolsD_all : ∀ {ds : List D}, (∀ d ∈ ds, d = .bl true) → ∃ bs : List Bool, boolsD ds = some bs ∧ bs.all id = true
  | [], _ => ⟨[], rfl, rfl⟩
  | d :: ds, h => by
    obtain ⟨bs, e, a⟩ := boolsD_all fun d hd => h d (List.mem_cons_of_mem _ hd)
    have := h d List.mem_cons_self
    subst this
    refine ⟨true :: bs, ?_, by simpa using a⟩
    show (boolsD ds).map (true :: ·) = _
    rw [e]
    rfl
theorem all_true {ds : List D} (h : ∀ d ∈ ds, d = .bl true) : bfAll [.lst ds] = some (.bl true) := by
  obtain ⟨bs, e, a⟩ := boolsD_all h
  show (boolsD ds).map _ = _
  rw [e]
  show some (D.bl (bs.all id)) = _
  rw [a]
theorem forL_nx {g b d ds e e2} (h : turn g b d e = .nx e2) : forL g b (d :: ds) e = forL g b ds e2 := by
  obtain ⟨e1, h1, h2⟩ := turn_of h
  rw [forL]
  simp only [h1, h2]
theorem forL_rt {g b d ds e e2 x} (h : turn g b d e = .rt x e2) : forL g b (d :: ds) e = .rt x e2 := by
  unfold turn at h
  rw [forL]
  split at h
  · rename_i h1
    simp only [h1, h]
  · cases h
theorem turn_nam' {i b d e} (h : i < e.length) : turn (gNam i) b d e = b (e.set i (.sh d)) := by rw [turn_nam, if_pos h]
/-! tokens, try -/
@[simp] theorem clr0 {n} : clrE n [] = [] := (rfl)
@[simp] theorem clr1 {n s r} : clrE n (s :: r) = clrTk n s :: clrE n r := (rfl)
@[simp] theorem ctk1 {n d} : clrTk n (.sh d) = .sh d := (rfl)
@[simp] theorem ctk2 {n b d} : clrTk n (.ow b d) = .ow b d := (rfl)
@[simp] theorem ctk3 {n} : clrTk n .no = .no := (rfl)
@[simp] theorem ctk4 {n} : clrTk n (.tk n) = .no := if_pos rfl
@[simp] theorem po1 {n i s e} : RS.post n i s (.nx e) = .nx ((clrE n e).set i s) := (rfl)
@[simp] theorem po2 {n i s d e} : RS.post n i s (.rt d e) = .rt d ((clrE n e).set i s) := (rfl)
def fTryAs (names : List Str) (anc : Str → Str → Bool) (y : Str) (i : Nat) (h : Str → MS) : RS → RS
  | .err x e1 => match x.val with
    | none => if x.cls ∈ names then (if anc x.cls y = true then RS.post 0 i .no (h x.cls ((clrE 0 e1).set i (.tk 0))) else .err x e1) else .bot
    | some _ => .bot
  | r => r
@[simp] theorem ta1 {names anc y i h e} : fTryAs names anc y i h (.nx e) = .nx e := (rfl)
@[simp] theorem ta2 {names anc y i h d e} : fTryAs names anc y i h (.rt d e) = .rt d e := (rfl)
@[simp] theorem ta3 {names anc y i h c e} : fTryAs names anc y i h (.err ⟨c, none⟩ e) = if c ∈ names then (if anc c y = true then RS.post 0 i .no (h c ((clrE 0 e).set i (.tk 0))) else .err ⟨c, none⟩ e) else .bot := (rfl)
@[simp] theorem e_tryAs {names anc y i b h e} : vTryAs names anc y i b h e = fTryAs names anc y i h (b e) := by
  unfold vTryAs
  cases (b e) <;> rfl
def fIsE (b : Bool) (e : Env) : Option Sl → Res D
  | some (.tk 0) => .ok (.bl b) e
  | _ => .bot
@[simp] theorem ie1 {b e} : fIsE b e (some (.tk 0)) = .ok (.bl b) e := (rfl)
@[simp] theorem e_isE {i b e} : vIsE i b e = fIsE b e e[i]? := by
  unfold vIsE
  cases e[i]? with
  | none => rfl
  | some s => cases s with
    | tk n => cases n <;> rfl
    | _ => rfl
theorem forO_nx {n i g b e e1 ds} (h : e[i]? = some (.ow false ds)) (h1 : forL g b ds ((clrE n e).set i (.tk n)) = .nx e1) (h2 : e1[i]? = some (.tk n)) : vForO n i g b e = .nx ((clrE n e1).set i (.ow false ds)) := by
  unfold vForO
  simp only [h, h1, h2, if_true]
theorem set_of {i : Nat} {ix a : ME} {e e1 e2 : Env} {ds : List D} {d : D} {k : Int} {j : Nat} (ha : a e = .ok d e1) (h1 : e1[i]? = some (.ow false ds)) (hx : ix e1 = .ok (.int k) e2) (h2 : e2[i]? = some (.ow false ds)) (hk : ixD ds.length k = some j) : vSet i ix a e = .nx (e2.set i (.ow false (ds.set j d))) := by
  unfold vSet
  simp only [ha, Res.thenS, h1, hx, h2, hk]
theorem ix_last {n : Nat} : ixD (n + 1) (-1) = some n := by
  unfold ixD
  rw [if_neg (by decide), if_pos (by omega)]
  congr 1
  omega
theorem set_last {xs : List D} {x y : D} : (xs ++ [x]).set xs.length y = xs ++ [y] := by
  rw [List.set_append_right _ _ (Nat.le_refl _)]
  simp
theorem lcL_flt {g : D → Env → Option Env} {t : MB} {el : ME} {own : List Nat} {e : Env} (P : D → Prop) : ∀ (ds acc : List D), (∀ d ∈ ds, ∃ e1, g d e = some e1 ∧ wipeE e1 own = e ∧ ∃ k, t e1 = .ok k e1 ∧ (k = true → ∃ y, el e1 = .ok y e1 ∧ P y)) → wipeE e own = e → acc.length + ds.length ≤ 1000000 → ∃ zs, lcL g t el own ds acc e = .ok (acc ++ zs) e ∧ zs.length ≤ ds.length ∧ ∀ z ∈ zs, P z
  | [], acc, _, w, _ => ⟨[], by rw [lcL, w]; simp, Nat.le_refl _, by simp⟩
  | d :: ds, acc, st, w, hl => by
    obtain ⟨e1, h1, h4, k, h2, hy⟩ := st d List.mem_cons_self
    have hv : acc.length < vmax := by rw [vmax_eq]; simp at hl; omega
    cases k with
    | true =>
      obtain ⟨y, h3, hp⟩ := hy rfl
      obtain ⟨zs, q, l, a⟩ := lcL_flt P ds (acc ++ [y]) (fun d hd => st d (List.mem_cons_of_mem _ hd)) w (by simp at hl ⊢; omega)
      refine ⟨y :: zs, ?_, by simp; omega, by
        intro z hz
        rcases List.mem_cons.mp hz with rfl | hz
        · exact hp
        · exact a z hz⟩
      rw [lcL]
      simp only [h1, h2, Res.bindN, if_true, h3, hv, h4]
      rw [q]
      simp
    | false =>
      obtain ⟨zs, q, l, a⟩ := lcL_flt P ds acc (fun d hd => st d (List.mem_cons_of_mem _ hd)) w (by simp at hl ⊢; omega)
      refine ⟨zs, ?_, by simp; omega, a⟩
      rw [lcL]
      simp only [h1, h2, Res.bindN, if_neg Bool.false_ne_true, h4]
      exact q
theorem vLc_flt {it : MA} {g : D → Env → Option Env} {t : MB} {el : ME} {own : List Nat} {e e0 e1 : Env} {ds : List D} (P : D → Prop) (hi : it e = .ok ds e0) (hw : wipeE e0 own = e1) (st : ∀ d ∈ ds, ∃ e2, g d e1 = some e2 ∧ wipeE e2 own = e1 ∧ ∃ k, t e2 = .ok k e2 ∧ (k = true → ∃ y, el e2 = .ok y e2 ∧ P y)) (w : wipeE e1 own = e1) (hl : ds.length ≤ 1000000) :
    ∃ zs, vLc it g t el own e = .ok zs e1 ∧ zs.length ≤ ds.length ∧ ∀ z ∈ zs, P z := by
  obtain ⟨zs, q, l, a⟩ := lcL_flt (g := g) (t := t) (el := el) (own := own) P ds [] st w (by simpa using hl)
  refine ⟨zs, ?_, l, a⟩
  show (it e).bind _ = _
  rw [hi]
  show lcL g t el own ds [] (wipeE e0 own) = _
  rw [hw, q]
  rfl
theorem of_all {α : Type} {f : α → D} {P : α → Prop} : ∀ {zs : List D}, (∀ z ∈ zs, ∃ k, z = f k ∧ P k) → ∃ ks : List α, zs = ks.map f ∧ ∀ k ∈ ks, P k
  | [], _ => ⟨[], rfl, by simp⟩
  | z :: zs, h => by
    obtain ⟨k, rfl, p⟩ := h z List.mem_cons_self
    obtain ⟨ks, rfl, q⟩ := of_all (zs := zs) fun z hz => h z (List.mem_cons_of_mem _ hz)
    exact ⟨k :: ks, rfl, fun x hx => by
      rcases List.mem_cons.mp hx with rfl | hx
      · exact p
      · exact q x hx⟩
/-- a whole number, no truth -/
def D.isI : D → Bool
  | .int _ => true
  | _ => false
def fDisp : Res (List (D × D)) → Res D
  | .ok ps e => .of (dispD ps) e
  | .err x e => .err x e
  | .bot => .bot
@[simp] theorem fdi1 {ps e} : fDisp (.ok ps e) = .of (dispD ps) e := (rfl)
@[simp] theorem e_disp {r e} : vDisp r e = fDisp (r e) := by unfold vDisp; cases (r e) <;> rfl
@[simp] theorem e_pn {e} : vPN e = .ok [] e := (rfl)
@[simp] theorem e_pc {k v r e} : vPC k v r e = (k e).bind fun x e1 => (v e1).bind fun y e2 => (r e2).bind fun ps e3 => .ok ((x, y) :: ps) e3 := (rfl)
theorem boolsD_none : ∀ {ds : List D}, (∀ d ∈ ds, d = .bl false) → ∃ bs : List Bool, boolsD ds = some bs ∧ bs.any id = false
  | [], _ => ⟨[], rfl, rfl⟩
  | d :: ds, h => by
    obtain ⟨bs, e, a⟩ := boolsD_none fun d hd => h d (List.mem_cons_of_mem _ hd)
    have := h d List.mem_cons_self
    subst this
    refine ⟨false :: bs, ?_, by simpa using a⟩
    show (boolsD ds).map (false :: ·) = _
    rw [e]
    rfl
theorem any_false {ds : List D} (h : ∀ d ∈ ds, d = .bl false) : bfAny [.lst ds] = some (.bl false) := by
  obtain ⟨bs, e, a⟩ := boolsD_none h
  show (boolsD ds).map _ = _
  rw [e]
  show some (D.bl (bs.any id)) = _
  rw [a]
theorem str_int {i : Int} (h : i.natAbs < 2 ^ 1900) : ∃ z, bfStr [.int i] = some (.str z) := by
  refine ⟨(toString i : String), ?_⟩
  show (if i.natAbs.log2 < 1920 then some (D.str (toString i : String)) else none) = _
  rw [if_pos (Nat.lt_trans (log2_lt h (by decide)) (by decide))]
theorem forL_err {g b d ds e e2 x} (h : turn g b d e = .err x e2) : forL g b (d :: ds) e = .err x e2 := by
  unfold turn at h
  rw [forL]
  split at h
  · rename_i h1
    simp only [h1, h]
  · cases h
theorem vLc_err {it : MA} {g : D → Env → Option Env} {t : MB} {el : ME} {own : List Nat} {e e1 : Env} {x : Xc} (h : it e = .err x e1) : vLc it g t el own e = .err x e1 := by
  show (it e).bind _ = _
  rw [h]
  rfl
theorem slT_tupL {x : D} {xs : List D} {y : D} : slT none (some (-1)) (.tup (x :: (xs ++ [y]))) = some (.tup (x :: xs)) := by
  have h2 : sIxD (x :: (xs ++ [y])).length (x :: (xs ++ [y])).length (some (-1)) = xs.length + 1 := by
    show (if (-1 : Int) < 0 then ((-1 : Int) + ((x :: (xs ++ [y])).length : Nat)).toNat else min (-1 : Int).toNat (x :: (xs ++ [y])).length) = _
    rw [if_pos (by decide)]
    simp only [List.length_cons, List.length_append, List.length_nil]
    omega
  show (if sIxD (x :: (xs ++ [y])).length 0 none = 0 ∧ sIxD (x :: (xs ++ [y])).length (x :: (xs ++ [y])).length (some (-1)) = (x :: (xs ++ [y])).length then none else some (D.tup (cutD (x :: (xs ++ [y])) none (some (-1))))) = _
  rw [if_neg (by rw [h2]; simp)]
  unfold cutD
  rw [h2]
  show some (D.tup (((x :: (xs ++ [y])).drop 0).take (xs.length + 1 - 0))) = _
  simp
mutual
theorem eqok_succ : ∀ (n : Nat) (d : D), d.eqok n = true → d.eqok (n + 1) = true
  | n, .non, _ => by simp
  | n, .bl b, _ => by simp
  | n, .int i, _ => by simp
  | n, .str s, h => by simpa using h
  | n, .dct _ _, h => by unfold D.eqok at h; cases h
  | 0, .tup _, h => by unfold D.eqok at h; cases h
  | 0, .lst _, h => by unfold D.eqok at h; cases h
  | n + 1, .tup ds, h => by
    rw [eqok_tup] at *
    exact eqoks_succ n ds h
  | n + 1, .lst ds, h => by
    rw [eqok_lst] at *
    exact eqoks_succ n ds h
theorem eqoks_succ : ∀ (n : Nat) (ds : List D), D.eqoks n ds = true → D.eqoks (n + 1) ds = true
  | n, [], _ => by simp
  | n, d :: ds, h => by
    rw [eqoks_cons, Bool.and_eq_true] at h
    rw [eqoks_cons, eqok_succ n d h.1, eqoks_succ n ds h.2]
    rfl
end
/-! dicts of one's own -/
def fAsK (i : Nat) : Res (List Ky × List D) → RS
  | .ok kd e => if i < e.length then .nx (e.set i (.ow true [.dct kd.1 kd.2])) else .bot
  | .err x e => .err x e
  | .bot => .bot
@[simp] theorem fak1 {i kd e} : fAsK i (.ok kd e) = if i < e.length then .nx (e.set i (.ow true [.dct kd.1 kd.2])) else .bot := (rfl)
@[simp] theorem fak2 {i x e} : fAsK i (.err x e) = .err x e := (rfl)
@[simp] theorem e_asgK {i a e} : vAsgK i a e = fAsK i (a e) := by unfold vAsgK fAsK; cases (a e) <;> rfl
@[simp] theorem e_k0 {e} : vK0 e = .ok ([], []) e := (rfl)
@[simp] theorem e_kd {r e} : vKD r e = (r e).bind fun ps e1 => .of (dispK ps) e1 := (rfl)
@[simp] theorem e_kc {a e} : vKC a e = (a e).bind fun xs e1 => .of (copyK xs) e1 := (rfl)
@[simp] theorem copyK1 {ks ds} : copyK [.dct ks ds] = some (ks, ds) := (rfl)
@[simp] theorem e_ofK {a e} : vOfK a e = (a e).bind fun kd e1 => .ok (.dct kd.1 kd.2) e1 := (rfl)
def fBorK (e : Env) : Res (List Ky × List D) → Res (List Ky × List D)
  | .ok kd _ => if D.flats kd.2 then .ok kd e else .bot
  | .err x _ => .err x e
  | .bot => .bot
@[simp] theorem fbk1 {e kd e1} : fBorK e (.ok kd e1) = if D.flats kd.2 then .ok kd e else .bot := (rfl)
@[simp] theorem fbk2 {e x e1} : fBorK e (.err x e1) = .err x e := (rfl)
@[simp] theorem e_borK {a e} : vBorK a e = fBorK e (a (frz e)) := by unfold vBorK; cases (a (frz e)) <;> rfl
theorem setK_of {i : Nat} {ix a : ME} {e e1 e2 : Env} {ds0 : List D} {ks : List Ky} {ds : List D} {d kd : D} {k : Ky} (ha : a e = .ok d e1) (h1 : e1[i]? = some (.ow true ds0)) (hx : ix e1 = .ok kd e2) (h2 : e2[i]? = some (.ow true [.dct ks ds])) (hk : keyD kd = some k) (hl : ks.length < 1000000) :
    vSetK i ix a e = .nx (e2.set i (.ow true [.dct (putD ks ds k d).1 (putD ks ds k d).2])) := by
  unfold vSetK
  simp only [ha, Res.thenS, h1, hx, h2, hk]
  exact if_pos hl
/-! what a dict holds -/
theorem get_of : ∀ {ks : List Ky} {ds : List D} {k : Ky}, ks.length = ds.length → k ∈ ks → ∃ d ∈ ds, dctGet ks ds k = some d
  | [], ds, k, _, h => by simp at h
  | k0 :: ks, [], k, hl, _ => by simp at hl
  | k0 :: ks, d0 :: ds, k, hl, h => by
    by_cases e : k0 = k
    · exact ⟨d0, by simp, by simp [dctGet, e]⟩
    · have hm : k ∈ ks := by
        rcases List.mem_cons.mp h with h | h
        · exact absurd h.symm e
        · exact h
      obtain ⟨d, h1, h2⟩ := get_of (ds := ds) (by simpa using hl) hm
      refine ⟨d, by simp [h1], ?_⟩
      simp only [dctGet, List.zip_cons_cons, List.find?_cons, decide_eq_false e] at h2 ⊢
      exact h2
theorem get_none : ∀ {ks : List Ky} {ds : List D} {k : Ky}, k ∉ ks → dctGet ks ds k = none
  | [], ds, k, _ => by simp [dctGet]
  | k0 :: ks, [], k, _ => by simp [dctGet]
  | k0 :: ks, d0 :: ds, k, h => by
    have e : ¬ k0 = k := fun z => h (by simp [z])
    have h2 := get_none (ds := ds) (fun z => h (List.mem_cons_of_mem _ z) : k ∉ ks)
    simp only [dctGet, List.zip_cons_cons, List.find?_cons, decide_eq_false e] at h2 ⊢
    exact h2
theorem hits_self : ∀ {ks : List Ky} {ds : List D} (ls : List Ky) (es : List D), ls.length = es.length → (ls ++ ks).Nodup → (∀ d ∈ ds, D.deq d d = true) → hitsD (ls ++ ks) (es ++ ds) ks ds = true
  | [], ds, ls, es, _, _, _ => by unfold hitsD; rfl
  | k :: ks, [], ls, es, _, _, _ => by unfold hitsD; rfl
  | k :: ks, d :: ds, ls, es, hl, nd, h => by
    have nk : k ∉ ls := fun z => by
      rw [List.nodup_append] at nd
      exact nd.2.2 k z k (by simp) rfl
    have g : ∀ (ls : List Ky) (es : List D), ls.length = es.length → k ∉ ls → dctGet (ls ++ k :: ks) (es ++ d :: ds) k = some d := by
      intro ls
      induction ls with
      | nil => intro es hl _; have : es = [] := by simpa using hl.symm
               subst this; simp [dctGet]
      | cons l ls ih =>
        intro es hl nk
        cases es with
        | nil => simp at hl
        | cons e es =>
          have := ih es (by simpa using hl) (fun z => nk (List.mem_cons_of_mem _ z))
          have ne : ¬ l = k := fun z => nk (by simp [z])
          simp only [dctGet, List.cons_append, List.zip_cons_cons, List.find?_cons, decide_eq_false ne] at this ⊢
          exact this
    have ih := hits_self (ks := ks) (ds := ds) (ls ++ [k]) (es ++ [d]) (by simp [hl]) (by simpa using nd) (fun x hx => h x (List.mem_cons_of_mem _ hx))
    rw [List.append_assoc, List.append_assoc] at ih
    unfold hitsD
    rw [g ls es hl nk]
    simp only [h d List.mem_cons_self, Bool.true_and]
    exact ih
theorem o_neK {ks : List Ky} {ds : List D} (nd : ks.Nodup) (h : D.eqoks 20 ds = true) : opNe (.dct ks ds) (.dct ks ds) = some (.bl false) := by
  have e : hitsD ks ds ks ds = true := by
    have := hits_self (ks := ks) (ds := ds) [] [] rfl (by simpa using nd) (fun d hd => by
      have : ∀ {ds : List D}, D.eqoks 20 ds = true → ∀ d ∈ ds, D.eqok 20 d = true := fun {ds} => by
        induction ds with
        | nil => intro _ d hd; simp at hd
        | cons x xs ih =>
          intro h d hd
          rw [eqoks_cons, Bool.and_eq_true] at h
          rcases List.mem_cons.mp hd with rfl | hd
          · exact h.1
          · exact ih h.2 d hd
      exact deq_self 20 d (this h d hd))
    simpa using this
  have n1 : D.eqok 20 (.dct ks ds) = false := by unfold D.eqok; rfl
  unfold opNe opEqK
  simp [n1, h, e]
theorem put_mem {ks : List Ky} {ds : List D} {k : Ky} {d : D} (hl : ks.length = ds.length) : (putD ks ds k d).1.length = (putD ks ds k d).2.length ∧ (∀ j, j ∈ (putD ks ds k d).1 ↔ j = k ∨ j ∈ ks) ∧ (ks.Nodup → (putD ks ds k d).1.Nodup) ∧ (∀ x ∈ (putD ks ds k d).2, x = d ∨ x ∈ ds) ∧ (putD ks ds k d).1.length ≤ ks.length + 1 := by
  unfold putD
  by_cases h : (ks.any fun j => decide (j = k)) = true
  · rw [if_pos h]
    obtain ⟨j, hj, e⟩ := List.any_eq_true.mp h
    have e := of_decide_eq_true e
    subst e
    refine ⟨by simp; omega, fun i => ⟨fun q => .inr q, fun q => by rcases q with rfl | q <;> assumption⟩, fun q => q, fun x hx => ?_, by simp⟩
    obtain ⟨p, hp, rfl⟩ := List.mem_map.mp hx
    by_cases q : p.1 = j
    · rw [if_pos q]; exact .inl rfl
    · rw [if_neg q]; exact .inr (List.of_mem_zip hp).2
  · rw [if_neg h]
    have nk : k ∉ ks := fun z => h (List.any_eq_true.mpr ⟨k, z, decide_eq_true rfl⟩)
    refine ⟨by simp [hl], fun j => by simp [or_comm], fun q => ?_, fun x hx => ?_, by simp⟩
    · rw [List.nodup_append]
      refine ⟨q, by simp, fun a ha b hb => ?_⟩
      simp at hb
      subst hb
      exact fun z => nk (z ▸ ha)
    · simp at hx
      rcases hx with hx | hx
      · exact .inr hx
      · exact .inl hx
@[simp] theorem e_catF {a b e} : vCatF a b e = (a e).bind fun x e1 => (b e1).bind fun y e2 => .of (catL x y) e2 := (rfl)
theorem o_catL {xs ys : List D} (h : xs.length + ys.length ≤ 1000000) : catL (.lst xs) (.lst ys) = some (xs ++ ys) := if_pos h
def fRI (x f : Str) : Res D → RS
  | .ok (.int n) e1 => .err ⟨x, some (f, n)⟩ e1
  | .err y e1 => .err y e1
  | _ => .bot
@[simp] theorem fri1 {x f n e} : fRI x f (.ok (.int n) e) = .err ⟨x, some (f, n)⟩ e := (rfl)
@[simp] theorem fri2 {x f y e} : fRI x f (.err y e) = .err y e := (rfl)
@[simp] theorem e_raiseI {x f m e} : vRaiseI x f m e = fRI x f (m e) := by
  unfold vRaiseI
  cases m e with
  | ok d e1 => cases d <;> rfl
  | err y e1 => rfl
  | bot => rfl
def fTM (names : List Str) (anc : Str → Str → Bool) (cl : List Cl) : RS → RS
  | .err x e1 => if x.cls ∈ names then vHandle anc cl x e1 else .bot
  | r => r
@[simp] theorem ftm1 {names anc cl e} : fTM names anc cl (.nx e) = .nx e := (rfl)
@[simp] theorem ftm2 {names anc cl d e} : fTM names anc cl (.rt d e) = .rt d e := (rfl)
@[simp] theorem ftm3 {names anc cl x e} : fTM names anc cl (.err x e) = if x.cls ∈ names then vHandle anc cl x e else .bot := (rfl)
@[simp] theorem e_tryM {names anc cl b e} : vTryM names anc cl b e = fTM names anc cl (b e) := by
  unfold vTryM
  cases b e <;> rfl
@[simp] theorem hd1 {anc x e} : vHandle anc [] x e = .err x e := (rfl)
@[simp] theorem hd2 {anc y h r x e} : vHandle anc ((y, none, h) :: r) x e = if anc x.cls y = true then noX (h x e) else vHandle anc r x e := (rfl)
@[simp] theorem hd3 {anc y i h r x e} : vHandle anc ((y, some i, h) :: r) x e = if anc x.cls y = true then (h x ((clrE 0 e).set i (.tk 0))).post 0 i .no else vHandle anc r x e := (rfl)
@[simp] theorem nox1 {e} : noX (.nx e) = .nx e := (rfl)
@[simp] theorem nox2 {d e} : noX (.rt d e) = .rt d e := (rfl)
def fXf (f : Str) (x : Xc) (e : Env) : Option Sl → Res D
  | some (.tk 0) => (match x.val with
    | some (g, n) => if g = f then .ok (.int n) e else .bot
    | none => .bot)
  | _ => .bot
@[simp] theorem fxf1 {f c g n e} : fXf f ⟨c, some (g, n)⟩ e (some (.tk 0)) = if g = f then .ok (.int n) e else .bot := (rfl)
@[simp] theorem e_xf {i f x e} : vXf i f x e = fXf f x e e[i]? := by
  unfold vXf fXf
  cases e[i]? with
  | none => rfl
  | some s => cases s <;> rfl
/-! loops over lists that stand there item by item -/
def fTurn (b : MS) : Option Env → RS
  | some e => b e
  | none => .bot
theorem fturn1 {b e} : fTurn b (some e) = b e := (rfl)
def fLp (g : D → Env → Option Env) (b : MS) (ds : List D) : RS → RS
  | .nx e => forL g b ds e
  | .ct e => forL g b ds e
  | .bk e => .nx e
  | .rt d e => .rt d e
  | .err x e => .err x e
  | .bot => .bot
theorem flp1 {g b ds e} : fLp g b ds (.nx e) = forL g b ds e := (rfl)
theorem flp2 {g b ds d e} : fLp g b ds (.rt d e) = .rt d e := (rfl)
theorem flp3 {g b ds x e} : fLp g b ds (.err x e) = .err x e := (rfl)
theorem forL_0 {g b e} : forL g b [] e = .nx e := (rfl)
theorem forL_f {g b d ds e} : forL g b (d :: ds) e = fLp g b ds (fTurn b (g d e)) := by
  rw [forL]
  cases g d e with
  | none => rfl
  | some e1 =>
    show (match b e1 with
      | .nx e2 => forL g b ds e2
      | .ct e2 => forL g b ds e2
      | .bk e2 => .nx e2
      | .rt d e2 => .rt d e2
      | .err x e2 => .err x e2
      | .bot => .bot) = fLp g b ds (b e1)
    cases b e1 <;> rfl
theorem lt_t {a b : Int} (h : a < b) : (a < b) = True := eq_true h
theorem lt_n {a b : Int} (h : ¬ a < b) : (a < b) = False := eq_false h
theorem le_t {a b : Int} (h : a ≤ b) : (a ≤ b) = True := eq_true h
theorem le_n {a b : Int} (h : ¬ a ≤ b) : (a ≤ b) = False := eq_false h
theorem eq_t {a b : Int} (h : a = b) : (a = b) = True := eq_true h
theorem eq_n {a b : Int} (h : ¬ a = b) : (a = b) = False := eq_false h
def fSt4 (i : Nat) (d : D) (e2 : Env) (k : D) (ds : List D) : RS := match k with
  | .int k => match ixD ds.length k with
    | some j => .nx (e2.set i (.ow false (ds.set j d)))
    | none => .bot
  | _ => .bot
def fSt3 (i : Nat) (d : D) (k : D) (e2 : Env) : Option Sl → RS
  | some (.ow false ds) => fSt4 i d e2 k ds
  | _ => .bot
def fSt2 (i : Nat) (d : D) : Res D → RS
  | .ok k e2 => fSt3 i d k e2 e2[i]?
  | .err x e2 => .err x e2
  | .bot => .bot
def fSt1 (i : Nat) (ix : ME) (d : D) (e1 : Env) : Option Sl → RS
  | some (.ow false _) => fSt2 i d (ix e1)
  | _ => .bot
def fSt (i : Nat) (ix : ME) : Res D → RS
  | .ok d e1 => fSt1 i ix d e1 e1[i]?
  | .err x e1 => .err x e1
  | .bot => .bot
theorem fst1 {i ix d e} : fSt i ix (.ok d e) = fSt1 i ix d e e[i]? := (rfl)
theorem fst2 {i ix x e} : fSt i ix (.err x e) = .err x e := (rfl)
theorem fst3 {i ix d e ds} : fSt1 i ix d e (some (.ow false ds)) = fSt2 i d (ix e) := (rfl)
theorem fst4 {i d k e} : fSt2 i d (.ok k e) = fSt3 i d k e e[i]? := (rfl)
theorem fst5 {i d k e ds} : fSt3 i d k e (some (.ow false ds)) = fSt4 i d e k ds := (rfl)
theorem fst6 {i d e x xs} : fSt4 i d e (.int 0) (x :: xs) = .nx (e.set i (.ow false (d :: xs))) := by
  have h : ixD (x :: xs).length 0 = some 0 := by
    unfold ixD
    rw [if_pos (by decide), if_pos (by simp)]
    rfl
  show (match ixD (x :: xs).length 0 with
    | some j => RS.nx (e.set i (.ow false ((x :: xs).set j d)))
    | none => .bot) = _
  rw [h]
  rfl
theorem e_set {i ix a e} : vSet i ix a e = fSt i ix (a e) := by
  unfold vSet
  cases a e with
  | ok d e1 =>
    show (match e1[i]? with
      | some (.ow false _) => (ix e1).thenS fun k e2 => match e2[i]? with
        | some (.ow false ds) => match k with
          | .int k => match ixD ds.length k with
            | some j => .nx (e2.set i (.ow false (ds.set j d)))
            | none => .bot
          | _ => .bot
        | _ => .bot
      | _ => .bot) = fSt1 i ix d e1 e1[i]?
    cases e1[i]? with
    | none => rfl
    | some s =>
      cases s with
      | ow b ds =>
        cases b with
        | false =>
          show (ix e1).thenS _ = fSt2 i d (ix e1)
          cases ix e1 with
          | ok k e2 =>
            show (match e2[i]? with
              | some (.ow false ds) => match k with
                | .int k => match ixD ds.length k with
                  | some j => .nx (e2.set i (.ow false (ds.set j d)))
                  | none => .bot
                | _ => .bot
              | _ => .bot) = fSt3 i d k e2 e2[i]?
            cases e2[i]? with
            | none => rfl
            | some s2 =>
              cases s2 with
              | ow b2 ds2 =>
                cases b2 with
                | false => rfl
                | true => rfl
              | _ => rfl
          | err x e2 => rfl
          | bot => rfl
        | true => rfl
      | _ => rfl
  | err x e1 => rfl
  | bot => rfl
def fBm (op : D → D → Option D) (b : ME) : Res D → Res D
  | .ok (.lst xs) e1 => (b e1).bind fun y e2 => .of (op (.lst xs) y) e2
  | .err x e1 => .err x e1
  | _ => .bot
@[simp] theorem fbm1 {op b xs e} : fBm op b (.ok (.lst xs) e) = (b e).bind fun y e2 => .of (op (.lst xs) y) e2 := (rfl)
@[simp] theorem e_bm1 {op a b e} : vBm1 op a b e = fBm op b (a e) := by
  unfold vBm1
  cases a e with
  | ok d e1 => cases d <;> rfl
  | err x e1 => rfl
  | bot => rfl
@[simp] theorem int1 {i} : bfInt [.int i] = some (.int i) := (rfl)
@[simp] theorem int2 {b} : bfInt [.bl b] = some (.int (if b then 1 else 0)) := (rfl)
@[simp] theorem listK1 {ds} : bfListK [.lst ds] = some ds := (rfl)
@[simp] theorem listK2 {ds} : bfListK [.tup ds] = some ds := (rfl)
theorem listK3 {ks ds} (h : ks.length = ds.length) : bfListK [.dct ks ds] = some (ks.map kyD) := if_pos h
end VL

/-! NT: whole numbers, common divisors, fractions. -/
namespace VL
open PySem
theorem gcd_fmod (a b : Int) : Int.gcd b (a.fmod b) = Int.gcd a b := by
  have e : a.fmod b = a - b * a.fdiv b := Int.fmod_def a b
  apply Nat.dvd_antisymm
  · apply Int.dvd_gcd
    · have h1 := Int.gcd_dvd_left b (a.fmod b)
      have h2 := Int.gcd_dvd_right b (a.fmod b)
      have h3 : a = a.fmod b + b * a.fdiv b := by omega
      have h4 := Int.dvd_add h2 (Int.dvd_mul_of_dvd_left (c := a.fdiv b) h1)
      rw [← h3] at h4
      exact h4
    · exact Int.gcd_dvd_left b (a.fmod b)
  · apply Int.dvd_gcd
    · exact Int.gcd_dvd_right a b
    · rw [e]
      exact Int.dvd_sub (Int.gcd_dvd_left a b) (Int.dvd_mul_of_dvd_left (Int.gcd_dvd_right a b))
theorem fmod_pos (a : Int) {b : Int} (h : 0 < b) : 0 ≤ a.fmod b ∧ a.fmod b < b := ⟨Int.fmod_nonneg_of_pos a h, Int.fmod_lt_of_pos a h⟩
theorem fmod_neg (a : Int) {b : Int} (h : b < 0) : b < a.fmod b ∧ a.fmod b ≤ 0 := by
  have e := Int.neg_fmod_neg (-a) (-b)
  rw [Int.neg_neg, Int.neg_neg] at e
  have := fmod_pos (-a) (b := -b) (by omega)
  omega
theorem fmod_lt (a : Int) {b : Int} (h : b ≠ 0) : (a.fmod b).natAbs < b.natAbs := by
  rcases Int.lt_or_gt_of_ne h with h | h
  · have := fmod_neg a h
    omega
  · have := fmod_pos a h
    omega
theorem fdiv_fmod (a b : Int) : b * a.fdiv b + a.fmod b = a := by
  have := Int.fmod_def a b
  omega
theorem while_gcd (c : MB) (b : MS) (E : Int → Int → Env) (hc : ∀ x y, c (E x y) = .ok (decide (y ≠ 0)) (E x y)) (hb : ∀ x y, y ≠ 0 → b (E x y) = .nx (E y (x.fmod y))) :
    ∀ (n : Nat) (x y : Int), y.natAbs < n → ∃ g, vWhile c b (E x y) = .nx (E g 0) ∧ g.natAbs = Int.gcd x y ∧ (0 ≤ x → 0 ≤ y → 0 ≤ g)
  | 0, x, y, h => by omega
  | n + 1, x, y, h => by
    by_cases hy : y = 0
    · subst hy
      refine ⟨x, ?_, by simp, fun h _ => h⟩
      rw [vWhile_eq, hc]
      simp [Res.thenS]
    · obtain ⟨g, h1, h2, h3⟩ := while_gcd c b E hc hb n y (x.fmod y) (by have := fmod_lt x hy; omega)
      refine ⟨g, ?_, by rw [h2, gcd_fmod], fun hx hy0 => h3 hy0 (fmod_pos x (by omega)).1⟩
      rw [vWhile_eq, hc]
      simp only [Res.thenS, hy, ne_eq, not_false_eq_true, decide_true, if_true, hb x y hy]
      exact h1
/-- in lowest terms -/
def Red (p q : Int) : Prop := 0 < q ∧ Int.gcd p q = 1
theorem dvd_of_cop {a b c : Int} (h : a ∣ b * c) (g : Int.gcd a b = 1) : a ∣ c := by
  have h' := Int.natAbs_dvd_natAbs.mpr h
  rw [Int.natAbs_mul] at h'
  exact Int.natAbs_dvd_natAbs.mp (Nat.Coprime.dvd_of_dvd_mul_left g h')
theorem Red.eq {p q p' q' : Int} (h : Red p q) (h' : Red p' q') (e : p * q' = p' * q) : p = p' ∧ q = q' := by
  have d1 : q ∣ q' := dvd_of_cop (b := p) ⟨p', by rw [e, Int.mul_comm]⟩ (by rw [Int.gcd_comm]; exact h.2)
  have d2 : q' ∣ q := dvd_of_cop (b := p') ⟨p, by rw [← e, Int.mul_comm]⟩ (by rw [Int.gcd_comm]; exact h'.2)
  have eq : q = q' := Int.le_antisymm (Int.le_of_dvd h'.1 d1) (Int.le_of_dvd h.1 d2)
  subst eq
  exact ⟨Int.eq_of_mul_eq_mul_right (by have := h.1; omega) e, rfl⟩
/-- brought to lowest terms -/
theorem red_of {a b s : Int} (hb : b ≠ 0) (hs : s.natAbs = Int.gcd a b) (hp : 0 ≤ s * b) : a = a.fdiv s * s ∧ b = b.fdiv s * s ∧ Red (a.fdiv s) (b.fdiv s) ∧ s ≠ 0 := by
  have g0 : 0 < Int.gcd a b := Int.gcd_pos_of_ne_zero_right a hb
  have s0 : s ≠ 0 := by omega
  have da : s ∣ a := by
    have := Int.gcd_dvd_left a b
    rw [← hs] at this
    exact Int.natAbs_dvd.mp this
  have db : s ∣ b := by
    have := Int.gcd_dvd_right a b
    rw [← hs] at this
    exact Int.natAbs_dvd.mp this
  have ea := (Int.fdiv_mul_cancel da).symm
  have eb := (Int.fdiv_mul_cancel db).symm
  refine ⟨ea, eb, ⟨?_, ?_⟩, s0⟩
  · generalize b.fdiv s = q at *
    subst eb
    have e : s * (q * s) = q * (s * s) := by rw [Int.mul_left_comm]
    rw [e] at hp
    have ss : 0 < s * s := by
      rcases Int.lt_or_gt_of_ne s0 with h | h
      · exact Int.mul_pos_of_neg_of_neg h h
      · exact Int.mul_pos h h
    have q0 : q ≠ 0 := by rintro rfl; simp at hb
    rcases Int.lt_or_gt_of_ne q0 with h | h
    · have := Int.mul_neg_of_neg_of_pos h ss
      omega
    · exact h
  · have e := Int.gcd_mul_right (a.fdiv s) s (b.fdiv s)
    rw [← ea, ← eb, hs] at e
    exact Nat.eq_of_mul_eq_mul_right g0 (by omega)
theorem Red.le {p q a b : Int} (h : Red p q) (hb : b ≠ 0) (e : p * b = a * q) : q.natAbs ≤ b.natAbs := by
  have d : q ∣ b := dvd_of_cop (b := p) ⟨a, by rw [e, Int.mul_comm]⟩ (by rw [Int.gcd_comm]; exact h.2)
  exact Nat.le_of_dvd (by omega) (Int.natAbs_dvd_natAbs.mpr d)
theorem Red.lep {p q a b : Int} (h : Red p q) (hb : b ≠ 0) (e : p * b = a * q) : p.natAbs ≤ a.natAbs := by
  by_cases z : a = 0
  · subst z
    rw [Int.zero_mul] at e
    rcases Int.mul_eq_zero.mp e with e | e
    · subst e; simp
    · exact absurd e hb
  · have d : p ∣ a := dvd_of_cop (b := q) ⟨b, by rw [e, Int.mul_comm]⟩ h.2
    exact Nat.le_of_dvd (by omega) (Int.natAbs_dvd_natAbs.mpr d)
/-- a fraction's parts in lowest terms -/
def rn (a b : Int) : Int := a / (Int.gcd a b : Int)
def rd (a b : Int) : Int := b / (Int.gcd a b : Int)
theorem can_red {a b : Int} (hb : 0 < b) : Red (rn a b) (rd a b) ∧ rn a b * b = a * rd a b := by
  have g0 : 0 < Int.gcd a b := Int.gcd_pos_of_ne_zero_right a (by omega)
  obtain ⟨e1, e2, r, s0⟩ := red_of (a := a) (b := b) (s := (Int.gcd a b : Int)) (by omega) (by omega) (Int.mul_nonneg (by omega) (by omega))
  rw [Int.fdiv_eq_ediv_of_nonneg _ (by omega), Int.fdiv_eq_ediv_of_nonneg _ (by omega)] at r
  rw [Int.fdiv_eq_ediv_of_nonneg _ (by omega)] at e1 e2
  refine ⟨r, ?_⟩
  unfold rn rd
  generalize a / (Int.gcd a b : Int) = p at *
  generalize b / (Int.gcd a b : Int) = q at *
  generalize (Int.gcd a b : Int) = s at *
  rw [e1, e2]
  grind
theorem can_of {a b p q : Int} (hb : 0 < b) (r : Red p q) (c : p * b = a * q) : p = rn a b ∧ q = rd a b := by
  obtain ⟨r', c'⟩ := can_red (a := a) hb
  refine r.eq r' (Int.eq_of_mul_eq_mul_right (a := b) (by omega) ?_)
  generalize rn a b = x at *
  generalize rd a b = y at *
  grind
theorem can_cross {a b a' b' : Int} (hb : 0 < b) (hb' : 0 < b') (e : a * b' = a' * b) : rn a b = rn a' b' ∧ rd a b = rd a' b' := by
  obtain ⟨r, c⟩ := can_red (a := a) hb
  refine can_of hb' r (Int.eq_of_mul_eq_mul_right (a := b) (by omega) ?_)
  generalize rn a b = x at *
  generalize rd a b = y at *
  grind
theorem can_self {p q : Int} (r : Red p q) : rn p q = p ∧ rd p q = q := by
  obtain ⟨h1, h2⟩ := can_of (a := p) r.1 r rfl
  exact ⟨h1.symm, h2.symm⟩
theorem rn_le {a b : Int} (hb : 0 < b) : (rn a b).natAbs ≤ a.natAbs := (can_red (a := a) hb).1.lep (by omega) (can_red hb).2
theorem rd_le {a b : Int} (hb : 0 < b) : (rd a b).natAbs ≤ b.natAbs := (can_red (a := a) hb).1.le (by omega) (can_red hb).2
theorem rd_pos {a b : Int} (hb : 0 < b) : 0 < rd a b := (can_red (a := a) hb).1.1
theorem ediv_cross {u v V B : Int} (h : 0 < v) (h1 : 0 < B) (e : u * B = V * v) : u / v = V / B := by
  rw [← Int.mul_ediv_mul_of_pos u v h1, Int.mul_comm B u, e, Int.mul_comm V v, Int.mul_comm B v, Int.mul_ediv_mul_of_pos V B h]
theorem rn_div {a b : Int} (hb : 0 < b) : rn a b / rd a b = a / b := ediv_cross (rd_pos hb) hb (can_red hb).2
end VL

namespace VL
open PySem
/-! what the fractions' defs tell -/
@[simp] theorem whole_int (i : Int) : fn_is_whole [.int i] = .ok (.bl true) := by
  simp [fn_is_whole, b_is_whole]
theorem shared_ok (a b : Int) : fn_shared_by [.int a, .int b] = .ok (.int (Int.gcd a b)) := by
  obtain ⟨g, h1, h2, _⟩ := while_gcd c_shared_by_1 b_shared_by_1 (fun x y => [.sh (.int x), .sh (.int y)]) (fun x y => by simp [c_shared_by_1]) (fun x y h => by simp [b_shared_by_1, o_mod h]) _ a b (Nat.lt_succ_self _)
  have e : vWhile c_shared_by_1 b_shared_by_1 [.sh (.int a), .sh (.int b)] = .nx [.sh (.int g), .sh (.int 0)] := h1
  simp [fn_shared_by, b_shared_by, e]
  omega
/-- small enough to be divided by -/
abbrev Sm (b : Int) : Prop := Bd 8000 b
theorem Sm.of {b : Int} (h1 : -(2 ^ 64) < b) (h2 : b < 2 ^ 64) : Sm b := by
  have q : Bd 64 b := by unfold Bd; omega
  exact q.mono (by decide)
theorem fraction_ok (a b : Int) (hb : b ≠ 0) (hs : Sm b) : ∃ p q, fn_fraction [.int a, .int b] = .ok (.tup [.int p, .int q]) ∧ Red p q ∧ p * b = a * q := by
  have g1 : (Int.gcd a b : Int) ≠ 0 := by have := Int.gcd_pos_of_ne_zero_right a hb; omega
  have gs : (Int.gcd a b) ≤ b.natAbs := Nat.le_of_dvd (by omega) (Int.natAbs_dvd_natAbs.mpr (Int.gcd_dvd_right a b))
  by_cases h : b < 0
  · obtain ⟨e1, e2, r, s0⟩ := red_of (a := a) (b := b) (s := -(Int.gcd a b : Int)) hb (by omega) (by rw [Int.neg_mul, ← Int.mul_neg]; exact Int.mul_nonneg (by omega) (by omega))
    have d : divOk (-(Int.gcd a b : Int)) = true := Bd.divOk (hs.le (by omega)) s0
    refine ⟨_, _, ?_, r, ?_⟩
    · simp [fn_fraction, b_fraction, hb, shared_ok, h, o_fdiv d]
    · generalize a.fdiv (-(Int.gcd a b : Int)) = p at *
      generalize b.fdiv (-(Int.gcd a b : Int)) = q at *
      generalize (-(Int.gcd a b : Int)) = s at *
      rw [e1, e2]
      grind
  · obtain ⟨e1, e2, r, s0⟩ := red_of (a := a) (b := b) (s := (Int.gcd a b : Int)) hb (by omega) (Int.mul_nonneg (by omega) (by omega))
    have d : divOk (Int.gcd a b : Int) = true := Bd.divOk (hs.le (by omega)) s0
    refine ⟨_, _, ?_, r, ?_⟩
    · simp [fn_fraction, b_fraction, hb, shared_ok, h, o_fdiv d]
    · generalize a.fdiv (Int.gcd a b : Int) = p at *
      generalize b.fdiv (Int.gcd a b : Int) = q at *
      generalize (Int.gcd a b : Int) = s at *
      rw [e1, e2]
      grind

theorem fraction_can {a b : Int} (hb : 0 < b) (hs : Sm b) : fn_fraction [.int a, .int b] = .ok (.tup [.int (rn a b), .int (rd a b)]) := by
  obtain ⟨p, q, e, r, c⟩ := fraction_ok a b (by omega) hs
  obtain ⟨h1, h2⟩ := can_of hb r c
  rw [e, h1, h2]

theorem drawn_ok (n : Int) (m : Nat) (hm : m ≤ 1000) : ∃ xs : List Int, fn__law_drawn [.int n, .int m] = .ok (.lst (xs.map D.int)) ∧ xs.length = m ∧ ∀ x ∈ xs, 0 ≤ x ∧ x < 2147483648 := by
  obtain ⟨e1, h1, xs, x, k, rfl, hl, hx, hb⟩ := loop_at (g := gNam 4) (b := b__law_drawn_1) (fun i e => ∃ (xs : List Int) (x : Int) (k : Sl), e = [.sh (.int n), .sh (.int m), .ow false (xs.map D.int), .sh (.int x), k] ∧ xs.length = i ∧ (0 ≤ x ∧ x < 2147483629) ∧ ∀ x ∈ xs, 0 ≤ x ∧ x < 2147483648)
    ((List.range m).map fun (i : Nat) => .int (i : Int)) [.sh (.int n), .sh (.int m), .ow false [], .sh (.int (n % 2147483629)), .no] ⟨[], _, _, rfl, rfl, by omega, by simp⟩ (by
    rintro i d hd e ⟨xs, x, k, rfl, hl, hx, hb⟩
    obtain ⟨hi, rfl⟩ := rng_at hd
    have l : xs.length < 1000000 := by omega
    have m1 := mulOk_l (i := x) (j := x) (by omega) (by omega)
    have run : turn (gNam 4) b__law_drawn_1 (.int i) [.sh (.int n), .sh (.int m), .ow false (xs.map D.int), .sh (.int x), k] = .nx [.sh (.int n), .sh (.int m), .ow false ((xs ++ [(x * x + 40692 * x + 2 * (i : Int) + 1) % 2147483629 / 3]).map D.int), .sh (.int ((x * x + 40692 * x + 2 * (i : Int) + 1) % 2147483629)), .sh (.int i)] := by
      simp [turn_nam, b__law_drawn_1, o_mul m1, o_mul, mulOk_l, o_rem, o_div, divOk_s, l]
    refine ⟨_, run, _, _, _, rfl, by simp [hl], by omega, fun y hy => ?_⟩
    rcases List.mem_append.mp hy with hy | hy
    · exact hb y hy
    · simp at hy
      omega)
  refine ⟨xs, ?_, by simpa using hl, hb⟩
  have r := rng1_of (m := vCons (vVar 1) vNil) (e := [.sh (.int n), .sh (.int m), .ow false [], .sh (.int (n % 2147483629)), .no]) (e1 := [.sh (.int n), .sh (.int m), .ow false [], .sh (.int (n % 2147483629)), .no]) (j := m) (by simp) (by omega) (by omega)
  rw [Int.toNat_natCast] at r
  simp [fn__law_drawn, b__law_drawn, o_rem, r, h1]

/-! names -/
def LA (c : Nat) : Prop := 97 ≤ c ∧ c ≤ 122
theorem la_has {c : Nat} (h : LA c) : (Str.ofString "abcdefghijklmnopqrstuvwxyz").cps.contains c = true := by
  have q : ∀ k : Fin 26, (Str.ofString "abcdefghijklmnopqrstuvwxyz").cps.contains (97 + k.val) = true := by decide +kernel
  have := q ⟨c - 97, by have := h.1; have := h.2; omega⟩
  rwa [show 97 + (c - 97) = c by have := h.1; omega] at this
theorem has_la {c : Nat} (h : c ∈ (Str.ofString "abcdefghijklmnopqrstuvwxyz").cps) : LA c := by
  have q : (Str.ofString "abcdefghijklmnopqrstuvwxyz").cps.all (fun c => decide (97 ≤ c) && decide (c ≤ 122)) = true := by decide +kernel
  have := (Array.all_eq_true_iff_forall_mem.mp q) c h
  rw [Bool.and_eq_true] at this
  exact ⟨of_decide_eq_true this.1, of_decide_eq_true this.2⟩
theorem takeWhile_all {p : Nat → Bool} : ∀ {l : List Nat}, (∀ c ∈ l, p c = true) → l.takeWhile p = l
  | [], _ => rfl
  | c :: l, h => by rw [List.takeWhile_cons, if_pos (h c List.mem_cons_self), takeWhile_all fun d hd => h d (List.mem_cons_of_mem _ hd)]
theorem strip_all {z w : Str} (h : ∀ c ∈ z.cps.toList, w.cps.contains c = true) (n : z.length ≠ 0) : Txt.stripChars z w = "" := by
  have tw : z.cps.toList.takeWhile w.cps.contains = z.cps.toList := takeWhile_all h
  have lo : stripLo w.cps.contains true z = z.length := by
    unfold stripLo
    rw [if_pos rfl, tw]
    rfl
  have hi : stripHi w.cps.contains true z z.length = z.length := by
    unfold stripHi
    have : z.cps.toList.drop z.length = [] := List.drop_of_length_le (Nat.le_refl _)
    rw [if_pos rfl, this]
    rfl
  unfold Txt.stripChars Txt.stripBy stripSame stripped
  rw [lo, hi]
  have e : (z.length == 0) = false := by simpa using n
  rw [e]
  show (⟨z.cps.extract z.length z.length⟩ : Str) = _
  rw [Array.extract_empty_of_stop_le_start (Nat.le_refl _)]
  rfl
theorem str_app (x y : Str) : (x ++ y).cps.toList = x.cps.toList ++ y.cps.toList := by
  show (x.cps ++ y.cps).toList = _
  simp
theorem cut_to {z : Str} {v : Int} (h : 0 ≤ v) : (cutSD z none (some v)).cps.toList = z.cps.toList.take v.toNat := by
  unfold cutSD sIxD
  dsimp only
  rw [if_neg (by omega)]
  simp only [Nat.sub_zero, List.drop_zero]
  have l : z.length = z.cps.toList.length := rfl
  by_cases q : v.toNat ≤ z.length
  · rw [Nat.min_eq_left q]
  · rw [Nat.min_eq_right (by omega), List.take_of_length_le (by omega), List.take_of_length_le (by omega)]
theorem cut_from {z : Str} {v : Int} (h : 0 ≤ v) : (cutSD z (some v) none).cps.toList = z.cps.toList.drop v.toNat := by
  unfold cutSD sIxD
  dsimp only
  rw [if_neg (by omega)]
  have l : z.length = z.cps.toList.length := rfl
  by_cases q : v.toNat ≤ z.length
  · rw [Nat.min_eq_left q, List.take_of_length_le (by rw [List.length_drop]; omega)]
  · rw [Nat.min_eq_right (by omega), List.drop_of_length_le (show z.cps.toList.length ≤ v.toNat by omega), List.drop_of_length_le (by omega), List.take_nil]
theorem la_strS {z : Str} (h : ∀ c ∈ z.cps.toList, LA c) : strS z = true := by
  unfold strS
  rw [Array.all_eq_true_iff_forall_mem]
  exact fun c hc => decide_eq_true (by have := (h c (by simpa using hc)).2; omega)
/-- whether a text is a name -/
def nmB (z : Str) : Bool := !(decide (z = "") || decide (8 < z.length)) && decide (Txt.stripChars z "abcdefghijklmnopqrstuvwxyz" = "")
theorem isname_str {z : Str} (h1 : strS z = true) (h2 : z.length ≤ 1000000) (h3 : strS (Txt.stripChars z "abcdefghijklmnopqrstuvwxyz") = true) : fn_is_name [.str z] = .ok (.bl (nmB z)) := by
  have s3 : strS "" = true := by decide +kernel
  have i1 : opIsi "str" (.str z) = some (.bl true) := rfl
  have e1 : opEq (.str z) (.str "") = some (.bl (decide (z = ""))) := by rw [o_eq (by simp [h1]) (by simp [s3]), deq_str]
  have b1 : bfLen [.str z] = some (.int z.length) := if_pos h2
  have e2 : opEq (.str (Txt.stripChars z "abcdefghijklmnopqrstuvwxyz")) (.str "") = some (.bl (decide (Txt.stripChars z "abcdefghijklmnopqrstuvwxyz" = ""))) := by rw [o_eq (by simp [h3]) (by simp [s3]), deq_str]
  have m1 : ∀ {e : Env}, e[0]? = some (.sh (.str z)) → vM1 opStrip (vVar 0) (vC g_LETTERS) e = .ok (.str (Txt.stripChars z "abcdefghijklmnopqrstuvwxyz")) e := fun {e} h => by
    unfold vM1
    have hv : vVar 0 e = .ok (.str z) e := by simp [h]
    rw [hv]
    show Res.of (if z.length ≤ vmax then some (D.str (Txt.stripChars z "abcdefghijklmnopqrstuvwxyz")) else none) e = _
    rw [if_pos (show z.length ≤ vmax from h2)]
    rfl
  unfold nmB
  by_cases n0 : z = ""
  · subst n0
    simp [fn_is_name, b_is_name, i1, e1]
  · by_cases n8 : 8 < z.length
    · have : (8 : Int) < (z.length : Int) := by omega
      simp [fn_is_name, b_is_name, i1, e1, n0, b1, g_MOST_LETTERS, n8, this]
    · have : ¬ (8 : Int) < (z.length : Int) := by omega
      simp [fn_is_name, b_is_name, i1, e1, n0, b1, g_MOST_LETTERS, n8, this, m1, e2]
/-- a name -/
structure Nm (z : Str) : Prop where
  l1 : 1 ≤ z.length
  l8 : z.length ≤ 8
  la : ∀ c ∈ z.cps.toList, LA c
theorem Nm.s {z : Str} (h : Nm z) : strS z = true := la_strS h.la
theorem Nm.b {z : Str} (h : Nm z) : fn_is_name [.str z] = .ok (.bl true) := by
  have e := strip_all (z := z) (w := "abcdefghijklmnopqrstuvwxyz") (fun c hc => la_has (h.la c hc)) (by have := h.l1; omega)
  have s3 : strS "" = true := by decide +kernel
  rw [isname_str h.s (by have := h.l8; omega) (by rw [e]; exact s3)]
  have n0 : z ≠ "" := fun q => by
    have := h.l1
    rw [q] at this
    have l0 : ("" : Str).length = 0 := by decide +kernel
    omega
  have n8 : ¬ 8 < z.length := by have := h.l8; omega
  unfold nmB
  rw [e]
  simp [n0, n8]

/-! texts by their signs; numbers and fractions read (Tx: texts of at most 100000 signs) -/
abbrev S (l : List Nat) : Str := ⟨l.toArray⟩
theorem S_len (a : List Nat) : (S a).length = a.length := by simp [S, Str.length]
theorem S_of (z : Str) : z = S z.cps.toList := by cases z; rfl
theorem S_lit (s : String) (l : List Nat) (h : decide ((Str.ofString s).cps.toList = l) = true) : Str.ofString s = S l := by
  rw [S_of (Str.ofString s), of_decide_eq_true h]
theorem S_inj {a b : List Nat} (h : S a = S b) : a = b := congrArg (fun x : Str => x.cps.toList) h
theorem S_cat (a b : List Nat) : S a ++ S b = S (a ++ b) := SX.S_cat a b
theorem m1_of {op : Str → D → Option D} {a b : ME} {e e1 e2 : Env} {z : Str} {y d : D} (ha : a e = .ok (.str z) e1) (hb : b e1 = .ok y e2) (h : op z y = some d) : vM1 op a b e = .ok d e2 := by
  unfold vM1
  rw [ha]
  show (b e1).bind _ = _
  rw [hb]
  show Res.of (op z y) e2 = _
  rw [h]
  rfl
theorem mf1_of {op : Str → D → Option (List D)} {a b : ME} {e e1 e2 : Env} {z : Str} {y : D} {d : List D} (ha : a e = .ok (.str z) e1) (hb : b e1 = .ok y e2) (h : op z y = some d) : vMF1 op a b e = .ok d e2 := by
  unfold vMF1
  rw [ha]
  show (b e1).bind _ = _
  rw [hb]
  show Res.of (op z y) e2 = _
  rw [h]
  rfl
/-- a text that we meet -/
structure Tx (a : List Nat) : Prop where
  l : a.length ≤ 300000
  c : ∀ c ∈ a, c < 1114112
theorem Tx.s {a : List Nat} (h : Tx a) : strS (S a) = true := by
  unfold strS
  rw [← Array.all_toList]
  exact List.all_eq_true.mpr fun c hc => decide_eq_true (h.c c (by simpa using hc))
theorem S_eq {a b : List Nat} (h : Tx a) (h2 : Tx b) : opEq (.str (S a)) (.str (S b)) = some (.bl (decide (a = b))) := by
  rw [o_eq (by simp [h.s]) (by simp [h2.s]), deq_str]
  congr 2
  exact decide_eq_decide.mpr ⟨S_inj, fun h => h ▸ rfl⟩
theorem S_ne {a b : List Nat} (h : Tx a) (h2 : Tx b) : opNe (.str (S a)) (.str (S b)) = some (.bl (!decide (a = b))) := by
  rw [o_ne (by simp [h.s]) (by simp [h2.s]), deq_str]
  congr 3
  exact decide_eq_decide.mpr ⟨S_inj, fun h => h ▸ rfl⟩
theorem tx_nil : Tx [] := ⟨by simp, by simp⟩
theorem tx_one {c : Nat} (h : c < 1114112) : Tx [c] := ⟨by simp, by simpa using h⟩
theorem Tx.tail {c : Nat} {a : List Nat} (h : Tx (c :: a)) : Tx a := ⟨by have := h.l; simp at this; omega, fun x hx => h.c x (List.mem_cons_of_mem _ hx)⟩
theorem tx_cat {a b : List Nat} (h : Tx a) (h2 : Tx b) (l : a.length + b.length ≤ 300000) : Tx (a ++ b) := ⟨by simpa using l, fun c hc => by
  rcases List.mem_append.mp hc with hc | hc
  · exact h.c c hc
  · exact h2.c c hc⟩
theorem e_empty : Str.ofString "" = S [] := S_lit _ _ (by decide +kernel)
theorem e_minus : Str.ofString "-" = S [45] := S_lit _ _ (by decide +kernel)
theorem e_zero : Str.ofString "0" = S [48] := S_lit _ _ (by decide +kernel)
theorem e_stroke : Str.ofString "/" = S [47] := S_lit _ _ (by decide +kernel)
theorem e_figs : Str.ofString "0123456789" = S [48, 49, 50, 51, 52, 53, 54, 55, 56, 57] := S_lit _ _ (by decide +kernel)
theorem starts_minus (a : List Nat) : Txt.startswith (S a) (S [45]) = decide (a.head? = some 45) := by
  unfold Txt.startswith Builtin.Str.subAt
  cases a with
  | nil => simp [Str.length]
  | cons c r =>
    simp [Str.length]
    exact Bool.eq_iff_iff.mpr (by simp)
theorem len_S {a : List Nat} (h : Tx a) : bfLen [.str (S a)] = some (.int a.length) := by
  have : bfLen [.str (S a)] = some (.int ((S a).length : Nat)) := if_pos (by rw [S_len, vmax_eq]; have := h.l; omega)
  rw [this, S_len]
theorem ix_S {c : Nat} {r : List Nat} (h : Tx (c :: r)) : opIx (.str (S (c :: r))) (.int 0) = some (.str (S [c])) := by
  have h1 : (S (c :: r)).length ≤ vmax := by rw [S_len, vmax_eq]; have := h.l; omega
  show (if (S (c :: r)).length ≤ vmax then _ else none) = _
  rw [if_pos h1]
  have : ixD (c :: r).length 0 = some 0 := by
    unfold ixD
    rw [if_pos (by decide), if_pos (by simp)]
    rfl
  show (ixD (c :: r).length 0).bind _ = _
  rw [this]
  rfl
theorem from1_S {a : List Nat} (h : Tx a) : slT (some 1) none (.str (S a)) = some (.str (S (a.drop 1))) := by
  rw [slT_str (by rw [S_len]; have := h.l; omega)]
  congr 2
  rw [S_of (cutSD _ _ _), cut_from (by decide)]
  rfl
theorem to1_S {a : List Nat} (h : Tx a) : slT none (some 1) (.str (S a)) = some (.str (S (a.take 1))) := by
  rw [slT_str (by rw [S_len]; have := h.l; omega)]
  congr 2
  rw [S_of (cutSD _ _ _), cut_to (by decide)]
  rfl
def fig (c : Nat) : Bool := decide (48 ≤ c) && decide (c ≤ 57)
theorem notin_fig (c : Nat) : opNotInS (.str (S [c])) (.str (S [48, 49, 50, 51, 52, 53, 54, 55, 56, 57])) = some (.bl (!fig c)) := by
  show some (D.bl (Builtin.Str.occurrences (S [48, 49, 50, 51, 52, 53, 54, 55, 56, 57]) ⟨#[c]⟩ 0 (S [48, 49, 50, 51, 52, 53, 54, 55, 56, 57]).length 1).isEmpty) = _
  rw [PyProof.Rows.empty_one]
  congr 3
  unfold fig
  rw [← Bool.decide_and]
  refine decide_eq_decide.mpr ⟨fun h => ?_, fun h => ?_⟩
  · simp at h
    omega
  · simp
    omega
/-- the figures of a number's text -/
def figs (a : List Nat) : List Nat := if a.head? = some 45 then a.drop 1 else a
def bad (a : List Nat) : Bool := decide (figs a = []) || decide (60 < (figs a).length) || (decide ((figs a).head? = some 48) && !decide (a = [48]))
def rd' (a : List Nat) : Option Int := if bad a then none else if (figs a).all fig then intText? (S a) else none
theorem tx_figs {a : List Nat} (h : Tx a) : Tx (figs a) := by
  unfold figs
  split
  · cases a with
    | nil => exact tx_nil
    | cons c r => exact h.tail
  · exact h
theorem num_figs' {a : List Nat} (h1 : bad a = false) (h2 : (figs a).all fig = true) : ∃ n, intText? (S a) = some n ∧ n.natAbs = NumText.digitsVal (figs a) := by
  have hd : NumText.AllDigits (figs a) := fun c hc => by
    have := List.all_eq_true.mp h2 c hc
    unfold fig at this
    simpa using this
  unfold bad at h1
  rw [Bool.or_eq_false_iff, Bool.or_eq_false_iff] at h1
  obtain ⟨⟨h3, h4⟩, _⟩ := h1
  have h3 : figs a ≠ [] := of_decide_eq_false h3
  have h4 : ¬ 60 < (figs a).length := of_decide_eq_false h4
  unfold figs at *
  by_cases q : a.head? = some 45
  · rw [if_pos q] at *
    cases a with
    | nil => cases q
    | cons c r =>
      simp at q
      subst q
      exact ⟨_, intText_neg (x := S (45 :: r)) (cs := r) rfl hd h3 (by rw [S_len]; simp at h4 ⊢; omega), by simp⟩
  · rw [if_neg q] at *
    exact ⟨_, intText_digits (x := S a) hd h3 (by rw [S_len]; omega), by simp⟩
theorem num_figs {a : List Nat} (h1 : bad a = false) (h2 : (figs a).all fig = true) : ∃ n, intText? (S a) = some n := let ⟨n, e, _⟩ := num_figs' h1 h2; ⟨n, e⟩
theorem int_S {a : List Nat} (h : Tx a) (hl : a.length ≤ 640) {n : Int} (e : intText? (S a) = some n) : bfIntS [.str (S a)] = some (.int n) := by
  show (if (S a).length ≤ 640 then _ else none) = _
  rw [if_pos (by rw [S_len]; exact hl)]
  show (intText? (S a)).map D.int = _
  rw [e]
  rfl
theorem read_loop {v0 v1 : Sl} : ∀ (f : List Nat) (v : Sl), ∃ v', forL (gNam 2) b_read_number_1 (f.map fun c => .str (S [c])) [v0, v1, v] = if f.all fig = true then .nx [v0, v1, v'] else .err ⟨"NoText", none⟩ [v0, v1, v']
  | [], v => ⟨v, by simp [forL_0]⟩
  | c :: f, v => by
    have n := notin_fig c
    rw [List.map_cons, forL_f]
    cases q : fig c with
    | false =>
      rw [q] at n
      exact ⟨.sh (.str (S [c])), by simp [b_read_number_1, g_FIGURES, e_figs, n, fturn1, flp1, flp3, q]⟩
    | true =>
      rw [q] at n
      obtain ⟨v', e⟩ := read_loop (v0 := v0) (v1 := v1) f (.sh (.str (S [c])))
      exact ⟨v', by simp only [List.all_cons, q, Bool.true_and]; rw [← e]; simp [b_read_number_1, g_FIGURES, e_figs, n, fturn1, flp1, flp3]⟩
def badf (a f : List Nat) : Bool := decide (f = []) || decide (60 < f.length) || (decide (f.head? = some 48) && !decide (a = [48]))
theorem cnd {a f : List Nat} (h : Tx a) (hf : Tx f) {S2 : Sl} : vOr (vTest (vOp opEq (vVar 1) (vC (.str "")))) (vOr (vTest (vOp opGt (vBf bfLen (vCons (vVar 1) vNil)) (vC (.int 60)))) (vAnd (vTest (vOp opEq (vOp opIx (vVar 1) (vC (.int 0))) (vC (.str "0")))) (vTest (vOp opNe (vVar 0) (vC (.str "0")))))) [.sh (.str (S a)), .sh (.str (S f)), S2] = .ok (badf a f) [.sh (.str (S a)), .sh (.str (S f)), S2] := by
  have l := len_S hf
  have e0 := S_eq hf tx_nil
  have ea := S_ne h (tx_one (c := 48) (by decide))
  unfold badf
  cases f with
  | nil => simp [e_empty, e0]
  | cons c r =>
    have ix := ix_S hf
    have ec := S_eq (tx_one (c := c) (hf.c c (by simp))) (tx_one (c := 48) (by decide))
    by_cases g : 60 < (c :: r).length
    · have g' : (60 : Int) < ((c :: r).length : Nat) := by omega
      simp only [List.length_cons] at g
      generalize (((c :: r).length : Nat) : Int) = L at *
      simp [e_empty, e_zero, e0, l, g', g]
    · have g' : ¬ (60 : Int) < ((c :: r).length : Nat) := by omega
      simp only [List.length_cons] at g
      generalize (((c :: r).length : Nat) : Int) = L at *
      by_cases c0 : c = 48
      · subst c0
        simp [e_empty, e_zero, e0, l, g', g, ix, ec, ea]
      · simp [e_empty, e_zero, e0, l, g', g, ix, ec, c0]
theorem seq_S (f : List Nat) : seqD (.str (S f)) = some (f.map fun c => .str (S [c])) := rfl
theorem read_ok {a : List Nat} (h : Tx a) : fn_read_number [.str (S a)] = match rd' a with
    | some n => .ok (.int n)
    | none => .err ⟨"NoText", none⟩ := by
  obtain ⟨f, ef⟩ : ∃ f, f = figs a := ⟨_, rfl⟩
  have hf : Tx f := ef ▸ tx_figs h
  have c := cnd h hf (S2 := .no)
  have st := starts_minus a
  have isS : opIsi "str" (.str (S a)) = some (.bl true) := rfl
  have op : opStarts (S a) (.str (S [45])) = some (.bl (decide (a.head? = some 45))) := by rw [← st]; rfl
  have eb : bad a = badf a f := by rw [ef]; rfl
  obtain ⟨v', lp⟩ := read_loop (v0 := .sh (.str (S a))) (v1 := .sh (.str (S f))) f .no
  have body : ∀ e : Env, e = [.sh (.str (S a)), .sh (.str (S f)), .no] → fRun (RS.seq (vIf (vOr (vTest (vOp opEq (vVar 1) (vC (.str "")))) (vOr (vTest (vOp opGt (vBf bfLen (vCons (vVar 1) vNil)) (vC g_MOST_FIGURES))) (vAnd (vTest (vOp opEq (vOp opIx (vVar 1) (vC (.int 0))) (vC (.str "0")))) (vTest (vOp opNe (vVar 0) (vC (.str "0"))))))) (vSeq (vRaise "NoText") vNext) vNext e) (vSeq (vFor (vSeqI (vVar 1)) (gNam 2) b_read_number_1) (vSeq (vRet (vBf bfIntS (vCons (vVar 0) vNil))) vNext))) = match rd' a with
    | some n => .ok (.int n)
    | none => .err ⟨"NoText", none⟩ := by
    rintro e rfl
    unfold rd'
    rw [eb]
    cases b : badf a f with
    | true =>
      rw [b] at c
      simp [-e_or, g_MOST_FIGURES, c]
    | false =>
      rw [b] at c
      by_cases q : f.all fig = true
      · rw [if_pos q] at lp
        obtain ⟨n, hn⟩ := num_figs (eb.trans b) (ef ▸ q)
        have la : a.length ≤ 640 := by
          have : ¬ 60 < f.length := by
            unfold badf at b
            rw [Bool.or_eq_false_iff, Bool.or_eq_false_iff] at b
            exact of_decide_eq_false b.1.2
          rw [ef] at this
          unfold figs at this
          split at this
          · simp at this; omega
          · omega
        have i := int_S h la hn
        have q' : (figs a).all fig = true := ef ▸ q
        simp [-e_or, -List.all_eq_true, g_MOST_FIGURES, c, seq_S, lp, i, q', hn]
      · have q' : ¬ (figs a).all fig = true := ef ▸ q
        rw [if_neg q] at lp
        simp [-e_or, -List.all_eq_true, g_MOST_FIGURES, c, seq_S, lp, q']
  by_cases q : a.head? = some 45
  · have fr : slT (some 1) none (.str (S a)) = some (.str (S f)) := by rw [from1_S h, ef, figs, if_pos q]
    rw [decide_eq_true q] at op
    have op := m1_of (op := opStarts) (a := vVar 0) (b := vC (.str (S [45]))) (e := [.sh (.str (S a)), .sh (.str (S a)), .no]) rfl rfl op
    have b := body _ rfl
    rw [← b]
    simp [-e_or, fn_read_number, b_read_number, isS, e_minus, op, fr]
  · have fa : f = a := by rw [ef, figs, if_neg q]
    rw [decide_eq_false q] at op
    have op := m1_of (op := opStarts) (a := vVar 0) (b := vC (.str (S [45]))) (e := [.sh (.str (S a)), .sh (.str (S a)), .no]) rfl rfl op
    have b := body _ rfl
    rw [← b]
    simp [-e_or, fn_read_number, b_read_number, isS, e_minus, op, fa]
theorem take1 (a : List Nat) : (a.take 1 = [45]) ↔ a.head? = some 45 := by
  cases a with
  | nil => simp
  | cons c r => simp
theorem dv_lt : ∀ (cs : List Nat) (acc : Nat), cs.all fig = true → cs.foldl (fun acc c => acc * 10 + (c - 48)) acc < (acc + 1) * 10 ^ cs.length
  | [], acc, _ => by simp
  | c :: cs, acc, h => by
    rw [List.all_cons, Bool.and_eq_true] at h
    have h1 := dv_lt cs (acc * 10 + (c - 48)) h.2
    have hc := h.1
    unfold fig at hc
    simp at hc
    rw [List.foldl_cons, List.length_cons, Nat.pow_succ]
    refine Nat.lt_of_lt_of_le h1 ?_
    rw [Nat.mul_comm (10 ^ cs.length) 10, ← Nat.mul_assoc]
    exact Nat.mul_le_mul_right _ (by omega)
theorem rd_small {a : List Nat} {n : Int} (e : rd' a = some n) : n.natAbs < 10 ^ 60 := by
  unfold rd' at e
  by_cases b : bad a = true
  · rw [if_pos b] at e; cases e
  · rw [if_neg b] at e
    by_cases q : (figs a).all fig = true
    · rw [if_pos q] at e
      have b' : bad a = false := by simpa using b
      obtain ⟨m, h1, h2⟩ := num_figs' b' q
      rw [h1] at e
      cases e
      rw [h2]
      have := dv_lt (figs a) 0 q
      have l : (figs a).length ≤ 60 := by
        unfold bad at b'
        rw [Bool.or_eq_false_iff, Bool.or_eq_false_iff] at b'
        have := of_decide_eq_false b'.1.2
        omega
      refine Nat.lt_of_lt_of_le this ?_
      rw [Nat.zero_add, Nat.one_mul]
      exact Nat.pow_le_pow_right (by decide) l
    · rw [if_neg q] at e; cases e
theorem rd_sm {a : List Nat} {n : Int} (e : rd' a = some n) : Sm n := Nat.lt_trans (rd_small e) (Nat.lt_of_lt_of_le (show 10 ^ 60 < 2 ^ 200 by decide) (Nat.pow_le_pow_right (by decide) (by decide)))
theorem pair_ne {x y m n : Int} : opNe (.tup [.int x, .int y]) (.tup [.int m, .int n]) = some (.bl (!(decide (x = m) && decide (y = n)))) := by
  rw [o_ne (by simp) (by simp)]
  simp
theorem pair_eq {x y m n : Int} : opEq (.tup [.int x, .int y]) (.tup [.int m, .int n]) = some (.bl (decide (x = m) && decide (y = n))) := by
  rw [o_eq (by simp) (by simp)]
  simp
def lowB (m n : Int) : Bool := decide (rn m n = m) && decide (rd m n = n)
theorem lowB_ne {m n : Int} : opNe (.tup [.int (rn m n), .int (rd m n)]) (.tup [.int m, .int n]) = some (.bl (!lowB m n)) := pair_ne
/-- what a fraction's text shows -/
def rf (a : List Nat) : Option (Int × Int) := match TL.par [47] [] a with
  | none => (rd' a).map fun n => (n, 1)
  | some (p, q) => match rd' p with
    | none => none
    | some m => match rd' q with
      | none => none
      | some n => if n < 2 then none else if lowB m n = true then some (m, n) else none
theorem cut_cases (a : List Nat) : (47 ∉ a ∧ TL.par [47] [] a = none) ∨ ∃ p q, a = p ++ 47 :: q ∧ 47 ∉ p ∧ TL.par [47] [] a = some (p, q) := by
  by_cases h : 47 ∈ a
  · obtain ⟨p, q, e, n⟩ := List.eq_append_cons_of_mem h
    exact .inr ⟨p, q, e, n, by rw [e]; exact SX.par_head (sep := []) q n⟩
  · exact .inl ⟨h, SX.par_head_none h⟩
theorem readf_ok {a : List Nat} (h : Tx a) : fn_read_fraction [.str (S a)] = match rf a with
    | some (m, n) => .ok (.tup [.int m, .int n])
    | none => .err ⟨"NoText", none⟩ := by
  have isS : opIsi "str" (.str (S a)) = some (.bl true) := rfl
  have l1 : (S [47]).length ≠ 0 ∧ (S a).length ≤ vmax := ⟨by decide, by rw [S_len, vmax_eq]; have := h.l; omega⟩
  have op : opParti (S a) (.str (S [47])) = some (.tup [.str (Txt.partition (S a) (S [47])).1, .str (Txt.partition (S a) (S [47])).2.1, .str (Txt.partition (S a) (S [47])).2.2]) := if_pos l1
  unfold rf
  rcases cut_cases a with ⟨_, e⟩ | ⟨p, q, ea, np, e⟩
  · have pt : Txt.partition (S a) (S [47]) = (S a, S [], S []) := SX.partition_none (by simp) e
    rw [pt] at op
    have op := m1_of (op := opParti) (a := vVar 0) (b := vC (.str (S [47]))) (e := [.sh (.str (S a)), .no, .no, .no, .no]) rfl rfl op
    have e0 := S_eq tx_nil tx_nil
    have r := read_ok h
    rw [e]
    cases k : rd' a with
    | none =>
      rw [k] at r
      simp [fn_read_fraction, b_read_fraction, isS, e_stroke, op, e_empty, e0, r]
    | some n =>
      rw [k] at r
      simp [fn_read_fraction, b_read_fraction, isS, e_stroke, op, e_empty, e0, r]
  · have pt : Txt.partition (S a) (S [47]) = (S p, S [47], S q) := SX.partition_some (by simp) e
    rw [pt] at op
    have op := m1_of (op := opParti) (a := vVar 0) (b := vC (.str (S [47]))) (e := [.sh (.str (S a)), .no, .no, .no, .no]) rfl rfl op
    have hp : Tx p := ⟨by have := h.l; rw [ea] at this; simp at this; omega, fun c hc => h.c c (by rw [ea]; simp [hc])⟩
    have hq : Tx q := ⟨by have := h.l; rw [ea] at this; simp at this; omega, fun c hc => h.c c (by rw [ea]; simp [hc])⟩
    have e0 := S_eq (tx_one (c := 47) (by decide)) tx_nil
    have r1 := read_ok hp
    have r2 := read_ok hq
    rw [e]
    dsimp only
    cases k1 : rd' p with
    | none =>
      rw [k1] at r1
      simp [fn_read_fraction, b_read_fraction, isS, e_stroke, op, e_empty, e0, r1]
    | some m =>
      rw [k1] at r1
      cases k2 : rd' q with
      | none =>
        rw [k2] at r2
        simp [fn_read_fraction, b_read_fraction, isS, e_stroke, op, e_empty, e0, r1, r2]
      | some n =>
        rw [k2] at r2
        dsimp only at r1 r2
        by_cases n2 : n < 2
        · simp [fn_read_fraction, b_read_fraction, isS, e_stroke, op, e_empty, e0, r1, r2, n2]
        · have fc := fraction_can (a := m) (b := n) (by omega) (rd_sm k2)
          have ne := lowB_ne (m := m) (n := n)
          cases w : lowB m n with
          | true =>
            rw [w] at ne
            simp [fn_read_fraction, b_read_fraction, isS, e_stroke, op, e_empty, e0, r1, r2, n2, fc, ne, w]
          | false =>
            rw [w] at ne
            simp [fn_read_fraction, b_read_fraction, isS, e_stroke, op, e_empty, e0, r1, r2, n2, fc, ne, w]
theorem rd_no47 {q : List Nat} (h : 47 ∈ q) : rd' q = none := by
  have hf : 47 ∈ figs q := by
    unfold figs
    split
    · rename_i z
      cases q with
      | nil => cases h
      | cons c r =>
        simp at z
        subst z
        simpa using h
    · exact h
  have : ¬ (figs q).all fig = true := fun z => by
    have := List.all_eq_true.mp z 47 hf
    revert this
    decide
  unfold rd'
  rw [if_neg this]
  split <;> rfl
theorem spl_pos : ∀ (k : Nat) (acc l : List Nat), 0 < (TL.spl [47] k acc l).length
  | k, acc, [] => by rw [TL.spl_nil]; simp
  | 0, acc, c :: r => by
    show 0 < (if TL.pre [47] (c :: r) = true then acc :: TL.spl [47] ([47].length - 1) [] r else TL.spl [47] 0 (acc ++ [c]) r).length
    split
    · simp
    · exact spl_pos 0 _ r
  | k + 1, acc, _ :: r => spl_pos k acc r
theorem split_ok {a : List Nat} (h : Tx a) : opSplit (S a) (.str (S [47])) = some (((TL.spl [47] 0 [] a).map S).map D.str) := by
  have l1 : (S [47]).length ≠ 0 ∧ (S a).length + 2 ≤ vmax := ⟨by decide, by rw [S_len, vmax_eq]; have := h.l; omega⟩
  have : opSplit (S a) (.str (S [47])) = some ((Txt.split (S a) (S [47])).map D.str) := if_pos l1
  rw [this, show Txt.split (S a) (S [47]) = (TL.spl [47] 0 [] a).map S from SX.split_S (by simp) (by decide)]
theorem spl_one {a : List Nat} (h : 47 ∉ a) : TL.spl [47] 0 [] a = [a] := TL.spl_last1 h
theorem spl_two {p q : List Nat} (h : 47 ∉ p) : TL.spl [47] 0 [] (p ++ 47 :: q) = p :: TL.spl [47] 0 [] q := SX.spl_free (sep := [47]) q (by simp) (SX.free_head h)
theorem isnot_i {n : Int} : opIsNot (.int n) .non = some (.bl true) := rfl
theorem isnot_n : opIsNot .non .non = some (.bl false) := rfl
theorem is_i {n : Int} : opIs (.int n) .non = some (.bl false) := rfl
theorem is_n : opIs .non .non = some (.bl true) := rfl
def txt (i : Int) : List Nat := if i < 0 then 45 :: TL.numL i.natAbs else TL.numL i.natAbs
theorem str_txt (i : Int) : Str.ofString (toString i) = S (txt i) := by
  cases i with
  | ofNat n => exact SX.num_S n
  | negSucc n =>
    have e : (toString (Int.negSucc n)) = "-" ++ toString (((n + 1 : Nat) : Int)) := rfl
    have h1 := TL.tl_ofString (toString (Int.negSucc n))
    have h2 := TL.tl_ofString (toString (((n + 1 : Nat) : Int)))
    have h3 := TL.tl_num (n + 1)
    rw [h2] at h3
    have t : txt (Int.negSucc n) = 45 :: TL.numL (n + 1) := if_pos (Int.negSucc_lt_zero n)
    have key : (Str.ofString (toString (Int.negSucc n))).cps.toList = 45 :: TL.numL (n + 1) := by
      refine h1.trans ?_
      rw [e, String.toList_append, List.map_append, h3]
      rfl
    rw [S_of (Str.ofString _), key, t]
theorem numL_head : ∀ (n : Nat), n ≠ 0 → (TL.numL n).head? ≠ some 48
  | n, h => by
    by_cases q : n < 10
    · rw [TL.numL_lt q]
      simp
      omega
    · rw [TL.numL_step (by omega)]
      have ne := TL.numL_ne (n / 10)
      have ih := numL_head (n / 10) (by omega)
      cases k : TL.numL (n / 10) with
      | nil => exact absurd k ne
      | cons c r =>
        rw [k] at ih
        simpa using ih
theorem numL_fig (n : Nat) : (TL.numL n).all fig = true := List.all_eq_true.mpr fun c hc => by
  have := TL.numL_digits n c hc
  unfold fig
  simp [this.1, this.2]
theorem numL_len {n : Nat} (h : n < 10 ^ 60) : (TL.numL n).length ≤ 60 := TL.numL_len (by decide) h
theorem rd_txt {i : Int} (h : i.natAbs < 10 ^ 60) : rd' (txt i) = some i := by
  have len := numL_len h
  have ne := TL.numL_ne i.natAbs
  have hd := TL.numL_digits i.natAbs
  unfold txt
  by_cases q : i < 0
  · rw [if_pos q]
    have f : figs (45 :: TL.numL i.natAbs) = TL.numL i.natAbs := rfl
    have hh := numL_head i.natAbs (by omega)
    unfold rd' bad
    rw [f]
    have c1 : (decide (TL.numL i.natAbs = []) || decide (60 < (TL.numL i.natAbs).length) || (decide ((TL.numL i.natAbs).head? = some 48) && !decide ((45 :: TL.numL i.natAbs) = [48]))) = false := by
      rw [decide_eq_false ne, decide_eq_false (by omega), decide_eq_false hh]
      rfl
    rw [c1, if_neg (by simp), if_pos (numL_fig _)]
    rw [intText_neg (x := S (45 :: TL.numL i.natAbs)) (cs := TL.numL i.natAbs) rfl hd ne (by rw [S_len]; simp; omega), TL.numL_val]
    congr 1
    omega
  · rw [if_neg q]
    have h45 : (TL.numL i.natAbs).head? ≠ some 45 := by
      cases k : TL.numL i.natAbs with
      | nil => simp
      | cons c r =>
        have := hd c (by rw [k]; simp)
        simp
        omega
    have f : figs (TL.numL i.natAbs) = TL.numL i.natAbs := if_neg h45
    unfold rd' bad
    rw [f]
    have c1 : (decide (TL.numL i.natAbs = []) || decide (60 < (TL.numL i.natAbs).length) || (decide ((TL.numL i.natAbs).head? = some 48) && !decide (TL.numL i.natAbs = [48]))) = false := by
      rw [decide_eq_false ne, decide_eq_false (show ¬ 60 < (TL.numL i.natAbs).length by omega)]
      by_cases z : i.natAbs = 0
      · rw [z]
        decide
      · rw [decide_eq_false (numL_head _ z)]
        rfl
    rw [c1, if_neg (by simp), if_pos (numL_fig _)]
    rw [intText_digits (x := S (TL.numL i.natAbs)) hd ne (by rw [S_len]; omega)]
    show some (((NumText.digitsVal (TL.numL i.natAbs) : Nat) : Int)) = _
    rw [TL.numL_val]
    congr 1
    omega
theorem tx_txt {i : Int} (h : i.natAbs < 10 ^ 60) : Tx (txt i) ∧ 47 ∉ txt i ∧ (txt i).length ≤ 61 := by
  have len := numL_len h
  have hd := TL.numL_digits i.natAbs
  have fr : 47 ∉ TL.numL i.natAbs := TL.numL_free (by decide)
  unfold txt
  split
  · refine ⟨⟨by simp; omega, fun c hc => ?_⟩, by simp [fr], by simp; omega⟩
    rcases List.mem_cons.mp hc with rfl | hc
    · decide
    · have := hd c hc; omega
  · exact ⟨⟨by omega, fun c hc => by have := hd c hc; omega⟩, fr, by omega⟩
theorem rf_one {p : Int} (h : p.natAbs < 10 ^ 60) : rf (txt p) = some (p, 1) := by
  unfold rf
  rw [show TL.par [47] [] (txt p) = none from SX.par_head_none (tx_txt h).2.1, rd_txt h]
  rfl
theorem rf_two {p q : Int} (h : p.natAbs < 10 ^ 60) (h2 : q.natAbs < 10 ^ 60) (hq : 2 ≤ q) (w : lowB p q = true) : rf (txt p ++ 47 :: txt q) = some (p, q) := by
  unfold rf
  rw [show TL.par [47] [] (txt p ++ 47 :: txt q) = some (txt p, txt q) from SX.par_head (sep := []) _ (tx_txt h).2.1]
  dsimp only
  rw [rd_txt h, rd_txt h2]
  dsimp only
  rw [if_neg (by omega), if_pos w]
theorem lowB_red {p q : Int} (hq : 0 < q) (r : Red p q) : lowB p q = true := by
  obtain ⟨h1, h2⟩ := can_of (a := p) (b := q) hq r rfl
  unfold lowB
  rw [decide_eq_true h1.symm, decide_eq_true h2.symm]
  rfl
theorem str_ok {i : Int} (h : i.natAbs < 10 ^ 60) : bfStrS [.int i] = some (.str (S (txt i))) := by
  have : i.natAbs.log2 < 1920 := by
    by_cases z : i.natAbs = 0
    · rw [z]; decide
    · exact (Nat.log2_lt z).mpr (Nat.lt_trans h (Nat.lt_of_lt_of_le (show 10 ^ 60 < 2 ^ 200 by decide) (Nat.pow_le_pow_right (by decide) (by decide))))
  show (if i.natAbs.log2 < 1920 then some (D.str (toString i)) else none) = _
  rw [if_pos this]
  exact congrArg (fun z => some (D.str z)) (str_txt i)

inductive It where
  | gap (n : Int)
  | oth (s : Str) (mid : List D) (n : Int)
def It.d : It → D
  | .gap n => .tup [.str "gap", .int n]
  | .oth s mid n => .tup (.str s :: (mid ++ [.int n]))
def It.Ok : It → Prop
  | .gap n => 0 ≤ n
  | .oth s mid n => s ≠ "gap" ∧ D.eqok 19 (It.oth s mid n).d = true ∧ D.flat (It.oth s mid n).d = true ∧ 0 ≤ n
theorem sGap : strS "gap" = true := by decide +kernel
theorem It.Ok.e : ∀ {t : It}, t.Ok → D.eqok 19 t.d = true
  | .gap n, _ => by simp [It.d, sGap]
  | .oth s mid n, h => h.2.1
theorem It.Ok.f : ∀ {t : It}, t.Ok → D.flat t.d = true
  | .gap n, _ => by simp [It.d]
  | .oth s mid n, h => h.2.2.1
theorem It.eqs {ts : List It} (h : ∀ t ∈ ts, t.Ok) : D.eqok 20 (.lst (ts.map It.d)) = true := by
  rw [eqok_lst]
  refine eqoks_all fun d hd => ?_
  obtain ⟨t, ht, rfl⟩ := List.mem_map.mp hd
  exact (h t ht).e
theorem flats_all : ∀ {ds : List D}, (∀ d ∈ ds, D.flat d = true) → D.flats ds = true
  | [], _ => by simp
  | d :: ds, h => by rw [flats_cons, h d List.mem_cons_self, flats_all fun d hd => h d (List.mem_cons_of_mem _ hd)]; rfl
theorem It.fls {ts : List It} (h : ∀ t ∈ ts, t.Ok) : D.flats (ts.map It.d) = true := by
  refine flats_all fun d hd => ?_
  obtain ⟨t, ht, rfl⟩ := List.mem_map.mp hd
  exact (h t ht).f
theorem It.last : ∀ (t : It), t.Ok → ∃ n, opIx t.d (.int (-1)) = some (.int n) ∧ 0 ≤ n
  | .gap n, h => ⟨n, at_last (xs := [.str "gap"]), h⟩
  | .oth s mid n, h => ⟨n, at_last (xs := .str s :: mid), h.2.2.2⟩
theorem It.tup (t : It) : ∃ xs, t.d = .tup xs := by cases t <;> exact ⟨_, rfl⟩
theorem It.first : ∀ (t : It), t.Ok → ∃ z b, opIx t.d (.int 0) = some (.str z) ∧ opNe (.str z) (.str "gap") = some (.bl b)
  | .gap n, h => ⟨"gap", false, by simp [It.d], o_neS (by simp [sGap])⟩
  | .oth s mid n, h => ⟨s, _, by simp only [It.d]; rw [ix_tup, at_0], o_ne (by
    have := h.2.1
    simp only [It.d] at this
    rw [eqok_tup, eqoks_cons, Bool.and_eq_true] at this
    simpa using this.1) (by simp [sGap])⟩
/-- the one form, g moments of gap ahead -/
def canon : Int → List It → List It
  | _, [] => []
  | g, .gap n :: ts => canon (g + n) ts
  | g, .oth s m n :: ts => if 0 < g then .gap g :: .oth s m n :: canon 0 ts else .oth s m n :: canon 0 ts
theorem canon_idem : ∀ (g : Int) (ts : List It), canon 0 (canon g ts) = canon g ts
  | _, [] => rfl
  | g, .gap n :: ts => canon_idem (g + n) ts
  | g, .oth s m n :: ts => by
    unfold canon
    by_cases h : 0 < g
    · simp [h, canon, canon_idem 0 ts]
    · simp [h, canon, canon_idem 0 ts]
theorem canon_gap : ∀ (g k : Int) (ts : List It), canon g (ts ++ [.gap k]) = canon g ts
  | _, _, [] => rfl
  | g, k, .gap n :: ts => canon_gap (g + n) k ts
  | g, k, .oth s m n :: ts => by
    simp [canon, canon_gap 0 k ts]
theorem canon_ok : ∀ (g : Int) (ts : List It), 0 ≤ g → (∀ t ∈ ts, t.Ok) → ∀ t ∈ canon g ts, t.Ok
  | _, [], _, _ => by simp [canon]
  | g, .gap n :: ts, hg, h => canon_ok (g + n) ts (by have := h _ List.mem_cons_self; simp [It.Ok] at this; omega) fun t ht => h t (List.mem_cons_of_mem _ ht)
  | g, .oth s m n :: ts, hg, h => by
    have r := canon_ok 0 ts (by omega) fun t ht => h t (List.mem_cons_of_mem _ ht)
    have o := h _ List.mem_cons_self
    unfold canon
    intro t ht
    by_cases q : 0 < g
    · simp only [q, if_true, List.mem_cons] at ht
      rcases ht with rfl | rfl | ht
      · exact hg
      · exact o
      · exact r t ht
    · simp only [q, if_false, List.mem_cons] at ht
      rcases ht with rfl | ht
      · exact o
      · exact r t ht
theorem canon_len : ∀ (g : Int) (ts : List It), (canon g ts).length ≤ 2 * ts.length
  | _, [] => by simp [canon]
  | g, .gap n :: ts => by have := canon_len (g + n) ts; simp [canon]; omega
  | g, .oth s m n :: ts => by
    have := canon_len 0 ts
    unfold canon
    split <;> simp <;> omega
def pend (g : Int) : List It := if 0 < g then [.gap g] else []
def NoG (T : List It) : Prop := T = [] ∨ ∃ us s m n, T = us ++ [.oth s m n]
theorem form_loop {v0 : Sl} : ∀ (ts T : List It) (g : Int) (v : Sl), 0 ≤ g → (∀ t ∈ ts, t.Ok) → (∀ t ∈ T, t.Ok) → NoG T → T.length + 2 * ts.length ≤ 900000 → ∃ g' v', 0 ≤ g' ∧ NoG (T ++ canon g ts) ∧ forL (gNam 2) b_one_form_1 (ts.map It.d) [v0, .ow false ((T ++ pend g).map It.d), v] = .nx [v0, .ow false ((T ++ canon g ts ++ pend g').map It.d), v']
  | [], T, g, v, hg, _, _, ng, _ => ⟨g, v, hg, by simpa [canon] using ng, by simp [forL, canon]⟩
  | .gap n :: ts, T, g, v, hg, h, hT, ng, hl => by
    have o := h _ List.mem_cons_self
    simp only [It.Ok] at o
    obtain ⟨g', v', hg', ng', e⟩ := form_loop (v0 := v0) ts T (g + n) (.sh (It.gap n).d) (by omega) (fun t ht => h t (List.mem_cons_of_mem _ ht)) hT ng (by simp at hl; omega)
    refine ⟨g', v', hg', ng', ?_⟩
    have l1 : T.length < 1000000 := by simp at hl; omega
    have run : turn (gNam 2) b_one_form_1 (It.gap n).d [v0, .ow false ((T ++ pend g).map It.d), v] = .nx [v0, .ow false ((T ++ pend (g + n)).map It.d), .sh (It.gap n).d] := by
      have eqG : opEq (.str "gap") (.str "gap") = some (.bl true) := o_eqS (by simp [sGap])
      have neG : opNe (.str "gap") (.str "gap") = some (.bl false) := o_neS (by simp [sGap])
      have i0 : opIx (It.gap n).d (.int 0) = some (.str "gap") := by simp [It.d]
      have i1 : opIx (It.gap n).d (.int 1) = some (.int n) := by simp [It.d]
      rw [turn_nam' (by simp)]
      by_cases q : 0 < g
      · have pg : pend g = [.gap g] := if_pos q
        have pg2 : pend (g + n) = [.gap (g + n)] := if_pos (by omega)
        rw [pg, pg2, List.map_append, List.map_append]
        have ekT : D.eqok 20 (.lst (T.map It.d ++ [(It.gap g).d])) = true := by
          have := It.eqs (ts := T ++ [.gap g]) (fun t ht => by
            rcases List.mem_append.mp ht with ht | ht
            · exact hT t ht
            · rw [List.mem_singleton.mp ht]; exact hg)
          rw [List.map_append] at this
          exact this
        have n0 : opNe (.lst (T.map It.d ++ [(It.gap g).d])) (.lst []) = some (.bl true) := by
          rw [o_ne ekT (by simp)]
          cases T <;> simp
        have al : atD (T.map It.d ++ [(It.gap g).d]) (-1) = some (It.gap g).d := at_last
        have j0 : opIx (It.gap g).d (.int 0) = some (.str "gap") := by simp [It.d]
        have j1 : opIx (It.gap g).d (.int 1) = some (.int g) := by simp [It.d]
        have st := set_of (i := 1) (ix := vUn opNeg (vC (.int 1))) (a := vTupD (vCons (vC (.str "gap")) (vCons (vOp opAdd (vBor (vOp opIx (vOp opIx (vVar 1) (vUn opNeg (vC (.int 1)))) (vC (.int 1)))) (vOp opIx (vVar 2) (vC (.int 1)))) vNil)))
          (e := [v0, .ow false (T.map It.d ++ [(It.gap g).d]), .sh (It.gap n).d]) (e1 := [v0, .ow false (T.map It.d ++ [(It.gap g).d]), .sh (It.gap n).d]) (e2 := [v0, .ow false (T.map It.d ++ [(It.gap g).d]), .sh (It.gap n).d]) (ds := T.map It.d ++ [(It.gap g).d]) (d := .tup [.str "gap", .int (g + n)]) (k := -1) (j := (T.map It.d).length)
          (by simp [al, j1, i1]) rfl (by simp) rfl (by rw [List.length_append]; exact ix_last)
        rw [set_last] at st
        have dg : (It.gap (g + n)).d = .tup [.str "gap", .int (g + n)] := rfl
        simp [b_one_form_1, i0, eqG, n0, al, j0, st, dg]
      · have g0 : g = 0 := by omega
        subst g0
        have pg : pend 0 = [] := rfl
        rw [pg, List.append_nil, Int.zero_add, List.map_append]
        have ll : (T.map It.d).length < 1000000 := by simpa using l1
        have cond : ∃ b0 b1, opNe (.lst (T.map It.d)) (.lst []) = some (.bl b0) ∧ (b0 = true → ∃ d s, atD (T.map It.d) (-1) = some d ∧ opIx d (.int 0) = some s ∧ opEq s (.str "gap") = some (.bl false)) ∧ b1 = true := by
          rcases ng with rfl | ⟨us, s, m, k, rfl⟩
          · exact ⟨false, true, by rw [o_ne (by simp) (by simp)]; simp, (fun z => by cases z), rfl⟩
          · have o2 := hT (.oth s m k) (by simp)
            have os : strS s = true := by
              have := o2.2.1
              simp only [It.d] at this
              rw [eqok_tup, eqoks_cons, Bool.and_eq_true, eqok_str] at this
              exact this.1
            refine ⟨true, true, ?_, fun _ => ⟨(It.oth s m k).d, .str s, by rw [List.map_append]; exact at_last, by simp only [It.d]; rw [ix_tup, at_0], by rw [o_eq (by simp [os]) (by simp [sGap]), deq_str, decide_eq_false o2.1]⟩, rfl⟩
            rw [o_ne (It.eqs hT) (by simp)]
            cases us <;> simp
        obtain ⟨b0, b1, c0, c1, _⟩ := cond
        generalize T.map It.d = TT at *
        have pn : (pend n).map It.d = if 0 < n then [(It.gap n).d] else [] := by unfold pend; split <;> simp
        rw [pn]
        cases b0 with
        | false =>
          by_cases hn : 0 < n
          · simp [b_one_form_1, i0, i1, eqG, neG, c0, hn, ll]
          · simp [b_one_form_1, i0, i1, eqG, neG, c0, hn]
        | true =>
          obtain ⟨d, s, d1, d2, d3⟩ := c1 rfl
          by_cases hn : 0 < n
          · simp [b_one_form_1, i0, i1, eqG, neG, c0, d1, d2, d3, hn, ll]
          · simp [b_one_form_1, i0, i1, eqG, neG, c0, d1, d2, d3, hn]
    rw [List.map_cons, forL_nx run]
    exact e
  | .oth s m n :: ts, T, g, v, hg, h, hT, ng, hl => by
    have o := h _ List.mem_cons_self
    have pl : (pend g).length ≤ 1 := by unfold pend; split <;> simp
    have hTg : ∀ t ∈ T ++ pend g ++ [It.oth s m n], t.Ok := fun t ht => by
      simp only [List.mem_append, List.mem_singleton] at ht
      rcases ht with (ht | ht) | rfl
      · exact hT t ht
      · unfold pend at ht
        split at ht
        · rw [List.mem_singleton.mp ht]; exact hg
        · cases ht
      · exact o
    obtain ⟨g', v', hg', ng', e⟩ := form_loop (v0 := v0) ts (T ++ pend g ++ [.oth s m n]) 0 (.sh (It.oth s m n).d) (by omega) (fun t ht => h t (List.mem_cons_of_mem _ ht)) hTg (.inr ⟨_, _, _, _, rfl⟩) (by simp at hl ⊢; omega)
    have cn : T ++ canon g (.oth s m n :: ts) = T ++ pend g ++ [.oth s m n] ++ canon 0 ts := by
      rw [canon]
      unfold pend
      by_cases q : 0 < g <;> simp [q]
    have p0 : pend 0 = [] := rfl
    rw [p0, List.append_nil] at e
    refine ⟨g', v', hg', by rw [cn]; exact ng', ?_⟩
    have os : strS s = true := by
      have := o.2.1
      simp only [It.d] at this
      rw [eqok_tup, eqoks_cons, Bool.and_eq_true, eqok_str] at this
      exact this.1
    have ne : opEq (.str s) (.str "gap") = some (.bl false) := by rw [o_eq (by simp [os]) (by simp [sGap]), deq_str, decide_eq_false o.1]
    have ne2 : opNe (.str s) (.str "gap") = some (.bl true) := by rw [o_ne (by simp [os]) (by simp [sGap]), deq_str, decide_eq_false o.1]; rfl
    have a0 : opIx (It.oth s m n).d (.int 0) = some (.str s) := by simp only [It.d]; rw [ix_tup, at_0]
    have ll : ((T ++ pend g).map It.d).length < 1000000 := by simp at hl ⊢; omega
    have run : turn (gNam 2) b_one_form_1 (It.oth s m n).d [v0, .ow false ((T ++ pend g).map It.d), v] = .nx [v0, .ow false ((T ++ pend g ++ [It.oth s m n]).map It.d), .sh (It.oth s m n).d] := by
      rw [turn_nam' (by simp), List.map_append (l₁ := T ++ pend g)]
      generalize (T ++ pend g).map It.d = TT at *
      simp [b_one_form_1, a0, ne, ne2, ll]
    rw [List.map_cons, forL_nx run, cn]
    exact e
theorem form_ok {ts : List It} (h : ∀ t ∈ ts, t.Ok) (hl : ts.length ≤ 400000) : fn_one_form [.lst (ts.map It.d)] = .ok (.lst ((canon 0 ts).map It.d)) := by
  obtain ⟨g', v', hg', ng, e⟩ := form_loop (v0 := .sh (.lst (ts.map It.d))) ts [] 0 .no (by omega) h (by simp) (.inl rfl) (by simp; omega)
  have p0 : pend 0 = [] := rfl
  simp [p0] at e ng
  have cok := canon_ok 0 ts (by omega) h
  have eqG : opEq (.str "gap") (.str "gap") = some (.bl true) := o_eqS (by simp [sGap])
  by_cases q : 0 < g'
  · have pg : pend g' = [.gap g'] := if_pos q
    rw [pg] at e
    simp at e
    have ek := It.eqs (ts := canon 0 ts ++ [.gap g']) (fun t ht => by
      rcases List.mem_append.mp ht with ht | ht
      · exact cok t ht
      · rw [List.mem_singleton.mp ht]; exact hg')
    simp only [List.map_append, List.map_cons, List.map_nil] at ek
    have n0 : opNe (.lst ((canon 0 ts).map It.d ++ [(It.gap g').d])) (.lst []) = some (.bl true) := by
      rw [o_ne ek (by simp)]
      cases (canon 0 ts) <;> simp
    have al : atD ((canon 0 ts).map It.d ++ [(It.gap g').d]) (-1) = some (It.gap g').d := at_last
    have j0 : opIx (It.gap g').d (.int 0) = some (.str "gap") := by simp [It.d]
    have pp := pop_of (i := 1) (e := [.sh (.lst (ts.map It.d)), .ow false ((canon 0 ts).map It.d ++ [(It.gap g').d]), v']) (xs := (canon 0 ts).map It.d) (d := (It.gap g').d) rfl
    simp [fn_one_form, b_one_form, e, n0, al, j0, eqG, pp]
  · have pg : pend g' = [] := if_neg q
    rw [pg] at e
    simp at e
    rcases ng with z | ⟨us, s, m, k, z⟩
    · rw [z] at e ⊢
      have n0 : opNe (.lst []) (.lst []) = some (.bl false) := o_neS (by simp)
      simp at e
      simp [fn_one_form, b_one_form, e, n0]
    · have o2 := cok (.oth s m k) (by rw [z]; simp)
      have ek := It.eqs cok
      have os : strS s = true := by
        have := o2.2.1
        simp only [It.d] at this
        rw [eqok_tup, eqoks_cons, Bool.and_eq_true, eqok_str] at this
        exact this.1
      have n0 : opNe (.lst ((canon 0 ts).map It.d)) (.lst []) = some (.bl true) := by
        rw [o_ne ek (by simp), z]
        cases us <;> simp
      have al : atD ((canon 0 ts).map It.d) (-1) = some (It.oth s m k).d := by rw [z, List.map_append]; exact at_last
      have j0 : opIx (It.oth s m k).d (.int 0) = some (.str s) := by simp only [It.d]; rw [ix_tup, at_0]
      have ne : opEq (.str s) (.str "gap") = some (.bl false) := by rw [o_eq (by simp [os]) (by simp [sGap]), deq_str, decide_eq_false o2.1]
      simp [fn_one_form, b_one_form, e, n0, al, j0, ne]

theorem cell_ok (ns : List Int) (k : Int) (h : 0 ≤ k) : ∃ c, fn__law_cell_at [.lst (ns.map D.int), .int k] = .ok (.int c) := by
  by_cases q : k.toNat < ns.length
  · refine ⟨ns[k.toNat], ?_⟩
    have e : atD (ns.map D.int) k = some (.int ns[k.toNat]) := at_of (n := k.toNat) (by omega) (by simp [q])
    have : k < (ns.length : Int) := by omega
    simp [fn__law_cell_at, b__law_cell_at, this, e]
  · have : ¬ k < (ns.length : Int) := by omega
    exact ⟨0, by simp [fn__law_cell_at, b__law_cell_at, this]⟩

/-! k85: what the law reads -/
theorem bools_map {α : Type} (f : α → Bool) : ∀ (xs : List α), boolsD (xs.map fun x => D.bl (f x)) = some (xs.map f)
  | [] => rfl
  | x :: xs => by
    have := bools_map f xs
    rw [List.map_cons]
    show (boolsD (xs.map fun x => D.bl (f x))).map (f x :: ·) = _
    rw [this]
    rfl
theorem any_map {α : Type} (f : α → Bool) (xs : List α) : bfAny [.lst (xs.map fun x => D.bl (f x))] = some (.bl (xs.any f)) := by
  show (boolsD (xs.map fun x => D.bl (f x))).map (fun ns => D.bl (ns.any id)) = _
  rw [bools_map]
  simp [List.any_map]
theorem all_map {α : Type} (f : α → Bool) (xs : List α) : bfAll [.lst (xs.map fun x => D.bl (f x))] = some (.bl (xs.all f)) := by
  show (boolsD (xs.map fun x => D.bl (f x))).map (fun ns => D.bl (ns.all id)) = _
  rw [bools_map]
  simp [List.all_map]
def sg1 : D → Nat
  | .str z => z.cps.toList.headD 0
  | _ => 0
def ltk (n : Int) : D → Bool
  | .int m => decide (n < m)
  | _ => false
def lnumD : Option Int → D → D
  | some n, .int m => if n < m then .non else .int n
  | some n, _ => .int n
  | none, _ => .non
theorem cnd2 {a f : List Nat} (h : Tx a) (hf : Tx f) {S1 S2 : Sl} : vOr (vTest (vOp opEq (vVar 2) (vC (.str "")))) (vOr (vTest (vOp opGt (vBf bfLen (vCons (vVar 2) vNil)) (vC (.int 60)))) (vAnd (vTest (vOp opEq (vOp opIx (vVar 2) (vC (.int 0))) (vC (.str "0")))) (vTest (vOp opNe (vVar 0) (vC (.str "0")))))) [.sh (.str (S a)), S1, .sh (.str (S f)), S2] = .ok (badf a f) [.sh (.str (S a)), S1, .sh (.str (S f)), S2] := by
  have l := len_S hf
  have e0 := S_eq hf tx_nil
  have ea := S_ne h (tx_one (c := 48) (by decide))
  unfold badf
  cases f with
  | nil => simp [e_empty, e0]
  | cons c r =>
    have ix := ix_S hf
    have ec := S_eq (tx_one (c := c) (hf.c c (by simp))) (tx_one (c := 48) (by decide))
    by_cases g : 60 < (c :: r).length
    · have g' : (60 : Int) < ((c :: r).length : Nat) := by omega
      simp only [List.length_cons] at g
      generalize (((c :: r).length : Nat) : Int) = L at *
      simp [e_empty, e_zero, e0, l, g', g]
    · have g' : ¬ (60 : Int) < ((c :: r).length : Nat) := by omega
      simp only [List.length_cons] at g
      generalize (((c :: r).length : Nat) : Int) = L at *
      by_cases c0 : c = 48
      · subst c0
        simp [e_empty, e_zero, e0, l, g', g, ix, ec, ea]
      · simp [e_empty, e_zero, e0, l, g', g, ix, ec, c0]
theorem lnum_lc {v0 v1 : Sl} {f : List Nat} (hf : Tx f) : vLc (vSeqI (vVar 2)) (gNam 3) vYes el__law_number_1 [3] [v0, v1, .sh (.str (S f)), .no] = .ok (f.map fun c => D.bl (!fig c)) [v0, v1, .sh (.str (S f)), .no] := by
  have := vLc_map (it := vSeqI (vVar 2)) (g := gNam 3) (t := vYes) (el := el__law_number_1) (own := [3]) (e := [v0, v1, .sh (.str (S f)), .no]) (e0 := [v0, v1, .sh (.str (S f)), .no]) (e1 := [v0, v1, .sh (.str (S f)), .no]) (ds := f.map fun c => .str (S [c])) (fun d => .bl (!fig (sg1 d))) (by simp [seq_S]) (by simp) (by
    intro d hd
    obtain ⟨c, _, rfl⟩ := List.mem_map.mp hd
    have n := notin_fig c
    have hh : sg1 (.str (S [c])) = c := rfl
    simp [el__law_number_1, e_figs, n, hh]) (by simp) (by have := hf.l; simp; omega)
  rw [this, List.map_map]
  rfl
theorem lnum_ok {a : List Nat} (h : Tx a) {k : D} (hk : k = .non ∨ ∃ m, k = .int m) : fn__law_number [.str (S a), k] = .ok (lnumD (rd' a) k) := by
  obtain ⟨f, ef⟩ : ∃ f, f = figs a := ⟨_, rfl⟩
  have hf : Tx f := ef ▸ tx_figs h
  have c := cnd2 h hf (S1 := .sh k) (S2 := .no)
  have ht : Tx (a.take 1) := ⟨by rw [List.length_take]; omega, fun x hx => h.c x (List.mem_of_mem_take hx)⟩
  have st := S_eq ht (tx_one (c := 45) (by decide))
  have eb : bad a = badf a f := by rw [ef]; rfl
  have lc := lnum_lc (v0 := .sh (.str (S a))) (v1 := .sh k) hf
  have an := any_map (fun c => !fig c) f
  have body : ∀ e : Env, e = [.sh (.str (S a)), .sh k, .sh (.str (S f)), .no] → fRun (RS.seq (vIf (vOr (vTest (vOp opEq (vVar 2) (vC (.str "")))) (vOr (vTest (vOp opGt (vBf bfLen (vCons (vVar 2) vNil)) (vC (.int 60)))) (vAnd (vTest (vOp opEq (vOp opIx (vVar 2) (vC (.int 0))) (vC (.str "0")))) (vTest (vOp opNe (vVar 0) (vC (.str "0"))))))) (vSeq (vRet (vC .non)) vNext) vNext e) (vSeq (vIf (vOr (vTest (vBf bfAny (vCons (vOf (vLc (vSeqI (vVar 2)) (gNam 3) vYes el__law_number_1 [3])) vNil))) (vAnd (vTest (vOp opIsNot (vVar 1) (vC .non))) (vTest (vOp opLt (vBf bfIntS (vCons (vVar 0) vNil)) (vVar 1)))))
    (vSeq (vRet (vC .non)) vNext) vNext)
    (vSeq (vRet (vBf bfIntS (vCons (vVar 0) vNil))) vNext))) = .ok (lnumD (rd' a) k) := by
    rintro e rfl
    unfold rd'
    rw [eb]
    cases b : badf a f with
    | true =>
      rw [b] at c
      simp [-e_or, c, lnumD]
    | false =>
      rw [b] at c
      by_cases q : f.all fig = true
      · obtain ⟨n, hn⟩ := num_figs (eb.trans b) (ef ▸ q)
        have la : a.length ≤ 640 := by
          have : ¬ 60 < f.length := by
            unfold badf at b
            rw [Bool.or_eq_false_iff, Bool.or_eq_false_iff] at b
            exact of_decide_eq_false b.1.2
          rw [ef] at this
          unfold figs at this
          split at this
          · simp at this; omega
          · omega
        have i := int_S h la hn
        have q' : (figs a).all fig = true := ef ▸ q
        have q2 : (f.any fun c => !fig c) = false := by
          rw [List.any_eq_false]
          intro c hc
          have := List.all_eq_true.mp q c hc
          simp [this]
        rw [q2] at an
        rw [if_neg (by simp), if_pos q', hn]
        have cn : vOr (vTest (vBf bfAny (vCons (vOf (vLc (vSeqI (vVar 2)) (gNam 3) vYes el__law_number_1 [3])) vNil))) (vAnd (vTest (vOp opIsNot (vVar 1) (vC .non))) (vTest (vOp opLt (vBf bfIntS (vCons (vVar 0) vNil)) (vVar 1)))) [.sh (.str (S a)), .sh k, .sh (.str (S f)), .no] =   .ok (ltk n k) [.sh (.str (S a)), .sh k, .sh (.str (S f)), .no] := by
          rcases hk with rfl | ⟨m, rfl⟩
          · simp [lc, an, isnot_n, ltk]
          · simp [lc, an, i, isnot_i, ltk]
        rcases hk with rfl | ⟨m, rfl⟩
        · simp [-e_or, c, cn, i, lnumD, ltk]
        · by_cases g : n < m
          · simp [-e_or, c, cn, i, lnumD, ltk, g]
          · simp [-e_or, c, cn, i, lnumD, ltk, g]
      · have q' : ¬ (figs a).all fig = true := ef ▸ q
        have q2 : (f.any fun c => !fig c) = true := by
          simp only [List.all_eq_true, Classical.not_forall] at q
          obtain ⟨c, hc, z⟩ := q
          exact List.any_eq_true.mpr ⟨c, hc, by simpa using z⟩
        rw [q2] at an
        rw [if_neg (by simp), if_neg q']
        have cn : vOr (vTest (vBf bfAny (vCons (vOf (vLc (vSeqI (vVar 2)) (gNam 3) vYes el__law_number_1 [3])) vNil))) (vAnd (vTest (vOp opIsNot (vVar 1) (vC .non))) (vTest (vOp opLt (vBf bfIntS (vCons (vVar 0) vNil)) (vVar 1)))) [.sh (.str (S a)), .sh k, .sh (.str (S f)), .no] = .ok true [.sh (.str (S a)), .sh k, .sh (.str (S f)), .no] := by
          simp [lc, an]
        simp [-e_or, c, cn, lnumD]
  by_cases q : a.head? = some 45
  · have fr : slT (some 1) none (.str (S a)) = some (.str (S f)) := by rw [from1_S h, ef, figs, if_pos q]
    rw [decide_eq_true ((take1 a).mpr q)] at st
    have b := body _ rfl
    rw [← b]
    simp [-e_or, fn__law_number, b__law_number, e_minus, to1_S h, st, fr]
  · have fa : f = a := by rw [ef, figs, if_neg q]
    rw [decide_eq_false (fun z => q ((take1 a).mp z))] at st
    have b := body _ rfl
    rw [← b]
    simp [-e_or, fn__law_number, b__law_number, e_minus, to1_S h, st, fa]
/-! fractions -/
theorem lowB_gcd {m n : Int} (hn : 0 < n) : lowB m n = decide (Int.gcd m n = 1) := by
  unfold lowB
  by_cases g : Int.gcd m n = 1
  · obtain ⟨h1, h2⟩ := can_self (p := m) (q := n) ⟨hn, g⟩
    simp [h1, h2, g]
  · rw [decide_eq_false g]
    by_cases q : rn m n = m ∧ rd m n = n
    · obtain ⟨r, _⟩ := can_red (a := m) hn
      rw [q.1, q.2] at r
      exact absurd r.2 g
    · by_cases q1 : rn m n = m
      · have q2 : rd m n ≠ n := fun z => q ⟨q1, z⟩
        simp [q2]
      · simp [q1]
theorem lfrac_while {a : List Nat} {L : List D} (m n : Int) (hn : 0 < n) : ∃ g : Int, vWhile c__law_fraction_1 b__law_fraction_1 [.sh (.str (S a)), .sh (.lst L), .sh (.int (if m < 0 then -m else m)), .sh (.int n)] = .nx [.sh (.str (S a)), .sh (.lst L), .sh (.int g), .sh (.int 0)] ∧ (g = 1 ↔ lowB m n = true) := by
  obtain ⟨g, h1, h2, h3⟩ := while_gcd c__law_fraction_1 b__law_fraction_1 (fun x y => [.sh (.str (S a)), .sh (.lst L), .sh (.int x), .sh (.int y)]) (fun x y => by simp [c__law_fraction_1]) (fun x y h => by simp [b__law_fraction_1, o_mod h]) _ (if m < 0 then -m else m) n (Nat.lt_succ_self _)
  refine ⟨g, h1, ?_⟩
  have g0 := h3 (by split <;> omega) (by omega)
  have gg : g.natAbs = Int.gcd m n := by
    rw [h2]
    by_cases q : m < 0 <;> simp [q]
  rw [lowB_gcd hn, decide_eq_true_iff]
  omega
def rfD : Option (Int × Int) → D
  | some (m, n) => .tup [.int m, .int n]
  | none => .non
theorem rdInt {a : List Nat} {n : Int} (h : Tx a) (k : rd' a = some n) : bfIntS [.str (S a)] = some (.int n) := by
  unfold rd' at k
  by_cases b : bad a = true
  · rw [if_pos b] at k; cases k
  · rw [if_neg b] at k
    by_cases q : (figs a).all fig = true
    · rw [if_pos q] at k
      refine int_S h ?_ k
      have b' : bad a = false := by simpa using b
      unfold bad at b'
      rw [Bool.or_eq_false_iff, Bool.or_eq_false_iff] at b'
      have := of_decide_eq_false b'.1.2
      unfold figs at this
      split at this
      · simp at this; omega
      · omega
    · rw [if_neg q] at k; cases k
theorem lfrac_ok {a : List Nat} (h : Tx a) : fn__law_fraction [.str (S a)] = .ok (rfD (rf a)) := by
  have sp := split_ok h
  unfold rf
  rcases cut_cases a with ⟨na, e⟩ | ⟨p, q, ea, np, e⟩
  · rw [spl_one na] at sp
    have op := mf1_of (op := opSplit) (a := vVar 0) (b := vC (.str (S [47]))) (e := [.sh (.str (S a)), .no, .no, .no]) rfl rfl sp
    have r := lnum_ok h (k := .non) (.inl rfl)
    rw [e]
    cases k : rd' a with
    | none =>
      rw [k] at r
      simp [fn__law_fraction, b__law_fraction, e_stroke, op, r, lnumD, rfD, is_n]
    | some n =>
      rw [k] at r
      have i := rdInt h k
      simp [fn__law_fraction, b__law_fraction, e_stroke, op, r, lnumD, rfD, is_i, i]
  · have hp : Tx p := ⟨by have := h.l; rw [ea] at this; simp at this; omega, fun c hc => h.c c (by rw [ea]; simp [hc])⟩
    have hq : Tx q := ⟨by have := h.l; rw [ea] at this; simp at this; omega, fun c hc => h.c c (by rw [ea]; simp [hc])⟩
    have r1 := lnum_ok hp (k := .non) (.inl rfl)
    have r2 := lnum_ok hq (k := .int 2) (.inr ⟨2, rfl⟩)
    have es : TL.spl [47] 0 [] a = p :: TL.spl [47] 0 [] q := by rw [ea, spl_two np]
    rw [es] at sp
    rw [e]
    dsimp only
    rcases cut_cases q with ⟨nq, _⟩ | ⟨p2, q2, eq2, np2, _⟩
    · rw [spl_one nq] at sp
      have op := mf1_of (op := opSplit) (a := vVar 0) (b := vC (.str (S [47]))) (e := [.sh (.str (S a)), .no, .no, .no]) rfl rfl sp
      cases k1 : rd' p with
      | none =>
        rw [k1] at r1
        simp [fn__law_fraction, b__law_fraction, e_stroke, op, r1, is_n, lnumD, rfD]
      | some m =>
        rw [k1] at r1
        have i1 := rdInt hp k1
        cases k2 : rd' q with
        | none =>
          rw [k2] at r2
          simp [fn__law_fraction, b__law_fraction, e_stroke, op, r1, r2, is_n, is_i, lnumD, rfD]
        | some n =>
          rw [k2] at r2
          have i2 := rdInt hq k2
          dsimp only
          by_cases n2 : n < 2
          · simp [fn__law_fraction, b__law_fraction, e_stroke, op, r1, r2, is_i, is_n, n2, lnumD, rfD]
          · obtain ⟨g, w, gl⟩ := lfrac_while (a := a) (L := [.str (S p), .str (S q)]) m n (by omega)
            cases wl : lowB m n with
            | true =>
              have g1 := gl.mpr wl
              subst g1
              simp [fn__law_fraction, b__law_fraction, e_stroke, op, r1, r2, is_i, is_n, n2, lnumD, rfD, i1, i2, w, wl]
            | false =>
              have g1 : ¬ g = 1 := fun z => by have := gl.mp z; rw [wl] at this; cases this
              simp [fn__law_fraction, b__law_fraction, e_stroke, op, r1, r2, is_i, is_n, n2, lnumD, rfD, i1, i2, w, wl, g1]
    · have e2 : TL.spl [47] 0 [] q = p2 :: TL.spl [47] 0 [] q2 := by rw [eq2, spl_two np2]
      have po := spl_pos 0 [] q2
      obtain ⟨L, hL⟩ : ∃ L, L = ((TL.spl [47] 0 [] q2).map S).map D.str := ⟨_, rfl⟩
      have lL : 0 < L.length := by rw [hL]; simpa using po
      rw [e2] at sp
      simp only [List.map_cons] at sp
      rw [← hL] at sp
      have op := mf1_of (op := opSplit) (a := vVar 0) (b := vC (.str (S [47]))) (e := [.sh (.str (S a)), .no, .no, .no]) rfl rfl sp
      have k2 : rd' q = none := rd_no47 (by rw [eq2]; simp)
      rw [k2]
      have n1 : (2 : Int) < (L.length : Int) + 1 + 1 := by omega
      have res : fn__law_fraction [.str (S a)] = .ok .non := by
        simp [fn__law_fraction, b__law_fraction, e_stroke, op, n1]
      rw [res]
      cases rd' p <;> rfl
/-! names -/
def laB (c : Nat) : Bool := decide (97 ≤ c) && decide (c ≤ 122)
def nmL (a : List Nat) : Bool := decide (1 ≤ a.length) && decide (a.length ≤ 8) && a.all laB
theorem e_let : Str.ofString "abcdefghijklmnopqrstuvwxyz" = S [97, 98, 99, 100, 101, 102, 103, 104, 105, 106, 107, 108, 109, 110, 111, 112, 113, 114, 115, 116, 117, 118, 119, 120, 121, 122] := S_lit _ _ (by decide +kernel)
theorem in_let (c : Nat) : opInS (.str (S [c])) (.str (S [97, 98, 99, 100, 101, 102, 103, 104, 105, 106, 107, 108, 109, 110, 111, 112, 113, 114, 115, 116, 117, 118, 119, 120, 121, 122])) = some (.bl (laB c)) := by
  show some (D.bl (!(Builtin.Str.occurrences (S [97, 98, 99, 100, 101, 102, 103, 104, 105, 106, 107, 108, 109, 110, 111, 112, 113, 114, 115, 116, 117, 118, 119, 120, 121, 122]) ⟨#[c]⟩ 0 (S [97, 98, 99, 100, 101, 102, 103, 104, 105, 106, 107, 108, 109, 110, 111, 112, 113, 114, 115, 116, 117, 118, 119, 120, 121, 122]).length 1).isEmpty)) = _
  rw [PyProof.Rows.empty_one]
  congr 2
  unfold laB
  rw [← Bool.decide_and, Bool.not_not]
  refine decide_eq_decide.mpr ⟨fun h => ?_, fun h => ?_⟩
  · simp at h
    omega
  · simp
    omega
theorem strip_sub {z w : Str} : ∀ c ∈ (Txt.stripChars z w).cps.toList, c ∈ z.cps.toList := by
  intro c hc
  unfold Txt.stripChars Txt.stripBy at hc
  split at hc
  · exact hc
  · unfold stripped at hc
    have hc : c ∈ (z.cps.extract (stripLo w.cps.contains true z) (stripHi w.cps.contains true z (stripLo w.cps.contains true z))).toList := hc
    rw [Array.toList_extract] at hc
    exact List.mem_of_mem_drop (List.mem_of_mem_take hc)
theorem strip_conv {a : List Nat} {w : Str} (n : a ≠ []) (h : Txt.stripChars (S a) w = "") : ∀ c ∈ a, w.cps.contains c = true := by
  intro c hc
  apply Classical.byContradiction
  intro hx
  have ne : S a ≠ "" := fun z => n (by rw [show ("" : Str) = S [] from e_empty] at z; exact S_inj z)
  have tl : (S a).cps.toList = a := by simp [S]
  have tw : ∀ l : List Nat, c ∈ l → (l.takeWhile w.cps.contains).length < l.length := by
    intro l
    induction l with
    | nil => intro h; cases h
    | cons d r ih =>
      intro h
      rw [List.takeWhile_cons]
      cases q : w.cps.contains d with
      | false => simp
      | true =>
        rcases List.mem_cons.mp h with rfl | h
        · exact absurd q hx
        · have := ih h
          simp
          omega
  have lo : stripLo w.cps.contains true (S a) = (a.takeWhile w.cps.contains).length := by
    unfold stripLo
    rw [if_pos rfl, tl]
  obtain ⟨k, hk⟩ : ∃ k, k = (a.takeWhile w.cps.contains).length := ⟨_, rfl⟩
  have k1 : k < a.length := by rw [hk]; exact tw a hc
  -- a sign that stops the walk from behind
  have dr : ∃ d r, a.drop k = d :: r ∧ w.cps.contains d = false := by
    have : a.drop k = a.dropWhile w.cps.contains := by
      have h1 := List.takeWhile_append_dropWhile (p := w.cps.contains) (l := a)
      conv => lhs; rw [← h1]
      rw [hk, List.drop_left]
    cases q : a.dropWhile w.cps.contains with
    | nil =>
      rw [this.symm] at q
      have := congrArg List.length q
      simp at this
      omega
    | cons d r =>
      refine ⟨d, r, this.trans q, ?_⟩
      have := List.head?_dropWhile_not w.cps.contains a
      rw [q] at this
      simpa using this
  obtain ⟨d, r, e, hd⟩ := dr
  have tr : ((a.drop k).reverse.takeWhile w.cps.contains).length ≤ r.length := by
    rw [e, List.reverse_cons, List.takeWhile_append]
    split
    · rw [List.takeWhile_cons, hd]
      simp
    · have := List.takeWhile_prefix (l := r.reverse) w.cps.contains
      have := this.length_le
      simpa using this
  have rl : r.length + 1 = a.length - k := by
    have := congrArg List.length e
    simp at this
    omega
  have hi : stripHi w.cps.contains true (S a) k = a.length - ((a.drop k).reverse.takeWhile w.cps.contains).length := by
    unfold stripHi
    rw [if_pos rfl, tl, S_len]
  unfold Txt.stripChars Txt.stripBy at h
  split at h
  · exact ne h
  · unfold stripped at h
    rw [lo, ← hk, hi] at h
    have h : (⟨(S a).cps.extract k (a.length - ((a.drop k).reverse.takeWhile w.cps.contains).length)⟩ : Str) = "" := h
    have h := congrArg (fun z : Str => z.length) h
    have l0 : ("" : Str).length = 0 := by decide +kernel
    have h : ((S a).cps.extract k (a.length - ((a.drop k).reverse.takeWhile w.cps.contains).length)).size = 0 := h.trans l0
    rw [Array.size_extract] at h
    have sz : (S a).cps.size = a.length := by simp [S]
    rw [sz] at h
    omega
theorem nm_eq {a : List Nat} : nmB (S a) = nmL a := by
  unfold nmB nmL
  rw [S_len]
  by_cases n : a = []
  · subst n
    have : S [] = "" := e_empty.symm
    simp [this]
  · have ne : S a ≠ "" := fun z => n (by rw [show ("" : Str) = S [] from e_empty] at z; exact S_inj z)
    have l0 : 1 ≤ a.length := by
      cases a with
      | nil => exact absurd rfl n
      | cons c r => simp
    rw [decide_eq_false ne, decide_eq_true l0, Bool.false_or, Bool.true_and]
    have e1 : (!decide (8 < a.length)) = decide (a.length ≤ 8) := by
      rw [← decide_not]
      exact decide_eq_decide.mpr (by omega)
    rw [e1]
    congr 1
    by_cases q : a.all laB = true
    · rw [q]
      refine decide_eq_true (strip_all (fun c hc => la_has ?_) (by rw [S_len]; omega))
      have := List.all_eq_true.mp q c (by simpa using hc)
      unfold laB at this
      simp at this
      exact this
    · rw [Bool.eq_false_iff.mpr q]
      refine decide_eq_false fun z => q (List.all_eq_true.mpr fun c hc => ?_)
      have h1 := strip_conv n z c hc
      have h2 := has_la (c := c) (by simpa using h1)
      unfold laB
      simp [h2.1, h2.2]
theorem isname_ok {a : List Nat} (h : Tx a) : fn_is_name [.str (S a)] = .ok (.bl (nmL a)) := by
  rw [isname_str h.s (by rw [S_len]; have := h.l; omega) ?_, nm_eq]
  unfold strS
  rw [← Array.all_toList]
  exact List.all_eq_true.mpr fun c hc => decide_eq_true (h.c c (by simpa using strip_sub c hc))
theorem lname_ok {a : List Nat} (h : Tx a) : fn__law_is_name [.str (S a)] = .ok (.bl (nmL a)) := by
  have l := len_S h
  have lc := vLc_map (it := vSeqI (vVar 0)) (g := gNam 1) (t := vYes) (el := el__law_is_name_1) (own := [1]) (e := [.sh (.str (S a)), .no]) (e0 := [.sh (.str (S a)), .no]) (e1 := [.sh (.str (S a)), .no]) (ds := a.map fun c => .str (S [c])) (fun d => .bl (laB (sg1 d))) (by simp [seq_S]) (by simp) (by
    intro d hd
    obtain ⟨c, _, rfl⟩ := List.mem_map.mp hd
    have n := in_let c
    have hh : sg1 (.str (S [c])) = c := rfl
    simp [el__law_is_name_1, e_let, n, hh]) (by simp) (by have := h.l; simp; omega)
  rw [List.map_map] at lc
  have an := all_map laB a
  have lc : vLc (vSeqI (vVar 0)) (gNam 1) vYes el__law_is_name_1 [1] [.sh (.str (S a)), .no] = .ok (a.map fun c => D.bl (laB c)) [.sh (.str (S a)), .no] := lc
  unfold nmL
  by_cases l1 : 1 ≤ a.length
  · by_cases l8 : a.length ≤ 8
    · have g1 : (1 : Int) ≤ (a.length : Int) := by omega
      have g8 : (a.length : Int) ≤ 8 := by omega
      simp [fn__law_is_name, b__law_is_name, l, lc, an, l1, l8, g1, g8]
    · have g1 : (1 : Int) ≤ (a.length : Int) := by omega
      have g8 : ¬ (a.length : Int) ≤ 8 := by omega
      simp [fn__law_is_name, b__law_is_name, l, lc, an, l1, l8, g1, g8]
  · have g1 : ¬ (1 : Int) ≤ (a.length : Int) := by omega
    simp [fn__law_is_name, b__law_is_name, l, lc, an, l1, g1]
/-! items -/
theorem split_at {a : List Nat} (sep : List Nat) (hs : sep ≠ []) (hl : sep.all (· < 256) = true) (h : Tx a) : opSplit (S a) (.str (S sep)) = some (((TL.spl sep 0 [] a).map S).map D.str) := by
  have l1 : (S sep).length ≠ 0 ∧ (S a).length + 2 ≤ vmax := ⟨by rw [S_len]; cases sep with
    | nil => exact absurd rfl hs
    | cons => simp, by rw [S_len, vmax_eq]; have := h.l; omega⟩
  have : opSplit (S a) (.str (S sep)) = some ((Txt.split (S a) (S sep)).map D.str) := if_pos l1
  rw [this, show Txt.split (S a) (S sep) = (TL.spl sep 0 [] a).map S from SX.split_S hs hl]
theorem e_blank : Str.ofString " " = S [32] := S_lit _ _ (by decide +kernel)
theorem e_semi : Str.ofString "; " = S [59, 32] := S_lit _ _ (by decide +kernel)
theorem e_clip : Str.ofString "clip" = S [99, 108, 105, 112] := S_lit _ _ (by decide +kernel)
theorem e_nest : Str.ofString "nest" = S [110, 101, 115, 116] := S_lit _ _ (by decide +kernel)
theorem e_gap : Str.ofString "gap" = S [103, 97, 112] := S_lit _ _ (by decide +kernel)
theorem e_mix : Str.ofString "mix" = S [109, 105, 120] := S_lit _ _ (by decide +kernel)
theorem t_clip : Tx [99, 108, 105, 112] := ⟨by simp, by simp⟩
theorem t_nest : Tx [110, 101, 115, 116] := ⟨by simp, by simp⟩
theorem t_gap : Tx [103, 97, 112] := ⟨by simp, by simp⟩
theorem t_mix : Tx [109, 105, 120] := ⟨by simp, by simp⟩
/-- a whole number not below one -/
def rk (a : List Nat) (k : Int) : Option Int := match rd' a with
  | some n => if n < k then none else some n
  | none => none
theorem rk_eq (a : List Nat) (k : Int) : lnumD (rd' a) (.int k) = (match rk a k with | some n => .int n | none => .non) := by
  unfold rk
  cases rd' a with
  | none => rfl
  | some n =>
    show (if n < k then D.non else .int n) = _
    by_cases q : n < k
    · simp [q]
    · simp [q]
theorem from_ok {a : List Nat} (h : Tx a) (k : Int) : fn_read_from [.str (S a), .int k] = match rk a k with
    | some n => .ok (.int n)
    | none => .err ⟨"NoText", none⟩ := by
  have r := read_ok h
  unfold rk
  cases q : rd' a with
  | none =>
    rw [q] at r
    simp [fn_read_from, b_read_from, r]
  | some n =>
    rw [q] at r
    dsimp only at r ⊢
    by_cases g : n < k
    · simp [fn_read_from, b_read_from, r, g]
    · simp [fn_read_from, b_read_from, r, g]
theorem rname_ok {a : List Nat} (h : Tx a) : fn_read_name [.str (S a)] = if nmL a = true then .ok (.str (S a)) else .err ⟨"NoText", none⟩ := by
  have i := isname_ok h
  cases q : nmL a with
  | true =>
    rw [q] at i
    simp [fn_read_name, b_read_name, i]
  | false =>
    rw [q] at i
    simp [fn_read_name, b_read_name, i]
/-- an item by its words -/
def riw : List (List Nat) → Option It
  | [k, n, s, p, l] => if k = [99, 108, 105, 112] ∧ nmL n = true then match rf s, rf p, rk l 1 with
      | some (a, b), some (c, d), some m => some (.oth "clip" [.str (S n), .tup [.int a, .int b], .tup [.int c, .int d]] m)
      | _, _, _ => none
    else none
  | [k, n, s, l] => if k = [110, 101, 115, 116] ∧ nmL n = true then match rk s 0, rk l 1 with
      | some u, some m => some (.oth "nest" [.str (S n), .int u] m)
      | _, _ => none
    else none
  | [k, l] => if k = [103, 97, 112] then (rk l 1).map .gap else if k = [109, 105, 120] then (rk l 1).map (.oth "mix" []) else none
  | _ => none
def ri (a : List Nat) : Option It := riw (TL.spl [32] 0 [] a)
def riD : Option It → D
  | some t => t.d
  | none => .non
theorem ritem_ws {a : List Nat} {ws : List (List Nat)} (h : Tx a) (hw : TL.spl [32] 0 [] a = ws) (tw : ∀ w ∈ ws, Tx w) : fn_read_item [.str (S a)] = match riw ws with
    | some t => .ok t.d
    | none => .err ⟨"NoText", none⟩ := by
  have isS : opIsi "str" (.str (S a)) = some (.bl true) := rfl
  have sp := split_at [32] (by simp) (by simp) h
  rw [hw] at sp
  have op := mf1_of (op := opSplit) (a := vVar 0) (b := vC (.str (S [32]))) (e := [.sh (.str (S a)), .no, .no]) rfl rfl sp
  match ws, tw with
  | [k, n, s, p, l], tw =>
    have e1 := S_eq (tw k (by simp)) t_clip
    have rs := readf_ok (tw s (by simp))
    have rn := rname_ok (tw n (by simp))
    have rp := readf_ok (tw p (by simp))
    have rl := from_ok (tw l (by simp)) 1
    simp only [riw]
    by_cases kc : k = [99, 108, 105, 112]
    · subst kc
      cases q1 : rf s with
      | none =>
        rw [q1] at rs
        simp [fn_read_item, b_read_item, isS, e_blank, op, e_clip, e1, rs]
      | some ab =>
        obtain ⟨a1, b1⟩ := ab
        rw [q1] at rs
        cases q2 : nmL n with
        | false =>
          rw [q2] at rn
          simp [fn_read_item, b_read_item, isS, e_blank, op, e_clip, e1, rs, rn]
        | true =>
          rw [q2] at rn
          cases q3 : rf p with
          | none =>
            rw [q3] at rp
            simp [fn_read_item, b_read_item, isS, e_blank, op, e_clip, e1, rs, rn, rp]
          | some cd =>
            obtain ⟨c1, d1⟩ := cd
            rw [q3] at rp
            cases q4 : rk l 1 with
            | none =>
              rw [q4] at rl
              simp [fn_read_item, b_read_item, isS, e_blank, op, e_clip, e1, rs, rn, rp, rl]
            | some m =>
              rw [q4] at rl
              simp [fn_read_item, b_read_item, isS, e_blank, op, e_clip, e1, rs, rn, rp, rl, It.d]
    · simp [fn_read_item, b_read_item, isS, e_blank, op, e_clip, e1, kc]
  | [k, n, s, l], tw =>
    have e1 := S_eq (tw k (by simp)) t_nest
    have rn := rname_ok (tw n (by simp))
    have rs := from_ok (tw s (by simp)) 0
    have rl := from_ok (tw l (by simp)) 1
    simp only [riw]
    by_cases kc : k = [110, 101, 115, 116]
    · subst kc
      cases q2 : nmL n with
      | false =>
        rw [q2] at rn
        simp [fn_read_item, b_read_item, isS, e_blank, op, e_nest, e1, rn]
      | true =>
        rw [q2] at rn
        cases q3 : rk s 0 with
        | none =>
          rw [q3] at rs
          simp [fn_read_item, b_read_item, isS, e_blank, op, e_nest, e1, rn, rs]
        | some u =>
          rw [q3] at rs
          cases q4 : rk l 1 with
          | none =>
            rw [q4] at rl
            simp [fn_read_item, b_read_item, isS, e_blank, op, e_nest, e1, rn, rs, rl]
          | some m =>
            rw [q4] at rl
            simp [fn_read_item, b_read_item, isS, e_blank, op, e_nest, e1, rn, rs, rl, It.d]
    · simp [fn_read_item, b_read_item, isS, e_blank, op, e_nest, e1, kc]
  | [k, l], tw =>
    have e1 := S_eq (tw k (by simp)) t_gap
    have e2 := S_eq (tw k (by simp)) t_mix
    have rl := from_ok (tw l (by simp)) 1
    simp only [riw]
    by_cases kg : k = [103, 97, 112]
    · subst kg
      cases q4 : rk l 1 with
      | none =>
        rw [q4] at rl
        simp [fn_read_item, b_read_item, isS, e_blank, op, e_gap, e_mix, e1, rl]
      | some m =>
        rw [q4] at rl
        simp [fn_read_item, b_read_item, isS, e_blank, op, e_gap, e_mix, e1, rl, It.d]
    · by_cases km : k = [109, 105, 120]
      · subst km
        cases q4 : rk l 1 with
        | none =>
          rw [q4] at rl
          simp [fn_read_item, b_read_item, isS, e_blank, op, e_gap, e_mix, e1, e2, rl]
        | some m =>
          rw [q4] at rl
          simp [fn_read_item, b_read_item, isS, e_blank, op, e_gap, e_mix, e1, e2, rl, It.d]
      · simp [fn_read_item, b_read_item, isS, e_blank, op, e_gap, e_mix, e1, e2, kg, km]
  | [], tw => simp [fn_read_item, b_read_item, isS, e_blank, op, riw]
  | [k], tw => simp [fn_read_item, b_read_item, isS, e_blank, op, riw]
  | [k, l, m], tw => simp [fn_read_item, b_read_item, isS, e_blank, op, riw]
  | k :: l :: m :: n :: o :: p :: r, tw =>
    obtain ⟨L, hL⟩ : ∃ L, L = (((k :: l :: m :: n :: o :: p :: r).map S).map D.str) := ⟨_, rfl⟩
    have ll : (6 : Int) ≤ (L.length : Nat) := by rw [hL]; simp; omega
    rw [← hL] at op
    have n5 : ¬ ((L.length : Nat) : Int) = 5 := by omega
    have n4 : ¬ ((L.length : Nat) : Int) = 4 := by omega
    have n2 : ¬ ((L.length : Nat) : Int) = 2 := by omega
    simp [fn_read_item, b_read_item, isS, e_blank, op, n5, n4, n2, riw]
def isNon : D → Bool
  | .non => true
  | _ => false
theorem is_non (d : D) : opIs d .non = some (.bl (isNon d)) := by cases d <;> rfl
theorem litem_lc {v0 v1 v2 : Sl} {ds : List D} (hl : ds.length ≤ 1000) : vLc (vSeqI (vVar 3)) (gNam 4) vYes el__law_item_read_1 [4] [v0, v1, v2, .sh (.tup ds), .no] = .ok (ds.map fun d => .bl (isNon d)) [v0, v1, v2, .sh (.tup ds), .no] :=
  vLc_map (it := vSeqI (vVar 3)) (g := gNam 4) (t := vYes) (el := el__law_item_read_1) (own := [4]) (e := [v0, v1, v2, .sh (.tup ds), .no]) (e0 := [v0, v1, v2, .sh (.tup ds), .no]) (e1 := [v0, v1, v2, .sh (.tup ds), .no]) (ds := ds) (fun d => .bl (isNon d)) (by simp) (by simp) (by
    intro d hd
    simp [el__law_item_read_1, is_non d]) (by simp) (by omega)
theorem non_i {n : Int} : isNon (.int n) = false := rfl
theorem non_s {z : Str} : isNon (.str z) = false := rfl
theorem non_t {z : List D} : isNon (.tup z) = false := rfl
theorem non_n : isNon .non = true := rfl
theorem in_two {k : List Nat} (h : Tx k) : opIn (.str (S k)) (.lst [.str (S [103, 97, 112]), .str (S [109, 105, 120])]) = some (.bl (decide (k = [103, 97, 112] ∨ k = [109, 105, 120]))) := by
  show (if (D.str (S k)).atom && [D.str (S [103, 97, 112]), .str (S [109, 105, 120])].all D.atom then some (D.bl ([D.str (S [103, 97, 112]), .str (S [109, 105, 120])].any fun y => D.deq y (.str (S k)))) else none) = _
  have a1 : (D.str (S k)).atom = true := rfl
  have a2 : (D.str (S [103, 97, 112])).atom = true := rfl
  have a3 : (D.str (S [109, 105, 120])).atom = true := rfl
  have i1 : decide (S [103, 97, 112] = S k) = decide (k = [103, 97, 112]) := decide_eq_decide.mpr ⟨fun z => (S_inj z).symm, fun z => by rw [z]⟩
  have i2 : decide (S [109, 105, 120] = S k) = decide (k = [109, 105, 120]) := decide_eq_decide.mpr ⟨fun z => (S_inj z).symm, fun z => by rw [z]⟩
  rw [if_pos (by simp [a1, a2, a3])]
  simp [i1, i2, Bool.decide_or, eq_comm (a := k)]
theorem litem_ws {a : List Nat} {ws : List (List Nat)} (h : Tx a) (hw : TL.spl [32] 0 [] a = ws) (tw : ∀ w ∈ ws, Tx w) (hn : ws ≠ []) : fn__law_item_read [.str (S a)] = .ok (riD (riw ws)) := by
  have sp := split_at [32] (by simp) (by simp) h
  rw [hw] at sp
  have op := mf1_of (op := opSplit) (a := vVar 0) (b := vC (.str (S [32]))) (e := [.sh (.str (S a)), .no, .no, .no, .no]) rfl rfl sp
  match ws, tw, hn with
  | [k, n, s, p, l], tw, _ =>
    have e1 := S_eq (tw k (by simp)) t_clip
    have rs := lfrac_ok (tw s (by simp))
    have rn := lname_ok (tw n (by simp))
    have rp := lfrac_ok (tw p (by simp))
    have rl := lnum_ok (tw l (by simp)) (k := .int 1) (.inr ⟨1, rfl⟩)
    rw [rk_eq] at rl
    simp only [riw]
    by_cases kc : k = [99, 108, 105, 112]
    · subst kc
      cases q2 : nmL n with
      | false =>
        rw [q2] at rn
        simp [fn__law_item_read, b__law_item_read, e_blank, op, e_clip, e1, rn, is_non, riD, non_n]
      | true =>
        rw [q2] at rn
        have an := any_map isNon [.str (S [99, 108, 105, 112]), .str (S n), rfD (rf s), rfD (rf p), (match rk l 1 with | some n => D.int n | none => D.non)]
        have lc := litem_lc (v0 := .sh (.str (S a))) (v1 := .sh (.lst [.str (S [99, 108, 105, 112]), .str (S n), .str (S s), .str (S p), .str (S l)])) (v2 := .sh (.str (S [99, 108, 105, 112]))) (ds := [.str (S [99, 108, 105, 112]), .str (S n), rfD (rf s), rfD (rf p), (match rk l 1 with | some n => D.int n | none => D.non)]) (by simp)
        generalize hf1 : rfD (rf s) = f1 at *
        generalize hf2 : rfD (rf p) = f2 at *
        generalize hf3 : (match rk l 1 with | some n => D.int n | none => D.non) = f3 at *
        have r : fn__law_item_read [.str (S a)] = .ok (if ([D.str (S [99, 108, 105, 112]), .str (S n), f1, f2, f3].any isNon) = true then .non else .tup [D.str (S [99, 108, 105, 112]), .str (S n), f1, f2, f3]) := by
          cases q : [D.str (S [99, 108, 105, 112]), .str (S n), f1, f2, f3].any isNon with
          | false =>
            rw [q] at an
            simp only [List.map_cons, List.map_nil] at an
            simp [fn__law_item_read, b__law_item_read, e_blank, op, e_clip, e1, rs, rn, rp, rl, is_non, non_t, lc, an, o_addT]
          | true =>
            rw [q] at an
            simp only [List.map_cons, List.map_nil] at an
            simp [fn__law_item_read, b__law_item_read, e_blank, op, e_clip, e1, rs, rn, rp, rl, is_non, non_t, lc, an, o_addT]
        rw [r]
        subst hf1 hf2 hf3
        cases rf s with
        | none => simp [rfD, non_n, riD]
        | some ab =>
          cases rf p with
          | none => simp [rfD, non_n, riD]
          | some cd =>
            cases rk l 1 with
            | none => simp [rfD, non_n, riD]
            | some m => simp [rfD, non_s, non_t, non_i, riD, It.d, e_clip]
    · simp [fn__law_item_read, b__law_item_read, e_blank, op, e_clip, e1, kc, is_non, riD, non_n]
  | [k, n, s, l], tw, _ =>
    have e1 := S_eq (tw k (by simp)) t_nest
    have rn := lname_ok (tw n (by simp))
    have rs := lnum_ok (tw s (by simp)) (k := .int 0) (.inr ⟨0, rfl⟩)
    have rl := lnum_ok (tw l (by simp)) (k := .int 1) (.inr ⟨1, rfl⟩)
    rw [rk_eq] at rl rs
    simp only [riw]
    by_cases kc : k = [110, 101, 115, 116]
    · subst kc
      cases q2 : nmL n with
      | false =>
        rw [q2] at rn
        simp [fn__law_item_read, b__law_item_read, e_blank, op, e_nest, e1, rn, is_non, riD, non_n]
      | true =>
        rw [q2] at rn
        have an := any_map isNon [.str (S [110, 101, 115, 116]), .str (S n), (match rk s 0 with | some n => D.int n | none => D.non), (match rk l 1 with | some n => D.int n | none => D.non)]
        have lc := litem_lc (v0 := .sh (.str (S a))) (v1 := .sh (.lst [.str (S [110, 101, 115, 116]), .str (S n), .str (S s), .str (S l)])) (v2 := .sh (.str (S [110, 101, 115, 116]))) (ds := [.str (S [110, 101, 115, 116]), .str (S n), (match rk s 0 with | some n => D.int n | none => D.non), (match rk l 1 with | some n => D.int n | none => D.non)]) (by simp)
        generalize hf1 : (match rk s 0 with | some n => D.int n | none => D.non) = f1 at *
        generalize hf3 : (match rk l 1 with | some n => D.int n | none => D.non) = f3 at *
        have r : fn__law_item_read [.str (S a)] = .ok (if ([D.str (S [110, 101, 115, 116]), .str (S n), f1, f3].any isNon) = true then .non else .tup [D.str (S [110, 101, 115, 116]), .str (S n), f1, f3]) := by
          cases q : [D.str (S [110, 101, 115, 116]), .str (S n), f1, f3].any isNon with
          | false =>
            rw [q] at an
            simp only [List.map_cons, List.map_nil] at an
            simp [fn__law_item_read, b__law_item_read, e_blank, op, e_nest, e1, rs, rn, rl, is_non, non_t, lc, an, o_addT]
          | true =>
            rw [q] at an
            simp only [List.map_cons, List.map_nil] at an
            simp [fn__law_item_read, b__law_item_read, e_blank, op, e_nest, e1, rs, rn, rl, is_non, non_t, lc, an, o_addT]
        rw [r]
        subst hf1 hf3
        cases rk s 0 with
        | none => simp [non_n, riD]
        | some u =>
          cases rk l 1 with
          | none => simp [non_n, riD]
          | some m => simp [non_s, non_t, non_i, riD, It.d, e_nest]
    · simp [fn__law_item_read, b__law_item_read, e_blank, op, e_nest, e1, kc, is_non, riD, non_n]
  | [k, l], tw, _ =>
    have rl := lnum_ok (tw l (by simp)) (k := .int 1) (.inr ⟨1, rfl⟩)
    rw [rk_eq] at rl
    have inn := in_two (tw k (by simp))
    simp only [riw]
    by_cases kgm : k = [103, 97, 112] ∨ k = [109, 105, 120]
    · rw [decide_eq_true kgm] at inn
      have an := any_map isNon [.str (S k), (match rk l 1 with | some n => D.int n | none => D.non)]
      have lc := litem_lc (v0 := .sh (.str (S a))) (v1 := .sh (.lst [.str (S k), .str (S l)])) (v2 := .sh (.str (S k))) (ds := [.str (S k), (match rk l 1 with | some n => D.int n | none => D.non)]) (by simp)
      generalize hf3 : (match rk l 1 with | some n => D.int n | none => D.non) = f3 at *
      have r : fn__law_item_read [.str (S a)] = .ok (if ([D.str (S k), f3].any isNon) = true then .non else .tup [D.str (S k), f3]) := by
        cases q : [D.str (S k), f3].any isNon with
        | false =>
          rw [q] at an
          simp only [List.map_cons, List.map_nil] at an
          simp [fn__law_item_read, b__law_item_read, e_blank, op, e_gap, e_mix, inn, rl, is_non, non_t, lc, an]
        | true =>
          rw [q] at an
          simp only [List.map_cons, List.map_nil] at an
          simp [fn__law_item_read, b__law_item_read, e_blank, op, e_gap, e_mix, inn, rl, is_non, non_t, lc, an]
      rw [r]
      subst hf3
      rcases kgm with rfl | rfl
      · cases rk l 1 with
        | none => simp [non_n, riD]
        | some m => simp [non_s, non_t, non_i, riD, It.d, e_gap]
      · cases rk l 1 with
        | none => simp [non_n, riD]
        | some m => simp [non_s, non_t, non_i, riD, It.d, e_mix]
    · rw [decide_eq_false kgm] at inn
      have k1 : ¬ k = [103, 97, 112] := fun z => kgm (.inl z)
      have k2 : ¬ k = [109, 105, 120] := fun z => kgm (.inr z)
      simp [fn__law_item_read, b__law_item_read, e_blank, op, e_gap, e_mix, inn, is_non, riD, non_n, k1, k2]
  | [k], tw, _ => simp [fn__law_item_read, b__law_item_read, e_blank, op, is_non, riD, riw, non_n]
  | [k, l, m], tw, _ => simp [fn__law_item_read, b__law_item_read, e_blank, op, is_non, riD, riw, non_n]
  | k :: l :: m :: n :: o :: p :: r, tw, _ =>
    obtain ⟨L, hL⟩ : ∃ L, L = (((l :: m :: n :: o :: p :: r).map S).map D.str) := ⟨_, rfl⟩
    have ll : (5 : Int) ≤ (L.length : Nat) := by rw [hL]; simp; omega
    rw [List.map_cons, List.map_cons, ← hL] at op
    have n5 : ¬ ((L.length : Nat) : Int) + 1 = 5 := by omega
    have n4 : ¬ ((L.length : Nat) : Int) + 1 = 4 := by omega
    have n2 : ¬ ((L.length : Nat) : Int) + 1 = 2 := by omega
    simp [fn__law_item_read, b__law_item_read, e_blank, op, n5, n4, n2, is_non, riD, riw, non_n]

/-! k85: tracks read -/
def It.kd : It → Str
  | .gap _ => "gap"
  | .oth s _ _ => s
/-- read from a text -/
def It.Rd (t : It) : Prop := t.Ok ∧ (match t with | .gap n => 1 ≤ n | .oth s _ _ => s = "clip" ∨ s = "nest" ∨ s = "mix")
theorem It.ix0 (t : It) : opIx t.d (.int 0) = some (.str t.kd) := by
  cases t with
  | gap n => simp [It.d, It.kd]
  | oth s m n => simp only [It.d, It.kd]; rw [ix_tup, at_0]
theorem s_clip : strS "clip" = true := by decide +kernel
theorem s_nest : strS "nest" = true := by decide +kernel
theorem s_mix : strS "mix" = true := by decide +kernel
theorem s_begin : strS "begin" = true := by decide +kernel
theorem s_end : strS "end" = true := by decide +kernel
theorem It.Rd.ks {t : It} (h : t.Rd) : strS t.kd = true := by
  cases t with
  | gap n => exact sGap
  | oth s m n =>
    rcases h.2 with rfl | rfl | rfl
    · exact s_clip
    · exact s_nest
    · exact s_mix
theorem ne_cg : ("clip" : Str) ≠ "gap" ∧ ("nest" : Str) ≠ "gap" ∧ ("mix" : Str) ≠ "gap" := by decide +kernel
theorem rk_ge {a : List Nat} {k n : Int} (h : rk a k = some n) : k ≤ n := by
  unfold rk at h
  cases q : rd' a with
  | none => rw [q] at h; cases h
  | some m =>
    rw [q] at h
    dsimp only at h
    by_cases g : m < k
    · rw [if_pos g] at h; cases h
    · rw [if_neg g] at h
      cases h
      omega
theorem riw_rd {ws : List (List Nat)} {t : It} (tw : ∀ w ∈ ws, Tx w) (h : riw ws = some t) : t.Rd := by
  match ws, tw with
  | [k, n, s, p, l], tw =>
    simp only [riw] at h
    split at h
    · split at h
      · rename_i q
        cases h
        have := rk_ge q
        have sn := (tw n (by simp)).s
        exact ⟨⟨ne_cg.1, by simp [It.d, s_clip, sn], by simp [It.d], by omega⟩, .inl rfl⟩
      · cases h
    · cases h
  | [k, n, s, l], tw =>
    simp only [riw] at h
    split at h
    · split at h
      · rename_i q
        cases h
        have := rk_ge q
        have sn := (tw n (by simp)).s
        exact ⟨⟨ne_cg.2.1, by simp [It.d, s_nest, sn], by simp [It.d], by omega⟩, .inr (.inl rfl)⟩
      · cases h
    · cases h
  | [k, l], tw =>
    simp only [riw] at h
    split at h
    · obtain ⟨m, q, rfl⟩ := Option.map_eq_some_iff.mp h
      have := rk_ge q
      exact ⟨by simp only [It.Ok]; omega, this⟩
    · split at h
      · obtain ⟨m, q, rfl⟩ := Option.map_eq_some_iff.mp h
        have := rk_ge q
        exact ⟨⟨ne_cg.2.2, by simp [It.d, s_mix], by simp [It.d], by omega⟩, .inr (.inr rfl)⟩
      · cases h
  | [], tw => cases h
  | [k], tw => cases h
  | [k, l, m], tw => cases h
  | k :: l :: m :: n :: o :: p :: r, tw => cases h
/-! pieces -/
theorem spl_sub {sep : List Nat} : ∀ (l : List Nat) (k : Nat) (acc : List Nat), ∀ w ∈ TL.spl sep k acc l, ∀ c ∈ w, c ∈ acc ∨ c ∈ l
  | [], k, acc => by
    rw [TL.spl_nil]
    intro w hw c hc
    rw [List.mem_singleton.mp hw] at hc
    exact .inl hc
  | d :: r, 0, acc => by
    show ∀ w ∈ (if TL.pre sep (d :: r) = true then acc :: TL.spl sep (sep.length - 1) [] r else TL.spl sep 0 (acc ++ [d]) r), _
    intro w hw c hc
    split at hw
    · rcases List.mem_cons.mp hw with rfl | hw
      · exact .inl hc
      · rcases spl_sub r _ _ w hw c hc with z | z
        · cases z
        · exact .inr (List.mem_cons_of_mem _ z)
    · rcases spl_sub r _ _ w hw c hc with z | z
      · rcases List.mem_append.mp z with z | z
        · exact .inl z
        · exact .inr (by rw [List.mem_singleton.mp z]; exact List.mem_cons_self)
      · exact .inr (List.mem_cons_of_mem _ z)
  | d :: r, k + 1, acc => fun w hw c hc => by
    rcases spl_sub r k acc w hw c hc with z | z
    · exact .inl z
    · exact .inr (List.mem_cons_of_mem _ z)
def sumL (ws : List (List Nat)) : Nat := (ws.map List.length).sum
theorem spl_sum {sep : List Nat} : ∀ (l : List Nat) (k : Nat) (acc : List Nat), sumL (TL.spl sep k acc l) ≤ acc.length + l.length ∧ (TL.spl sep k acc l).length ≤ l.length + 1
  | [], k, acc => by
    rw [TL.spl_nil]
    simp [sumL]
  | d :: r, 0, acc => by
    show sumL (if TL.pre sep (d :: r) = true then acc :: TL.spl sep (sep.length - 1) [] r else TL.spl sep 0 (acc ++ [d]) r) ≤ _ ∧ (if TL.pre sep (d :: r) = true then acc :: TL.spl sep (sep.length - 1) [] r else TL.spl sep 0 (acc ++ [d]) r).length ≤ _
    split
    · have ih := spl_sum (sep := sep) r (sep.length - 1) []
      simp [sumL] at ih ⊢
      omega
    · have ih := spl_sum (sep := sep) r 0 (acc ++ [d])
      simp [sumL] at ih ⊢
      omega
  | d :: r, k + 1, acc => by
    have ih := spl_sum (sep := sep) r k acc
    show sumL (TL.spl sep k acc r) ≤ _ ∧ (TL.spl sep k acc r).length ≤ _
    simp
    omega
theorem mem_sum {w : List Nat} : ∀ {ws : List (List Nat)}, w ∈ ws → w.length ≤ sumL ws
  | [], h => nomatch h
  | v :: ws, h => by
    rcases List.mem_cons.mp h with rfl | h
    · simp [sumL]
    · have := mem_sum h
      simp [sumL] at this ⊢
      omega
theorem spl_tx {sep a : List Nat} (h : Tx a) : ∀ w ∈ TL.spl sep 0 [] a, Tx w := fun w hw => ⟨by
  have h1 := (spl_sum (sep := sep) a 0 []).1
  have h2 := mem_sum hw
  have h3 := h.l
  simp at h1
  omega, fun c hc => by
  rcases spl_sub a 0 [] w hw c hc with z | z
  · cases z
  · exact h.c c z⟩
theorem spl_ne {sep : List Nat} : ∀ (l : List Nat) (k : Nat) (acc : List Nat), TL.spl sep k acc l ≠ []
  | [], k, acc => by rw [TL.spl_nil]; simp
  | d :: r, 0, acc => by
    show (if TL.pre sep (d :: r) = true then acc :: TL.spl sep (sep.length - 1) [] r else TL.spl sep 0 (acc ++ [d]) r) ≠ []
    split
    · simp
    · exact spl_ne r _ _
  | d :: r, k + 1, acc => spl_ne r k acc
theorem ritem_ok {a : List Nat} (h : Tx a) : fn_read_item [.str (S a)] = match ri a with
    | some t => .ok t.d
    | none => .err ⟨"NoText", none⟩ := ritem_ws h rfl (spl_tx h)
theorem litem_ok {a : List Nat} (h : Tx a) : fn__law_item_read [.str (S a)] = .ok (riD (ri a)) := litem_ws h rfl (spl_tx h) (spl_ne _ _ _)
theorem ri_rd {a : List Nat} {t : It} (h : Tx a) (e : ri a = some t) : t.Rd := riw_rd (spl_tx h) e

/-! k85: tracks, all of them -/
def mapO (f : List Nat → Option It) : List (List Nat) → Option (List It)
  | [] => some []
  | w :: ws => match f w with
    | none => none
    | some t => (mapO f ws).map (t :: ·)
theorem It.nn (t : It) : isNon t.d = false := by cases t <;> rfl
theorem mapO_some {f : List Nat → Option It} : ∀ {ws : List (List Nat)} {ts : List It}, mapO f ws = some ts → ws.map (fun w => riD (f w)) = ts.map It.d ∧ (ws.any fun w => isNon (riD (f w))) = false
  | [], ts, h => by
    cases h
    simp
  | w :: ws, ts, h => by
    unfold mapO at h
    cases q : f w with
    | none => rw [q] at h; cases h
    | some t =>
      rw [q] at h
      obtain ⟨us, e, rfl⟩ := Option.map_eq_some_iff.mp h
      obtain ⟨h1, h2⟩ := mapO_some e
      simp only [List.map_cons, List.any_cons, q, h1, h2]
      exact ⟨rfl, by rw [show riD (some t) = t.d from rfl, It.nn]; rfl⟩
theorem mapO_none {f : List Nat → Option It} : ∀ {ws : List (List Nat)}, mapO f ws = none → (ws.any fun w => isNon (riD (f w))) = true
  | [], h => by cases h
  | w :: ws, h => by
    unfold mapO at h
    cases q : f w with
    | none => simp [q, riD, isNon]
    | some t =>
      rw [q] at h
      have h : (mapO f ws).map (t :: ·) = none := h
      rw [List.any_cons, mapO_none (Option.map_eq_none_iff.mp h), Bool.or_true]
theorem mapO_rd {ws : List (List Nat)} {ts : List It} (tw : ∀ w ∈ ws, Tx w) (h : mapO ri ws = some ts) : (∀ t ∈ ts, t.Rd) ∧ ts.length = ws.length := by
  induction ws generalizing ts with
  | nil => cases h; simp
  | cons w ws ih =>
    unfold mapO at h
    cases q : ri w with
    | none => rw [q] at h; cases h
    | some t =>
      rw [q] at h
      obtain ⟨us, e, rfl⟩ := Option.map_eq_some_iff.mp h
      obtain ⟨h1, h2⟩ := ih (fun w hw => tw w (by simp [hw])) e
      refine ⟨fun u hu => ?_, by simp [h2]⟩
      rcases List.mem_cons.mp hu with rfl | hu
      · exact ri_rd (tw w (by simp)) q
      · exact h1 u hu
theorem lcLX_items {v0 v1 : Sl} : ∀ (ws : List (List Nat)) (acc : List D), (∀ w ∈ ws, Tx w) → acc.length + ws.length ≤ 1000000 → lcLX (gNam 2) vYes el_read_track_1 [2] (ws.map fun w => .str (S w)) acc [v0, v1, .no] = match mapO ri ws with
    | some ts => .ok (acc ++ ts.map It.d) [v0, v1, .no]
    | none => .err ⟨"NoText", none⟩ [v0, v1, .no]
  | [], acc, _, _ => by
    simp [lcLX, mapO]
  | w :: ws, acc, tw, hl => by
    have r := ritem_ok (tw w (by simp))
    rw [List.map_cons]
    unfold lcLX mapO
    cases q : ri w with
    | none =>
      rw [q] at r
      simp [el_read_track_1, r, Res.bindN]
    | some t =>
      rw [q] at r
      have er : el_read_track_1 [v0, v1, .sh (.str (S w))] = .ok t.d [v0, v1, .sh (.str (S w))] := by simp [el_read_track_1, r]
      have ih := lcLX_items (v0 := v0) (v1 := v1) ws (acc ++ [t.d]) (fun w hw => tw w (by simp [hw])) (by simp at hl ⊢; omega)
      have la : acc.length < vmax := by rw [vmax_eq]; simp at hl; omega
      simp [er, Res.bindN, la, ih]
      cases mapO ri ws <;> simp
def okL : Str → List Str → Bool
  | _, [] => true
  | p, w :: r => !(decide (p = "gap") && (decide (w = "gap") || decide (w = "end"))) && !(decide (w = "mix") && (!decide (p = "clip") || !decide (r.head? = some ("clip" : Str)))) && okL w r
theorem o_eqs {z w : Str} (h1 : strS z = true) (h2 : strS w = true) : opEq (.str z) (.str w) = some (.bl (decide (z = w))) := by rw [o_eq (by simp [h1]) (by simp [h2]), deq_str]
theorem o_nes {z w : Str} (h1 : strS z = true) (h2 : strS w = true) : opNe (.str z) (.str w) = some (.bl (!decide (z = w))) := by rw [o_ne (by simp [h1]) (by simp [h2]), deq_str]
theorem in_ge {w : Str} : opIn (.str w) (.lst [.str "gap", .str "end"]) = some (.bl (decide (w = "gap") || decide (w = "end"))) := by
  show (if (D.str w).atom && [D.str "gap", .str "end"].all D.atom then some (D.bl ([D.str "gap", .str "end"].any fun y => D.deq y (.str w))) else none) = _
  have a1 : (D.str w).atom = true := rfl
  have a2 : (D.str "gap").atom = true := rfl
  have a3 : (D.str "end").atom = true := rfl
  rw [if_pos (by simp [a1, a2, a3])]
  simp [eq_comm (a := w)]
theorem form_loop1 {X : Sl} {K : List Str} (hs : ∀ x ∈ K, strS x = true) : ∀ (rest pre : List Str) (p : Str) (v : Sl), K = pre ++ p :: rest → (∀ w, rest.getLast? = some w → w ≠ "mix") →
    ∃ v', forL (gNam 2) b__law_one_form_2 ((List.range rest.length).map fun i => D.int ((pre.length + 1 + i : Nat) : Int)) [X, .sh (.lst (K.map D.str)), v, .no] = if okL p rest = true then .nx [X, .sh (.lst (K.map D.str)), v', .no] else .rt (.bl false) [X, .sh (.lst (K.map D.str)), v', .no]
  | [], pre, p, v, _, _ => ⟨v, by simp [okL, forL_0]⟩
  | w :: r, pre, p, v, hK, hl => by
    have hK2 : K = (pre ++ [p]) ++ w :: r := by rw [hK]; simp
    obtain ⟨J, hJ⟩ : ∃ J : Int, J = ((pre.length + 1 : Nat) : Int) := ⟨_, rfl⟩
    obtain ⟨v', ih⟩ := form_loop1 (X := X) hs r (pre ++ [p]) w (.sh (.int J)) hK2 (fun x hx => by
      cases r with
      | nil => cases hx
      | cons y r => exact hl x (by simpa using hx))
    have i0 : atD (K.map D.str) (J - 1) = some (.str p) := at_of (n := pre.length) (by omega) (by rw [hK]; simp)
    have i1 : atD (K.map D.str) J = some (.str w) := at_of (n := pre.length + 1) (by omega) (by rw [hK2]; simp)
    have sp := hs p (by rw [hK]; simp)
    have sw := hs w (by rw [hK2]; simp)
    have e1 := o_eqs sp sGap
    have e2 := in_ge (w := w)
    have e3 := o_eqs sw s_mix
    have e4 := o_nes sp s_clip
    have ds : ((List.range (w :: r).length).map fun i => D.int ((pre.length + 1 + i : Nat) : Int)) = D.int J :: (List.range r.length).map fun i => D.int (((pre ++ [p]).length + 1 + i : Nat) : Int) := by
      rw [hJ, List.length_cons, List.range_succ_eq_map, List.map_cons, List.map_map]
      congr 1
      refine List.map_congr_left fun i _ => ?_
      simp
      omega
    rw [ds]
    unfold okL
    cases g1 : decide (p = "gap") && (decide (w = "gap") || decide (w = "end")) with
    | true =>
      rw [Bool.and_eq_true] at g1
      refine ⟨.sh (.int J), ?_⟩
      rw [g1.1] at e1
      rw [g1.2] at e2
      rw [forL_f]
      simp [b__law_one_form_2, i0, i1, e1, e2, fturn1, flp1, flp2, flp3]
    | false =>
      have c1 : vAnd (vTest (vOp opEq (vOp opIx (vVar 1) (vOp opSub (vVar 2) (vC (.int 1)))) (vC (.str "gap")))) (vTest (vOp opIn (vOp opIx (vVar 1) (vVar 2)) (vOf (vLstD (vCons (vC (.str "gap")) (vCons (vC (.str "end")) vNil)))))) [X, .sh (.lst (K.map D.str)), .sh (.int J), .no] = .ok false [X, .sh (.lst (K.map D.str)), .sh (.int J), .no] := by
        cases h1 : decide (p = "gap") with
        | false =>
          rw [h1] at e1
          simp [i0, e1]
        | true =>
          rw [h1] at e1 g1
          rw [Bool.true_and] at g1
          rw [g1] at e2
          simp [i0, i1, e1, e2]
      have c2 : vAnd (vTest (vOp opEq (vOp opIx (vVar 1) (vVar 2)) (vC (.str "mix")))) (vOr (vTest (vOp opNe (vOp opIx (vVar 1) (vOp opSub (vVar 2) (vC (.int 1)))) (vC (.str "clip")))) (vTest (vOp opNe (vOp opIx (vVar 1) (vOp opAdd (vVar 2) (vC (.int 1)))) (vC (.str "clip"))))) [X, .sh (.lst (K.map D.str)), .sh (.int J), .no] = .ok (decide (w = "mix") && (!decide (p = "clip") || !decide (r.head? = some ("clip" : Str)))) [X, .sh (.lst (K.map D.str)), .sh (.int J), .no] := by
        cases m1 : decide (w = "mix") with
        | false =>
          rw [m1] at e3
          simp [i1, e3]
        | true =>
          rw [m1] at e3
          cases q1 : decide (p = "clip") with
          | false =>
            rw [q1] at e4
            simp [i0, i1, e3, e4]
          | true =>
            rw [q1] at e4
            cases r with
            | nil => exact absurd (of_decide_eq_true m1) (hl w rfl)
            | cons n r =>
              have i2 : atD (K.map D.str) (J + 1) = some (.str n) := at_of (n := pre.length + 2) (by omega) (by rw [hK2]; simp)
              have e5 := o_nes (hs n (by rw [hK2]; simp)) s_clip
              simp [i0, i1, i2, e3, e4, e5]
      rw [forL_f]
      cases m2 : decide (w = "mix") && (!decide (p = "clip") || !decide (r.head? = some ("clip" : Str))) with
      | false =>
        rw [m2] at c2
        refine ⟨v', ?_⟩
        simp only [Bool.not_false, Bool.true_and]
        rw [← ih]
        simp [-e_and, -e_or, b__law_one_form_2, c1, c2, fturn1, flp1, flp2, flp3]
      | true =>
        rw [m2] at c2
        refine ⟨.sh (.int J), ?_⟩
        simp [-e_and, -e_or, b__law_one_form_2, c1, c2, fturn1, flp1, flp2, flp3]
theorem lform_ok {ts : List It} (h : ∀ t ∈ ts, t.Rd) (hl : ts.length ≤ 400000) : fn__law_one_form [.lst (ts.map It.d)] = .ok (.bl (okL "begin" (ts.map It.kd ++ [("end" : Str)]))) := by
  have lc := vLc_map (it := vSeqI (vVar 0)) (g := gNam 3) (t := vYes) (el := el__law_one_form_1) (own := [3]) (e := [.sh (.lst (ts.map It.d)), .no, .no, .no]) (e0 := [.sh (.lst (ts.map It.d)), .no, .no, .no]) (e1 := [.sh (.lst (ts.map It.d)), .no, .no, .no]) (ds := ts.map It.d) (fun d => match opIx d (.int 0) with | some x => x | none => .non) (by simp) (by simp) (by
    intro d hd
    obtain ⟨t, _, rfl⟩ := List.mem_map.mp hd
    have i0 := t.ix0
    simp [el__law_one_form_1, i0]) (by simp) (by simp; omega)
  rw [List.map_map] at lc
  have em : ts.map ((fun d => match opIx d (.int 0) with | some x => x | none => D.non) ∘ It.d) = (ts.map It.kd).map D.str := by
    rw [List.map_map]
    refine List.map_congr_left fun t _ => ?_
    have i0 := t.ix0
    simp [i0]
  rw [em] at lc
  obtain ⟨K, hK⟩ : ∃ K, K = ("begin" : Str) :: (ts.map It.kd ++ [("end" : Str)]) := ⟨_, rfl⟩
  have hs : ∀ x ∈ K, strS x = true := fun x hx => by
    rw [hK] at hx
    simp only [List.mem_cons, List.mem_append, List.not_mem_nil, or_false] at hx
    rcases hx with rfl | hx | rfl
    · exact s_begin
    · obtain ⟨t, ht, rfl⟩ := List.mem_map.mp hx
      exact (h t ht).ks
    · exact s_end
  obtain ⟨v', lp⟩ := form_loop1 (X := .sh (.lst (ts.map It.d))) hs (ts.map It.kd ++ [("end" : Str)]) [] "begin" .no hK (fun w hw => by
    rw [List.getLast?_append] at hw
    simp at hw
    rw [← hw]
    decide +kernel)
  have lK : K.length = ts.length + 2 := by rw [hK]; simp
  have cat1 := o_catL (xs := [D.str "begin"]) (ys := (ts.map It.kd).map D.str) (by simp; omega)
  have cat2 := o_catL (xs := [D.str "begin"] ++ (ts.map It.kd).map D.str) (ys := [D.str "end"]) (by simp; omega)
  have eK : [D.str "begin"] ++ (ts.map It.kd).map D.str ++ [D.str "end"] = K.map D.str := by rw [hK]; simp
  rw [eK] at cat2
  generalize hk1 : (ts.map It.kd).map D.str = KS at *
  have r := rng2_of (m := vCons (vC (.int 1)) (vCons (vBf bfLen (vCons (vVar 1) vNil)) vNil)) (e := [.sh (.lst (ts.map It.d)), .sh (.lst (K.map D.str)), .no, .no]) (e1 := [.sh (.lst (ts.map It.d)), .sh (.lst (K.map D.str)), .no, .no]) (i := 1) (j := K.length) (by simp) (by omega)
  have dsr : ((List.range ((K.length : Int) - 1).toNat).map fun (n : Nat) => D.int (1 + (n : Int))) = (List.range (ts.map It.kd ++ [("end" : Str)]).length).map fun i => D.int ((([] : List Str).length + 1 + i : Nat) : Int) := by
    rw [lK]
    have : (((ts.length + 2 : Nat) : Int) - 1).toNat = (ts.map It.kd ++ [("end" : Str)]).length := by simp; omega
    rw [this]
    refine List.map_congr_left fun i _ => ?_
    simp
  rw [dsr] at r
  simp only [List.cons_append, List.nil_append] at cat1 cat2
  generalize ((List.range (ts.map It.kd ++ [("end" : Str)]).length).map fun i => D.int ((([] : List Str).length + 1 + i : Nat) : Int)) = DS at *
  generalize K.map D.str = KD at *
  cases q : okL "begin" (ts.map It.kd ++ [("end" : Str)]) with
  | true =>
    rw [q, if_pos rfl] at lp
    simp [fn__law_one_form, b__law_one_form, lc, cat1, cat2, r, lp]
  | false =>
    rw [q, if_neg (by simp)] at lp
    simp [fn__law_one_form, b__law_one_form, lc, cat1, cat2, r, lp]
/-! the mixes -/
def mxL : Str → List Str → Bool
  | _, [] => true
  | p, w :: r => !(decide (w = "mix") && (!decide (p = "clip") || !decide (r.head? = some ("clip" : Str)))) && mxL w r
theorem max0 {i : Nat} : (if ((i : Nat) : Int) - 1 > 0 then ((i : Nat) : Int) - 1 else 0) = ((i - 1 : Nat) : Int) := by
  split <;> omega
theorem beside_lc {v0 v1 v2 v3 : Sl} {us : List It} {T : List D} {a b : MO} (hl : us.length ≤ 1000) (hs : vSl (vVar 0) a b [v0, v1, v2, v3, .no] = .ok (.lst (us.map It.d)) [v0, v1, v2, v3, .no]) : vLc (vSeqI (vSl (vVar 0) a b)) (gNam 4) vYes el_mixes_stand_2 [4] [v0, v1, v2, v3, .no] = .ok ((us.map It.kd).map D.str) [v0, v1, v2, v3, .no] := by
  have lc := vLc_map (it := vSeqI (vSl (vVar 0) a b)) (g := gNam 4) (t := vYes) (el := el_mixes_stand_2) (own := [4]) (e := [v0, v1, v2, v3, .no]) (e0 := [v0, v1, v2, v3, .no]) (e1 := [v0, v1, v2, v3, .no]) (ds := us.map It.d) (fun d => match opIx d (.int 0) with | some x => x | none => .non) (by
      show (vSl (vVar 0) a b [v0, v1, v2, v3, .no]).bind _ = _
      rw [hs]
      rfl) (by simp) (by
    intro d hd
    obtain ⟨t, _, rfl⟩ := List.mem_map.mp hd
    have i0 := t.ix0
    simp [el_mixes_stand_2, i0]) (by simp) (by simp; omega)
  rw [List.map_map] at lc
  rw [lc, List.map_map]
  congr 1
  refine List.map_congr_left fun t _ => ?_
  have i0 := t.ix0
  simp [i0]

theorem deqs_strs : ∀ (xs ys : List Str), D.deqs (xs.map D.str) (ys.map D.str) = decide (xs = ys)
  | [], [] => by simp
  | [], y :: ys => by simp
  | x :: xs, [] => by simp
  | x :: xs, y :: ys => by
    simp only [List.map_cons, deqs_cons, deq_str, deqs_strs xs ys]
    rw [← Bool.decide_and]
    exact decide_eq_decide.mpr (by simp)
theorem eqok_strs {xs : List Str} (h : ∀ x ∈ xs, strS x = true) : D.eqok 20 (.lst (xs.map D.str)) = true := by
  rw [eqok_lst]
  refine eqoks_all fun d hd => ?_
  obtain ⟨x, hx, rfl⟩ := List.mem_map.mp hd
  simp [h x hx]
theorem ne_cmc {xs : List Str} (h : ∀ x ∈ xs, strS x = true) : opNe (.lst (xs.map D.str)) (.lst [.str "clip", .str "mix", .str "clip"]) = some (.bl (!decide (xs = [("clip" : Str), "mix", "clip"]))) := by
  rw [o_ne (eqok_strs h) (by simp [s_clip, s_mix]), deq_lst]
  have := deqs_strs xs [("clip" : Str), "mix", "clip"]
  simp only [List.map_cons, List.map_nil] at this
  rw [this]
theorem mixes_turn {ts pre r : List It} {t : It} {v3 : Sl} (h : ∀ t ∈ ts, t.Rd) (hl : ts.length ≤ 400000) (e : ts = pre ++ t :: r) (m : t.kd = "mix") (J : Int) (hJ : J = ((pre.length : Nat) : Int)) :
    ∃ us : List It, vLc (vSeqI (vSl (vVar 0) (vPart (vBf bfMax (vCons (vC (.int 0)) (vCons (vOp opSub (vVar 1) (vC (.int 1))) vNil)))) (vPart (vOp opAdd (vVar 1) (vC (.int 2)))))) (gNam 4) vYes el_mixes_stand_2 [4] [.sh (.lst (ts.map It.d)), .sh (.int J), .sh t.d, v3, .no] = .ok ((us.map It.kd).map D.str) [.sh (.lst (ts.map It.d)), .sh (.int J), .sh t.d, v3, .no] ∧
      opNe (.lst ((us.map It.kd).map D.str)) (.lst [.str "clip", .str "mix", .str "clip"]) = some (.bl (!decide (us.map It.kd = [("clip" : Str), "mix", "clip"]))) ∧ us = (ts.drop (pre.length - 1)).take (pre.length + 2 - (pre.length - 1)) := by
  refine ⟨_, beside_lc (us := (ts.drop (pre.length - 1)).take (pre.length + 2 - (pre.length - 1))) (T := []) (by rw [List.length_take]; omega) ?_, ne_cmc (fun x hx => ?_), rfl⟩
  · have sl := slT_two (xs := ts.map It.d) (u := if 1 < J then J - 1 else 0) (v := J + 2) (by split <;> omega) (by split <;> omega)
    have e1 : (if 1 < J then J - 1 else 0).toNat = pre.length - 1 := by split <;> omega
    have e2 : (J + 2).toNat = pre.length + 2 := by omega
    rw [e1, e2, ← List.map_drop, ← List.map_take] at sl
    generalize (ts.drop (pre.length - 1)).take (pre.length + 2 - (pre.length - 1)) = us at sl ⊢
    simp [sl]
  · obtain ⟨u, hu, rfl⟩ := List.mem_map.mp hx
    exact (h u (List.mem_of_mem_drop (List.mem_of_mem_take hu))).ks
theorem mixes_loop {ts : List It} (h : ∀ t ∈ ts, t.Rd) (hl : ts.length ≤ 400000) : ∀ (rest pre : List It) (p : Str) (v1 v2 v3 : Sl), ts = pre ++ rest → ((pre = [] ∧ p = "begin") ∨ ∃ us u, pre = us ++ [u] ∧ p = u.kd) →
    ∃ v1' v2' v3', forL (gTup' (gCon (gNam 1) (gCon (gNam 2) gNil'))) b_mixes_stand_1 (((rest.map It.d).zipIdx pre.length).map fun p => .tup [.int ((p.2 : Nat) : Int), p.1]) [.sh (.lst (ts.map It.d)), v1, v2, v3, .no] = if mxL p (rest.map It.kd) = true then .nx [.sh (.lst (ts.map It.d)), v1', v2', v3', .no] else .rt (.bl false) [.sh (.lst (ts.map It.d)), v1', v2', v3', .no]
  | [], pre, p, v1, v2, v3, _, _ => ⟨v1, v2, v3, by simp [mxL, forL_0]⟩
  | t :: r, pre, p, v1, v2, v3, e, hp => by
    obtain ⟨J, hJ⟩ : ∃ J : Int, J = ((pre.length : Nat) : Int) := ⟨_, rfl⟩
    have e' : ts = (pre ++ [t]) ++ r := by rw [e]; simp
    have ht : t.Rd := h t (by rw [e]; simp)
    have e3 := o_eqs ht.ks s_mix
    have i0 := t.ix0
    have pl : (pre ++ [t]).length = pre.length + 1 := by simp
    rw [List.map_cons, List.map_cons, List.zipIdx_cons, List.map_cons, forL_f]
    unfold mxL
    by_cases m : t.kd = "mix"
    · obtain ⟨us, lc, ne, eu⟩ := mixes_turn (v3 := v3) h hl e m J hJ
      have dn : decide (us.map It.kd = [("clip" : Str), "mix", "clip"]) = (decide (p = "clip") && decide ((r.map It.kd).head? = some ("clip" : Str))) := by
        rcases hp with ⟨rfl, rfl⟩ | ⟨us', u, rfl, rfl⟩
        · have b : (decide (("begin" : Str) = "clip")) = false := by decide +kernel
          rw [b, Bool.false_and]
          refine decide_eq_false fun z => ?_
          have := congrArg List.length z
          rw [eu] at this
          simp at this
          omega
        · rw [eu, e]
          have d1 : (us' ++ [u]).length - 1 = us'.length := by simp
          have d2 : (us' ++ [u]).length + 2 - us'.length = 3 := by simp; omega
          rw [d1, d2, List.append_assoc, List.drop_left]
          rw [← Bool.decide_and]
          refine decide_eq_decide.mpr ?_
          cases r with
          | nil => simp
          | cons n r => simp [m]
      cases q : decide (p = "clip") && decide ((r.map It.kd).head? = some ("clip" : Str)) with
      | true =>
        rw [q] at dn
        rw [dn] at ne
        obtain ⟨v1', v2', v3', ih⟩ := mixes_loop h hl r (pre ++ [t]) t.kd (.sh (.int J)) (.sh t.d) (.sh (.lst ((us.map It.kd).map D.str))) e' (.inr ⟨_, _, rfl, rfl⟩)
        refine ⟨v1', v2', v3', ?_⟩
        rw [pl] at ih
        rw [Bool.and_eq_true] at q
        rw [q.1, q.2]
        simp only [Bool.not_true, Bool.or_false, Bool.and_false, Bool.not_false, Bool.true_and]
        rw [← ih, ← hJ]
        generalize (((r.map It.d).zipIdx (pre.length + 1)).map fun p => D.tup [.int ((p.2 : Nat) : Int), p.1]) = DS
        generalize (us.map It.kd).map D.str = KD at *
        rw [m] at e3 i0
        simp [b_mixes_stand_1, i0, e3, lc, ne, fturn1, flp1, flp2, flp3]
      | false =>
        rw [q] at dn
        rw [dn] at ne
        have bb : (!decide (p = "clip") || !decide ((r.map It.kd).head? = some ("clip" : Str))) = true := by
          rw [← Bool.not_and, q]
          rfl
        refine ⟨.sh (.int J), .sh t.d, .sh (.lst ((us.map It.kd).map D.str)), ?_⟩
        rw [bb, decide_eq_true m, ← hJ]
        generalize (((r.map It.d).zipIdx (pre.length + 1)).map fun p => D.tup [.int ((p.2 : Nat) : Int), p.1]) = DS
        generalize (us.map It.kd).map D.str = KD at *
        rw [m] at e3 i0
        simp [b_mixes_stand_1, i0, e3, lc, ne, fturn1, flp1, flp2, flp3]
    · obtain ⟨v1', v2', v3', ih⟩ := mixes_loop h hl r (pre ++ [t]) t.kd (.sh (.int J)) (.sh t.d) v3 e' (.inr ⟨_, _, rfl, rfl⟩)
      refine ⟨v1', v2', v3', ?_⟩
      rw [pl] at ih
      rw [decide_eq_false m]
      simp only [Bool.false_and, Bool.not_false, Bool.true_and]
      rw [← ih, ← hJ]
      generalize (((r.map It.d).zipIdx (pre.length + 1)).map fun p => D.tup [.int ((p.2 : Nat) : Int), p.1]) = DS
      rw [decide_eq_false m] at e3
      simp [b_mixes_stand_1, i0, e3, fturn1, flp1, flp2, flp3]
theorem mixes_ok {ts : List It} (h : ∀ t ∈ ts, t.Rd) (hl : ts.length ≤ 400000) : fn_mixes_stand [.lst (ts.map It.d)] = .ok (.bl (mxL "begin" (ts.map It.kd))) := by
  obtain ⟨v1, v2, v3, lp⟩ := mixes_loop h hl ts [] "begin" .no .no .no rfl (.inl ⟨rfl, rfl⟩)
  have lp : forL (gTup' (gCon (gNam 1) (gCon (gNam 2) gNil'))) b_mixes_stand_1 (((ts.map It.d).zipIdx 0).map fun p => .tup [.int ((p.2 : Nat) : Int), p.1]) [.sh (.lst (ts.map It.d)), .no, .no, .no, .no] = if mxL "begin" (ts.map It.kd) = true then .nx [.sh (.lst (ts.map It.d)), v1, v2, v3, .no] else .rt (.bl false) [.sh (.lst (ts.map It.d)), v1, v2, v3, .no] := lp
  have en := enum1 (ds := ts.map It.d)
  generalize ((ts.map It.d).zipIdx 0).map (fun p => D.tup [.int ((p.2 : Nat) : Int), p.1]) = DS at *
  cases q : mxL "begin" (ts.map It.kd) with
  | true =>
    rw [q, if_pos rfl] at lp
    simp [-enum1, fn_mixes_stand, b_mixes_stand, en, lp]
  | false =>
    rw [q, if_neg (by simp)] at lp
    simp [-enum1, fn_mixes_stand, b_mixes_stand, en, lp]

/-! the gaps -/
def gk : Bool → List It → Bool
  | b, [] => !b
  | b, .gap _ :: r => !b && gk true r
  | _, .oth _ _ _ :: r => gk false r
theorem gk_gap {b : Bool} {n : Int} {r : List It} : gk b (.gap n :: r) = (!b && gk true r) := rfl
theorem gk_oth {b : Bool} {s : Str} {m : List D} {n : Int} {r : List It} : gk b (.oth s m n :: r) = gk false r := rfl
theorem ne_k : ("end" : Str) ≠ "mix" ∧ ("end" : Str) ≠ "clip" ∧ ("gap" : Str) ≠ "end" ∧ ("clip" : Str) ≠ "end" ∧ ("nest" : Str) ≠ "end" ∧ ("mix" : Str) ≠ "end" := by decide +kernel
theorem okL_split : ∀ (ts : List It) (p : Str), (∀ t ∈ ts, t.Rd) → okL p (ts.map It.kd ++ [("end" : Str)]) = (gk (decide (p = "gap")) ts && mxL p (ts.map It.kd))
  | [], p, _ => by
    simp [okL, gk, mxL, ne_k.1]
  | t :: r, p, h => by
    have ih := okL_split r t.kd fun u hu => h u (List.mem_cons_of_mem _ hu)
    have ht := h t List.mem_cons_self
    have hh : decide ((r.map It.kd ++ [("end" : Str)]).head? = some ("clip" : Str)) = decide ((r.map It.kd).head? = some ("clip" : Str)) := by
      cases r with
      | nil => simp [ne_k.2.1]
      | cons u r => simp
    have en : decide (t.kd = ("end" : Str)) = false := by
      refine decide_eq_false ?_
      cases t with
      | gap n => exact ne_k.2.2.1
      | oth s m n =>
        rcases ht.2 with rfl | rfl | rfl
        · exact ne_k.2.2.2.1
        · exact ne_k.2.2.2.2.1
        · exact ne_k.2.2.2.2.2
    rw [List.map_cons, List.cons_append]
    unfold okL mxL
    rw [ih, hh, en]
    cases t with
    | gap n =>
      have g : decide ((It.gap n).kd = ("gap" : Str)) = true := decide_eq_true rfl
      rw [g]
      first | rw [gk_gap] | rw [gk_oth]
      generalize gk _ r = A
      generalize mxL _ _ = C
      generalize (decide (_ = ("mix" : Str)) && _) = M
      cases decide (p = ("gap" : Str)) <;> cases A <;> cases C <;> cases M <;> rfl
    | oth s m n =>
      have g : decide ((It.oth s m n).kd = ("gap" : Str)) = false := decide_eq_false ht.1.1
      rw [g]
      first | rw [gk_gap] | rw [gk_oth]
      generalize gk _ r = A
      generalize mxL _ _ = C
      generalize (decide (_ = ("mix" : Str)) && _) = M
      cases decide (p = ("gap" : Str)) <;> cases A <;> cases C <;> cases M <;> rfl
theorem canon_le1 : ∀ (ts : List It) (g : Int), 0 ≤ g → (∀ t ∈ ts, t.Rd) → (canon g ts).length ≤ ts.length + (if 0 < g then 1 else 0)
  | [], g, _, _ => by simp [canon]
  | .gap n :: r, g, hg, h => by
    have hn : 1 ≤ n := (h _ List.mem_cons_self).2
    have := canon_le1 r (g + n) (by omega) fun u hu => h u (List.mem_cons_of_mem _ hu)
    rw [if_pos (by omega)] at this
    simp only [canon, List.length_cons]
    omega
  | .oth s m n :: r, g, hg, h => by
    have := canon_le1 r 0 (by omega) fun u hu => h u (List.mem_cons_of_mem _ hu)
    unfold canon
    split <;> simp at * <;> omega
theorem canon_yes : ∀ (ts : List It), (∀ t ∈ ts, t.Rd) → (gk false ts = true → canon 0 ts = ts) ∧ (∀ g : Int, 0 < g → gk true ts = true → canon g ts = .gap g :: ts)
  | [], _ => ⟨fun _ => rfl, fun g _ z => by cases z⟩
  | .gap n :: r, h => by
    have hn : 1 ≤ n := (h _ List.mem_cons_self).2
    have ih := canon_yes r fun u hu => h u (List.mem_cons_of_mem _ hu)
    refine ⟨fun z => ?_, fun g _ z => by cases z⟩
    have := ih.2 n (by omega) z
    simp only [canon, Int.zero_add, this]
  | .oth s m n :: r, h => by
    have ih := canon_yes r fun u hu => h u (List.mem_cons_of_mem _ hu)
    refine ⟨fun z => ?_, fun g hg z => ?_⟩
    · have := ih.1 z
      simp [canon, this]
    · have := ih.1 z
      simp [canon, this, hg]
theorem canon_no : ∀ (ts : List It), (∀ t ∈ ts, t.Rd) → (gk false ts = false → (canon 0 ts).length < ts.length) ∧ (∀ g : Int, 0 < g → gk true ts = false → (canon g ts).length < ts.length + 1)
  | [], _ => ⟨(fun z => by cases z), fun g _ _ => by simp [canon]⟩
  | .gap n :: r, h => by
    have hn : 1 ≤ n := (h _ List.mem_cons_self).2
    have hr : ∀ u ∈ r, u.Rd := fun u hu => h u (List.mem_cons_of_mem _ hu)
    have ih := canon_no r hr
    refine ⟨fun z => ?_, fun g hg _ => ?_⟩
    · have := ih.2 n (by omega) z
      simp only [canon, Int.zero_add, List.length_cons]
      exact this
    · have := canon_le1 r (g + n) (by omega) hr
      rw [if_pos (by omega)] at this
      simp only [canon, List.length_cons]
      omega
  | .oth s m n :: r, h => by
    have ih := canon_no r fun u hu => h u (List.mem_cons_of_mem _ hu)
    refine ⟨fun z => ?_, fun g hg z => ?_⟩
    · have := ih.1 z
      simp [canon]
      exact this
    · have := ih.1 z
      simp [canon, hg]
      omega
theorem deqs_len : ∀ {xs ys : List D}, xs.length ≠ ys.length → D.deqs xs ys = false
  | [], [], h => absurd rfl h
  | [], y :: ys, _ => deqs_nc
  | x :: xs, [], _ => deqs_cn
  | x :: xs, y :: ys, h => by
    rw [deqs_cons, deqs_len (by simpa using h), Bool.and_false]
theorem form_ne {ts : List It} (h : ∀ t ∈ ts, t.Rd) : opNe (.lst ((canon 0 ts).map It.d)) (.lst (ts.map It.d)) = some (.bl (!gk false ts)) := by
  have e1 := It.eqs (ts := ts) fun t ht => (h t ht).1
  have e2 := It.eqs (canon_ok 0 ts (by omega) fun t ht => (h t ht).1)
  cases q : gk false ts with
  | true => rw [(canon_yes ts h).1 q]; exact o_neS e1
  | false =>
    have l := (canon_no ts h).1 q
    rw [o_ne e2 e1, deq_lst, deqs_len (by simp; omega)]
/-! read -/
def rt (a : List Nat) : Option (List It) := if a = [] then some [] else match mapO ri (TL.spl [59, 32] 0 [] a) with
  | some ts => if gk false ts && mxL "begin" (ts.map It.kd) then some ts else none
  | none => none
theorem begin_gap : decide (("begin" : Str) = "gap") = false := by decide +kernel
theorem rtrack_ok {a : List Nat} (h : Tx a) : fn_read_track [.str (S a)] = match rt a with
    | some ts => .ok (.lst (ts.map It.d))
    | none => .err ⟨"NoText", none⟩ := by
  have isS : opIsi "str" (.str (S a)) = some (.bl true) := rfl
  have e0 := S_eq h tx_nil
  by_cases na : a = []
  · subst na
    simp [fn_read_track, b_read_track, isS, e_empty, e0, rt]
  · have sp := split_at [59, 32] (by simp) (by simp) h
    have op := mf1_of (op := opSplit) (a := vVar 0) (b := vC (.str (S [59, 32]))) (e := [.sh (.str (S a)), .no, .no]) rfl rfl sp
    have tw := spl_tx (sep := [59, 32]) h
    have pl : (TL.spl [59, 32] 0 [] a).length ≤ 300001 := by
      have := (spl_sum (sep := [59, 32]) a 0 []).2
      have := h.l
      omega
    have lx := lcLX_items (v0 := .sh (.str (S a))) (v1 := .no) (TL.spl [59, 32] 0 [] a) [] tw (by simp; omega)
    unfold rt
    rw [if_neg na]
    generalize TL.spl [59, 32] 0 [] a = ws at *
    have lc : vLcX (vSeqI (vOf (vMF1 opSplit (vVar 0) (vC (.str (S [59, 32])))))) (gNam 2) vYes el_read_track_1 [2] [.sh (.str (S a)), .no, .no] = match mapO ri ws with
        | some ts => .ok (ts.map It.d) [.sh (.str (S a)), .no, .no]
        | none => .err ⟨"NoText", none⟩ [.sh (.str (S a)), .no, .no] := by
      have hi : vSeqI (vOf (vMF1 opSplit (vVar 0) (vC (.str (S [59, 32]))))) [.sh (.str (S a)), .no, .no] = .ok (ws.map fun w => .str (S w)) [.sh (.str (S a)), .no, .no] := by
        simp [op]
      show (vSeqI (vOf (vMF1 opSplit (vVar 0) (vC (.str (S [59, 32]))))) [.sh (.str (S a)), .no, .no]).bind _ = _
      rw [hi]
      exact lx
    cases q : mapO ri ws with
    | none =>
      rw [q] at lc
      simp [fn_read_track, b_read_track, isS, e_empty, e_semi, e0, na, lc]
    | some ts =>
      rw [q] at lc
      obtain ⟨rd, len⟩ := mapO_rd tw q
      have f1 := form_ok (ts := ts) (fun t ht => (rd t ht).1) (by omega)
      have f2 := form_ne rd
      have f3 := mixes_ok rd (by omega)
      dsimp only
      generalize (canon 0 ts).map It.d = CS at *
      have fl : D.flats (ts.map It.d) = true := It.fls fun t ht => (rd t ht).1
      cases g : gk false ts with
      | false =>
        rw [g] at f2
        simp [fn_read_track, b_read_track, isS, e_empty, e_semi, e0, na, lc, f1, f2]
      | true =>
        rw [g] at f2
        cases m : mxL "begin" (ts.map It.kd) with
        | false =>
          rw [m] at f3
          simp [fn_read_track, b_read_track, isS, e_empty, e_semi, e0, na, lc, f1, f2, f3]
        | true =>
          rw [m] at f3
          simp [fn_read_track, b_read_track, isS, e_empty, e_semi, e0, na, lc, f1, f2, f3]

/-! the law's reading -/
theorem dnon (d : D) : d.isNon = isNon d := by cases d <;> rfl
theorem ltrack_ok {a : List Nat} (h : Tx a) : fn__law_track_read [.str (S a)] = .ok (match rt a with
    | some ts => .lst (ts.map It.d)
    | none => .non) := by
  have e0 := S_eq h tx_nil
  by_cases na : a = []
  · subst na
    simp [fn__law_track_read, b__law_track_read, e_empty, e0, rt]
  · have sp := split_at [59, 32] (by simp) (by simp) h
    have op := mf1_of (op := opSplit) (a := vVar 0) (b := vC (.str (S [59, 32]))) (e := [.sh (.str (S a)), .no, .no, .no]) rfl rfl sp
    have tw := spl_tx (sep := [59, 32]) h
    have pl : (TL.spl [59, 32] 0 [] a).length ≤ 300001 := by
      have := (spl_sum (sep := [59, 32]) a 0 []).2
      have := h.l
      omega
    unfold rt
    rw [if_neg na]
    generalize TL.spl [59, 32] 0 [] a = ws at *
    have lc := vLc_map (it := vSeqI (vOf (vMF1 opSplit (vVar 0) (vC (.str (S [59, 32])))))) (g := gNam 2) (t := vYes) (el := el__law_track_read_1) (own := [2]) (e := [.sh (.str (S a)), .no, .no, .no]) (e0 := [.sh (.str (S a)), .no, .no, .no]) (e1 := [.sh (.str (S a)), .no, .no, .no]) (ds := (ws.map S).map D.str) (fun d => match d with | .str z => riD (ri z.cps.toList) | _ => .non) (by simp [op]) (by simp) (by
      intro d hd
      obtain ⟨z, hz, rfl⟩ := List.mem_map.mp hd
      obtain ⟨w, hw, rfl⟩ := List.mem_map.mp hz
      have r := litem_ok (tw w hw)
      simp [el__law_track_read_1, r]) (by simp) (by simp; omega)
    rw [List.map_map, List.map_map] at lc
    have em : ws.map (((fun d => match d with | .str z => riD (ri z.cps.toList) | _ => D.non) ∘ D.str) ∘ S) = ws.map fun w => riD (ri w) := List.map_congr_left fun w _ => by simp
    rw [em] at lc
    obtain ⟨L, hL⟩ : ∃ L, L = ws.map fun w => riD (ri w) := ⟨_, rfl⟩
    rw [← hL] at lc
    have lL : L.length ≤ 300001 := by rw [hL]; simpa using pl
    have ln := vLc_map (it := vSeqI (vVar 1)) (g := gNam 3) (t := vYes) (el := el__law_track_read_2) (own := [3]) (e := [.sh (.str (S a)), .sh (.lst L), .no, .no]) (e0 := [.sh (.str (S a)), .sh (.lst L), .no, .no]) (e1 := [.sh (.str (S a)), .sh (.lst L), .no, .no]) (ds := L) (fun d => .bl (isNon d)) (by simp) (by simp) (by
      intro d hd
      simp [el__law_track_read_2, dnon]) (by simp) (by omega)
    have an := any_map isNon L
    have aL : L.any isNon = ws.any fun w => isNon (riD (ri w)) := by rw [hL, List.any_map]; rfl
    cases q : mapO ri ws with
    | none =>
      rw [aL, mapO_none q] at an
      generalize L.map (fun d => D.bl (isNon d)) = M at *
      simp [fn__law_track_read, b__law_track_read, e_empty, e_semi, e0, na, lc, ln, an]
    | some ts =>
      obtain ⟨rd, len⟩ := mapO_rd tw q
      rw [aL, (mapO_some q).2] at an
      generalize L.map (fun d => D.bl (isNon d)) = M at *
      rw [(mapO_some q).1] at hL
      subst hL
      have f3 := lform_ok rd (by omega)
      rw [okL_split ts _ rd, begin_gap] at f3
      dsimp only
      cases g : gk false ts && mxL "begin" (ts.map It.kd) with
      | false =>
        rw [g] at f3
        simp [fn__law_track_read, b__law_track_read, e_empty, e_semi, e0, na, lc, ln, an, f3]
      | true =>
        rw [g] at f3
        simp [fn__law_track_read, b__law_track_read, e_empty, e_semi, e0, na, lc, ln, an, f3]
theorem ancT : ("NoText" : Str) ∈ names0 ∧ anc0 "NoText" "NoText" = true ∧ anc0 "NoText" "NoClip" = false := by decide +kernel
theorem lread_ok {a : List Nat} (h : Tx a) : fn__law_read [.str (S a)] = .ok (match rt a with
    | some ts => .lst (ts.map It.d)
    | none => .bl false) := by
  obtain ⟨a1, a2, a3⟩ := ancT
  have r := rtrack_ok h
  cases k : rt a with
  | none =>
    rw [k] at r
    simp [fn__law_read, b__law_read, r, a1, a2, a3]
  | some n =>
    rw [k] at r
    simp [fn__law_read, b__law_read, r]
theorem lread_odd {d : D} (h : opIsi "str" d = some (.bl false)) : fn__law_read [d] = .ok (.bl false) := by
  obtain ⟨a1, a2, a3⟩ := ancT
  have r : fn_read_track [d] = .err ⟨"NoText", none⟩ := by simp [fn_read_track, b_read_track, h]
  simp [fn__law_read, b__law_read, r, a1, a2, a3]
/-! shown -/
theorem strsD_map : ∀ (ys : List Str), strsD (ys.map D.str) = some ys
  | [] => rfl
  | y :: ys => by
    show (strsD (ys.map D.str)).map (y :: ·) = _
    rw [strsD_map ys]
    rfl
theorem join_ok {sep : List Nat} {ws : List (List Nat)} (h : sumL ws + ws.length * sep.length ≤ 16777216) : opJoin (S sep) (.lst ((ws.map S).map D.str)) = some (.str (S (TL.joinL sep ws))) := by
  show (match strsD ((ws.map S).map D.str) with
    | some ys => if (ys.map Str.length).sum + ys.length * (S sep).length ≤ 16777216 then some (D.str (Txt.join (S sep) ys)) else none
    | none => none) = _
  rw [strsD_map]
  have e1 : ((ws.map S).map Str.length).sum = sumL ws := by
    rw [List.map_map]
    unfold sumL
    congr 1
  show (if ((ws.map S).map Str.length).sum + (ws.map S).length * (S sep).length ≤ 16777216 then some (D.str (Txt.join (S sep) (ws.map S))) else none) = _
  rw [e1, List.length_map, S_len, if_pos h, SX.join_S]
/-- the text of a fraction -/
def ft (a b : Int) : List Nat := if b = 1 then txt a else txt a ++ 47 :: txt b
def FrT (a b : Int) : Prop := a.natAbs < 10 ^ 60 ∧ b.natAbs < 10 ^ 60 ∧ (b = 1 ∨ (2 ≤ b ∧ lowB a b = true))
/-- a word -/
def Wd (w : List Nat) : Prop := Tx w ∧ 32 ∉ w ∧ 59 ∉ w ∧ w.length ≤ 130
theorem wd_txt {i : Int} (h : i.natAbs < 10 ^ 60) : Wd (txt i) := by
  obtain ⟨t1, t2, t3⟩ := tx_txt h
  have f1 : 32 ∉ TL.numL i.natAbs := TL.numL_free (by decide)
  have f2 : 59 ∉ TL.numL i.natAbs := TL.numL_free (by decide)
  refine ⟨t1, ?_, ?_, by omega⟩ <;> unfold txt <;> split <;> simp [f1, f2]
theorem wd_ft {a b : Int} (h : FrT a b) : Wd (ft a b) := by
  unfold ft
  split
  · exact wd_txt h.1
  · obtain ⟨a1, a2, a3, _⟩ := wd_txt h.1
    obtain ⟨b1, b2, b3, _⟩ := wd_txt h.2.1
    have la := (tx_txt h.1).2.2
    have lb := (tx_txt h.2.1).2.2
    refine ⟨tx_cat a1 ⟨by simp; omega, fun c hc => ?_⟩ (by simp; omega), by simp [a2, b2], by simp [a3, b3], by simp; omega⟩
    rcases List.mem_cons.mp hc with rfl | hc
    · decide
    · exact b1.c c hc
theorem rf_ft {a b : Int} (h : FrT a b) : rf (ft a b) = some (a, b) := by
  obtain ⟨ha, hb, hc⟩ := h
  unfold ft
  rcases hc with rfl | ⟨b2, lw⟩
  · rw [if_pos rfl]; exact rf_one ha
  · rw [if_neg (by omega)]; exact rf_two ha hb b2 lw
theorem shf_ok {a b : Int} (h : FrT a b) : fn_show_fraction [.tup [.int a, .int b]] = .ok (.str (S (ft a b))) ∧ fn__law_shown [.tup [.int a, .int b]] = .ok (.str (S (ft a b))) := by
  have sp := str_ok h.1
  have sq := str_ok h.2.1
  unfold ft
  by_cases q1 : b = 1
  · subst q1
    simp [fn_show_fraction, b_show_fraction, fn__law_shown, b__law_shown, sp]
  · have la := (tx_txt h.1).2.2
    have lb := (tx_txt h.2.1).2.2
    have a1 : opAdd (.str (S (txt a))) (.str (S [47])) = some (.str (S (txt a ++ [47]))) := by
      rw [o_addS (by rw [S_len, S_len]; simp; omega), S_cat]
    have a2 : opAdd (.str (S (txt a ++ [47]))) (.str (S (txt b))) = some (.str (S (txt a ++ 47 :: txt b))) := by
      rw [o_addS (by rw [S_len, S_len]; simp; omega), S_cat, List.append_assoc]
      rfl
    rw [if_neg q1]
    generalize txt a ++ 47 :: txt b = A at *
    generalize txt a ++ [47] = M at *
    simp [fn_show_fraction, b_show_fraction, fn__law_shown, b__law_shown, sp, sq, q1, e_stroke, a1, a2]
/-- an item and the words that show it -/
structure Sh (t : It) (ws : List (List Nat)) : Prop where
  r : riw ws = some t
  n : ws ≠ []
  w : ∀ w ∈ ws, Wd w
  l : ws.length ≤ 5
  t1 : fn_show_item [t.d] = .ok (.str (S (TL.joinL [32] ws)))
  t2 : fn__law_item_text [t.d] = .ok (.str (S (TL.joinL [32] ws)))
theorem sum_le {ws : List (List Nat)} {k : Nat} (h : ∀ w ∈ ws, w.length ≤ k) : sumL ws ≤ ws.length * k := by
  induction ws with
  | nil => simp [sumL]
  | cons w ws ih =>
    have h1 := h w (by simp)
    have h2 := ih fun v hv => h v (by simp [hv])
    simp only [sumL, List.map_cons, List.sum_cons, List.length_cons, Nat.succ_mul] at h2 ⊢
    omega
theorem rk_txt {i k : Int} (h : i.natAbs < 10 ^ 60) (hk : k ≤ i) : rk (txt i) k = some i := by
  unfold rk
  rw [rd_txt h]
  exact if_neg (by omega)

/-! the items built are shown -/
theorem e_cg : opEq (.str "gap") (.str "clip") = some (.bl false) ∧ opEq (.str "nest") (.str "clip") = some (.bl false) ∧ opEq (.str "mix") (.str "clip") = some (.bl false) ∧ opEq (.str "clip") (.str "clip") = some (.bl true) := by
  refine ⟨?_, ?_, ?_, o_eqS (by simp [s_clip])⟩
  · rw [o_eqs sGap s_clip, decide_eq_false ne_cg.1.symm]
  · rw [o_eqs s_nest s_clip, decide_eq_false (by decide +kernel)]
  · rw [o_eqs s_mix s_clip, decide_eq_false (by decide +kernel)]
def strOf (d : D) : D := match bfStrS [d] with
  | some x => x
  | none => .non
theorem parts_lc {ds : List D} (hl : ds.length ≤ 100) (h : ∀ d ∈ ds, ∃ x, bfStrS [d] = some x) : vLc (vSeqI (vVar 0)) (gNam 1) vYes el_show_item_1 [1] [.sh (.tup ds), .no] = .ok (ds.map strOf) [.sh (.tup ds), .no] ∧ vLc (vSeqI (vVar 0)) (gNam 1) vYes el__law_item_text_1 [1] [.sh (.tup ds), .no] = .ok (ds.map strOf) [.sh (.tup ds), .no] := by
  refine ⟨vLc_map (e0 := [.sh (.tup ds), .no]) strOf (by simp) (by simp) (fun d hd => ?_) (by simp) (by omega), vLc_map (e0 := [.sh (.tup ds), .no]) strOf (by simp) (by simp) (fun d hd => ?_) (by simp) (by omega)⟩
  · obtain ⟨x, hx⟩ := h d hd
    have : strOf d = x := by unfold strOf; rw [hx]
    simp [el_show_item_1, hx, this]
  · obtain ⟨x, hx⟩ := h d hd
    have : strOf d = x := by unfold strOf; rw [hx]
    simp [el__law_item_text_1, hx, this]
theorem str_str {z : Str} : bfStrS [.str z] = some (.str z) := rfl
/-- an item that is no clip -/
theorem sh_other {z : Str} {ds : List D} {ws : List (List Nat)} (hz : opEq (.str z) (.str "clip") = some (.bl false)) (hl : ds.length ≤ 10) (h : ∀ d ∈ D.str z :: ds, ∃ x, bfStrS [d] = some x) (e : (D.str z :: ds).map strOf = (ws.map S).map D.str) (hw : sumL ws + ws.length ≤ 100000) :
    fn_show_item [.tup (.str z :: ds)] = .ok (.str (S (TL.joinL [32] ws))) ∧ fn__law_item_text [.tup (.str z :: ds)] = .ok (.str (S (TL.joinL [32] ws))) := by
  obtain ⟨l1, l2⟩ := parts_lc (ds := .str z :: ds) (by simp; omega) h
  have j := join_ok (sep := [32]) (ws := ws) (by simp; omega)
  rw [e] at l1 l2
  generalize (ws.map S).map D.str = W at *
  have m1 := m1_of (op := opJoin) (a := vC (.str (S [32]))) (b := vOf (vLc (vSeqI (vVar 0)) (gNam 1) vYes el_show_item_1 [1])) (e := [.sh (.tup (.str z :: ds)), .no]) (e1 := [.sh (.tup (.str z :: ds)), .no]) (e2 := [.sh (.tup (.str z :: ds)), .no]) (y := .lst W) rfl (by simp [l1]) j
  have m2 := m1_of (op := opJoin) (a := vC (.str (S [32]))) (b := vOf (vLc (vSeqI (vVar 0)) (gNam 1) vYes el__law_item_text_1 [1])) (e := [.sh (.tup (.str z :: ds)), .no]) (e1 := [.sh (.tup (.str z :: ds)), .no]) (e2 := [.sh (.tup (.str z :: ds)), .no]) (y := .lst W) rfl (by simp [l2]) j
  constructor
  · simp [fn_show_item, b_show_item, hz, e_blank, m1]
  · simp [fn__law_item_text, b__law_item_text, hz, e_blank, m2]
theorem strOf_s {z : Str} : strOf (.str z) = .str z := rfl
theorem strOf_i {i : Int} (h : i.natAbs < 10 ^ 60) : strOf (.int i) = .str (S (txt i)) := by
  unfold strOf
  rw [str_ok h]
theorem wd_lit {w : List Nat} (h : (decide (w.length ≤ 130) && w.all fun c => decide (c < 1114112) && !decide (c = 32) && !decide (c = 59)) = true) : Wd w := by
  rw [Bool.and_eq_true] at h
  have l := of_decide_eq_true h.1
  have a : ∀ c ∈ w, c < 1114112 ∧ c ≠ 32 ∧ c ≠ 59 := fun c hc => by
    have := List.all_eq_true.mp h.2 c hc
    simp at this
    exact ⟨this.1.1, this.1.2, this.2⟩
  exact ⟨⟨by omega, fun c hc => (a c hc).1⟩, fun z => (a 32 z).2.1 rfl, fun z => (a 59 z).2.2 rfl, l⟩
theorem sum_wd {ws : List (List Nat)} (h : ∀ w ∈ ws, Wd w) (l : ws.length ≤ 5) : sumL ws + ws.length ≤ 100000 := by
  have := sum_le (k := 130) fun w hw => (h w hw).2.2.2
  have : ws.length * 130 ≤ 5 * 130 := Nat.mul_le_mul_right _ l
  omega
theorem sh_gap {n : Int} (h1 : 1 ≤ n) (h : n.natAbs < 10 ^ 60) : Sh (.gap n) [[103, 97, 112], txt n] := by
  have hw : ∀ w ∈ [[103, 97, 112], txt n], Wd w := fun w hw => by
    rcases List.mem_cons.mp hw with rfl | hw
    · exact wd_lit (by decide)
    · rw [List.mem_singleton.mp hw]; exact wd_txt h
  obtain ⟨t1, t2⟩ := sh_other (z := "gap") (ds := [.int n]) (ws := [[103, 97, 112], txt n]) e_cg.1 (by simp) (by simp [str_str, str_ok h]) (by simp [strOf_s, strOf_i h, e_gap]) (sum_wd hw (by simp))
  exact ⟨by simp [riw, rk_txt h h1], by simp, hw, by simp, t1, t2⟩
theorem sh_mix {n : Int} (h1 : 1 ≤ n) (h : n.natAbs < 10 ^ 60) : Sh (.oth "mix" [] n) [[109, 105, 120], txt n] := by
  have hw : ∀ w ∈ [[109, 105, 120], txt n], Wd w := fun w hw => by
    rcases List.mem_cons.mp hw with rfl | hw
    · exact wd_lit (by decide)
    · rw [List.mem_singleton.mp hw]; exact wd_txt h
  obtain ⟨t1, t2⟩ := sh_other (z := "mix") (ds := [.int n]) (ws := [[109, 105, 120], txt n]) e_cg.2.2.1 (by simp) (by simp [str_str, str_ok h]) (by simp [strOf_s, strOf_i h, e_mix]) (sum_wd hw (by simp))
  exact ⟨by simp [riw, rk_txt h h1], by simp, hw, by simp, t1, t2⟩
theorem wd_nm {z : List Nat} (h : nmL z = true) : Wd z := by
  unfold nmL at h
  rw [Bool.and_eq_true, Bool.and_eq_true] at h
  have l := of_decide_eq_true h.1.2
  have a : ∀ c ∈ z, 97 ≤ c ∧ c ≤ 122 := fun c hc => by
    have := List.all_eq_true.mp h.2 c hc
    unfold laB at this
    simpa using this
  exact ⟨⟨by omega, fun c hc => by have := a c hc; omega⟩, fun q => by have := a 32 q; omega, fun q => by have := a 59 q; omega, by omega⟩
theorem sh_nest {z : List Nat} {u n : Int} (hz : nmL z = true) (hu : 0 ≤ u) (hu2 : u.natAbs < 10 ^ 60) (h1 : 1 ≤ n) (h : n.natAbs < 10 ^ 60) : Sh (.oth "nest" [.str (S z), .int u] n) [[110, 101, 115, 116], z, txt u, txt n] := by
  have hw : ∀ w ∈ [[110, 101, 115, 116], z, txt u, txt n], Wd w := fun w hw => by
    simp only [List.mem_cons, List.not_mem_nil, or_false] at hw
    rcases hw with rfl | rfl | rfl | rfl
    · exact wd_lit (by decide)
    · exact wd_nm hz
    · exact wd_txt hu2
    · exact wd_txt h
  obtain ⟨t1, t2⟩ := sh_other (z := "nest") (ds := [.str (S z), .int u, .int n]) (ws := [[110, 101, 115, 116], z, txt u, txt n]) e_cg.2.1 (by simp) (by simp [str_str, str_ok h, str_ok hu2]) (by simp [strOf_s, strOf_i h, strOf_i hu2, e_nest]) (sum_wd hw (by simp))
  exact ⟨by simp [riw, rk_txt h h1, rk_txt hu2 hu, hz], by simp, hw, by simp, t1, t2⟩
theorem sh_clip {z : List Nat} {a b c d n : Int} (hz : nmL z = true) (f1 : FrT a b) (f2 : FrT c d) (h1 : 1 ≤ n) (h : n.natAbs < 10 ^ 60) : Sh (.oth "clip" [.str (S z), .tup [.int a, .int b], .tup [.int c, .int d]] n) [[99, 108, 105, 112], z, ft a b, ft c d, txt n] := by
  have hw : ∀ w ∈ [[99, 108, 105, 112], z, ft a b, ft c d, txt n], Wd w := fun w hw => by
    simp only [List.mem_cons, List.not_mem_nil, or_false] at hw
    rcases hw with rfl | rfl | rfl | rfl | rfl
    · exact wd_lit (by decide)
    · exact wd_nm hz
    · exact wd_ft f1
    · exact wd_ft f2
    · exact wd_txt h
  have j := join_ok (sep := [32]) (ws := [[99, 108, 105, 112], z, ft a b, ft c d, txt n]) (by have := sum_wd hw (by simp); simp at this ⊢; omega)
  obtain ⟨s1, s2⟩ := shf_ok f1
  obtain ⟨s3, s4⟩ := shf_ok f2
  have s5 := str_ok h
  have ee := e_cg.2.2.2
  refine ⟨by simp [riw, rk_txt h h1, rf_ft f1, rf_ft f2, hz], by simp, hw, by simp, ?_, ?_⟩
  · simp only [It.d, e_clip, List.map_cons, List.map_nil, List.cons_append, List.nil_append] at *
    generalize TL.joinL _ _ = J at *
    have m1 := m1_of (op := opJoin) (a := vC (.str (S [32]))) (b := vOf (vLstD (vCons (vC (.str (S [99, 108, 105, 112]))) (vCons (vOp opIx (vVar 0) (vC (.int 1))) (vCons (vCall fn_show_fraction (vCons (vOp opIx (vVar 0) (vC (.int 2))) vNil)) (vCons (vCall fn_show_fraction (vCons (vOp opIx (vVar 0) (vC (.int 3))) vNil)) (vCons (vBf bfStrS (vCons (vOp opIx (vVar 0) (vC (.int 4))) vNil)) vNil)))))))
      (e := [.sh (.tup [.str (S [99, 108, 105, 112]), .str (S z), .tup [.int a, .int b], .tup [.int c, .int d], .int n]), .no]) (e1 := [.sh (.tup [.str (S [99, 108, 105, 112]), .str (S z), .tup [.int a, .int b], .tup [.int c, .int d], .int n]), .no]) (e2 := [.sh (.tup [.str (S [99, 108, 105, 112]), .str (S z), .tup [.int a, .int b], .tup [.int c, .int d], .int n]), .no]) rfl (by simp [s1, s3, s5]) j
    simp [fn_show_item, b_show_item, ee, e_clip, e_blank, m1]
  · simp only [It.d, e_clip, List.map_cons, List.map_nil, List.cons_append, List.nil_append] at *
    generalize TL.joinL _ _ = J at *
    have m1 := m1_of (op := opJoin) (a := vC (.str (S [32]))) (b := vOf (vLstD (vCons (vC (.str (S [99, 108, 105, 112]))) (vCons (vOp opIx (vVar 0) (vC (.int 1))) (vCons (vCall fn__law_shown (vCons (vOp opIx (vVar 0) (vC (.int 2))) vNil)) (vCons (vCall fn__law_shown (vCons (vOp opIx (vVar 0) (vC (.int 3))) vNil)) (vCons (vBf bfStrS (vCons (vOp opIx (vVar 0) (vC (.int 4))) vNil)) vNil)))))))
      (e := [.sh (.tup [.str (S [99, 108, 105, 112]), .str (S z), .tup [.int a, .int b], .tup [.int c, .int d], .int n]), .no]) (e1 := [.sh (.tup [.str (S [99, 108, 105, 112]), .str (S z), .tup [.int a, .int b], .tup [.int c, .int d], .int n]), .no]) (e2 := [.sh (.tup [.str (S [99, 108, 105, 112]), .str (S z), .tup [.int a, .int b], .tup [.int c, .int d], .int n]), .no]) rfl (by simp [s2, s4, s5]) j
    simp [fn__law_item_text, b__law_item_text, ee, e_clip, e_blank, m1]

/-! the track that the law builds -/
theorem e_names : Str.ofString "t" = S [116] ∧ Str.ofString "other" = S [111, 116, 104, 101, 114] ∧ Str.ofString "zzzzzzzz" = S [122, 122, 122, 122, 122, 122, 122, 122] ∧ Str.ofString "a" = S [97] ∧ Str.ofString "reel" = S [114, 101, 101, 108] ∧ Str.ofString "abcdefgh" = S [97, 98, 99, 100, 101, 102, 103, 104] :=
  ⟨S_lit _ _ (by decide +kernel), S_lit _ _ (by decide +kernel), S_lit _ _ (by decide +kernel), S_lit _ _ (by decide +kernel), S_lit _ _ (by decide +kernel), S_lit _ _ (by decide +kernel)⟩
theorem mod_pick {xs : List Int} {k : Int} (h0 : 0 ≤ k) (h1 : k < xs.length) : ∃ y ∈ xs, atD (xs.map D.int) k = some (.int y) := by
  have q : k.toNat < xs.length := by omega
  exact ⟨xs[k.toNat], List.getElem_mem q, at_of (n := k.toNat) (by omega) (by simp [q])⟩
theorem big60 {i : Int} (h : i.natAbs ≤ 1000000000000000000000000000000) : i.natAbs < 10 ^ 60 := Nat.lt_of_le_of_lt h (by decide)
theorem part_ok {x c : Int} (hx : 0 ≤ x) : ∃ t ws, fn__law_part [.int x, .int c] = .ok (It.d t) ∧ Sh t ws ∧ t.kd ≠ "mix" := by
  have i6 := o_rem (i := x / 5) (j := 6) (by decide)
  have i90 := o_rem (i := x / 30) (j := 90) (by decide)
  have i30 := o_rem (i := x / 30) (j := 4) (by decide)
  have i17 := o_rem (i := x / 17) (j := 9) (by decide)
  have i5k := o_rem (i := x) (j := 5000) (by decide)
  have i11 := o_rem (i := x / 11) (j := 4) (by decide)
  have i5 := o_rem (i := x) (j := 5) (by decide)
  have i7 := o_rem (i := x / 7) (j := 3) (by decide)
  have i19 := o_rem (i := x / 19) (j := 50) (by decide)
  have g30 := o_rem (i := c * 48271 + x) (j := 1000000000000000000000000000000) (by decide)
  have pw : opPow (.int 10) (.int 30) = some (.int 1000000000000000000000000000000) := by rw [o_pow (by decide) (by decide) (by decide)]; rfl
  have m1 := o_mul (mulOk_r (i := c) (j := 48271) (by decide) (by decide))
  obtain ⟨G, hG⟩ : ∃ G, G = (c * 48271 + x) % 1000000000000000000000000000000 := ⟨_, rfl⟩
  obtain ⟨k, hk⟩ : ∃ k, k = x / 30 % 90 := ⟨_, rfl⟩
  obtain ⟨l1, hl1⟩ : ∃ k, k = x / 17 % 9 := ⟨_, rfl⟩
  obtain ⟨l2, hl2⟩ : ∃ k, k = x % 5000 := ⟨_, rfl⟩
  obtain ⟨u, hu⟩ : ∃ k, k = x / 19 % 50 := ⟨_, rfl⟩
  have G1 : 0 ≤ G ∧ G < 1000000000000000000000000000000 := by omega
  have k1 : 0 ≤ k ∧ k < 90 := by omega
  have b1 : 0 ≤ l1 ∧ l1 < 9 := by omega
  have b2 : 0 ≤ l2 ∧ l2 < 5000 := by omega
  have u1 : 0 ≤ u ∧ u < 50 := by omega
  rw [← hG] at g30
  rw [← hk] at i90
  rw [← hl1] at i17
  rw [← hl2] at i5k
  rw [← hu] at i19
  obtain ⟨st, hst, pst⟩ := at_mem (xs := [D.tup [.int 1, .int 1], .tup [.int 1, .int 2], .tup [.int (-1), .int 1], .tup [.int 0, .int 1], .tup [.int 7, .int 3], .tup [.int (-30000), .int 1001]]) (i := x / 5 % 6) (by omega) (by simp; omega)
  obtain ⟨sa, hsa, psa⟩ := at_mem (xs := [D.tup [.int 0, .int 1], .tup [.int k, .int 1], .tup [.int (1 + 2 * k), .int 2], .tup [.int (-5), .int 3]]) (i := x / 30 % 4) (by omega) (by simp; omega)
  obtain ⟨n, hn, pn⟩ := mod_pick (xs := [1 + l1, 1 + l1, 1 + l2, 1 + G]) (k := x / 11 % 4) (by omega) (by simp; omega)
  obtain ⟨z1, hz1, pz1⟩ := at_mem (xs := [D.str "t", .str "other", .str "zzzzzzzz"]) (i := x / 7 % 3) (by omega) (by simp; omega)
  obtain ⟨z2, hz2, pz2⟩ := at_mem (xs := [D.str "a", .str "reel", .str "abcdefgh"]) (i := x / 7 % 3) (by omega) (by simp; omega)
  have pn : atD [D.int (1 + l1), .int (1 + l1), .int (1 + l2), .int (1 + G)] (x / 11 % 4) = some (.int n) := pn
  have hst : ∃ a b, st = .tup [.int a, .int b] ∧ FrT a b := by
    simp only [List.mem_cons, List.not_mem_nil, or_false] at hst
    rcases hst with rfl | rfl | rfl | rfl | rfl | rfl
    · exact ⟨_, _, rfl, big60 (by decide), big60 (by decide), .inl rfl⟩
    · exact ⟨_, _, rfl, big60 (by decide), big60 (by decide), .inr ⟨by decide, by rw [lowB_gcd (by decide)]; decide⟩⟩
    · exact ⟨_, _, rfl, big60 (by decide), big60 (by decide), .inl rfl⟩
    · exact ⟨_, _, rfl, big60 (by decide), big60 (by decide), .inl rfl⟩
    · exact ⟨_, _, rfl, big60 (by decide), big60 (by decide), .inr ⟨by decide, by rw [lowB_gcd (by decide)]; decide⟩⟩
    · exact ⟨_, _, rfl, big60 (by decide), big60 (by decide), .inr ⟨by decide, by rw [lowB_gcd (by decide)]; decide +kernel⟩⟩
  obtain ⟨sa1, sa2, rfl, fst⟩ := hst
  have hsa : ∃ a b, sa = .tup [.int a, .int b] ∧ FrT a b := by
    simp only [List.mem_cons, List.not_mem_nil, or_false] at hsa
    rcases hsa with rfl | rfl | rfl | rfl
    · exact ⟨_, _, rfl, big60 (by decide), big60 (by decide), .inl rfl⟩
    · exact ⟨_, _, rfl, big60 (by omega), big60 (by decide), .inl rfl⟩
    · exact ⟨_, _, rfl, big60 (by omega), big60 (by decide), .inr ⟨by decide, by
        rw [lowB_gcd (by decide), decide_eq_true_iff]
        have h1 : Int.gcd (1 + 2 * k) 2 ∣ 2 := by exact Int.natCast_dvd_natCast.mp (Int.gcd_dvd_right _ _)
        have h2 : (Int.gcd (1 + 2 * k) 2 : Int) ∣ 1 + 2 * k := Int.gcd_dvd_left _ _
        have h3 : Int.gcd (1 + 2 * k) 2 ≤ 2 := Nat.le_of_dvd (by decide) h1
        have h4 : 0 < Int.gcd (1 + 2 * k) 2 := Int.gcd_pos_of_ne_zero_right _ (by decide)
        by_cases q : Int.gcd (1 + 2 * k) 2 = 2
        · rw [q] at h2
          omega
        · omega⟩⟩
    · exact ⟨_, _, rfl, big60 (by decide), big60 (by decide), .inr ⟨by decide, by rw [lowB_gcd (by decide)]; decide⟩⟩
  obtain ⟨ss1, ss2, rfl, fsa⟩ := hsa
  have hn : 1 ≤ n ∧ n.natAbs ≤ 1000000000000000000000000000000 := by
    simp only [List.mem_cons, List.not_mem_nil, or_false] at hn
    omega
  have n60 := big60 hn.2
  have hz1 : ∃ z, z1 = .str (S z) ∧ nmL z = true := by
    simp only [List.mem_cons, List.not_mem_nil, or_false] at hz1
    rcases hz1 with rfl | rfl | rfl
    · exact ⟨_, congrArg D.str e_names.1, by decide⟩
    · exact ⟨_, congrArg D.str e_names.2.1, by decide⟩
    · exact ⟨_, congrArg D.str e_names.2.2.1, by decide⟩
  obtain ⟨z1, rfl, nz1⟩ := hz1
  have hz2 : ∃ z, z2 = .str (S z) ∧ nmL z = true := by
    simp only [List.mem_cons, List.not_mem_nil, or_false] at hz2
    rcases hz2 with rfl | rfl | rfl
    · exact ⟨_, congrArg D.str e_names.2.2.2.1, by decide⟩
    · exact ⟨_, congrArg D.str e_names.2.2.2.2.1, by decide⟩
    · exact ⟨_, congrArg D.str e_names.2.2.2.2.2, by decide⟩
  obtain ⟨z2, rfl, nz2⟩ := hz2
  by_cases c0 : x % 5 = 0
  · rw [c0] at i5
    exact ⟨.gap n, _, by simp [fn__law_part, b__law_part, pw, o_div, divOk_s, i6, i90, i30, i17, i5k, i11, i5, o_mul, mulOk_l, m1, g30, pst, psa, pn, It.d], sh_gap hn.1 n60, by show ("gap" : Str) ≠ "mix"; decide +kernel⟩
  · by_cases c1 : x % 5 = 1
    · rw [c1] at i5
      exact ⟨.oth "nest" [.str (S z1), .int u] n, _, by simp [fn__law_part, b__law_part, pw, o_div, divOk_s, i6, i90, i30, i17, i5k, i11, i5, i7, i19, o_mul, mulOk_l, m1, g30, pst, psa, pn, pz1, It.d], sh_nest nz1 u1.1 (big60 (by omega)) hn.1 n60, by show ("nest" : Str) ≠ "mix"; decide +kernel⟩
    · exact ⟨.oth "clip" [.str (S z2), .tup [.int ss1, .int ss2], .tup [.int sa1, .int sa2]] n, _, by simp [fn__law_part, b__law_part, pw, o_div, divOk_s, i6, i90, i30, i17, i5k, i11, i5, c0, c1, i7, o_mul, mulOk_l, m1, g30, pst, psa, pn, pz2, It.d], sh_clip nz2 fsa fst hn.1 n60, by show ("clip" : Str) ≠ "mix"; decide +kernel⟩
/-! the list so far -/
theorem gk_cat : ∀ (ts us : List It) (b : Bool), gk b ts = true → gk b (ts ++ us) = gk false us
  | [], us, b, h => by
    cases b with
    | true => cases h
    | false => rfl
  | .gap n :: r, us, b, h => by
    rw [gk_gap, Bool.and_eq_true] at h
    rw [List.cons_append, gk_gap, h.1, gk_cat r us true h.2]
    rfl
  | .oth s m n :: r, us, b, h => by
    rw [gk_oth] at h
    rw [List.cons_append, gk_oth, gk_cat r us false h]
theorem mx_app {w : Str} (hw : w ≠ "mix") : ∀ (ks : List Str) (p : Str), mxL p ks = true → mxL p (ks ++ [w]) = true
  | [], p, _ => by simp [mxL, hw]
  | k :: ks, p, h => by
    unfold mxL at h
    rw [Bool.and_eq_true] at h
    rw [List.cons_append]
    unfold mxL
    rw [Bool.and_eq_true]
    refine ⟨?_, mx_app hw ks k h.2⟩
    cases ks with
    | cons n ks => simpa using h.1
    | nil =>
      have h1 := h.1
      by_cases q : k = "mix"
      · simp [q] at h1
      · simp [q]
theorem mx_mix {w : Str} (hw : w = "clip") (hx : ("clip" : Str) ≠ "mix") : ∀ (ks : List Str) (p : Str), mxL p (ks ++ [w]) = true → mxL p (ks ++ [w] ++ [("mix" : Str), "clip"]) = true
  | [], p, _ => by simp [mxL, hw, hx]
  | k :: ks, p, h => by
    rw [List.cons_append] at h
    unfold mxL at h
    rw [Bool.and_eq_true] at h
    rw [List.cons_append, List.cons_append]
    unfold mxL
    rw [Bool.and_eq_true]
    refine ⟨?_, mx_mix hw hx ks k h.2⟩
    have h1 := h.1
    cases ks with
    | nil => simpa using h1
    | cons n ks => simpa using h1
/-- the track so far: items shown by words, no gap beside a gap, mixes between clips -/
structure Tk (ps : List (It × List (List Nat))) : Prop where
  s : ∀ p ∈ ps, Sh p.1 p.2
  g : gk false (ps.map (·.1)) = true ∨ ∃ us n ws, ps = us ++ [(It.gap n, ws)] ∧ gk false (us.map (·.1)) = true
  m : mxL "begin" (ps.map (·.1.kd)) = true
theorem Sh.rd {t : It} {ws : List (List Nat)} (h : Sh t ws) : t.Rd := riw_rd (fun w hw => (h.w w hw).1) h.r
theorem tk_nil : Tk [] := ⟨by simp, .inl rfl, rfl⟩
theorem cm : ("clip" : Str) ≠ "mix" := by decide +kernel
theorem Tk.oth {ps : List (It × List (List Nat))} (h : Tk ps) {t : It} {ws : List (List Nat)} (ht : Sh t ws) (hm : t.kd ≠ "mix") (hg : t.kd ≠ "gap") : Tk (ps ++ [(t, ws)]) := by
  refine ⟨fun p hp => ?_, .inl ?_, ?_⟩
  · rcases List.mem_append.mp hp with hp | hp
    · exact h.s p hp
    · rw [List.mem_singleton.mp hp]; exact ht
  · cases t with
    | gap n => exact absurd rfl hg
    | oth s m n =>
      rw [List.map_append]
      rcases h.g with g | ⟨us, k, w, rfl, g⟩
      · rw [gk_cat _ _ _ g]; rfl
      · rw [List.map_append, List.append_assoc, gk_cat _ _ _ g]; rfl
  · rw [List.map_append]
    exact mx_app hm _ _ h.m
theorem Tk.gap {ps : List (It × List (List Nat))} (h : Tk ps) {n : Int} {ws : List (List Nat)} (ht : Sh (.gap n) ws) (hl : ps = [] ∨ ∃ us u w, ps = us ++ [(u, w)] ∧ u.kd ≠ ("gap" : Str)) : Tk (ps ++ [(.gap n, ws)]) := by
  refine ⟨fun p hp => ?_, .inr ⟨ps, n, ws, rfl, ?_⟩, ?_⟩
  · rcases List.mem_append.mp hp with hp | hp
    · exact h.s p hp
    · rw [List.mem_singleton.mp hp]; exact ht
  · rcases h.g with g | ⟨us, k, w, e, g⟩
    · exact g
    · rcases hl with rfl | ⟨us', u, w', e', ne⟩
      · rfl
      · rw [e] at e'
        have := List.append_inj_right' e' rfl
        simp at this
        rw [← this.1] at ne
        exact absurd rfl ne
  · rw [List.map_append]
    exact mx_app (by show ("gap" : Str) ≠ "mix"; decide +kernel) _ _ h.m
theorem Tk.mix {us : List (It × List (List Nat))} {u : It} {w : List (List Nat)} (h : Tk (us ++ [(u, w)])) (hu : u.kd = "clip") {m t : It} {wm wt : List (List Nat)} (hm : Sh m wm) (km : m.kd = "mix") (ht : Sh t wt) (kt : t.kd = "clip") : Tk (us ++ [(u, w)] ++ [(m, wm), (t, wt)]) := by
  refine ⟨fun p hp => ?_, .inl ?_, ?_⟩
  · rcases List.mem_append.mp hp with hp | hp
    · exact h.s p hp
    · rcases List.mem_cons.mp hp with rfl | hp
      · exact hm
      · rw [List.mem_singleton.mp hp]; exact ht
  · have hs : gk false ((us ++ [(u, w)]).map (·.1)) = true := by
      rcases h.g with g | ⟨us', k, w', e, _⟩
      · exact g
      · have := List.append_inj_right' e rfl
        simp at this
        rw [this.1] at hu
        exact absurd hu (by show ("gap" : Str) ≠ "clip"; decide +kernel)
    rw [List.map_append, gk_cat _ _ _ hs]
    cases m with
    | gap n => exact absurd km (by show ("gap" : Str) ≠ "mix"; decide +kernel)
    | oth s1 m1 n1 =>
      cases t with
      | gap n => exact absurd kt (by show ("gap" : Str) ≠ "clip"; decide +kernel)
      | oth s2 m2 n2 => rfl
  · have := h.m
    rw [List.map_append] at this
    rw [List.map_append, List.map_append]
    have r := mx_mix hu cm _ _ this
    simp only [List.map_cons, List.map_nil, km, kt] at r ⊢
    exact r
theorem gk_last : ∀ (ts : List It) (n : Int) (b : Bool), gk b (ts ++ [.gap n]) = false
  | [], n, b => by cases b <;> rfl
  | .gap m :: r, n, b => by rw [List.cons_append, gk_gap, gk_last r n true, Bool.and_false]
  | .oth s m k :: r, n, b => by rw [List.cons_append, gk_oth, gk_last r n false]
theorem mx_pre {w : Str} (hw : w ≠ "clip") : ∀ (ks : List Str) (p : Str), mxL p (ks ++ [w]) = true → mxL p ks = true
  | [], p, _ => rfl
  | k :: ks, p, h => by
    rw [List.cons_append] at h
    unfold mxL at h
    rw [Bool.and_eq_true] at h
    unfold mxL
    rw [Bool.and_eq_true]
    refine ⟨?_, mx_pre hw ks k h.2⟩
    have h1 := h.1
    cases ks with
    | nil =>
      by_cases q : k = "mix"
      · simp [q, hw] at h1
      · simp [q]
    | cons n ks => simpa using h1
theorem gc : ("gap" : Str) ≠ "clip" := by decide +kernel
theorem Tk.init {us : List (It × List (List Nat))} {n : Int} {ws : List (List Nat)} (h : Tk (us ++ [(.gap n, ws)])) : gk false (us.map (·.1)) = true ∧ mxL "begin" (us.map (·.1.kd)) = true := by
  refine ⟨?_, ?_⟩
  · rcases h.g with g | ⟨us', k, w', e, g⟩
    · rw [List.map_append] at g
      have := gk_last (us.map (·.1)) n false
      rw [show ([(It.gap n, ws)].map (·.1)) = [It.gap n] from rfl, this] at g
      cases g
    · have := List.append_inj_left' e rfl
      rw [this]
      exact g
  · have := h.m
    rw [List.map_append] at this
    exact mx_pre gc _ _ this
theorem Tk.fin {ps : List (It × List (List Nat))} (h : Tk ps) (hl : ps = [] ∨ ∃ us u w, ps = us ++ [(u, w)] ∧ u.kd ≠ ("gap" : Str)) : gk false (ps.map (·.1)) = true := by
  rcases h.g with g | ⟨us, k, w, e, g⟩
  · exact g
  · rcases hl with rfl | ⟨us', u, w', e', ne⟩
    · rfl
    · rw [e] at e'
      have := List.append_inj_right' e' rfl
      simp at this
      rw [← this.1] at ne
      exact absurd rfl ne
/-- one cell more -/
theorem track_turn {cs : List D} {ps : List (It × List (List Nat))} {k : Int} {c : Int} {v3 v4 : Sl} {v2 : Sl} (hc : atD cs k = some (.int c)) (hk : 0 ≤ k ∧ k ≤ 1000) (h : Tk ps) (hl : ps.length ≤ 1000) :
    ∃ ps' v3' v4', turn (gNam 2) b__law_track_1 (.int k) [.sh (.lst cs), .ow false (ps.map fun p => p.1.d), v2, v3, v4] = .nx [.sh (.lst cs), .ow false (ps'.map fun p => p.1.d), .sh (.int k), v3', v4'] ∧ Tk ps' ∧ ps'.length ≤ ps.length + 2 := by
  obtain ⟨xs, dr, lx, bx⟩ := drawn_ok (c + 31 * k) 3 (by decide)
  obtain ⟨x0, x1, x2, rfl⟩ : ∃ a b d, xs = [a, b, d] := by
    match xs, lx with
    | [a, b, d], _ => exact ⟨a, b, d, rfl⟩
  simp only [List.mem_cons, List.not_mem_nil, or_false, forall_eq_or_imp, forall_eq] at bx
  have dr : fn__law_drawn [.int (c + 31 * k), .int 3] = .ok (.lst [.int x0, .int x1, .int x2]) := dr
  obtain ⟨t, ws, pt, sh, nm⟩ := part_ok (x := x2) (c := c) bx.2.2.1
  have m31 := o_mul (mulOk_l (i := 31) (j := k) (by decide) (by omega))
  have i0 := t.ix0
  have rd := sh.rd
  have t1 := o_eqs rd.ks s_clip
  have t2 := o_nes rd.ks sGap
  have i4 := o_rem (i := x2) (j := 4) (by decide)
  have ll : (ps.map fun p => p.1.d).length < 1000000 := by simp; omega
  have ek : D.eqok 20 (.lst (ps.map fun p => p.1.d)) = true := by
    have := It.eqs (ts := ps.map (·.1)) fun t ht => by
      obtain ⟨p, hp, rfl⟩ := List.mem_map.mp ht
      exact (h.s p hp).rd.1
    rw [List.map_map] at this
    exact this
  have tg : t.kd = "gap" → ∃ n, t = .gap n := fun z => by
    cases t with
    | gap n => exact ⟨n, rfl⟩
    | oth s m n => exact absurd z rd.1.1
  rcases List.eq_nil_or_concat ps with rfl | ⟨us, ⟨u, w⟩, rfl⟩
  · have n0 : opNe (.lst []) (.lst []) = some (.bl false) := o_neS (by simp)
    have e0 : opEq (.lst []) (.lst []) = some (.bl true) := o_eqS (by simp)
    have tk : Tk [(t, ws)] := by
      by_cases g : t.kd = "gap"
      · obtain ⟨n, rfl⟩ := tg g
        exact tk_nil.gap sh (.inl rfl)
      · exact tk_nil.oth sh nm g
    refine ⟨[(t, ws)], .sh (.int x2), .sh t.d, ?_, tk, by simp⟩
    rw [turn_nam' (by simp)]
    cases q1 : decide (t.kd = "clip") with
    | true =>
      rw [q1] at t1
      cases q2 : decide (t.kd = "gap") with
      | true =>
        rw [q2] at t2
        simp [b__law_track_1, hc, dr, pt, o_mul, mulOk_l, m31, i0, t1, t2, n0, e0]
      | false =>
        rw [q2] at t2
        simp [b__law_track_1, hc, dr, pt, o_mul, mulOk_l, m31, i0, t1, t2, n0, e0]
    | false =>
      rw [q1] at t1
      cases q2 : decide (t.kd = "gap") with
      | true =>
        rw [q2] at t2
        simp [b__law_track_1, hc, dr, pt, o_mul, mulOk_l, m31, i0, t1, t2, n0, e0]
      | false =>
        rw [q2] at t2
        simp [b__law_track_1, hc, dr, pt, o_mul, mulOk_l, m31, i0, t1, t2, n0, e0]
  · rw [List.concat_eq_append] at *
    have ru : u.Rd := (h.s (u, w) (by simp)).rd
    have j0 := u.ix0
    have u1 := o_eqs ru.ks s_clip
    have u2 := o_nes ru.ks sGap
    rw [List.map_append] at ek ll ⊢
    have ek : D.eqok 20 (.lst ((us.map fun p => p.1.d) ++ [u.d])) = true := ek
    have n0 : opNe (.lst ((us.map fun p => p.1.d) ++ [u.d])) (.lst []) = some (.bl true) := by
      rw [o_ne ek (by simp)]
      cases us <;> simp
    have e0 : opEq (.lst ((us.map fun p => p.1.d) ++ [u.d])) (.lst []) = some (.bl false) := by
      rw [o_eq ek (by simp)]
      cases us <;> simp
    have al : atD ((us.map fun p => p.1.d) ++ [u.d]) (-1) = some u.d := at_last
    have ll : (us.map fun p => p.1.d).length + 1 < 1000000 := by simpa using ll
    have ll2 : (us.map fun p => p.1.d).length + 2 < 1000000 := by simp at hl ⊢; omega
    show ∃ ps' v3' v4', turn (gNam 2) b__law_track_1 (.int k) [.sh (.lst cs), .ow false ((us.map fun p => p.1.d) ++ [u.d]), v2, v3, v4] = _ ∧ _
    by_cases g : t.kd = "gap"
    · obtain ⟨n, rfl⟩ := tg g
      rw [decide_eq_true g] at t2
      rw [decide_eq_false (fun z => gc (g.symm.trans z))] at t1
      by_cases ug : u.kd = "gap"
      · rw [decide_eq_true ug] at u2
        refine ⟨us ++ [(u, w)], .sh (.int x2), .sh (It.gap n).d, ?_, h, by simp⟩
        rw [List.map_append]
        generalize (us.map fun p => p.1.d) = L at *
        rw [turn_nam' (by simp)]
        simp [b__law_track_1, hc, dr, pt, o_mul, mulOk_l, m31, i0, t1, t2, n0, e0, al, j0, u2]
      · rw [decide_eq_false ug] at u2
        refine ⟨us ++ [(u, w)] ++ [(.gap n, ws)], .sh (.int x2), .sh (It.gap n).d, ?_, h.gap sh (.inr ⟨us, u, w, rfl, ug⟩), by simp⟩
        rw [List.map_append, List.map_append]
        generalize (us.map fun p => p.1.d) = L at *
        rw [turn_nam' (by simp)]
        simp [b__law_track_1, hc, dr, pt, o_mul, mulOk_l, m31, i0, t1, t2, n0, e0, al, j0, u2, ll]
    · rw [decide_eq_false g] at t2
      by_cases q : t.kd = "clip" ∧ u.kd = "clip" ∧ x2 % 4 < 2
      · obtain ⟨q1, q2, q3⟩ := q
        rw [decide_eq_true q1] at t1
        rw [decide_eq_true q2] at u1
        have i23 := o_rem (i := x2 / 23) (j := 9) (by decide)
        have sm := sh_mix (n := 1 + x2 / 23 % 9) (by omega) (big60 (by omega))
        have dm : (It.oth "mix" [] (1 + x2 / 23 % 9)).d = .tup [.str "mix", .int (1 + x2 / 23 % 9)] := rfl
        refine ⟨us ++ [(u, w)] ++ [(.oth "mix" [] (1 + x2 / 23 % 9), _), (t, ws)], .sh (.int x2), .sh t.d, ?_, h.mix q2 sm rfl sh q1, by simp⟩
        rw [List.map_append, List.map_append]
        generalize (us.map fun p => p.1.d) = L at *
        rw [turn_nam' (by simp)]
        simp [b__law_track_1, hc, dr, pt, o_mul, mulOk_l, m31, i0, t1, t2, n0, e0, al, j0, u1, u2, ll, ll2, i4, q3, o_div, divOk_s, i23, dm]
      · refine ⟨us ++ [(u, w)] ++ [(t, ws)], .sh (.int x2), .sh t.d, ?_, h.oth sh nm g, by simp⟩
        rw [List.map_append, List.map_append]
        generalize (us.map fun p => p.1.d) = L at *
        rw [turn_nam' (by simp)]
        by_cases q1 : t.kd = "clip"
        · rw [decide_eq_true q1] at t1
          by_cases q2 : u.kd = "clip"
          · rw [decide_eq_true q2] at u1
            have q3 : ¬ x2 % 4 < 2 := fun z => q ⟨q1, q2, z⟩
            simp [b__law_track_1, hc, dr, pt, o_mul, mulOk_l, m31, i0, t1, t2, n0, e0, al, j0, u1, u2, ll, i4, q3]
          · rw [decide_eq_false q2] at u1
            simp [b__law_track_1, hc, dr, pt, o_mul, mulOk_l, m31, i0, t1, t2, n0, e0, al, j0, u1, u2, ll]
        · rw [decide_eq_false q1] at t1
          simp [b__law_track_1, hc, dr, pt, o_mul, mulOk_l, m31, i0, t1, t2, n0, e0, al, j0, u2, ll]
theorem track_ok (ns : List Int) (hl : ns.length ≤ 12) : ∃ ps : List (It × List (List Nat)), fn__law_track [.lst (ns.map D.int)] = .ok (.lst (ps.map fun p => p.1.d)) ∧ (∀ p ∈ ps, Sh p.1 p.2) ∧ gk false (ps.map (·.1)) = true ∧ mxL "begin" (ps.map (·.1.kd)) = true ∧ ps.length ≤ 24 := by
  obtain ⟨e1, h1, ps, v2, v3, v4, rfl, tk, lp⟩ := loop_at (g := gNam 2) (b := b__law_track_1) (fun i e => ∃ (ps : List (It × List (List Nat))) (v2 v3 v4 : Sl), e = [.sh (.lst (ns.map D.int)), .ow false (ps.map fun p => p.1.d), v2, v3, v4] ∧ Tk ps ∧ ps.length ≤ 2 * i)
    ((List.range ns.length).map fun (i : Nat) => .int (i : Int)) [.sh (.lst (ns.map D.int)), .ow false [], .no, .no, .no] ⟨[], .no, .no, .no, rfl, tk_nil, by simp⟩ (by
    rintro i d hd e ⟨ps, v2, v3, v4, rfl, tk, lp⟩
    obtain ⟨hi, rfl⟩ := rng_at hd
    obtain ⟨ps', v3', v4', e, tk', lp'⟩ := track_turn (v2 := v2) (v3 := v3) (v4 := v4) (at_ints (ns := ns) hi) (by omega) tk (by omega)
    exact ⟨_, e, ps', _, _, _, rfl, tk', by omega⟩)
  have r := rng1_of (m := vCons (vBf bfLen (vCons (vVar 0) vNil)) vNil) (e := [.sh (.lst (ns.map D.int)), .ow false [], .no, .no, .no]) (e1 := [.sh (.lst (ns.map D.int)), .ow false [], .no, .no, .no]) (j := ns.length) (by simp) (by omega) (by omega)
  rw [Int.toNat_natCast] at r
  simp only [List.length_map, List.length_range] at lp
  have ek : D.eqok 20 (.lst (ps.map fun p => p.1.d)) = true := by
    have := It.eqs (ts := ps.map (·.1)) fun t ht => by
      obtain ⟨p, hp, rfl⟩ := List.mem_map.mp ht
      exact (tk.s p hp).rd.1
    rw [List.map_map] at this
    exact this
  rcases List.eq_nil_or_concat ps with rfl | ⟨us, ⟨u, w⟩, rfl⟩
  · have n0 : opNe (.lst []) (.lst []) = some (.bl false) := o_neS (by simp)
    exact ⟨[], by simp at h1; simp [fn__law_track, b__law_track, r, h1, n0], by simp, rfl, rfl, by simp⟩
  · rw [List.concat_eq_append] at *
    have ru : u.Rd := (tk.s (u, w) (by simp)).rd
    have j0 := u.ix0
    have u1 := o_eqs ru.ks sGap
    rw [List.map_append] at ek h1
    have ek : D.eqok 20 (.lst ((us.map fun p => p.1.d) ++ [u.d])) = true := ek
    have n0 : opNe (.lst ((us.map fun p => p.1.d) ++ [u.d])) (.lst []) = some (.bl true) := by
      rw [o_ne ek (by simp)]
      cases us <;> simp
    have al : atD ((us.map fun p => p.1.d) ++ [u.d]) (-1) = some u.d := at_last
    have h1 : forL (gNam 2) b__law_track_1 ((List.range ns.length).map fun (i : Nat) => .int (i : Int)) [.sh (.lst (ns.map D.int)), .ow false [], .no, .no, .no] = .nx [.sh (.lst (ns.map D.int)), .ow false ((us.map fun p => p.1.d) ++ [u.d]), v2, v3, v4] := h1
    by_cases ug : u.kd = "gap"
    · have : ∃ n, u = .gap n := by
        cases u with
        | gap n => exact ⟨n, rfl⟩
        | oth s m n => exact absurd ug ru.1.1
      obtain ⟨n, rfl⟩ := this
      rw [decide_eq_true ug] at u1
      obtain ⟨g, m⟩ := tk.init
      refine ⟨us, ?_, fun p hp => tk.s p (by simp [hp]), g, m, by simp at lp; omega⟩
      have pp := pop_of (i := 1) (e := [.sh (.lst (ns.map D.int)), .ow false ((us.map fun p => p.1.d) ++ [(It.gap n).d]), v2, v3, v4]) (xs := us.map fun p => p.1.d) (d := (It.gap n).d) rfl
      generalize (us.map fun p => p.1.d) = L at *
      simp [fn__law_track, b__law_track, r, h1, n0, al, j0, u1, pp]
    · rw [decide_eq_false ug] at u1
      refine ⟨us ++ [(u, w)], ?_, tk.s, tk.fin (.inr ⟨us, u, w, rfl, ug⟩), tk.m, by simp at lp ⊢; omega⟩
      rw [List.map_append]
      show _ = FR.ok (.lst ((us.map fun p => p.1.d) ++ [u.d]))
      generalize (us.map fun p => p.1.d) = L at *
      simp [fn__law_track, b__law_track, r, h1, n0, al, j0, u1]

/-! texts put together, and changed -/
theorem joinL_two {sep p q : List Nat} {r : List (List Nat)} : TL.joinL sep (p :: q :: r) = p ++ (sep ++ TL.joinL sep (q :: r)) := by
  first | rfl | simp [TL.joinL]
theorem joinL_len {sep : List Nat} : ∀ ws : List (List Nat), (TL.joinL sep ws).length ≤ sumL ws + ws.length * sep.length
  | [] => by simp [TL.joinL]
  | [p] => by simp [TL.joinL, sumL]
  | p :: q :: r => by
    have ih := joinL_len (sep := sep) (q :: r)
    rw [joinL_two]
    simp only [sumL, List.map_cons, List.sum_cons, List.length_append, List.length_cons, Nat.succ_mul] at ih ⊢
    omega
theorem joinL_mem {sep : List Nat} : ∀ (ws : List (List Nat)), ∀ c ∈ TL.joinL sep ws, c ∈ sep ∨ ∃ w ∈ ws, c ∈ w
  | [] => by simp [TL.joinL]
  | [p] => fun c hc => .inr ⟨p, by simp, hc⟩
  | p :: q :: r => by
    rw [joinL_two]
    intro c hc
    simp only [List.mem_append] at hc
    rcases hc with hc | hc | hc
    · exact .inr ⟨p, by simp, hc⟩
    · exact .inl hc
    · rcases joinL_mem (q :: r) c hc with z | ⟨w, hw, z⟩
      · exact .inl z
      · exact .inr ⟨w, List.mem_cons_of_mem _ hw, z⟩
theorem joinL_ne {sep : List Nat} : ∀ {ws : List (List Nat)}, ws ≠ [] → (∀ w ∈ ws, w ≠ []) → TL.joinL sep ws ≠ []
  | [], h, _ => absurd rfl h
  | [p], _, h => by simpa [TL.joinL] using h p (by simp)
  | p :: q :: r, _, h => by
    rw [joinL_two]
    have := h p (by simp)
    simp [this]
/-- a text of signs -/
def Sg (a : List Nat) : Prop := ∀ c ∈ a, c < 1114112
theorem sumL_cat (a b : List (List Nat)) : sumL (a ++ b) = sumL a + sumL b := by simp [sumL]
theorem sumL_take (ws : List (List Nat)) (i : Nat) : sumL (ws.take i) + sumL (ws.drop i) = sumL ws := by
  rw [← sumL_cat, List.take_append_drop]
theorem sumL_drop1 (ws : List (List Nat)) (i : Nat) : sumL (ws.drop (i + 1)) ≤ sumL (ws.drop i) := by
  have h := sumL_take (ws.drop i) 1
  rw [List.drop_drop] at h
  omega
theorem len_take (ws : List (List Nat)) (i : Nat) : (ws.take i).length + (ws.drop i).length = ws.length := by
  rw [List.length_take, List.length_drop]
  omega
/-- the join of pieces of a text -/
theorem join_pieces {sep qs : List (List Nat)} {s a : List Nat} (hs : s = [59, 32] ∨ s = [32]) (hq : ∀ q ∈ qs, Sg q) (h1 : sumL qs ≤ 2 * a.length) (h2 : qs.length ≤ a.length + 2) (ha : a.length ≤ 300000) :
    ∃ b, opJoin (S s) (.lst ((qs.map S).map D.str)) = some (.str (S b)) ∧ Sg b ∧ b.length ≤ 4 * a.length + 4 := by
  have sl : s.length ≤ 2 := by rcases hs with rfl | rfl <;> simp
  have m : qs.length * s.length ≤ (a.length + 2) * 2 := Nat.mul_le_mul h2 sl
  refine ⟨TL.joinL s qs, join_ok (by omega), fun c hc => ?_, ?_⟩
  · rcases joinL_mem qs c hc with z | ⟨w, hw, z⟩
    · rcases hs with rfl | rfl <;> simp at z <;> omega
    · exact hq w hw c z
  · have := joinL_len (sep := s) qs
    omega
theorem sl_to_S {a : List Nat} {k : Int} (h : a.length ≤ 1000000) (hk : 0 ≤ k) : slT none (some k) (.str (S a)) = some (.str (S (a.take k.toNat))) := by
  rw [slT_str (by rw [S_len]; exact h)]
  congr 2
  rw [S_of (cutSD _ _ _), cut_to hk]
theorem sl_from_S {a : List Nat} {k : Int} (h : a.length ≤ 1000000) (hk : 0 ≤ k) : slT (some k) none (.str (S a)) = some (.str (S (a.drop k.toNat))) := by
  rw [slT_str (by rw [S_len]; exact h)]
  congr 2
  rw [S_of (cutSD _ _ _), cut_from hk]
theorem ix_in {a : List Nat} {i : Int} (h : a.length ≤ 1000000) (h0 : 0 ≤ i) (h1 : i < a.length) : ∃ c ∈ a, opIx (.str (S a)) (.int i) = some (.str (S [c])) := by
  have ix : ixD a.length i = some i.toNat := by
    unfold ixD
    rw [if_pos h0, if_pos (by omega)]
  have lt : i.toNat < a.length := by omega
  refine ⟨a[i.toNat], List.getElem_mem lt, ?_⟩
  show (if (S a).length ≤ vmax then _ else none) = _
  rw [if_pos (by rw [vmax_eq, S_len]; omega)]
  show (ixD a.length i).bind _ = _
  rw [ix]
  show (a[i.toNat]?).map _ = _
  rw [List.getElem?_eq_getElem lt]
  rfl
theorem ix_piece {ps : List (List Nat)} {i : Int} (h0 : 0 ≤ i) (h1 : i < ps.length) : ∃ p ∈ ps, atD ((ps.map S).map D.str) i = some (.str (S p)) := by
  have lt : i.toNat < ps.length := by omega
  exact ⟨ps[i.toNat], List.getElem_mem lt, at_of (n := i.toNat) (by omega) (by simp [lt])⟩
theorem cat_S {xs ys : List (List Nat)} (h : xs.length + ys.length ≤ 1000000) : catL (.lst ((xs.map S).map D.str)) (.lst ((ys.map S).map D.str)) = some (((xs ++ ys).map S).map D.str) := by
  rw [o_catL (by simpa using h)]
  simp
theorem sl_to_L {ps : List (List Nat)} {k : Int} (hk : 0 ≤ k) : slT none (some k) (.lst ((ps.map S).map D.str)) = some (.lst (((ps.take k.toNat).map S).map D.str)) := by
  rw [slT_to hk]
  simp
theorem sl_from_L {ps : List (List Nat)} {k : Int} (hk : 0 ≤ k) : slT (some k) none (.lst ((ps.map S).map D.str)) = some (.lst (((ps.drop k.toNat).map S).map D.str)) := by
  rw [slT_from hk]
  simp
theorem items_ok {a : List Nat} (h : Tx a) {x y : Int} : ∃ b, fn__law_items_changed [.str (S a), .int x, .int y] = .ok (.str (S b)) ∧ Sg b ∧ b.length ≤ 4 * a.length + 4 := by
  have sp := split_at [59, 32] (by simp) (by simp) h
  have op := mf1_of (op := opSplit) (a := vVar 0) (b := vC (.str (S [59, 32]))) (e := [.sh (.str (S a)), .sh (.int x), .sh (.int y), .no, .no, .no]) rfl rfl sp
  have tw : ∀ w ∈ TL.spl [59, 32] 0 [] a, Sg w := fun w hw => (spl_tx (sep := [59, 32]) h w hw).c
  obtain ⟨s1, s2⟩ := spl_sum (sep := [59, 32]) a 0 []
  have pl := List.length_pos_iff.mpr (spl_ne (sep := [59, 32]) a 0 [])
  have hl := h.l
  simp only [List.length_nil, Nat.zero_add] at s1
  generalize TL.spl [59, 32] 0 [] a = ps at *
  have ln : bfLen [.lst ((ps.map S).map D.str)] = some (.int (ps.length : Nat)) := by simp
  have r1 := o_rem (i := x / 3) (j := (ps.length : Nat)) (by omega)
  have r2 := o_rem (i := y) (j := (ps.length : Nat)) (by omega)
  have r3 := o_rem (i := x) (j := 3) (by decide)
  obtain ⟨i, hi⟩ : ∃ i, i = x / 3 % ((ps.length : Nat) : Int) := ⟨_, rfl⟩
  obtain ⟨j, hj⟩ : ∃ i, i = y % ((ps.length : Nat) : Int) := ⟨_, rfl⟩
  have i0 : 0 ≤ i := by rw [hi]; exact Int.emod_nonneg _ (by omega)
  have i1 : i < ps.length := by rw [hi]; exact Int.emod_lt_of_pos _ (by omega)
  have j0 : 0 ≤ j := by rw [hj]; exact Int.emod_nonneg _ (by omega)
  have j1 : j < ps.length := by rw [hj]; exact Int.emod_lt_of_pos _ (by omega)
  rw [← hi] at r1
  rw [← hj] at r2
  obtain ⟨p, hp, ep⟩ := ix_piece (ps := ps) j0 j1
  have mp := mem_sum hp
  have c1 := sl_to_L (ps := ps) i0
  have c2 := sl_from_L (ps := ps) i0
  have c3 := sl_from_L (ps := ps) (k := i + 1) (by omega)
  have e3 : (i + 1).toNat = i.toNat + 1 := by omega
  rw [e3] at c3
  obtain ⟨n, hn⟩ : ∃ n, n = i.toNat := ⟨_, rfl⟩
  rw [← hn] at c1 c2 c3
  have u1 := sumL_take ps n
  have u2 := sumL_drop1 ps n
  have v1 := len_take ps n
  have v2 : (ps.drop (n + 1)).length ≤ (ps.drop n).length := by simp; omega
  have sp1 : sumL [p] = p.length := by simp [sumL]
  have inT : ∀ q ∈ ps.take n, Sg q := fun q hq => tw q (List.mem_of_mem_take hq)
  have inD : ∀ k, ∀ q ∈ ps.drop k, Sg q := fun k q hq => tw q (List.mem_of_mem_drop hq)
  have k1 := cat_S (xs := ps.take n) (ys := ps.drop (n + 1)) (by omega)
  have k2 := cat_S (xs := ps.take n) (ys := [p]) (by simp; omega)
  have k3 := cat_S (xs := ps.take n ++ [p]) (ys := ps.drop n) (by simp at v1 ⊢; omega)
  have k4 := cat_S (xs := ps.take n ++ [p]) (ys := ps.drop (n + 1)) (by simp at v1 ⊢; omega)
  obtain ⟨b1, o1, g1, l1⟩ := join_pieces (sep := []) (s := [59, 32]) (a := a) (qs := ps.take n ++ ps.drop (n + 1)) (.inl rfl) (fun q hq => (List.mem_append.mp hq).elim (inT q) (inD _ q)) (by rw [sumL_cat]; omega) (by rw [List.length_append]; omega) hl
  obtain ⟨b2, o2, g2, l2⟩ := join_pieces (sep := []) (s := [59, 32]) (a := a) (qs := ps.take n ++ [p] ++ ps.drop n) (.inl rfl) (fun q hq => by
    rcases List.mem_append.mp hq with hq | hq
    · rcases List.mem_append.mp hq with hq | hq
      · exact inT q hq
      · rw [List.mem_singleton.mp hq]; exact tw p hp
    · exact inD _ q hq) (by rw [sumL_cat, sumL_cat, sp1]; omega) (by rw [List.length_append, List.length_append, List.length_singleton]; omega) hl
  obtain ⟨b3, o3, g3, l3⟩ := join_pieces (sep := []) (s := [59, 32]) (a := a) (qs := ps.take n ++ [p] ++ ps.drop (n + 1)) (.inl rfl) (fun q hq => by
    rcases List.mem_append.mp hq with hq | hq
    · rcases List.mem_append.mp hq with hq | hq
      · exact inT q hq
      · rw [List.mem_singleton.mp hq]; exact tw p hp
    · exact inD _ q hq) (by rw [sumL_cat, sumL_cat, sp1]; omega) (by rw [List.length_append, List.length_append, List.length_singleton]; omega) hl
  have pS : ([p].map S).map D.str = [D.str (S p)] := rfl
  rw [pS] at k2
  clear hi hj
  generalize ((ps.take n ++ ps.drop (n + 1)).map S).map D.str = Q1 at *
  generalize ((ps.take n ++ [p] ++ ps.drop n).map S).map D.str = Q2 at *
  generalize ((ps.take n ++ [p] ++ ps.drop (n + 1)).map S).map D.str = Q3 at *
  generalize ((ps.take n ++ [p]).map S).map D.str = Q4 at *
  generalize ((ps.take n).map S).map D.str = Q5 at *
  generalize ((ps.drop n).map S).map D.str = Q6 at *
  generalize ((ps.drop (n + 1)).map S).map D.str = Q7 at *
  generalize (ps.map S).map D.str = Q at *
  generalize ((ps.length : Nat) : Int) = L at *
  obtain ⟨w, hw⟩ : ∃ w, w = x % 3 := ⟨_, rfl⟩
  have hw' : w = 0 ∨ w = 1 ∨ w = 2 := by omega
  rw [← hw] at r3
  have jj : ∀ {q : List D} {b : List Nat} {m : MA} {e : Env}, opJoin (S [59, 32]) (.lst q) = some (.str (S b)) → m e = .ok q e → vM1 opJoin (vC (.str (S [59, 32]))) (vOf m) e = .ok (.str (S b)) e := fun {q b m e} h1 h2 => m1_of (a := vC (.str (S [59, 32]))) (b := vOf m) rfl (by simp [h2]) h1
  have m1 := jj (m := vCatF (vSl (vVar 3) vNoPart (vPart (vVar 4))) (vSl (vVar 3) (vPart (vOp opAdd (vVar 4) (vC (.int 1)))) vNoPart)) (e := [.sh (.str (S a)), .sh (.int x), .sh (.int y), .sh (.lst Q), .sh (.int i), .sh (.int j)]) o1 (by simp [c1, c3, k1])
  have m2 := jj (m := vCatF (vOf (vCatF (vSl (vVar 3) vNoPart (vPart (vVar 4))) (vOf (vLstD (vCons (vOp opIx (vVar 3) (vVar 5)) vNil))))) (vSl (vVar 3) (vPart (vVar 4)) vNoPart)) (e := [.sh (.str (S a)), .sh (.int x), .sh (.int y), .sh (.lst Q), .sh (.int i), .sh (.int j)]) o2 (by simp [c1, c2, ep, k2, k3])
  have m3 := jj (m := vCatF (vOf (vCatF (vSl (vVar 3) vNoPart (vPart (vVar 4))) (vOf (vLstD (vCons (vOp opIx (vVar 3) (vVar 5)) vNil))))) (vSl (vVar 3) (vPart (vOp opAdd (vVar 4) (vC (.int 1)))) vNoPart)) (e := [.sh (.str (S a)), .sh (.int x), .sh (.int y), .sh (.lst Q), .sh (.int i), .sh (.int j)]) o3 (by simp [c1, c3, ep, k2, k4])
  clear hw
  rcases hw' with rfl | rfl | rfl
  · exact ⟨b1, by simp [fn__law_items_changed, b__law_items_changed, e_semi, op, ln, o_div, divOk_s, r1, r2, r3, m1], g1, l1⟩
  · exact ⟨b2, by simp [fn__law_items_changed, b__law_items_changed, e_semi, op, ln, o_div, divOk_s, r1, r2, r3, m2], g2, l2⟩
  · exact ⟨b3, by simp [fn__law_items_changed, b__law_items_changed, e_semi, op, ln, o_div, divOk_s, r1, r2, r3, m3], g3, l3⟩
theorem e_signs : Str.ofString "0123456789-/; abclipnestgapmixz" = S [48, 49, 50, 51, 52, 53, 54, 55, 56, 57, 45, 47, 59, 32, 97, 98, 99, 108, 105, 112, 110, 101, 115, 116, 103, 97, 112, 109, 105, 120, 122] := S_lit _ _ (by decide +kernel)
theorem changed_ok {a : List Nat} (h : Tx a) {x y : Int} : ∃ b, fn__law_changed [.str (S a), .int x, .int y] = .ok (.str (S b)) ∧ Sg b ∧ b.length ≤ 4 * a.length + 4 := by
  have hl := h.l
  have ln := len_S h
  have sp := split_at [32] (by simp) (by simp) h
  have tw : ∀ w ∈ TL.spl [32] 0 [] a, Sg w := fun w hw => (spl_tx (sep := [32]) h w hw).c
  obtain ⟨s1, s2⟩ := spl_sum (sep := [32]) a 0 []
  have pl := List.length_pos_iff.mpr (spl_ne (sep := [32]) a 0 [])
  simp only [List.length_nil, Nat.zero_add] at s1
  generalize TL.spl [32] 0 [] a = ps at *
  obtain ⟨t, ht⟩ : ∃ t, t = y % (((a.length : Nat) : Int) + 1) := ⟨_, rfl⟩
  have ry := o_rem (i := y) (j := ((a.length : Nat) : Int) + 1) (by omega)
  have t0 : 0 ≤ t := by rw [ht]; exact Int.emod_nonneg _ (by omega)
  rw [← ht] at ry
  have r6 := o_rem (i := x) (j := 6) (by decide)
  have r1 := o_rem (i := y) (j := (ps.length : Nat)) (by omega)
  have r2 := o_rem (i := y / 97) (j := (ps.length : Nat)) (by omega)
  have r31 := o_rem (i := y / 97) (j := 31) (by decide)
  obtain ⟨i, hi⟩ : ∃ i, i = y % ((ps.length : Nat) : Int) := ⟨_, rfl⟩
  obtain ⟨j, hj⟩ : ∃ i, i = y / 97 % ((ps.length : Nat) : Int) := ⟨_, rfl⟩
  have i0 : 0 ≤ i := by rw [hi]; exact Int.emod_nonneg _ (by omega)
  have i1 : i < ps.length := by rw [hi]; exact Int.emod_lt_of_pos _ (by omega)
  have j0 : 0 ≤ j := by rw [hj]; exact Int.emod_nonneg _ (by omega)
  have j1 : j < ps.length := by rw [hj]; exact Int.emod_lt_of_pos _ (by omega)
  rw [← hi] at r1
  rw [← hj] at r2
  obtain ⟨w, hw⟩ : ∃ w, w = x % 6 := ⟨_, rfl⟩
  rw [← hw] at r6
  by_cases w2 : w < 2
  · obtain ⟨b, e, g, l⟩ := items_ok h (x := x / 6) (y := y)
    exact ⟨b, by simp [fn__law_changed, b__law_changed, ln, ry, r6, w2, o_div, divOk_s, e], g, l⟩
  · have op := mf1_of (op := opSplit) (a := vVar 0) (b := vC (.str (S [32]))) (e := [.sh (.str (S a)), .sh (.int x), .sh (.int y), .sh (.int w), .sh (.int t), .no, .no, .no]) rfl rfl sp
    have lnp : bfLen [.lst ((ps.map S).map D.str)] = some (.int (ps.length : Nat)) := by simp
    have hw' : w = 2 ∨ w = 3 ∨ w = 4 ∨ w = 5 := by omega
    have jj : ∀ {q : List D} {b : List Nat} {m : ME} {e e' : Env}, opJoin (S [32]) (.lst q) = some (.str (S b)) → m e = .ok (.lst q) e' → vM1 opJoin (vC (.str (S [32]))) m e = .ok (.str (S b)) e' := fun {q b m e e'} h1 h2 => m1_of (a := vC (.str (S [32]))) (b := m) rfl h2 h1
    clear hw
    rcases hw' with rfl | rfl | rfl | rfl
    · -- a word out
      have c1 := sl_to_L (ps := ps) i0
      have c3 := sl_from_L (ps := ps) (k := i + 1) (by omega)
      have e3 : (i + 1).toNat = i.toNat + 1 := by omega
      rw [e3] at c3
      obtain ⟨n, hn⟩ : ∃ n, n = i.toNat := ⟨_, rfl⟩
      rw [← hn] at c1 c3
      have u1 := sumL_take ps n
      have u2 := sumL_drop1 ps n
      have v1 := len_take ps n
      have v2 : (ps.drop (n + 1)).length ≤ (ps.drop n).length := by simp; omega
      have k1 := cat_S (xs := ps.take n) (ys := ps.drop (n + 1)) (by omega)
      obtain ⟨b1, o1, g1, l1⟩ := join_pieces (sep := []) (s := [32]) (a := a) (qs := ps.take n ++ ps.drop (n + 1)) (.inr rfl) (fun q hq => (List.mem_append.mp hq).elim (fun z => tw q (List.mem_of_mem_take z)) (fun z => tw q (List.mem_of_mem_drop z))) (by rw [sumL_cat]; omega) (by rw [List.length_append]; omega) hl
      clear hi hj
      generalize ((ps.take n ++ ps.drop (n + 1)).map S).map D.str = Q1 at *
      generalize ((ps.take n).map S).map D.str = Q5 at *
      generalize ((ps.drop (n + 1)).map S).map D.str = Q7 at *
      generalize (ps.map S).map D.str = Q at *
      generalize ((ps.length : Nat) : Int) = L at *
      refine ⟨b1, ?_, g1, l1⟩
      have m1 := jj (m := vOf (vCatF (vSl (vVar 5) vNoPart (vPart (vVar 6))) (vSl (vVar 5) (vPart (vOp opAdd (vVar 6) (vC (.int 1)))) vNoPart))) (e := [.sh (.str (S a)), .sh (.int x), .sh (.int y), .sh (.int 2), .sh (.int t), .ow false Q, .sh (.int i), .no]) (e' := [.sh (.str (S a)), .sh (.int x), .sh (.int y), .sh (.int 2), .sh (.int t), .sh (.lst Q), .sh (.int i), .no]) o1 (by simp [c1, c3, k1])
      simp [fn__law_changed, b__law_changed, ln, ry, r6, o_div, divOk_s, e_blank, op, lnp, r1, m1]
    · -- a word of another item
      obtain ⟨p, hp, ep⟩ := ix_piece (ps := ps) j0 j1
      have mp := mem_sum hp
      obtain ⟨n, hn⟩ : ∃ n, n = i.toNat := ⟨_, rfl⟩
      have ix : ixD ((ps.map S).map D.str).length i = some n := by
        unfold ixD
        rw [List.length_map, List.length_map, if_pos i0, if_pos (by omega), hn]
      have es : ((ps.map S).map D.str).set n (.str (S p)) = ((ps.set n p).map S).map D.str := by
        rw [List.map_set, List.map_set]
      have nl : n < ps.length := by omega
      have su : sumL (ps.set n p) ≤ sumL ps + p.length := by
        rw [List.set_eq_take_append_cons_drop, if_pos nl]
        have u1 := sumL_take ps n
        have u2 := sumL_drop1 ps n
        rw [sumL_cat]
        simp only [sumL, List.map_cons, List.sum_cons] at u1 u2 ⊢
        omega
      obtain ⟨b1, o1, g1, l1⟩ := join_pieces (sep := []) (s := [32]) (a := a) (qs := ps.set n p) (.inr rfl) (fun q hq => by
        rcases List.mem_or_eq_of_mem_set hq with z | z
        · exact tw q z
        · rw [z]; exact tw p hp) (by omega) (by rw [List.length_set]; omega) hl
      rw [← es] at o1
      clear hi hj es su
      generalize (ps.map S).map D.str = Q at *
      generalize ((ps.length : Nat) : Int) = L at *
      have st := set_of (i := 5) (ix := vVar 6) (a := vBor (vOp opIx (vVar 5) (vOp opMod (vOp opFdiv (vVar 2) (vC (.int 97))) (vBf bfLen (vCons (vVar 5) vNil))))) (e := [.sh (.str (S a)), .sh (.int x), .sh (.int y), .sh (.int 3), .sh (.int t), .ow false Q, .sh (.int i), .no]) (e1 := [.sh (.str (S a)), .sh (.int x), .sh (.int y), .sh (.int 3), .sh (.int t), .ow false Q, .sh (.int i), .no]) (e2 := [.sh (.str (S a)), .sh (.int x), .sh (.int y), .sh (.int 3), .sh (.int t), .ow false Q, .sh (.int i), .no]) (ds := Q) (d := .str (S p)) (k := i) (j := n)
        (by simp [o_div, divOk_s, lnp, r2, ep]) rfl (by simp) rfl ix
      have m1 := jj (m := vVar 5) (e := [.sh (.str (S a)), .sh (.int x), .sh (.int y), .sh (.int 3), .sh (.int t), .ow false (Q.set n (.str (S p))), .sh (.int i), .no]) (e' := [.sh (.str (S a)), .sh (.int x), .sh (.int y), .sh (.int 3), .sh (.int t), .sh (.lst (Q.set n (.str (S p)))), .sh (.int i), .no]) o1 (by simp)
      generalize Q.set n (.str (S p)) = Q2 at *
      exact ⟨b1, by simp [fn__law_changed, b__law_changed, ln, ry, r6, o_div, divOk_s, e_blank, op, lnp, r1, st, m1], g1, l1⟩
    · -- a sign out
      have c1 := sl_to_S (a := a) (by omega) t0
      have c2 := sl_from_S (a := a) (k := t + 1) (by omega) (by omega)
      have ad := o_addS (x := S (a.take t.toNat)) (y := S (a.drop (t + 1).toNat)) (by rw [S_len, S_len, List.length_take, List.length_drop]; omega)
      rw [S_cat] at ad
      refine ⟨a.take t.toNat ++ a.drop (t + 1).toNat, ?_, fun c hc => ?_, by rw [List.length_append, List.length_take, List.length_drop]; omega⟩
      · clear hi hj
        generalize (ps.map S).map D.str = Q at *
        generalize ((ps.length : Nat) : Int) = L at *
        generalize a.take t.toNat ++ a.drop (t + 1).toNat = B at *
        simp [fn__law_changed, b__law_changed, ln, ry, r6, o_div, divOk_s, e_blank, op, lnp, r1, c1, c2, ad]
      · rcases List.mem_append.mp hc with z | z
        · exact h.c c (List.mem_of_mem_take z)
        · exact h.c c (List.mem_of_mem_drop z)
    · -- a sign in
      obtain ⟨c, hc, ec⟩ := ix_in (a := [48, 49, 50, 51, 52, 53, 54, 55, 56, 57, 45, 47, 59, 32, 97, 98, 99, 108, 105, 112, 110, 101, 115, 116, 103, 97, 112, 109, 105, 120, 122]) (i := y / 97 % 31) (by simp) (by omega) (by simp; omega)
      have cl : c < 1114112 := by
        simp only [List.mem_cons, List.not_mem_nil, or_false] at hc
        omega
      have c1 := sl_to_S (a := a) (by omega) t0
      have c2 := sl_from_S (a := a) (by omega) t0
      have a1 := o_addS (x := S (a.take t.toNat)) (y := S [c]) (by rw [S_len, S_len, List.length_take]; simp; omega)
      have a2 := o_addS (x := S (a.take t.toNat ++ [c])) (y := S (a.drop t.toNat)) (by rw [S_len, S_len, List.length_append, List.length_take, List.length_drop]; simp; omega)
      rw [S_cat] at a1 a2
      refine ⟨a.take t.toNat ++ [c] ++ a.drop t.toNat, ?_, fun d hd => ?_, by rw [List.length_append, List.length_append, List.length_take, List.length_drop]; simp; omega⟩
      · clear hi hj
        generalize (ps.map S).map D.str = Q at *
        generalize ((ps.length : Nat) : Int) = L at *
        generalize a.take t.toNat ++ [c] ++ a.drop t.toNat = B at *
        generalize a.take t.toNat ++ [c] = B2 at *
        simp [fn__law_changed, b__law_changed, ln, ry, r6, o_div, divOk_s, e_blank, e_signs, op, lnp, r1, r31, ec, c1, c2, a1, a2]
      · rcases List.mem_append.mp hd with z | z
        · rcases List.mem_append.mp z with z | z
          · exact h.c d (List.mem_of_mem_take z)
          · rw [List.mem_singleton.mp z]; exact cl
        · exact h.c d (List.mem_of_mem_drop z)

/-! the law -/
abbrev tx1 (p : It × List (List Nat)) : List Nat := TL.joinL [32] p.2
theorem Sh.ri {t : It} {ws : List (List Nat)} (h : Sh t ws) : ri (TL.joinL [32] ws) = some t := by
  unfold VL.ri
  rw [SX.spl_join h.n fun w hw => (h.w w hw).2.1]
  exact h.r
theorem Sh.tx {t : It} {ws : List (List Nat)} (h : Sh t ws) : Tx (TL.joinL [32] ws) ∧ 59 ∉ TL.joinL [32] ws ∧ (TL.joinL [32] ws).length ≤ 655 := by
  have l := joinL_len (sep := [32]) ws
  have s := sum_le (k := 130) fun w hw => (h.w w hw).2.2.2
  have m : ws.length * 130 ≤ 5 * 130 := Nat.mul_le_mul_right _ h.l
  have hl := h.l
  simp only [List.length_singleton, Nat.mul_one] at l
  refine ⟨⟨by omega, fun c hc => ?_⟩, fun hc => ?_, by omega⟩
  · rcases joinL_mem ws c hc with z | ⟨w, hw, z⟩
    · rw [List.mem_singleton.mp z]; decide
    · exact (h.w w hw).1.c c z
  · rcases joinL_mem ws 59 hc with z | ⟨w, hw, z⟩
    · cases List.mem_singleton.mp z
    · exact (h.w w hw).2.2.1 z
theorem riw_word {ws : List (List Nat)} {t : It} (h : riw ws = some t) : TL.joinL [32] ws ≠ [] := by
  match ws with
  | [k, n, s, p, l] => rw [joinL_two]; simp
  | [k, n, s, l] => rw [joinL_two]; simp
  | [k, l] => rw [joinL_two]; simp
  | [] => cases h
  | [k] => cases h
  | [k, l, m] => cases h
  | k :: l :: m :: n :: o :: p :: r => cases h
section
variable {ps : List (It × List (List Nat))} (hs : ∀ p ∈ ps, Sh p.1 p.2) (hl : ps.length ≤ 24)
include hs in
theorem mapO_ps : mapO ri (ps.map tx1) = some (ps.map (·.1)) := by
  induction ps with
  | nil => rfl
  | cons p ps ih =>
    rw [List.map_cons]
    unfold mapO
    rw [(hs p (by simp)).ri, ih fun q hq => hs q (by simp [hq])]
    rfl
include hs hl in
theorem whole_tx : Tx (TL.joinL [59, 32] (ps.map tx1)) ∧ (TL.joinL [59, 32] (ps.map tx1)).length ≤ 15768 := by
  have l := joinL_len (sep := [59, 32]) (ps.map tx1)
  have s := sum_le (ws := ps.map tx1) (k := 655) fun w hw => by
    obtain ⟨p, hp, rfl⟩ := List.mem_map.mp hw
    exact (hs p hp).tx.2.2
  have m : (ps.map tx1).length * 655 ≤ 24 * 655 := Nat.mul_le_mul_right _ (by simpa using hl)
  have m2 : (ps.map tx1).length * 2 ≤ 24 * 2 := Nat.mul_le_mul_right _ (by simpa using hl)
  have e2 : ([59, 32] : List Nat).length = 2 := rfl
  rw [e2] at l
  refine ⟨⟨by omega, fun c hc => ?_⟩, by omega⟩
  rcases joinL_mem _ c hc with z | ⟨w, hw, z⟩
  · simp at z; omega
  · obtain ⟨p, hp, rfl⟩ := List.mem_map.mp hw
    exact (hs p hp).tx.1.c c z
include hs in
theorem rt_ps (g : gk false (ps.map (·.1)) = true) (m : mxL "begin" (ps.map (·.1.kd)) = true) : rt (TL.joinL [59, 32] (ps.map tx1)) = some (ps.map (·.1)) := by
  unfold rt
  cases ps with
  | nil => rfl
  | cons p r =>
    have ne : TL.joinL [59, 32] ((p :: r).map tx1) ≠ [] := joinL_ne (by simp) fun w hw => by
      obtain ⟨q, hq, rfl⟩ := List.mem_map.mp hw
      exact riw_word (hs q hq).r
    rw [if_neg ne, SX.spl_join (by simp) (fun w hw => by
      obtain ⟨q, hq, rfl⟩ := List.mem_map.mp hw
      exact (hs q hq).tx.2.1), mapO_ps hs]
    dsimp only
    have m' : mxL "begin" (((p :: r).map (·.1)).map It.kd) = true := by rw [List.map_map]; exact m
    rw [g, m']
    rfl
/-- the texts of the items, in a list -/
abbrev dps (ps : List (It × List (List Nat))) : List D := ps.map fun p => p.1.d
def frD : FR → D
  | .ok x => x
  | _ => .non
include hs in
theorem shown_map : (dps ps).map (fun d => frD (fn_show_item [d])) = ((ps.map tx1).map S).map D.str ∧ (dps ps).map (fun d => frD (fn__law_item_text [d])) = ((ps.map tx1).map S).map D.str := by
  rw [List.map_map, List.map_map, List.map_map, List.map_map]
  refine ⟨List.map_congr_left fun p hp => ?_, List.map_congr_left fun p hp => ?_⟩
  · show frD (fn_show_item [p.1.d]) = _
    rw [(hs p hp).t1]
    rfl
  · show frD (fn__law_item_text [p.1.d]) = _
    rw [(hs p hp).t2]
    rfl
include hs hl in
theorem track_join : opJoin (S [59, 32]) (.lst (((ps.map tx1).map S).map D.str)) = some (.str (S (TL.joinL [59, 32] (ps.map tx1)))) := by
  refine join_ok ?_
  have s := sum_le (ws := ps.map tx1) (k := 655) fun w hw => by
    obtain ⟨p, hp, rfl⟩ := List.mem_map.mp hw
    exact (hs p hp).tx.2.2
  have m : (ps.map tx1).length * 655 ≤ 24 * 655 := Nat.mul_le_mul_right _ (by simpa using hl)
  have m2 : (ps.map tx1).length * 2 ≤ 24 * 2 := Nat.mul_le_mul_right _ (by simpa using hl)
  have e2 : ([59, 32] : List Nat).length = 2 := rfl
  rw [e2]
  omega
include hs hl in
theorem show_track_ok : fn_show_track [.lst (dps ps)] = .ok (.str (S (TL.joinL [59, 32] (ps.map tx1)))) := by
  have lc := vLc_map (it := vSeqI (vVar 0)) (g := gNam 1) (t := vYes) (el := el_show_track_1) (own := [1]) (e := [.sh (.lst (dps ps)), .no]) (e0 := [.sh (.lst (dps ps)), .no]) (e1 := [.sh (.lst (dps ps)), .no]) (ds := dps ps) (fun d => frD (fn_show_item [d])) (by simp) (by simp) (by
    intro d hd
    obtain ⟨p, hp, rfl⟩ := List.mem_map.mp hd
    have t := (hs p hp).t1
    simp [el_show_track_1, t, frD]) (by simp) (by simp; omega)
  rw [(shown_map hs).1] at lc
  have j := track_join hs hl
  generalize ((ps.map tx1).map S).map D.str = Q at *
  have m1 := m1_of (op := opJoin) (a := vC (.str (S [59, 32]))) (b := vOf (vLc (vSeqI (vVar 0)) (gNam 1) vYes el_show_track_1 [1])) (e := [.sh (.lst (dps ps)), .no]) (e1 := [.sh (.lst (dps ps)), .no]) (e2 := [.sh (.lst (dps ps)), .no]) (y := .lst Q) rfl (by simp [lc]) j
  generalize dps ps = T at *
  simp [fn_show_track, b_show_track, e_semi, m1]
end
theorem o_neStr {z : Str} (h : strS z = true) : opNe (.str z) (.str z) = some (.bl false) := o_neS (by simp [h])
theorem len8 {xs : List Int} (h : xs.length = 8) : ∃ a b c d e f g i, xs = [a, b, c, d, e, f, g, i] := by
  match xs, h with
  | [a, b, c, d, e, f, g, i], _ => exact ⟨a, b, c, d, e, f, g, i, rfl⟩
theorem odd_turn {v0 v1 v2 v3 v4 v5 v6 v7 v8 v9 : Sl} {d : D} (h : opIsi "str" d = some (.bl false)) : turn (gNam 9) b_law_4 d [v0, v1, v2, v3, v4, v5, v6, v7, v8, v9] = .nx [v0, v1, v2, v3, v4, v5, v6, v7, v8, .sh d] := by
  have r := lread_odd h
  have n : opIsNot (.bl false) (.bl false) = some (.bl false) := rfl
  rw [turn_nam' (by simp)]
  simp [b_law_4, r, n]
theorem odd_loop {v0 v1 v2 v3 v4 v5 v6 v7 v8 v9 : Sl} {T : List D} : ∃ v9', forL (gNam 9) b_law_4 [.non, .int 7, .lst T, .tup [.str "gap", .int 3], .bl true] [v0, v1, v2, v3, v4, v5, v6, v7, v8, v9] = .nx [v0, v1, v2, v3, v4, v5, v6, v7, v8, v9'] := by
  refine ⟨.sh (.bl true), ?_⟩
  rw [forL_nx (odd_turn rfl), forL_nx (odd_turn rfl), forL_nx (odd_turn rfl), forL_nx (odd_turn rfl), forL_nx (odd_turn rfl)]
  rfl
def Bd3 : Nat → Nat
  | 0 => 15768
  | 1 => 63076
  | _ => 252308
theorem chg_loop {v0 v1 v3 v4 v7 v8 v9 : Sl} {a : List Nat} (h : Tx a) (hl : a.length ≤ 15768) {x0 x1 x2 x3 x4 x5 x6 x7 : Int} (n : Nat) (hn : n ≤ 2) :
    ∃ b v6, forL (gNam 6) b_law_3 ((List.range n).map fun (i : Nat) => .int (i : Int)) [v0, v1, .sh (.str (S a)), v3, v4, .sh (.lst [.int x0, .int x1, .int x2, .int x3, .int x4, .int x5, .int x6, .int x7]), .no, v7, v8, v9] = .nx [v0, v1, .sh (.str (S b)), v3, v4, .sh (.lst [.int x0, .int x1, .int x2, .int x3, .int x4, .int x5, .int x6, .int x7]), v6, v7, v8, v9] ∧ Tx b := by
  obtain ⟨e1, h1, b, v6, rfl, tb, lb⟩ := loop_at (g := gNam 6) (b := b_law_3) (fun i e => ∃ (b : List Nat) (v6 : Sl), e = [v0, v1, .sh (.str (S b)), v3, v4, .sh (.lst [.int x0, .int x1, .int x2, .int x3, .int x4, .int x5, .int x6, .int x7]), v6, v7, v8, v9] ∧ Sg b ∧ b.length ≤ Bd3 i)
    ((List.range n).map fun (i : Nat) => .int (i : Int)) [v0, v1, .sh (.str (S a)), v3, v4, .sh (.lst [.int x0, .int x1, .int x2, .int x3, .int x4, .int x5, .int x6, .int x7]), .no, v7, v8, v9] ⟨a, .no, rfl, h.c, hl⟩ (by
    rintro i d hd e ⟨b, v6, rfl, sb, lb⟩
    obtain ⟨hi, rfl⟩ := rng_at hd
    have i01 : i = 0 ∨ i = 1 := by omega
    have tb : Tx b := ⟨by rcases i01 with rfl | rfl <;> simp only [Bd3] at lb <;> omega, sb⟩
    rcases i01 with rfl | rfl
    · obtain ⟨b', eb, sb', lb'⟩ := changed_ok tb (x := x3) (y := x5)
      refine ⟨_, by rw [turn_nam' (by simp)]; simp [b_law_3, eb]; rfl, b', _, rfl, sb', ?_⟩
      simp only [Bd3] at lb ⊢
      omega
    · obtain ⟨b', eb, sb', lb'⟩ := changed_ok tb (x := x4) (y := x6)
      have a4 : atD [D.int x0, D.int x1, D.int x2, D.int x3, D.int x4, D.int x5, D.int x6, D.int x7] 4 = some (.int x4) := rfl
      have a6 : atD [D.int x0, D.int x1, D.int x2, D.int x3, D.int x4, D.int x5, D.int x6, D.int x7] 6 = some (.int x6) := rfl
      refine ⟨_, by rw [turn_nam' (by simp)]; simp [b_law_3, a4, a6, eb]; rfl, b', _, rfl, sb', ?_⟩
      simp only [Bd3] at lb ⊢
      omega)
  refine ⟨b, v6, h1, ⟨?_, tb⟩⟩
  simp only [List.length_map, List.length_range] at lb
  have : n = 0 ∨ n = 1 ∨ n = 2 := by omega
  rcases this with rfl | rfl | rfl <;> simp only [Bd3] at lb <;> omega

theorem item_turn {v0 v1 v2 v3 v4 v5 v6 v7 v8 v9 : Sl} {t : It} {ws : List (List Nat)} (h : Sh t ws) : turn (gNam 4) b_law_2 t.d [v0, v1, v2, v3, v4, v5, v6, v7, v8, v9] = .nx [v0, v1, v2, v3, .sh t.d, v5, v6, v7, v8, v9] := by
  obtain ⟨tx, _, _⟩ := h.tx
  have n1 := o_neStr tx.s
  have r := ritem_ok tx
  rw [h.ri] at r
  dsimp only at r
  have e19 := h.rd.1.e
  have e20 : D.eqok 20 t.d = true := eqok_succ 19 _ e19
  have n2 : opNe t.d t.d = some (.bl false) := o_neS e20
  have t1 := h.t1
  have t2 := h.t2
  generalize TL.joinL [32] ws = A at *
  generalize t.d = T at *
  rw [turn_nam' (by simp)]
  simp [b_law_2, t1, t2, n1, r, n2]
theorem rt_rd {a : List Nat} {ts : List It} (h : Tx a) (e : rt a = some ts) : ∀ t ∈ ts, t.Rd := by
  unfold rt at e
  split at e
  · cases e
    simp
  · split at e
    · rename_i us q
      split at e
      · cases e
        exact (mapO_rd (spl_tx h) q).1
      · cases e
    · cases e
theorem law_pure (ns : List Int) (hl : ns.length ≤ 63) : fn_law [.lst (ns.map D.int)] = .ok (.bl true) := by
  have sl : slT (some 1) (some 13) (.lst (ns.map D.int)) = some (.lst (((ns.drop 1).take 12).map D.int)) := by
    rw [slT_two (by decide) (by decide)]
    simp
  obtain ⟨ps, ht, hs, g, m, lp⟩ := track_ok ((ns.drop 1).take 12) (by rw [List.length_take]; omega)
  obtain ⟨cell, hc⟩ := cell_ok ns 0 (by decide)
  obtain ⟨xs, dr, lx, bx⟩ := drawn_ok cell 8 (by decide)
  obtain ⟨x0, x1, x2, x3, x4, x5, x6, x7, rfl⟩ := len8 lx
  have dr : fn__law_drawn [.int cell, .int 8] = .ok (.lst [.int x0, .int x1, .int x2, .int x3, .int x4, .int x5, .int x6, .int x7]) := dr
  obtain ⟨tA, lA⟩ := whole_tx hs lp
  have st := show_track_ok hs lp
  have rA := rtrack_ok tA
  rw [rt_ps hs g m] at rA
  have dd : (ps.map (·.1)).map It.d = dps ps := by rw [List.map_map]; rfl
  dsimp only at rA
  rw [dd] at rA
  have ekT : D.eqok 20 (.lst (dps ps)) = true := by
    have := It.eqs (ts := ps.map (·.1)) fun t ht => by
      obtain ⟨p, hp, rfl⟩ := List.mem_map.mp ht
      exact (hs p hp).rd.1
    rw [dd] at this
    exact this
  have nT : opNe (.lst (dps ps)) (.lst (dps ps)) = some (.bl false) := o_neS ekT
  have nA := o_neStr tA.s
  -- the text
  have lc := vLc_map (it := vSeqI (vVar 1)) (g := gNam 4) (t := vYes) (el := el_law_1) (own := [4]) (e := [.sh (.lst (ns.map D.int)), .sh (.lst (dps ps)), .no, .no, .no, .no, .no, .no, .no, .no]) (e0 := [.sh (.lst (ns.map D.int)), .sh (.lst (dps ps)), .no, .no, .no, .no, .no, .no, .no, .no]) (e1 := [.sh (.lst (ns.map D.int)), .sh (.lst (dps ps)), .no, .no, .no, .no, .no, .no, .no, .no]) (ds := dps ps) (fun d => frD (fn__law_item_text [d])) (by simp) (by simp) (by
    intro d hd
    obtain ⟨p, hp, rfl⟩ := List.mem_map.mp hd
    have t := (hs p hp).t2
    simp [el_law_1, t, frD]) (by simp) (by simp; omega)
  rw [(shown_map hs).2] at lc
  have j := track_join hs lp
  -- the items
  obtain ⟨e4, h4, v4, rfl⟩ := loop_inv (g := gNam 4) (b := b_law_2) (fun e => ∃ v4, e = [.sh (.lst (ns.map D.int)), .sh (.lst (dps ps)), .sh (.str (S (TL.joinL [59, 32] (ps.map tx1)))), .sh (.lst (dps ps)), v4, .no, .no, .no, .no, .no]) (dps ps) [.sh (.lst (ns.map D.int)), .sh (.lst (dps ps)), .sh (.str (S (TL.joinL [59, 32] (ps.map tx1)))), .sh (.lst (dps ps)), .no, .no, .no, .no, .no, .no] ⟨_, rfl⟩ (by
    rintro d hd e ⟨v4, rfl⟩
    obtain ⟨p, hp, rfl⟩ := List.mem_map.mp hd
    exact ⟨_, item_turn (hs p hp), _, rfl⟩)
  -- the changes
  have r2 := o_rem (i := x2) (j := 2) (by decide)
  have w2 : (1 + x2 % 2).toNat ≤ 2 := by omega
  obtain ⟨b, v6, hb, tb⟩ := chg_loop (v0 := .sh (.lst (ns.map D.int))) (v1 := .sh (.lst (dps ps))) (v3 := .sh (.lst (dps ps))) (v4 := v4) (v7 := .no) (v8 := .no) (v9 := .no) tA lA (x0 := x0) (x1 := x1) (x2 := x2) (x3 := x3) (x4 := x4) (x5 := x5) (x6 := x6) (x7 := x7) (1 + x2 % 2).toNat w2
  have lt := ltrack_ok tb
  have lr := lread_ok tb
  have r0 := rtrack_ok tx_nil
  rw [show rt [] = some [] from rfl] at r0
  dsimp only [List.map_nil] at r0
  have e0 : opEq (.lst []) (.lst []) = some (.bl true) := o_eqS (by simp)
  have sl := sl
  generalize (((ns.drop 1).take 12).map D.int) = NS at *
  have rg := rng1_of (m := vCons (vOp opAdd (vC (.int 1)) (vOp opMod (vOp opIx (vVar 5) (vC (.int 2))) (vC (.int 2)))) vNil) (e := [.sh (.lst (ns.map D.int)), .sh (.lst (dps ps)), .sh (.str (S (TL.joinL [59, 32] (ps.map tx1)))), .sh (.lst (dps ps)), v4, .sh (.lst [.int x0, .int x1, .int x2, .int x3, .int x4, .int x5, .int x6, .int x7]), .no, .no, .no, .no])
    (e1 := [.sh (.lst (ns.map D.int)), .sh (.lst (dps ps)), .sh (.str (S (TL.joinL [59, 32] (ps.map tx1)))), .sh (.lst (dps ps)), v4, .sh (.lst [.int x0, .int x1, .int x2, .int x3, .int x4, .int x5, .int x6, .int x7]), .no, .no, .no, .no]) (j := 1 + x2 % 2) (by simp [r2]) (by omega) (by omega)
  generalize TL.joinL [59, 32] (ps.map tx1) = A at *
  have m1 := m1_of (op := opJoin) (a := vC (.str (S [59, 32]))) (b := vOf (vLc (vSeqI (vVar 1)) (gNam 4) vYes el_law_1 [4])) (e := [.sh (.lst (ns.map D.int)), .sh (.lst (dps ps)), .no, .no, .no, .no, .no, .no, .no, .no]) (e1 := [.sh (.lst (ns.map D.int)), .sh (.lst (dps ps)), .no, .no, .no, .no, .no, .no, .no, .no]) (e2 := [.sh (.lst (ns.map D.int)), .sh (.lst (dps ps)), .no, .no, .no, .no, .no, .no, .no, .no]) (y := .lst (((ps.map tx1).map S).map D.str)) rfl (by simp [lc]) j
  change fn__law_track [.lst NS] = .ok (.lst (dps ps)) at ht
  generalize dps ps = T at *
  generalize ((List.range (1 + x2 % 2).toNat).map fun (i : Nat) => D.int (i : Int)) = RG at *
  cases q : rt b with
  | none =>
    rw [q] at lt lr
    obtain ⟨v9, od⟩ := odd_loop (v0 := .sh (.lst (ns.map D.int))) (v1 := .sh (.lst T)) (v2 := .sh (.str (S b))) (v3 := .sh (.lst T)) (v4 := v4) (v5 := .sh (.lst [.int x0, .int x1, .int x2, .int x3, .int x4, .int x5, .int x6, .int x7])) (v6 := v6) (v7 := .sh .non) (v8 := .sh (.bl false)) (v9 := .no) (T := T)
    have b1 : opIsNot (.bl false) (.bl false) = some (.bl false) := rfl
    have b2 : opIsNot .non .non = some (.bl false) := rfl
    simp [fn_law, b_law, sl, ht, e_semi, m1, st, nT, nA, rA, h4, hc, dr, rg, hb, lt, lr, is_n, b1, b2, od, e_empty, r0, e0]
  | some ts =>
    rw [q] at lt lr
    obtain ⟨v9, od⟩ := odd_loop (v0 := .sh (.lst (ns.map D.int))) (v1 := .sh (.lst T)) (v2 := .sh (.str (S b))) (v3 := .sh (.lst T)) (v4 := v4) (v5 := .sh (.lst [.int x0, .int x1, .int x2, .int x3, .int x4, .int x5, .int x6, .int x7])) (v6 := v6) (v7 := .sh (.lst (ts.map It.d))) (v8 := .sh (.lst (ts.map It.d))) (v9 := .no) (T := T)
    have i1 : opIs (.lst (ts.map It.d)) .non = some (.bl false) := rfl
    have i2 : opIsNot (.lst (ts.map It.d)) .non = some (.bl true) := rfl
    have rd := rt_rd tb q
    have i3 : opNe (.lst (ts.map It.d)) (.lst (ts.map It.d)) = some (.bl false) := o_neS (It.eqs fun t ht => (rd t ht).1)
    dsimp only at lt lr
    generalize ts.map It.d = U at *
    simp [fn_law, b_law, sl, ht, e_semi, m1, st, nT, nA, rA, h4, hc, dr, rg, hb, lt, lr, i1, i2, i3, od, e_empty, r0, e0]

end VL

open PySem PySem.W PySem.Calls PyProof.Rows in
theorem PySem.Challenge.cw_reelcut_k85_tracks_in_texts_holds : PySem.Challenge.rw_reelcut_k85_tracks_in_texts.Holds := by
  w_on; o_law
  refine HandSHeadRun.head_any (r := VL.R0) (q := view VL.R0.prog [45]) (H := VL.hk0) (ob := VL.ob0) (M := 3160) (loose := VL.looseN)
    (d := HandSHeadRun.topDef VL.R0.prog 45) (kwd := []) VL.ob0_eq (by kernel_rfl) (fun s => by kernel_rfl) VL.run0 (by kernel_rfl) (by kernel_rfl)
    (by kernel_rfl) (by rfl) (by first | assumption | decide +kernel) (by decide +kernel) ⟨rfl, rfl, rfl, rfl, rfl, by decide +kernel⟩ ?hw ?hc
  case hw => w_witness2
  case hc =>
    refine VL.law_walk (l := PySem.Challenge.rw_reelcut_k85_tracks_in_texts) (k := 7) (x := "_law_script")
      rfl (by kernel_rfl) (by kernel_rfl) ⟨rfl, by decide, by decide⟩ VL.law_pure ?_
    intro w mg h Y G
    obtain ⟨K, KX, c, d⟩ := Y
    exact ⟨K, KX, VL.ok_law (VL.top_of KX G c d)⟩
