import PyProof.Rows.All
import Wide.All
import OpenK.AllK
import Wide.FinOn
import KE.LtData
import KE.SortData
import HandS.Base
import HandS.Call
import HandS.List
import HandS.Comp
import HandS.Exc
import HandS.ExcOwn
import HandS.TupLe
import HandS.TupMul
import HandS.Wide
import HandS.IsInst
import HandS.Flow
import HandS.Conv
import KE.DataEq
import KE.DataCmp
import HandS.NoneIn
import HandS.Iter
import HandS.Zip
import KE.GoesMore
import HandS.Style
import HandS.Dict
import KE.KDictCopyH
import HandS.More
import HandS.Defaults
import HandS.Words
import HandS.HeadEnd
import HandS.HeadHook1
import HandS.HeadHook2
import HandS.Ends
import HandS.WordsExc
import HandS.Head0
import HandS.Head1
import HandS.Head2
import PySem.Challenge.RW_clockstold_k81_whole_stuck_states
set_option Elab.async false
set_option linter.all false
set_option maxRecDepth 100000
namespace Ev
open PySem
inductive D where
  | non | bl (b : Bool) | int (i : Int) | str (x : Str) | tup (ds : List D) | ref (n : Nat) | fn (k : Nat) | cl (k : Nat)
  | rol (ds : List D)
inductive O where
  | lst (xs : List D)
  | ins (c : Nat) (fs : List (Nat × D))
  | dct (kvs : List (List (Sum Int Str) × D))
structure Store where
  objs : List O
  dirty : List Nat
structure X where
  c : Nat
  a : Option D
inductive Rs (α : Type) where
  | ok (a : α) (S : Store)
  | exc (x : X) (S : Store)
  | stuck
def Rs.bind {α β : Type} (r : Rs α) (f : α → Store → Rs β) : Rs β :=
  match r with
  | .ok a S => f a S
  | .exc x S => .exc x S
  | .stuck => .stuck
abbrev Env := List (Option D)
abbrev EF := Env → Store → Rs D
abbrev LF := Env → Store → Rs (List D)
abbrev TF := Env → Store → Rs Bool
abbrev GF := D → Env → Store → Rs Env
inductive Fl where
  | nx (env : Env) | rt (d : D) | bk (env : Env) | ct (env : Env)
abbrev SF := Env → Store → Rs Fl
abbrev CallF := Nat → List D → Store → Rs D
def Store.alloc (S : Store) (o : O) : Nat × Store := (S.objs.length, ⟨S.objs ++ [o], S.dirty⟩)
def Store.get (S : Store) (n : Nat) : Option O := S.objs[n]?
def addD (n : Nat) (l : List Nat) : List Nat := if l.contains n then l else n :: l
def Store.set (S : Store) (n : Nat) (o : O) : Store := ⟨S.objs.set n o, addD n S.dirty⟩
mutual
def below (m : Nat) : D → Bool
  | .ref n => Nat.blt n m
  | .tup ds => belows m ds
  | .rol ds => belows m ds
  | _ => true
def belows (m : Nat) : List D → Bool
  | [] => true
  | d :: ds => below m d && belows m ds
end
def belowO (m : Nat) : O → Bool
  | .lst xs => belows m xs
  | .ins _ fs => belows m (fs.map (·.2))
  | .dct kvs => belows m (kvs.map (·.2))
def addAll (l m : List Nat) : List Nat := m.foldr addD l
def leave (S S' : Store) (d : D) : Store :=
  if S'.objs.length = S.objs.length then ⟨S'.objs, addAll S.dirty S'.dirty⟩
  else
    let m := S.objs.length
    let old := S'.dirty.filter fun n => Nat.blt n m
    if below m d && old.all fun n => match S'.objs[n]? with | some o => belowO m o | none => true then ⟨S'.objs.take m, addAll S.dirty old⟩
    else ⟨S'.objs, addAll S.dirty old⟩
mutual
def pyOf : D → Option PyData
  | .non => some .none
  | .bl b => some (.bool b)
  | .int i => some (.int i)
  | .str x => some (.str x)
  | .tup ds => (pyOfs ds).map .tuple
  | _ => none
def pyOfs : List D → Option (List PyData)
  | [] => some []
  | d :: ds => match pyOf d, pyOfs ds with
    | some x, some xs => some (x :: xs)
    | _, _ => none
end
def pyAt (S : Store) : D → Option PyData
  | .ref n => match S.objs[n]? with
    | some (.lst xs) => (pyOfs xs).map .list
    | _ => none
  | d => pyOf d
def strEq (x y : Str) : Bool := x.cps.toList == y.cps.toList
def shallow (a b : PyData) : Bool := Nat.ble (min a.depth b.depth) 64
def eqPy (x y : Option PyData) : Option Bool :=
  match x, y with
  | some a, some b => if shallow a b then some (PyData.eqv a b) else none
  | _, _ => none
def eqD (S : Store) (x y : D) : Option Bool :=
  match x, y with
  | .int i, .int j => some (decide (i = j))
  | .str a, .str b => some (strEq a b)
  | .bl a, .bl b => some (a == b)
  | .non, .non => some true
  | x, y => eqPy (pyAt S x) (pyAt S y)
def ordPy (r : PyData → PyData → Bool) (x y : Option PyData) : Option Bool :=
  match x, y with
  | some a, some b => (match a with
    | .none => none
    | _ => if W.alike a b && shallow a b then some (r a b) else none)
  | _, _ => none
def ltD (S : Store) (x y : D) : Option Bool :=
  match x, y with
  | .int i, .int j => some (decide (i < j))
  | x, y => ordPy W.dataLt (pyAt S x) (pyAt S y)
def leD (S : Store) (x y : D) : Option Bool :=
  match x, y with
  | .int i, .int j => some (decide (i ≤ j))
  | x, y => ordPy (fun a b => !W.dataLt b a) (pyAt S x) (pyAt S y)
def sizeOk (n : Nat) : Bool := Nat.ble n 1000000
def truth (S : Store) : D → Option Bool
  | .non => some false
  | .bl b => some b
  | .int i => some (i != 0)
  | .str x => if sizeOk x.length then some ((x.length : Int) != 0) else none
  | .tup ds => some (!ds.isEmpty)
  | .ref n => match S.objs[n]? with
    | some (.lst xs) => some (!xs.isEmpty)
    | _ => none
  | _ => none
def Rs.ofO {α : Type} (o : Option α) (S : Store) : Rs α := match o with
  | some a => .ok a S
  | none => .stuck
def varE (i : Nat) : EF := fun env S => match env[i]? with
  | some (some d) => .ok d S
  | _ => .stuck
def cstE (d : D) : EF := fun _ S => .ok d S
def nilL : LF := fun _ S => .ok [] S
def consL (e : EF) (l : LF) : LF := fun env S => (e env S).bind fun d S1 => (l env S1).bind fun ds S2 => .ok (d :: ds) S2
def tupE (l : LF) : EF := fun env S => (l env S).bind fun ds S1 => .ok (.tup ds) S1
def mkL (l : LF) : EF := fun env S => (l env S).bind fun ds S1 => .ok (.ref S1.objs.length) ⟨S1.objs ++ [.lst ds], S1.dirty⟩
abbrev Op1 := D → Store → Rs D
abbrev Op2 := D → D → Store → Rs D
def un1 (op : Op1) (e : EF) : EF := fun env S => (e env S).bind op
def bin2 (op : Op2) (a b : EF) : EF := fun env S => (a env S).bind fun x S1 => (b env S1).bind fun y S2 => op x y S2
def mulOk (i j : Int) : Bool := decide (i.natAbs < 2 ^ 64) || decide (j.natAbs < 2 ^ 64) || (decide (i.natAbs < 2 ^ 9000) && decide (j.natAbs < 2 ^ 9000))
def opAdd : Op2 := fun x y S => match x, y with
  | .int i, .int j => .ok (.int (i + j)) S
  | .tup a, .tup b => if sizeOk (a.length + b.length) then .ok (.tup (a ++ b)) S else .stuck
  | .str a, .str b => if sizeOk (a.length + b.length) then .ok (.str (a ++ b)) S else .stuck
  | _, _ => .stuck
def b2i (b : Bool) : Int := if b then 1 else 0
def opSub : Op2 := fun x y S => match x, y with
  | .int i, .int j => .ok (.int (i - j)) S
  | .bl i, .bl j => .ok (.int (b2i i - b2i j)) S
  | _, _ => .stuck
def opMul : Op2 := fun x y S => match x, y with
  | .int i, .int j => if mulOk i j then .ok (.int (i * j)) S else .stuck
  | .tup a, .int j => if Nat.ble a.length 1000 && decide (-1000 ≤ j) && decide (j ≤ 1000) then .ok (.tup (List.replicate j.toNat a).flatten) S else .stuck
  | _, _ => .stuck
def divOk (j : Int) : Bool := decide (0 < j) && decide (j.natAbs < 2 ^ 9000)
def opDiv : Op2 := fun x y S => match x, y with
  | .int i, .int j => if divOk j then .ok (.int (i / j)) S else .stuck
  | _, _ => .stuck
def opMod : Op2 := fun x y S => match x, y with
  | .int i, .int j => if decide (0 < j) then .ok (.int (i % j)) S else .stuck
  | _, _ => .stuck
def opNeg : Op1 := fun x S => match x with
  | .int i => .ok (.int (-i)) S
  | _ => .stuck
def opNot : Op1 := fun x S => match truth S x with
  | some b => .ok (.bl (!b)) S
  | none => .stuck
def opEq : Op2 := fun x y S => match eqD S x y with
  | some b => .ok (.bl b) S
  | none => .stuck
def opNe : Op2 := fun x y S => match eqD S x y with
  | some b => .ok (.bl (!b)) S
  | none => .stuck
def opLt : Op2 := fun x y S => match ltD S x y with
  | some b => .ok (.bl b) S
  | none => .stuck
def opLe : Op2 := fun x y S => match leD S x y with
  | some b => .ok (.bl b) S
  | none => .stuck
def opGt : Op2 := fun x y S => match x, y with
  | .int i, .int j => .ok (.bl (decide (j < i))) S
  | _, _ => .stuck
def opGe : Op2 := fun x y S => match x, y with
  | .int i, .int j => .ok (.bl (decide (j ≤ i))) S
  | _, _ => .stuck
def isC (c x : D) : Bool := match c, x with
  | .non, .non => true
  | .bl a, .bl b => a == b
  | _, _ => false
def opIs (c : D) : Op1 := fun x S => .ok (.bl (isC c x)) S
def opIsNot (c : D) : Op1 := fun x S => .ok (.bl (!isC c x)) S
def memI (i : Int) : List D → Option Bool
  | [] => some false
  | .int j :: r => match memI i r with
    | some c => some (decide (j = i) || c)
    | none => none
  | _ => none
def memS (x : Str) : List D → Option Bool
  | [] => some false
  | .str y :: r => match memS x r with
    | some c => some (strEq y x || c)
    | none => none
  | _ => none
def memPy (x : Option PyData) (ys : Option (List PyData)) : Option Bool := match x, ys with
  | some a, some bs => if Nat.ble (min (PyData.depthAll bs) a.depth) 64 then some (bs.any fun y => PyData.eqv y a) else none
  | _, _ => none
def memD (x : D) (ys : List D) : Option Bool := match x with
  | .int i => (match memI i ys with
    | some b => some b
    | none => memPy (some (.int i)) (pyOfs ys))
  | .str z => (match memS z ys with
    | some b => some b
    | none => memPy (some (.str z)) (pyOfs ys))
  | x => memPy (pyOf x) (pyOfs ys)
def inD (S : Store) (x y : D) : Option Bool := match y with
  | .tup ys => memD x ys
  | .ref n => match S.objs[n]? with
    | some (.lst ys) => memD x ys
    | _ => none
  | _ => none
def opIn : Op2 := fun x y S => match inD S x y with
  | some b => .ok (.bl b) S
  | none => .stuck
def opNotIn : Op2 := fun x y S => match inD S x y with
  | some b => .ok (.bl (!b)) S
  | none => .stuck
def andE (a b : EF) : EF := fun env S => (a env S).bind fun x S1 => match truth S1 x with
  | some true => b env S1
  | some false => .ok x S1
  | none => .stuck
def orE (a b : EF) : EF := fun env S => (a env S).bind fun x S1 => match truth S1 x with
  | some true => .ok x S1
  | some false => b env S1
  | none => .stuck
def ifE (t : TF) (a b : EF) : EF := fun env S => (t env S).bind fun k S1 => if k then a env S1 else b env S1
def chainE (o1 o2 : Op2) (a b c : EF) : EF := fun env S => (a env S).bind fun x S1 => (b env S1).bind fun y S2 => (o1 x y S2).bind fun z S3 => match z with
  | .bl true => (c env S3).bind fun w S4 => o2 y w S4
  | .bl false => .ok (.bl false) S3
  | _ => .stuck
def boolT (e : EF) : TF := fun env S => (e env S).bind fun x S1 => match x with
  | .bl b => .ok b S1
  | _ => .stuck
def truthT (e : EF) : TF := fun env S => (e env S).bind fun x S1 => Rs.ofO (truth S1 x) S1
def notT (t : TF) : TF := fun env S => (t env S).bind fun b S1 => .ok (!b) S1
def andT (a b : TF) : TF := fun env S => (a env S).bind fun k S1 => if k then b env S1 else .ok false S1
def orT (a b : TF) : TF := fun env S => (a env S).bind fun k S1 => if k then .ok true S1 else b env S1
def ixD (n : Nat) (i : Int) : Option Nat := if 0 ≤ i then (if i < n then some i.toNat else none) else if -(n : Int) ≤ i then some (i + n).toNat else none
def atD (xs : List D) (i : Int) : Option D := match ixD xs.length i with
  | some j => xs[j]?
  | none => none
def lookD (x : D) : List (D × D) → Option D
  | [] => none
  | (k, v) :: r => match eqD ⟨[], []⟩ k x with
    | some true => some v
    | some false => lookD x r
    | none => none
def opIx : Op2 := fun x y S => match x, y with
  | .tup ds, .int i => Rs.ofO (atD ds i) S
  | .ref n, .int i => match S.objs[n]? with
    | some (.lst xs) => Rs.ofO (atD xs i) S
    | _ => .stuck
  | _, _ => .stuck
def sIxD (n d : Nat) : Option Int → Nat
  | none => d
  | some v => if v < 0 then (v + (n : Int)).toNat else min v.toNat n
def cutD (xs : List D) (lo hi : Option Int) : List D := (xs.drop (sIxD xs.length 0 lo)).take (sIxD xs.length xs.length hi - sIxD xs.length 0 lo)
abbrev PF := Env → Store → Rs (Option Int)
def noP : PF := fun _ S => .ok none S
def someP (e : EF) : PF := fun env S => (e env S).bind fun x S1 => match x with
  | .int i => .ok (some i) S1
  | _ => .stuck
def sliceE (e : EF) (lo hi : PF) : EF := fun env S => (e env S).bind fun x S1 => (lo env S1).bind fun l S2 => (hi env S2).bind fun h S3 => match x with
  | .tup ds => .ok (.tup (cutD ds l h)) S3
  | .ref n => match S3.objs[n]? with
    | some (.lst xs) => .ok (.ref S3.objs.length) ⟨S3.objs ++ [.lst (cutD xs l h)], S3.dirty⟩
    | _ => .stuck
  | _ => .stuck
def fieldD (f : Nat) : List (Nat × D) → Option D
  | [] => none
  | (g, d) :: r => if g = f then some d else fieldD f r
def putD (f : Nat) (v : D) : List (Nat × D) → List (Nat × D)
  | [] => [(f, v)]
  | (g, x) :: r => if g = f then (g, v) :: r else (g, x) :: putD f v r
def opFld (cs : List Nat) (f : Nat) : Op1 := fun x S => match x with
  | .ref n => match S.objs[n]? with
    | some (.ins c fs) => if cs.contains c then Rs.ofO (fieldD f fs) S else .stuck
    | _ => .stuck
  | _ => .stuck
inductive Src where
  | fix (ds : List D)
  | ref (n i : Nat)
  | rng (lo : Int) (k : Nat)
  | zip (a b : Src)
  | enum (i : Nat) (a : Src)
abbrev IF := Env → Store → Rs Src
def Src.next (S : Store) : Src → Option (Option (D × Src))
  | .fix [] => some none
  | .fix (d :: ds) => some (some (d, .fix ds))
  | .ref n i => match S.objs[n]? with
    | some (.lst xs) => some (match xs[i]? with
      | some d => some (d, .ref n (i + 1))
      | none => none)
    | _ => none
  | .rng _ 0 => some none
  | .rng lo (k + 1) => some (some (.int lo, .rng (lo + 1) k))
  | .zip a b => match a.next S with
    | some (some (x, a')) => (match b.next S with
      | some (some (y, b')) => some (some (.tup [x, y], .zip a' b'))
      | some none => some none
      | none => none)
    | some none => (match b.next S with
      | some _ => some none
      | none => none)
    | none => none
  | .enum i a => match a.next S with
    | some (some (x, a')) => some (some (.tup [.int i, x], .enum (i + 1) a'))
    | some none => some none
    | none => none
def srcOf (S : Store) : D → Option Src
  | .tup ds => some (.fix ds)
  | .rol ds => some (.fix ds)
  | .ref n => match S.objs[n]? with
    | some (.lst _) => some (.ref n 0)
    | _ => none
  | _ => none
def valI (e : EF) : IF := fun env S => (e env S).bind fun x S1 => Rs.ofO (srcOf S1 x) S1
def lstI (l : LF) : IF := fun env S => (l env S).bind fun ds S1 => .ok (.fix ds) S1
def rngI1 (e : EF) : IF := fun env S => (e env S).bind fun x S1 => match x with
  | .int j => if decide (-(2 ^ 62) ≤ j) && decide (j < 2 ^ 62) then .ok (.rng 0 j.toNat) S1 else .stuck
  | _ => .stuck
def rngI2 (a b : EF) : IF := fun env S => (a env S).bind fun x S1 => (b env S1).bind fun y S2 => match x, y with
  | .int i, .int j => if decide (-(2 ^ 62) ≤ i) && decide (i < 2 ^ 62) && decide (-(2 ^ 62) ≤ j) && decide (j < 2 ^ 62) then .ok (.rng i (j - i).toNat) S2 else .stuck
  | _, _ => .stuck
def isTupD : D → Bool
  | .tup _ => true
  | _ => false
def zipI (a b : EF) : IF := fun env S => (a env S).bind fun x S1 => (b env S1).bind fun y S2 => match srcOf S2 x, srcOf S2 y with
  | some s, some t => if isTupD x == isTupD y then .ok (.zip s t) S2 else .stuck
  | _, _ => .stuck
def enumI (a : EF) : IF := fun env S => (a env S).bind fun x S1 => match srcOf S1 x with
  | some s => .ok (.enum 0 s) S1
  | none => .stuck
def nameG (i : Nat) : GF := fun d env S => .ok (env.set i (some d)) S
abbrev GFs := List D → Env → Store → Rs Env
def nilG : GFs := fun ds env S => match ds with
  | [] => .ok env S
  | _ => .stuck
def consG (g : GF) (gs : GFs) : GFs := fun ds env S => match ds with
  | d :: r => (g d env S).bind fun env1 S1 => gs r env1 S1
  | [] => .stuck
def itemsD (S : Store) : D → Option (List D)
  | .tup ds => some ds
  | .rol ds => some ds
  | .ref n => match S.objs[n]? with
    | some (.lst xs) => some xs
    | _ => none
  | _ => none
def tupG (n : Nat) (gs : GFs) : GF := fun d env S => match itemsD S d with
  | some ds => if ds.length = n then gs ds env S else .stuck
  | none => .stuck
def fldG (cs : List Nat) (e : EF) (f : Nat) : GF := fun d env S => (e env S).bind fun x S1 => match x with
  | .ref n => match S1.objs[n]? with
    | some (.ins c fs) => if cs.contains c && Nat.blt fs.length 1000 then .ok env (S1.set n (.ins c (putD f d fs))) else .stuck
    | _ => .stuck
  | _ => .stuck
def subG (e i : EF) : GF := fun d env S => (e env S).bind fun x S1 => (i env S1).bind fun y S2 => match x, y with
  | .ref n, .int k => match S2.objs[n]? with
    | some (.lst xs) => (match ixD xs.length k with
      | some j => .ok env (S2.set n (.lst (xs.set j d)))
      | none => .stuck)
    | _ => .stuck
  | _, _ => .stuck
def wipeE (env : Env) : List Nat → Env
  | [] => env
  | v :: vs => (wipeE env vs).set v none
@[irreducible] def FU : Nat := 1000000
def lcGo (g : GF) (t : TF) (e : EF) (env : Env) : Nat → Src → Store → List D → Rs (List D)
  | 0, _, _, _ => .stuck
  | n + 1, src, S, acc => match src.next S with
    | none => .stuck
    | some none => .ok acc.reverse S
    | some (some (d, src')) => match g d env S with
      | .ok env1 S1 => (match t env1 S1 with
        | .ok true S2 => (match e env1 S2 with
          | .ok y S3 => lcGo g t e env n src' S3 (y :: acc)
          | _ => .stuck)
        | .ok false S2 => lcGo g t e env n src' S2 acc
        | _ => .stuck)
      | _ => .stuck
def yesT : TF := fun _ S => .ok true S
def lcL (vs : List Nat) (it : IF) (g : GF) (t : TF) (e : EF) : LF := fun env S => (it env S).bind fun src S1 => lcGo g t e (wipeE env vs) FU src S1 []
def ifL (t : TF) (a b : LF) : LF := fun env S => (t env S).bind fun k S1 => if k then a env S1 else b env S1
def skipS : SF := fun env S => .ok (.nx env) S
def seqS (a b : SF) : SF := fun env S => (a env S).bind fun f S1 => match f with
  | .nx env1 => b env1 S1
  | f => .ok f S1
def asgS (g : GF) (e : EF) : SF := fun env S => (e env S).bind fun d S1 => match g d env S1 with
  | .ok env1 S2 => .ok (.nx env1) S2
  | _ => .stuck
def exprS (e : EF) : SF := fun env S => (e env S).bind fun _ S1 => .ok (.nx env) S1
def retS (e : EF) : SF := fun env S => (e env S).bind fun d S1 => .ok (.rt d) S1
def retN : SF := fun _ S => .ok (.rt .non) S
def ifS (t : TF) (a b : SF) : SF := fun env S => (t env S).bind fun k S1 => if k then a env S1 else b env S1
def raiseS (c : Nat) : SF := fun _ S => .exc ⟨c, none⟩ S
def brkS : SF := fun env S => .ok (.bk env) S
def ctS : SF := fun env S => .ok (.ct env) S
def whileGo (t : TF) (b : SF) : Nat → Env → Store → Rs Fl
  | 0, _, _ => .stuck
  | n + 1, env, S => (t env S).bind fun k S1 => if k then (b env S1).bind fun f S2 => (match f with
      | .nx env1 => whileGo t b n env1 S2
      | .ct env1 => whileGo t b n env1 S2
      | .bk env1 => .ok (.nx env1) S2
      | .rt d => .ok (.rt d) S2)
    else .ok (.nx env) S1
def whileS (t : TF) (b : SF) : SF := whileGo t b FU
def forGo (g : GF) (b : SF) : Nat → Src → Env → Store → Rs Fl
  | 0, _, _, _ => .stuck
  | n + 1, src, env, S => match src.next S with
    | none => .stuck
    | some none => .ok (.nx env) S
    | some (some (d, src')) => match g d env S with
      | .ok env1 S1 => (b env1 S1).bind fun f S2 => (match f with
        | .nx env2 => forGo g b n src' env2 S2
        | .ct env2 => forGo g b n src' env2 S2
        | .bk env2 => .ok (.nx env2) S2
        | .rt d => .ok (.rt d) S2)
      | _ => .stuck
def forS (it : IF) (g : GF) (b : SF) : SF := fun env S => (it env S).bind fun src S1 => forGo g b FU src env S1
def allC : List D → Option Bool
  | [] => some true
  | .bl b :: r => match allC r with
    | some c => some (b && c)
    | none => none
  | _ => none
def anyC : List D → Option Bool
  | [] => some false
  | .bl b :: r => match anyC r with
    | some c => some (b || c)
    | none => none
  | _ => none
def intsC : List D → Option (List Int)
  | [] => some []
  | .int i :: r => match intsC r with
    | some c => some (i :: c)
    | none => none
  | _ => none
def pyD (d : D) : PyData := match pyOf d with
  | some x => x
  | none => .none
def alikeTo (x : PyData) : List D → Bool
  | [] => true
  | d :: r => (match pyOf d with
    | some y => W.alike x y && W.alike y x && decide (y.depth ≤ 64)
    | none => false) && alikeTo x r
def isTupNe : PyData → Bool
  | .tuple (_ :: _) => true
  | _ => false
def isFlatPy : PyData → Bool
  | .none => false
  | .tuple _ => false
  | _ => true
def allAlike : List D → Bool
  | [] => true
  | d :: r => (match pyOf d with
    | some y => W.alike y y && Nat.ble y.depth 64 && alikeTo y r
    | none => false) && allAlike r
def sortOk (xs : List D) : Bool := allAlike xs && (xs.all (fun d => isTupNe (pyD d)) || xs.all (fun d => isFlatPy (pyD d)))
def sortC (xs : List D) : Option (List D) := if sortOk xs && sizeOk xs.length then some (xs.mergeSort fun a b => W.dataLe false pyD a b) else none
def callE (cl : CallF) (j : Nat) (l : LF) : EF := fun env S => (l env S).bind fun ds S1 => cl j ds S1
def callvE (cl : CallF) (e : EF) (l : LF) : EF := fun env S => (e env S).bind fun f S1 => (l env S1).bind fun ds S2 => match f with
  | .fn j => cl j ds S2
  | _ => .stuck
def initE (n : Nat) (ds : List D) : Env := ds.map some ++ List.replicate (n - ds.length) none
def runF (m n : Nat) (b : SF) (ds : List D) (S : Store) : Rs D :=
  if ds.length = m then
    match b (initE n ds) ⟨S.objs, []⟩ with
    | .ok (.rt d) S' => .ok d (leave S S' d)
    | .ok (.nx _) S' => .ok .non (leave S S' .non)
    | .ok _ _ => .stuck
    | .exc x S' => (match x.a with
      | none => .exc x (leave S S' .non)
      | some (.int _) => .exc x (leave S S' .non)
      | some _ => .stuck)
    | .stuck => .stuck
  else .stuck
def coreL (f : List D → Option D) (l : LF) : EF := fun env S => (l env S).bind fun ds S1 => Rs.ofO (f ds) S1
def coreE (f : List D → Option D) (e : EF) : EF := fun env S => (e env S).bind fun x S1 => match itemsD S1 x with
  | some ds => Rs.ofO (f ds) S1
  | none => .stuck
def fAll (ds : List D) : Option D := (allC ds).map .bl
def fAny (ds : List D) : Option D := (anyC ds).map .bl
def fLen (ds : List D) : Option D := some (.int ds.length)
def fTup (ds : List D) : Option D := if sizeOk ds.length then some (.tup ds) else none
def fSum (ds : List D) : Option D := (intsC ds).map fun is => .int is.sum
def listL (e : EF) : LF := fun env S => (e env S).bind fun x S1 => match itemsD S1 x with
  | some ds => .ok ds S1
  | none => .stuck
def sortL (l : LF) : LF := fun env S => (l env S).bind fun ds S1 => Rs.ofO (sortC ds) S1
def catL (a b : LF) : LF := fun env S => (a env S).bind fun x S1 => (b env S1).bind fun y S2 => if sizeOk (x.length + y.length) then .ok (x ++ y) S2 else .stuck
def eqL (neg : Bool) (a b : LF) : EF := fun env S => (a env S).bind fun x S1 => (b env S1).bind fun y S2 => match eqPy ((pyOfs x).map .list) ((pyOfs y).map .list) with
  | some k => .ok (.bl (if neg then !k else k)) S2
  | none => .stuck
def opMax : Op2 := fun x y S => match x, y with
  | .int i, .int j => .ok (.int (if j > i then j else i)) S
  | _, _ => .stuck
def opMin : Op2 := fun x y S => match x, y with
  | .int i, .int j => .ok (.int (if j < i then j else i)) S
  | _, _ => .stuck
def opAbs : Op1 := fun x S => match x with
  | .int i => .ok (.int (if i < 0 then -i else i)) S
  | _ => .stuck
def opInt : Op1 := fun x S => match x with
  | .int i => .ok (.int i) S
  | .bl b => .ok (.int (if b then 1 else 0)) S
  | _ => .stuck
inductive Ty where
  | int | bool | str | tuple | list
def isTy (S : Store) (t : Ty) : D → Option Bool
  | .non => some false
  | .bl _ => some (match t with | .int => true | .bool => true | _ => false)
  | .int _ => some (match t with | .int => true | _ => false)
  | .str _ => some (match t with | .str => true | _ => false)
  | .tup _ => some (match t with | .tuple => true | _ => false)
  | .rol _ => none
  | .ref n => match S.objs[n]? with
    | some (.lst _) => some (match t with | .list => true | _ => false)
    | _ => none
  | _ => none
def opIsi (t : Ty) : Op1 := fun x S => Rs.ofO ((isTy S t x).map .bl) S
def opAppend : Op2 := fun x y S => match x with
  | .ref n => match S.objs[n]? with
    | some (.lst xs) => if sizeOk (xs.length + 1) then .ok .non (S.set n (.lst (xs ++ [y]))) else .stuck
    | _ => .stuck
  | _ => .stuck
def setAll (env : Env) : List Nat → List D → Option Env
  | [], [] => some env
  | i :: is, d :: ds => setAll (env.set i (some d)) is ds
  | _, _ => none
def parS (is : List Nat) (l : LF) : SF := fun env S => (l env S).bind fun ds S1 => match setAll env is ds with
  | some env1 => .ok (.nx env1) S1
  | none => .stuck
def nevS : SF := fun _ _ => .stuck
def nevE : EF := fun _ _ => .stuck
def methE (cl : CallF) (tb : List (Nat × Nat)) (e : EF) (l : LF) : EF := fun env S => (e env S).bind fun x S1 => match x with
  | .ref n => (match S1.objs[n]? with
    | some (.ins c _) => (match tb.lookup c with
      | some j => (l env S1).bind fun ds S2 => cl j (x :: ds) S2
      | none => .stuck)
    | _ => .stuck)
  | _ => .stuck
def makeE (cl : CallF) (c j : Nat) (l : LF) : EF := fun env S => (l env S).bind fun ds S1 => (cl j (.ref S1.objs.length :: ds) ⟨S1.objs ++ [.ins c []], S1.dirty⟩).bind fun d S2 => match d with
  | .non => .ok (.ref S1.objs.length) S2
  | _ => .stuck
def appE (a b : EF) : EF := fun env S => (a env S).bind fun x S1 => match x with
  | .ref n => (match S1.objs[n]? with
    | some (.lst _) => (b env S1).bind fun y S2 => opAppend (.ref n) y S2
    | _ => .stuck)
  | _ => .stuck
abbrev KyL := List (Sum Int Str)
def keysD : List D → Option KyL
  | [] => some []
  | .int i :: r => match keysD r with
    | some k => some (.inl i :: k)
    | none => none
  | .str x :: r => match keysD r with
    | some k => some (.inr x :: k)
    | none => none
  | _ => none
def keyD : Sum Int Str → D
  | .inl i => .int i
  | .inr x => .str x
def ky1 (a b : Sum Int Str) : Bool := match a, b with
  | .inl i, .inl j => decide (i = j)
  | .inr x, .inr y => strEq x y
  | _, _ => false
def kyEq : KyL → KyL → Bool
  | [], [] => true
  | a :: r, b :: s => ky1 a b && kyEq r s
  | _, _ => false
def hasKy (k : KyL) : List (KyL × D) → Bool
  | [] => false
  | (g, _) :: r => kyEq g k || hasKy k r
def replKy (k : KyL) (v : D) : List (KyL × D) → List (KyL × D)
  | [] => []
  | (g, x) :: r => (if kyEq g k then (g, v) else (g, x)) :: replKy k v r
def putKy (k : KyL) (v : D) (kvs : List (KyL × D)) : List (KyL × D) := if hasKy k kvs then replKy k v kvs else kvs ++ [(k, v)]
def newDE : EF := fun _ S => .ok (.ref S.objs.length) ⟨S.objs ++ [.dct []], S.dirty⟩
def dputG (e : EF) (l : LF) : GF := fun d env S => (e env S).bind fun x S1 => (l env S1).bind fun ks S2 => match x with
  | .ref n => (match S2.objs[n]? with
    | some (.dct kvs) => (match keysD ks with
      | some k => if Nat.blt kvs.length 1000000 then .ok env (S2.set n (.dct (putKy k d kvs))) else .stuck
      | none => .stuck)
    | _ => .stuck)
  | _ => .stuck
def keysOf (kvs : List (KyL × D)) : List D := kvs.map fun kv => .tup (kv.1.map keyD)
def sortdL (e : EF) : LF := fun env S => (e env S).bind fun x S1 => match x with
  | .ref n => (match S1.objs[n]? with
    | some (.dct kvs) => Rs.ofO (sortC (keysOf kvs)) S1
    | _ => .stuck)
  | _ => .stuck
def lookS (x : Str) : List Str → List D → Option D
  | k :: ks, d :: ds => if strEq k x then some d else lookS x ks ds
  | _, _ => none
def dispIxE (ks : List Str) (l : LF) (i : EF) : EF := fun env S => (l env S).bind fun ds S1 => (i env S1).bind fun y S2 => match y with
  | .str x => Rs.ofO (lookS x ks ds) S2
  | _ => .stuck
def opPow : Op2 := fun x y S => match x, y with
  | .int i, .int j => if decide (0 ≤ j) && decide (j ≤ 1000) && decide (i.natAbs < 2 ^ 64) then .ok (.int (i ^ j.toNat)) S else .stuck
  | _, _ => .stuck
def catVL (a : EF) (b : LF) : LF := fun env S => (a env S).bind fun x S1 => (b env S1).bind fun ys S2 => match x with
  | .ref n => (match S2.objs[n]? with
    | some (.lst xs) => if sizeOk (xs.length + ys.length) then .ok (xs ++ ys) S2 else .stuck
    | _ => .stuck)
  | _ => .stuck
def sortvL (e : EF) : LF := fun env S => (e env S).bind fun x S1 => match x with
  | .ref n => (match S1.objs[n]? with
    | some (.lst xs) => Rs.ofO (sortC xs) S1
    | some (.dct kvs) => Rs.ofO (sortC (keysOf kvs)) S1
    | _ => .stuck)
  | _ => .stuck
end Ev
set_option Elab.async false
set_option linter.all false
set_option maxRecDepth 100000
namespace Ev
open PySem PySem.Spec PyProof.Rows L2
structure Par where
  K : PySem.W.Frag
  FA : Nat → Addr
  CA : Nat → Addr
  FN : Nat → Str
  nF : Nat
structure Sim where
  μ : Nat → Addr
  nx : Nat
  H : Hp
def SqR (K : PySem.W.Frag) (H : Hp) (a : Addr) (xs : List V) : Prop :=
  (∃ o, H a = some (.frz o (.lst xs))) ∨ ∃ (o : Obj) (its : Array Value) (n : Nat), K.lookup a = some o ∧ o.cls = .type "list" ∧ o.dict = none ∧ o.data = .seq its n ∧ its.size ≤ sizeLine ∧ Vals xs its.toList
section
variable (p : Par)
mutual
def Rel (m : Sim) : D → V → Prop
  | .non, v => v = .non
  | .bl b, v => v = .bl b
  | .int i, v => v = .int i
  | .str x, v => v = .str x
  | .tup ds, v => ∃ a vs, v = .ref a ∧ SqT p.K m.H a vs ∧ RelL m ds vs
  | .ref n, v => n < m.nx ∧ v = .ref (m.μ n)
  | .fn k, v => v = .ref (p.FA k)
  | .cl k, v => v = .ref (p.CA k)
  | .rol ds, v => ∃ a vs, v = .ref a ∧ SqR p.K m.H a vs ∧ RelL m ds vs
def RelL (m : Sim) : List D → List V → Prop
  | [], vs => vs = []
  | d :: ds, vs => ∃ v r, vs = v :: r ∧ Rel m d v ∧ RelL m ds r
end
def FRel (m : Sim) : List (Nat × D) → List (Str × V) → Prop
  | [], ys => ys = []
  | (f, d) :: r, ys => ∃ v s, ys = (p.FN f, v) :: s ∧ f < p.nF ∧ Rel p m d v ∧ FRel m r s
def KRel (m : Sim) : List (List (Sum Int Str) × D) → List (List Key × V) → Prop
  | [], ys => ys = []
  | (k, d) :: r, ys => ∃ v s, ys = (k, v) :: s ∧ Rel p m d v ∧ KRel m r s
def ORel (m : Sim) (a : Addr) : O → Prop
  | .lst xs => ∃ vs, m.H a = some (.lst vs) ∧ RelL p m xs vs
  | .ins c fs => ∃ dx fs', m.H a = some (.ins (p.CA c) dx fs') ∧ FRel p m fs fs'
  | .dct kvs => ∃ ys, m.H a = some (.dT ys) ∧ KRel p m kvs ys
structure SOk (m : Sim) (S : Store) : Prop where
  len : S.objs.length = m.nx
  obj : ∀ n o, S.objs[n]? = some o → ORel p m (m.μ n) o
  inj : ∀ i j, i < m.nx → j < m.nx → m.μ i = m.μ j → i = j
end
structure Up (m m' : Sim) : Prop where
  le : m.nx ≤ m'.nx
  same : ∀ n, n < m.nx → m'.μ n = m.μ n
  tups : ∀ a xs, m.H a = some (.tup xs) → m'.H a = some (.tup xs)
  frzs : ∀ a o u, m.H a = some (.frz o u) → m'.H a = some (.frz o u)
structure Ext (m : Sim) (S : Store) (m' : Sim) (S' : Store) : Prop extends Up m m' where
  frame : ∀ a o, m.H a = some o → (∀ ps, o ≠ .tbl ps) → (∀ n, n < m.nx → a ≠ m.μ n) → m'.H a = some o ∧ ∀ n, n < m'.nx → a ≠ m'.μ n
  trk : ∀ a o, m.H a = some o → ∃ o', m'.H a = some o'
  dirt : ∀ n, n ∈ S.dirty → n ∈ S'.dirty
  keep : ∀ n, n < m.nx → n ∉ S'.dirty → S'.objs[n]? = S.objs[n]?
section
variable {p : Par} {m m' m'' : Sim} {S S' S'' : Store}
theorem Up.refl : Up m m := ⟨Nat.le_refl _, fun _ _ => rfl, fun _ _ h => h, fun _ _ _ h => h⟩
theorem Up.trans (e : Up m m') (f : Up m' m'') : Up m m'' where
  le := Nat.le_trans e.le f.le
  same := fun n h => (f.same n (Nat.lt_of_lt_of_le h e.le)).trans (e.same n h)
  tups := fun a xs h => f.tups a xs (e.tups a xs h)
  frzs := fun a o u h => f.frzs a o u (e.frzs a o u h)
theorem Ext.refl : Ext m S m S := ⟨Up.refl, fun _ _ h _ n => ⟨h, n⟩, fun _ o h => ⟨o, h⟩, fun _ h => h, fun _ _ _ => rfl⟩
theorem Ext.trans (e : Ext m S m' S') (f : Ext m' S' m'' S'') : Ext m S m'' S'' where
  toUp := e.toUp.trans f.toUp
  frame := fun a o h t n => by
    obtain ⟨h1, n1⟩ := e.frame a o h t n
    exact f.frame a o h1 t n1
  trk := fun a o h => by
    obtain ⟨o', h'⟩ := e.trk a o h
    exact f.trk a o' h'
  dirt := fun n h => f.dirt n (e.dirt n h)
  keep := fun n h d => (f.keep n (Nat.lt_of_lt_of_le h e.le) d).trans (e.keep n h fun z => d (f.dirt n z))
theorem Ext.free (e : Ext m S m' S') {a : Addr} (h : m'.H a = none) : m.H a = none := by
  cases q : m.H a with
  | none => rfl
  | some o =>
    obtain ⟨o', h'⟩ := e.trk a o q
    rw [h'] at h; cases h
theorem Up.sqT (e : Up m m') {a : Addr} {vs : List V} (h : SqT p.K m.H a vs) : SqT p.K m'.H a vs := by
  rcases h with (h | ⟨o, h⟩) | h
  · exact .inl (.inl (e.tups _ _ h))
  · exact .inl (.inr ⟨o, e.frzs _ _ _ h⟩)
  · exact .inr h
theorem SqR.sq {K : PySem.W.Frag} {H : Hp} {a : Addr} {xs : List V} (h : SqR K H a xs) : SqL K H a xs := h.elim (fun h => .inl (.inr h)) .inr
theorem Up.sqR (e : Up m m') {a : Addr} {vs : List V} (h : SqR p.K m.H a vs) : SqR p.K m'.H a vs := by
  rcases h with ⟨o, h⟩ | h
  · exact .inl ⟨o, e.frzs _ _ _ h⟩
  · exact .inr h
mutual
theorem Rel.mono (e : Up m m') : ∀ {d : D} {v : V}, Rel p m d v → Rel p m' d v
  | .non, _, h => h
  | .bl _, _, h => h
  | .int _, _, h => h
  | .str _, _, h => h
  | .tup ds, v, h => by
    obtain ⟨a, vs, h1, h2, h3⟩ := (show ∃ a vs, v = .ref a ∧ SqT p.K m.H a vs ∧ RelL p m ds vs from h)
    exact ⟨a, vs, h1, e.sqT h2, RelL.mono e h3⟩
  | .ref n, v, h => by
    obtain ⟨h1, h2⟩ := (show n < m.nx ∧ v = .ref (m.μ n) from h)
    exact ⟨Nat.lt_of_lt_of_le h1 e.le, by rw [e.same n h1]; exact h2⟩
  | .fn _, _, h => h
  | .cl _, _, h => h
  | .rol ds, v, h => by
    obtain ⟨a, vs, h1, h2, h3⟩ := (show ∃ a vs, v = .ref a ∧ SqR p.K m.H a vs ∧ RelL p m ds vs from h)
    exact ⟨a, vs, h1, e.sqR h2, RelL.mono e h3⟩
theorem RelL.mono (e : Up m m') : ∀ {ds : List D} {vs : List V}, RelL p m ds vs → RelL p m' ds vs
  | [], _, h => h
  | d :: ds, vs, h => by
    obtain ⟨v, r, h1, h2, h3⟩ := (show ∃ v r, vs = v :: r ∧ Rel p m d v ∧ RelL p m ds r from h)
    exact ⟨v, r, h1, Rel.mono e h2, RelL.mono e h3⟩
end
theorem FRel.mono (e : Up m m') : ∀ {fs : List (Nat × D)} {ys : List (Str × V)}, FRel p m fs ys → FRel p m' fs ys
  | [], _, h => h
  | (f, d) :: fs, ys, h => by
    obtain ⟨v, r, h1, h0, h2, h3⟩ := (show ∃ v s, ys = (p.FN f, v) :: s ∧ f < p.nF ∧ Rel p m d v ∧ FRel p m fs s from h)
    exact ⟨v, r, h1, h0, Rel.mono e h2, FRel.mono e h3⟩
theorem KRel.mono (e : Up m m') : ∀ {fs : List (List (Sum Int Str) × D)} {ys : List (List Key × V)}, KRel p m fs ys → KRel p m' fs ys
  | [], _, h => h
  | (f, d) :: fs, ys, h => by
    obtain ⟨v, r, h1, h2, h3⟩ := (show ∃ v s, ys = (f, v) :: s ∧ Rel p m d v ∧ KRel p m fs s from h)
    exact ⟨v, r, h1, Rel.mono e h2, KRel.mono e h3⟩
theorem RelL.nil : RelL p m [] [] := rfl
theorem RelL.cons {d : D} {v : V} {ds : List D} {vs : List V} (h : Rel p m d v) (t : RelL p m ds vs) : RelL p m (d :: ds) (v :: vs) := ⟨v, vs, rfl, h, t⟩
theorem RelL.uncons {d : D} {ds : List D} {vs : List V} (h : RelL p m (d :: ds) vs) : ∃ v r, vs = v :: r ∧ Rel p m d v ∧ RelL p m ds r := h
theorem RelL.length : ∀ {ds : List D} {vs : List V}, RelL p m ds vs → ds.length = vs.length
  | [], _, h => by cases (show _ = [] from h); rfl
  | d :: ds, vs, h => by
    obtain ⟨v, r, rfl, _, t⟩ := h.uncons
    simp [RelL.length t]
theorem RelL.get : ∀ {ds : List D} {vs : List V} {i : Nat} {d : D}, RelL p m ds vs → ds[i]? = some d → ∃ v, vs[i]? = some v ∧ Rel p m d v
  | [], _, _, _, _, e => by simp at e
  | d :: ds, vs, i, x, h, e => by
    obtain ⟨v, r, rfl, h1, t⟩ := h.uncons
    cases i with
    | zero => simp at e; subst e; exact ⟨v, rfl, h1⟩
    | succ i => simpa using RelL.get t (by simpa using e)
theorem RelL.append : ∀ {as bs : List D} {us vs : List V}, RelL p m as us → RelL p m bs vs → RelL p m (as ++ bs) (us ++ vs)
  | [], _, _, _, h, k => by cases (show _ = [] from h); exact k
  | a :: as, _, us, _, h, k => by
    obtain ⟨v, r, rfl, h1, t⟩ := h.uncons
    exact RelL.cons h1 (RelL.append t k)
theorem RelL.drop : ∀ {as : List D} {us : List V} (n : Nat), RelL p m as us → RelL p m (as.drop n) (us.drop n)
  | _, _, 0, h => h
  | [], _, n + 1, h => by cases (show _ = [] from h); exact RelL.nil
  | a :: as, us, n + 1, h => by
    obtain ⟨v, r, rfl, h1, t⟩ := h.uncons
    exact RelL.drop n t
theorem RelL.take : ∀ {as : List D} {us : List V} (n : Nat), RelL p m as us → RelL p m (as.take n) (us.take n)
  | _, _, 0, h => RelL.nil
  | [], _, n + 1, h => by cases (show _ = [] from h); exact RelL.nil
  | a :: as, us, n + 1, h => by
    obtain ⟨v, r, rfl, h1, t⟩ := h.uncons
    exact RelL.cons h1 (RelL.take n t)
theorem RelL.set {d : D} {v : V} (hv : Rel p m d v) : ∀ {as : List D} {us : List V} (n : Nat), RelL p m as us → RelL p m (as.set n d) (us.set n v)
  | [], _, n, h => by cases (show _ = [] from h); exact RelL.nil
  | a :: as, us, 0, h => by
    obtain ⟨w, r, rfl, h1, t⟩ := h.uncons
    exact RelL.cons hv t
  | a :: as, us, n + 1, h => by
    obtain ⟨w, r, rfl, h1, t⟩ := h.uncons
    exact RelL.cons h1 (RelL.set hv n t)
theorem SOk.get_lt (k : SOk p m S) {n : Nat} {o : O} (h : S.objs[n]? = some o) : n < m.nx := by
  obtain ⟨h1, _⟩ := List.getElem?_eq_some_iff.mp h
  rw [← k.len]; exact h1
theorem SOk.tracked (k : SOk p m S) {n : Nat} (h : n < m.nx) : ∃ u, m.H (m.μ n) = some u := by
  obtain ⟨o, ho⟩ : ∃ o, S.objs[n]? = some o := ⟨_, List.getElem?_eq_getElem (by rw [k.len]; exact h)⟩
  have := k.obj n o ho
  cases o with
  | lst xs => obtain ⟨vs, h1, _⟩ := this; exact ⟨_, h1⟩
  | ins c fs => obtain ⟨dx, fs', h1, _⟩ := this; exact ⟨_, h1⟩
  | dct kvs => obtain ⟨ys, h1, _⟩ := this; exact ⟨_, h1⟩
theorem ORel.mono (e : Up m m') {a : Addr} {o : O} (h : ORel p m a o) (hk : ∀ u, m.H a = some u → m'.H a = some u) : ORel p m' a o := by
  cases o with
  | lst xs =>
    obtain ⟨vs, h1, h2⟩ := h
    exact ⟨vs, hk _ h1, h2.mono e⟩
  | ins c fs =>
    obtain ⟨dx, fs', h1, h2⟩ := h
    exact ⟨dx, fs', hk _ h1, h2.mono e⟩
  | dct kvs =>
    obtain ⟨ys, h1, h2⟩ := h
    exact ⟨ys, hk _ h1, h2.mono e⟩
def Sim.put (m : Sim) (a : Addr) (o : HO) : Sim := { m with H := upd m.H a o }
theorem put_old {a b : Addr} {o u : HO} (h : m.H a = none) (hb : m.H b = some u) : (m.put a o).H b = some u := by
  show upd m.H a o b = _
  rw [upd_ne (ne_of_none hb h)]; exact hb
theorem put_at {a : Addr} {o : HO} : (m.put a o).H a = some o := upd_same
theorem Ext.put {a : Addr} {o : HO} (h : m.H a = none) : Ext m S (m.put a o) S where
  le := Nat.le_refl _
  same := fun _ _ => rfl
  frame := fun b u hb t n => ⟨put_old h hb, n⟩
  tups := fun b u hb => put_old h hb
  frzs := fun b u w hb => put_old h hb
  trk := fun b u hb => ⟨u, put_old h hb⟩
  dirt := fun _ h => h
  keep := fun _ _ _ => rfl
theorem SOk.put {a : Addr} {o : HO} (k : SOk p m S) (h : m.H a = none) : SOk p (m.put a o) S where
  len := k.len
  obj := fun n u hu => (k.obj n u hu).mono (Ext.put (S := S) h).toUp fun w hw => put_old h hw
  inj := k.inj
def Sim.adopt (m : Sim) (a : Addr) : Sim := { m with μ := fun n => if n = m.nx then a else m.μ n, nx := m.nx + 1 }
theorem adopt_old {a : Addr} {n : Nat} (h : n < m.nx) : (m.adopt a).μ n = m.μ n := if_neg (Nat.ne_of_lt h)
theorem adopt_new {a : Addr} : (m.adopt a).μ m.nx = a := if_pos rfl
theorem Up.adopt {a : Addr} : Up m (m.adopt a) := ⟨Nat.le_succ _, fun n h => adopt_old h, fun _ _ h => h, fun _ _ _ h => h⟩
theorem Ext.adopt {a : Addr} {o : O} (e : Ext m S m' S') (k : SOk p m' S') (h : m.H a = none) : Ext m S (m'.adopt a) ⟨S'.objs ++ [o], S'.dirty⟩ where
  toUp := e.toUp.trans Up.adopt
  frame := fun b u hb t n => by
    obtain ⟨h1, h2⟩ := e.frame b u hb t n
    refine ⟨h1, fun k hk => ?_⟩
    by_cases q : k = m'.nx
    · subst q; rw [adopt_new]; exact ne_of_none hb h
    · have q' : k < m'.nx := by have : k < m'.nx + 1 := hk; omega
      rw [adopt_old q']; exact h2 k q'
  trk := e.trk
  dirt := e.dirt
  keep := fun n hn hd => by
    have q := e.keep n hn hd
    show (S'.objs ++ [o])[n]? = _
    rw [List.getElem?_append_left (by rw [k.len]; exact Nat.lt_of_lt_of_le hn e.le)]; exact q
theorem SOk.adopt {a : Addr} {o : O} (k : SOk p m S) (ho : ORel p m a o) (hn : ∀ n, n < m.nx → a ≠ m.μ n) : SOk p (m.adopt a) ⟨S.objs ++ [o], S.dirty⟩ where
  len := by show (S.objs ++ [o]).length = m.nx + 1; simp [k.len]
  obj := fun n u hu => by
    have hu : (S.objs ++ [o])[n]? = some u := hu
    by_cases q : n < S.objs.length
    · rw [List.getElem?_append_left q] at hu
      rw [adopt_old (by rw [← k.len]; exact q)]
      exact (k.obj n u hu).mono Up.adopt fun _ h => h
    · have e : n = S.objs.length := by
        obtain ⟨h1, _⟩ := List.getElem?_eq_some_iff.mp hu
        simp at h1; omega
      subst e
      rw [List.getElem?_append_right (Nat.le_refl _)] at hu
      simp at hu; subst hu
      rw [k.len, adopt_new]
      exact ho.mono Up.adopt fun _ h => h
  inj := fun i j hi hj e => by
    have hi : i < m.nx + 1 := hi
    have hj : j < m.nx + 1 := hj
    by_cases qi : i = m.nx
    · by_cases qj : j = m.nx
      · rw [qi, qj]
      · exfalso
        rw [qi, adopt_new, adopt_old (by omega)] at e
        exact hn j (by omega) e
    · by_cases qj : j = m.nx
      · exfalso
        rw [qj, adopt_new, adopt_old (by omega)] at e
        exact hn i (by omega) e.symm
      · rw [adopt_old (by omega), adopt_old (by omega)] at e
        exact k.inj i j (by omega) (by omega) e
theorem addD_mem {n k : Nat} {l : List Nat} (h : k ∈ l) : k ∈ addD n l := by
  unfold addD
  split
  · exact h
  · exact List.mem_cons_of_mem _ h
theorem addD_self {n : Nat} {l : List Nat} : n ∈ addD n l := by
  unfold addD
  split
  · rename_i h; exact List.contains_iff_mem.mp h
  · exact List.mem_cons_self
def Sim.wr (m : Sim) (n : Nat) (o : HO) : Sim := { m with H := upd m.H (m.μ n) o }
theorem wr_at {n : Nat} {o : HO} : (m.wr n o).H (m.μ n) = some o := upd_same
theorem wr_ne {n : Nat} {o : HO} {a : Addr} (h : a ≠ m.μ n) : (m.wr n o).H a = m.H a := upd_ne h
theorem Ext.wr {n : Nat} {o : HO} {u : HO} {x : O} (hn : n < m.nx) (hu : m.H (m.μ n) = some u) (mu : Mut (some u)) : Ext m S (m.wr n o) (S.set n x) where
  le := Nat.le_refl _
  same := fun _ _ => rfl
  tups := fun a xs h => by
    rw [wr_ne (fun e => by rw [e, hu] at h; cases h; exact mu)]; exact h
  frzs := fun a o xs h => by
    rw [wr_ne (fun e => by rw [e, hu] at h; cases h; exact mu)]; exact h
  frame := fun a o h t k => ⟨by rw [wr_ne (k n hn)]; exact h, k⟩
  trk := fun a o' h => by
    by_cases e : a = m.μ n
    · subst e; exact ⟨o, wr_at⟩
    · exact ⟨o', by rw [wr_ne e]; exact h⟩
  dirt := fun k hk => addD_mem hk
  keep := fun k hk hd => by
    have : k ≠ n := fun e => by subst e; exact hd addD_self
    show (S.objs.set n x)[k]? = _
    rw [List.getElem?_set_ne (Ne.symm this)]
theorem SOk.wr {n : Nat} {o u : HO} {x : O} (k : SOk p m S) (hn : n < m.nx) (hu : m.H (m.μ n) = some u) (mu : Mut (some u)) (ho : ORel p (m.wr n o) (m.μ n) x) : SOk p (m.wr n o) (S.set n x) where
  len := by show (S.objs.set n x).length = m.nx; simp [k.len]
  obj := fun i v hv => by
    have hv : (S.objs.set n x)[i]? = some v := hv
    by_cases e : i = n
    · subst e
      rw [List.getElem?_set_self (by rw [k.len]; exact hn)] at hv
      cases hv; exact ho
    · rw [List.getElem?_set_ne (Ne.symm e)] at hv
      have hi := k.get_lt hv
      refine (k.obj i v hv).mono (Ext.wr (S := S) (x := x) hn hu mu).toUp fun w hw => ?_
      have : m.μ i ≠ m.μ n := fun q => e (k.inj i n hi hn q)
      rw [wr_ne this]; exact hw
  inj := k.inj
end
end Ev
set_option Elab.async false
set_option linter.all false
set_option maxRecDepth 100000
set_option maxHeartbeats 1000000
namespace Ev
open PySem PySem.Spec PyProof.Rows L2
abbrev St := List (Option V)
def XRel (p : Par) (m : Sim) (x : X) (dd : Option Addr) : Prop :=
  match x.a with
  | none => dd = none
  | some d => ∃ a v, dd = some a ∧ m.H a = some (.xd [(Str.ofString "limit", v)]) ∧ Rel p m d v
section
variable (p : Par)
def GR {α : Type} (Wx : X → Sim → Prop) (P : α → Sim → Store → Prop) (r : Rs α) (m : Sim) (S : Store) : Prop :=
  match r with
  | .ok a S' => ∀ m', Ext m S m' S' → SOk p m' S' → P a m' S'
  | .exc x S' => ∀ m', Ext m S m' S' → SOk p m' S' → Wx x m'
  | .stuck => False
def wx (W : WX) (σ : St) : X → Sim → Prop := fun x m => ∀ dd, XRel p m x dd → W (.ref (p.CA x.c)) dd σ m.H
def EnvR (m : Sim) (env : Env) (σ : St) : Prop := env.length = σ.length ∧ ∀ (i : Nat) (d : D), env[i]? = some (some d) → ∃ v, σ[i]? = some (some v) ∧ Rel p m d v
def qE (Q : VK) : D → Sim → Store → Prop := fun d m _ => ∀ v, Rel p m d v → Q v m.H
def qA (Q : List V → Hp → Prop) : List D → Sim → Store → Prop := fun ds m _ => ∀ vs, RelL p m ds vs → Q vs m.H
def qT (Q : Bool → Hp → Prop) : Bool → Sim → Store → Prop := fun b m _ => Q b m.H
def qL (m0 : Sim) (Q : VK) : List D → Sim → Store → Prop := fun ds m _ => ∀ a vs, m0.H a = none → m.H a = some (.lst vs) → (∀ n, n < m.nx → a ≠ m.μ n) → RelL p m ds vs → Q (.ref a) m.H
def tE (W : WX) (f : EF) : TE := fun σ H Q => ∃ m S env, m.H = H ∧ SOk p m S ∧ EnvR p m env σ ∧ GR p (wx p W σ) (qE p Q) (f env S) m S
def tA (W : WX) (f : LF) : TA := fun σ H Q => ∃ m S env, m.H = H ∧ SOk p m S ∧ EnvR p m env σ ∧ GR p (wx p W σ) (qA p Q) (f env S) m S
def tL (W : WX) (f : LF) : TE := fun σ H Q => ∃ m S env, m.H = H ∧ SOk p m S ∧ EnvR p m env σ ∧ GR p (wx p W σ) (qL p m Q) (f env S) m S
def tT (W : WX) (f : TF) : TT := fun σ H Q => ∃ m S env, m.H = H ∧ SOk p m S ∧ EnvR p m env σ ∧ GR p (wx p W σ) (qT Q) (f env S) m S
def rOp (op : Op2) : R2 := fun x y H Q => ∃ m S dx dy, m.H = H ∧ SOk p m S ∧ Rel p m dx x ∧ Rel p m dy y ∧ GR p (fun _ _ => False) (qE p Q) (op dx dy S) m S
def rUn (op : Op1) : V → Hp → VK → Prop := fun x H Q => ∃ m S dx, m.H = H ∧ SOk p m S ∧ Rel p m dx x ∧ GR p (fun _ _ => False) (qE p Q) (op dx S) m S
end
section
variable {p : Par} {α β : Type} {Wx Wx' : X → Sim → Prop} {P P' : α → Sim → Store → Prop} {r : Rs α} {m m' : Sim} {S S' : Store}
theorem GR.imp (h : GR p Wx P r m S) (hp : ∀ a m' S', Ext m S m' S' → SOk p m' S' → P a m' S' → P' a m' S') : GR p Wx P' r m S := by
  cases r with
  | ok a S' => exact fun m' e k => hp a m' S' e k (h m' e k)
  | exc x S' => exact h
  | stuck => exact h
theorem GR.later (h : GR p Wx P r m S) (e : Ext m S m' S') : GR p Wx P r m' S' := by
  cases r with
  | ok a S' => exact fun m' f k => h m' (e.trans f) k
  | exc x S' => exact fun m' f k => h m' (e.trans f) k
  | stuck => exact h
theorem GR.bind {Pb : β → Sim → Store → Prop} {f : α → Store → Rs β} (h : GR p Wx Pb (r.bind f) m S) : GR p Wx (fun a m1 S1 => GR p Wx Pb (f a S1) m1 S1) r m S := by
  cases r with
  | ok a S1 => exact fun m1 e k => GR.later (show GR p Wx Pb (f a S1) m S from h) e
  | exc x S' => exact h
  | stuck => exact h
theorem GR.bindE {Pb : β → Sim → Store → Prop} {f : α → Store → Rs β} (h : GR p Wx Pb (r.bind f) m S) (hp : ∀ a m1 S1, Ext m S m1 S1 → SOk p m1 S1 → GR p Wx Pb (f a S1) m1 S1 → P a m1 S1) : GR p Wx P r m S := h.bind.imp hp
theorem GR.ok {a : α} (h : GR p Wx P (.ok a S) m S) (k : SOk p m S) : P a m S := h m Ext.refl k
theorem EnvR.mono {env : Env} {σ : St} (h : EnvR p m env σ) (e : Up m m') : EnvR p m' env σ := ⟨h.1, fun i d hd => by
  obtain ⟨v, h1, h2⟩ := h.2 i d hd
  exact ⟨v, h1, h2.mono e⟩⟩
theorem EnvR.set {env : Env} {σ : St} {i : Nat} {d : D} {v : V} (h : EnvR p m env σ) (hv : Rel p m d v) : EnvR p m (env.set i (some d)) (σ.set i (some v)) := ⟨by simp [h.1], fun j x hx => by
  by_cases e : j = i
  · subst e
    have hl : j < env.length := by
      obtain ⟨h1, _⟩ := List.getElem?_eq_some_iff.mp hx
      simpa using h1
    rw [List.getElem?_set_self hl] at hx
    cases hx
    exact ⟨v, List.getElem?_set_self (by rw [← h.1]; exact hl), hv⟩
  · rw [List.getElem?_set_ne (Ne.symm e)] at hx
    obtain ⟨w, h1, h2⟩ := h.2 j x hx
    exact ⟨w, by rw [List.getElem?_set_ne (Ne.symm e)]; exact h1, h2⟩⟩
end
theorem PE.conv {X : Cx} {e : Expr} {t t' : TE} (h : PE X e t) (c : ∀ σ H Q, t' σ H Q → t σ H Q) : PE X e t' := ⟨fun pins s σ H Q I q => h.run pins s σ H Q I (c σ H Q q)⟩
theorem PT.conv {X : Cx} {e : Expr} {t t' : TT} (h : PT X e t) (c : ∀ σ H Q, t' σ H Q → t σ H Q) : PT X e t' := ⟨fun pins s σ H Q I q => h.run pins s σ H Q I (c σ H Q q)⟩
theorem PW.conv {X : Cx} {e : Expr} {t t' : TT} (h : PW X e t) (c : ∀ σ H Q, t' σ H Q → t σ H Q) : PW X e t' := ⟨fun w pins s σ H Q I q => h.run w pins s σ H Q I (c σ H Q q)⟩
theorem PA.conv {X : Cx} {es : List Expr} {t t' : TA} (h : PA X es t) (c : ∀ σ H Q, t' σ H Q → t σ H Q) : PA X es t' := ⟨fun pos pins s σ H Q I q => h.run pos pins s σ H Q I (c σ H Q q)⟩
section
variable {p : Par} {X : Cx} {W : WX} {pos : Pos}
theorem se_var {i : Nat} {x : Str} (hN : X.N[i]? = some x) (hv : Vis X.env.scope x) (hd : (x == ("__debug__" : Str)) = false) (hcd : (x == ("__classdict__" : Str)) = false) : PE X (.Name x pos) (tE p W (varE i)) :=
  PE.conv (pe_var hN hv hd hcd) fun σ H Q ⟨m, S, env, hH, k, er, g⟩ => by
    subst hH
    unfold varE at g
    cases q : env[i]? with
    | none => rw [q] at g; exact g.elim
    | some o =>
      rw [q] at g
      cases o with
      | none => exact g.elim
      | some d =>
        obtain ⟨v, h1, h2⟩ := er.2 i d q
        exact ⟨v, h1, g.ok k v h2⟩
theorem se_cst {e : Expr} {d : D} {v : V} (h : PE X e (tC v)) (hr : ∀ m, Rel p m d v) : PE X e (tE p W (cstE d)) :=
  PE.conv h fun σ H Q ⟨m, S, env, hH, k, er, g⟩ => by
    subst hH
    exact g.ok k v (hr m)
theorem sa_nil : PA X [] (tA p W nilL) :=
  PA.conv pa_nil fun σ H Q ⟨m, S, env, hH, k, er, g⟩ => by
    subst hH
    exact g.ok k [] RelL.nil
theorem sa_cons {e : Expr} {es : List Expr} {f : EF} {l : LF} (he : PE X e (tE p W f)) (hl : PA X es (tA p W l)) (hs : starEach (e :: es) X.env = (false, eval e X.env) :: starEach es X.env) : PA X (e :: es) (tA p W (consL f l)) :=
  PA.conv (pa_cons he hl hs) fun σ H Q ⟨m, S, env, hH, k, er, g⟩ => by
    subst hH
    refine ⟨m, S, env, rfl, k, er, g.bindE fun d m1 S1 e1 k1 g1 v hv => ?_⟩
    refine ⟨m1, S1, env, rfl, k1, er.mono e1.toUp, g1.bindE fun ds m2 S2 e2 k2 g2 vs hvs => ?_⟩
    exact g2.ok k2 (v :: vs) (RelL.cons (hv.mono e2.toUp) hvs)
theorem se_tup {es : List Expr} {x1 : Nat} {l : LF} (h : PA X es (tA p W l)) (hn : ∀ σ H Q, tA p W l σ H Q → tA p W l σ H fun vs H1 => vs.length ≤ sizeLine ∧ Q vs H1) : PE X (.Tuple es x1 pos) (tE p W (tupE l)) :=
  PE.conv (pe_tup h) fun σ H Q ⟨m, S, env, hH, k, er, g⟩ => by
    subst hH
    refine hn _ _ _ ⟨m, S, env, rfl, k, er, g.bindE fun ds m1 S1 e1 k1 g1 vs hvs a ha => ?_⟩
    exact g1 (m1.put a (.tup vs)) (Ext.put ha) (k1.put ha) (.ref a) ⟨a, vs, rfl, SqT.of put_at, hvs.mono (Ext.put (S := S1) ha).toUp⟩
end
end Ev
set_option Elab.async false
set_option linter.all false
set_option maxRecDepth 100000
set_option maxHeartbeats 4000000
namespace Ev
open PySem PySem.Spec PyProof.Rows L2
section
variable {p : Par} {m : Sim} {S : Store}
mutual
theorem rel_dp : ∀ {d : D} {v : V} {a : PyData}, Rel p m d v → pyOf d = some a → Dp p.K m.H v a
  | .non, v, a, h, e => by
    cases (show v = .non from h)
    simp only [pyOf, Option.some.injEq] at e
    subst e; exact .non
  | .bl b, v, a, h, e => by
    cases (show v = .bl b from h)
    simp only [pyOf, Option.some.injEq] at e
    subst e; exact .bl b
  | .int i, v, a, h, e => by
    cases (show v = .int i from h)
    simp only [pyOf, Option.some.injEq] at e
    subst e; exact .int i
  | .str x, v, a, h, e => by
    cases (show v = .str x from h)
    simp only [pyOf, Option.some.injEq] at e
    subst e; exact .str x
  | .tup ds, v, a, h, e => by
    obtain ⟨b, vs, rfl, h2, h3⟩ := (show ∃ a vs, v = .ref a ∧ SqT p.K m.H a vs ∧ RelL p m ds vs from h)
    simp only [pyOf, Option.map_eq_some_iff] at e
    obtain ⟨xs, e1, rfl⟩ := e
    exact .tup h2 (rel_dps h3 e1)
  | .ref _, _, _, _, e => by simp [pyOf] at e
  | .fn _, _, _, _, e => by simp [pyOf] at e
  | .cl _, _, _, _, e => by simp [pyOf] at e
  | .rol _, _, _, _, e => by simp [pyOf] at e
theorem rel_dps : ∀ {ds : List D} {vs : List V} {xs : List PyData}, RelL p m ds vs → pyOfs ds = some xs → DpAll p.K m.H vs xs
  | [], vs, xs, h, e => by
    cases (show vs = [] from h)
    simp only [pyOfs, Option.some.injEq] at e
    subst e; exact .nil
  | d :: ds, vs, xs, h, e => by
    obtain ⟨v, r, rfl, h1, h2⟩ := h.uncons
    rw [pyOfs] at e
    cases q1 : pyOf d with
    | none => rw [q1] at e; cases e
    | some x =>
      cases q2 : pyOfs ds with
      | none => rw [q1, q2] at e; cases e
      | some ys =>
        rw [q1, q2] at e
        cases e
        exact .cons (rel_dp h1 q1) (rel_dps h2 q2)
end
mutual
theorem pyOf_plain : ∀ {d : D} {a : PyData}, pyOf d = some a → a.plain = true
  | .non, _, e => by simp only [pyOf, Option.some.injEq] at e; subst e; rfl
  | .bl _, _, e => by simp only [pyOf, Option.some.injEq] at e; subst e; rfl
  | .int _, _, e => by simp only [pyOf, Option.some.injEq] at e; subst e; rfl
  | .str _, _, e => by simp only [pyOf, Option.some.injEq] at e; subst e; rfl
  | .tup ds, a, e => by
    simp only [pyOf, Option.map_eq_some_iff] at e
    obtain ⟨xs, e1, rfl⟩ := e
    rw [PyData.plain]; exact pyOfs_plain e1
  | .ref _, _, e => by simp [pyOf] at e
  | .fn _, _, e => by simp [pyOf] at e
  | .cl _, _, e => by simp [pyOf] at e
  | .rol _, _, e => by simp [pyOf] at e
theorem pyOfs_plain : ∀ {ds : List D} {xs : List PyData}, pyOfs ds = some xs → PyData.plainAll xs = true
  | [], xs, e => by simp only [pyOfs, Option.some.injEq] at e; subst e; rfl
  | d :: ds, xs, e => by
    rw [pyOfs] at e
    cases q1 : pyOf d with
    | none => rw [q1] at e; cases e
    | some x =>
      cases q2 : pyOfs ds with
      | none => rw [q1, q2] at e; cases e
      | some ys =>
        rw [q1, q2] at e
        cases e
        rw [PyData.plainAll, pyOf_plain q1, pyOfs_plain q2]; rfl
end
theorem SOk.ref (k : SOk p m S) {n : Nat} {v : V} (h : Rel p m (.ref n) v) : n < m.nx ∧ v = .ref (m.μ n) := h
theorem pyAt_dp (k : SOk p m S) : ∀ {d : D} {v : V} {a : PyData}, Rel p m d v → pyAt S d = some a → Dp p.K m.H v a ∧ a.plain = true := fun {d v a} h e => by
  cases d with
  | ref n =>
    obtain ⟨hn, rfl⟩ := k.ref h
    rw [pyAt] at e
    cases q : S.objs[n]? with
    | none => rw [q] at e; cases e
    | some o =>
      rw [q] at e
      cases o with
      | lst xs =>
        simp only [Option.map_eq_some_iff] at e
        obtain ⟨ys, e1, rfl⟩ := e
        obtain ⟨vs, h1, h2⟩ := k.obj n _ q
        exact ⟨.lst (SqL.of h1) (rel_dps h2 e1), by rw [PyData.plain]; exact pyOfs_plain e1⟩
      | ins _ _ => cases e
      | dct _ => cases e
  | non => exact ⟨rel_dp h e, pyOf_plain e⟩
  | bl _ => exact ⟨rel_dp h e, pyOf_plain e⟩
  | int _ => exact ⟨rel_dp h e, pyOf_plain e⟩
  | str _ => exact ⟨rel_dp h e, pyOf_plain e⟩
  | tup _ => exact ⟨rel_dp h e, pyOf_plain e⟩
  | fn _ => exact ⟨rel_dp h e, pyOf_plain e⟩
  | cl _ => exact ⟨rel_dp h e, pyOf_plain e⟩
  | rol _ => exact ⟨rel_dp h e, pyOf_plain e⟩
theorem strEq_beq (x y : Str) : strEq x y = decide (x = y) := by
  unfold strEq
  cases x; cases y
  rename_i a b
  simp only [Str.mk.injEq]
  by_cases h : a = b
  · subst h; simp
  · have : ¬ a.toList = b.toList := fun e => h (Array.toList_inj.mp e)
    simp [h, this]
end
theorem dec_beqS (x y : Str) : decide (x = y) = (x == y) := by
  rw [Bool.eq_iff_iff]; simp
section
variable {p : Par} {X : Cx} {pins : List (Addr × Obj)} {σ : L2.St} {m : Sim} {S : Store} {s : Shared}
theorem reads_of (hK : X.K = p.K) (I : Inv X pins σ m.H s) (k : SOk p m S) {d : D} {v : V} {u : Value} {a : PyData} (h : Rel p m d v) (r : RelV v u) (e : pyAt S d = some a) : ∃ as, Reads s.heap u a as := by
  obtain ⟨q, _⟩ := pyAt_dp k h e
  exact Dp.reads I a v u (hK ▸ q) r
theorem room64 {A : Around} {a b : PyData} (hu : A.units + 66 < cLine) (h : shallow a b = true) : A.units + min a.depth b.depth < cLine := by
  have := Nat.le_of_ble_eq_true h
  omega
end
section
variable {p : Par} {X : Cx}
theorem ok_cmp {f : Value → Value → Sem Value} {g : Store → D → D → Option Bool} {op : Op2} (hop : ∀ x y S, op x y S = match g S x y with | some b => .ok (.bl b) S | none => .stuck)
    (h : ∀ (pins : List (Addr × Obj)) (s : Shared) (σ : L2.St) (m : Sim) (S : Store) (dx dy : D) (x y : V) (v u : Value) (b : Bool) (Q : VK), Inv X pins σ m.H s → SOk p m S → Rel p m dx x → Rel p m dy y → RelV x v → RelV y u → g S dx dy = some b → Q (.bl b) m.H →
      wpAny (model X.prog X.w) X.A (f v u) (EP X pins σ Q) X.xe s) : OpR X f (rOp p op) := by
  intro pins s σ H x y v u Q I rx ry ⟨m, S, dx, dy, hH, k, hx, hy, g⟩
  subst hH
  rw [hop] at g
  rename_i gg
  cases q : gg S dx dy with
  | none => rw [q] at g; exact g.elim
  | some b =>
    rw [q] at g
    exact h pins s σ m S dx dy x y v u b Q I k hx hy rx ry q (g.ok k (.bl b) rfl)
theorem eqPy_cases {x y : Option PyData} {b : Bool} (h : eqPy x y = some b) : ∃ a c, x = some a ∧ y = some c ∧ shallow a c = true ∧ b = PyData.eqv a c := by
  unfold eqPy at h
  split at h
  · split at h
    · rename_i a c q
      cases h
      exact ⟨a, c, rfl, rfl, q, rfl⟩
    · cases h
  · cases h
theorem eqD_data {S : Store} {x y : D} {b : Bool} (h : eqD S x y = some b) : ∃ a c, pyAt S x = some a ∧ pyAt S y = some c ∧ shallow a c = true ∧ b = PyData.eqv a c := by
  cases x <;> cases y <;> first
    | exact eqPy_cases h
    | (cases h; exact ⟨_, _, rfl, rfl, rfl, by simp [PyData.eqv, strEq_beq, dec_beqS]⟩)
theorem ok_eq (hK : X.K = p.K) (hu : X.A.units + 66 < cLine) : OpR X (compareOp .Eq) (rOp p opEq) :=
  ok_cmp (g := fun S x y => eqD S x y) (fun x y S => by unfold opEq; cases eqD S x y <;> rfl) fun pins s σ m S dx dy x y v u b Q I k hx hy rx ry e q => by
    obtain ⟨a, c, e1, e2, sh, rfl⟩ := eqD_data e
    obtain ⟨as, r1⟩ := reads_of hK I k hx rx e1
    obtain ⟨bs, r2⟩ := reads_of hK I k hy ry e2
    exact SeqAt.eq_plain r1 r2 (pyAt_dp k hx e1).2 (pyAt_dp k hy e2).2 (room64 hu sh) ⟨.bl _, m.H, I, rfl, q⟩
theorem ok_ne (hK : X.K = p.K) (hu : X.A.units + 66 < cLine) : OpR X (compareOp .NotEq) (rOp p opNe) :=
  ok_cmp (g := fun S x y => (eqD S x y).map (!·)) (fun x y S => by unfold opNe; cases eqD S x y <;> rfl) fun pins s σ m S dx dy x y v u b Q I k hx hy rx ry e q => by
    simp only [Option.map_eq_some_iff] at e
    obtain ⟨b', e, rfl⟩ := e
    obtain ⟨a, c, e1, e2, sh, rfl⟩ := eqD_data e
    obtain ⟨as, r1⟩ := reads_of hK I k hx rx e1
    obtain ⟨bs, r2⟩ := reads_of hK I k hy ry e2
    exact SeqAt.ne_plain r1 r2 (pyAt_dp k hx e1).2 (pyAt_dp k hy e2).2 (room64 hu sh) ⟨.bl _, m.H, I, rfl, q⟩
theorem ordPy_cases {r : PyData → PyData → Bool} {x y : Option PyData} {b : Bool} (h : ordPy r x y = some b) : ∃ a c, x = some a ∧ y = some c ∧ a ≠ .none ∧ W.alike a c = true ∧ shallow a c = true ∧ b = r a c := by
  unfold ordPy at h
  split at h
  · rename_i a c
    split at h
    · cases h
    · rename_i hn
      split at h
      · rename_i q
        cases h
        rw [Bool.and_eq_true] at q
        exact ⟨a, c, rfl, rfl, hn, q.1, q.2, rfl⟩
      · cases h
  · cases h
theorem ltD_data {S : Store} {x y : D} {b : Bool} (h : ltD S x y = some b) : ∃ a c, pyAt S x = some a ∧ pyAt S y = some c ∧ a ≠ .none ∧ W.alike a c = true ∧ shallow a c = true ∧ b = W.dataLt a c := by
  cases x <;> cases y <;> first
    | exact ordPy_cases h
    | (cases h; exact ⟨_, _, rfl, rfl, (fun q => nomatch q), rfl, rfl, (W.dataLt_int _ _).symm⟩)
theorem leD_data {S : Store} {x y : D} {b : Bool} (h : leD S x y = some b) : ∃ a c, pyAt S x = some a ∧ pyAt S y = some c ∧ a ≠ .none ∧ W.alike a c = true ∧ shallow a c = true ∧ b = !W.dataLt c a := by
  cases x <;> cases y <;> first
    | exact ordPy_cases h
    | (cases h; exact ⟨_, _, rfl, rfl, (fun q => nomatch q), rfl, rfl, by rw [W.dataLt_int]; rename_i i j; by_cases q : i ≤ j <;> simp [q] <;> omega⟩)
theorem ok_lt (hK : X.K = p.K) (hu : X.A.units + 66 < cLine) : OpR X (compareOp .Lt) (rOp p opLt) :=
  ok_cmp (g := fun S x y => ltD S x y) (fun x y S => by unfold opLt; cases ltD S x y <;> rfl) fun pins s σ m S dx dy x y v u b Q I k hx hy rx ry e q => by
    obtain ⟨a, c, e1, e2, hn, al, sh, rfl⟩ := ltD_data e
    obtain ⟨as, r1⟩ := reads_of hK I k hx rx e1
    obtain ⟨bs, r2⟩ := reads_of hK I k hy ry e2
    exact W.lt_data r1 r2 al hn (room64 hu sh) ⟨.bl _, m.H, I, rfl, q⟩
theorem ok_le (hK : X.K = p.K) (hu : X.A.units + 66 < cLine) : OpR X (compareOp .LtE) (rOp p opLe) :=
  ok_cmp (g := fun S x y => leD S x y) (fun x y S => by unfold opLe; cases leD S x y <;> rfl) fun pins s σ m S dx dy x y v u b Q I k hx hy rx ry e q => by
    obtain ⟨a, c, e1, e2, hn, al, sh, rfl⟩ := leD_data e
    obtain ⟨as, r1⟩ := reads_of hK I k hx rx e1
    obtain ⟨bs, r2⟩ := reads_of hK I k hy ry e2
    exact W.le_data r1 r2 al hn (room64 hu sh) ⟨.bl _, m.H, I, rfl, q⟩
theorem ok_gt : OpR X (compareOp .Gt) (rOp p opGt) := by
  intro pins s σ H x y v u Q I rx ry ⟨m, S, dx, dy, hH, k, hx, hy, g⟩
  subst hH
  cases dx with
  | int i =>
    cases dy with
    | int j =>
      cases (show x = .int i from hx)
      cases (show y = .int j from hy)
      exact op_gt pins s σ m.H _ _ v u Q I rx ry ⟨i, j, rfl, rfl, g.ok k _ rfl⟩
    | _ => exact g.elim
  | _ => exact g.elim
theorem ok_ge : OpR X (compareOp .GtE) (rOp p opGe) := by
  intro pins s σ H x y v u Q I rx ry ⟨m, S, dx, dy, hH, k, hx, hy, g⟩
  subst hH
  cases dx with
  | int i =>
    cases dy with
    | int j =>
      cases (show x = .int i from hx)
      cases (show y = .int j from hy)
      exact op_ge pins s σ m.H _ _ v u Q I rx ry ⟨i, j, rfl, rfl, g.ok k _ rfl⟩
    | _ => exact g.elim
  | _ => exact g.elim
theorem memI_data {i : Int} : ∀ {ys : List D} {b : Bool}, memI i ys = some b → ∃ xs, pyOfs ys = some xs ∧ b = xs.any fun y => PyData.eqv y (.int i)
  | [], b, h => by cases h; exact ⟨[], rfl, rfl⟩
  | d :: r, b, h => by
    cases d with
    | int j =>
      rw [memI] at h
      cases q : memI i r with
      | none => rw [q] at h; cases h
      | some c =>
        rw [q] at h
        cases h
        obtain ⟨xs, e, rfl⟩ := memI_data q
        exact ⟨.int j :: xs, by rw [pyOfs, pyOf, e], by simp only [List.any_cons, PyData.eqv]; congr 1⟩
    | _ => cases h
theorem memS_data {x : Str} : ∀ {ys : List D} {b : Bool}, memS x ys = some b → ∃ xs, pyOfs ys = some xs ∧ b = xs.any fun y => PyData.eqv y (.str x)
  | [], b, h => by cases h; exact ⟨[], rfl, rfl⟩
  | d :: r, b, h => by
    cases d with
    | str y =>
      rw [memS] at h
      cases q : memS x r with
      | none => rw [q] at h; cases h
      | some c =>
        rw [q] at h
        cases h
        obtain ⟨xs, e, rfl⟩ := memS_data q
        exact ⟨.str y :: xs, by rw [pyOfs, pyOf, e], by simp only [List.any_cons, PyData.eqv, strEq_beq, dec_beqS]⟩
    | _ => cases h
theorem memPy_data {x : Option PyData} {ys : Option (List PyData)} {b : Bool} (h : memPy x ys = some b) : ∃ a xs, x = some a ∧ ys = some xs ∧ min (PyData.depthAll xs) a.depth ≤ 64 ∧ b = xs.any fun y => PyData.eqv y a := by
  unfold memPy at h
  split at h
  · split at h
    · rename_i a bs q
      cases h
      exact ⟨a, bs, rfl, rfl, Nat.le_of_ble_eq_true q, rfl⟩
    · cases h
  · cases h
theorem memD_data {x : D} {ys : List D} {b : Bool} (h : memD x ys = some b) : ∃ a xs, pyOf x = some a ∧ pyOfs ys = some xs ∧ min (PyData.depthAll xs) a.depth ≤ 64 ∧ b = xs.any fun y => PyData.eqv y a := by
  cases x with
  | int i =>
    rw [memD] at h
    cases q : memI i ys with
    | some c =>
      rw [q] at h
      cases h
      obtain ⟨xs, e, rfl⟩ := memI_data q
      exact ⟨.int i, xs, rfl, e, Nat.le_trans (Nat.min_le_right _ _) (by simp [PyData.depth]), rfl⟩
    | none =>
      rw [q] at h
      obtain ⟨a, xs, e1, h2⟩ := memPy_data h
      exact ⟨a, xs, e1, h2⟩
  | str z =>
    rw [memD] at h
    cases q : memS z ys with
    | some c =>
      rw [q] at h
      cases h
      obtain ⟨xs, e, rfl⟩ := memS_data q
      exact ⟨.str z, xs, rfl, e, Nat.le_trans (Nat.min_le_right _ _) (by simp [PyData.depth]), rfl⟩
    | none =>
      rw [q] at h
      obtain ⟨a, xs, e1, h2⟩ := memPy_data h
      exact ⟨a, xs, e1, h2⟩
  | ref n => cases (show (none : Option Bool) = some b from h)
  | fn n => cases (show (none : Option Bool) = some b from h)
  | cl n => cases (show (none : Option Bool) = some b from h)
  | rol n => cases (show (none : Option Bool) = some b from h)
  | _ =>
    obtain ⟨a, xs, e1, h2⟩ := memPy_data (show memPy (pyOf _) (pyOfs ys) = some b from h)
    exact ⟨a, xs, e1, h2⟩
theorem pyOf_at {S : Store} {d : D} {a : PyData} (h : pyOf d = some a) : pyAt S d = some a := by
  cases d <;> first | exact h | (simp [pyOf] at h)
theorem inD_data {S : Store} {x y : D} {b : Bool} (h : inD S x y = some b) : ∃ a xs, pyAt S x = some a ∧ (pyAt S y = some (.tuple xs) ∨ pyAt S y = some (.list xs)) ∧ min (PyData.depthAll xs) a.depth ≤ 64 ∧ b = xs.any fun y => PyData.eqv y a := by
  cases y with
  | tup ys =>
    obtain ⟨a, xs, e1, e2, h3, h4⟩ := memD_data (show memD x ys = some b from h)
    exact ⟨a, xs, pyOf_at e1, .inl (by show pyOf (.tup ys) = _; rw [pyOf, e2]; rfl), h3, h4⟩
  | ref n =>
    rw [inD] at h
    cases q : S.objs[n]? with
    | none => rw [q] at h; cases h
    | some o =>
      rw [q] at h
      cases o with
      | lst ys =>
        obtain ⟨a, xs, e1, e2, h3, h4⟩ := memD_data (show memD x ys = some b from h)
        exact ⟨a, xs, pyOf_at e1, .inr (by rw [pyAt, q]; show (pyOfs ys).map _ = _; rw [e2]; rfl), h3, h4⟩
      | _ => cases h
  | _ => cases h
theorem ok_in (hK : X.K = p.K) (hu : X.A.units + 66 < cLine) : OpR X (compareOp .In) (rOp p opIn) :=
  ok_cmp (g := fun S x y => inD S x y) (fun x y S => by unfold opIn; cases inD S x y <;> rfl) fun pins s σ m S dx dy x y v u b Q I k hx hy rx ry e q => by
    obtain ⟨a, xs, e1, e2, sh, rfl⟩ := inD_data e
    obtain ⟨as, r1⟩ := reads_of hK I k hx rx e1
    have p1 := (pyAt_dp k hx e1).2
    rcases e2 with e2 | e2
    · obtain ⟨bs, r2⟩ := reads_of hK I k hy ry e2
      have p2 := (pyAt_dp k hy e2).2
      exact SeqAt.in_tuple_data r2 r1 (by rw [PyData.plain] at p2; exact p2) p1 (by omega) ⟨.bl _, m.H, I, rfl, q⟩
    · obtain ⟨bs, r2⟩ := reads_of hK I k hy ry e2
      have p2 := (pyAt_dp k hy e2).2
      exact SeqAt.in_list_data r2 r1 (by rw [PyData.plain] at p2; exact p2) p1 (by omega) ⟨.bl _, m.H, I, rfl, q⟩
theorem ok_notIn (hK : X.K = p.K) (hu : X.A.units + 66 < cLine) : OpR X (compareOp .NotIn) (rOp p opNotIn) :=
  ok_cmp (g := fun S x y => (inD S x y).map (!·)) (fun x y S => by unfold opNotIn; cases inD S x y <;> rfl) fun pins s σ m S dx dy x y v u b Q I k hx hy rx ry e q => by
    simp only [Option.map_eq_some_iff] at e
    obtain ⟨b', e, rfl⟩ := e
    obtain ⟨a, xs, e1, e2, sh, rfl⟩ := inD_data e
    obtain ⟨as, r1⟩ := reads_of hK I k hx rx e1
    have p1 := (pyAt_dp k hx e1).2
    rcases e2 with e2 | e2
    · obtain ⟨bs, r2⟩ := reads_of hK I k hy ry e2
      have p2 := (pyAt_dp k hy e2).2
      exact SeqAt.notIn_tuple_data r2 r1 (by rw [PyData.plain] at p2; exact p2) p1 (by omega) ⟨.bl _, m.H, I, rfl, q⟩
    · obtain ⟨bs, r2⟩ := reads_of hK I k hy ry e2
      have p2 := (pyAt_dp k hy e2).2
      exact SeqAt.notIn_list_data r2 r1 (by rw [PyData.plain] at p2; exact p2) p1 (by omega) ⟨.bl _, m.H, I, rfl, q⟩
end
end Ev
set_option Elab.async false
set_option linter.all false
set_option maxRecDepth 100000
set_option maxHeartbeats 4000000
namespace Ev
open PySem PySem.Spec PyProof.Rows L2
section
variable {p : Par} {X : Cx}
theorem cat_any {pins : List (Addr × Obj)} {s : Shared} {σ : L2.St} {H : Hp} {a b : Addr} {xs ys : List V} {Q : VK} (I : Inv X pins σ H s) (ha : SqT X.K H a xs) (hb : SqT X.K H b ys) (hz : xs.length + ys.length ≤ sizeLine)
    (q : ∀ t H', (H' = H ∧ SqT X.K H t (xs ++ ys)) ∨ (H t = none ∧ H' = upd H t (.tup (xs ++ ys))) → Q (.ref t) H') : wpAny (model X.prog X.w) X.A (binaryOp .Add (.ref a) (.ref b)) (EP X pins σ Q) X.xe s := by
  by_cases hx : xs = []
  · subst hx
    obtain ⟨its, r1, p1, _⟩ := I.tuple ha
    obtain ⟨its2, r2, p2, _⟩ := I.tuple hb
    cases r1
    obtain ⟨⟨cls, dd, data, sl⟩, ho, hc, n, hd⟩ := id p1
    obtain ⟨⟨cls2, dd2, data2, sl2⟩, ho2, hc2, n2, hd2⟩ := id p2
    simp only at hc hd hc2 hd2
    subst hc hd hc2 hd2
    exact concat_meets ⟨_, ho, rfl⟩ ⟨_, ho2, rfl⟩ noFill_tuple_add seq_tuple_add PySem.F.slot_tuple_add PySem.F.entry_tuple_add (PySem.F.args_tuple_add_2 _ _)
      (tuple_addW0 a b _ its2.toArray n n2 dd dd2 sl sl2 (by simp)) ⟨ho, ho2, ⟨.ref b, H, I, rfl, q b H (.inl ⟨rfl, by simpa using hb⟩)⟩⟩
  · refine op_catT pins s σ H (.ref a) (.ref b) (.ref a) (.ref b) Q I rfl rfl ⟨a, b, xs, ys, rfl, rfl, ha, hb, hx, hz, fun e => ?_, fun _ t ht => q t _ (.inr ⟨ht, rfl⟩)⟩
    subst e
    exact q a H (.inl ⟨rfl, by simpa using ha⟩)
theorem sizeOk_le {n : Nat} (h : sizeOk n = true) : n ≤ sizeLine := by
  have := Nat.le_of_ble_eq_true h
  rw [sizeLine_eq]; omega
theorem sqE {K K' : PySem.W.Frag} (e : K = K') {H : Hp} {a : Addr} {xs : List V} (h : SqT K H a xs) : SqT K' H a xs := e ▸ h
theorem ok_add (hK : X.K = p.K) : OpR X (binaryOp .Add) (rOp p opAdd) := by
  intro pins s σ H x y v u Q I rx ry ⟨m, S, dx, dy, hH, k, hx, hy, g⟩
  subst hH
  cases dx with
  | int i =>
    cases dy with
    | int j =>
      cases (show x = .int i from hx)
      cases (show y = .int j from hy)
      exact op_add pins s σ m.H _ _ v u Q I rx ry ⟨i, j, rfl, rfl, g.ok k _ rfl⟩
    | _ => exact g.elim
  | str i =>
    cases dy with
    | str j =>
      cases (show x = .str i from hx)
      cases (show y = .str j from hy)
      unfold opAdd at g
      dsimp only at g
      split at g
      · rename_i hz
        exact op_add_str pins s σ m.H _ _ v u Q I rx ry ⟨i, j, rfl, rfl, sizeOk_le hz, g.ok k _ rfl⟩
      · exact g.elim
    | _ => exact g.elim
  | tup as =>
    cases dy with
    | tup bs =>
      obtain ⟨a, vs, rfl, h1, h2⟩ := (show ∃ a vs, x = .ref a ∧ SqT p.K m.H a vs ∧ RelL p m as vs from hx)
      obtain ⟨b, ws, rfl, h3, h4⟩ := (show ∃ a vs, y = .ref a ∧ SqT p.K m.H a vs ∧ RelL p m bs vs from hy)
      cases rx
      cases ry
      unfold opAdd at g
      dsimp only at g
      split at g
      · rename_i hz
        refine cat_any I (sqE hK.symm h1) (sqE hK.symm h3) (by have e1 := h2.length; have e2 := h4.length; rw [← e1, ← e2]; exact sizeOk_le hz) fun t H' z => ?_
        rcases z with ⟨rfl, z⟩ | ⟨z, rfl⟩
        · exact g.ok k _ ⟨t, _, rfl, sqE hK z, h2.append h4⟩
        · exact g (m.put t (.tup (vs ++ ws))) (Ext.put z) (k.put z) (.ref t) ⟨t, _, rfl, SqT.of put_at, (h2.append h4).mono (Ext.put (S := S) z).toUp⟩
      · exact g.elim
    | _ => exact g.elim
  | _ => exact g.elim
theorem ok_sub : OpR X (binaryOp .Sub) (rOp p opSub) := by
  intro pins s σ H x y v u Q I rx ry ⟨m, S, dx, dy, hH, k, hx, hy, g⟩
  subst hH
  cases dx with
  | int i =>
    cases dy with
    | int j =>
      cases (show x = .int i from hx)
      cases (show y = .int j from hy)
      exact op_sub pins s σ m.H _ _ v u Q I rx ry ⟨i, j, rfl, rfl, g.ok k _ rfl⟩
    | _ => exact g.elim
  | bl i =>
    cases dy with
    | bl j =>
      cases (show x = .bl i from hx)
      cases (show y = .bl j from hy)
      cases rx
      cases ry
      exact PyProof.Rows.sub_bool ⟨.int _, m.H, I.tok _, ⟨_, rfl⟩, g.ok k _ rfl⟩
    | _ => exact g.elim
  | _ => exact g.elim
theorem mulOk_ok {i j : Int} (h : mulOk i j = true) : IntMulOk i j := by
  unfold mulOk at h
  simp only [Bool.or_eq_true, Bool.and_eq_true, decide_eq_true_eq] at h
  rcases h with (h | h) | ⟨h1, h2⟩
  · exact CMul.ok (.inl ⟨by omega, by omega⟩)
  · exact CMul.ok (.inr ⟨by omega, by omega⟩)
  · exact CMulW.ok (wide_mul h1 h2 (by decide) (by decide) (by decide))
theorem ok_mulI {pins : List (Addr × Obj)} {s : Shared} {σ : L2.St} {H : Hp} {i j : Int} {v u : Value} {Q : VK} (I : Inv X pins σ H s) (rx : RelV (.int i) v) (ry : RelV (.int j) u) (hm : IntMulOk i j) (q : Q (.int (i * j)) H) :
    wpAny (model X.prog X.w) X.A (binaryOp .Mult v u) (EP X pins σ Q) X.xe s := by
  obtain ⟨t, rfl⟩ := rx
  obtain ⟨t', rfl⟩ := ry
  exact mul_int ⟨.int _, H, I.tok _, ⟨_, rfl⟩, q⟩ hm
theorem tuple_mul_same (l : Addr) (items : Array Value) (n : Nat) (dd : Option Addr) (sl : Array (Option Value)) (x : Int) (u : Tok) (c0 : (decide (x < -(2 ^ 63)) || decide (x ≥ 2 ^ 63)) = false) (c1 : (items.isEmpty || x == 1) = true) :
    Meets (Builtin.«tuple.__mul__» ⟨[.ref l, .int x u], []⟩) (fun _ R s => s.heap.get? l = some { cls := .type "tuple", dict := dd, data := .seq items n, slots := sl } ∧ R (.ok (.ret (Value.ref l))) s) :=
  .of_wp fun prog w A R s h => by
    obtain ⟨hp, g, d, tk, os⟩ := s
    obtain ⟨hl, h⟩ := h
    have f1 := AutoSeq1.idx_int
    wp_walk using wpAny_loadPart' hl
    repeat (first
      | (refine wpAny_ite_false (decide_eq_false (by rw [c0]; exact Bool.false_ne_true)) ?_; wp_walk using wpAny_loadPart' hl)
      | (refine wpAny_ite_true (decide_eq_true (by rw [c1])) ?_; wp_walk using wpAny_loadPart' hl))
    exact ⟨_, rfl, h⟩
theorem tuple_mul_none (l : Addr) (items : Array Value) (n : Nat) (dd : Option Addr) (sl : Array (Option Value)) (x : Int) (u : Tok) (c0 : (decide (x < -(2 ^ 63)) || decide (x ≥ 2 ^ 63)) = false) (c1 : (items.isEmpty || x == 1) = false) (c2 : (decide (x ≤ 0) || items.isEmpty) = true) :
    Meets (Builtin.«tuple.__mul__» ⟨[.ref l, .int x u], []⟩) (fun _ R s => s.heap.get? l = some { cls := .type "tuple", dict := dd, data := .seq items n, slots := sl } ∧ R (.ok (.ret (Value.ref s.heap.objs.size))) { s with heap := s.heap.push { cls := Value.type "tuple", data := Data.seq #[] }, toks := s.toks }) :=
  .of_wp fun prog w A R s h => by
    obtain ⟨hp, g, d, tk, os⟩ := s
    obtain ⟨hl, h⟩ := h
    have f1 := AutoSeq1.idx_int
    wp_walk using wpAny_loadPart' hl
    repeat (first
      | (refine wpAny_ite_false (decide_eq_false (by rw [c0]; exact Bool.false_ne_true)) ?_; wp_walk using wpAny_loadPart' hl)
      | (refine wpAny_ite_false (decide_eq_false (by rw [c1]; exact Bool.false_ne_true)) ?_; wp_walk using wpAny_loadPart' hl)
      | (refine wpAny_ite_true (decide_eq_true (by rw [c2])) ?_; wp_walk using wpAny_loadPart' hl))
    exact ⟨_, rfl, h⟩
theorem rep_any {pins : List (Addr × Obj)} {s : Shared} {σ : L2.St} {H : Hp} {l : Addr} {k : Int} {xs : List V} {u : Value} {Q : VK} (I : Inv X pins σ H s) (hT : SqT X.K H l xs) (ry : RelV (.int k) u) (h1 : -1000 ≤ k) (h2 : k ≤ 1000) (hz : xs.length ≤ 1000)
    (q : ∀ t H', (H' = H ∧ SqT X.K H t (List.replicate k.toNat xs).flatten) ∨ (H t = none ∧ H' = upd H t (.tup (List.replicate k.toNat xs).flatten)) → Q (.ref t) H') : wpAny (model X.prog X.w) X.A (binaryOp .Mult (.ref l) u) (EP X pins σ Q) X.xe s := by
  by_cases hne : xs ≠ [] ∧ 2 ≤ k
  · exact op_repT pins s σ H (.ref l) (.int k) (.ref l) u Q I rfl ry ⟨l, k, xs, rfl, rfl, hT, hne.1, hne.2, h2, hz, fun t ht => q t _ (.inr ⟨ht, rfl⟩)⟩
  · obtain ⟨t, rfl⟩ := ry
    obtain ⟨its, r, ⟨⟨cls, dd, data, sl⟩, ho, hc, n, hd⟩, hs⟩ := I.tuple hT
    simp only at hc hd
    subst hc hd
    have c0 : (decide (k < -(2 ^ 63)) || decide (k ≥ 2 ^ 63)) = false := by
      rw [decide_eq_false (by omega), decide_eq_false (by omega)] <;> rfl
    by_cases c1 : (its.toArray.isEmpty || k == 1) = true
    · refine wpAny_binaryOp_repeat_ref (T := "tuple") (U := "int") (by decide) ⟨_, ho, rfl⟩ (fun s' => typeIs_int s' k t) noFill_tuple_mul F.fills_int_mul F.slot_int_rmul repeat_tuple F.slot_int_index.lookup
        (call_meets F.slot_int_rmul (typeIs_int s k t) F.entry_int_rmul (F.args_int_rmul_2 _ _) (int_rmul_tuple k t l its.toArray n dd sl)
          ⟨ho, rfl, ⟨_, ho, rfl⟩, call_meets F.slot_tuple_mul ⟨_, ho, rfl⟩ F.entry_tuple_mul (F.args_tuple_mul_2 _ _) (tuple_mul_same l its.toArray n dd sl k t c0 c1) ⟨ho, ?_⟩⟩)
      refine ⟨.ref l, H, I, rfl, q l H (.inl ⟨rfl, ?_⟩)⟩
      rw [Bool.or_eq_true] at c1
      rcases c1 with c1 | c1
      · have : its = [] := by simpa using c1
        subst this
        cases r
        have e : (List.replicate k.toNat ([] : List V)).flatten = [] := by simp
        rw [e]; exact hT
      · have : k = 1 := by simpa using c1
        subst this
        have e : (List.replicate (1 : Int).toNat xs).flatten = xs := by simp
        rw [e]; exact hT
    · have c1' : (its.toArray.isEmpty || k == 1) = false := by simpa using c1
      have hni : its ≠ [] := fun e => by subst e; simp at c1
      have hnx : xs ≠ [] := fun e => by subst e; cases r; exact hni rfl
      have hk : k ≤ 0 := by
        have h3 : ¬ (2 ≤ k) := fun z => hne ⟨hnx, z⟩
        have h4 : k ≠ 1 := fun z => by subst z; simp at c1
        omega
      have e : (List.replicate k.toNat xs).flatten = [] := by
        have : k.toNat = 0 := by omega
        rw [this]; rfl
      refine wpAny_binaryOp_repeat_ref (T := "tuple") (U := "int") (by decide) ⟨_, ho, rfl⟩ (fun s' => typeIs_int s' k t) noFill_tuple_mul F.fills_int_mul F.slot_int_rmul repeat_tuple F.slot_int_index.lookup
        (call_meets F.slot_int_rmul (typeIs_int s k t) F.entry_int_rmul (F.args_int_rmul_2 _ _) (int_rmul_tuple k t l its.toArray n dd sl)
          ⟨ho, rfl, ⟨_, ho, rfl⟩, call_meets F.slot_tuple_mul ⟨_, ho, rfl⟩ F.entry_tuple_mul (F.args_tuple_mul_2 _ _) (tuple_mul_none l its.toArray n dd sl k t c0 c1' (by rw [decide_eq_true hk]; rfl)) ⟨ho, ?_⟩⟩)
      refine ⟨.ref s.heap.objs.size, _, I.laid (t' := s.toks) (o := .tup []) (fun b ob q => Heap.get?_push_of_some _ q) (Nat.le_refl _) ?_, rfl, q _ _ (.inr ⟨I.hok.fresh (Nat.le_refl _), by rw [e]⟩)⟩
      exact ⟨by simp, _, .nil, IsTup.new _ _⟩
theorem rel_rep {m : Sim} {as : List D} {vs : List V} (h : RelL p m as vs) : ∀ n : Nat, RelL p m (List.replicate n as).flatten (List.replicate n vs).flatten
  | 0 => RelL.nil
  | n + 1 => by
    rw [List.replicate_succ, List.replicate_succ, List.flatten_cons, List.flatten_cons]
    exact h.append (rel_rep h n)
theorem ok_mul (hK : X.K = p.K) : OpR X (binaryOp .Mult) (rOp p opMul) := by
  intro pins s σ H x y v u Q I rx ry ⟨m, S, dx, dy, hH, k, hx, hy, g⟩
  subst hH
  cases dx with
  | int i =>
    cases dy with
    | int j =>
      cases (show x = .int i from hx)
      cases (show y = .int j from hy)
      unfold opMul at g
      dsimp only at g
      split at g
      · rename_i hm
        exact ok_mulI I rx ry (mulOk_ok hm) (g.ok k _ rfl)
      · exact g.elim
    | _ => exact g.elim
  | tup as =>
    cases dy with
    | int j =>
      obtain ⟨a, vs, rfl, h1, h2⟩ := (show ∃ a vs, x = .ref a ∧ SqT p.K m.H a vs ∧ RelL p m as vs from hx)
      cases (show y = .int j from hy)
      cases rx
      unfold opMul at g
      dsimp only at g
      split at g
      · rename_i hz
        simp only [Bool.and_eq_true, decide_eq_true_eq] at hz
        obtain ⟨⟨z1, z2⟩, z3⟩ := hz
        have z1 := Nat.le_of_ble_eq_true z1
        refine rep_any I (sqE hK.symm h1) ry z2 z3 (by rw [← h2.length]; exact z1) fun t H' z => ?_
        rcases z with ⟨rfl, z⟩ | ⟨z, rfl⟩
        · exact g.ok k _ ⟨t, _, rfl, sqE hK z, rel_rep h2 _⟩
        · exact g (m.put t _) (Ext.put z) (k.put z) (.ref t) ⟨t, _, rfl, SqT.of put_at, (rel_rep h2 _).mono (Ext.put (S := S) z).toUp⟩
      · exact g.elim
    | _ => exact g.elim
  | _ => exact g.elim
theorem ok_div : OpR X (binaryOp .FloorDiv) (rOp p opDiv) := by
  intro pins s σ H x y v u Q I rx ry ⟨m, S, dx, dy, hH, k, hx, hy, g⟩
  subst hH
  cases dx with
  | int i =>
    cases dy with
    | int j =>
      cases (show x = .int i from hx)
      cases (show y = .int j from hy)
      unfold opDiv at g
      dsimp only at g
      split at g
      · rename_i hm
        unfold divOk at hm
        simp only [Bool.and_eq_true, decide_eq_true_eq] at hm
        exact op_fdivW pins s σ m.H _ _ v u Q I rx ry ⟨i, j, rfl, rfl, wide_div hm.1 hm.2 (by decide) (by decide), g.ok k _ rfl⟩
      · exact g.elim
    | _ => exact g.elim
  | _ => exact g.elim
theorem ok_mod : OpR X (binaryOp .Mod) (rOp p opMod) := by
  intro pins s σ H x y v u Q I rx ry ⟨m, S, dx, dy, hH, k, hx, hy, g⟩
  subst hH
  cases dx with
  | int i =>
    cases dy with
    | int j =>
      cases (show x = .int i from hx)
      cases (show y = .int j from hy)
      unfold opMod at g
      dsimp only at g
      split at g
      · rename_i hm
        exact op_mod pins s σ m.H _ _ v u Q I rx ry ⟨i, j, rfl, rfl, of_decide_eq_true hm, g.ok k _ rfl⟩
      · exact g.elim
    | _ => exact g.elim
  | _ => exact g.elim
theorem ok_neg : UnR X (unaryOp .USub) (rUn p opNeg) := by
  intro pins s σ H x v Q I rx ⟨m, S, dx, hH, k, hx, g⟩
  subst hH
  cases dx with
  | int i =>
    cases (show x = .int i from hx)
    exact un_neg pins s σ m.H _ v Q I rx ⟨i, rfl, g.ok k _ rfl⟩
  | _ => exact g.elim
theorem sqLE {K K' : PySem.W.Frag} (e : K = K') {H : Hp} {a : Addr} {xs : List V} (h : SqL K H a xs) : SqL K' H a xs := e ▸ h
theorem relL_empty {m : Sim} {ds : List D} {vs : List V} (h : RelL p m ds vs) : ds.isEmpty = vs.isEmpty := by
  cases ds with
  | nil => cases (show vs = [] from h); rfl
  | cons d ds => obtain ⟨v, r, rfl, _, _⟩ := h.uncons; rfl
theorem truth_v (hK : X.K = p.K) {m : Sim} {S : Store} {d : D} {x : V} {b : Bool} (k : SOk p m S) (h : Rel p m d x) (e : truth S d = some b) : TruV X.K x m.H b := by
  cases d with
  | non => cases (show x = .non from h); cases e; rfl
  | bl c => cases (show x = .bl c from h); cases e; rfl
  | int i => cases (show x = .int i from h); cases e; rfl
  | str z =>
    cases (show x = .str z from h)
    unfold truth at e
    dsimp only at e
    split at e
    · rename_i hz
      cases e
      exact ⟨sizeOk_le hz, rfl⟩
    · cases e
  | tup ds =>
    obtain ⟨a, vs, rfl, h1, h2⟩ := (show ∃ a vs, x = .ref a ∧ SqT p.K m.H a vs ∧ RelL p m ds vs from h)
    cases e
    exact .inr (.inl ⟨vs, sqE hK.symm h1, by rw [relL_empty h2]⟩)
  | ref n =>
    obtain ⟨hn, rfl⟩ := k.ref h
    rw [truth] at e
    cases q : S.objs[n]? with
    | none => rw [q] at e; cases e
    | some o =>
      rw [q] at e
      cases o with
      | lst xs =>
        cases e
        obtain ⟨vs, h1, h2⟩ := k.obj n _ q
        exact .inl ⟨vs, SqL.of h1, by rw [relL_empty h2]⟩
      | ins _ _ => cases e
      | dct _ => cases e
  | fn _ => cases e
  | cl _ => cases e
  | rol _ => cases e
theorem atD_rel {m : Sim} {ds : List D} {vs : List V} {i : Int} {d : D} (h : RelL p m ds vs) (e : atD ds i = some d) : ∃ v, atI vs i = some v ∧ Rel p m d v := by
  unfold atD at e
  split at e
  · rename_i j q
    obtain ⟨v, h1, h2⟩ := h.get e
    refine ⟨v, ?_, h2⟩
    unfold atI
    have : ixN vs.length i = some j := by rw [← h.length]; exact q
    rw [this]; exact h1
  · cases e
theorem ok_ix (hK : X.K = p.K) : IxR X (rOp p opIx) := by
  intro value slice pins s σ H x y v u Q I rx ry ⟨m, S, dx, dy, hH, k, hx, hy, g⟩ hs
  subst hH
  cases dx with
  | tup ds =>
    cases dy with
    | int i =>
      obtain ⟨a, vs, rfl, h1, h2⟩ := (show ∃ a vs, x = .ref a ∧ SqT p.K m.H a vs ∧ RelL p m ds vs from hx)
      cases (show y = .int i from hy)
      unfold opIx at g
      dsimp only at g
      cases q : atD ds i with
      | none => rw [q] at g; exact g.elim
      | some d =>
        rw [q] at g
        obtain ⟨w, e1, e2⟩ := atD_rel h2 q
        exact ix_tup value slice pins s σ m.H _ _ v u Q I rx ry ⟨a, vs, i, w, rfl, rfl, sqE hK.symm h1, e1, g.ok k w e2⟩ hs
    | _ => exact g.elim
  | ref n =>
    cases dy with
    | int i =>
      obtain ⟨hn, rfl⟩ := k.ref hx
      cases (show y = .int i from hy)
      unfold opIx at g
      dsimp only at g
      cases q : S.objs[n]? with
      | none => rw [q] at g; exact g.elim
      | some o =>
        rw [q] at g
        cases o with
        | lst xs =>
          obtain ⟨vs, h1, h2⟩ := k.obj n _ q
          dsimp only at g
          cases q2 : atD xs i with
          | none => rw [q2] at g; exact g.elim
          | some d =>
            rw [q2] at g
            obtain ⟨w, e1, e2⟩ := atD_rel h2 q2
            exact ix_list value slice pins s σ m.H _ _ v u Q I rx ry ⟨_, vs, i, w, rfl, rfl, SqL.of h1, e1, g.ok k w e2⟩ hs
        | ins _ _ => exact g.elim
        | dct _ => exact g.elim
    | _ => exact g.elim
  | _ => exact g.elim
theorem op_isC {c : V} {cu : Value} (h : c = .non ∧ cu = .none ∨ ∃ b, c = .bl b ∧ cu = .bool b) : True := trivial
end
end Ev
set_option Elab.async false
set_option linter.all false
set_option maxRecDepth 100000
set_option maxHeartbeats 4000000
namespace Ev
open PySem PySem.Spec PyProof.Rows L2
section
variable {p : Par} {X : Cx} {W : WX} {pos : Pos}
def isV (c : V) : R2 := fun x y H Q => y = c ∧ Q (.bl (decide (x = c))) H
theorem is_bool_gen {M : Model} {A : Around} {E : Value → Shared → Prop} {s : Shared} {v : Value} {b : Bool} {Q : Value → Shared → Prop} (hv : (absV v).isSome) (h : Q (.bool (v == .bool b)) s) : wpAny M A (compareOp .Is v (.bool b)) Q E s := by
  cases v <;> first | exact wpAny_pure h | (simp [absV] at hv)
theorem isnot_bool_gen {M : Model} {A : Around} {E : Value → Shared → Prop} {s : Shared} {v : Value} {b : Bool} {Q : Value → Shared → Prop} (hv : (absV v).isSome) (h : Q (.bool (!(v == .bool b))) s) : wpAny M A (compareOp .IsNot v (.bool b)) Q E s := by
  cases v <;> first | exact wpAny_pure h | (simp [absV] at hv)
theorem bool_beq {x : V} {v : Value} {b : Bool} (r : RelV x v) : (v == Value.bool b) = decide (x = .bl b) := by
  rw [Bool.eq_iff_iff, beq_iff_eq, decide_eq_true_eq]
  constructor
  · intro e
    subst e
    have := RelV.abs r
    simpa [absV] using this.symm
  · intro e
    subst e
    exact r
theorem op_isB {b : Bool} : OpR X (compareOp .Is) (fun x y H Q => y = .bl b ∧ Q (.bl (decide (x = .bl b))) H) := by
  intro pins s σ H x y v u Q I rx ry h
  obtain ⟨rfl, q⟩ := h
  cases (show u = Value.bool b from ry)
  exact is_bool_gen (by rw [RelV.abs rx]; rfl) (fin_bl I q (bool_beq rx).symm)
theorem op_notB {b : Bool} : OpR X (compareOp .IsNot) (fun x y H Q => y = .bl b ∧ Q (.bl (!decide (x = .bl b))) H) := by
  intro pins s σ H x y v u Q I rx ry h
  obtain ⟨rfl, q⟩ := h
  cases (show u = Value.bool b from ry)
  exact isnot_bool_gen (by rw [RelV.abs rx]; rfl) (fin_bl I q (by rw [bool_beq rx]))
theorem isC_dec {m : Sim} {d : D} {x : V} {c : D} {cv : V} (h : Rel p m d x) (hc : c = .non ∧ cv = .non ∨ ∃ b, c = .bl b ∧ cv = .bl b) : isC c d = decide (x = cv) := by
  rcases hc with ⟨rfl, rfl⟩ | ⟨b, rfl, rfl⟩
  · cases d with
    | non => cases (show x = .non from h); rfl
    | bl b => cases (show x = .bl b from h); rfl
    | int i => cases (show x = .int i from h); rfl
    | str i => cases (show x = .str i from h); rfl
    | tup ds => obtain ⟨a, vs, rfl, _⟩ := (show ∃ a vs, x = .ref a ∧ _ from h); rfl
    | ref n => obtain ⟨_, rfl⟩ := (show n < m.nx ∧ x = .ref (m.μ n) from h); rfl
    | fn n => cases (show x = .ref _ from h); rfl
    | cl n => cases (show x = .ref _ from h); rfl
    | rol ds => obtain ⟨a, vs, rfl, _⟩ := (show ∃ a vs, x = .ref a ∧ _ from h); rfl
  · cases d with
    | non => cases (show x = .non from h); rfl
    | bl c => cases (show x = .bl c from h); cases b <;> cases c <;> rfl
    | int i => cases (show x = .int i from h); rfl
    | str i => cases (show x = .str i from h); rfl
    | tup ds => obtain ⟨a, vs, rfl, _⟩ := (show ∃ a vs, x = .ref a ∧ _ from h); rfl
    | ref n => obtain ⟨_, rfl⟩ := (show n < m.nx ∧ x = .ref (m.μ n) from h); rfl
    | fn n => cases (show x = .ref _ from h); rfl
    | cl n => cases (show x = .ref _ from h); rfl
    | rol ds => obtain ⟨a, vs, rfl, _⟩ := (show ∃ a vs, x = .ref a ∧ _ from h); rfl
theorem conv_bin {fa fb : EF} {op : Op2} {σ : St} {H : Hp} {Q : VK} (h : tE p W (bin2 op fa fb) σ H Q) (hne : ∀ x y S e S', op x y S ≠ .exc e S') : tOp (rOp p op) (tE p W fa) (tE p W fb) σ H Q := by
  obtain ⟨m, S, env, rfl, k, er, g⟩ := h
  refine ⟨m, S, env, rfl, k, er, g.bindE fun dx m1 S1 e1 k1 g1 x hx => ?_⟩
  refine ⟨m1, S1, env, rfl, k1, er.mono e1.toUp, g1.bindE fun dy m2 S2 e2 k2 g2 y hy => ?_⟩
  refine ⟨m2, S2, dx, dy, rfl, k2, hx.mono e2.toUp, hy, ?_⟩
  cases q : op dx dy S2 with
  | ok d S3 => rw [q] at g2; exact g2
  | exc x S3 => exact absurd q (hne _ _ _ _ _)
  | stuck => rw [q] at g2; exact g2.elim
theorem se_bin {a b : Expr} {fa fb : EF} {o : Operator} {op : Op2} (ho : OpR X (binaryOp o) (rOp p op)) (hne : ∀ x y S e S', op x y S ≠ .exc e S') (ha : PE X a (tE p W fa)) (hb : PE X b (tE p W fb)) : PE X (.BinOp a o b pos) (tE p W (bin2 op fa fb)) :=
  PE.conv (pe_op ho ha hb) fun σ H Q h => conv_bin h hne
theorem se_cmp {a b : Expr} {fa fb : EF} {o : CmpOp} {op : Op2} (ho : OpR X (compareOp o) (rOp p op)) (hne : ∀ x y S e S', op x y S ≠ .exc e S') (ha : PE X a (tE p W fa)) (hb : PE X b (tE p W fb)) (hm : behindInMarks o b = false) : PE X (.Compare a [o] [b] pos) (tE p W (bin2 op fa fb)) :=
  PE.conv (pe_cmpR ho ha hb hm) fun σ H Q h => conv_bin h hne
theorem se_isC {a b : Expr} {fa : EF} {o : CmpOp} {c : D} {cv : V} {r : R2} (hb : PE X b (tC cv)) (ho : OpR X (compareOp o) r) (hm : behindInMarks o b = false) (neg : Bool) (hr : ∀ x H Q, Q (.bl (if neg then !decide (x = cv) else decide (x = cv))) H → r x cv H Q)
    (hc : c = .non ∧ cv = .non ∨ ∃ b, c = .bl b ∧ cv = .bl b) (ha : PE X a (tE p W fa)) : PE X (.Compare a [o] [b] pos) (tE p W (un1 (if neg then opIsNot c else opIs c) fa)) :=
  PE.conv (pe_cmpR ho ha hb hm) fun σ H Q h => by
    obtain ⟨m, S, env, rfl, k, er, g⟩ := h
    refine ⟨m, S, env, rfl, k, er, g.bindE fun dx m1 S1 e1 k1 g1 x hx => ?_⟩
    show r x cv m1.H Q
    refine hr x m1.H Q ?_
    rw [← isC_dec hx hc]
    cases neg with
    | true => exact g1.ok k1 _ rfl
    | false => exact g1.ok k1 _ rfl
theorem se_un {a : Expr} {fa : EF} {o : UnaryOp} {op : Op1} (ho : UnR X (unaryOp o) (rUn p op)) (hne : ∀ x S e S', op x S ≠ .exc e S') (ha : PE X a (tE p W fa)) : PE X (.UnaryOp o a pos) (tE p W (un1 op fa)) :=
  PE.conv (pe_un ho ha) fun σ H Q h => by
    obtain ⟨m, S, env, rfl, k, er, g⟩ := h
    refine ⟨m, S, env, rfl, k, er, g.bindE fun dx m1 S1 e1 k1 g1 x hx => ?_⟩
    refine ⟨m1, S1, dx, rfl, k1, hx, ?_⟩
    cases q : op dx S1 with
    | ok d S3 => rw [q] at g1; exact g1
    | exc x S3 => exact absurd q (hne _ _ _ _)
    | stuck => rw [q] at g1; exact g1.elim
theorem se_not (hK : X.K = p.K) {a : Expr} {fa : EF} (ha : PE X a (tE p W fa)) : PE X (.UnaryOp .Not a pos) (tE p W (un1 opNot fa)) :=
  PE.conv (pe_notT ha) fun σ H Q h => by
    obtain ⟨m, S, env, rfl, k, er, g⟩ := h
    refine ⟨m, S, env, rfl, k, er, g.bindE fun dx m1 S1 e1 k1 g1 x hx => ?_⟩
    unfold opNot at g1
    cases q : truth S1 dx with
    | none => rw [q] at g1; exact g1.elim
    | some b =>
      rw [q] at g1
      exact ⟨b, truth_v hK k1 hx q, g1.ok k1 _ rfl⟩
theorem se_and (hK : X.K = p.K) {a b : Expr} {rest : List Expr} {fa fb : EF} (ha : PE X a (tE p W fa)) (hb : PE X (.BoolOp .And (b :: rest) pos) (tE p W fb)) : PE X (.BoolOp .And (a :: b :: rest) pos) (tE p W (andE fa fb)) :=
  PE.conv (pe_andT ha hb) fun σ H Q h => by
    obtain ⟨m, S, env, rfl, k, er, g⟩ := h
    refine ⟨m, S, env, rfl, k, er, g.bindE fun dx m1 S1 e1 k1 g1 x hx => ?_⟩
    cases q : truth S1 dx with
    | none => rw [q] at g1; exact g1.elim
    | some b =>
      rw [q] at g1
      refine ⟨b, truth_v hK k1 hx q, ?_⟩
      cases b with
      | true => exact ⟨m1, S1, env, rfl, k1, er.mono e1.toUp, g1⟩
      | false => exact g1.ok k1 x hx
theorem se_or (hK : X.K = p.K) {a b : Expr} {rest : List Expr} {fa fb : EF} (ha : PE X a (tE p W fa)) (hb : PE X (.BoolOp .Or (b :: rest) pos) (tE p W fb)) : PE X (.BoolOp .Or (a :: b :: rest) pos) (tE p W (orE fa fb)) :=
  PE.conv (pe_orT ha hb) fun σ H Q h => by
    obtain ⟨m, S, env, rfl, k, er, g⟩ := h
    refine ⟨m, S, env, rfl, k, er, g.bindE fun dx m1 S1 e1 k1 g1 x hx => ?_⟩
    cases q : truth S1 dx with
    | none => rw [q] at g1; exact g1.elim
    | some b =>
      rw [q] at g1
      refine ⟨b, truth_v hK k1 hx q, ?_⟩
      cases b with
      | true => exact g1.ok k1 x hx
      | false => exact ⟨m1, S1, env, rfl, k1, er.mono e1.toUp, g1⟩
theorem se_if {c a b : Expr} {t : TF} {fa fb : EF} (hc : PT X c (tT p W t)) (ha : PE X a (tE p W fa)) (hb : PE X b (tE p W fb)) : PE X (.IfExp c a b pos) (tE p W (ifE t fa fb)) :=
  PE.conv (pe_ifExp hc ha hb) fun σ H Q h => by
    obtain ⟨m, S, env, rfl, k, er, g⟩ := h
    refine ⟨m, S, env, rfl, k, er, g.bindE fun b m1 S1 e1 k1 g1 => ?_⟩
    cases b with
    | true => exact ⟨m1, S1, env, rfl, k1, er.mono e1.toUp, g1⟩
    | false => exact ⟨m1, S1, env, rfl, k1, er.mono e1.toUp, g1⟩
theorem se_chain {a b c : Expr} {fa fb fc : EF} {o o' : CmpOp} {op op' : Op2} (ho : OpR X (compareOp o) (rOp p op)) (ho' : OpR X (compareOp o') (rOp p op')) (hne : ∀ x y S e S', op x y S ≠ .exc e S') (hne' : ∀ x y S e S', op' x y S ≠ .exc e S')
    (ha : PE X a (tE p W fa)) (hb : PE X b (tE p W fb)) (hc : PE X c (tE p W fc)) (hm : lastMarks [o, o'] [b, c] = false) : PE X (.Compare a [o, o'] [b, c] pos) (tE p W (chainE op op' fa fb fc)) :=
  PE.conv (pe_chain ho ho' ha hb hc hm) fun σ H Q h => by
    obtain ⟨m, S, env, rfl, k, er, g⟩ := h
    refine ⟨m, S, env, rfl, k, er, g.bindE fun dx m1 S1 e1 k1 g1 x hx => ?_⟩
    refine ⟨m1, S1, env, rfl, k1, er.mono e1.toUp, g1.bindE fun dy m2 S2 e2 k2 g2 y hy => ?_⟩
    refine ⟨m2, S2, dx, dy, rfl, k2, hx.mono e2.toUp, hy, ?_⟩
    cases q : op dx dy S2 with
    | exc x S3 => exact absurd q (hne _ _ _ _ _)
    | stuck => rw [q] at g2; exact g2.elim
    | ok d S3 =>
      rw [q] at g2
      have g2 := GR.bind (r := Rs.ok d S3) g2
      intro m3 e3 k3 z hz
      have g3 := g2 m3 e3 k3
      cases d with
      | bl kk =>
        refine ⟨kk, hz, ?_⟩
        cases kk with
        | false => exact g3.ok k3 _ rfl
        | true =>
          refine ⟨m3, S3, env, rfl, k3, (er.mono e1.toUp).mono (e2.toUp.trans e3.toUp), GR.bindE g3 fun dw m4 S4 e4 k4 g4 w hw => ?_⟩
          refine ⟨m4, S4, dy, dw, rfl, k4, (hy.mono e3.toUp).mono e4.toUp, hw, ?_⟩
          cases q4 : op' dy dw S4 with
          | ok d S5 => rw [q4] at g4; exact g4
          | exc x S5 => exact absurd q4 (hne' _ _ _ _ _)
          | stuck => rw [q4] at g4; exact g4.elim
      | _ => exact g3.elim
theorem st_bool {e : Expr} {f : EF} {t : TE} (h : PT X e (tTest t)) (c : ∀ σ H Q, tE p W f σ H Q → t σ H Q) : PT X e (tT p W (boolT f)) :=
  PT.conv h fun σ H Q g => by
    obtain ⟨m, S, env, rfl, k, er, g⟩ := g
    refine c σ m.H _ ⟨m, S, env, rfl, k, er, g.bindE fun d m1 S1 e1 k1 g1 x hx => ?_⟩
    cases d with
    | bl b => exact ⟨b, hx, g1.ok k1⟩
    | _ => exact g1.elim
theorem st_cmp {a b : Expr} {fa fb : EF} {o : CmpOp} {op : Op2} (ho : OpR X (compareOp o) (rOp p op)) (hne : ∀ x y S e S', op x y S ≠ .exc e S') (ha : PE X a (tE p W fa)) (hb : PE X b (tE p W fb)) (hm : behindInMarks o b = false) : PT X (.Compare a [o] [b] pos) (tT p W (boolT (bin2 op fa fb))) :=
  st_bool (pt_cmpR ho ha hb hm) fun σ H Q h => conv_bin h hne
theorem st_isC {a b : Expr} {fa : EF} {o : CmpOp} {c : D} {cv : V} {r : R2} (hb : PE X b (tC cv)) (ho : OpR X (compareOp o) r) (hm : behindInMarks o b = false) (neg : Bool) (hr : ∀ x H Q, Q (.bl (if neg then !decide (x = cv) else decide (x = cv))) H → r x cv H Q)
    (hc : c = .non ∧ cv = .non ∨ ∃ b, c = .bl b ∧ cv = .bl b) (ha : PE X a (tE p W fa)) : PT X (.Compare a [o] [b] pos) (tT p W (boolT (un1 (if neg then opIsNot c else opIs c) fa))) :=
  st_bool (pt_cmpR ho ha hb hm) fun σ H Q h => by
    obtain ⟨m, S, env, rfl, k, er, g⟩ := h
    refine ⟨m, S, env, rfl, k, er, g.bindE fun dx m1 S1 e1 k1 g1 x hx => ?_⟩
    show r x cv m1.H Q
    refine hr x m1.H Q ?_
    rw [← isC_dec hx hc]
    cases neg with
    | true => exact g1.ok k1 _ rfl
    | false => exact g1.ok k1 _ rfl
theorem st_chain {a b c : Expr} {fa fb fc : EF} {o o' : CmpOp} {op op' : Op2} (ho : OpR X (compareOp o) (rOp p op)) (ho' : OpR X (compareOp o') (rOp p op')) (hne : ∀ x y S e S', op x y S ≠ .exc e S') (hne' : ∀ x y S e S', op' x y S ≠ .exc e S')
    (ha : PE X a (tE p W fa)) (hb : PE X b (tE p W fb)) (hc : PE X c (tE p W fc)) (hm : lastMarks [o, o'] [b, c] = false) : PT X (.Compare a [o, o'] [b, c] pos) (tT p W (boolT (chainE op op' fa fb fc))) := by
  refine st_bool (pt_chain ho ho' ha hb hc hm) fun σ H Q h => ?_
  obtain ⟨m, S, env, rfl, k, er, g⟩ := h
  refine ⟨m, S, env, rfl, k, er, g.bindE fun dx m1 S1 e1 k1 g1 x hx => ?_⟩
  refine ⟨m1, S1, env, rfl, k1, er.mono e1.toUp, g1.bindE fun dy m2 S2 e2 k2 g2 y hy => ?_⟩
  refine ⟨m2, S2, dx, dy, rfl, k2, hx.mono e2.toUp, hy, ?_⟩
  cases q : op dx dy S2 with
  | exc x S3 => exact absurd q (hne _ _ _ _ _)
  | stuck => rw [q] at g2; exact g2.elim
  | ok d S3 =>
    rw [q] at g2
    have g2 := GR.bind (r := Rs.ok d S3) g2
    intro m3 e3 k3 z hz
    have g3 := g2 m3 e3 k3
    cases d with
    | bl kk =>
      refine ⟨kk, hz, ?_⟩
      cases kk with
      | false => exact g3.ok k3 _ rfl
      | true =>
        refine ⟨m3, S3, env, rfl, k3, (er.mono e1.toUp).mono (e2.toUp.trans e3.toUp), GR.bindE g3 fun dw m4 S4 e4 k4 g4 w hw => ?_⟩
        refine ⟨m4, S4, dy, dw, rfl, k4, (hy.mono e3.toUp).mono e4.toUp, hw, ?_⟩
        cases q4 : op' dy dw S4 with
        | ok d S5 => rw [q4] at g4; exact g4
        | exc x S5 => exact absurd q4 (hne' _ _ _ _ _)
        | stuck => rw [q4] at g4; exact g4.elim
    | _ => exact g3.elim
theorem st_truth (hK : X.K = p.K) {a : Expr} {fa : EF} (ha : PE X a (tE p W fa)) (he : ∀ whole, isTrue a X.env whole = (do let v ← whole; standAt a.pos; holding [v] (truthy v))) : PT X a (tT p W (truthT fa)) :=
  PT.conv (pt_truth ha he) fun σ H Q h => by
    obtain ⟨m, S, env, rfl, k, er, g⟩ := h
    refine ⟨m, S, env, rfl, k, er, g.bindE fun dx m1 S1 e1 k1 g1 x hx => ?_⟩
    cases q : truth S1 dx with
    | none => rw [q] at g1; exact g1.elim
    | some b =>
      rw [q] at g1
      exact ⟨b, truth_v hK k1 hx q, g1.ok k1⟩
theorem st_not {a : Expr} {t : TF} (ha : PT X a (tT p W t)) : PT X (.UnaryOp .Not a pos) (tT p W (notT t)) :=
  PT.conv (pt_not ha) fun σ H Q h => by
    obtain ⟨m, S, env, rfl, k, er, g⟩ := h
    exact ⟨m, S, env, rfl, k, er, g.bindE fun b m1 S1 e1 k1 g1 => g1.ok k1⟩
theorem st_and1 {a : Expr} {t : TF} (ha : PT X a (tT p W t)) : PW X (.BoolOp .And [a] pos) (tT p W t) := pw_and1 ha
theorem st_or1 {a : Expr} {t : TF} (ha : PT X a (tT p W t)) : PW X (.BoolOp .Or [a] pos) (tT p W t) := pw_or1 ha
theorem st_and {a b : Expr} {rest : List Expr} {t u : TF} (ha : PT X a (tT p W t)) (hb : PW X (.BoolOp .And (b :: rest) pos) (tT p W u)) : PW X (.BoolOp .And (a :: b :: rest) pos) (tT p W (andT t u)) :=
  PW.conv (pw_and ha hb) fun σ H Q h => by
    obtain ⟨m, S, env, rfl, k, er, g⟩ := h
    refine ⟨m, S, env, rfl, k, er, g.bindE fun b m1 S1 e1 k1 g1 => ?_⟩
    cases b with
    | true => exact ⟨m1, S1, env, rfl, k1, er.mono e1.toUp, g1⟩
    | false => exact g1.ok k1
theorem st_or {a b : Expr} {rest : List Expr} {t u : TF} (ha : PT X a (tT p W t)) (hb : PW X (.BoolOp .Or (b :: rest) pos) (tT p W u)) : PW X (.BoolOp .Or (a :: b :: rest) pos) (tT p W (orT t u)) :=
  PW.conv (pw_or ha hb) fun σ H Q h => by
    obtain ⟨m, S, env, rfl, k, er, g⟩ := h
    refine ⟨m, S, env, rfl, k, er, g.bindE fun b m1 S1 e1 k1 g1 => ?_⟩
    cases b with
    | true => exact g1.ok k1
    | false => exact ⟨m1, S1, env, rfl, k1, er.mono e1.toUp, g1⟩
theorem ofO_ne {α : Type} {o : Option α} {S : Store} {e : Ev.X} {S' : Store} : Rs.ofO o S ≠ .exc e S' := fun q => by
  unfold Rs.ofO at q; split at q <;> cases q
theorem opIx_ne (x y : D) (S : Store) (e : Ev.X) (S' : Store) : opIx x y S ≠ .exc e S' := fun q => by
  unfold opIx at q
  repeat' split at q
  all_goals first | exact ofO_ne q | cases q
theorem se_ix (hK : X.K = p.K) {a b : Expr} {fa fb : EF} (ha : PE X a (tE p W fa)) (hb : PE X b (tE p W fb)) (hs : PlainIx b) : PE X (.Subscript a b pos) (tE p W (bin2 opIx fa fb)) :=
  PE.conv (pe_ix (ok_ix hK) ha hb hs) fun σ H Q h => conv_bin h opIx_ne
def qP (Q : Option Int → Hp → Prop) : Option Int → Sim → Store → Prop := fun o m _ => Q o m.H
def tP (p : Par) (W : WX) (f : PF) : TO := fun σ H Q => ∃ m S env, m.H = H ∧ SOk p m S ∧ EnvR p m env σ ∧ GR p (wx p W σ) (qP Q) (f env S) m S
theorem sp_none : PO X none (tP p W noP) := ⟨fun pins s σ H Q I ⟨m, S, env, hH, k, er, g⟩ => by
  subst hH
  exact po_none.run pins s σ m.H Q I (g.ok k)⟩
theorem sp_some {e : Expr} {f : EF} (h : PE X e (tE p W f)) : PO X (some e) (tP p W (someP f)) := ⟨fun pins s σ H Q I ⟨m, S, env, hH, k, er, g⟩ => by
  subst hH
  refine (po_some h).run pins s σ m.H Q I ⟨m, S, env, rfl, k, er, g.bindE fun d m1 S1 e1 k1 g1 x hx => ?_⟩
  cases d with
  | int i => exact ⟨i, hx, g1.ok k1⟩
  | _ => exact g1.elim⟩
end
end Ev
set_option Elab.async false
set_option linter.all false
set_option maxRecDepth 100000
set_option maxHeartbeats 4000000
namespace Ev
open PySem PySem.Spec PyProof.Rows L2
section
variable {prog : Program} {w : World} {A : Around} {E : Value → Shared → Prop} {s : Shared}
theorem getItem_tuple_whole {t sl : Addr} {items : Array Value} {vl vu : Value} {lo hi : Option Int} {Q : Value → Shared → Prop} (ht : IsTup s.heap t items) (hs : s.heap.IsSliceOf sl vl vu .none) (pl : IsPart vl lo) (pu : IsPart vu hi)
    (hw : HT.sIx items.size 0 lo = 0 ∧ HT.sIx items.size items.size hi = items.size) (h : Q (.ref t) s) : wpAny (model prog w) A (getItem (.ref t) (.ref sl)) Q E s := by
  obtain ⟨os, hos, hcs, hds⟩ := id hs
  have hTs : s.TypeIs (.ref sl) "slice" := ⟨os, hos, hcs⟩
  unfold getItem
  try with_reducible refine wpAny_holding ?_
  first | refine wpAny_bind (wpAny_pure ?_) | skip
  refine wpAny_bind (wpAny_sequenceKey ht.typeIs (by decide) ?_)
  refine wpAny_bind (wpAny_callSpecial?_slot (name := Str.ofString "__getitem__") ht.typeIs PyProof.Rows.slot_tuple_getitem
    (wpAny_call_entry PyProof.Rows.slot_tuple_getitem ht.typeIs entry_tuple_getitem ?_ (args_tuple_getitem _ _)))
  show wpAny _ _ (Builtin.Tuple.tupleItemsOf (.ref t) >>= _) _ _ s
  refine wpAny_bind (tupleItemsOf_ ht ?_)
  refine wpAny_bind (wpAny_typeOf hTs ?_)
  rw [if_pos (by decide)]
  refine wpAny_bind (HT.sliceApplied_gen hs pl pu ?_)
  have hyes : ((((HT.sIx items.size 0 lo : Nat) : Int) == 0 && (1 : Int) == 1 && (HT.sIx items.size items.size hi - HT.sIx items.size 0 lo) == items.size) = true) := by
    rw [hw.1, hw.2]; simp
  show wpAny _ _ (if (((HT.sIx items.size 0 lo : Nat) : Int) == 0 && (1 : Int) == 1 && (HT.sIx items.size items.size hi - HT.sIx items.size 0 lo) == items.size) = true then _ else _) _ _ s
  rw [if_pos hyes]
  refine wpAny_bind (m := Builtin.Tuple.tupleIsExact (.ref t)) (wpAny_bind (wpAny_typeOf ht.typeIs (wpAny_pure ?_)))
  rw [if_pos (by decide)]
  exact wpAny_bind (wpAny_rule (wpAny_pure ⟨_, rfl, wpAny_pure h⟩))
end
section
variable {p : Par} {X : Cx} {W : WX} {pos p2 : Pos}
theorem slice_tup {pins : List (Addr × Obj)} {s : Shared} {σ : L2.St} {H : Hp} {v : Value} {a : Addr} {xs : List V} {vl vu : Value} {lo hi : Option Int} {sl : Addr} {Q : VK} (I : Inv X pins σ H s) (rx : RelV (.ref a) v) (hs : s.heap.IsSliceOf sl vl vu .none) (pl : IsPart vl lo) (pu : IsPart vu hi)
    (hx : SqT X.K H a xs) (q : ∀ t H', (H' = H ∧ SqT X.K H t (cutV xs lo hi)) ∨ (H t = none ∧ H' = upd H t (.tup (cutV xs lo hi))) → Q (.ref t) H') :
    ∃ T id, typeLookup (.type T) "__getitem__" = pure (some (.builtin id)) ∧ s.TypeIs v T ∧ wpAny (model X.prog X.w) X.A (getItem v (.ref sl)) (EP X pins σ Q) X.xe s := by
  by_cases hw : HT.sIx xs.length 0 lo = 0 ∧ HT.sIx xs.length xs.length hi = xs.length
  · cases rx
    obtain ⟨its, r, ht, hz⟩ := I.tuple hx
    have hlen : its.toArray.size = xs.length := by rw [List.size_toArray]; exact r.length.symm
    refine ⟨"tuple", _, PyProof.Rows.slot_tuple_getitem.lookup, ht.typeIs, ?_⟩
    refine getItem_tuple_whole ht hs pl pu (by rw [hlen]; exact hw) ⟨.ref a, H, I, rfl, q a H (.inl ⟨rfl, ?_⟩)⟩
    have : cutV xs lo hi = xs := by
      unfold cutV
      rw [hw.1, hw.2]; simp
    rw [this]; exact hx
  · exact sl_tup pins s σ H (.ref a) v vl vu lo hi sl Q I rx hs pl pu ⟨a, xs, rfl, hx, hw, fun t ht => q t _ (.inr ⟨ht, rfl⟩)⟩
theorem cut_rel {m : Sim} {ds : List D} {vs : List V} (h : RelL p m ds vs) (lo hi : Option Int) : RelL p m (cutD ds lo hi) (cutV vs lo hi) := by
  unfold cutD cutV
  rw [h.length]
  exact (h.drop _).take _
def sliceOp (x : D) (l h : Option Int) (S3 : Store) : Rs D := match x with
  | .tup ds => .ok (.tup (cutD ds l h)) S3
  | .ref n => match S3.objs[n]? with
    | some (.lst xs) => .ok (.ref S3.objs.length) ⟨S3.objs ++ [.lst (cutD xs l h)], S3.dirty⟩
    | _ => .stuck
  | _ => .stuck
def rSl (p : Par) : V → Option Int → Option Int → Hp → VK → Prop := fun x lo hi H Q => ∃ m S dx, m.H = H ∧ SOk p m S ∧ Rel p m dx x ∧ GR p (fun _ _ => False) (qE p Q) (sliceOp dx lo hi S) m S
theorem GR.newL {m : Sim} {S : Store} {Q : VK} {ds : List D} {vs : List V} {a : Addr} {Wx : Ev.X → Sim → Prop} (g : GR p Wx (qE p Q) (.ok (.ref S.objs.length) ⟨S.objs ++ [.lst ds], S.dirty⟩) m S) (k : SOk p m S) (ha : m.H a = none) (h : RelL p m ds vs) : Q (.ref a) (upd m.H a (.lst vs)) := by
  have e1 : Ext m S (m.put a (.lst vs)) S := Ext.put ha
  have k1 : SOk p (m.put a (.lst vs)) S := k.put ha
  have hn : ∀ n, n < (m.put a (.lst vs)).nx → a ≠ (m.put a (.lst vs)).μ n := fun n hn => by
    intro q
    obtain ⟨u, hu⟩ := k.tracked hn
    rw [show m.μ n = a from q.symm, ha] at hu; cases hu
  have k2 := k1.adopt (o := .lst ds) (a := a) ⟨vs, put_at, h.mono e1.toUp⟩ hn
  have e2 := Ext.adopt (o := .lst ds) e1 k1 ha
  refine g _ e2 k2 (.ref a) ⟨?_, ?_⟩
  · show S.objs.length < m.nx + 1
    rw [k.len]; omega
  · rw [k.len]
    show V.ref a = V.ref (((m.put a (.lst vs)).adopt a).μ (m.put a (.lst vs)).nx)
    rw [adopt_new]
theorem slr_any (hK : X.K = p.K) : SlR X (rSl p) := by
  intro pins s σ H x v vl vu lo hi sl Q I rx hs pl pu ⟨m, S, dx, hH, k, hx, g⟩
  subst hH
  cases dx with
  | tup ds =>
    obtain ⟨a, vs, rfl, h1, h2⟩ := (show ∃ a vs, x = .ref a ∧ SqT p.K m.H a vs ∧ RelL p m ds vs from hx)
    refine slice_tup I rx hs pl pu (sqE hK.symm h1) fun t H' z => ?_
    rcases z with ⟨rfl, z⟩ | ⟨z, rfl⟩
    · exact g.ok k _ ⟨t, _, rfl, sqE hK z, cut_rel h2 lo hi⟩
    · exact g (m.put t _) (Ext.put z) (k.put z) (.ref t) ⟨t, _, rfl, SqT.of put_at, (cut_rel h2 lo hi).mono (Ext.put (S := S) z).toUp⟩
  | ref n =>
    obtain ⟨hn, rfl⟩ := k.ref hx
    unfold sliceOp at g
    dsimp only at g
    cases q : S.objs[n]? with
    | none => rw [q] at g; exact g.elim
    | some o =>
      rw [q] at g
      cases o with
      | lst xs =>
        obtain ⟨vs, h1, h2⟩ := k.obj n _ q
        exact sl_list pins s σ m.H _ v vl vu lo hi sl Q I rx hs pl pu ⟨_, vs, rfl, SqL.of h1, fun t ht => GR.newL g k ht (cut_rel h2 lo hi)⟩
      | ins _ _ => exact g.elim
      | dct _ => exact g.elim
  | _ => exact g.elim
theorem se_slice (hK : X.K = p.K) {e : Expr} {lo hi : Option Expr} {f : EF} {fl fh : PF} (he : PE X e (tE p W f)) (hl : PO X lo (tP p W fl)) (hh : PO X hi (tP p W fh)) : PE X (.Subscript e (.Slice lo hi none p2) pos) (tE p W (sliceE f fl fh)) :=
  PE.conv (pe_slice (slr_any hK) he hl hh) fun σ H Q h => by
    obtain ⟨m, S, env, rfl, k, er, g⟩ := h
    refine ⟨m, S, env, rfl, k, er, g.bindE fun dx m1 S1 e1 k1 g1 x hx => ?_⟩
    refine ⟨m1, S1, env, rfl, k1, er.mono e1.toUp, g1.bindE fun l m2 S2 e2 k2 g2 => ?_⟩
    refine ⟨m2, S2, env, rfl, k2, (er.mono e1.toUp).mono e2.toUp, g2.bindE fun h m3 S3 e3 k3 g3 => ?_⟩
    refine ⟨m3, S3, dx, rfl, k3, (hx.mono e2.toUp).mono e3.toUp, ?_⟩
    cases dx with
    | tup ds => exact g3
    | ref n =>
      unfold sliceOp
      dsimp only at g3 ⊢
      cases q : S3.objs[n]? with
      | none => rw [q] at g3; exact g3.elim
      | some o =>
        rw [q] at g3
        cases o with
        | lst xs => exact g3
        | _ => exact g3.elim
    | _ => exact g3.elim
end
end Ev
set_option Elab.async false
set_option linter.all false
set_option maxRecDepth 100000
set_option maxHeartbeats 4000000
namespace Ev
open PySem PySem.Spec PyProof.Rows L2
def plainX : Expr → Bool
  | .Starred .. => false
  | _ => true
theorem star_cons {e : Expr} (es : List Expr) (env : PySem.Env) (h : plainX e = true) : starEach (e :: es) env = (false, eval e env) :: starEach es env := by
  cases e <;> first | rfl | (simp [plainX] at h)
theorem star_plain {pos : Pos} {env : PySem.Env} : ∀ {es : List Expr}, es.all plainX = true → (backTo pos (starEach es env)).any (·.1) = false
  | [], _ => rfl
  | e :: es, h => by
    rw [List.all_cons, Bool.and_eq_true] at h
    rw [star_cons es env h.1]
    show (false || (backTo pos (starEach es env)).any (·.1)) = false
    rw [Bool.false_or]; exact star_plain h.2
section
variable {p : Par} {X : Cx} {W : WX} {pos : Pos}
def LenL (l : LF) (n : Nat) : Prop := ∀ env S ds S', l env S = .ok ds S' → ds.length = n
theorem len_nil : LenL nilL 0 := fun env S ds S' h => by cases h; rfl
theorem len_cons {e : EF} {l : LF} {n : Nat} (h : LenL l n) : LenL (consL e l) (n + 1) := fun env S ds S' q => by
  unfold consL at q
  cases q1 : e env S with
  | ok d S1 =>
    rw [q1] at q
    have q : (l env S1).bind (fun ds S2 => Rs.ok (d :: ds) S2) = .ok ds S' := q
    cases q2 : l env S1 with
    | ok r S2 => rw [q2] at q; cases q; simp [h env S1 r _ q2]
    | exc _ _ => rw [q2] at q; cases q
    | stuck => rw [q2] at q; cases q
  | exc _ _ => rw [q1] at q; cases q
  | stuck => rw [q1] at q; cases q
theorem se_tupN {es : List Expr} {x1 : Nat} {l : LF} {n : Nat} (h : PA X es (tA p W l)) (hl : LenL l n) (hn : n ≤ 1000) : PE X (.Tuple es x1 pos) (tE p W (tupE l)) :=
  PE.conv (pe_tup h) fun σ H Q ⟨m, S, env, hH, k, er, g⟩ => by
    subst hH
    refine ⟨m, S, env, rfl, k, er, ?_⟩
    unfold tupE at g
    cases q : l env S with
    | ok ds S1 =>
      rw [q] at g
      intro m1 e1 k1 vs hvs
      have g1 := GR.later g e1
      refine ⟨by rw [← hvs.length, hl env S ds S1 q, sizeLine_eq]; omega, fun a ha => ?_⟩
      exact g1 (m1.put a (.tup vs)) (Ext.put ha) (k1.put ha) (.ref a) ⟨a, vs, rfl, SqT.of put_at, hvs.mono (Ext.put (S := S1) ha).toUp⟩
    | exc x S1 => rw [q] at g; exact g
    | stuck => rw [q] at g; exact g
theorem sl_list {es : List Expr} {l : LF} {n : Nat} (h : PA X es (tA p W l)) (hl : LenL l n) (hn : n ≤ 1000) : PE X (.List es pos) (tL p W l) :=
  PE.conv (pe_lst h) fun σ H Q ⟨m, S, env, hH, k, er, g⟩ => by
    subst hH
    refine ⟨m, S, env, rfl, k, er, ?_⟩
    cases q : l env S with
    | ok ds S1 =>
      rw [q] at g
      intro m1 e1 k1 vs hvs
      refine ⟨by rw [← hvs.length, hl env S ds S1 q, sizeLine_eq]; omega, fun a ha => ?_⟩
      refine g (m1.put a (.lst vs)) (e1.trans (Ext.put ha)) (k1.put ha) a vs (e1.free ha) put_at (fun i hi z => ?_) (hvs.mono (Ext.put (S := S1) ha).toUp)
      obtain ⟨u, hu⟩ := k1.tracked hi
      rw [show m1.μ i = a from z.symm, ha] at hu; cases hu
    | exc x S1 => rw [q] at g; exact g
    | stuck => rw [q] at g; exact g
theorem se_mk {e : Expr} {l : LF} (h : PE X e (tL p W l)) : PE X e (tE p W (mkL l)) :=
  PE.conv h fun σ H Q ⟨m, S, env, hH, k, er, g⟩ => by
    subst hH
    refine ⟨m, S, env, rfl, k, er, ?_⟩
    unfold mkL at g
    cases q : l env S with
    | ok ds S1 =>
      rw [q] at g
      intro m1 e1 k1 a vs hfree hat hne hvs
      have k2 := k1.adopt (o := .lst ds) (a := a) ⟨vs, hat, hvs⟩ hne
      refine g _ (Ext.adopt (o := .lst ds) e1 k1 hfree) k2 (.ref a) ⟨?_, ?_⟩
      · show S1.objs.length < m1.nx + 1
        rw [k1.len]; omega
      · rw [k1.len, adopt_new]
    | exc x S1 => rw [q] at g; exact g
    | stuck => rw [q] at g; exact g
def LstR (p : Par) (X : Cx) (fv : Value) (f : List D → Option D) : Prop :=
  ∀ (pins : List (Addr × Obj)) (s : Shared) (σ : L2.St) (m : Sim) (S : Store) (a : Addr) (ws : List V) (ds : List D) (u : Value) (Q : VK), Inv X pins σ m.H s → SOk p m S → SqL X.K m.H a ws → RelL p m ds ws → RelV (.ref a) u →
    GR p (fun _ _ => False) (qE p Q) (Rs.ofO (f ds) S) m S → wpAny (model X.prog X.w) X.A (call fv [u]) (EP X pins σ Q) X.xe s
def TupR (p : Par) (X : Cx) (fv : Value) (f : List D → Option D) : Prop :=
  ∀ (pins : List (Addr × Obj)) (s : Shared) (σ : L2.St) (m : Sim) (S : Store) (a : Addr) (ws : List V) (ds : List D) (u : Value) (Q : VK), Inv X pins σ m.H s → SOk p m S → SqT X.K m.H a ws → RelL p m ds ws → RelV (.ref a) u →
    GR p (fun _ _ => False) (qE p Q) (Rs.ofO (f ds) S) m S → wpAny (model X.prog X.w) X.A (call fv [u]) (EP X pins σ Q) X.xe s
theorem LstR.of {fv : Value} {f : List D → Option D} {r : List V → Hp → VK → Prop} (h : CallR X fv r) (hr : ∀ m S a ws ds d Q, SOk p m S → SqL X.K m.H a ws → RelL p m ds ws → f ds = some d → (∀ m' v, Ext m S m' S → SOk p m' S → Rel p m' d v → Q v m'.H) → r [.ref a] m.H Q) : LstR p X fv f := by
  intro pins s σ m S a ws ds u Q I k hs hd ru g
  cases q : f ds with
  | none => rw [q] at g; exact g.elim
  | some d =>
    rw [q] at g
    exact h pins s σ m.H [.ref a] [u] Q I (.cons ru .nil) (hr m S a ws ds d Q k hs hd q fun m' v e k' hv => g m' e k' v hv)
theorem TupR.of {fv : Value} {f : List D → Option D} {r : List V → Hp → VK → Prop} (h : CallR X fv r) (hr : ∀ m S a ws ds d Q, SOk p m S → SqT X.K m.H a ws → RelL p m ds ws → f ds = some d → (∀ m' v, Ext m S m' S → SOk p m' S → Rel p m' d v → Q v m'.H) → r [.ref a] m.H Q) : TupR p X fv f := by
  intro pins s σ m S a ws ds u Q I k hs hd ru g
  cases q : f ds with
  | none => rw [q] at g; exact g.elim
  | some d =>
    rw [q] at g
    exact h pins s σ m.H [.ref a] [u] Q I (.cons ru .nil) (hr m S a ws ds d Q k hs hd q fun m' v e k' hv => g m' e k' v hv)
theorem allC_rel {m : Sim} : ∀ {ds : List D} {ws : List V} {b : Bool}, RelL p m ds ws → allC ds = some b → ∃ bs : List Bool, ws = bs.map V.bl ∧ b = bs.all id
  | [], ws, b, h, e => by cases (show ws = [] from h); cases e; exact ⟨[], rfl, rfl⟩
  | d :: ds, ws, b, h, e => by
    obtain ⟨v, r, rfl, h1, h2⟩ := h.uncons
    cases d with
    | bl c =>
      rw [allC] at e
      cases q : allC ds with
      | none => rw [q] at e; cases e
      | some c' =>
        rw [q] at e
        cases e
        obtain ⟨bs, rfl, rfl⟩ := allC_rel h2 q
        cases (show v = .bl c from h1)
        exact ⟨c :: bs, rfl, rfl⟩
    | _ => cases e
theorem anyC_rel {m : Sim} : ∀ {ds : List D} {ws : List V} {b : Bool}, RelL p m ds ws → anyC ds = some b → ∃ bs : List Bool, ws = bs.map V.bl ∧ b = bs.any id
  | [], ws, b, h, e => by cases (show ws = [] from h); cases e; exact ⟨[], rfl, rfl⟩
  | d :: ds, ws, b, h, e => by
    obtain ⟨v, r, rfl, h1, h2⟩ := h.uncons
    cases d with
    | bl c =>
      rw [anyC] at e
      cases q : anyC ds with
      | none => rw [q] at e; cases e
      | some c' =>
        rw [q] at e
        cases e
        obtain ⟨bs, rfl, rfl⟩ := anyC_rel h2 q
        cases (show v = .bl c from h1)
        exact ⟨c :: bs, rfl, rfl⟩
    | _ => cases e
theorem intsC_rel {m : Sim} : ∀ {ds : List D} {ws : List V} {is : List Int}, RelL p m ds ws → intsC ds = some is → ws = is.map V.int
  | [], ws, is, h, e => by cases (show ws = [] from h); cases e; rfl
  | d :: ds, ws, is, h, e => by
    obtain ⟨v, r, rfl, h1, h2⟩ := h.uncons
    cases d with
    | int c =>
      rw [intsC] at e
      cases q : intsC ds with
      | none => rw [q] at e; cases e
      | some c' =>
        rw [q] at e
        cases e
        cases (show v = .int c from h1)
        rw [intsC_rel h2 q]; rfl
    | _ => cases e
theorem lst_all (hc : X.calm = true) : LstR p X (.builtin "all") fAll :=
  LstR.of (cr_all hc) fun m S a ws ds d Q k hs hd e q => by
    unfold fAll at e
    rw [Option.map_eq_some_iff] at e
    obtain ⟨b, e, rfl⟩ := e
    obtain ⟨bs, rfl, rfl⟩ := allC_rel hd e
    exact ⟨a, bs, rfl, hs, q m _ Ext.refl k rfl⟩
theorem lst_any (hc : X.calm = true) : LstR p X (.builtin "any") fAny :=
  LstR.of (cr_any hc) fun m S a ws ds d Q k hs hd e q => by
    unfold fAny at e
    rw [Option.map_eq_some_iff] at e
    obtain ⟨b, e, rfl⟩ := e
    obtain ⟨bs, rfl, rfl⟩ := anyC_rel hd e
    exact ⟨a, bs, rfl, hs, q m _ Ext.refl k rfl⟩
theorem lst_sum (hc : X.calm = true) : LstR p X (.builtin "sum") fSum :=
  LstR.of (cr_sum hc) fun m S a ws ds d Q k hs hd e q => by
    unfold fSum at e
    rw [Option.map_eq_some_iff] at e
    obtain ⟨is, e, rfl⟩ := e
    have := intsC_rel hd e
    subst this
    exact ⟨a, is, rfl, hs, q m _ Ext.refl k rfl⟩
theorem lst_len : LstR p X (.builtin "len") fLen :=
  LstR.of call_len_seq fun m S a ws ds d Q k hs hd e q => by
    cases e
    exact ⟨a, ws, rfl, .inl hs, by rw [← hd.length]; exact q m _ Ext.refl k rfl⟩
theorem tup_len : TupR p X (.builtin "len") fLen :=
  TupR.of call_len_seq fun m S a ws ds d Q k hs hd e q => by
    cases e
    exact ⟨a, ws, rfl, .inr hs, by rw [← hd.length]; exact q m _ Ext.refl k rfl⟩
theorem lst_tuple : LstR p X (.type "tuple") fTup :=
  LstR.of call_tuple_of fun m S a ws ds d Q k hs hd e q => by
    unfold fTup at e
    split at e
    · cases e
      exact ⟨a, ws, rfl, .inl ⟨hs, fun l hl => q (m.put l (.tup ws)) (.ref l) (Ext.put hl) (k.put hl) ⟨l, ws, rfl, SqT.of put_at, hd.mono (Ext.put (S := S) hl).toUp⟩⟩⟩
    · cases e
theorem tup_tuple (hK : X.K = p.K) : TupR p X (.type "tuple") fTup :=
  TupR.of call_tuple_of fun m S a ws ds d Q k hs hd e q => by
    unfold fTup at e
    split at e
    · cases e
      exact ⟨a, ws, rfl, .inr ⟨hs, q m (.ref a) Ext.refl k ⟨a, ws, rfl, sqE hK hs, hd⟩⟩⟩
    · cases e
theorem conv_coreL {f : List D → Option D} {l : LF} {σ : St} {H : Hp} {Q : VK} {R : V → Hp → Prop} (h : tE p W (coreL f l) σ H Q)
    (hR : ∀ m S a ws ds, SOk p m S → SqL p.K m.H a ws → RelL p m ds ws → GR p (fun _ _ => False) (qE p Q) (Rs.ofO (f ds) S) m S → R (.ref a) m.H) : tL p W l σ H R := by
  obtain ⟨m, S, env, rfl, k, er, g⟩ := h
  refine ⟨m, S, env, rfl, k, er, g.bindE fun ds m1 S1 e1 k1 g1 a ws hfree hat hne hvs => hR m1 S1 a ws ds k1 (SqL.of hat) hvs ?_⟩
  cases q : f ds with
  | some d => rw [q] at g1; exact g1
  | none => rw [q] at g1; exact g1.elim
def callArg (X : Cx) (fv : Value) (R : V → Hp → VK → Prop) : List V → Hp → VK → Prop := fun xs H Q => ∃ x, xs = [x] ∧ R x H Q
def rLst (p : Par) (f : List D → Option D) : List V → Hp → VK → Prop := fun xs H Q => ∃ m S a ws ds, xs = [.ref a] ∧ m.H = H ∧ SOk p m S ∧ SqL p.K m.H a ws ∧ RelL p m ds ws ∧ GR p (fun _ _ => False) (qE p Q) (Rs.ofO (f ds) S) m S
def rTup (p : Par) (f : List D → Option D) : List V → Hp → VK → Prop := fun xs H Q => ∃ m S a ws ds, xs = [.ref a] ∧ m.H = H ∧ SOk p m S ∧ SqT p.K m.H a ws ∧ RelL p m ds ws ∧ GR p (fun _ _ => False) (qE p Q) (Rs.ofO (f ds) S) m S
theorem call_lst (hK : X.K = p.K) {fv : Value} {f : List D → Option D} (h : LstR p X fv f) : CallR X fv (rLst p f) := by
  intro pins s σ H xs us Q I r ⟨m, S, a, ws, ds, e, hH, k, hs, hd, g⟩
  subst hH e
  obtain ⟨u, rfl, ru⟩ := vals1 r
  exact h pins s σ m S a ws ds u Q I k (sqLE hK.symm hs) hd ru g
theorem call_tup (hK : X.K = p.K) {fv : Value} {f : List D → Option D} (h : TupR p X fv f) : CallR X fv (rTup p f) := by
  intro pins s σ H xs us Q I r ⟨m, S, a, ws, ds, e, hH, k, hs, hd, g⟩
  subst hH e
  obtain ⟨u, rfl, ru⟩ := vals1 r
  exact h pins s σ m S a ws ds u Q I k (sqE hK.symm hs) hd ru g
theorem conv_rLst {f : List D → Option D} {l : LF} {σ : St} {H : Hp} {Q : VK} (h : tE p W (coreL f l) σ H Q) : tCB (rLst p f) (tCons (tL p W l) tNil) σ H Q :=
  conv_coreL h fun m S a ws ds k hs hd g => ⟨m, S, a, ws, ds, rfl, rfl, k, hs, hd, g⟩
theorem conv_rBoth {f : List D → Option D} {e : EF} {σ : St} {H : Hp} {Q : VK} (h : tE p W (coreE f e) σ H Q) : tCB (fun xs H Q => rLst p f xs H Q ∨ rTup p f xs H Q) (tCons (tE p W e) tNil) σ H Q := by
  obtain ⟨m, S, env, rfl, k, er, g⟩ := h
  refine ⟨m, S, env, rfl, k, er, g.bindE fun d m1 S1 e1 k1 g1 x hx => ?_⟩
  show rLst p f [x] m1.H Q ∨ rTup p f [x] m1.H Q
  have gg : ∀ ds, itemsD S1 d = some ds → GR p (fun _ _ => False) (qE p Q) (Rs.ofO (f ds) S1) m1 S1 := fun ds q => by
    rw [q] at g1
    dsimp only at g1
    cases q2 : f ds with
    | some d => rw [q2] at g1; exact g1
    | none => rw [q2] at g1; exact g1.elim
  cases d with
  | tup ds =>
    obtain ⟨a, vs, rfl, h1, h2⟩ := (show ∃ a vs, x = .ref a ∧ SqT p.K m1.H a vs ∧ RelL p m1 ds vs from hx)
    exact .inr ⟨m1, S1, a, vs, ds, rfl, rfl, k1, h1, h2, gg ds rfl⟩
  | rol ds =>
    obtain ⟨a, vs, rfl, h1, h2⟩ := (show ∃ a vs, x = .ref a ∧ SqR p.K m1.H a vs ∧ RelL p m1 ds vs from hx)
    exact .inl ⟨m1, S1, a, vs, ds, rfl, rfl, k1, h1.sq, h2, gg ds rfl⟩
  | ref n =>
    obtain ⟨hn, rfl⟩ := k1.ref hx
    cases q : S1.objs[n]? with
    | none => simp only [itemsD, q] at g1; exact g1.elim
    | some o =>
      cases o with
      | lst xs =>
        obtain ⟨vs, h1, h2⟩ := k1.obj n _ q
        exact .inl ⟨m1, S1, _, vs, xs, rfl, rfl, k1, SqL.of h1, h2, gg xs (by simp [itemsD, q])⟩
      | ins _ _ => simp only [itemsD, q] at g1; exact g1.elim
      | dct _ => simp only [itemsD, q] at g1; exact g1.elim
  | _ => exact g1.elim
end
end Ev
set_option Elab.async false
set_option linter.all false
set_option maxRecDepth 100000
set_option maxHeartbeats 4000000
namespace Ev
open PySem PySem.Spec PyProof.Rows L2
section
variable {p : Par} {X : Cx} {W : WX} {pos : Pos}
def rNew (p : Par) (tup : Bool) (f : List D → Option (List D)) : List V → Hp → VK → Prop := fun xs H Q => ∃ m S a ws ds ys, xs = [.ref a] ∧ m.H = H ∧ SOk p m S ∧ (SqL p.K m.H a ws ∨ (tup = true ∧ SqT p.K m.H a ws)) ∧ RelL p m ds ws ∧ f ds = some ys ∧
  ∀ l vs, m.H l = none → RelL p m ys vs → Q (.ref l) (upd m.H l (.lst vs))
theorem call_list (hK : X.K = p.K) : CallR X (.type "list") (rNew p true some) := by
  intro pins s σ H xs us Q I r ⟨m, S, a, ws, ds, ys, e, hH, k, hs, hd, hf, q⟩
  subst hH e
  cases hf
  refine call_list_of pins s σ m.H [.ref a] us Q I r ⟨a, ws, rfl, ?_, fun l hl => q l ws hl hd⟩
  rcases hs with hs | ⟨_, hs⟩
  · exact .inl (sqLE hK.symm hs)
  · exact .inr (sqE hK.symm hs)
theorem qL.new {m m0 : Sim} {S : Store} {Wx : Ev.X → Sim → Prop} {Q : VK} {ys : List D} (g : GR p Wx (qL p m0 Q) (.ok ys S) m S) (k : SOk p m S) (h0 : ∀ a, m.H a = none → m0.H a = none) : ∀ l vs, m.H l = none → RelL p m ys vs → Q (.ref l) (upd m.H l (.lst vs)) := fun l vs hl hvs =>
  g (m.put l (.lst vs)) (Ext.put hl) (k.put hl) l vs (h0 l hl) put_at (fun i hi z => by
    obtain ⟨u, hu⟩ := k.tracked hi
    rw [show m.μ i = l from z.symm, hl] at hu; cases hu) (hvs.mono (Ext.put (S := S) hl).toUp)
theorem conv_newE {f : List D → Option (List D)} {e : EF} {σ : St} {H : Hp} {Q : VK} (h : tL p W (fun env S => (e env S).bind fun x S1 => match itemsD S1 x with | some ds => Rs.ofO (f ds) S1 | none => .stuck) σ H Q) : tCB (rNew p true f) (tCons (tE p W e) tNil) σ H Q := by
  obtain ⟨m, S, env, rfl, k, er, g⟩ := h
  refine ⟨m, S, env, rfl, k, er, g.bindE fun d m1 S1 e1 k1 g1 x hx => ?_⟩
  show rNew p true f [x] m1.H Q
  have gg : ∀ ds, itemsD S1 d = some ds → ∃ ys, f ds = some ys ∧ ∀ l vs, m1.H l = none → RelL p m1 ys vs → Q (.ref l) (upd m1.H l (.lst vs)) := fun ds q => by
    rw [q] at g1
    dsimp only at g1
    cases q2 : f ds with
    | some ys => rw [q2] at g1; exact ⟨ys, rfl, qL.new g1 k1 fun a => e1.free⟩
    | none => rw [q2] at g1; exact g1.elim
  cases d with
  | tup ds =>
    obtain ⟨a, vs, rfl, h1, h2⟩ := (show ∃ a vs, x = .ref a ∧ SqT p.K m1.H a vs ∧ RelL p m1 ds vs from hx)
    obtain ⟨ys, q1, q2⟩ := gg ds rfl
    exact ⟨m1, S1, a, vs, ds, ys, rfl, rfl, k1, .inr ⟨rfl, h1⟩, h2, q1, q2⟩
  | rol ds =>
    obtain ⟨a, vs, rfl, h1, h2⟩ := (show ∃ a vs, x = .ref a ∧ SqR p.K m1.H a vs ∧ RelL p m1 ds vs from hx)
    obtain ⟨ys, q1, q2⟩ := gg ds rfl
    exact ⟨m1, S1, a, vs, ds, ys, rfl, rfl, k1, .inl h1.sq, h2, q1, q2⟩
  | ref n =>
    obtain ⟨hn, rfl⟩ := k1.ref hx
    cases q : S1.objs[n]? with
    | none => simp only [itemsD, q] at g1; exact g1.elim
    | some o =>
      cases o with
      | lst xs =>
        obtain ⟨vs, h1, h2⟩ := k1.obj n _ q
        obtain ⟨ys, q1, q2⟩ := gg xs (by simp [itemsD, q])
        exact ⟨m1, S1, _, vs, xs, ys, rfl, rfl, k1, .inl (SqL.of h1), h2, q1, q2⟩
      | ins _ _ => simp only [itemsD, q] at g1; exact g1.elim
      | dct _ => simp only [itemsD, q] at g1; exact g1.elim
  | _ => exact g1.elim
theorem conv_newL {f : List D → Option (List D)} {tup : Bool} {l : LF} {σ : St} {H : Hp} {Q : VK} (h : tL p W (fun env S => (l env S).bind fun ds S1 => Rs.ofO (f ds) S1) σ H Q) : tCB (rNew p tup f) (tCons (tL p W l) tNil) σ H Q := by
  obtain ⟨m, S, env, rfl, k, er, g⟩ := h
  refine ⟨m, S, env, rfl, k, er, g.bindE fun ds m1 S1 e1 k1 g1 a ws hfree hat hne hvs => ?_⟩
  show rNew p tup f [.ref a] m1.H Q
  cases q2 : f ds with
  | none => rw [q2] at g1; exact g1.elim
  | some ys =>
    rw [q2] at g1
    exact ⟨m1, S1, a, ws, ds, ys, rfl, rfl, k1, .inl (SqL.of hat), hvs, q2, qL.new g1 k1 fun a => e1.free⟩
theorem alikeTo_of {x : PyData} : ∀ {ds : List D}, alikeTo x ds = true → ∀ d, d ∈ ds → ∃ y, pyOf d = some y ∧ PySem.W.alike x y = true ∧ PySem.W.alike y x = true
  | [], _, d, hd => by cases hd
  | e :: r, h, d, hd => by
    rw [alikeTo, Bool.and_eq_true] at h
    rcases List.mem_cons.mp hd with rfl | hd
    · have h1 := h.1
      cases q : pyOf d with
      | none => rw [q] at h1; cases h1
      | some y =>
        rw [q] at h1
        simp only [Bool.and_eq_true] at h1
        exact ⟨y, rfl, h1.1.1, h1.1.2⟩
    · exact alikeTo_of h.2 d hd
theorem allAlike_of : ∀ {ds : List D}, allAlike ds = true → (∀ d, d ∈ ds → ∃ y, pyOf d = some y ∧ y.depth ≤ 64) ∧ ∀ d, d ∈ ds → ∀ d', d' ∈ ds → PySem.W.alike (pyD d) (pyD d') = true
  | [], _ => ⟨(fun d hd => by cases hd), (fun d hd => by cases hd)⟩
  | e :: r, h => by
    rw [allAlike, Bool.and_eq_true] at h
    obtain ⟨i1, i2⟩ := allAlike_of h.2
    have h1 := h.1
    cases q : pyOf e with
    | none => rw [q] at h1; cases h1
    | some y =>
      rw [q] at h1
      simp only [Bool.and_eq_true] at h1
      have ye : pyD e = y := by unfold pyD; rw [q]
      have al := alikeTo_of h1.2
      refine ⟨fun d hd => ?_, fun d hd d' hd' => ?_⟩
      · rcases List.mem_cons.mp hd with rfl | hd
        · exact ⟨y, q, Nat.le_of_ble_eq_true h1.1.2⟩
        · exact i1 d hd
      · rcases List.mem_cons.mp hd with q1 | hd
        · rw [q1]
          rcases List.mem_cons.mp hd' with q2 | hd'
          · rw [q2, ye]; exact h1.1.1
          · obtain ⟨z, z1, z2, z3⟩ := al d' hd'
            rw [ye, show pyD d' = z by unfold pyD; rw [z1]]; exact z2
        · rcases List.mem_cons.mp hd' with q2 | hd'
          · obtain ⟨z, z1, z2, z3⟩ := al d hd
            rw [q2, ye, show pyD d = z by unfold pyD; rw [z1]]; exact z3
          · exact i2 d hd d' hd'
theorem each_of {m : Sim} : ∀ {ds : List D} {vs : List V} {us : List Value}, RelL p m ds vs → Vals vs us → PySem.W.EachIs (fun u d => ∃ v, RelV v u ∧ Rel p m d v) us ds
  | [], vs, us, h, r => by cases (show vs = [] from h); cases r; exact .nil
  | d :: ds, vs, us, h, r => by
    obtain ⟨v, t, rfl, h1, h2⟩ := h.uncons
    cases r with
    | cons r1 r2 => exact .cons ⟨v, r1, h1⟩ (each_of h2 r2)
theorem of_each {m : Sim} : ∀ {ds : List D} {us : List Value}, PySem.W.EachIs (fun u d => ∃ v, RelV v u ∧ Rel p m d v) us ds → ∃ vs, RelL p m ds vs ∧ Vals vs us
  | [], _, .nil => ⟨[], RelL.nil, .nil⟩
  | d :: ds, _, .cons ⟨v, r1, h1⟩ t => by
    obtain ⟨vs, h2, r2⟩ := of_each t
    exact ⟨v :: vs, RelL.cons h1 h2, .cons r1 r2⟩
theorem each_reads (hK : X.K = p.K) {pins : List (Addr × Obj)} {s : Shared} {σ : L2.St} {m : Sim} {S : Store} (I : Inv X pins σ m.H s) (k : SOk p m S) : ∀ {ds : List D} {vs : List V} {us : List Value}, RelL p m ds vs → Vals vs us → (∀ d, d ∈ ds → ∃ y, pyOf d = some y) → PySem.W.EachIs (fun u d => ∃ as, Reads s.heap u (pyD d) as) us ds
  | [], vs, us, h, r, _ => by cases (show vs = [] from h); cases r; exact .nil
  | d :: ds, vs, us, h, r, hp => by
    obtain ⟨v, t, rfl, h1, h2⟩ := h.uncons
    cases r with
    | cons r1 r2 =>
      refine .cons ?_ (each_reads hK I k h2 r2 fun d hd => hp d (List.mem_cons_of_mem _ hd))
      obtain ⟨y, hy⟩ := hp d List.mem_cons_self
      rw [show pyD d = y by unfold pyD; rw [hy]]
      exact reads_of hK I k h1 r1 (pyOf_at hy)
theorem call_sorted (hK : X.K = p.K) (hu : X.A.units + 70 < cLine) : CallR X (.builtin "sorted") (rNew p false sortC) := by
  intro pins s σ H xs us Q I r ⟨m, S, a, ws, ds, ys, e, hH, k, hs, hd, hf, q⟩
  subst hH e
  obtain ⟨u, rfl, ru⟩ := vals1 r
  cases ru
  have hs : SqL X.K m.H a ws := by
    rcases hs with hs | ⟨h0, _⟩
    · exact sqLE hK.symm hs
    · cases h0
  obtain ⟨its, rv, hl, hz⟩ := I.list hs
  unfold sortC at hf
  split at hf
  · rename_i hc
    cases hf
    simp only [sortOk, Bool.and_eq_true, Bool.or_eq_true] at hc
    obtain ⟨⟨c1, c2⟩, c3⟩ := hc
    obtain ⟨a1, a2⟩ := allAlike_of c1
    have hlen : ds.length ≤ sizeLine := by rw [hd.length]; exact hz
    refine PySem.W.sorted_data (enc := pyD) (bs := ds) (vs := its) hl.isList (each_of hd rv) (each_reads hK I k hd rv fun d hd => (a1 d hd).imp fun y z => z.1) ?_ ?_ hlen (fun d hd => ?_) fun out ho eo => ?_
    · intro x hx y hy
      obtain ⟨d, hd1, rfl⟩ := List.mem_map.mp hx
      obtain ⟨d', hd2, rfl⟩ := List.mem_map.mp hy
      exact a2 d hd1 d' hd2
    · rcases c2 with c2 | c2
      · refine .inl fun x hx => ?_
        obtain ⟨d, hd1, rfl⟩ := List.mem_map.mp hx
        have := (List.all_eq_true.mp c2) d hd1
        revert this
        cases pyD d with
        | tuple xs => cases xs with
          | nil => intro z; cases z
          | cons x r => intro _; exact ⟨x, r, rfl⟩
        | _ => intro z; cases z
      · refine .inr fun x hx => ?_
        obtain ⟨d, hd1, rfl⟩ := List.mem_map.mp hx
        have := (List.all_eq_true.mp c2) d hd1
        revert this
        cases pyD d with
        | tuple xs => intro z; cases z
        | none => intro z; cases z
        | _ => intro _; exact ⟨(fun z => nomatch z), (fun xs z => nomatch z)⟩
    · obtain ⟨y, y1, y2⟩ := a1 d hd
      rw [show pyD d = y by unfold pyD; rw [y1]]
      omega
    · obtain ⟨vs, hvs, rvs⟩ := of_each eo
      obtain ⟨ep, he'⟩ := PyProof.Rows.sortedAll_at s.heap its out.toArray
      have hl2 : vs.length ≤ sizeLine := by rw [rvs.length, ho]; exact hlen
      refine ⟨.ref _, upd m.H (s.heap.objs.size + 1) (.lst vs), I.laid (t' := s.toks) (fun _ _ => PyProof.Rows.sortedAll_old) (Nat.le_succ _) ⟨hl2, out, ep, rvs, he'⟩, rfl, q _ vs (I.hok.fresh (Nat.le_succ _)) hvs⟩
  · cases hf
theorem sl_cat (hK : X.K = p.K) {a b : Expr} {fa fb : LF} (ha : PE X a (tL p W fa)) (hb : PE X b (tL p W fb)) : PE X (.BinOp a .Add b pos) (tL p W (catL fa fb)) :=
  PE.conv (pe_op op_cat ha hb) fun σ H Q h => by
    obtain ⟨m, S, env, rfl, k, er, g⟩ := h
    refine ⟨m, S, env, rfl, k, er, g.bindE fun xs m1 S1 e1 k1 g1 a ws hfree hat hne hvs => ?_⟩
    refine ⟨m1, S1, env, rfl, k1, er.mono e1.toUp, g1.bindE fun ys m2 S2 e2 k2 g2 b us hfree2 hat2 hne2 hvs2 => ?_⟩
    have hat' := (e2.frame a _ hat (fun ps z => by cases z) hne).1
    split at g2
    · rename_i hz
      refine ⟨a, b, ws, us, rfl, rfl, hat', hat2, ?_, fun l hl => ?_⟩
      · rw [← hvs.length, ← hvs2.length]; exact sizeOk_le hz
      · exact qL.new g2 k2 (fun a q => e1.free (e2.free q)) l _ hl ((hvs.mono e2.toUp).append hvs2)
    · exact g2.elim
theorem se_eqL (hK : X.K = p.K) (hu : X.A.units + 66 < cLine) (neg : Bool) {a b : Expr} {fa fb : LF} {o : CmpOp} (ho : o = if neg then .NotEq else .Eq) (ha : PE X a (tL p W fa)) (hb : PE X b (tL p W fb)) (hm : behindInMarks o b = false) : PE X (.Compare a [o] [b] pos) (tE p W (eqL neg fa fb)) := by
  have op : OpR X (compareOp o) (fun x y H Q => ∃ m S a b ws us ds es k, m.H = H ∧ SOk p m S ∧ x = .ref a ∧ y = .ref b ∧ m.H a = some (.lst ws) ∧ m.H b = some (.lst us) ∧ RelL p m ds ws ∧ RelL p m es us ∧ eqPy ((pyOfs ds).map .list) ((pyOfs es).map .list) = some k ∧ Q (.bl (if neg then !k else k)) m.H) := by
    intro pins s σ H x y v u Q I rx ry ⟨m, S, a, b, ws, us, ds, es, k, hH, ok, hx, hy, h1, h2, r1, r2, e, q⟩
    subst hH hx hy
    obtain ⟨A, C, e1, e2, sh, rfl⟩ := eqPy_cases e
    rw [Option.map_eq_some_iff] at e1 e2
    obtain ⟨xs, e1, rfl⟩ := e1
    obtain ⟨ys, e2, rfl⟩ := e2
    obtain ⟨as, q1⟩ := Dp.reads I (.list xs) (.ref a) v (.lst (SqL.of h1) (hK ▸ rel_dps r1 e1)) rx
    obtain ⟨bs, q2⟩ := Dp.reads I (.list ys) (.ref b) u (.lst (SqL.of h2) (hK ▸ rel_dps r2 e2)) ry
    have p1 : (PyData.list xs).plain = true := by rw [PyData.plain]; exact pyOfs_plain e1
    have p2 : (PyData.list ys).plain = true := by rw [PyData.plain]; exact pyOfs_plain e2
    cases neg with
    | true => subst ho; exact SeqAt.ne_plain q1 q2 p1 p2 (room64 hu sh) ⟨.bl _, m.H, I, rfl, q⟩
    | false => subst ho; exact SeqAt.eq_plain q1 q2 p1 p2 (room64 hu sh) ⟨.bl _, m.H, I, rfl, q⟩
  refine PE.conv (pe_cmpR op ha hb hm) fun σ H Q h => ?_
  obtain ⟨m, S, env, rfl, k, er, g⟩ := h
  refine ⟨m, S, env, rfl, k, er, g.bindE fun xs m1 S1 e1 k1 g1 a ws hfree hat hne hvs => ?_⟩
  refine ⟨m1, S1, env, rfl, k1, er.mono e1.toUp, g1.bindE fun ys m2 S2 e2 k2 g2 b us hfree2 hat2 hne2 hvs2 => ?_⟩
  have hat' := (e2.frame a _ hat (fun ps z => by cases z) hne).1
  cases q : eqPy ((pyOfs xs).map .list) ((pyOfs ys).map .list) with
  | none => rw [q] at g2; exact g2.elim
  | some kk =>
    rw [q] at g2
    exact ⟨m2, S2, a, b, ws, us, xs, ys, kk, rfl, k2, rfl, rfl, hat', hat2, hvs.mono e2.toUp, hvs2, q, g2.ok k2 _ rfl⟩
end
end Ev
set_option Elab.async false
set_option linter.all false
set_option maxRecDepth 100000
set_option maxHeartbeats 4000000
namespace Ev
open PySem PySem.Spec PyProof.Rows L2
def FInj (p : Par) : Prop := ∀ f g, f < p.nF → g < p.nF → p.FN f = p.FN g → f = g
def FldOk (p : Par) (cs : List Nat) (f : Nat) : Prop := f < p.nF ∧ ∀ c, c ∈ cs → Cls p.K (p.CA c) ∧ NoAttr p.K (p.CA c) (p.FN f)
section
variable {p : Par} {m : Sim}
theorem frel_get (hi : FInj p) {f : Nat} (hf : f < p.nF) : ∀ {fs : List (Nat × D)} {ys : List (Str × V)} {d : D}, FRel p m fs ys → fieldD f fs = some d → ∃ v, ys.lookup (p.FN f) = some v ∧ Rel p m d v
  | [], _, _, _, e => by cases e
  | (g, x) :: r, ys, d, h, e => by
    obtain ⟨v, s, rfl, h0, h1, h2⟩ := (show ∃ v s, ys = (p.FN g, v) :: s ∧ g < p.nF ∧ Rel p m x v ∧ FRel p m r s from h)
    rw [fieldD] at e
    by_cases q : g = f
    · subst q
      rw [if_pos rfl] at e
      cases e
      exact ⟨v, by simp [List.lookup], h1⟩
    · rw [if_neg q] at e
      obtain ⟨w, e1, e2⟩ := frel_get hi hf h2 e
      have : (p.FN f == p.FN g) = false := beq_eq_false_iff_ne.mpr fun z => q (hi g f h0 hf z.symm)
      exact ⟨w, by rw [List.lookup, this]; exact e1, e2⟩
theorem frel_put (hi : FInj p) {f : Nat} (hf : f < p.nF) {d : D} {v : V} (hv : Rel p m d v) : ∀ {fs : List (Nat × D)} {ys : List (Str × V)}, FRel p m fs ys → FRel p m (putD f d fs) (putF (p.FN f) v ys)
  | [], ys, h => by
    cases (show ys = [] from h)
    exact ⟨v, [], rfl, hf, hv, rfl⟩
  | (g, x) :: r, ys, h => by
    obtain ⟨w, s, rfl, h0, h1, h2⟩ := (show ∃ v s, ys = (p.FN g, v) :: s ∧ g < p.nF ∧ Rel p m x v ∧ FRel p m r s from h)
    rw [putD, putF]
    by_cases q : g = f
    · subst q
      rw [if_pos rfl, if_pos rfl]
      exact ⟨v, s, rfl, h0, hv, h2⟩
    · have : ¬ p.FN g = p.FN f := fun z => q (hi g f h0 hf z)
      rw [if_neg q, if_neg this]
      exact ⟨w, _, rfl, h0, h1, frel_put hi hf hv h2⟩
theorem frel_len : ∀ {fs : List (Nat × D)} {ys : List (Str × V)}, FRel p m fs ys → fs.length = ys.length
  | [], ys, h => by cases (show ys = [] from h); rfl
  | (g, x) :: r, ys, h => by
    obtain ⟨w, s, rfl, h0, h1, h2⟩ := (show ∃ v s, ys = (p.FN g, v) :: s ∧ g < p.nF ∧ Rel p m x v ∧ FRel p m r s from h)
    simp [frel_len h2]
end
section
variable {p : Par} {X : Cx} {W : WX} {pos : Pos}
theorem se_fld (hK : X.K = p.K) (hi : FInj p) {cs : List Nat} {f : Nat} (ok : FldOk p cs f) {e : Expr} {fe : EF} (he : PE X e (tE p W fe)) (hb : attributeBase e (p.FN f) X.env (eval e X.env) = eval e X.env) : PE X (.Attribute e (p.FN f) pos) (tE p W (un1 (opFld cs f) fe)) :=
  PE.conv (pe_fld he hb) fun σ H Q h => by
    obtain ⟨m, S, env, rfl, k, er, g⟩ := h
    refine ⟨m, S, env, rfl, k, er, g.bindE fun dx m1 S1 e1 k1 g1 x hx => ?_⟩
    cases dx with
    | ref n =>
      obtain ⟨hn, rfl⟩ := k1.ref hx
      unfold opFld at g1
      dsimp only at g1
      cases q : S1.objs[n]? with
      | none => rw [q] at g1; exact g1.elim
      | some o =>
        rw [q] at g1
        cases o with
        | ins c fs =>
          obtain ⟨dx, ys, h1, h2⟩ := k1.obj n _ q
          dsimp only at g1
          split at g1
          · rename_i hc
            have hc : c ∈ cs := List.contains_iff_mem.mp hc
            cases q2 : fieldD f fs with
            | none => rw [q2] at g1; exact g1.elim
            | some d =>
              rw [q2] at g1
              obtain ⟨v, e1, e2⟩ := frel_get hi ok.1 h2 q2
              exact ⟨_, _, dx, ys, v, rfl, h1, hK ▸ (ok.2 c hc).1, hK ▸ (ok.2 c hc).2, e1, g1.ok k1 v e2⟩
          · exact g1.elim
        | lst _ => exact g1.elim
        | dct _ => exact g1.elim
    | _ => exact g1.elim
def tyName : Ty → String
  | .int => "int"
  | .bool => "bool"
  | .str => "str"
  | .tuple => "tuple"
  | .list => "list"
theorem kitNon (t : Ty) : PySem.W.kitOne p.K (.type "NoneType") (.type (tyName t)) = some false := by
  cases t <;> exact kit_ty (by decide +kernel)
theorem kitBl (t : Ty) : PySem.W.kitOne p.K (.type "bool") (.type (tyName t)) = some (match t with | .int => true | .bool => true | _ => false) := by
  cases t <;> exact kit_ty (by decide +kernel)
theorem kitInt (t : Ty) : PySem.W.kitOne p.K (.type "int") (.type (tyName t)) = some (match t with | .int => true | _ => false) := by
  cases t <;> exact kit_ty (by decide +kernel)
theorem kitStr (t : Ty) : PySem.W.kitOne p.K (.type "str") (.type (tyName t)) = some (match t with | .str => true | _ => false) := by
  cases t <;> exact kit_ty (by decide +kernel)
theorem kitTup (t : Ty) : PySem.W.kitOne p.K (.type "tuple") (.type (tyName t)) = some (match t with | .tuple => true | _ => false) := by
  cases t <;> exact kit_ty (by decide +kernel)
theorem kitLst (t : Ty) : PySem.W.kitOne p.K (.type "list") (.type (tyName t)) = some (match t with | .list => true | _ => false) := by
  cases t <;> exact kit_ty (by decide +kernel)
theorem tyx_tup {K : PySem.W.Frag} {H : Hp} {a : Addr} {xs : List V} (h : SqT K H a xs) : TyX K H (.ref a) (.type "tuple") := by
  rcases h with (h | ⟨o, h⟩) | ⟨o, its, n, e, c, _⟩
  · exact .base (.tup h)
  · exact .fTuple h
  · exact .kTuple e c
def rIsiD (p : Par) (t : Ty) : List V → Hp → VK → Prop := fun xs H Q => ∃ m S dx x, xs = [x, .ty (tyName t)] ∧ m.H = H ∧ SOk p m S ∧ Rel p m dx x ∧ GR p (fun _ _ => False) (qE p Q) (opIsi t dx S) m S
theorem call_isiD (hK : X.K = p.K) (t : Ty) : CallR X (.builtin "isinstance") (rIsiD p t) := by
  intro pins s σ H xs us Q I r ⟨m, S, dx, x, e, hH, k, hx, g⟩
  subst hH e
  have fin : ∀ (ty : Value) (b : Bool), TyX X.K m.H x ty → PySem.W.kitOne p.K ty (.type (tyName t)) = some b → Q (.bl b) m.H → wpAny (model X.prog X.w) X.A (call (.builtin "isinstance") us) (EP X pins σ Q) X.xe s := fun ty b h1 h2 q =>
    call_isi pins s σ m.H _ us Q I r ⟨x, _, ty, _, b, rfl, .ty _, h1, hK ▸ h2, q⟩
  cases dx with
  | non => cases (show x = .non from hx); exact fin _ _ (.base .non) (kitNon t) (g.ok k _ rfl)
  | bl b => cases (show x = .bl b from hx); exact fin _ _ (.base (.bl b)) (kitBl t) (g.ok k _ rfl)
  | int i => cases (show x = .int i from hx); exact fin _ _ (.base (.int i)) (kitInt t) (g.ok k _ rfl)
  | str i => cases (show x = .str i from hx); exact fin _ _ (.base (.str i)) (kitStr t) (g.ok k _ rfl)
  | tup ds =>
    obtain ⟨a, vs, rfl, h1, h2⟩ := (show ∃ a vs, x = .ref a ∧ SqT p.K m.H a vs ∧ RelL p m ds vs from hx)
    exact fin _ _ (tyx_tup (sqE hK.symm h1)) (kitTup t) (g.ok k _ rfl)
  | ref n =>
    obtain ⟨hn, rfl⟩ := k.ref hx
    unfold opIsi isTy at g
    dsimp only at g
    cases q : S.objs[n]? with
    | none => rw [q] at g; exact g.elim
    | some o =>
      rw [q] at g
      cases o with
      | lst xs =>
        obtain ⟨vs, h1, h2⟩ := k.obj n _ q
        exact fin _ _ (.base (.lst h1)) (kitLst t) (g.ok k _ rfl)
      | ins _ _ => exact g.elim
      | dct _ => exact g.elim
  | _ => exact g.elim
def Same (is : List Nat) (σ σ' : St) : Prop := σ'.length = σ.length ∧ ∀ i, i ∉ is → σ'[i]? = σ[i]?
theorem Same.refl {is : List Nat} {σ : St} : Same is σ σ := ⟨rfl, fun _ _ => rfl⟩
theorem Same.trans {is js : List Nat} {σ σ' σ'' : St} (a : Same is σ σ') (b : Same js σ' σ'') : Same (is ++ js) σ σ'' :=
  ⟨b.1.trans a.1, fun i hi => (b.2 i fun z => hi (List.mem_append_right _ z)).trans (a.2 i fun z => hi (List.mem_append_left _ z))⟩
def gG (p : Par) (σ : St) (is : List Nat) (Q : St → Hp → Prop) (r : Rs Env) (m : Sim) (S : Store) : Prop := match r with
  | .ok env' S' => ∀ m' σ', Ext m S m' S' → SOk p m' S' → EnvR p m' env' σ' → Same is σ σ' → Q σ' m'.H
  | _ => False
def tG (p : Par) (is : List Nat) (g : GF) : TG := fun v σ H Q => ∃ m S env d, m.H = H ∧ SOk p m S ∧ EnvR p m env σ ∧ Rel p m d v ∧ gG p σ is Q (g d env S) m S
def tGs (p : Par) (is : List Nat) (g : GFs) : TGs := fun vs σ H Q => ∃ m S env ds, m.H = H ∧ SOk p m S ∧ EnvR p m env σ ∧ RelL p m ds vs ∧ gG p σ is Q (g ds env S) m S
theorem PG.conv {tg : Expr} {t t' : TG} (h : PG X tg t) (c : ∀ v σ H Q, t' v σ H Q → t v σ H Q) : PG X tg t' := ⟨fun pins s σ H v u Q I r q => h.run pins s σ H v u Q I r (c v σ H Q q)⟩
theorem PGs.conv {tg : List Expr} {t t' : TGs} (h : PGs X tg t) (c : ∀ v σ H Q, t' v σ H Q → t v σ H Q) : PGs X tg t' := ⟨fun pins s σ H v u Q I r q => h.run pins s σ H v u Q I r (c v σ H Q q)⟩
theorem PG.or {tg : Expr} {t t' : TG} (h : PG X tg t) (h' : PG X tg t') : PG X tg (fun v σ H Q => t v σ H Q ∨ t' v σ H Q) := ⟨fun pins s σ H v u Q I r q => q.elim (h.run pins s σ H v u Q I r) (h'.run pins s σ H v u Q I r)⟩
theorem sg_name {i : Nat} {x : Str} (hN : X.N.Nodup) (hi : X.N[i]? = some x) (hx : Loc X.env.scope x) (hf : X.fn x = true ∨ X.env.scope.names.lookup x = some .local) : PG X (.Name x pos) (tG p [i] (nameG i)) :=
  PG.conv (pg_name hN hi hx hf) fun v σ H Q ⟨m, S, env, d, hH, k, er, hv, g⟩ => by
    subst hH
    exact g m _ Ext.refl k (er.set hv) ⟨by simp, fun j hj => by rw [List.getElem?_set_ne]; intro z; exact hj (by simp [z])⟩
theorem sgs_nil : PGs X [] (tGs p [] nilG) :=
  PGs.conv pgs_nil fun v σ H Q ⟨m, S, env, ds, hH, k, er, hv, g⟩ => by
    subst hH
    cases ds with
    | nil => exact ⟨hv, g m _ Ext.refl k er Same.refl⟩
    | cons _ _ => exact g.elim
theorem assign_cons {e : Expr} (es : List Expr) (env : PySem.Env) (h : plainX e = true) : assignEach (e :: es) env = (false, assign e env) :: assignEach es env := by
  cases e <;> first | rfl | (simp [plainX] at h)
theorem sgs_cons {e : Expr} {es : List Expr} {is js : List Nat} {g : GF} {gs : GFs} (h1 : PG X e (tG p is g)) (h2 : PGs X es (tGs p js gs)) (hp : plainX e = true) : PGs X (e :: es) (tGs p (is ++ js) (consG g gs)) :=
  PGs.conv (pgs_cons h1 h2 (by rw [assign_cons es _ hp]; rfl)) fun vs σ H Q ⟨m, S, env, ds, hH, k, er, hv, gg⟩ => by
    subst hH
    cases ds with
    | nil => exact gg.elim
    | cons d r =>
      obtain ⟨v, t, rfl, hv1, hv2⟩ := hv.uncons
      refine ⟨v, t, rfl, m, S, env, d, rfl, k, er, hv1, ?_⟩
      unfold consG at gg
      dsimp only at gg
      cases q : g d env S with
      | ok env1 S1 =>
        rw [q] at gg
        intro m1 σ1 e1 k1 er1 s1
        refine ⟨m1, S1, env1, r, rfl, k1, er1, hv2.mono e1.toUp, ?_⟩
        have gg : gG p σ (is ++ js) Q (gs r env1 S1) m S := gg
        cases q2 : gs r env1 S1 with
        | ok env2 S2 =>
          rw [q2] at gg
          intro m2 σ2 e2 k2 er2 s2
          exact gg m2 σ2 (e1.trans e2) k2 er2 (s1.trans s2)
        | exc _ _ => rw [q2] at gg; exact gg.elim
        | stuck => rw [q2] at gg; exact gg.elim
      | exc _ _ => rw [q] at gg; exact gg.elim
      | stuck => rw [q] at gg; exact gg.elim
theorem assign_len {env : PySem.Env} : ∀ {es : List Expr}, es.all plainX = true → (assignEach es env).length = es.length ∧ (assignEach es env).findIdx? (·.1) = none
  | [], _ => ⟨rfl, rfl⟩
  | e :: es, h => by
    rw [List.all_cons, Bool.and_eq_true] at h
    rw [assign_cons es _ h.1]
    obtain ⟨h1, h2⟩ := assign_len (env := env) h.2
    refine ⟨by simp [h1], ?_⟩
    rw [List.findIdx?_cons]
    simp [h2]
theorem sg_tup (hK : X.K = p.K) (hc : X.calm = true) {es : List Expr} {kk : Nat} {is : List Nat} {gs : GFs} (h : PGs X es (tGs p is gs)) (hp : es.all plainX = true) : PG X (.Tuple es kk pos) (tG p is (tupG es.length gs)) := by
  obtain ⟨l1, l2⟩ := assign_len (env := X.env) hp
  refine PG.conv (PG.or (pg_tup hc h l1 l2) (pg_unl hc h l1 l2)) fun v σ H Q ⟨m, S, env, d, hH, k, er, hv, g⟩ => ?_
  subst hH
  unfold tupG at g
  cases d with
  | tup ds =>
    obtain ⟨a, vs, rfl, h1, h2⟩ := (show ∃ a vs, v = .ref a ∧ SqT p.K m.H a vs ∧ RelL p m ds vs from hv)
    simp only [itemsD] at g
    split at g
    · rename_i hl
      exact .inl ⟨a, vs, rfl, sqE hK.symm h1, by rw [← h2.length]; exact hl, m, S, env, ds, rfl, k, er, h2, g⟩
    · exact g.elim
  | rol ds =>
    obtain ⟨a, vs, rfl, h1, h2⟩ := (show ∃ a vs, v = .ref a ∧ SqR p.K m.H a vs ∧ RelL p m ds vs from hv)
    simp only [itemsD] at g
    split at g
    · rename_i hl
      exact .inr ⟨a, vs, rfl, sqLE hK.symm h1.sq, by rw [← h2.length]; exact hl, m, S, env, ds, rfl, k, er, h2, g⟩
    · exact g.elim
  | ref n =>
    obtain ⟨hn, rfl⟩ := k.ref hv
    cases q : S.objs[n]? with
    | none => simp only [itemsD, q] at g; exact g.elim
    | some o =>
      cases o with
      | lst xs =>
        obtain ⟨vs, h1, h2⟩ := k.obj n _ q
        simp only [itemsD, q] at g
        split at g
        · rename_i hl
          exact .inr ⟨_, vs, rfl, SqL.of h1, by rw [← h2.length]; exact hl, m, S, env, xs, rfl, k, er, h2, g⟩
        · exact g.elim
      | ins _ _ => simp only [itemsD, q] at g; exact g.elim
      | dct _ => simp only [itemsD, q] at g; exact g.elim
  | _ => exact g.elim
def gFld (K : PySem.W.Frag) (ta : TE) (f : Str) : TG := fun v σ H Q => ta σ H fun x H1 => ∃ a C dx fs, x = .ref a ∧ H1 a = some (.ins C dx fs) ∧ Cls K C ∧ NoAttr K C f ∧ fs.length < 1000 ∧ Q σ (upd H1 a (.ins C dx (putF f v fs)))
theorem pg_fld {o : Expr} {f : Str} {ta : TE} (ha : PE X o ta) : PG X (.Attribute o f pos) (gFld X.K ta f) := by
  refine ⟨fun pins s σ H v u Q I r h => ?_⟩
  have ea : assign (.Attribute o f pos) X.env u = (do
    let ov ← holding [u] (eval o X.env)
    standAt pos.atName
    holding [u, ov] (setAttr ov f u)
    release [u, ov] []) := rfl
  rw [ea]
  refine wpAny_bind (wpAny_holding (thn (ha.run pins s σ H _ I h) fun ov s1 ⟨x, H1, I1, r1, a, C, dx, fs, ex, ea, c, n, l, q⟩ => ?_))
  subst ex
  obtain rfl : ov = Value.ref a := r1
  refine wpAny_bind (wpAny_standAt (wpAny_bind (wpAny_holding (setattr_ok I1 ea c n l r fun s3 I3 => ?_))))
  exact wpAny_release ⟨σ, _, I3, q⟩
theorem sg_fld (hK : X.K = p.K) (hi : FInj p) {cs : List Nat} {f : Nat} (ok : FldOk p cs f) {o : Expr} {fe : EF} (ho : PE X o (tE p (fun _ _ _ _ => False) fe)) : PG X (.Attribute o (p.FN f) pos) (tG p [] (fldG cs fe f)) :=
  PG.conv (pg_fld ho) fun v σ H Q ⟨m, S, env, d, hH, k, er, hv, g⟩ => by
    subst hH
    refine ⟨m, S, env, rfl, k, er, ?_⟩
    unfold fldG at g
    cases q : fe env S with
    | ok x S1 =>
      rw [q] at g
      intro m1 e1 k1 xv hx
      unfold Rs.bind at g
      cases x with
      | ref n =>
        obtain ⟨hn, rfl⟩ := k1.ref hx
        dsimp only at g
        cases q2 : S1.objs[n]? with
        | none => rw [q2] at g; exact g.elim
        | some o =>
          rw [q2] at g
          cases o with
          | ins c fs =>
            obtain ⟨dx, ys, h1, h2⟩ := k1.obj n _ q2
            dsimp only at g
            split at g
            · rename_i hc
              rw [Bool.and_eq_true] at hc
              have hcs : c ∈ cs := List.contains_iff_mem.mp hc.1
              have hl : ys.length < 1000 := by rw [← frel_len h2]; exact Nat.le_of_ble_eq_true hc.2
              refine ⟨_, _, dx, ys, rfl, h1, hK ▸ (ok.2 c hcs).1, hK ▸ (ok.2 c hcs).2, hl, ?_⟩
              have e2 := Ext.wr (S := S1) (o := .ins (p.CA c) dx (putF (p.FN f) v ys)) (x := .ins c (putD f d fs)) hn h1 trivial
              have k2 := k1.wr (o := .ins (p.CA c) dx (putF (p.FN f) v ys)) (x := .ins c (putD f d fs)) hn h1 trivial ⟨dx, _, wr_at, frel_put hi ok.1 ((hv.mono e1.toUp).mono e2.toUp) (h2.mono e2.toUp)⟩
              exact g (m1.wr n _) σ (e1.trans e2) k2 ((er.mono e1.toUp).mono e2.toUp) Same.refl
            · exact g.elim
          | lst _ => exact g.elim
          | dct _ => exact g.elim
      | _ => exact g.elim
    | exc x S1 => rw [q] at g; exact g.elim
    | stuck => rw [q] at g; exact g.elim
end
end Ev
set_option Elab.async false
set_option linter.all false
set_option maxRecDepth 100000
set_option maxHeartbeats 4000000
namespace Ev
open PySem PySem.Spec PyProof.Rows L2
theorem meets_enumT (l : Addr) (items : Array Value) :
    Meets (Builtin.«enumerate.__new__» ⟨[.type "enumerate", .ref l], []⟩) (fun _ R s => s.heap.IsTuple l items ∧
      R (.ok (.ret (.ref (s.heap.push { cls := .type "tuple_iterator", data := .fields #[.ref l, .int 0 0] }).objs.size)))
        { s with heap := (s.heap.push { cls := .type "tuple_iterator", data := .fields #[.ref l, .int 0 0] }).push { cls := .type "enumerate", data := .fields #[.none, .bool false, .ref s.heap.objs.size, rawInt 0, .none, .none] } }) :=
  .of_wp fun prog w A R s h => by
    obtain ⟨hp, g, d, tk, os⟩ := s; obtain ⟨h1, h⟩ := h
    have hsub := sub_enumerate
    have q1 : ∀ {A' : Around} {E : Value → Shared → Prop} {Q : Value → Shared → Prop}, Q (.ref hp.objs.size) ⟨hp.push { cls := .type "tuple_iterator", data := .fields #[.ref l, .int 0 0] }, g, d, tk, os⟩ → wpAny (model prog w) A' (pyIter (.ref l)) Q E ⟨hp, g, d, tk, os⟩ :=
      fun q => (begins_tuple l items).iter prog w _ _ ⟨hp, g, d, tk, os⟩ _ h1 q
    wp_walk using q1
    refine wpAny_stack_any fun st => wpAny_pure ?_
    split
    · rename_i c _ _ _ _ _
      cases (c == Value.type "enumerate")
      · wp_walk using q1
        exact ⟨_, rfl, h⟩
      · wp_walk using q1
        exact ⟨_, rfl, h⟩
    · wp_walk using q1
      exact ⟨_, rfl, h⟩
theorem call_enumT {prog : Program} {w : World} {A : Around} {E : Value → Shared → Prop} {s : Shared} {l : Addr} {items : Array Value} {Q : Value → Shared → Prop} (hL : s.heap.IsTuple l items)
    (h : ∀ h', IsEnum h' (s.heap.objs.size + 1) s.heap.objs.size 0 .none → h'.IsTupleIter s.heap.objs.size l 0 → h'.objs.size = s.heap.objs.size + 2 →
      (∀ b o, s.heap.get? b = some o → h'.get? b = some o) → Q (.ref (s.heap.objs.size + 1)) { s with heap := h' }) :
    wpAny (model prog w) A (call (.type "enumerate") [.ref l]) Q E s := by
  refine callType_new F.called_enumerate (by decide) (F.typeCall_enumerate_1 _) (F.newCall_enumerate_1 _) (fun obj => F.args_object_init_2 obj _) F.entry_enumerate_new
    (meets_enumT l items) ⟨hL, ?_⟩
  have hz : (s.heap.push { cls := .type "tuple_iterator", data := .fields #[.ref l, .int 0 0] }).objs.size = s.heap.objs.size + 1 := Heap.size_push ..
  show _ ∧ _
  rw [hz]
  have he : IsEnum ((s.heap.push { cls := .type "tuple_iterator", data := .fields #[.ref l, .int 0 0] }).push
      { cls := .type "enumerate", data := .fields #[.none, .bool false, .ref s.heap.objs.size, rawInt 0, .none, .none] }) (s.heap.objs.size + 1) s.heap.objs.size 0 .none := by
    have := Heap.get?_push_size (s.heap.push { cls := .type "tuple_iterator", data := .fields #[.ref l, .int 0 0] })
      (o := { cls := .type "enumerate", data := .fields #[.none, .bool false, .ref s.heap.objs.size, rawInt 0, .none, .none] }) rfl
    rw [hz] at this; exact this
  refine ⟨⟨_, he, rfl⟩, h _ he ⟨_, Heap.get?_push_of_some _ (Heap.get?_push_size _ rfl), rfl, rfl⟩ (by rw [Heap.size_push, hz]) fun b o x => Heap.get?_push_of_some _ (Heap.get?_push_of_some _ x)⟩
def IteT (K : PySem.W.Frag) (a : Addr) : It :=
  ⟨fun i H => ∃ (xs : List V) (x : V), SqT K H a xs ∧ xs[i]? = some x, fun i H v H' => ∃ T x, v = .ref T ∧ H T = none ∧ H' = upd H T (.tup [.int (i : Nat), x]) ∧ ∀ xs, SqT K H a xs → xs[i]? = some x, fun i H => ∃ xs : List V, SqT K H a xs ∧ xs.length ≤ i⟩
theorem turn_enumT {P : Program} {w : World} {K : PySem.W.Frag} {elts : List Expr} {kk : Nat} {tpos : Pos} (a e it : Addr) (hai : a ≠ it) (hae : e ≠ a) :
    Turn P w K (.Tuple elts kk tpos) (IteT K a) [e, it] e (fun i h => (∃ old, IsEnum h e it ((i : Nat) : Int) old) ∧ h.IsTupleIter it a i ∧ e ≠ it) where
  mem := by simp
  obj := fun i h st b hb => by
    obtain ⟨⟨old, he⟩, ⟨o, ho, hc, hd⟩, _⟩ := st
    have e' : b = e ∨ b = it := by simpa using hb
    rcases e' with z | z
    · rw [z]; exact ⟨_, he, fun v q => nomatch q⟩
    · rw [z]; exact ⟨o, ho, fun v q => by rw [hd] at q; cases q⟩
  keep := fun i h h' st k => let ⟨⟨old, he⟩, hi, hne⟩ := st; ⟨⟨old, k e (by simp) _ he⟩, hi.at fun o q => k it (by simp) o q, hne⟩
  item := by
    intro X hP hw hK hc i pins s σ H E I hf st hg
    subst hP hw hK
    obtain ⟨⟨old, he⟩, hit, hne⟩ := st
    obtain ⟨xs, x, hq, hx⟩ := hg
    obtain ⟨its, rv, p, hz⟩ := I.tuple hq
    obtain ⟨u, hu, ru⟩ := rv.get hx
    have hel : e < s.heap.objs.size := Heap.lt_size he
    have hil : it < s.heap.objs.size := by obtain ⟨_, q, _⟩ := hit; exact Heap.lt_size q
    have hlt : i < its.toArray.size := by
      obtain ⟨h1, _⟩ := List.getElem?_eq_some_iff.mp hu
      simpa using h1
    refine wpAny_pyNext_enum_itemD (Draws.tuple (A := X.A.in1) (by exact I.ok.hd hc) it a hai its.toArray) he ⟨hit, (show s.heap.IsTuple a its.toArray from p)⟩ hlt hne (by simp [hne, hae]) fun y h' tk hP ho hst hT hsz hk => ?_
    obtain ⟨hit', hp'⟩ := hst
    have hy : y = u := by
      have hP : its.toArray[i]? = some y := hP
      rw [List.getElem?_toArray, hu] at hP
      exact (Option.some.inj hP).symm
    subst hy
    refine ⟨_, rfl, wpAny_letOwnedTupleGo_enum (s := { s with heap := h', toks := tk + 1 }) ho fun h'' he' sb => ?_⟩
    have hT2 : h''.get? s.heap.objs.size = some { cls := .type "tuple", data := .seq #[.int i tk, y] } := (sb.2 _ (Nat.ne_of_gt hel)).trans hT
    have new : ObjOk X.prog X.w (upd H s.heap.objs.size (.tup [.int (i : Nat), x])) h'' s.heap.objs.size (.tup [.int (i : Nat), x]) :=
      ⟨by show 2 ≤ sizeLine; decide, [.int i tk, y], .cons ⟨_, rfl⟩ (.cons ru .nil), ⟨_, hT2, rfl, _, rfl⟩⟩
    have I1 : Inv X pins σ (upd H s.heap.objs.size (.tup [.int (i : Nat), x])) { s with heap := h'', toks := tk + 1 } :=
      I.turnedNew (ch := [e, it]) (fun b ob hb q => (sb.2 b (fun z => hb (by simp [z]))).trans (hk b ob (fun z => hb (by simp [z])) (fun z => hb (by simp [z])) q)) hf (Nat.le_refl _) new
    refine ⟨.ref s.heap.objs.size, _, I1, rfl, ⟨_, x, rfl, I.hok.fresh (Nat.le_refl _), rfl, fun ys hy => by rw [I.tuple_inj hy hq]; exact hx⟩, ⟨⟨y, ?_⟩, hit'.at fun o q => (sb.2 it (Ne.symm hne)).trans q, hne⟩, fun b hb => ?_⟩
    · have e1 : ((i + 1 : Nat) : Int) = (i : Int) + 1 := by omega
      rw [e1]; exact he'
    · have hb' : b < s.heap.objs.size := by
        have e' : b = e ∨ b = it := by simpa using hb
        rcases e' with z | z
        · rw [z]; exact hel
        · rw [z]; exact hil
      rw [upd_ne (Nat.ne_of_lt hb')]
      exact (hf b hb).1
  done := by
    intro X hP hw hK hc i pins s σ H E I hf st hg
    subst hP hw hK
    obtain ⟨⟨old, he⟩, hit, hne⟩ := st
    obtain ⟨xs, hq, hx⟩ := hg
    obtain ⟨its, rv, p, hz⟩ := I.tuple hq
    obtain ⟨f0, f1, f2, f3, f4, f5⟩ := hf it (by simp)
    have hl := rv.length
    have D : Draws X.prog X.w X.A.in1 it [it, a] i (fun _ _ => True) (fun j h => j = i ∧ h.IsTupleIter it a i ∧ h.IsTuple a its.toArray) :=
      { live := fun _ _ st => st.2.1.imp fun o q => q.1
        frame := fun _ _ _ st hk => ⟨st.1, st.2.1.at fun o e => hk it (by simp) o e, st.2.2.at fun o e => hk a (by simp) o e⟩
        item := fun j s Q E hj st hQ => absurd st.1 (Nat.ne_of_lt hj)
        done := fun s Q E st hE => wpAny_nextOf_tuple_end (by exact I.ok.hd hc) st.2.1 st.2.2 (by simp; omega) hE }
    exact wpAny_pyNext_enum_endD D he ⟨rfl, hit, show s.heap.IsTuple a its.toArray from p⟩ fun h' eb => ⟨rfl, I.turned (t' := s.toks) (fun b o hb q => eb b o hb q) f0 f1 f3 f4 f5⟩
  self := fun A i s Q E st h => let ⟨⟨_, he⟩, _⟩ := st; wpAny_pyIter_enum he h
def iEnumT (K : PySem.W.Frag) (ta : TA) : TI := fun σ H R => ta σ H fun vs H1 => ∃ a xs, vs = [.ref a] ∧ SqT K H1 a xs ∧ R (IteT K a) H1
theorem pi_enumT {X : Cx} {e : Expr} {ta : TA} {p pos tpos : Pos} {elts : List Expr} {kk : Nat} (hg : Gl X "enumerate") (hm : X.mg "enumerate" = none) (ha : PA X [e] ta) (hs : starEach [e] X.env = [(false, eval e X.env)] := by rfl) :
    PI X (.Tuple elts kk tpos) (.Call (.Name "enumerate" p) [e] [] pos) (iEnumT X.K ta) := by
  refine ⟨fun pins s σ H R I h => ?_⟩
  refine Call_ (ld_blt I hg hm boot_enumerate (PyProof.Rows.callWith_type1 (thn (ha.run pos pins s σ H _ I h) fun us s1 ⟨vs, H1, I1, r1, q1⟩ => ?_) hs rfl))
  obtain ⟨a, xs, ex, hq, q⟩ := q1
  subst ex
  cases r1 with
  | cons r rr =>
    cases rr
    cases r
    obtain ⟨its, rv, p', hz⟩ := I1.tuple hq
    have hlt : a < s1.heap.objs.size := by
      obtain ⟨o, e1, _⟩ := id p'
      exact Heap.lt_size e1
    refine call_enumT (show s1.heap.IsTuple a its.toArray from p') fun h' he hit hsz hk => wpAny_pyIter_enum he ?_
    have I2 : Inv X pins σ H1 { s1 with heap := h' } := I1.kept (t' := s1.toks) hk
    refine ⟨s1.heap.objs.size + 1, [s1.heap.objs.size + 1, s1.heap.objs.size], _, _, H1, rfl, I2, turn_enumT a (s1.heap.objs.size + 1) s1.heap.objs.size (Nat.ne_of_lt hlt) (Nat.ne_of_gt (Nat.lt_succ_of_lt hlt)), ⟨⟨.none, he⟩, hit, Nat.succ_ne_self _⟩, fun b hb => ?_, q⟩
    have e' : b = s1.heap.objs.size + 1 ∨ b = s1.heap.objs.size := by simpa using hb
    have hle : s1.heap.objs.size ≤ b := by
      rcases e' with z | z
      · rw [z]; exact Nat.le_succ _
      · rw [z]; exact Nat.le_refl _
    exact I1.fpOk hle (I1.hok.fresh hle)
end Ev
set_option Elab.async false
set_option linter.all false
set_option maxRecDepth 100000
set_option maxHeartbeats 4000000
namespace Ev
open PySem PySem.Spec PyProof.Rows L2
def OwnOk (m0 m : Sim) (a : Addr) : Prop := m0.H a = none ∧ (∃ xs, m.H a = some (.lst xs)) ∧ ∀ n, n < m.nx → a ≠ m.μ n
structure WalkOk (p : Par) (J : It) (own : List Addr) (R : Nat → Src → Sim → Prop) : Prop where
  keep : ∀ i src m m', R i src m → Up m m' → (∀ a, a ∈ own → m'.H a = m.H a) → R i src m'
  stop : ∀ i src m S, SOk p m S → R i src m → src.next S = some none → J.stop i m.H
  go : ∀ i src m S d src', SOk p m S → R i src m → (∀ a, a ∈ own → ∃ o, m.H a = some o) → src.next S = some (some (d, src')) →
    J.go i m.H ∧ ∀ x H', J.yld i m.H x H' → ∃ m', m'.H = H' ∧ Ext m S m' S ∧ SOk p m' S ∧ Rel p m' d x ∧ R (i + 1) src' m' ∧ m'.nx = m.nx ∧ m'.μ = m.μ
section
variable {p : Par}
def SrcL (p : Par) (own : List Addr) (a : Addr) (i : Nat) (src : Src) (m : Sim) : Prop :=
  (∃ n, src = .ref n i ∧ n < m.nx ∧ a = m.μ n) ∨ (∃ ds vs, src = .fix (ds.drop i) ∧ RelL p m ds vs ∧ SqR p.K m.H a vs) ∨ (∃ ds vs, src = .fix (ds.drop i) ∧ RelL p m ds vs ∧ a ∈ own ∧ m.H a = some (.lst vs))
def NextAt (p : Par) (R : Src → Sim → Prop) (m : Sim) (vs : List V) (i : Nat) : Option (D × Src) → Prop
  | none => vs.length ≤ i
  | some (d, src') => ∃ v, vs[i]? = some v ∧ Rel p m d v ∧ R src' m
def SrcT (p : Par) (a : Addr) (i : Nat) (src : Src) (m : Sim) : Prop := ∃ ds vs, src = .fix (ds.drop i) ∧ RelL p m ds vs ∧ SqT p.K m.H a vs
theorem SrcL.keep {own : List Addr} {a : Addr} {i : Nat} {src : Src} {m m' : Sim} (h : SrcL p own a i src m) (u : Up m m') (hk : ∀ a, a ∈ own → m'.H a = m.H a) : SrcL p own a i src m' := by
  rcases h with ⟨n, e, h1, h2⟩ | ⟨ds, vs, e, h1, h2⟩ | ⟨ds, vs, e, h1, h2, h3⟩
  · exact .inl ⟨n, e, Nat.lt_of_lt_of_le h1 u.le, by rw [u.same n h1]; exact h2⟩
  · exact .inr (.inl ⟨ds, vs, e, h1.mono u, u.sqR h2⟩)
  · exact .inr (.inr ⟨ds, vs, e, h1.mono u, h2, by rw [hk a h2]; exact h3⟩)
theorem SrcT.keep {a : Addr} {i : Nat} {src : Src} {m m' : Sim} (h : SrcT p a i src m) (u : Up m m') : SrcT p a i src m' := by
  obtain ⟨ds, vs, e, h1, h2⟩ := h
  exact ⟨ds, vs, e, h1.mono u, u.sqT h2⟩
def FixNext (ds : List D) (i : Nat) : Option (D × Src) → Prop
  | none => ds.length ≤ i
  | some (d, src') => ds[i]? = some d ∧ src' = .fix (ds.drop (i + 1))
theorem fix_next {S : Store} {ds : List D} {i : Nat} {r : Option (D × Src)} (h : (Src.fix (ds.drop i)).next S = some r) : FixNext ds i r := by
  cases q : ds.drop i with
  | nil =>
    rw [q] at h
    cases h
    exact List.drop_eq_nil_iff.mp q
  | cons d r' =>
    rw [q] at h
    cases h
    have e1 : ds[i]? = some d := by
      have : (ds.drop i)[0]? = some d := by rw [q]; rfl
      rw [List.getElem?_drop] at this
      simpa using this
    have e2 : ds.drop (i + 1) = r' := by
      have : (ds.drop i).drop 1 = r' := by rw [q]; rfl
      rw [List.drop_drop] at this
      exact this
    exact ⟨e1, by rw [e2]⟩
theorem SrcL.next {own : List Addr} {a : Addr} {i : Nat} {src : Src} {m : Sim} {S : Store} {r : Option (D × Src)} (k : SOk p m S) (h : SrcL p own a i src m) (e : src.next S = some r) :
    ∃ vs, SqL p.K m.H a vs ∧ NextAt p (SrcL p own a (i + 1)) m vs i r := by
  rcases h with ⟨n, rfl, h1, h2⟩ | ⟨ds, vs, rfl, h1, h2⟩ | ⟨ds, vs, rfl, h1, h2, h3⟩
  · rw [Src.next] at e
    cases q : S.objs[n]? with
    | none => rw [q] at e; cases e
    | some o =>
      rw [q] at e
      cases o with
      | lst xs =>
        obtain ⟨vs, g1, g2⟩ := k.obj n _ q
        refine ⟨vs, SqL.of (h2 ▸ g1), ?_⟩
        dsimp only at e
        cases q2 : xs[i]? with
        | none =>
          rw [q2] at e
          cases e
          show vs.length ≤ i
          rw [← g2.length]; exact List.getElem?_eq_none_iff.mp q2
        | some d =>
          rw [q2] at e
          cases e
          obtain ⟨v, e1, e2⟩ := g2.get q2
          exact ⟨v, e1, e2, .inl ⟨n, rfl, h1, h2⟩⟩
      | ins _ _ => cases e
      | dct _ => cases e
  · have f := fix_next e
    refine ⟨vs, h2.sq, ?_⟩
    cases r with
    | none => show vs.length ≤ i; rw [← h1.length]; exact f
    | some x =>
      obtain ⟨d, src'⟩ := x
      obtain ⟨f1, rfl⟩ := f
      obtain ⟨v, e1, e2⟩ := h1.get f1
      exact ⟨v, e1, e2, .inr (.inl ⟨ds, vs, rfl, h1, h2⟩)⟩
  · have f := fix_next e
    refine ⟨vs, SqL.of h3, ?_⟩
    cases r with
    | none => show vs.length ≤ i; rw [← h1.length]; exact f
    | some x =>
      obtain ⟨d, src'⟩ := x
      obtain ⟨f1, rfl⟩ := f
      obtain ⟨v, e1, e2⟩ := h1.get f1
      exact ⟨v, e1, e2, .inr (.inr ⟨ds, vs, rfl, h1, h2, h3⟩)⟩
theorem SrcT.next {a : Addr} {i : Nat} {src : Src} {m : Sim} {S : Store} {r : Option (D × Src)} (h : SrcT p a i src m) (e : src.next S = some r) :
    ∃ vs, SqT p.K m.H a vs ∧ NextAt p (SrcT p a (i + 1)) m vs i r := by
  obtain ⟨ds, vs, rfl, h1, h2⟩ := h
  have f := fix_next e
  refine ⟨vs, h2, ?_⟩
  cases r with
  | none => show vs.length ≤ i; rw [← h1.length]; exact f
  | some x =>
    obtain ⟨d, src'⟩ := x
    obtain ⟨f1, rfl⟩ := f
    obtain ⟨v, e1, e2⟩ := h1.get f1
    exact ⟨v, e1, e2, ⟨ds, vs, rfl, h1, h2⟩⟩
theorem same_walk {m : Sim} {S : Store} (k : SOk p m S) {Q : Sim → Prop} (h : Q m) : ∃ m', m'.H = m.H ∧ Ext m S m' S ∧ SOk p m' S ∧ Q m' ∧ m'.nx = m.nx ∧ m'.μ = m.μ := ⟨m, rfl, Ext.refl, k, h, rfl, rfl⟩
theorem wk_list (own : List Addr) (a : Addr) : WalkOk p (Itl p.K a) own (SrcL p own a) where
  keep := fun i src m m' h u hk => h.keep u hk
  stop := fun i src m S k h e => by
    obtain ⟨vs, h1, h2⟩ := h.next k e
    exact ⟨vs, h1, h2⟩
  go := fun i src m S d src' k h ho e => by
    obtain ⟨vs, h1, v, h2, h3, h4⟩ := h.next k e
    refine ⟨⟨vs, v, h1, h2⟩, fun x H' ⟨eH, hx⟩ => ?_⟩
    have : vs[i]? = some x := hx vs h1
    rw [h2] at this
    cases this
    exact ⟨m, eH.symm, Ext.refl, k, h3, h4, rfl, rfl⟩
theorem wk_tup (a : Addr) : WalkOk p (Itt p.K a) [] (SrcT p a) where
  keep := fun i src m m' h u hk => h.keep u
  stop := fun i src m S k h e => by
    obtain ⟨vs, h1, h2⟩ := h.next e
    exact ⟨vs, h1, h2⟩
  go := fun i src m S d src' k h ho e => by
    obtain ⟨vs, h1, v, h2, h3, h4⟩ := h.next e
    refine ⟨⟨vs, v, h1, h2⟩, fun x H' ⟨eH, hx⟩ => ?_⟩
    have : vs[i]? = some x := hx vs h1
    rw [h2] at this
    cases this
    exact ⟨m, eH.symm, Ext.refl, k, h3, h4, rfl, rfl⟩
def SrcR (lo : Int) (n : Nat) (i : Nat) (src : Src) (_ : Sim) : Prop := ∃ k, src = .rng (lo + i) k ∧ i + k = n
theorem wk_rng (lo : Int) (n : Nat) : WalkOk p (Itr lo n) [] (SrcR lo n) where
  keep := fun i src m m' h u hk => h
  stop := fun i src m S k ⟨c, e1, e2⟩ e => by
    subst e1
    cases c with
    | zero => show n ≤ i; omega
    | succ c => cases e
  go := fun i src m S d src' k ⟨c, e1, e2⟩ ho e => by
    subst e1
    cases c with
    | zero => cases e
    | succ c =>
      cases e
      refine ⟨by show i < n; omega, fun x H' ⟨eH, hx⟩ => ⟨m, eH.symm, Ext.refl, k, hx, ⟨c, ?_, by omega⟩, rfl, rfl⟩⟩
      have : lo + (i : Int) + 1 = lo + ((i + 1 : Nat) : Int) := by omega
      rw [this]
theorem pair_walk {m : Sim} {S : Store} {T : Addr} {d1 d2 : D} {v1 v2 : V} (k : SOk p m S) (hT : m.H T = none) (h1 : Rel p m d1 v1) (h2 : Rel p m d2 v2) {Q : Sim → Prop} {H' : Hp} (eH : H' = upd m.H T (.tup [v1, v2])) (hq : Up m (m.put T (.tup [v1, v2])) → Q (m.put T (.tup [v1, v2]))) :
    ∃ m', m'.H = H' ∧ Ext m S m' S ∧ SOk p m' S ∧ Rel p m' (.tup [d1, d2]) (.ref T) ∧ Q m' ∧ m'.nx = m.nx ∧ m'.μ = m.μ := by
  have e := Ext.put (S := S) (o := .tup [v1, v2]) hT
  exact ⟨m.put T (.tup [v1, v2]), eH.symm, e, k.put hT, ⟨T, [v1, v2], rfl, SqT.of put_at, RelL.cons (h1.mono e.toUp) (RelL.cons (h2.mono e.toUp) RelL.nil)⟩, hq e.toUp, rfl, rfl⟩
theorem own_put {m : Sim} {T : Addr} {o : HO} {own : List Addr} (hT : m.H T = none) (ho : ∀ a, a ∈ own → ∃ o, m.H a = some o) : ∀ a, a ∈ own → (m.put T o).H a = m.H a := fun a ha => by
  obtain ⟨u, hu⟩ := ho a ha
  rw [put_old hT hu, hu]
theorem wk_enumL (own : List Addr) (a : Addr) : WalkOk p (Ite p.K a) own (fun i src m => ∃ s, src = .enum i s ∧ SrcL p own a i s m) where
  keep := fun i src m m' ⟨s, e, h⟩ u hk => ⟨s, e, h.keep u hk⟩
  stop := fun i src m S k ⟨s, e1, h⟩ e => by
    subst e1
    rw [Src.next] at e
    cases q : s.next S with
    | none => rw [q] at e; cases e
    | some r =>
      rw [q] at e
      cases r with
      | none =>
        obtain ⟨vs, h1, h2⟩ := h.next k q
        exact ⟨vs, h1, h2⟩
      | some x => cases e
  go := fun i src m S d src' k ⟨s, e1, h⟩ ho e => by
    subst e1
    rw [Src.next] at e
    cases q : s.next S with
    | none => rw [q] at e; cases e
    | some r =>
      rw [q] at e
      cases r with
      | none => cases e
      | some x =>
        obtain ⟨d1, s1⟩ := x
        cases e
        obtain ⟨vs, h1, v, h2, h3, h4⟩ := h.next k q
        refine ⟨⟨vs, v, h1, h2⟩, fun x H' ⟨T, y, ex, hT, eH, hy⟩ => ?_⟩
        have : vs[i]? = some y := hy vs h1
        rw [h2] at this
        cases this
        subst ex
        exact pair_walk (Q := fun m' => ∃ s, Src.enum (i + 1) s1 = .enum (i + 1) s ∧ SrcL p own a (i + 1) s m') k hT (show Rel p m (.int i) (.int i) from rfl) h3 eH fun u => ⟨s1, rfl, h4.keep u (own_put hT ho)⟩
theorem wk_enumT (a : Addr) : WalkOk p (IteT p.K a) [] (fun i src m => ∃ s, src = .enum i s ∧ SrcT p a i s m) where
  keep := fun i src m m' ⟨s, e, h⟩ u hk => ⟨s, e, h.keep u⟩
  stop := fun i src m S k ⟨s, e1, h⟩ e => by
    subst e1
    rw [Src.next] at e
    cases q : s.next S with
    | none => rw [q] at e; cases e
    | some r =>
      rw [q] at e
      cases r with
      | none =>
        obtain ⟨vs, h1, h2⟩ := h.next q
        exact ⟨vs, h1, h2⟩
      | some x => cases e
  go := fun i src m S d src' k ⟨s, e1, h⟩ ho e => by
    subst e1
    rw [Src.next] at e
    cases q : s.next S with
    | none => rw [q] at e; cases e
    | some r =>
      rw [q] at e
      cases r with
      | none => cases e
      | some x =>
        obtain ⟨d1, s1⟩ := x
        cases e
        obtain ⟨vs, h1, v, h2, h3, h4⟩ := h.next q
        refine ⟨⟨vs, v, h1, h2⟩, fun x H' ⟨T, y, ex, hT, eH, hy⟩ => ?_⟩
        have : vs[i]? = some y := hy vs h1
        rw [h2] at this
        cases this
        subst ex
        exact pair_walk (Q := fun m' => ∃ s, Src.enum (i + 1) s1 = .enum (i + 1) s ∧ SrcT p a (i + 1) s m') k hT (show Rel p m (.int i) (.int i) from rfl) h3 eH fun u => ⟨s1, rfl, h4.keep u⟩
def ZipNext (r1 r2 : Option (D × Src)) : Option (D × Src) → Prop
  | none => r1 = none ∨ r2 = none
  | some (d, src') => ∃ d1 s1 d2 s2, r1 = some (d1, s1) ∧ r2 = some (d2, s2) ∧ d = .tup [d1, d2] ∧ src' = .zip s1 s2
theorem zip_next {S : Store} {s t : Src} {r : Option (D × Src)} (e : (Src.zip s t).next S = some r) : ∃ r1 r2, s.next S = some r1 ∧ t.next S = some r2 ∧ ZipNext r1 r2 r := by
  rw [Src.next] at e
  cases q : s.next S with
  | none => rw [q] at e; cases e
  | some r1 =>
    rw [q] at e
    cases q2 : t.next S with
    | none =>
      rw [q2] at e
      cases r1 with
      | none => cases e
      | some x => cases e
    | some r2 =>
      rw [q2] at e
      cases r1 with
      | none => cases e; exact ⟨_, _, rfl, rfl, .inl rfl⟩
      | some x =>
        cases r2 with
        | none => cases e; exact ⟨_, _, rfl, rfl, .inr rfl⟩
        | some y => cases e; exact ⟨_, _, rfl, rfl, x.1, x.2, y.1, y.2, rfl, rfl, rfl, rfl⟩
theorem wk_zipL (own : List Addr) (a b : Addr) : WalkOk p (Itz p.K a b) own (fun i src m => ∃ s t, src = .zip s t ∧ SrcL p own a i s m ∧ SrcL p own b i t m) where
  keep := fun i src m m' ⟨s, t, e, h, g⟩ u hk => ⟨s, t, e, h.keep u hk, g.keep u hk⟩
  stop := fun i src m S k ⟨s, t, e1, h, g⟩ e => by
    subst e1
    obtain ⟨r1, r2, q1, q2, q⟩ := zip_next e
    obtain ⟨vs, h1, h2⟩ := h.next k q1
    obtain ⟨us, g1, g2⟩ := g.next k q2
    refine ⟨vs, us, h1, g1, ?_⟩
    rcases q with rfl | rfl
    · exact .inl h2
    · exact .inr g2
  go := fun i src m S d src' k ⟨s, t, e1, h, g⟩ ho e => by
    subst e1
    obtain ⟨r1, r2, q1, q2, d1, s1, d2, s2, rfl, rfl, rfl, rfl⟩ := zip_next e
    obtain ⟨vs, h1, v, h2, h3, h4⟩ := h.next k q1
    obtain ⟨us, g1, u, g2, g3, g4⟩ := g.next k q2
    refine ⟨⟨vs, us, v, u, h1, g1, h2, g2⟩, fun x H' ⟨T, y, z, ex, hT, eH, hy, hz⟩ => ?_⟩
    have : vs[i]? = some y := hy vs h1
    rw [h2] at this
    cases this
    have : us[i]? = some z := hz us g1
    rw [g2] at this
    cases this
    subst ex
    exact pair_walk (Q := fun m' => ∃ s t, Src.zip s1 s2 = .zip s t ∧ SrcL p own a (i + 1) s m' ∧ SrcL p own b (i + 1) t m') k hT h3 g3 eH fun u => ⟨s1, s2, rfl, h4.keep u (own_put hT ho), g4.keep u (own_put hT ho)⟩
theorem wk_zipT (a b : Addr) : WalkOk p (RZ.ItzT p.K a b) [] (fun i src m => ∃ s t, src = .zip s t ∧ SrcT p a i s m ∧ SrcT p b i t m) where
  keep := fun i src m m' ⟨s, t, e, h, g⟩ u hk => ⟨s, t, e, h.keep u, g.keep u⟩
  stop := fun i src m S k ⟨s, t, e1, h, g⟩ e => by
    subst e1
    obtain ⟨r1, r2, q1, q2, q⟩ := zip_next e
    obtain ⟨vs, h1, h2⟩ := h.next q1
    obtain ⟨us, g1, g2⟩ := g.next q2
    refine ⟨vs, us, h1, g1, ?_⟩
    rcases q with rfl | rfl
    · exact .inl h2
    · exact .inr g2
  go := fun i src m S d src' k ⟨s, t, e1, h, g⟩ ho e => by
    subst e1
    obtain ⟨r1, r2, q1, q2, d1, s1, d2, s2, rfl, rfl, rfl, rfl⟩ := zip_next e
    obtain ⟨vs, h1, v, h2, h3, h4⟩ := h.next q1
    obtain ⟨us, g1, u, g2, g3, g4⟩ := g.next q2
    refine ⟨⟨vs, us, v, u, h1, g1, h2, g2⟩, fun x H' ⟨T, y, z, ex, hT, eH, hy, hz⟩ => ?_⟩
    have : vs[i]? = some y := hy vs h1
    rw [h2] at this
    cases this
    have : us[i]? = some z := hz us g1
    rw [g2] at this
    cases this
    subst ex
    exact pair_walk (Q := fun m' => ∃ s t, Src.zip s1 s2 = .zip s t ∧ SrcT p a (i + 1) s m' ∧ SrcT p b (i + 1) t m') k hT h3 g3 eH fun u => ⟨s1, s2, rfl, h4.keep u, g4.keep u⟩
end
def qI (p : Par) (m0 : Sim) (R : It → Hp → Prop) : Src → Sim → Store → Prop := fun src m S => ∀ J own Rw, WalkOk p J own Rw → (∀ a, a ∈ own → OwnOk m0 m a) → Rw 0 src m → R J m.H
def tI (p : Par) (W : WX) (it : IF) : TI := fun σ H R => ∃ m S env, m.H = H ∧ SOk p m S ∧ EnvR p m env σ ∧ GR p (wx p W σ) (qI p m R) (it env S) m S
theorem PI.conv {X : Cx} {tg e : Expr} {t t' : TI} (h : PI X tg e t) (c : ∀ σ H R, t' σ H R → t σ H R) : PI X tg e t' := ⟨fun pins s σ H R I q => h.run pins s σ H R I (c σ H R q)⟩
section
variable {p : Par} {X : Cx} {W : WX} {pos : Pos}
theorem pi_both {tg l : Expr} {tl : TE} (hl : PE X l tl) : PI X tg l (fun σ H R => tl σ H fun x H1 => ∃ a, x = .ref a ∧ ((∃ xs, SqL X.K H1 a xs) ∧ R (Itl X.K a) H1 ∨ (∃ xs, SqT X.K H1 a xs) ∧ R (Itt X.K a) H1)) := by
  refine ⟨fun pins s σ H R I h => ?_⟩
  refine thn (hl.run pins s σ H _ I h) fun v s1 ⟨x, H1, I1, r1, q1⟩ => ?_
  obtain ⟨a, ex, q1⟩ := q1
  subst ex
  cases r1
  have hv : PE X (.Constant .none 0 ⟨0, 0, 0, 0⟩) (fun _ _ _ => False) := ⟨fun _ _ _ _ _ _ z => z.elim⟩
  rcases q1 with ⟨⟨xs, hq⟩, q⟩ | ⟨⟨xs, hq⟩, q⟩
  · obtain ⟨its, rv, p', hz⟩ := I1.list hq
    refine wpAny_pyIter_list p'.isList ?_
    have I2 : Inv X pins σ H1 { s1 with heap := s1.heap.push { cls := .type "list_iterator", data := .fields #[.ref a, .int 0 0] } } := I1.kept (t' := s1.toks) fun b o e => Heap.get?_push_of_some _ e
    refine ⟨s1.heap.objs.size, [s1.heap.objs.size], _, _, H1, rfl, I2, turn_list a s1.heap.objs.size, ⟨_, Heap.get?_push_size _ rfl, rfl, rfl⟩, fun b hb => ?_, q⟩
    have e : b = s1.heap.objs.size := by simpa using hb
    subst e
    exact I1.fpOk (Nat.le_refl _) (I1.hok.fresh (Nat.le_refl _))
  · obtain ⟨its, rv, p', hz⟩ := I1.tuple hq
    refine wpAny_pyIter_tuple (show s1.heap.IsTuple a its.toArray from p') ?_
    have I2 : Inv X pins σ H1 { s1 with heap := s1.heap.push { cls := .type "tuple_iterator", data := .fields #[.ref a, .int 0 0] } } := I1.kept (t' := s1.toks) fun b o e => Heap.get?_push_of_some _ e
    refine ⟨s1.heap.objs.size, [s1.heap.objs.size], _, _, H1, rfl, I2, turn_tuple a s1.heap.objs.size, ⟨_, Heap.get?_push_size _ rfl, rfl, rfl⟩, fun b hb => ?_, q⟩
    have e : b = s1.heap.objs.size := by simpa using hb
    subst e
    exact I1.fpOk (Nat.le_refl _) (I1.hok.fresh (Nat.le_refl _))
theorem no_own {m0 m : Sim} : ∀ a, a ∈ ([] : List Addr) → OwnOk m0 m a := fun a h => by cases h
theorem src_val {m : Sim} {S : Store} {d : D} {x : V} {s : Src} (k : SOk p m S) (hx : Rel p m d x) (e : srcOf S d = some s) :
    (isTupD d = false ∧ ∃ a, x = .ref a ∧ (∃ xs, SqL p.K m.H a xs) ∧ SrcL p [] a 0 s m) ∨ (isTupD d = true ∧ ∃ a, x = .ref a ∧ (∃ xs, SqT p.K m.H a xs) ∧ SrcT p a 0 s m) := by
  cases d with
  | tup ds =>
    obtain ⟨a, vs, rfl, h1, h2⟩ := (show ∃ a vs, x = .ref a ∧ SqT p.K m.H a vs ∧ RelL p m ds vs from hx)
    cases e
    exact .inr ⟨rfl, a, rfl, ⟨vs, h1⟩, ds, vs, rfl, h2, h1⟩
  | rol ds =>
    obtain ⟨a, vs, rfl, h1, h2⟩ := (show ∃ a vs, x = .ref a ∧ SqR p.K m.H a vs ∧ RelL p m ds vs from hx)
    cases e
    exact .inl ⟨rfl, a, rfl, ⟨vs, h1.sq⟩, .inr (.inl ⟨ds, vs, rfl, h2, h1⟩)⟩
  | ref n =>
    obtain ⟨hn, rfl⟩ := k.ref hx
    unfold srcOf at e
    dsimp only at e
    cases q : S.objs[n]? with
    | none => rw [q] at e; cases e
    | some o =>
      rw [q] at e
      cases o with
      | lst xs =>
        cases e
        obtain ⟨vs, h1, h2⟩ := k.obj n _ q
        exact .inl ⟨rfl, _, rfl, ⟨vs, SqL.of h1⟩, .inl ⟨n, rfl, hn, rfl⟩⟩
      | ins _ _ => cases e
      | dct _ => cases e
  | _ => cases e
theorem si_val (hK : X.K = p.K) {tg e : Expr} {f : EF} (h : PE X e (tE p W f)) : PI X tg e (tI p W (valI f)) :=
  PI.conv (pi_both h) fun σ H R ⟨m, S, env, hH, k, er, g⟩ => by
    subst hH
    refine ⟨m, S, env, rfl, k, er, g.bindE fun d m1 S1 e1 k1 g1 x hx => ?_⟩
    cases q : srcOf S1 d with
    | none => rw [q] at g1; exact g1.elim
    | some s =>
      rw [q] at g1
      have g2 := g1.ok k1
      rw [hK]
      rcases src_val k1 hx q with ⟨_, a, rfl, h1, h2⟩ | ⟨_, a, rfl, h1, h2⟩
      · exact ⟨a, rfl, .inl ⟨h1, g2 _ [] _ (wk_list [] a) no_own h2⟩⟩
      · exact ⟨a, rfl, .inr ⟨h1, g2 _ [] _ (wk_tup a) no_own h2⟩⟩
theorem si_lst (hK : X.K = p.K) {tg e : Expr} {l : LF} (h : PE X e (tL p W l)) : PI X tg e (tI p W (lstI l)) :=
  PI.conv (pi_list h) fun σ H R ⟨m, S, env, hH, k, er, g⟩ => by
    subst hH
    refine ⟨m, S, env, rfl, k, er, g.bindE fun ds m1 S1 e1 k1 g1 a vs hfree hat hne hvs => ?_⟩
    have g2 := g1.ok k1
    rw [hK]
    exact ⟨a, rfl, ⟨vs, SqL.of hat⟩, g2 _ [a] _ (wk_list [a] a) (fun b hb => by
      rw [List.mem_singleton.mp hb]; exact ⟨hfree, ⟨vs, hat⟩, hne⟩) (.inr (.inr ⟨ds, vs, rfl, hvs, List.mem_singleton.mpr rfl, hat⟩))⟩
theorem si_rng1 {tg a : Expr} {fa : EF} {pp : Pos} (hg : Gl X "range") (hm : X.mg "range" = none) (ha : PE X a (tE p W fa)) (hp : plainX a = true) : PI X tg (.Call (.Name "range" pp) [a] [] pos) (tI p W (rngI1 fa)) :=
  PI.conv (pi_range1 hg hm (pa_cons ha pa_nil (star_cons [] X.env hp)) (star_cons [] X.env hp)) fun σ H R ⟨m, S, env, hH, k, er, g⟩ => by
    subst hH
    refine ⟨m, S, env, rfl, k, er, g.bindE fun d m1 S1 e1 k1 g1 x hx => ?_⟩
    cases d with
    | int j =>
      dsimp only at g1
      split at g1
      · rename_i hc
        simp only [Bool.and_eq_true, decide_eq_true_eq] at hc
        cases (show x = .int j from hx)
        exact ⟨j, rfl, hc.1, hc.2, g1.ok k1 _ [] _ (wk_rng 0 j.toNat) no_own ⟨j.toNat, by simp, by omega⟩⟩
      · exact g1.elim
    | _ => exact g1.elim
theorem si_rng2 {tg a b : Expr} {fa fb : EF} {pp : Pos} (hg : Gl X "range") (hm : X.mg "range" = none) (ha : PE X a (tE p W fa)) (hb : PE X b (tE p W fb)) (hp : plainX a = true) (hp' : plainX b = true) : PI X tg (.Call (.Name "range" pp) [a, b] [] pos) (tI p W (rngI2 fa fb)) :=
  PI.conv (pi_range2 hg hm (pa_cons ha (pa_cons hb pa_nil (star_cons [] X.env hp')) (star_cons [b] X.env hp)) (by rw [star_cons [b] X.env hp, star_cons [] X.env hp']; rfl) (by rw [star_cons [] X.env hp']; rfl)) fun σ H R ⟨m, S, env, hH, k, er, g⟩ => by
    subst hH
    refine ⟨m, S, env, rfl, k, er, g.bindE fun d m1 S1 e1 k1 g1 x hx => ?_⟩
    refine ⟨m1, S1, env, rfl, k1, er.mono e1.toUp, g1.bindE fun d2 m2 S2 e2 k2 g2 y hy => ?_⟩
    cases d with
    | int i =>
      cases d2 with
      | int j =>
        dsimp only at g2
        split at g2
        · rename_i hc
          simp only [Bool.and_eq_true, decide_eq_true_eq] at hc
          cases (show x = .int i from hx)
          cases (show y = .int j from hy)
          exact ⟨i, j, rfl, ⟨hc.1.1.1, hc.1.1.2, hc.1.2, hc.2⟩, g2.ok k2 _ [] _ (wk_rng i (j - i).toNat) no_own ⟨(j - i).toNat, by simp, by omega⟩⟩
        · exact g2.elim
      | _ => exact g2.elim
    | _ => exact g2.elim
theorem si_zip (hK : X.K = p.K) {a b : Expr} {fa fb : EF} {pp tpos : Pos} {elts : List Expr} {kk : Nat} (hg : Gl X "zip") (hm : X.mg "zip" = none) (ha : PE X a (tE p W fa)) (hb : PE X b (tE p W fb)) (hp : plainX a = true) (hp' : plainX b = true) :
    PI X (.Tuple elts kk tpos) (.Call (.Name "zip" pp) [a, b] [] pos) (tI p W (zipI fa fb)) :=
  PI.conv (RZ.pi_zipA hg hm (pa_cons ha (pa_cons hb pa_nil (star_cons [] X.env hp')) (star_cons [b] X.env hp)) (by rw [star_cons [b] X.env hp]) (by rw [star_cons [] X.env hp']; rfl)) fun σ H R ⟨m, S, env, hH, k, er, g⟩ => by
    subst hH
    refine ⟨m, S, env, rfl, k, er, g.bindE fun d m1 S1 e1 k1 g1 x hx => ?_⟩
    refine ⟨m1, S1, env, rfl, k1, er.mono e1.toUp, g1.bindE fun d2 m2 S2 e2 k2 g2 y hy => ?_⟩
    cases q1 : srcOf S2 d with
    | none => rw [q1] at g2; exact g2.elim
    | some s =>
      cases q2 : srcOf S2 d2 with
      | none => rw [q1, q2] at g2; exact g2.elim
      | some t =>
        rw [q1, q2] at g2
        dsimp only at g2
        split at g2
        · rename_i hc
          have hc := eq_of_beq hc
          rw [hK]
          rcases src_val k2 (hx.mono e2.toUp) q1 with ⟨z1, a, rfl, ⟨xs, h1⟩, h2⟩ | ⟨z1, a, rfl, ⟨xs, h1⟩, h2⟩
          · rcases src_val k2 hy q2 with ⟨z2, b, rfl, ⟨ys, l1⟩, l2⟩ | ⟨z2, b, rfl, ⟨ys, l1⟩, l2⟩
            · exact ⟨a, b, xs, ys, rfl, .inl ⟨h1, l1, g2.ok k2 _ [] _ (wk_zipL [] a b) no_own ⟨s, t, rfl, h2, l2⟩⟩⟩
            · rw [z1, z2] at hc; cases hc
          · rcases src_val k2 hy q2 with ⟨z2, b, rfl, ⟨ys, l1⟩, l2⟩ | ⟨z2, b, rfl, ⟨ys, l1⟩, l2⟩
            · rw [z1, z2] at hc; cases hc
            · exact ⟨a, b, xs, ys, rfl, .inr ⟨h1, l1, g2.ok k2 _ [] _ (wk_zipT a b) no_own ⟨s, t, rfl, h2, l2⟩⟩⟩
        · exact g2.elim
theorem PI.or {tg e : Expr} {t t' : TI} (h : PI X tg e t) (h' : PI X tg e t') : PI X tg e (fun σ H R => t σ H R ∨ t' σ H R) := ⟨fun pins s σ H R I q => q.elim (h.run pins s σ H R I) (h'.run pins s σ H R I)⟩
end
end Ev
set_option Elab.async false
set_option linter.all false
set_option maxRecDepth 100000
set_option maxHeartbeats 4000000
namespace Ev
open PySem PySem.Spec PyProof.Rows L2
section
variable {p : Par} {X : Cx} {W : WX} {pos : Pos}
theorem si_enum (hK : X.K = p.K) {a : Expr} {fa : EF} {pp tpos : Pos} {elts : List Expr} {kk : Nat} (hg : Gl X "enumerate") (hm : X.mg "enumerate" = none) (ha : PE X a (tE p W fa)) (hp : plainX a = true) :
    PI X (.Tuple elts kk tpos) (.Call (.Name "enumerate" pp) [a] [] pos) (tI p W (enumI fa)) :=
  PI.conv (PI.or (pi_enum hg hm (pa_cons ha pa_nil (star_cons [] X.env hp)) (star_cons [] X.env hp)) (pi_enumT hg hm (pa_cons ha pa_nil (star_cons [] X.env hp)) (star_cons [] X.env hp))) fun σ H R ⟨m, S, env, hH, k, er, g⟩ => by
    subst hH
    unfold enumI at g
    cases q : fa env S with
    | ok d S1 =>
      rw [q] at g
      have g : GR p (wx p W σ) (qI p m R) (match srcOf S1 d with | some s => .ok (.enum 0 s) S1 | none => .stuck) m S := g
      cases q1 : srcOf S1 d with
      | none => rw [q1] at g; exact g.elim
      | some s =>
        rw [q1] at g
        cases b : isTupD d with
        | false =>
          refine .inl ⟨m, S, env, rfl, k, er, ?_⟩
          rw [q]
          intro m1 e1 k1 x hx
          rw [hK]
          rcases src_val k1 hx q1 with ⟨z1, a, rfl, ⟨xs, h1⟩, h2⟩ | ⟨z1, _⟩
          · exact ⟨a, xs, rfl, h1, g m1 e1 k1 _ [] _ (wk_enumL [] a) no_own ⟨s, rfl, h2⟩⟩
          · rw [b] at z1; cases z1
        | true =>
          refine .inr ⟨m, S, env, rfl, k, er, ?_⟩
          rw [q]
          intro m1 e1 k1 x hx
          rw [hK]
          rcases src_val k1 hx q1 with ⟨z1, _⟩ | ⟨z1, a, rfl, ⟨xs, h1⟩, h2⟩
          · rw [b] at z1; cases z1
          · exact ⟨a, xs, rfl, h1, g m1 e1 k1 _ [] _ (wk_enumT a) no_own ⟨s, rfl, h2⟩⟩
    | exc x S1 => rw [q] at g; exact .inl ⟨m, S, env, rfl, k, er, by rw [q]; exact g⟩
    | stuck => rw [q] at g; exact g.elim
theorem Up.poke {m : Sim} {a : Addr} {o : HO} {xs : List V} (h : m.H a = some (.lst xs)) : Up m (m.put a o) where
  le := Nat.le_refl _
  same := fun _ _ => rfl
  tups := fun b ys hb => by
    have : b ≠ a := fun z => by rw [z, h] at hb; cases hb
    show upd m.H a o b = _
    rw [upd_ne this]; exact hb
  frzs := fun b u w hb => by
    have : b ≠ a := fun z => by rw [z, h] at hb; cases hb
    show upd m.H a o b = _
    rw [upd_ne this]; exact hb
theorem SOk.poke {m : Sim} {S : Store} {a : Addr} {o : HO} {xs : List V} (k : SOk p m S) (h : m.H a = some (.lst xs)) (hn : ∀ n, n < m.nx → a ≠ m.μ n) : SOk p (m.put a o) S where
  len := k.len
  obj := fun n u hu => (k.obj n u hu).mono (Up.poke h) fun w hw => by
    have hl := k.get_lt hu
    show upd m.H a o (m.μ n) = _
    rw [upd_ne (fun z => hn n hl z.symm)]; exact hw
  inj := k.inj
theorem Ext.poke {m0 m : Sim} {S0 S : Store} {a : Addr} {o : HO} {xs : List V} (e : Ext m0 S0 m S) (h0 : m0.H a = none) (h : m.H a = some (.lst xs)) : Ext m0 S0 (m.put a o) S where
  toUp := e.toUp.trans (Up.poke h)
  frame := fun b u hb t n => by
    obtain ⟨h1, h2⟩ := e.frame b u hb t n
    refine ⟨?_, h2⟩
    show upd m.H a o b = _
    rw [upd_ne (ne_of_none hb h0)]; exact h1
  trk := fun b u hb => by
    obtain ⟨o', h'⟩ := e.trk b u hb
    refine ⟨o', ?_⟩
    show upd m.H a o b = _
    rw [upd_ne (ne_of_none hb h0)]; exact h'
  dirt := e.dirt
  keep := e.keep
theorem wipeE_get (env : Env) : ∀ (vs : List Nat) (i : Nat), (wipeE env vs)[i]? = if i ∈ vs then (env[i]?).map (fun _ => none) else env[i]?
  | [], i => by simp [wipeE]
  | v :: vs, i => by
    have ih := wipeE_get env vs
    rw [wipeE]
    by_cases h : v = i
    · subst h
      rw [List.getElem?_set_self', if_pos List.mem_cons_self, ih]
      split <;> cases env[v]? <;> rfl
    · rw [List.getElem?_set_ne h, ih]
      by_cases h2 : i ∈ vs
      · rw [if_pos h2, if_pos (List.mem_cons_of_mem _ h2)]
      · rw [if_neg h2, if_neg (fun z => (List.mem_cons.mp z).elim (fun z => h z.symm) h2)]
theorem wipe_get (σ : St) : ∀ (vs : List Nat) (i : Nat), (wipe σ vs)[i]? = if i ∈ vs then (σ[i]?).map (fun _ => none) else σ[i]?
  | [], i => by simp [wipe]
  | v :: vs, i => by
    have ih := wipe_get σ vs
    rw [wipe]
    by_cases h : v = i
    · subst h
      rw [List.getElem?_set_self', if_pos List.mem_cons_self, ih]
      split <;> cases σ[v]? <;> rfl
    · rw [List.getElem?_set_ne h, ih]
      by_cases h2 : i ∈ vs
      · rw [if_pos h2, if_pos (List.mem_cons_of_mem _ h2)]
      · rw [if_neg h2, if_neg (fun z => (List.mem_cons.mp z).elim (fun z => h z.symm) h2)]
theorem wipeE_len (env : Env) : ∀ vs : List Nat, (wipeE env vs).length = env.length
  | [] => rfl
  | v :: vs => by rw [wipeE, List.length_set, wipeE_len env vs]
theorem EnvR.wipe {m : Sim} {env : Env} {σ : St} (h : EnvR p m env σ) (vs : List Nat) : EnvR p m (wipeE env vs) (L2.wipe σ vs) := by
  refine ⟨by rw [wipeE_len, wipe_length]; exact h.1, fun i d hd => ?_⟩
  rw [wipeE_get] at hd
  rw [wipe_get]
  by_cases hi : i ∈ vs
  · rw [if_pos hi] at hd
    cases q : env[i]? with
    | none => rw [q] at hd; cases hd
    | some o => rw [q] at hd; cases hd
  · rw [if_neg hi] at hd ⊢
    exact h.2 i d hd
theorem wipe_same {is vs : List Nat} {σ σ3 : St} (h : Same is (L2.wipe σ vs) σ3) (hs : ∀ i, i ∈ is → i ∈ vs) : L2.wipe σ3 vs = L2.wipe σ vs := by
  apply List.ext_getElem?
  intro i
  rw [wipe_get]
  by_cases hi : i ∈ vs
  · rw [if_pos hi, wipe_get, if_pos hi]
    have hl : σ3.length = σ.length := by rw [h.1, wipe_length]
    by_cases hlt : i < σ.length
    · rw [List.getElem?_eq_getElem hlt, List.getElem?_eq_getElem (by rw [hl]; exact hlt)]; rfl
    · rw [List.getElem?_eq_none (by omega), List.getElem?_eq_none (by omega)]
  · rw [if_neg hi]
    exact h.2 i fun z => hi (hs i z)
abbrev noW : WX := fun _ _ _ _ => False
theorem FU_line : FU ≤ sizeLine := by rw [sizeLine_eq]; unfold FU; decide
def LcI (p : Par) (Q : VK) (Wx : Ev.X → Sim → Prop) (m0 m1 : Sim) (S1 : Store) (own : List Addr) (Rw : Nat → Src → Sim → Prop) (L : Addr) (g : GF) (t : TF) (e : EF) (env : Env) (i k : Nat) (H : Hp) : Prop :=
  ∃ (m : Sim) (S : Store) (src : Src) (acc : List D) (vs : List V), m.H = H ∧ SOk p m S ∧ Ext m1 S1 m S ∧ m.H L = some (.lst vs) ∧ (∀ n, n < m.nx → L ≠ m.μ n) ∧ RelL p m acc.reverse vs ∧ acc.length + k ≤ FU ∧ Rw i src m ∧
    (∀ a, a ∈ own → m.H a = m1.H a) ∧ GR p Wx (qL p m0 Q) (lcGo g t e env k src S acc) m1 S1
theorem tLc_of {elt : EF} {g : GF} {t : TF} {it : IF} {is vs : List Nat} {σ : St} {H : Hp} {Q : VK} (his : ∀ i, i ∈ is → i ∈ vs) (h : tL p W (lcL vs it g t elt) σ H Q) :
    tLc (tI p W it) (tG p is g) (tT p noW t) (tE p noW elt) vs σ H Q := by
  obtain ⟨m, S, env, rfl, k, er, gr⟩ := h
  refine ⟨m, S, env, rfl, k, er, gr.bindE fun src m1 S1 e1 k1 g1 J own Rw wk ho r0 L hL => ?_⟩
  have er1 := er.mono e1.toUp
  refine ⟨LcI p Q (wx p W σ) m m1 S1 own Rw L g t elt (wipeE env vs), ⟨FU, ?_⟩, fun i n H hI => ?_⟩
  · have e2 := Ext.put (S := S1) (o := .lst []) hL
    refine ⟨m1.put L (.lst []), S1, src, [], [], rfl, k1.put hL, e2, put_at, fun i hi z => ?_, RelL.nil, Nat.le_of_eq (Nat.zero_add _), wk.keep _ _ _ _ r0 e2.toUp (own_put hL fun a ha => ?_), own_put hL fun a ha => ?_, g1⟩
    · obtain ⟨u, hu⟩ := k1.tracked hi
      rw [show m1.μ i = L from z.symm, hL] at hu; cases hu
    · obtain ⟨_, ⟨xs, hx⟩, _⟩ := ho a ha; exact ⟨_, hx⟩
    · obtain ⟨_, ⟨xs, hx⟩, _⟩ := ho a ha; exact ⟨_, hx⟩
  · obtain ⟨mm, SS, src', acc, ws, rfl, kk, ee, hat, hne, hr, hlen, rw', hown, gg⟩ := hI
    have own1 : ∀ a, a ∈ own → ∃ o, m1.H a = some o := fun a ha => by
      obtain ⟨_, ⟨xs, hx⟩, _⟩ := ho a ha; exact ⟨_, hx⟩
    have ownN : ∀ a, a ∈ own → ∀ n, n < mm.nx → a ≠ mm.μ n := fun a ha => by
      obtain ⟨_, ⟨xs, hx⟩, hn⟩ := ho a ha
      exact (ee.frame a _ hx (fun ps z => by cases z) hn).2
    cases n with
    | zero => exact gg.elim
    | succ n =>
      rw [lcGo] at gg
      cases q : src'.next SS with
      | none => rw [q] at gg; exact gg.elim
      | some r =>
        rw [q] at gg
        cases r with
        | none =>
          refine .inl ⟨wk.stop _ _ _ _ kk rw' q, ?_⟩
          exact gg mm ee kk L ws (e1.free hL) hat hne hr
        | some x =>
          obtain ⟨d, src2⟩ := x
          dsimp only at gg
          obtain ⟨w1, w2⟩ := wk.go _ _ _ _ _ _ kk rw' (fun a ha => by rw [hown a ha]; exact own1 a ha) q
          refine .inr ⟨w1, LcI p Q (wx p W σ) m m1 S1 own Rw L g t elt (wipeE env vs) (i + 1) n, fun H' h' => ⟨n, Nat.lt_succ_self n, h'⟩, fun x H' hy => ?_⟩
          obtain ⟨m2, rfl, e2, k2, hx, r2, nx2, mu2⟩ := w2 x H' hy
          refine ⟨m2, SS, wipeE env vs, d, rfl, k2, ((er1.wipe vs).mono ee.toUp).mono e2.toUp, hx, ?_⟩
          cases q3 : g d (wipeE env vs) SS with
          | exc _ _ => rw [q3] at gg; exact gg.elim
          | stuck => rw [q3] at gg; exact gg.elim
          | ok env1 S3 =>
            rw [q3] at gg
            dsimp only at gg
            intro m3 σ3 e3 k3 er3 same
            refine ⟨wipe_same same his, m3, S3, env1, rfl, k3, er3, ?_⟩
            cases q4 : t env1 S3 with
            | exc _ _ => rw [q4] at gg; exact gg.elim
            | stuck => rw [q4] at gg; exact gg.elim
            | ok b S4 =>
              rw [q4] at gg
              intro m4 e4 k4
              have e24 := e2.trans (e3.trans e4)
              cases b with
              | false =>
                dsimp only at gg
                show LcI p Q (wx p W σ) m m1 S1 own Rw L g t elt (wipeE env vs) (i + 1) n m4.H
                obtain ⟨f1, f2⟩ := e24.frame L _ hat (fun ps z => by cases z) hne
                have ow : ∀ a, a ∈ own → m4.H a = mm.H a := fun a ha => by
                  obtain ⟨o, ho'⟩ := own1 a ha
                  obtain ⟨_, ⟨xs, hx⟩, hn⟩ := ho a ha
                  have : mm.H a = some (.lst xs) := by rw [hown a ha]; exact hx
                  rw [(e24.frame a _ this (fun ps z => by cases z) (ownN a ha)).1, this]
                have ow2 : ∀ a, a ∈ own → m4.H a = m2.H a := fun a ha => by
                  obtain ⟨_, ⟨xs, hx⟩, hn⟩ := ho a ha
                  have h0 : mm.H a = some (.lst xs) := by rw [hown a ha]; exact hx
                  rw [ow a ha, (e2.frame a _ h0 (fun ps z => by cases z) (ownN a ha)).1, h0]
                exact ⟨m4, S4, src2, acc, ws, rfl, k4, ee.trans e24, f1, f2, hr.mono e24.toUp, by omega, wk.keep _ _ _ _ r2 (e3.trans e4).toUp ow2, fun a ha => by rw [ow a ha, hown a ha], gg⟩
              | true =>
                dsimp only at gg
                refine ⟨m4, S4, env1, rfl, k4, er3.mono e4.toUp, ?_⟩
                cases q5 : elt env1 S4 with
                | exc _ _ => rw [q5] at gg; exact gg.elim
                | stuck => rw [q5] at gg; exact gg.elim
                | ok y S5 =>
                  rw [q5] at gg
                  dsimp only at gg
                  intro m5 e5 k5 v hv
                  have e25 := e24.trans e5
                  obtain ⟨f1, f2⟩ := e25.frame L _ hat (fun ps z => by cases z) hne
                  have ow : ∀ a, a ∈ own → m5.H a = mm.H a := fun a ha => by
                    obtain ⟨_, ⟨xs, hx⟩, hn⟩ := ho a ha
                    have : mm.H a = some (.lst xs) := by rw [hown a ha]; exact hx
                    rw [(e25.frame a _ this (fun ps z => by cases z) (ownN a ha)).1, this]
                  have aL : ∀ a, a ∈ own → a ≠ L := fun a ha => by
                    obtain ⟨o, ho'⟩ := own1 a ha
                    exact ne_of_none ho' hL
                  have ow2 : ∀ a, a ∈ own → (m5.put L (.lst (ws ++ [v]))).H a = m2.H a := fun a ha => by
                    obtain ⟨_, ⟨xs, hx⟩, hn⟩ := ho a ha
                    have h0 : mm.H a = some (.lst xs) := by rw [hown a ha]; exact hx
                    show upd m5.H L _ a = _
                    rw [upd_ne (aL a ha), ow a ha, (e2.frame a _ h0 (fun ps z => by cases z) (ownN a ha)).1, h0]
                  have up := Up.poke (o := .lst (ws ++ [v])) f1
                  refine ⟨ws, f1, ?_, m5.put L (.lst (ws ++ [v])), S5, src2, y :: acc, ws ++ [v], rfl, k5.poke f1 f2, (ee.trans e25).poke hL f1, put_at, f2, ?_, by simp only [List.length_cons]; omega, wk.keep _ _ _ _ r2 (((e3.trans e4).trans e5).toUp.trans up) ow2, fun a ha => ?_, gg⟩
                  · have := FU_line
                    have h1 := hr.length
                    rw [List.length_reverse] at h1
                    omega
                  · rw [List.reverse_cons]
                    exact ((hr.mono e25.toUp).mono up).append (RelL.cons (hv.mono up) RelL.nil)
                  · show upd m5.H L _ a = _
                    rw [upd_ne (aL a ha), ow a ha, hown a ha]
section
variable {elt tg iter : Expr} {ifs : List Expr} {scope : Scope} {own : List (Str × Nat)} {it : IF} {g : GF} {t : TF} {fe : EF} {is : List Nat}
theorem sl_lc (hc : X.calm = true) (hN : X.N.Nodup) (hi : PI X tg iter (tI p W it)) (ok : BlkOk X.N X.env.scope scope own) (his : ∀ i, i ∈ is → i ∈ own.map (·.2))
    (hg : ∀ (s : Shared) (H : Hp) (C : Addr) (cl : List (Str × Addr)) (fp : List Addr), PG (X.blk s H scope (compEnvC scope cl C X.env) fp) tg (tG p is g)) (ht : ∀ (s : Shared) (H : Hp) (C : Addr) (cl : List (Str × Addr)) (fp : List Addr), PTs (X.blk s H scope (compEnvC scope cl C X.env) fp) ifs (tT p noW t))
    (he : ∀ (s : Shared) (H : Hp) (C : Addr) (cl : List (Str × Addr)) (fp : List Addr), PE (X.blk s H scope (compEnvC scope cl C X.env) fp) elt (tE p noW fe)) (hs : ∀ x, foldedSetIterable iter X.env x = pure x) :
    PE X (.ListComp elt [⟨tg, iter, ifs, 0⟩] scope pos) (tL p W (lcL (own.map (·.2)) it g t fe)) :=
  PE.conv (pe_lc hc hN hi ok hg ht he hs) fun σ H Q h => tLc_of his h
end
theorem st_yes {ifs : List Expr} {t : TT} (h : PTs X ifs tYes) : PTs X ifs (tT p W yesT) := ⟨fun pins s σ H Q I q => h.run pins s σ H Q I (by
  obtain ⟨m, S, env, rfl, k, er, g⟩ := q
  exact g.ok k)⟩
end
end Ev
set_option Elab.async false
set_option linter.all false
set_option maxRecDepth 100000
set_option maxHeartbeats 4000000
namespace Ev
open PySem PySem.Spec PyProof.Rows L2
def WFree (W : WX) : Prop := ∀ c d σ σ' H, W c d σ H → W c d σ' H
def qS (p : Par) (D : Ends) : Fl → Sim → Store → Prop
  | .nx env, m, _ => ∀ σ, EnvR p m env σ → D.nx σ m.H
  | .rt d, m, _ => ∀ v, Rel p m d v → D.rt v m.H
  | .bk env, m, _ => ∀ σ, EnvR p m env σ → D.bk σ m.H
  | .ct env, m, _ => ∀ σ, EnvR p m env σ → D.ct σ m.H
def tS (p : Par) (W : WX) (f : SF) : TS := fun D σ H => ∃ m S env, m.H = H ∧ SOk p m S ∧ EnvR p m env σ ∧ GR p (wx p W σ) (qS p D) (f env S) m S
theorem PS.conv {X : Cx} {st : Stmt} {t t' : TS} (h : PS X st t) (c : ∀ D σ H, t' D σ H → t D σ H) : PS X st t' := ⟨fun pins s σ H D I q => h.run pins s σ H D I (c D σ H q)⟩
theorem PSs.conv {X : Cx} {st : List Stmt} {t t' : TS} (h : PSs X st t) (c : ∀ D σ H, t' D σ H → t D σ H) : PSs X st t' := ⟨fun pins s σ H D I q => h.run pins s σ H D I (c D σ H q)⟩
section
variable {p : Par} {X : Cx} {W : WX} {pos : Pos}
theorem GR.wx {α : Type} {P : α → Sim → Store → Prop} {r : Rs α} {m : Sim} {S : Store} {σ σ' : St} (hW : WFree W) (h : GR p (wx p W σ) P r m S) : GR p (Ev.wx p W σ') P r m S := by
  cases r with
  | ok a S' => exact h
  | exc x S' => exact fun m' e k dd hx => hW _ _ _ _ _ (h m' e k dd hx)
  | stuck => exact h
theorem ss_nev {st : Stmt} : PS X st (tS p W nevS) := PS.conv ps_never fun D σ H ⟨m, S, env, hH, k, er, g⟩ => g
theorem sss_nev {st : List Stmt} : PSs X st (tS p W nevS) := PSs.conv pss_never fun D σ H ⟨m, S, env, hH, k, er, g⟩ => g
theorem se_nev {e : Expr} : PE X e (tE p W nevE) := ⟨fun pins s σ H Q I ⟨m, S, env, hH, k, er, g⟩ => g.elim⟩
theorem sss_nil : PSs X [] (tS p W skipS) := PSs.conv pss_nil fun D σ H ⟨m, S, env, hH, k, er, g⟩ => by
  subst hH
  exact g.ok k σ er
theorem ss_pass : PS X (.Pass pos) (tS p W skipS) := PS.conv ps_pass fun D σ H ⟨m, S, env, hH, k, er, g⟩ => by
  subst hH
  exact g.ok k σ er
theorem sss_one {st : Stmt} {f : SF} (h : PS X st (tS p W f)) : PSs X [st] (tS p W f) := pss_one h
theorem sss_cons (hW : WFree W) {st : Stmt} {rest : List Stmt} {f g : SF} (h1 : PS X st (tS p W f)) (h2 : PSs X rest (tS p W g)) : PSs X (st :: rest) (tS p W (seqS f g)) :=
  PSs.conv (pss_cons h1 h2) fun D σ H ⟨m, S, env, hH, k, er, gr⟩ => by
    subst hH
    refine ⟨m, S, env, rfl, k, er, gr.bindE fun fl m1 S1 e1 k1 g1 => ?_⟩
    cases fl with
    | nx env1 => exact fun σ1 er1 => ⟨m1, S1, env1, rfl, k1, er1, g1.wx hW⟩
    | rt d => exact g1.ok k1
    | bk env1 => exact g1.ok k1
    | ct env1 => exact g1.ok k1
theorem ss_brk : PS X (.Break pos) (tS p W brkS) := PS.conv ps_break fun D σ H ⟨m, S, env, hH, k, er, g⟩ => by
  subst hH
  exact g.ok k σ er
theorem ss_ct : PS X (.Continue pos) (tS p W ctS) := PS.conv ps_continue fun D σ H ⟨m, S, env, hH, k, er, g⟩ => by
  subst hH
  exact g.ok k σ er
theorem ss_expr {e : Expr} {f : EF} (he : PE X e (tE p W f)) (hs : swapsWith e none pos.line X.env = pure false) : PS X (.Expr e pos) (tS p W (exprS f)) :=
  PS.conv (ps_expr he hs) fun D σ H ⟨m, S, env, hH, k, er, g⟩ => by
    subst hH
    refine ⟨m, S, env, rfl, k, er, g.bindE fun d m1 S1 e1 k1 g1 v hv => ?_⟩
    exact g1.ok k1 σ (er.mono e1.toUp)
theorem ss_ret {e : Expr} {f : EF} (he : PE X e (tE p W f)) : PS X (.Return (some e) pos) (tS p W (retS f)) :=
  PS.conv (ps_ret he) fun D σ H ⟨m, S, env, hH, k, er, g⟩ => by
    subst hH
    refine ⟨m, S, env, rfl, k, er, g.bindE fun d m1 S1 e1 k1 g1 v hv => ?_⟩
    exact g1.ok k1 v hv
theorem ss_retN : PS X (.Return none pos) (tS p W retN) :=
  PS.conv ps_retN fun D σ H ⟨m, S, env, hH, k, er, g⟩ => by
    subst hH
    exact g.ok k .non rfl
theorem ss_if {c : Expr} {a b : List Stmt} {t : TF} {f g : SF} (hc : PT X c (tT p W t)) (ha : PSs X a (tS p W f)) (hb : PSs X b (tS p W g)) : PS X (.If c a b pos) (tS p W (ifS t f g)) :=
  PS.conv (ps_if hc ha hb) fun D σ H ⟨m, S, env, hH, k, er, gr⟩ => by
    subst hH
    refine ⟨m, S, env, rfl, k, er, gr.bindE fun b m1 S1 e1 k1 g1 => ?_⟩
    cases b with
    | true => exact ⟨m1, S1, env, rfl, k1, er.mono e1.toUp, g1⟩
    | false => exact ⟨m1, S1, env, rfl, k1, er.mono e1.toUp, g1⟩
theorem ss_asg {tg e : Expr} {g : GF} {f : EF} {is : List Nat} (he : PE X e (tE p W f)) (hg : PG X tg (tG p is g)) (hs : swapsWithSole [tg] e pos.line X.env = pure false) (hw : swappedStores [tg] e X.env = pure none)
    (hp : plainX tg = true) : PS X (.Assign [tg] e pos) (tS p W (asgS g f)) :=
  PS.conv (ps_asg he hg hs hw (by rw [assign_cons [] X.env hp]; rfl)) fun D σ H ⟨m, S, env, hH, k, er, gr⟩ => by
    subst hH
    refine ⟨m, S, env, rfl, k, er, gr.bindE fun d m1 S1 e1 k1 g1 v hv => ?_⟩
    refine ⟨m1, S1, env, d, rfl, k1, er.mono e1.toUp, hv, ?_⟩
    cases q : g d env S1 with
    | ok env1 S2 =>
      rw [q] at g1
      intro m2 σ2 e2 k2 er2 _
      exact g1 m2 e2 k2 σ2 er2
    | exc _ _ => rw [q] at g1; exact g1.elim
    | stuck => rw [q] at g1; exact g1.elim
theorem conv_mk {l : LF} {σ : St} {H : Hp} {Q : VK} (h : tE p W (mkL l) σ H Q) : tL p W l σ H Q := by
  obtain ⟨m, S, env, rfl, k, er, g⟩ := h
  refine ⟨m, S, env, rfl, k, er, ?_⟩
  unfold mkL at g
  cases q : l env S with
  | ok ds S1 =>
    rw [q] at g
    intro m1 e1 k1 a vs hfree hat hne hvs
    have k2 := k1.adopt (o := .lst ds) (a := a) ⟨vs, hat, hvs⟩ hne
    refine g _ (Ext.adopt (o := .lst ds) e1 k1 hfree) k2 (.ref a) ⟨?_, ?_⟩
    · show S1.objs.length < m1.nx + 1
      rw [k1.len]; omega
    · rw [k1.len, adopt_new]
  | exc x S1 => rw [q] at g; exact g
  | stuck => rw [q] at g; exact g
section
variable {elt tg iter : Expr} {ifs : List Expr} {scope : Scope} {own : List (Str × Nat)} {it : IF} {g : GF} {t : TF} {fe : EF} {is : List Nat}
theorem ss_setLc {i : Nat} {y : Str} {py spos : Pos} (hc : X.calm = true) (hN : X.N.Nodup) (hy : X.N[i]? = some y) (hyl : X.env.scope.names.lookup y = some .local)
    (hsw : swapsWith (.ListComp elt [⟨tg, iter, ifs, 0⟩] scope pos) (some (.Name y py)) spos.line X.env = pure true) (hi : PI X tg iter (tI p W it)) (ok : BlkOk X.N X.env.scope scope own) (his : ∀ i, i ∈ is → i ∈ own.map (·.2))
    (hg : ∀ (s : Shared) (H : Hp) (C : Addr) (cl : List (Str × Addr)) (fp : List Addr), PG (X.blk s H scope (compEnvC scope cl C X.env) fp) tg (tG p is g)) (ht : ∀ (s : Shared) (H : Hp) (C : Addr) (cl : List (Str × Addr)) (fp : List Addr), PTs (X.blk s H scope (compEnvC scope cl C X.env) fp) ifs (tT p noW t))
    (he : ∀ (s : Shared) (H : Hp) (C : Addr) (cl : List (Str × Addr)) (fp : List Addr), PE (X.blk s H scope (compEnvC scope cl C X.env) fp) elt (tE p noW fe)) (hs : ∀ x, foldedSetIterable iter X.env x = pure x) :
    PS X (.Assign [.Name y py] (.ListComp elt [⟨tg, iter, ifs, 0⟩] scope pos) spos) (tS p W (asgS (nameG i) (mkL (lcL (own.map (·.2)) it g t fe)))) :=
  PS.conv (ps_setLc hc hN hy hyl hsw hi ok hg ht he hs) fun D σ H ⟨m, S, env, hH, k, er, gr⟩ => by
    subst hH
    have h1 : tE p W (mkL (lcL (own.map (·.2)) it g t fe)) σ m.H (fun x H1 => D.nx (σ.set i (some x)) H1) :=
      ⟨m, S, env, rfl, k, er, gr.bindE fun d m1 S1 e1 k1 g1 v hv => g1.ok k1 _ ((er.mono e1.toUp).set hv)⟩
    exact tLc_of his (conv_mk h1)
end
theorem EnvR.setAll {m : Sim} : ∀ {is : List Nat} {ds : List D} {vs : List V} {env env1 : Env} {σ : St}, EnvR p m env σ → RelL p m ds vs → Ev.setAll env is ds = some env1 → EnvR p m env1 ((is.zip vs).foldl (fun s q => s.set q.1 (some q.2)) σ) ∧ vs.length = is.length
  | [], [], _, env, env1, σ, er, h, e => by
    cases (show _ = [] from h)
    cases e
    exact ⟨er, rfl⟩
  | i :: is, d :: ds, _, env, env1, σ, er, h, e => by
    obtain ⟨v, r, rfl, h1, h2⟩ := h.uncons
    obtain ⟨a, b⟩ := EnvR.setAll (er.set h1) h2 e
    exact ⟨a, by simp [b]⟩
  | [], _ :: _, _, _, _, _, _, _, e => by cases e
  | _ :: _, [], _, _, _, _, _, _, e => by cases e
theorem ss_par {i j : Nat} {x y : Str} {a b : Expr} {l : LF} {px py pt : Pos} {kt k2 pt2} (hc : X.calm = true) (hN : X.N.Nodup) (hi : X.N[i]? = some x) (hj : X.N[j]? = some y) (hij : i ≠ j)
    (hx : X.env.scope.names.lookup x = some .local) (hy : X.env.scope.names.lookup y = some .local) (ha : PA X [a, b] (tA p W l))
    (hw : swappedStores [.Tuple [.Name x px, .Name y py] kt pt] (.Tuple [a, b] k2 pt2) X.env = pure (some [x, y]))
    (hs : swapsWithSole [.Tuple [.Name x px, .Name y py] kt pt] (.Tuple [a, b] k2 pt2) pos.line X.env = pure false) :
    PS X (.Assign [.Tuple [.Name x px, .Name y py] kt pt] (.Tuple [a, b] k2 pt2) pos) (tS p W (parS [i, j] l)) :=
  PS.conv (ps_par hc hN hi hj hij hx hy ha hw hs) fun D σ H ⟨m, S, env, hH, k, er, gr⟩ => by
    subst hH
    refine ⟨m, S, env, rfl, k, er, gr.bindE fun ds m1 S1 e1 k1 g1 vs hvs => ?_⟩
    cases q : setAll env [i, j] ds with
    | none => rw [q] at g1; exact g1.elim
    | some env1 =>
      rw [q] at g1
      obtain ⟨h1, h2⟩ := EnvR.setAll (er.mono e1.toUp) hvs q
      cases vs with
      | nil => cases h2
      | cons v vs =>
        cases vs with
        | nil => cases h2
        | cons w vs =>
          cases vs with
          | nil => exact ⟨v, w, rfl, g1.ok k1 _ h1⟩
          | cons _ _ => cases h2
theorem ss_par3 {i j l : Nat} {x y z : Str} {a b c : Expr} {fl : LF} {px py pz pt : Pos} {kt k2 pt2} (hc : X.calm = true) (hN : X.N.Nodup) (hi : X.N[i]? = some x) (hj : X.N[j]? = some y) (hl : X.N[l]? = some z) (hij : i ≠ j) (hil : i ≠ l) (hjl : j ≠ l)
    (hx : X.env.scope.names.lookup x = some .local) (hy : X.env.scope.names.lookup y = some .local) (hz : X.env.scope.names.lookup z = some .local) (ha : PA X [a, b, c] (tA p W fl))
    (hw : swappedStores [.Tuple [.Name x px, .Name y py, .Name z pz] kt pt] (.Tuple [a, b, c] k2 pt2) X.env = pure (some [x, y, z]))
    (hs : swapsWithSole [.Tuple [.Name x px, .Name y py, .Name z pz] kt pt] (.Tuple [a, b, c] k2 pt2) pos.line X.env = pure false) :
    PS X (.Assign [.Tuple [.Name x px, .Name y py, .Name z pz] kt pt] (.Tuple [a, b, c] k2 pt2) pos) (tS p W (parS [i, j, l] fl)) :=
  PS.conv (ps_par3 hc hN hi hj hl hij hil hjl hx hy hz ha hw hs) fun D σ H ⟨m, S, env, hH, k, er, gr⟩ => by
    subst hH
    refine ⟨m, S, env, rfl, k, er, gr.bindE fun ds m1 S1 e1 k1 g1 vs hvs => ?_⟩
    cases q : setAll env [i, j, l] ds with
    | none => rw [q] at g1; exact g1.elim
    | some env1 =>
      rw [q] at g1
      obtain ⟨h1, h2⟩ := EnvR.setAll (er.mono e1.toUp) hvs q
      cases vs with
      | nil => cases h2
      | cons v vs =>
        cases vs with
        | nil => cases h2
        | cons w vs =>
          cases vs with
          | nil => cases h2
          | cons u vs =>
            cases vs with
            | nil => exact ⟨v, w, u, rfl, g1.ok k1 _ h1⟩
            | cons _ _ => cases h2
theorem ss_while (hW : WFree W) {c : Expr} {body : List Stmt} {t : TF} {b : SF} (hp : PassesOwn (model X.prog X.w) X.A X.env X.xe) (hc : PT X c (tT p W t)) (hb : PSs X body (tS p W b)) : PS X (.While c body [] pos) (tS p W (whileS t b)) :=
  PS.conv (ps_while hp hc hb) fun D σ H ⟨m, S, env, hH, k, er, gr⟩ => by
    subst hH
    refine ⟨fun n σ' H' => ∃ m S env, m.H = H' ∧ SOk p m S ∧ EnvR p m env σ' ∧ GR p (wx p W σ') (qS p D) (whileGo t b n env S) m S, ⟨FU, m, S, env, rfl, k, er, gr⟩, ?_⟩
    rintro n σ1 _ ⟨m1, S1, env1, rfl, k1, er1, g1⟩
    cases n with
    | zero => exact ⟨m1, S1, env1, rfl, k1, er1, g1.elim⟩
    | succ n =>
      rw [whileGo] at g1
      refine ⟨m1, S1, env1, rfl, k1, er1, g1.bindE fun kk m2 S2 e2 k2 g2 => ?_⟩
      cases kk with
      | false => exact g2.ok k2 σ1 (er1.mono e2.toUp)
      | true =>
        refine ⟨fun σ' H' => ∃ m S env, m.H = H' ∧ SOk p m S ∧ EnvR p m env σ' ∧ GR p (wx p W σ') (qS p D) (whileGo t b n env S) m S, fun σ' H' h => ⟨n, Nat.lt_succ_self n, h⟩, ?_⟩
        refine ⟨m2, S2, env1, rfl, k2, er1.mono e2.toUp, GR.bindE g2 fun fl m3 S3 e3 k3 g3 => ?_⟩
        cases fl with
        | nx env3 => exact fun σ3 er3 => ⟨m3, S3, env3, rfl, k3, er3, g3.wx hW⟩
        | ct env3 => exact fun σ3 er3 => ⟨m3, S3, env3, rfl, k3, er3, g3.wx hW⟩
        | bk env3 => exact g3.ok k3
        | rt d => exact g3.ok k3
theorem ss_for (hW : WFree W) {tg iter : Expr} {body : List Stmt} {it : IF} {g : GF} {b : SF} {is : List Nat} (hp : PassesOwn (model X.prog X.w) X.A X.env X.xe) (hc : X.calm = true) (hi : PI X tg iter (tI p W it)) (hg : PG X tg (tG p is g)) (hb : PSs X body (tS p W b))
    (hs : ∀ x, foldedSetIterable iter X.env x = pure x) : PS X (.For tg iter body [] pos) (tS p W (forS it g b)) :=
  PS.conv (ps_for hp hc hi hg hb hs) fun D σ H ⟨m, S, env, hH, k, er, gr⟩ => by
    subst hH
    refine ⟨m, S, env, rfl, k, er, gr.bindE fun src m1 S1 e1 k1 g1 J own Rw wk ho r0 => ?_⟩
    refine ⟨fun i n σ' H' => ∃ m2 S2 env src, m2.H = H' ∧ SOk p m2 S2 ∧ Ext m1 S1 m2 S2 ∧ EnvR p m2 env σ' ∧ Rw i src m2 ∧ GR p (wx p W σ') (qS p D) (forGo g b n src env S2) m2 S2, ⟨FU, m1, S1, env, src, rfl, k1, Ext.refl, er.mono e1.toUp, r0, g1⟩, ?_⟩
    rintro i n σ1 _ ⟨m2, S2, env2, src2, rfl, k2, ee, er2, r2, g2⟩
    have own0 : ∀ a, a ∈ own → ∃ xs, m1.H a = some (.lst xs) := fun a ha => (ho a ha).2.1
    have fr : ∀ {m' S'}, Ext m1 S1 m' S' → ∀ a, a ∈ own → m'.H a = m1.H a := fun e a ha => by
      obtain ⟨_, ⟨xs, hx⟩, hn⟩ := ho a ha
      rw [(e.frame a _ hx (fun ps z => by cases z) hn).1, hx]
    cases n with
    | zero => exact g2.elim
    | succ n =>
      rw [forGo] at g2
      cases q : src2.next S2 with
      | none => rw [q] at g2; exact g2.elim
      | some r =>
        rw [q] at g2
        cases r with
        | none => exact .inl ⟨wk.stop _ _ _ _ k2 r2 q, g2.ok k2 σ1 er2⟩
        | some x =>
          obtain ⟨d, src3⟩ := x
          dsimp only at g2
          obtain ⟨w1, w2⟩ := wk.go _ _ _ _ _ _ k2 r2 (fun a ha => by rw [fr ee a ha]; obtain ⟨xs, hx⟩ := own0 a ha; exact ⟨_, hx⟩) q
          refine .inr ⟨w1, fun σ' H' => ∃ m2 S2 env src, m2.H = H' ∧ SOk p m2 S2 ∧ Ext m1 S1 m2 S2 ∧ EnvR p m2 env σ' ∧ Rw (i + 1) src m2 ∧ GR p (wx p W σ') (qS p D) (forGo g b n src env S2) m2 S2, fun σ' H' h => ⟨n, Nat.lt_succ_self n, h⟩, fun x H' hy => ?_⟩
          obtain ⟨m3, rfl, e3, k3, hx, r3, nx3, mu3⟩ := w2 x H' hy
          refine ⟨m3, S2, env2, d, rfl, k3, er2.mono e3.toUp, hx, ?_⟩
          cases q3 : g d env2 S2 with
          | exc _ _ => rw [q3] at g2; exact g2.elim
          | stuck => rw [q3] at g2; exact g2.elim
          | ok env4 S4 =>
            rw [q3] at g2
            dsimp only at g2
            intro m4 σ4 e4 k4 er4 _
            have g4 := GR.wx (σ' := σ4) hW (GR.later g2 (e3.trans e4))
            refine ⟨m4, S4, env4, rfl, k4, er4, GR.bindE g4 fun fl m5 S5 e5 k5 g5 => ?_⟩
            have r5 : Rw (i + 1) src3 m5 := wk.keep _ _ _ _ r3 (e4.trans e5).toUp fun a ha => by
              rw [fr (ee.trans (e3.trans (e4.trans e5))) a ha, fr (ee.trans e3) a ha]
            cases fl with
            | nx env5 => exact fun σ5 er5 => ⟨m5, S5, env5, src3, rfl, k5, ee.trans (e3.trans (e4.trans e5)), er5, r5, g5.wx hW⟩
            | ct env5 => exact fun σ5 er5 => ⟨m5, S5, env5, src3, rfl, k5, ee.trans (e3.trans (e4.trans e5)), er5, r5, g5.wx hW⟩
            | bk env5 => exact g5.ok k5
            | rt d => exact g5.ok k5
end
end Ev
set_option Elab.async false
set_option linter.all false
set_option maxRecDepth 100000
set_option maxHeartbeats 4000000
namespace Ev
open PySem PySem.Spec PyProof.Rows L2
section
variable {p : Par} {X : Cx} {W : WX} {pos : Pos}
def rC1 (p : Par) (op : Op1) : List V → Hp → VK → Prop := fun xs H Q => ∃ x, xs = [x] ∧ rUn p op x H Q
def rC2 (p : Par) (op : Op2) : List V → Hp → VK → Prop := fun xs H Q => ∃ x y, xs = [x, y] ∧ rOp p op x y H Q
theorem cl_abs : CallR X (.builtin "abs") (rC1 p opAbs) := by
  intro pins s σ H xs us Q I r ⟨x, e, m, S, d, hH, k, hx, g⟩
  subst hH e
  cases d with
  | int i =>
    cases (show x = .int i from hx)
    exact call_abs pins s σ m.H _ us Q I r ⟨i, rfl, g.ok k _ rfl⟩
  | _ => exact g.elim
theorem cl_int : CallR X (.type "int") (rC1 p opInt) := by
  intro pins s σ H xs us Q I r ⟨x, e, m, S, d, hH, k, hx, g⟩
  subst hH e
  cases d with
  | int i =>
    cases (show x = .int i from hx)
    exact call_int1 pins s σ m.H _ us Q I r (.inl ⟨i, rfl, g.ok k _ rfl⟩)
  | bl b =>
    cases (show x = .bl b from hx)
    exact call_int1 pins s σ m.H _ us Q I r (.inr ⟨b, rfl, g.ok k _ rfl⟩)
  | _ => exact g.elim
theorem cl_max (hc : X.calm = true) : CallR X (.builtin "max") (rC2 p opMax) := by
  intro pins s σ H xs us Q I r ⟨x, y, e, m, S, d, d2, hH, k, hx, hy, g⟩
  subst hH e
  cases d with
  | int i =>
    cases d2 with
    | int j =>
      cases (show x = .int i from hx)
      cases (show y = .int j from hy)
      exact call_max2 hc pins s σ m.H _ us Q I r ⟨i, j, rfl, g.ok k _ rfl⟩
    | _ => exact g.elim
  | _ => exact g.elim
theorem cl_min (hc : X.calm = true) : CallR X (.builtin "min") (rC2 p opMin) := by
  intro pins s σ H xs us Q I r ⟨x, y, e, m, S, d, d2, hH, k, hx, hy, g⟩
  subst hH e
  cases d with
  | int i =>
    cases d2 with
    | int j =>
      cases (show x = .int i from hx)
      cases (show y = .int j from hy)
      exact call_min2 hc pins s σ m.H _ us Q I r ⟨i, j, rfl, g.ok k _ rfl⟩
    | _ => exact g.elim
  | _ => exact g.elim
theorem conv_c1 {op : Op1} {f : EF} (hne : ∀ x S e S', op x S ≠ .exc e S') {σ : St} {H : Hp} {Q : VK} (h : tE p W (un1 op f) σ H Q) : tCB (rC1 p op) (tCons (tE p W f) tNil) σ H Q := by
  obtain ⟨m, S, env, rfl, k, er, g⟩ := h
  refine ⟨m, S, env, rfl, k, er, g.bindE fun dx m1 S1 e1 k1 g1 x hx => ?_⟩
  refine ⟨x, rfl, m1, S1, dx, rfl, k1, hx, ?_⟩
  cases q : op dx S1 with
  | ok d S3 => rw [q] at g1; exact g1
  | exc x S3 => exact absurd q (hne _ _ _ _)
  | stuck => rw [q] at g1; exact g1.elim
theorem conv_c2 {op : Op2} {f h : EF} (hne : ∀ x y S e S', op x y S ≠ .exc e S') {σ : St} {H : Hp} {Q : VK} (g : tE p W (bin2 op f h) σ H Q) : tCB (rC2 p op) (tCons (tE p W f) (tCons (tE p W h) tNil)) σ H Q := by
  obtain ⟨m, S, env, rfl, k, er, g⟩ := g
  refine ⟨m, S, env, rfl, k, er, g.bindE fun dx m1 S1 e1 k1 g1 x hx => ?_⟩
  refine ⟨m1, S1, env, rfl, k1, er.mono e1.toUp, g1.bindE fun dy m2 S2 e2 k2 g2 y hy => ?_⟩
  refine ⟨x, y, rfl, m2, S2, dx, dy, rfl, k2, hx.mono e2.toUp, hy, ?_⟩
  cases q : op dx dy S2 with
  | ok d S3 => rw [q] at g2; exact g2
  | exc x S3 => exact absurd q (hne _ _ _ _ _)
  | stuck => rw [q] at g2; exact g2.elim
theorem ok_pow : OpR X (binaryOp .Pow) (rOp p opPow) := by
  intro pins s σ H x y v u Q I rx ry ⟨m, S, d, d2, hH, k, hx, hy, g⟩
  subst hH
  cases d with
  | int i =>
    cases d2 with
    | int j =>
      cases (show x = .int i from hx)
      cases (show y = .int j from hy)
      unfold opPow at g
      dsimp only at g
      split at g
      · rename_i hc
        simp only [Bool.and_eq_true, decide_eq_true_eq] at hc
        exact op_pow pins s σ m.H _ _ v u Q I rx ry ⟨i, j, rfl, rfl, ⟨hc.1.1, by omega, hc.2⟩, g.ok k _ rfl⟩
      · exact g.elim
    | _ => exact g.elim
  | _ => exact g.elim
theorem se_app (hK : X.K = p.K) {a b : Expr} {fa fb : EF} {apos : Pos} (ha : PE X a (tE p W fa)) (hb : PE X b (tE p W fb)) (hbase : attributeBase a "append" X.env (eval a X.env) = eval a X.env) (hp : plainX b = true) (hline : (apos.endLine == pos.line) = true) :
    PE X (.Call (.Attribute a "append" apos) [b] [] pos) (tE p W (appE fa fb)) :=
  PE.conv (pe_bm PySem.F.plainAttrs_list PySem.F.slot_list_append PySem.F.type_list_append mt_append ha (pa_cons hb pa_nil (star_cons [] X.env hp)) hbase (by rw [star_cons [] X.env hp]; rfl) hline (star_cons [] X.env hp) rfl) fun σ H Q ⟨m, S, env, hH, k, er, g⟩ => by
    subst hH
    refine ⟨m, S, env, rfl, k, er, g.bindE fun d m1 S1 e1 k1 g1 x hx => ?_⟩
    cases d with
    | ref n =>
      obtain ⟨hn, rfl⟩ := k1.ref hx
      dsimp only at g1
      cases q : S1.objs[n]? with
      | none => rw [q] at g1; exact g1.elim
      | some o =>
        rw [q] at g1
        cases o with
        | lst xs =>
          obtain ⟨vs, h1, h2⟩ := k1.obj n _ q
          refine ⟨.inl ⟨rfl, vs, SqL.of h1⟩, m1, S1, env, rfl, k1, er.mono e1.toUp, GR.bindE g1 fun d2 m2 S2 e2 k2 g2 y hy => ?_⟩
          show rAppend (.ref (m1.μ n)) [y] m2.H Q
          unfold opAppend at g2
          dsimp only at g2
          cases q2 : S2.objs[n]? with
          | none => rw [q2] at g2; exact g2.elim
          | some o2 =>
            rw [q2] at g2
            cases o2 with
            | lst ys =>
              dsimp only at g2
              split at g2
              · rename_i hz
                obtain ⟨us, l1, l2⟩ := k2.obj n _ q2
                have hn2 : n < m2.nx := k2.get_lt q2
                have l1' : m2.H (m1.μ n) = some (.lst us) := by rw [← e2.same n hn]; exact l1
                refine ⟨m1.μ n, us, y, rfl, rfl, l1', ?_, ?_⟩
                · have := sizeOk_le hz
                  rw [← l2.length]; omega
                · have e3 := Ext.wr (S := S2) (o := .lst (us ++ [y])) (x := .lst (ys ++ [d2])) hn2 l1 trivial
                  have k3 := k2.wr (o := .lst (us ++ [y])) (x := .lst (ys ++ [d2])) hn2 l1 trivial ⟨us ++ [y], wr_at, (l2.mono e3.toUp).append (RelL.cons (hy.mono e3.toUp) RelL.nil)⟩
                  have := g2 _ e3 k3 .non rfl
                  rw [show (m2.wr n (.lst (us ++ [y]))).H = upd m2.H (m1.μ n) (.lst (us ++ [y])) by rw [← e2.same n hn]; rfl] at this
                  exact this
              · exact g2.elim
            | ins _ _ => exact g2.elim
            | dct _ => exact g2.elim
        | ins _ _ => exact g1.elim
        | dct _ => exact g1.elim
    | _ => exact g1.elim
def plainIx : Expr → Bool
  | .Slice .. => false
  | _ => true
theorem plainIx_ok {e : Expr} (h : plainIx e = true) : PlainIx e := fun o i => by
  cases e <;> first | rfl | (simp [plainIx] at h)
theorem plainIx_sl {e : Expr} (h : plainIx e = true) : NoSl e := fun o i => by
  cases e <;> first | rfl | (simp [plainIx] at h)
theorem asg_sub {o i : Expr} {env : PySem.Env} (h : plainIx i = true) : ∀ v, assign (.Subscript o i pos) env v = (do
      let ov ← holding [v] (eval o env)
      let iv ← holding [v, ov] (eval i env)
      standAt pos
      holding [v, ov, iv] (setItem ov iv v)
      release [v, ov, iv] []) := fun v => by
  cases i <;> first | rfl | (simp [plainIx] at h)
theorem sg_sub (hK : X.K = p.K) {o i : Expr} {fo fi : EF} (ho : PE X o (tE p noW fo)) (hi : PE X i (tE p noW fi)) (hp : plainIx i = true) : PG X (.Subscript o i pos) (tG p [] (subG fo fi)) :=
  PG.conv (pg_sub ho hi set_list (asg_sub hp)) fun v σ H Q ⟨m, S, env, d, hH, k, er, hv, g⟩ => by
    subst hH
    refine ⟨m, S, env, rfl, k, er, ?_⟩
    unfold subG at g
    cases q : fo env S with
    | exc _ _ => rw [q] at g; exact g.elim
    | stuck => rw [q] at g; exact g.elim
    | ok x S1 =>
      rw [q] at g
      intro m1 e1 k1 xv hx
      refine ⟨m1, S1, env, rfl, k1, er.mono e1.toUp, ?_⟩
      unfold Rs.bind at g
      dsimp only at g
      cases q2 : fi env S1 with
      | exc _ _ => rw [q2] at g; exact g.elim
      | stuck => rw [q2] at g; exact g.elim
      | ok y S2 =>
        rw [q2] at g
        dsimp only at g
        intro m2 e2 k2 yv hy
        cases x with
        | ref n =>
          cases y with
          | int j =>
            obtain ⟨hn, rfl⟩ := k1.ref hx
            cases (show yv = .int j from hy)
            dsimp only at g
            cases q3 : S2.objs[n]? with
            | none => rw [q3] at g; exact g.elim
            | some o2 =>
              rw [q3] at g
              cases o2 with
              | lst xs =>
                dsimp only at g
                obtain ⟨us, l1, l2⟩ := k2.obj n _ q3
                have hn2 : n < m2.nx := k2.get_lt q3
                have l1' : m2.H (m1.μ n) = some (.lst us) := by rw [← e2.same n hn]; exact l1
                cases q4 : ixD xs.length j with
                | none => rw [q4] at g; exact g.elim
                | some jj =>
                  rw [q4] at g
                  refine ⟨m1.μ n, us, j, jj, rfl, rfl, l1', by rw [← l2.length]; exact q4, ?_⟩
                  have e12 := e1.trans e2
                  have e3 := Ext.wr (S := S2) (o := .lst (us.set jj v)) (x := .lst (xs.set jj d)) hn2 l1 trivial
                  have k3 := k2.wr (o := .lst (us.set jj v)) (x := .lst (xs.set jj d)) hn2 l1 trivial ⟨us.set jj v, wr_at, (l2.mono e3.toUp).set ((hv.mono e12.toUp).mono e3.toUp) jj⟩
                  have := g (m2.wr n (.lst (us.set jj v))) σ (e12.trans e3) k3 ((er.mono e12.toUp).mono e3.toUp) Same.refl
                  rw [show (m2.wr n (.lst (us.set jj v))).H = upd m2.H (m1.μ n) (.lst (us.set jj v)) by rw [← e2.same n hn]; rfl] at this
                  exact this
              | ins _ _ => exact g.elim
              | dct _ => exact g.elim
          | _ => exact g.elim
        | _ => exact g.elim
theorem se_newD : PE X (.Dict [] [] pos) (tE p W newDE) :=
  PE.conv pe_dnewT fun σ H Q ⟨m, S, env, hH, k, er, g⟩ => by
    subst hH
    intro a ha
    have e1 := Ext.put (S := S) (o := .dT []) ha
    have k1 := k.put (o := .dT []) ha
    have hne : ∀ n, n < (m.put a (.dT [])).nx → a ≠ (m.put a (.dT [])).μ n := fun n hn z => by
      obtain ⟨u, hu⟩ := k.tracked hn
      rw [show m.μ n = a from z.symm, ha] at hu; cases hu
    have k2 := k1.adopt (o := .dct []) (a := a) ⟨[], put_at, rfl⟩ hne
    exact g _ (Ext.adopt (o := .dct []) e1 k1 ha) k2 (.ref a) ⟨by show S.objs.length < m.nx + 1; rw [k.len]; omega, by rw [k.len]; exact congrArg V.ref (adopt_new (m := m.put a (.dT []))).symm⟩
theorem strEq_eq {x y : Str} : strEq x y = decide (x = y) := by
  have hx : ∀ a b : Str, a.cps.toList = b.cps.toList → a = b := fun ⟨a⟩ ⟨b⟩ h => by
    have : a = b := Array.toList_inj.mp h
    subst this; rfl
  unfold strEq
  by_cases h : x = y
  · subst h; simp
  · rw [decide_eq_false h]
    exact beq_eq_false_iff_ne.mpr fun z => h (hx _ _ z)
theorem ky1_eq {a b : Key} : ky1 a b = decide (a = b) := by
  cases a <;> cases b <;> simp [ky1, strEq_eq]
theorem kyEq_eq : ∀ {a b : List Key}, kyEq a b = decide (a = b)
  | [], [] => by simp [kyEq]
  | [], _ :: _ => by simp [kyEq]
  | _ :: _, [] => by simp [kyEq]
  | a :: r, b :: s => by
    rw [kyEq, ky1_eq, kyEq_eq (a := r) (b := s)]
    by_cases h1 : a = b <;> by_cases h2 : r = s <;> simp [h1, h2]
theorem hasKy_any {m : Sim} {k : List Key} : ∀ {kvs : List (KyL × D)} {ys : List (List Key × V)}, KRel p m kvs ys → hasKy k kvs = (ys.any fun kv => decide (kv.1 = k))
  | [], _, h => by cases (show _ = [] from h); rfl
  | (g, d) :: r, _, h => by
    obtain ⟨v, s, rfl, h1, h2⟩ := (show ∃ v s, _ = (g, v) :: s ∧ Rel p m d v ∧ KRel p m r s from h)
    rw [hasKy, kyEq_eq, hasKy_any h2, List.any_cons]
theorem replKy_rel {m : Sim} {k : List Key} {d : D} {v : V} (hv : Rel p m d v) : ∀ {kvs : List (KyL × D)} {ys : List (List Key × V)}, KRel p m kvs ys → KRel p m (replKy k d kvs) (ys.map fun kv => if kv.1 = k then (kv.1, v) else kv)
  | [], _, h => by cases (show _ = [] from h); exact rfl
  | (g, x) :: r, _, h => by
    obtain ⟨w, s, rfl, h1, h2⟩ := (show ∃ v s, _ = (g, v) :: s ∧ Rel p m x v ∧ KRel p m r s from h)
    rw [replKy, kyEq_eq, List.map_cons]
    by_cases e : g = k
    · rw [if_pos (decide_eq_true e), if_pos e]; exact ⟨v, _, rfl, hv, replKy_rel hv h2⟩
    · rw [if_neg (by rw [decide_eq_false e]; decide), if_neg e]; exact ⟨w, _, rfl, h1, replKy_rel hv h2⟩
theorem krel_snoc {m : Sim} {k : List Key} {d : D} {v : V} (hv : Rel p m d v) : ∀ {kvs : List (KyL × D)} {ys : List (List Key × V)}, KRel p m kvs ys → KRel p m (kvs ++ [(k, d)]) (ys ++ [(k, v)])
  | [], _, h => by cases (show _ = [] from h); exact ⟨v, [], rfl, hv, rfl⟩
  | (g, x) :: r, _, h => by
    obtain ⟨w, s, rfl, h1, h2⟩ := (show ∃ v s, _ = (g, v) :: s ∧ Rel p m x v ∧ KRel p m r s from h)
    exact ⟨w, _, rfl, h1, krel_snoc hv h2⟩
theorem putKy_rel {m : Sim} {k : List Key} {d : D} {v : V} (hv : Rel p m d v) {kvs : List (KyL × D)} {ys : List (List Key × V)} (h : KRel p m kvs ys) : KRel p m (putKy k d kvs) (putK ys k v) := by
  unfold putKy putK
  rw [← hasKy_any h]
  split
  · exact replKy_rel hv h
  · exact krel_snoc hv h
theorem krel_len {m : Sim} : ∀ {kvs : List (KyL × D)} {ys : List (List Key × V)}, KRel p m kvs ys → kvs.length = ys.length
  | [], _, h => by cases (show _ = [] from h); rfl
  | (g, x) :: r, _, h => by
    obtain ⟨w, s, rfl, h1, h2⟩ := (show ∃ v s, _ = (g, v) :: s ∧ Rel p m x v ∧ KRel p m r s from h)
    simp [krel_len h2]
theorem keysD_rel {m : Sim} : ∀ {ds : List D} {vs : List V} {k : List Key}, RelL p m ds vs → keysD ds = some k → vs = k.map kV
  | [], _, _, h, e => by cases (show _ = [] from h); cases e; rfl
  | d :: ds, _, k, h, e => by
    obtain ⟨v, r, rfl, h1, h2⟩ := h.uncons
    cases d with
    | int i =>
      rw [keysD] at e
      cases q : keysD ds with
      | none => rw [q] at e; cases e
      | some k' =>
        rw [q] at e; cases e
        cases (show v = .int i from h1)
        rw [keysD_rel h2 q]; rfl
    | str i =>
      rw [keysD] at e
      cases q : keysD ds with
      | none => rw [q] at e; cases e
      | some k' =>
        rw [q] at e; cases e
        cases (show v = .str i from h1)
        rw [keysD_rel h2 q]; rfl
    | _ => cases e
def rSetD : V → V → V → Hp → (Hp → Prop) → Prop := fun o i v H Q => ∃ a H', o = .ref a ∧ DPut H a i v H' ∧ Q H'
theorem set_dict (hu : X.A.units + 1 < cLine) : PSet X rSetD := by
  intro pins s σ H o i v ov iv u Q I ro ri rv ⟨a, H', e, g, q⟩
  subst e
  obtain rfl : ov = Value.ref a := ro
  exact d_setItem hu I g ri rv fun s' I' => ⟨H', I', q⟩
theorem sg_dput (hu : X.A.units + 1 < cLine) {o : Expr} {es : List Expr} {kk : Nat} {tp : Pos} {fo : EF} {l : LF} {n : Nat} (ho : PE X o (tE p noW fo)) (hl : PA X es (tA p noW l)) (hn : LenL l n) (hn2 : n ≤ 1000) : PG X (.Subscript o (.Tuple es kk tp) pos) (tG p [] (dputG fo l)) :=
  PG.conv (pg_sub ho (pe_tup hl) (set_dict hu) (asg_sub rfl)) fun v σ H Q ⟨m, S, env, d, hH, k, er, hv, g⟩ => by
    subst hH
    refine ⟨m, S, env, rfl, k, er, ?_⟩
    unfold dputG at g
    cases q : fo env S with
    | exc _ _ => rw [q] at g; exact g.elim
    | stuck => rw [q] at g; exact g.elim
    | ok x S1 =>
      rw [q] at g
      intro m1 e1 k1 xv hx
      unfold Rs.bind at g
      dsimp only at g
      refine ⟨m1, S1, env, rfl, k1, er.mono e1.toUp, ?_⟩
      cases q2 : l env S1 with
      | exc _ _ => rw [q2] at g; exact g.elim
      | stuck => rw [q2] at g; exact g.elim
      | ok ks S2 =>
        rw [q2] at g
        dsimp only at g
        intro m2 e2 k2 vs hvs
        refine ⟨by rw [← hvs.length, hn env S1 ks S2 q2, sizeLine_eq]; omega, fun T hT => ?_⟩
        cases x with
        | ref i =>
          obtain ⟨hi, rfl⟩ := k1.ref hx
          dsimp only at g
          cases q3 : S2.objs[i]? with
          | none => rw [q3] at g; exact g.elim
          | some o2 =>
            rw [q3] at g
            cases o2 with
            | dct kvs =>
              dsimp only at g
              cases q4 : keysD ks with
              | none => rw [q4] at g; exact g.elim
              | some key =>
                rw [q4] at g
                dsimp only at g
                split at g
                · rename_i hz
                  obtain ⟨ys, l1, l2⟩ := k2.obj i _ q3
                  have hn2 : i < m2.nx := k2.get_lt q3
                  have ev := keysD_rel hvs q4
                  subst ev
                  have e3 := Ext.put (S := S2) (o := .tup (key.map kV)) hT
                  have k3 := k2.put (o := .tup (key.map kV)) hT
                  have l1' : (m2.put T (.tup (key.map kV))).H (m2.μ i) = some (.dT ys) := put_old hT l1
                  have e123 := (e1.trans e2).trans e3
                  have e4 := Ext.wr (m := m2.put T (.tup (key.map kV))) (S := S2) (o := .dT (putK ys key v)) (x := .dct (putKy key d kvs)) hn2 l1' trivial
                  have k4 := k3.wr (o := .dT (putK ys key v)) (x := .dct (putKy key d kvs)) hn2 l1' trivial ⟨_, wr_at, putKy_rel ((hv.mono e123.toUp).mono e4.toUp) ((l2.mono e3.toUp).mono e4.toUp)⟩
                  refine ⟨m1.μ i, _, rfl, DPut.t (kvs := ys) (k := key) (by rw [← e2.same i hi]; exact l1') put_at ?_, ?_⟩
                  · have := Nat.le_of_ble_eq_true hz
                    rw [← krel_len l2, sizeLine_eq]; omega
                  · have := g ((m2.put T (.tup (key.map kV))).wr i (.dT (putK ys key v))) σ (e123.trans e4) k4 ((er.mono e123.toUp).mono e4.toUp) Same.refl
                    rw [show ((m2.put T (.tup (key.map kV))).wr i (.dT (putK ys key v))).H = upd (m2.put T (.tup (key.map kV))).H (m1.μ i) (.dT (putK ys key v)) by rw [← e2.same i hi]; rfl] at this
                    exact this
                · exact g.elim
            | lst _ => exact g.elim
            | ins _ _ => exact g.elim
        | _ => exact g.elim
end
end Ev
set_option Elab.async false
set_option linter.all false
set_option maxRecDepth 100000
set_option maxHeartbeats 4000000
namespace Ev
open PySem PySem.Spec PyProof.Rows L2
section
variable {p : Par} {X : Cx} {W : WX} {pos : Pos}
def pyK : Key → PyData
  | .inl i => .int i
  | .inr x => .str x
theorem pyOfs_keys : ∀ k : List Key, pyOfs (k.map keyD) = some (k.map pyK)
  | [] => rfl
  | .inl i :: r => by show (match pyOf (.int i), pyOfs (r.map keyD) with | some x, some xs => some (x :: xs) | _, _ => none) = _; rw [pyOfs_keys r]; rfl
  | .inr i :: r => by show (match pyOf (.str i), pyOfs (r.map keyD) with | some x, some xs => some (x :: xs) | _, _ => none) = _; rw [pyOfs_keys r]; rfl
theorem flat_nil {h : Heap} : ∀ {k : List Key} {vs : List Value} {as : List Addr}, ReadsAll h vs (k.map pyK) as → as = []
  | [], _, _, r => by cases r; rfl
  | .inl i :: k, _, _, r => by
    cases r with
    | cons a b =>
      cases a
      rw [flat_nil b]; rfl
  | .inr i :: k, _, _, r => by
    cases r with
    | cons a b =>
      cases a
      rw [flat_nil b]; rfl
theorem keyD_rel {m : Sim} : ∀ k : List Key, RelL p m (k.map keyD) (k.map kV)
  | [] => RelL.nil
  | .inl i :: r => RelL.cons rfl (keyD_rel r)
  | .inr x :: r => RelL.cons rfl (keyD_rel r)
theorem keys_rel {m : Sim} : ∀ {kvs : List (KyL × D)} {ys : List (List Key × V)} {xs : List (List Key × Addr × Value)}, KRel p m kvs ys → KT m.H ys xs → RelL p m (keysOf kvs) (xs.map fun x => V.ref x.2.1)
  | [], _, _, h, t => by cases (show _ = [] from h); cases t; exact RelL.nil
  | (k, d) :: r, _, _, h, t => by
    obtain ⟨v, s, rfl, h1, h2⟩ := (show ∃ v s, _ = (k, v) :: s ∧ Rel p m d v ∧ KRel p m r s from h)
    cases t with
    | cons a b =>
      rename_i q xs
      obtain ⟨a1, a2, a3⟩ := a
      exact RelL.cons ⟨q.2.1, k.map kV, rfl, SqT.of a2, keyD_rel k⟩ (keys_rel h2 b)
def rSortD (p : Par) : List V → Hp → VK → Prop := fun xs H Q => ∃ m S a kvs ys zs, xs = [.ref a] ∧ m.H = H ∧ SOk p m S ∧ m.H a = some (.dT ys) ∧ KRel p m kvs ys ∧ sortC (keysOf kvs) = some zs ∧
  ∀ l vs, m.H l = none → RelL p m zs vs → Q (.ref l) (upd m.H l (.lst vs))
theorem isk {kvs : List (KyL × D)} : ∀ d, d ∈ keysOf kvs → ∃ k : List Key, d = .tup (k.map keyD) := fun d hd => by
  obtain ⟨kv, _, rfl⟩ := List.mem_map.mp hd
  exact ⟨kv.1, rfl⟩
theorem pyOf_tup {k : List Key} : pyOf (.tup (k.map keyD)) = some (.tuple (k.map pyK)) := by
  show (pyOfs (k.map keyD)).map PyData.tuple = _
  rw [pyOfs_keys]; rfl
theorem vals_refs : ∀ xs : List (List Key × Addr × Value), Vals (xs.map fun x => V.ref x.2.1) (xs.map fun x => Value.ref x.2.1)
  | [] => .nil
  | x :: r => .cons rfl (vals_refs r)
theorem each_readsK (hK : X.K = p.K) {pins : List (Addr × Obj)} {s : Shared} {σ : L2.St} {m : Sim} {S : Store} {L0 : Addr} (I : Inv X pins σ m.H s) (k : SOk p m S) : ∀ {ds : List D} {vs : List V} {us : List Value}, RelL p m ds vs → Vals vs us → (∀ d, d ∈ ds → ∃ k : List Key, d = .tup (k.map keyD)) →
    PySem.W.EachIs (fun u d => ∃ as, Reads s.heap u (pyD d) as ∧ L0 ∉ as) us ds
  | [], vs, us, h, r, _ => by cases (show vs = [] from h); cases r; exact .nil
  | d :: ds, vs, us, h, r, hp => by
    obtain ⟨v, t, rfl, h1, h2⟩ := h.uncons
    cases r with
    | cons r1 r2 =>
      refine .cons ?_ (each_readsK hK I k h2 r2 fun d hd => hp d (List.mem_cons_of_mem _ hd))
      obtain ⟨y, rfl⟩ := hp d List.mem_cons_self
      rw [show pyD (.tup (y.map keyD)) = .tuple (y.map pyK) by unfold pyD; rw [pyOf_tup]]
      obtain ⟨as, q⟩ := reads_of hK I k h1 r1 (pyOf_at pyOf_tup)
      refine ⟨as, q, ?_⟩
      cases q with
      | tuple a b c e => rw [flat_nil e]; exact List.not_mem_nil
theorem sortOk_alike {xs : List D} (hc : sortOk xs = true) : PySem.W.AllAlike (xs.map pyD) ∧ PySem.W.Sortable (xs.map pyD) ∧ ∀ d, d ∈ xs → (pyD d).depth ≤ 64 := by
  simp only [sortOk, Bool.and_eq_true, Bool.or_eq_true] at hc
  obtain ⟨c1, c2⟩ := hc
  obtain ⟨a1, a2⟩ := allAlike_of c1
  refine ⟨?_, ?_, fun d hd => ?_⟩
  · intro x hx y hy
    obtain ⟨d, hd1, rfl⟩ := List.mem_map.mp hx
    obtain ⟨d', hd2, rfl⟩ := List.mem_map.mp hy
    exact a2 d hd1 d' hd2
  · rcases c2 with c2 | c2
    · refine .inl fun x hx => ?_
      obtain ⟨d, hd1, rfl⟩ := List.mem_map.mp hx
      have := (List.all_eq_true.mp c2) d hd1
      revert this
      cases pyD d with
      | tuple xs => cases xs with
        | nil => intro z; cases z
        | cons x r => intro _; exact ⟨x, r, rfl⟩
      | _ => intro z; cases z
    · refine .inr fun x hx => ?_
      obtain ⟨d, hd1, rfl⟩ := List.mem_map.mp hx
      have := (List.all_eq_true.mp c2) d hd1
      revert this
      cases pyD d with
      | tuple xs => intro z; cases z
      | none => intro z; cases z
      | _ => intro _; exact ⟨(fun z => nomatch z), (fun xs z => nomatch z)⟩
  · obtain ⟨y, y1, y2⟩ := a1 d hd
    rw [show pyD d = y by unfold pyD; rw [y1]]
    exact y2
theorem call_sortD (hK : X.K = p.K) (hc : X.calm = true) (hu : X.A.units + 70 < cLine) : CallR X (.builtin "sorted") (rSortD p) := by
  intro pins s σ H xs us Q I r ⟨m, S, a, kvs, ys, zs, e, hH, k, hd, hr, hf, q⟩
  subst hH e
  obtain ⟨u, rfl, ru⟩ := vals1 r
  cases ru
  obtain ⟨z, lo, xs, rel, o, es, ep, ho, hex, hdat, hes, _, hnd⟩ := dt_rd I.hok (Rd.of hd)
  have raw : s.heap.DictRaw a es ep := ⟨o, ho, hex, hdat⟩
  have hlen : es.size = xs.length := by rw [← Array.length_toList, hes, List.length_map]
  have hly : ys.length = xs.length := Paired.length rel
  have h16 : es.size ≤ sizeLine := by rw [hlen, ← hly]; exact z
  unfold sortC at hf
  split at hf
  · rename_i hcc
    cases hf
    rw [Bool.and_eq_true] at hcc
    obtain ⟨c1, c2, c3⟩ := sortOk_alike hcc.1
    refine Calls.call_function_entry PyProof.Rows.kind_sorted PyProof.Rows.plain_sorted PyProof.Rows.entry_sorted (PyProof.Rows.args_sorted1 _) ?_
    unfold Builtin.«sorted»
    refine wpAny_bind (m := checkCount "sorted" 1 1 _) (wpAny_pure ?_)
    refine wpAny_bind (PySem.W.kdu_collect (A := X.A.in1) (PySem.KdlSrc.rawDict (es := es) (ep := ep) lo) (I.ok.hd hc) raw h16 fun h' tk acc hk hacc => ?_)
    have hal : acc.toList.length = xs.length := by rw [Array.length_toList, hacc.1, hlen]
    have hval : acc.toList = xs.map fun x => Value.ref x.2.1 := by
      apply List.ext_getElem?
      intro i
      by_cases hi : i < xs.length
      · have hi' : i < acc.toList.length := by omega
        rw [List.getElem?_eq_getElem hi']
        obtain ⟨h1, h2⟩ := hacc.2 i acc.toList[i] (by rw [← Array.getElem?_toList, List.getElem?_eq_getElem hi'])
        rw [List.getElem?_map, List.getElem?_eq_getElem hi, h2]
        have h3 : es.toList[i]? = (xs.map (PySem.entryOfKey (tupleKind (mixKind X.prog X.w))))[i]? := by rw [hes]
        rw [List.getElem?_map, List.getElem?_eq_getElem hi, Array.getElem?_toList, Array.getElem?_eq_getElem h1] at h3
        have h4 := Option.some.inj h3
        rw [h4]; rfl
      · rw [List.getElem?_eq_none (by omega), List.getElem?_eq_none (by rw [List.length_map]; omega)]
    have I1 : Inv X pins σ m.H { s with heap := h', toks := tk } := I.kept hk
    refine wpAny_bind (wpAny_newList ?_ (by rw [hal, ← hlen]; exact h16))
    have hoL : (h'.push (seqObj "list" acc.toList.toArray 0)).get? h'.objs.size = some (seqObj "list" acc.toList.toArray 0) := Heap.get?_push_size _ rfl
    show wpAny _ _ _ _ _ { s with heap := h'.push (seqObj "list" acc.toList.toArray 0), toks := tk }
    have relK := keys_rel (p := p) hr rel
    have rv : Vals (xs.map fun x => V.ref x.2.1) acc.toList := by rw [hval]; exact vals_refs xs
    have I2 : Inv X pins σ m.H { s with heap := h'.push (seqObj "list" acc.toList.toArray 0), toks := tk } := I1.kept (t' := tk) fun b u e => Heap.get?_push_of_some _ e
    have hkl : (keysOf kvs).length ≤ sizeLine := by rw [relK.length, List.length_map, ← hlen]; exact h16
    refine wpAny_bind (wpAny_holding (PySem.W.list_sort_data (A := X.A.in1) (enc := pyD) (bs := keysOf kvs) (vs := acc.toList) (R := fun u d => ∃ v, RelV v u ∧ Rel p m d v) hoL (each_of relK rv) (each_readsK hK I2 k relK rv isk) c1 c2 hkl (fun d hd => ?_) fun out ho eo => ?_))
    · have := c3 d hd
      show X.A.units + 1 + 1 + _ < _
      omega
    · obtain ⟨vs, hvs, rvs⟩ := of_each eo
      obtain ⟨e', he'⟩ := PyProof.Rows.sortedHeap_at (vs := acc.toList) (out := out.toArray) hoL
      have hl2 : vs.length ≤ sizeLine := by rw [rvs.length, ho]; exact hkl
      refine wpAny_pure ⟨_, rfl, .ref h'.objs.size, upd m.H h'.objs.size (.lst vs), I1.laid (t' := tk) (fun b u e => ?_) (Nat.le_refl _)
        (show ObjOk X.prog X.w _ _ _ (.lst vs) from ⟨hl2, out, e', rvs, he'⟩), rfl, q _ vs (I1.hok.fresh (Nat.le_refl _)) hvs⟩
      have hb : b < h'.objs.size := Heap.lt_size e
      rw [PyProof.Rows.sortedHeap_old (Nat.ne_of_lt hb) (by rw [size_push']; exact Nat.lt_succ_of_lt hb)]
      exact Heap.get?_push_of_some _ e
  · cases hf
theorem sl_sortD (hK : X.K = p.K) (hc : X.calm = true) (hu : X.A.units + 70 < cLine) {x : Str} {pp : Pos} {a : Expr} {f : EF} (hx : x = "sorted") (hg : Gl X x) (hm : X.mg x = none) (hv : bootBuiltins x = some (.builtin "sorted")) (ha : PE X a (tE p W f)) (hp : plainX a = true) : PE X (.Call (.Name x pp) [a] [] pos) (tL p W (sortdL f)) :=
  PE.conv (pe_callB (call_sortD hK hc hu) hg hm hv (pa_cons ha pa_nil (star_cons [] X.env hp)) (by rw [hx]; decide) (by rw [hx]; decide) (star_cons [] X.env hp) rfl) fun σ H Q ⟨m, S, env, hH, k, er, g⟩ => by
    subst hH
    refine ⟨m, S, env, rfl, k, er, g.bindE fun d m1 S1 e1 k1 g1 v hv => ?_⟩
    show rSortD p [v] m1.H Q
    cases d with
    | ref n =>
      obtain ⟨hn, rfl⟩ := k1.ref hv
      dsimp only at g1
      cases q : S1.objs[n]? with
      | none => rw [q] at g1; exact g1.elim
      | some o =>
        rw [q] at g1
        cases o with
        | dct kvs =>
          dsimp only at g1
          obtain ⟨ys, h1, h2⟩ := k1.obj n _ q
          cases q2 : sortC (keysOf kvs) with
          | none => rw [q2] at g1; exact g1.elim
          | some zs =>
            rw [q2] at g1
            exact ⟨m1, S1, _, kvs, ys, zs, rfl, rfl, k1, h1, h2, q2, qL.new g1 k1 fun a => e1.free⟩
        | lst _ => exact g1.elim
        | ins _ _ => exact g1.elim
    | _ => exact g1.elim
theorem pairs_of {m0 : Sim} : ∀ {ks : List Str} {l : List EF} {σ : St} {m : Sim} {S : Store} {env : Env} {P : List D → Sim → Store → Prop} {R : List (V × V) → Hp → Prop}, ks.length = l.length → SOk p m S → EnvR p m env σ →
    GR p (wx p W σ) P ((l.foldr consL nilL) env S) m S →
    (∀ ds vs m' S', Ext m S m' S' → SOk p m' S' → RelL p m' ds vs → ds.length = ks.length → P ds m' S' → R ((ks.map V.str).zip vs) m'.H) →
    tPairs (((ks.map fun x => tC (.str x)).zip (l.map (tE p W)))) σ m.H R
  | [], [], σ, m, S, env, P, R, _, k, er, g, c => c [] [] m S Ext.refl k RelL.nil rfl (g.ok k)
  | x :: ks, f :: l, σ, m, S, env, P, R, hl, k, er, g, c => by
    refine ⟨m, S, env, rfl, k, er, GR.bindE (r := f env S) g fun d m1 S1 e1 k1 g1 v hv => ?_⟩
    refine pairs_of (m0 := m0) (ks := ks) (l := l) (by simpa using hl) k1 (er.mono e1.toUp) (GR.bind g1) fun ds vs m2 S2 e2 k2 hvs hlen hP => ?_
    exact c (d :: ds) (v :: vs) m2 S2 (e1.trans e2) k2 (RelL.cons (hv.mono e2.toUp) hvs) (by simp [hlen]) (hP.ok k2)
  | [], _ :: _, _, _, _, _, _, _, hl, _, _, _, _ => by cases hl
  | _ :: _, [], _, _, _, _, _, _, hl, _, _, _, _ => by cases hl
end
end Ev
set_option Elab.async false
set_option linter.all false
set_option maxRecDepth 100000
set_option maxHeartbeats 4000000
namespace Ev
open PySem PySem.Spec PyProof.Rows L2
section
variable {p : Par} {X : Cx} {W : WX} {pos : Pos}
theorem mut_ne {u : HO} (h : Mut (some u)) : (∀ ys, u ≠ .tup ys) ∧ (∀ o w, u ≠ .frz o w) := ⟨(fun ys e => by subst e; exact h), (fun o w e => by subst e; exact h)⟩
theorem Up.pokeM {m : Sim} {a : Addr} {o u : HO} (h : m.H a = some u) (mu : Mut (some u)) : Up m (m.put a o) where
  le := Nat.le_refl _
  same := fun _ _ => rfl
  tups := fun b ys hb => by
    have : b ≠ a := fun z => by rw [z, h] at hb; exact (mut_ne mu).1 _ (Option.some.inj hb)
    show upd m.H a o b = _
    rw [upd_ne this]; exact hb
  frzs := fun b w v hb => by
    have : b ≠ a := fun z => by rw [z, h] at hb; exact (mut_ne mu).2 _ _ (Option.some.inj hb)
    show upd m.H a o b = _
    rw [upd_ne this]; exact hb
theorem SOk.pokeM {m : Sim} {S : Store} {a : Addr} {o u : HO} (k : SOk p m S) (h : m.H a = some u) (mu : Mut (some u)) (hn : ∀ n, n < m.nx → a ≠ m.μ n) : SOk p (m.put a o) S where
  len := k.len
  obj := fun n w hu => (k.obj n w hu).mono (Up.pokeM h mu) fun v hw => by
    have hl := k.get_lt hu
    show upd m.H a o (m.μ n) = _
    rw [upd_ne (fun z => hn n hl z.symm)]; exact hw
  inj := k.inj
theorem Ext.pokeM {m0 m : Sim} {S0 S : Store} {a : Addr} {o u : HO} (e : Ext m0 S0 m S) (h0 : m0.H a = none) (h : m.H a = some u) (mu : Mut (some u)) : Ext m0 S0 (m.put a o) S where
  toUp := e.toUp.trans (Up.pokeM h mu)
  frame := fun b w hb t n => by
    obtain ⟨h1, h2⟩ := e.frame b w hb t n
    refine ⟨?_, h2⟩
    show upd m.H a o b = _
    rw [upd_ne (ne_of_none hb h0)]; exact h1
  trk := fun b w hb => by
    obtain ⟨o', h'⟩ := e.trk b w hb
    refine ⟨o', ?_⟩
    show upd m.H a o b = _
    rw [upd_ne (ne_of_none hb h0)]; exact h'
  dirt := e.dirt
  keep := e.keep
theorem valV_mergeN {j : Key} : ∀ {more : List (Key × V)} {acc : List (Key × V)}, j ∉ more.map (·.1) → valV (mergeK acc more) j = valV acc j
  | [], acc, _ => rfl
  | q :: r, acc, h => by
    show valV (mergeK (putK acc q.1 q.2) r) j = _
    rw [List.map_cons, List.mem_cons, not_or] at h
    rw [valV_mergeN h.2, valV_put, if_neg h.1]
theorem lookS_val {m : Sim} {x : Str} : ∀ {ks : List Str} {ds : List D} {vs : List V} {acc : List (Key × V)} {d : D}, ks.Nodup → ds.length = ks.length → RelL p m ds vs → lookS x ks ds = some d →
    ∃ v, valV (mergeK acc ((ks.map Sum.inr).zip vs)) (.inr x) = some v ∧ Rel p m d v
  | [], _, _, _, _, _, _, _, e => by simp [lookS] at e
  | k :: ks, [], _, _, _, _, _, _, e => by simp [lookS] at e
  | k :: ks, d :: ds, _, acc, d', hn, hl, h, e => by
    obtain ⟨v, r, rfl, h1, h2⟩ := h.uncons
    rw [lookS, strEq_eq] at e
    rw [List.nodup_cons] at hn
    show ∃ w, valV (mergeK (putK acc (.inr k) v) ((ks.map Sum.inr).zip r)) (.inr x) = some w ∧ _
    by_cases q : k = x
    · subst q
      rw [if_pos (decide_eq_true rfl)] at e
      cases e
      refine ⟨v, ?_, h1⟩
      rw [valV_mergeN, valV_put, if_pos rfl]
      intro hm
      obtain ⟨y, hy, hy2⟩ := List.mem_map.mp hm
      have := (List.of_mem_zip (show (y.1, y.2) ∈ _ from hy)).1
      rw [hy2] at this
      obtain ⟨z, hz, hz2⟩ := List.mem_map.mp this
      cases hz2
      exact hn.1 hz
    · rw [if_neg (by rw [decide_eq_false q]; decide)] at e
      exact lookS_val hn.2 (by simpa using hl) h2 e
theorem se_dispIx (hu : X.A.units + 1 < cLine) {ks : List Str} {keys : List (Option Expr)} {values : List Expr} {fs : List EF} {kp : Pos} {i : Expr} {fi : EF} (hpp : PPs X kp keys values ((ks.map fun x => tC (.str x)).zip (fs.map (tE p W)))) (hall : keys.all (·.isSome) = true) (hl : keys.length = values.length)
    (h0 : keys ≠ []) (h15 : keys.length ≤ 15) (hk15 : ks.length ≤ 15) (hn : ks.Nodup) (hlen : ks.length = fs.length) (hi : PE X i (tE p W fi)) (hp : plainIx i = true) : PE X (.Subscript (.Dict keys values kp) i pos) (tE p W (dispIxE ks (fs.foldr consL nilL) fi)) :=
  PE.conv (pe_dget hu (pe_disp hpp hall hl h0 h15) hi (plainIx_sl hp)) fun σ H Q ⟨m, S, env, hH, k, er, g⟩ => by
    subst hH
    intro a ha
    have e0 := Ext.put (S := S) (o := .dK []) ha
    have k0 := k.put (o := .dK []) ha
    have hne : ∀ n, n < (m.put a (.dK [])).nx → a ≠ (m.put a (.dK [])).μ n := fun n hn z => by
      obtain ⟨u, hu⟩ := k.tracked hn
      rw [show m.μ n = a from z.symm, ha] at hu; cases hu
    have g0 : GR p (wx p W σ) (fun ds _ S1 => GR p (wx p W σ) (qE p Q) ((fi env S1).bind fun y S2 => match y with | .str x => Rs.ofO (lookS x ks ds) S2 | _ => .stuck) m S) ((fs.foldr consL nilL) env S) (m.put a (.dK [])) S := by
      unfold dispIxE at g
      cases q : (fs.foldr consL nilL) env S with
      | ok ds S1 => rw [q] at g; exact fun _ _ _ => g
      | exc x S1 => rw [q] at g; exact GR.later g e0
      | stuck => rw [q] at g; exact g.elim
    refine pairs_of (m0 := m) hlen k0 (er.mono e0.toUp) g0 fun ds vs m1 S1 e1 k1 hvs hdl g1 => ?_
    obtain ⟨f1, f2⟩ := e1.frame a _ put_at (fun ps z => by cases z) hne
    refine ⟨f1, (ks.map Sum.inr).zip vs, ?_, ?_, ?_⟩
    · have : ∀ (ks : List Str) (vs : List V), (ks.map V.str).zip vs = ((ks.map Sum.inr : List Key).zip vs).map (fun kv => (kV kv.1, kv.2)) := by
        intro ks
        induction ks with
        | nil => intro vs; rfl
        | cons k ks ih =>
          intro vs
          cases vs with
          | nil => rfl
          | cons v vs =>
            show (V.str k, v) :: (ks.map V.str).zip vs = (V.str k, v) :: ((ks.map Sum.inr : List Key).zip vs).map _
            rw [ih vs]
      exact this ks vs
    · rw [List.length_zip, List.length_map]
      omega
    · have e2 := (e0.trans e1).pokeM (o := .dK (mergeK [] ((ks.map Sum.inr).zip vs))) ha f1 trivial
      have k2 := k1.pokeM (o := .dK (mergeK [] ((ks.map Sum.inr).zip vs))) f1 trivial f2
      have up2 := Up.pokeM (m := m1) (o := .dK (mergeK [] ((ks.map Sum.inr).zip vs))) f1 trivial
      have g2 : GR p (wx p W σ) (qE p Q) ((fi env S1).bind fun y S2 => match y with | .str x => Rs.ofO (lookS x ks ds) S2 | _ => .stuck) (m1.put a (.dK (mergeK [] ((ks.map Sum.inr).zip vs)))) S1 := GR.later g1 e2
      refine ⟨_, S1, env, rfl, k2, ((er.mono e0.toUp).mono e1.toUp).mono up2, GR.bindE g2 fun d m3 S3 e3 k3 g3 y hy => ?_⟩
      obtain ⟨h1, h2⟩ := e3.frame a _ put_at (fun ps z => by cases z) f2
      cases d with
      | str x =>
        cases (show y = .str x from hy)
        dsimp only at g3
        cases q : lookS x ks ds with
        | none => rw [q] at g3; exact g3.elim
        | some d =>
          rw [q] at g3
          obtain ⟨v, v1, v2⟩ := lookS_val (acc := []) hn hdl ((hvs.mono up2).mono e3.toUp) q
          exact ⟨a, v, rfl, .inl ⟨_, .inr x, Rd.of h1, rfl, v1.symm⟩, g3.ok k3 v v2⟩
      | _ => exact g3.elim
end
end Ev
set_option Elab.async false
set_option linter.all false
set_option maxRecDepth 100000
set_option maxHeartbeats 4000000
namespace Ev
open PySem PySem.Spec PyProof.Rows L2
abbrev wE (E : XK) : WX := fun c d _ H => E c d H
theorem wE_free (E : XK) : WFree (wE E) := fun _ _ _ _ _ h => h
section
variable {p : Par}
def exX (p : Par) (E : XK) : Ev.X → Sim → Prop := fun x m => ∀ dd, XRel p m x dd → E (.ref (p.CA x.c)) dd m.H
def spOf (p : Par) (cl : CallF) (j n : Nat) : Sp := fun vs H Q E => ∃ m S ds, m.H = H ∧ SOk p m S ∧ RelL p m ds vs ∧ ds.length = n ∧ GR p (exX p E) (qE p Q) (cl j ds S) m S
mutual
theorem rel_below {m : Sim} : ∀ {d : D} {v : V}, Rel p m d v → below m.nx d = true
  | .non, _, _ => rfl
  | .bl _, _, _ => rfl
  | .int _, _, _ => rfl
  | .str _, _, _ => rfl
  | .tup ds, v, h => by
    obtain ⟨a, vs, h1, h2, h3⟩ := (show ∃ a vs, v = .ref a ∧ SqT p.K m.H a vs ∧ RelL p m ds vs from h)
    exact rels_below h3
  | .ref n, v, h => by
    obtain ⟨h1, h2⟩ := (show n < m.nx ∧ v = .ref (m.μ n) from h)
    exact Nat.ble_eq_true_of_le h1
  | .fn _, _, _ => rfl
  | .cl _, _, _ => rfl
  | .rol ds, v, h => by
    obtain ⟨a, vs, h1, h2, h3⟩ := (show ∃ a vs, v = .ref a ∧ SqR p.K m.H a vs ∧ RelL p m ds vs from h)
    exact rels_below h3
theorem rels_below {m : Sim} : ∀ {ds : List D} {vs : List V}, RelL p m ds vs → belows m.nx ds = true
  | [], _, _ => rfl
  | d :: ds, vs, h => by
    obtain ⟨v, r, h1, h2, h3⟩ := (show ∃ v r, vs = v :: r ∧ Rel p m d v ∧ RelL p m ds r from h)
    show (below m.nx d && belows m.nx ds) = true
    rw [rel_below h2, rels_below h3]; rfl
end
def Sim.low (m : Sim) (n : Nat) : Sim := { m with nx := n }
mutual
theorem rel_low {m : Sim} {n : Nat} : ∀ {d : D} {v : V}, Rel p m d v → below n d = true → Rel p (m.low n) d v
  | .non, _, h, _ => h
  | .bl _, _, h, _ => h
  | .int _, _, h, _ => h
  | .str _, _, h, _ => h
  | .tup ds, v, h, b => by
    obtain ⟨a, vs, h1, h2, h3⟩ := (show ∃ a vs, v = .ref a ∧ SqT p.K m.H a vs ∧ RelL p m ds vs from h)
    exact ⟨a, vs, h1, h2, rels_low h3 b⟩
  | .ref k, v, h, b => by
    obtain ⟨h1, h2⟩ := (show k < m.nx ∧ v = .ref (m.μ k) from h)
    exact ⟨Nat.le_of_ble_eq_true b, h2⟩
  | .fn _, _, h, _ => h
  | .cl _, _, h, _ => h
  | .rol ds, v, h, b => by
    obtain ⟨a, vs, h1, h2, h3⟩ := (show ∃ a vs, v = .ref a ∧ SqR p.K m.H a vs ∧ RelL p m ds vs from h)
    exact ⟨a, vs, h1, h2, rels_low h3 b⟩
theorem rels_low {m : Sim} {n : Nat} : ∀ {ds : List D} {vs : List V}, RelL p m ds vs → belows n ds = true → RelL p (m.low n) ds vs
  | [], _, h, _ => h
  | d :: ds, vs, h, b => by
    obtain ⟨v, r, h1, h2, h3⟩ := (show ∃ v r, vs = v :: r ∧ Rel p m d v ∧ RelL p m ds r from h)
    have b : (below n d && belows n ds) = true := b
    rw [Bool.and_eq_true] at b
    exact ⟨v, r, h1, rel_low h2 b.1, rels_low h3 b.2⟩
end
theorem frel_below {m : Sim} : ∀ {fs : List (Nat × D)} {ys : List (Str × V)}, FRel p m fs ys → belows m.nx (fs.map (·.2)) = true
  | [], _, _ => rfl
  | (f, d) :: r, _, h => by
    obtain ⟨v, s, h1, h0, h2, h3⟩ := (show ∃ v s, _ = (p.FN f, v) :: s ∧ f < p.nF ∧ Rel p m d v ∧ FRel p m r s from h)
    show (below m.nx d && belows m.nx (r.map (·.2))) = true
    rw [rel_below h2, frel_below h3]; rfl
theorem frel_low {m : Sim} {n : Nat} : ∀ {fs : List (Nat × D)} {ys : List (Str × V)}, FRel p m fs ys → belows n (fs.map (·.2)) = true → FRel p (m.low n) fs ys
  | [], _, h, _ => h
  | (f, d) :: r, _, h, b => by
    obtain ⟨v, s, h1, h0, h2, h3⟩ := (show ∃ v s, _ = (p.FN f, v) :: s ∧ f < p.nF ∧ Rel p m d v ∧ FRel p m r s from h)
    have b : (below n d && belows n (r.map (·.2))) = true := b
    rw [Bool.and_eq_true] at b
    exact ⟨v, s, h1, h0, rel_low h2 b.1, frel_low h3 b.2⟩
theorem krel_below {m : Sim} : ∀ {fs : List (KyL × D)} {ys : List (List Key × V)}, KRel p m fs ys → belows m.nx (fs.map (·.2)) = true
  | [], _, _ => rfl
  | (f, d) :: r, _, h => by
    obtain ⟨v, s, h1, h2, h3⟩ := (show ∃ v s, _ = (f, v) :: s ∧ Rel p m d v ∧ KRel p m r s from h)
    show (below m.nx d && belows m.nx (r.map (·.2))) = true
    rw [rel_below h2, krel_below h3]; rfl
theorem krel_low {m : Sim} {n : Nat} : ∀ {fs : List (KyL × D)} {ys : List (List Key × V)}, KRel p m fs ys → belows n (fs.map (·.2)) = true → KRel p (m.low n) fs ys
  | [], _, h, _ => h
  | (f, d) :: r, _, h, b => by
    obtain ⟨v, s, h1, h2, h3⟩ := (show ∃ v s, _ = (f, v) :: s ∧ Rel p m d v ∧ KRel p m r s from h)
    have b : (below n d && belows n (r.map (·.2))) = true := b
    rw [Bool.and_eq_true] at b
    exact ⟨v, s, h1, rel_low h2 b.1, krel_low h3 b.2⟩
theorem orel_below {m : Sim} {a : Addr} {o : O} (h : ORel p m a o) : belowO m.nx o = true := by
  cases o with
  | lst xs => obtain ⟨vs, _, h2⟩ := h; exact rels_below h2
  | ins c fs => obtain ⟨dx, ys, _, h2⟩ := h; exact frel_below h2
  | dct kvs => obtain ⟨ys, _, h2⟩ := h; exact krel_below h2
theorem orel_low {m : Sim} {n : Nat} {a : Addr} {o : O} (h : ORel p m a o) (b : belowO n o = true) : ORel p (m.low n) a o := by
  cases o with
  | lst xs => obtain ⟨vs, h1, h2⟩ := h; exact ⟨vs, h1, rels_low h2 b⟩
  | ins c fs => obtain ⟨dx, ys, h1, h2⟩ := h; exact ⟨dx, ys, h1, frel_low h2 b⟩
  | dct kvs => obtain ⟨ys, h1, h2⟩ := h; exact ⟨ys, h1, krel_low h2 b⟩
theorem addAll_left {l m : List Nat} {n : Nat} (h : n ∈ l) : n ∈ addAll l m := by
  unfold addAll
  induction m with
  | nil => exact h
  | cons a m ih => exact addD_mem ih
theorem addAll_right {l : List Nat} {n : Nat} : ∀ {m : List Nat}, n ∈ m → n ∈ addAll l m
  | a :: m, h => by
    rcases List.mem_cons.mp h with rfl | h
    · exact addD_self
    · exact addD_mem (addAll_right (m := m) h)
theorem leave_sim {m m' : Sim} {S S' : Store} {d : D} (k : SOk p m S) (e : Ext m ⟨S.objs, []⟩ m' S') (k' : SOk p m' S') : ∃ m'', m''.H = m'.H ∧ Ext m S m'' (leave S S' d) ∧ SOk p m'' (leave S S' d) ∧ ∀ v, Rel p m' d v → Rel p m'' d v := by
  unfold leave
  split
  · exact ⟨m', rfl, ⟨e.toUp, e.frame, e.trk, fun n h => addAll_left h, fun n hn hd => e.keep n hn fun z => hd (addAll_right z)⟩, ⟨k'.len, k'.obj, k'.inj⟩, fun v h => h⟩
  · dsimp only
    split
    · rename_i hc
      rw [Bool.and_eq_true] at hc
      obtain ⟨hb, ho⟩ := hc
      rw [k.len] at hb
      have hold : ∀ n, n < m.nx → n ∈ S'.dirty → ∀ o, S'.objs[n]? = some o → belowO m.nx o = true := fun n hn hd o hq => by
        have := List.all_eq_true.mp ho n (List.mem_filter.mpr ⟨hd, Nat.ble_eq_true_of_le (by rw [k.len]; exact hn)⟩)
        rw [hq, k.len] at this
        exact this
      refine ⟨m'.low m.nx, rfl, ⟨⟨Nat.le_refl _, e.same, e.tups, e.frzs⟩, fun a o h t n => ?_, e.trk, fun n h => addAll_left h, fun n hn hd => ?_⟩, ⟨?_, fun n o hq => ?_, fun i j hi hj => k'.inj i j (Nat.lt_of_lt_of_le hi e.le) (Nat.lt_of_lt_of_le hj e.le)⟩, fun v h => rel_low h hb⟩
      · obtain ⟨h1, h2⟩ := e.frame a o h t n
        exact ⟨h1, fun i hi => h2 i (Nat.lt_of_lt_of_le hi e.le)⟩
      · show (S'.objs.take S.objs.length)[n]? = _
        rw [List.getElem?_take, if_pos (by rw [k.len]; exact hn)]
        exact e.keep n hn fun z => hd (addAll_right (List.mem_filter.mpr ⟨z, Nat.ble_eq_true_of_le (by rw [k.len]; exact hn)⟩))
      · show (S'.objs.take S.objs.length).length = m.nx
        rw [List.length_take, k.len, k'.len]
        exact Nat.min_eq_left e.le
      · have hq : (S'.objs.take S.objs.length)[n]? = some o := hq
        rw [List.getElem?_take] at hq
        split at hq
        · rename_i hn
          rw [k.len] at hn
          refine orel_low (k'.obj n o hq) ?_
          by_cases hd : n ∈ S'.dirty
          · exact hold n hn hd o hq
          · have := e.keep n hn hd
            rw [hq] at this
            exact orel_below (k.obj n o this.symm)
        · cases hq
    · exact ⟨m', rfl, ⟨e.toUp, e.frame, e.trk, fun n h => addAll_left h, fun n hn hd => e.keep n hn fun z => hd (addAll_right (List.mem_filter.mpr ⟨z, Nat.ble_eq_true_of_le (by rw [k.len]; exact hn)⟩))⟩, ⟨k'.len, k'.obj, k'.inj⟩, fun v h => h⟩
theorem initE_rel {m : Sim} {ds : List D} {vs : List V} {N : List Str} (h : RelL p m ds vs) : EnvR p m (initE N.length ds) (L2.start N vs) := by
  unfold initE L2.start
  have hl := h.length
  refine ⟨by simp [hl], fun i d hd => ?_⟩
  by_cases hi : i < ds.length
  · rw [List.getElem?_append_left (by simpa using hi), List.getElem?_map, List.getElem?_eq_getElem hi] at hd
    have hd : ds[i] = d := Option.some.inj (Option.some.inj hd)
    obtain ⟨v, h1, h2⟩ := h.get (List.getElem?_eq_getElem hi)
    refine ⟨v, ?_, hd ▸ h2⟩
    rw [List.getElem?_append_left (by simpa [← hl] using hi), List.getElem?_map, h1]; rfl
  · rw [List.getElem?_append_right (by simpa using hi)] at hd
    rw [List.getElem?_replicate] at hd
    split at hd <;> cases hd
theorem run_body {m : Sim} {S : Store} {ds : List D} {vs : List V} {N : List Str} {n : Nat} {b : SF} {Q : VK} {E : XK} (k : SOk p m S) (h : RelL p m ds vs) (hn : ds.length = n) (g : GR p (exX p E) (qE p Q) (runF n N.length b ds S) m S) :
    tS p (wE E) b { nx := fun _ H' => Q .non H', rt := Q } (L2.start N vs) m.H := by
  refine ⟨m, ⟨S.objs, []⟩, initE N.length ds, rfl, ⟨k.len, k.obj, k.inj⟩, initE_rel h, ?_⟩
  unfold runF at g
  rw [if_pos hn] at g
  cases q : b (initE N.length ds) ⟨S.objs, []⟩ with
  | stuck => rw [q] at g; exact g.elim
  | exc x S' =>
    rw [q] at g
    intro m' e' k' dd hdd
    obtain ⟨m'', hH, e2, k2, _⟩ := leave_sim (d := .non) k e' k'
    unfold XRel at hdd
    cases qa : x.a with
    | none =>
      rw [qa] at hdd
      dsimp only at g
      rw [qa] at g
      have := g m'' e2 k2 dd (by unfold XRel; rw [qa]; exact hdd)
      rw [hH] at this
      exact this
    | some d =>
      rw [qa] at hdd
      dsimp only at g
      rw [qa] at g
      cases d with
      | int i =>
        have := g m'' e2 k2 dd (by
          unfold XRel
          rw [qa]
          obtain ⟨a, v, h1, h2, h3⟩ := hdd
          exact ⟨a, v, h1, by rw [hH]; exact h2, h3⟩)
        rw [hH] at this
        exact this
      | _ => exact g.elim
  | ok fl S' =>
    rw [q] at g
    intro m' e' k'
    cases fl with
    | nx env1 =>
      intro σ1 er1
      obtain ⟨m'', hH, e2, k2, h2⟩ := leave_sim (d := .non) k e' k'
      have := g m'' e2 k2 .non rfl
      rw [hH] at this
      exact this
    | rt d =>
      intro v hv
      obtain ⟨m'', hH, e2, k2, h2⟩ := leave_sim (d := d) k e' k'
      have := g m'' e2 k2 v (h2 v hv)
      rw [hH] at this
      exact this
    | bk _ => exact g.elim
    | ct _ => exact g.elim
theorem fn_ok {CX : CXT} {P : Program} {w : World} {K : PySem.W.Frag} {mg : Str → Option Value} {base : Heap} {kk : Nat} {f : Addr} {name qual : Str} {params : Arguments} {body : List Stmt} {scope : Scope} {dV kV doc pm cdv ct oc : Value} {an od : Option Addr}
    {osl : Array (Option Value)} {N ps : List Str} {cl : CallF} {j : Nat} {b : SF} (lk : K.lookup f = some ⟨oc, od, .func (PySem.W.fnOf name qual params body scope dV kV doc pm an cdv ct), osl⟩) (hcd : PySem.W.codeIn K cdv qual = true) (S : FnScope N ps scope)
    (hcl : ∀ ds S, cl j ds S = runF ps.length N.length b ds S)
    (hbody : ∀ (A : Around) (outer : List PySem.Env) (s : Shared) (H : Hp) (E : XK), Room kk (A.deeper (envOfC qual scope s.heap.objs.size f cdv)) → PSs (cxOf CX P w K mg base N qual scope f cdv A outer s H E) body (tS p (wE E) b)) :
    FnOk P w K mg base CX (kk + 1) f (PySem.W.fnOf name qual params body scope dV kV doc pm an cdv ct) ps (spOf p cl j ps.length) :=
  fn_of lk hcd S (fun vs H Q E ⟨m, St, ds, _, _, h, hl, _⟩ => by rw [← h.length, hl]) fun A outer s H vs Q E hr ⟨m, St, ds, hH, k, h, hl, g⟩ => by
    subst hH
    exact ⟨_, hbody A outer s m.H E hr, run_body k h hl (by rw [← hcl]; exact g)⟩
end
section
variable {p : Par} {X : Cx} {W : WX} {pos : Pos} {CX : CXT} {kk : Nat} {fd : FuncData} {ps : List Str} {cl : CallF} {j n : Nat} {l : LF}
theorem se_call {x : Str} {pp : Pos} {e : Expr} {es : List Expr} (F : FnOk X.prog X.w X.K X.mg X.base CX kk (p.FA j) fd ps (spOf p cl j n)) (hr : Room kk X.A) (hg : Gl X x) (hm : X.mg x = some (.ref (p.FA j))) (hk : PySem.W.keepIn X.K (.ref (p.FA j)) = true) (hb : Binds X.K fd ps [])
    (hx : ∀ σ, PassesAt CX X σ (WE W σ)) (ha : PA X (e :: es) (tA p W l)) (hn : LenL l n) (hdb : (x == ("__debug__" : Str)) = false) (hp : (e :: es).all plainX = true) : PE X (.Call (.Name x pp) (e :: es) [] pos) (tE p W (callE cl j l)) := by
  rw [List.all_cons, Bool.and_eq_true] at hp
  refine PE.conv (pe_callS F hr hg hm hk hb hx ha hdb (star_cons es X.env hp.1) (star_plain hp.2)) fun σ H Q ⟨m, S, env, hH, k, er, g⟩ => ?_
  subst hH
  refine ⟨m, S, env, rfl, k, er, ?_⟩
  unfold callE at g
  cases q : l env S with
  | ok ds S1 =>
    rw [q] at g
    intro m1 e1 k1 vs hvs
    exact ⟨m1, S1, ds, rfl, k1, hvs, hn env S ds S1 q, GR.later g e1⟩
  | exc x S1 => rw [q] at g; exact g
  | stuck => rw [q] at g; exact g.elim
end
section
variable {p : Par} {X : Cx} {E : XK} {pos : Pos} {CX : CXT} {kk : Nat} {fd : FuncData} {ps : List Str} {cl : CallF} {j n c : Nat} {l : LF}
theorem lookup_no {m : Sim} {mn : Str} (hmn : ∀ f, f < p.nF → p.FN f ≠ mn) : ∀ {fs : List (Nat × D)} {ys : List (Str × V)}, FRel p m fs ys → ys.lookup mn = none
  | [], _, h => by cases (show _ = [] from h); rfl
  | (f, d) :: r, _, h => by
    obtain ⟨v, s, rfl, h0, h2, h3⟩ := (show ∃ v s, _ = (p.FN f, v) :: s ∧ f < p.nF ∧ Rel p m d v ∧ FRel p m r s from h)
    rw [List.lookup, beq_eq_false_iff_ne.mpr fun z => hmn f h0 z.symm]
    exact lookup_no hmn h3
theorem conv_meth {mn : Str} (hmn : ∀ f, f < p.nF → p.FN f ≠ mn) {fo : EF} (hn : LenL l n) {σ : L2.St} {H : Hp} {Q : VK} (h : tE p (wE E) (methE cl [(c, j)] fo l) σ H Q) : tMeth (p.CA c) mn (spOf p cl j (n + 1)) [] E (tE p (wE E) fo) (tA p (wE E) l) σ H Q := by
  obtain ⟨m, S, env, rfl, k, er, g⟩ := h
  refine ⟨m, S, env, rfl, k, er, g.bindE fun d m1 S1 e1 k1 g1 x hx => ?_⟩
  cases d with
  | ref i =>
    obtain ⟨hi, rfl⟩ := k1.ref hx
    dsimp only at g1
    cases q : S1.objs[i]? with
    | none => rw [q] at g1; exact g1.elim
    | some o =>
      rw [q] at g1
      cases o with
      | ins c' fs =>
        obtain ⟨dx, ys, h1, h2⟩ := k1.obj i _ q
        dsimp only at g1
        by_cases hc : c' = c
        · subst hc
          rw [List.lookup, beq_self_eq_true] at g1
          refine ⟨_, dx, ys, rfl, h1, lookup_no hmn h2, m1, S1, env, rfl, k1, er.mono e1.toUp, ?_⟩
          dsimp only at g1
          cases q2 : l env S1 with
          | ok ds S2 =>
            rw [q2] at g1
            intro m2 e2 k2 vs hvs
            refine ⟨m2, S2, .ref i :: ds, rfl, k2, ?_, by simp [hn env S1 ds S2 q2], GR.later g1 e2⟩
            rw [List.append_nil]
            exact RelL.cons ((show Rel p m1 (.ref i) (.ref (m1.μ i)) from hx).mono e2.toUp) hvs
          | exc x S2 => rw [q2] at g1; exact g1
          | stuck => rw [q2] at g1; exact g1.elim
        · rw [List.lookup, beq_eq_false_iff_ne.mpr hc, List.lookup] at g1
          exact g1.elim
      | lst _ => exact g1.elim
      | dct _ => exact g1.elim
  | _ => exact g1.elim
theorem conv_make (hn : LenL l n) {σ : L2.St} {H : Hp} {Q : VK} (h : tE p (wE E) (makeE cl c j l) σ H Q) : tMake (p.CA c) (spOf p cl j (n + 1)) [] E (tA p (wE E) l) σ H Q := by
  obtain ⟨m, S, env, rfl, k, er, g⟩ := h
  refine ⟨m, S, env, rfl, k, er, ?_⟩
  unfold makeE at g
  cases q : l env S with
  | exc x S1 => rw [q] at g; exact g
  | stuck => rw [q] at g; exact g.elim
  | ok ds S1 =>
    rw [q] at g
    intro m1 e1 k1 vs hvs x dx hx hdx hne
    have g1 := GR.later (show GR p _ (qE p Q) ((cl j (.ref S1.objs.length :: ds) ⟨S1.objs ++ [.ins c []], S1.dirty⟩).bind fun d S2 => match d with | .non => .ok (.ref S1.objs.length) S2 | _ => .stuck) m S from g) e1
    have ea := Ext.put (S := S1) (o := .own x) hdx
    have ka := k1.put (o := .own x) hdx
    have hx2 : (m1.put dx (.own x)).H x = none := by show upd m1.H dx _ x = none; rw [upd_ne (Ne.symm hne)]; exact hx
    have eb := Ext.put (S := S1) (o := .ins (p.CA c) dx []) hx2
    have kb := ka.put (o := .ins (p.CA c) dx []) hx2
    have hno : ∀ i, i < ((m1.put dx (.own x)).put x (.ins (p.CA c) dx [])).nx → x ≠ ((m1.put dx (.own x)).put x (.ins (p.CA c) dx [])).μ i := fun i hi z => by
      obtain ⟨u, hu⟩ := k1.tracked hi
      rw [show m1.μ i = x from z.symm, hx] at hu; cases hu
    have k2 := kb.adopt (o := .ins c []) (a := x) ⟨dx, [], put_at, rfl⟩ hno
    have e2 := Ext.adopt (o := .ins c []) (ea.trans eb) kb hx
    refine ⟨((m1.put dx (.own x)).put x (.ins (p.CA c) dx [])).adopt x, ⟨S1.objs ++ [.ins c []], S1.dirty⟩, .ref S1.objs.length :: ds, rfl, k2, ?_, by simp [hn env S ds S1 q], ?_⟩
    · rw [List.append_nil]
      refine RelL.cons ⟨?_, ?_⟩ (hvs.mono e2.toUp)
      · show S1.objs.length < m1.nx + 1
        rw [k1.len]; omega
      · rw [k1.len]; exact congrArg V.ref (adopt_new (m := (m1.put dx (.own x)).put x (.ins (p.CA c) dx []))).symm
    · refine GR.bindE (GR.later g1 e2) fun d m3 S3 e3 k3 g3 v hv => ?_
      cases d with
      | non =>
        refine ⟨hv, g3.ok k3 (.ref x) ⟨?_, ?_⟩⟩
        · have h0 : m1.nx + 1 ≤ m3.nx := e3.le
          show S1.objs.length < m3.nx
          rw [k1.len]; omega
        · have h0 := e3.same m1.nx (Nat.lt_succ_self _)
          rw [k1.len, h0]
          exact congrArg V.ref (adopt_new (m := (m1.put dx (.own x)).put x (.ins (p.CA c) dx []))).symm
      | _ => exact g3.elim
end
end Ev
set_option Elab.async false
set_option linter.all false
set_option maxRecDepth 100000
set_option maxHeartbeats 4000000
namespace Ev
open PySem PySem.Spec PyProof.Rows L2
section
variable {p : Par} {X : Cx} {W : WX} {pos : Pos}
theorem sl_catVL {a b : Expr} {fa : EF} {fb : LF} (ha : PE X a (tE p W fa)) (hb : PE X b (tL p W fb)) : PE X (.BinOp a .Add b pos) (tL p W (catVL fa fb)) :=
  PE.conv (pe_op op_cat ha hb) fun σ H Q h => by
    obtain ⟨m, S, env, rfl, k, er, g⟩ := h
    refine ⟨m, S, env, rfl, k, er, g.bindE fun d m1 S1 e1 k1 g1 x hx => ?_⟩
    refine ⟨m1, S1, env, rfl, k1, er.mono e1.toUp, g1.bindE fun ys m2 S2 e2 k2 g2 b us hfree2 hat2 hne2 hvs2 => ?_⟩
    cases d with
    | ref n =>
      obtain ⟨hn, rfl⟩ := k1.ref hx
      dsimp only at g2
      cases q : S2.objs[n]? with
      | none => rw [q] at g2; exact g2.elim
      | some o =>
        rw [q] at g2
        cases o with
        | lst xs =>
          obtain ⟨vs, h1, h2⟩ := k2.obj n _ q
          dsimp only at g2
          split at g2
          · rename_i hz
            refine ⟨_, b, vs, us, rfl, rfl, by rw [← e2.same n hn]; exact h1, hat2, ?_, fun l hl => ?_⟩
            · rw [← h2.length, ← hvs2.length]; exact sizeOk_le hz
            · exact qL.new g2 k2 (fun a q => e1.free (e2.free q)) l _ hl (h2.append hvs2)
          · exact g2.elim
        | ins _ _ => exact g2.elim
        | dct _ => exact g2.elim
    | _ => exact g2.elim
theorem sl_if {c a b : Expr} {t : TF} {fa fb : LF} (hc : PT X c (tT p W t)) (ha : PE X a (tL p W fa)) (hb : PE X b (tL p W fb)) : PE X (.IfExp c a b pos) (tL p W (ifL t fa fb)) :=
  PE.conv (pe_ifExp hc ha hb) fun σ H Q ⟨m, S, env, hH, k, er, g⟩ => by
    subst hH
    refine ⟨m, S, env, rfl, k, er, g.bindE fun b m1 S1 e1 k1 g1 => ?_⟩
    have lift : ∀ {l : LF}, GR p (wx p W σ) (qL p m Q) (l env S1) m1 S1 → tL p W l σ m1.H Q := fun g => ⟨m1, S1, env, rfl, k1, er.mono e1.toUp, g.imp fun ds m2 S2 e2 k2 h a vs hf hat hne hr => h a vs (e1.free hf) hat hne hr⟩
    cases b with
    | true => exact lift g1
    | false => exact lift g1
theorem sl_listE (hK : X.K = p.K) {x : Str} {pp : Pos} {a : Expr} {f : EF} (hx : x = "list") (hg : Gl X x) (hm : X.mg x = none) (ha : PE X a (tE p W f)) (hp : plainX a = true) : PE X (.Call (.Name x pp) [a] [] pos) (tL p W (listL f)) := by
  subst hx
  refine PE.conv (pe_callTy (call_list hK) hg hm boot_list (pa_cons ha pa_nil (star_cons [] X.env hp)) (by decide) (by decide) (star_cons [] X.env hp) rfl) fun σ H Q h => conv_newE ?_
  obtain ⟨m, S, env, rfl, k, er, g⟩ := h
  refine ⟨m, S, env, rfl, k, er, ?_⟩
  have : listL f env S = ((f env S).bind fun x S1 => match itemsD S1 x with | some ds => Rs.ofO (some ds) S1 | none => .stuck) := rfl
  exact (show GR p (wx p W σ) (qL p m Q) ((f env S).bind fun x S1 => match itemsD S1 x with | some ds => Rs.ofO (some ds) S1 | none => .stuck) m S from this ▸ g)
theorem sl_sortL (hK : X.K = p.K) (hu : X.A.units + 70 < cLine) {x : Str} {pp : Pos} {a : Expr} {l : LF} (hx : x = "sorted") (hg : Gl X x) (hm : X.mg x = none) (ha : PE X a (tL p W l)) (hp : plainX a = true) : PE X (.Call (.Name x pp) [a] [] pos) (tL p W (sortL l)) := by
  subst hx
  exact PE.conv (pe_callB (call_sorted hK hu) hg hm boot_sorted (pa_cons ha pa_nil (star_cons [] X.env hp)) (by decide) (by decide) (star_cons [] X.env hp) rfl) fun σ H Q h => conv_newL h
theorem CallR.or {f : Value} {r r' : List V → Hp → VK → Prop} (h : CallR X f r) (h' : CallR X f r') : CallR X f (fun xs H Q => r xs H Q ∨ r' xs H Q) := fun pins s σ H xs us Q I rv q => q.elim (h pins s σ H xs us Q I rv) (h' pins s σ H xs us Q I rv)
theorem sl_sortv (hK : X.K = p.K) (hc : X.calm = true) (hu : X.A.units + 70 < cLine) {x : Str} {pp : Pos} {a : Expr} {f : EF} (hx : x = "sorted") (hg : Gl X x) (hm : X.mg x = none) (ha : PE X a (tE p W f)) (hp : plainX a = true) : PE X (.Call (.Name x pp) [a] [] pos) (tL p W (sortvL f)) := by
  subst hx
  refine PE.conv (pe_callB (CallR.or (call_sorted hK hu) (call_sortD hK hc hu)) hg hm boot_sorted (pa_cons ha pa_nil (star_cons [] X.env hp)) (by decide) (by decide) (star_cons [] X.env hp) rfl) fun σ H Q ⟨m, S, env, hH, k, er, g⟩ => ?_
  subst hH
  refine ⟨m, S, env, rfl, k, er, g.bindE fun d m1 S1 e1 k1 g1 v hv => ?_⟩
  show rNew p false sortC [v] m1.H Q ∨ rSortD p [v] m1.H Q
  cases d with
  | ref n =>
    obtain ⟨hn, rfl⟩ := k1.ref hv
    dsimp only at g1
    cases q : S1.objs[n]? with
    | none => rw [q] at g1; exact g1.elim
    | some o =>
      rw [q] at g1
      cases o with
      | lst xs =>
        obtain ⟨vs, h1, h2⟩ := k1.obj n _ q
        dsimp only at g1
        cases q2 : sortC xs with
        | none => rw [q2] at g1; exact g1.elim
        | some zs =>
          rw [q2] at g1
          exact .inl ⟨m1, S1, _, vs, xs, zs, rfl, rfl, k1, .inl (SqL.of h1), h2, q2, qL.new g1 k1 fun a => e1.free⟩
      | dct kvs =>
        dsimp only at g1
        obtain ⟨ys, h1, h2⟩ := k1.obj n _ q
        cases q2 : sortC (keysOf kvs) with
        | none => rw [q2] at g1; exact g1.elim
        | some zs =>
          rw [q2] at g1
          exact .inr ⟨m1, S1, _, kvs, ys, zs, rfl, rfl, k1, h1, h2, q2, qL.new g1 k1 fun a => e1.free⟩
      | ins _ _ => exact g1.elim
  | _ => exact g1.elim
theorem boot_ty (t : Ty) : bootBuiltins (Str.ofString (tyName t)) = some (.type (tyName t)) := by
  cases t
  · exact boot_int
  · exact boot_bool
  · exact boot_str
  · exact boot_tuple
  · exact boot_list
theorem se_isi (hK : X.K = p.K) {x y : Str} {pp pq : Pos} {a : Expr} {f : EF} {t : Ty} (hx : x = "isinstance") (hy : y = Str.ofString (tyName t)) (hg : Gl X x) (hm : X.mg x = none) (hgy : Gl X y) (hmy : X.mg y = none) (ha : PE X a (tE p W f)) (hp : plainX a = true) :
    PE X (.Call (.Name x pp) [a, .Name y pq] [] pos) (tE p W (un1 (opIsi t) f)) := by
  subst hx hy
  have ht : PE X (.Name (Str.ofString (tyName t)) pq) (tC (.ty (tyName t))) := pe_bltn hgy hmy (boot_ty t) rfl (by cases t <;> decide) (by cases t <;> decide)
  refine PE.conv (pe_callB (call_isiD hK t) hg hm boot_isinstance (pa_cons ha (pa_cons ht pa_nil rfl) (star_cons _ X.env hp)) (by decide) (by decide) (star_cons _ X.env hp) rfl) fun σ H Q ⟨m, S, env, hH, k, er, g⟩ => ?_
  subst hH
  refine ⟨m, S, env, rfl, k, er, g.bindE fun d m1 S1 e1 k1 g1 v hv => ?_⟩
  show rIsiD p t [v, .ty (tyName t)] m1.H Q
  refine ⟨m1, S1, d, v, rfl, rfl, k1, hv, ?_⟩
  unfold opIsi at g1 ⊢
  cases q : (isTy S1 t d).map D.bl with
  | none => rw [q] at g1; exact g1.elim
  | some b => rw [q] at g1; exact g1
theorem se_coreE (hK : X.K = p.K) {x : Str} {pp : Pos} {id : String} {a : Expr} {f : EF} {g : List D → Option D} (h1 : LstR p X (.builtin id) g) (h2 : TupR p X (.builtin id) g) (hg : Gl X x) (hm : X.mg x = none) (hv : bootBuiltins x = some (.builtin id)) (hn : x ≠ "__name__") (hdb : (x == ("__debug__" : Str)) = false) (ha : PE X a (tE p W f)) (hp : plainX a = true) :
    PE X (.Call (.Name x pp) [a] [] pos) (tE p W (coreE g f)) :=
  PE.conv (pe_callB (CallR.or (call_lst hK h1) (call_tup hK h2)) hg hm hv (pa_cons ha pa_nil (star_cons [] X.env hp)) hn hdb (star_cons [] X.env hp) rfl) fun σ H Q h => conv_rBoth h
theorem se_coreL (hK : X.K = p.K) {x : Str} {pp : Pos} {id : String} {a : Expr} {l : LF} {g : List D → Option D} (h1 : LstR p X (.builtin id) g) (hg : Gl X x) (hm : X.mg x = none) (hv : bootBuiltins x = some (.builtin id)) (hn : x ≠ "__name__") (hdb : (x == ("__debug__" : Str)) = false) (ha : PE X a (tL p W l)) (hp : plainX a = true) :
    PE X (.Call (.Name x pp) [a] [] pos) (tE p W (coreL g l)) :=
  PE.conv (pe_callB (call_lst hK h1) hg hm hv (pa_cons ha pa_nil (star_cons [] X.env hp)) hn hdb (star_cons [] X.env hp) rfl) fun σ H Q h => conv_rLst h
theorem se_coreTE (hK : X.K = p.K) {x : Str} {pp : Pos} {id : String} {a : Expr} {f : EF} {g : List D → Option D} (h1 : LstR p X (.type id) g) (h2 : TupR p X (.type id) g) (hg : Gl X x) (hm : X.mg x = none) (hv : bootBuiltins x = some (.type id)) (hn : x ≠ "__name__") (hdb : (x == ("__debug__" : Str)) = false) (ha : PE X a (tE p W f)) (hp : plainX a = true) :
    PE X (.Call (.Name x pp) [a] [] pos) (tE p W (coreE g f)) :=
  PE.conv (pe_callTy (CallR.or (call_lst hK h1) (call_tup hK h2)) hg hm hv (pa_cons ha pa_nil (star_cons [] X.env hp)) hn hdb (star_cons [] X.env hp) rfl) fun σ H Q h => conv_rBoth h
theorem se_coreTL (hK : X.K = p.K) {x : Str} {pp : Pos} {id : String} {a : Expr} {l : LF} {g : List D → Option D} (h1 : LstR p X (.type id) g) (hg : Gl X x) (hm : X.mg x = none) (hv : bootBuiltins x = some (.type id)) (hn : x ≠ "__name__") (hdb : (x == ("__debug__" : Str)) = false) (ha : PE X a (tL p W l)) (hp : plainX a = true) :
    PE X (.Call (.Name x pp) [a] [] pos) (tE p W (coreL g l)) :=
  PE.conv (pe_callTy (call_lst hK h1) hg hm hv (pa_cons ha pa_nil (star_cons [] X.env hp)) hn hdb (star_cons [] X.env hp) rfl) fun σ H Q h => conv_rLst h
theorem opAbs_ne (x : D) (S : Store) (e : Ev.X) (S' : Store) : opAbs x S ≠ .exc e S' := fun q => by unfold opAbs at q; split at q <;> cases q
theorem opInt_ne (x : D) (S : Store) (e : Ev.X) (S' : Store) : opInt x S ≠ .exc e S' := fun q => by unfold opInt at q; split at q <;> cases q
theorem opMax_ne (x y : D) (S : Store) (e : Ev.X) (S' : Store) : opMax x y S ≠ .exc e S' := fun q => by unfold opMax at q; split at q <;> cases q
theorem opMin_ne (x y : D) (S : Store) (e : Ev.X) (S' : Store) : opMin x y S ≠ .exc e S' := fun q => by unfold opMin at q; split at q <;> cases q
theorem se_abs {x : Str} {pp : Pos} {a : Expr} {f : EF} (hx : x = "abs") (hg : Gl X x) (hm : X.mg x = none) (ha : PE X a (tE p W f)) (hp : plainX a = true) : PE X (.Call (.Name x pp) [a] [] pos) (tE p W (un1 opAbs f)) := by
  subst hx
  exact PE.conv (pe_callB cl_abs hg hm (by kernel_rfl) (pa_cons ha pa_nil (star_cons [] X.env hp)) (by decide) (by decide) (star_cons [] X.env hp) rfl) fun σ H Q h => conv_c1 opAbs_ne h
theorem se_int {x : Str} {pp : Pos} {a : Expr} {f : EF} (hx : x = "int") (hg : Gl X x) (hm : X.mg x = none) (ha : PE X a (tE p W f)) (hp : plainX a = true) : PE X (.Call (.Name x pp) [a] [] pos) (tE p W (un1 opInt f)) := by
  subst hx
  exact PE.conv (pe_callTy cl_int hg hm boot_int (pa_cons ha pa_nil (star_cons [] X.env hp)) (by decide) (by decide) (star_cons [] X.env hp) rfl) fun σ H Q h => conv_c1 opInt_ne h
theorem se_max (hc : X.calm = true) {x : Str} {pp : Pos} {a b : Expr} {f g : EF} (hx : x = "max") (hg : Gl X x) (hm : X.mg x = none) (ha : PE X a (tE p W f)) (hb : PE X b (tE p W g)) (hp : plainX a = true) (hp' : plainX b = true) : PE X (.Call (.Name x pp) [a, b] [] pos) (tE p W (bin2 opMax f g)) := by
  subst hx
  exact PE.conv (pe_callB (cl_max hc) hg hm boot_max (pa_cons ha (pa_cons hb pa_nil (star_cons [] X.env hp')) (star_cons [b] X.env hp)) (by decide) (by decide) (star_cons [b] X.env hp) (by rw [star_cons [] X.env hp']; rfl)) fun σ H Q h => conv_c2 opMax_ne h
theorem se_min (hc : X.calm = true) {x : Str} {pp : Pos} {a b : Expr} {f g : EF} (hx : x = "min") (hg : Gl X x) (hm : X.mg x = none) (ha : PE X a (tE p W f)) (hb : PE X b (tE p W g)) (hp : plainX a = true) (hp' : plainX b = true) : PE X (.Call (.Name x pp) [a, b] [] pos) (tE p W (bin2 opMin f g)) := by
  subst hx
  exact PE.conv (pe_callB (cl_min hc) hg hm boot_min (pa_cons ha (pa_cons hb pa_nil (star_cons [] X.env hp')) (star_cons [b] X.env hp)) (by decide) (by decide) (star_cons [b] X.env hp) (by rw [star_cons [] X.env hp']; rfl)) fun σ H Q h => conv_c2 opMin_ne h
end
end Ev
set_option Elab.async false
set_option linter.all false
set_option maxRecDepth 100000
set_option maxHeartbeats 4000000
namespace Ev
open PySem PySem.Spec PyProof.Rows L2
structure Glb where
  fns : List (Str × (Nat × Nat))
  csts : List (Str × D)
  clss : List (Str × (Nat × Nat × Nat))
  mths : List (Str × (Nat × Nat × Nat))
  flds : List (Str × Nat)
  cs : List Nat
  blt : List Str
structure Ctx where
  N : List Str
  sc : Scope
  own : Str → Bool
def kindC (c : Ctx) (x : Str) : Option NameKind := c.sc.names.lookup x
def visC (c : Ctx) (x : Str) : Bool := match kindC c x with
  | some .local => true
  | some .cell => true
  | some .free => true
  | _ => false
def gloC (c : Ctx) (x : Str) : Bool := match kindC c x with
  | some .globalImplicit => true
  | _ => false
def locC (c : Ctx) (x : Str) : Bool := match kindC c x with
  | some .local => true
  | some .cell => c.own x
  | _ => false
def isLocal (c : Ctx) (x : Str) : Bool := match kindC c x with
  | some .local => true
  | _ => false
def ixOf (x : Str) : List Str → Nat → Option Nat
  | [], _ => none
  | y :: r, i => if strEq y x then some i else ixOf x r (i + 1)
def look {α : Type} (x : Str) : List (Str × α) → Option α
  | [] => none
  | (y, a) :: r => if strEq y x then some a else look x r
def hasS (x : Str) : List Str → Bool
  | [] => false
  | y :: r => strEq y x || hasS x r
def sDebug : Str := Str.ofString "__debug__"
def sClassdict : Str := Str.ofString "__classdict__"
def okName (x : Str) : Bool := !strEq x sDebug && !strEq x sClassdict
def bltC (G : Glb) (c : Ctx) (x : Str) (s : String) : Bool := strEq x (Str.ofString s) && gloC c x && hasS x G.blt
structure Cmp where
  e : Ctx → Expr → Option EF
  l : Ctx → Expr → Option LF
  t : Ctx → Expr → Option TF
  i : Ctx → Expr → Expr → Option IF
  g : Ctx → Expr → Option (GF × List Nat)
  s : Ctx → Stmt → Option SF
def Cmp.none : Cmp := ⟨fun _ _ => .none, fun _ _ => .none, fun _ _ => .none, fun _ _ _ => .none, fun _ _ => .none, fun _ _ => .none⟩
def opOf : Operator → Option Op2
  | .Add => some opAdd
  | .Sub => some opSub
  | .Mult => some opMul
  | .FloorDiv => some opDiv
  | .Mod => some opMod
  | .Pow => some opPow
  | _ => none
def cmpOf : CmpOp → Option Op2
  | .Eq => some opEq
  | .NotEq => some opNe
  | .Lt => some opLt
  | .LtE => some opLe
  | .Gt => some opGt
  | .GtE => some opGe
  | .In => some opIn
  | .NotIn => some opNotIn
  | _ => none
def isSet : Expr → Bool
  | .Set .. => true
  | _ => false
def isCst : Expr → Option D
  | .Constant .none _ _ => some .non
  | .Constant (.bool b) _ _ => some (.bl b)
  | _ => none
def plainBase : Expr → Bool
  | .Call .. => false
  | _ => true
def isComp : Expr → Bool
  | .ListComp .. => true
  | .SetComp .. => true
  | .DictComp .. => true
  | _ => false
def listy : Nat → Expr → Bool
  | 0, _ => false
  | n + 1, e => match e with
    | .List .. => true
    | .ListComp .. => true
    | .IfExp _ a b _ => listy n a && listy n b
    | .BinOp a .Add b _ => listy n b
    | .Call (.Name x _) [_] [] _ => strEq x (Str.ofString "list") || strEq x (Str.ofString "sorted")
    | _ => false
def cA (ce : Expr → Option EF) : List Expr → Option LF
  | [] => some nilL
  | e :: r => if plainX e then match ce e with
      | some f => (match cA ce r with
        | some l => some (consL f l)
        | none => none)
      | none => none
    else none
def cEs (ce : Expr → Option EF) : List Expr → Option (List EF)
  | [] => some []
  | e :: r => match ce e with
    | some f => (match cEs ce r with
      | some l => some (f :: l)
      | none => none)
    | none => none
def cKeys : List (Option Expr) → Option (List Str)
  | [] => some []
  | some (.Constant (.str x) _ _) :: r => (match cKeys r with
    | some l => some (x :: l)
    | none => none)
  | _ => none
def nodupS : List Str → Bool
  | [] => true
  | x :: r => !hasS x r && nodupS r
def tyOf (x : Str) : Option Ty :=
  if strEq x (Str.ofString "int") then some .int else if strEq x (Str.ofString "bool") then some .bool else if strEq x (Str.ofString "str") then some .str else if strEq x (Str.ofString "tuple") then some .tuple else if strEq x (Str.ofString "list") then some .list else none
def cPO (ce : Expr → Option EF) : Option Expr → Option PF
  | none => some noP
  | some e => (ce e).map someP
def ownOf (N : List Str) : List (Str × NameKind) → List (Str × Nat)
  | [] => []
  | (n, k) :: r => if k == .local || k == .cell then match ixOf n N 0 with
      | some i => (n, i) :: ownOf N r
      | none => ownOf N r
    else ownOf N r
def blkB (c : Ctx) (scope : Scope) : Bool := (scope.kind == .function) && scope.names.all (fun y => (scope.names.lookup y.1 == some y.2)) && (c.sc.kind == .function) &&
  scope.names.all (fun y => if y.2 == .free then (kindC c y.1 == some .cell || kindC c y.1 == some .free) else true)
def inner (c : Ctx) (scope : Scope) : Ctx := ⟨c.N, relS scope c.sc, fun x => scope.names.lookup x == some .cell⟩
def cIfs (ct : Expr → Option TF) : List Expr → Option TF
  | [] => some yesT
  | [c] => ct c
  | _ => none
def cLc (k : Cmp) (c : Ctx) (elt tg iter : Expr) (ifs : List Expr) (scope : Scope) : Option LF :=
  if blkB c scope && !isSet iter then
    match k.i c tg iter, k.g (inner c scope) tg, cIfs (k.t (inner c scope)) ifs, k.e (inner c scope) elt with
    | some it, some (g, is), some t, some f => let vs := (ownOf c.N scope.names).map (·.2)
        if is.all (fun i => vs.contains i) then some (lcL vs it g t f) else none
    | _, _, _, _ => none
  else none
def cCore (G : Glb) (k : Cmp) (c : Ctx) (f : List D → Option D) (a : Expr) : Option EF :=
  if plainX a then (if listy 20 a then (k.l c a).map (coreL f) else (k.e c a).map (coreE f)) else none
def cCall1 (G : Glb) (k : Cmp) (c : Ctx) (x : Str) (a : Expr) : Option EF :=
  if bltC G c x "len" then cCore G k c fLen a
  else if bltC G c x "tuple" then cCore G k c fTup a
  else if bltC G c x "all" then (if plainX a && listy 20 a then (k.l c a).map (coreL fAll) else none)
  else if bltC G c x "any" then (if plainX a && listy 20 a then (k.l c a).map (coreL fAny) else none)
  else if bltC G c x "sum" then (if plainX a && listy 20 a then (k.l c a).map (coreL fSum) else none)
  else if bltC G c x "abs" then (if plainX a then (k.e c a).map (un1 opAbs) else none)
  else if bltC G c x "int" then (if plainX a then (k.e c a).map (un1 opInt) else none)
  else none
def cCall2 (G : Glb) (k : Cmp) (c : Ctx) (x : Str) (a b : Expr) : Option EF :=
  if bltC G c x "max" then (if plainX a && plainX b then match k.e c a, k.e c b with
    | some f, some g => some (bin2 opMax f g)
    | _, _ => none else none)
  else if bltC G c x "min" then (if plainX a && plainX b then match k.e c a, k.e c b with
    | some f, some g => some (bin2 opMin f g)
    | _, _ => none else none)
  else if bltC G c x "isinstance" then (match b with
    | .Name y _ => (match tyOf y with
      | some t => if plainX a && gloC c y && hasS y G.blt then (k.e c a).map (un1 (opIsi t)) else none
      | none => none)
    | _ => none)
  else none
def cCallF (G : Glb) (cl : CallF) (k : Cmp) (c : Ctx) (x : Str) (args : List Expr) : Option EF :=
  match look x G.fns with
  | some (j, n) => if gloC c x && okName x && (args.length == n) && !args.isEmpty then (cA (k.e c) args).map (callE cl j) else none
  | none => none
def cMake (G : Glb) (cl : CallF) (k : Cmp) (c : Ctx) (x : Str) (args : List Expr) : Option EF :=
  match look x G.clss with
  | some (ci, j, n) => if gloC c x && okName x && (args.length == n) then (cA (k.e c) args).map (makeE cl ci j) else none
  | none => none
def cMeth (G : Glb) (cl : CallF) (k : Cmp) (c : Ctx) (o : Expr) (m : Str) (ap : Pos) (args : List Expr) (p : Pos) : Option EF :=
  match look m G.mths with
  | some (ci, j, n) => if plainBase o && (args.length == n) && ((ap.endLine == p.line) && decide (args.length < 30)) then (match k.e c o with
      | some f => (cA (k.e c) args).map (methE cl [(ci, j)] f)
      | none => none) else none
  | none => none
def foldC (op : EF → EF → EF) (ce : Expr → Option EF) : List Expr → Option EF
  | [] => none
  | [a] => ce a
  | a :: r => match ce a, foldC op ce r with
    | some f, some g => some (op f g)
    | _, _ => none
def foldT (op : TF → TF → TF) (ct : Expr → Option TF) : List Expr → Option TF
  | [] => none
  | [a] => ct a
  | a :: r => match ct a, foldT op ct r with
    | some f, some g => some (op f g)
    | _, _ => none
def cConst : Const → Option EF
  | .none => some (cstE .non)
  | .bool b => some (cstE (.bl b))
  | .int i => some (cstE (.int i))
  | .str x => some (cstE (.str x))
  | _ => none
def cName (G : Glb) (c : Ctx) (x : Str) : Option EF := if okName x then (if visC c x then (ixOf x c.N 0).map varE else if gloC c x then (look x G.csts).map cstE else none) else none
def cBin (k : Cmp) (c : Ctx) (a : Expr) (op : Operator) (b : Expr) : Option EF := match opOf op with
  | some o => (match k.e c a with
    | some f => (match k.e c b with
      | some g => some (bin2 o f g)
      | none => none)
    | none => none)
  | none => none
def cUn (k : Cmp) (c : Ctx) (op : UnaryOp) (a : Expr) : Option EF := match op with
  | .Not => (k.e c a).map (un1 opNot)
  | .USub => (k.e c a).map (un1 opNeg)
  | _ => none
def cCmp (k : Cmp) (c : Ctx) (a : Expr) (ops : List CmpOp) (bs : List Expr) : Option EF := match ops, bs with
  | [o], [b] => (match o with
    | .Is => (match isCst b with
      | some d => (k.e c a).map (un1 (opIs d))
      | none => none)
    | .IsNot => (match isCst b with
      | some d => (k.e c a).map (un1 (opIsNot d))
      | none => none)
    | o => (match cmpOf o with
      | some op => if isSet b then none else (match k.e c a with
        | some f => (match k.e c b with
          | some g => some (bin2 op f g)
          | none => none)
        | none => none)
      | none => none))
  | [o, o'], [b, b'] => (match cmpOf o with
    | some op => (match cmpOf o' with
      | some op' => if isSet b' then none else (match k.e c a with
        | some f => (match k.e c b with
          | some g => (match k.e c b' with
            | some h => some (chainE op op' f g h)
            | none => none)
          | none => none)
        | none => none)
      | none => none)
    | none => none)
  | _, _ => none
def cIfE (k : Cmp) (c : Ctx) (t a b : Expr) : Option EF := match k.t c t with
  | some t => (match k.e c a with
    | some f => (match k.e c b with
      | some g => some (ifE t f g)
      | none => none)
    | none => none)
  | none => none
def cDisp (k : Cmp) (c : Ctx) (keys : List (Option Expr)) (values : List Expr) (i : Expr) : Option EF := match cKeys keys with
  | some ks => (match cEs (k.e c) values with
    | some fs => (match k.e c i with
      | some fi => if plainIx i && nodupS ks && (keys.length == values.length) && Nat.ble keys.length 15 && !keys.isEmpty then some (dispIxE ks (fs.foldr consL nilL) fi) else none
      | none => none)
    | none => none)
  | none => none
def cSlice (k : Cmp) (c : Ctx) (a : Expr) (lo hi : Option Expr) : Option EF := match k.e c a with
  | some f => (match cPO (k.e c) lo with
    | some l => (match cPO (k.e c) hi with
      | some h => some (sliceE f l h)
      | none => none)
    | none => none)
  | none => none
def cIx (k : Cmp) (c : Ctx) (a i : Expr) : Option EF := if plainIx i then (match k.e c a with
    | some f => (match k.e c i with
      | some g => some (bin2 opIx f g)
      | none => none)
    | none => none) else none
def isDict : Expr → Bool
  | .Dict .. => true
  | _ => false
def cSub (k : Cmp) (c : Ctx) (a i : Expr) : Option EF :=
  if isDict a then (match a with
    | .Dict keys values _ => cDisp k c keys values i
    | _ => none)
  else if plainIx i then cIx k c a i
  else match i with
    | .Slice lo hi none _ => cSlice k c a lo hi
    | _ => none
def cAttr (G : Glb) (k : Cmp) (c : Ctx) (o : Expr) (f : Str) : Option EF := match look f G.flds with
  | some i => if plainBase o then (k.e c o).map (un1 (opFld G.cs i)) else none
  | none => none
def cCallN (G : Glb) (cl : CallF) (k : Cmp) (c : Ctx) (x : Str) (args : List Expr) : Option EF := match look x G.fns with
  | some _ => cCallF G cl k c x args
  | none => (match look x G.clss with
    | some _ => cMake G cl k c x args
    | none => (match args with
      | [a] => cCall1 G k c x a
      | [a, b] => cCall2 G k c x a b
      | _ => none))
def cApp (k : Cmp) (c : Ctx) (o a : Expr) (ap p : Pos) : Option EF := if plainBase o && plainX a && (ap.endLine == p.line) then (match k.e c o with
    | some f => (match k.e c a with
      | some g => some (appE f g)
      | none => none)
    | none => none) else none
def cCallA (G : Glb) (cl : CallF) (k : Cmp) (c : Ctx) (o : Expr) (m : Str) (ap : Pos) (args : List Expr) (p : Pos) : Option EF :=
  if strEq m (Str.ofString "append") then (match args with
    | [a] => cApp k c o a ap p
    | _ => none)
  else cMeth G cl k c o m ap args p
def cCall (G : Glb) (cl : CallF) (k : Cmp) (c : Ctx) (f : Expr) (args : List Expr) (kws : List Keyword) (p : Pos) : Option EF := match kws with
  | [] => (match f with
    | .Name x _ => cCallN G cl k c x args
    | .Attribute o m ap => cCallA G cl k c o m ap args p
    | _ => none)
  | _ => none
def cDict (keys : List (Option Expr)) (values : List Expr) : Option EF := match keys, values with
  | [], [] => some newDE
  | _, _ => none
def stepE1 (G : Glb) (cl : CallF) (k : Cmp) (c : Ctx) (e : Expr) : Option EF := match e with
  | .Constant v _ _ => cConst v
  | .Name x _ => cName G c x
  | .Tuple es _ _ => if Nat.ble es.length 1000 then (cA (k.e c) es).map tupE else none
  | .BinOp a op b _ => cBin k c a op b
  | .UnaryOp op a _ => cUn k c op a
  | .BoolOp op es _ => (match op with
    | .And => foldC andE (k.e c) es
    | .Or => foldC orE (k.e c) es)
  | .IfExp t a b _ => cIfE k c t a b
  | .Compare a ops bs _ => cCmp k c a ops bs
  | .Subscript a i _ => cSub k c a i
  | .Attribute o f _ => cAttr G k c o f
  | .Call f args kws p => cCall G cl k c f args kws p
  | .Dict keys values _ => cDict keys values
  | _ => none
def stepE (G : Glb) (cl : CallF) (k : Cmp) (c : Ctx) (e : Expr) : Option EF := if listy 20 e then (k.l c e).map mkL else stepE1 G cl k c e
def cCat (k : Cmp) (c : Ctx) (a b : Expr) : Option LF := if listy 20 a then (match k.l c a with
    | some f => (match k.l c b with
      | some g => some (catL f g)
      | none => none)
    | none => none)
  else (match k.e c a with
    | some f => (match k.l c b with
      | some g => some (catVL f g)
      | none => none)
    | none => none)
def cIfL (k : Cmp) (c : Ctx) (t a b : Expr) : Option LF := match k.t c t with
  | some t => (match k.l c a with
    | some f => (match k.l c b with
      | some g => some (ifL t f g)
      | none => none)
    | none => none)
  | none => none
def cCallL (G : Glb) (k : Cmp) (c : Ctx) (x : Str) (a : Expr) : Option LF := if plainX a then
      (if bltC G c x "list" then (k.e c a).map listL
      else if bltC G c x "sorted" then (if listy 20 a then (k.l c a).map sortL else (k.e c a).map sortvL)
      else none) else none
def cComp (k : Cmp) (c : Ctx) (elt : Expr) (gs : List Comprehension) (scope : Scope) : Option LF := match gs with
  | [⟨tg, iter, ifs, a⟩] => if a == 0 then cLc k c elt tg iter ifs scope else none
  | _ => none
def stepL (G : Glb) (k : Cmp) (c : Ctx) (e : Expr) : Option LF := match e with
  | .List es _ => if Nat.ble es.length 1000 then cA (k.e c) es else none
  | .ListComp elt gs scope _ => cComp k c elt gs scope
  | .IfExp t a b _ => cIfL k c t a b
  | .BinOp a .Add b _ => cCat k c a b
  | .Call (.Name x _) [a] [] _ => cCallL G k c x a
  | _ => none
def valTest : Expr → Bool
  | .UnaryOp .Not _ _ => false
  | .BoolOp .. => false
  | .IfExp .. => false
  | .Compare .. => false
  | _ => true
def stepT (G : Glb) (k : Cmp) (c : Ctx) (e : Expr) : Option TF := if valTest e then (k.e c e).map truthT else match e with
  | .UnaryOp .Not a _ => (k.t c a).map notT
  | .BoolOp op es _ => (match op with
    | .And => foldT andT (k.t c) es
    | .Or => foldT orT (k.t c) es)
  | .Compare a ops bs _ => (cCmp k c a ops bs).map boolT
  | _ => none
def isTupE : Expr → Bool
  | .Tuple .. => true
  | _ => false
def cIt1 (G : Glb) (k : Cmp) (c : Ctx) (tg : Expr) (x : Str) (a : Expr) : Option IF :=
  if bltC G c x "range" then (if plainX a then (k.e c a).map rngI1 else none)
  else if bltC G c x "enumerate" then (if plainX a && isTupE tg then (k.e c a).map enumI else none)
  else none
def cIt2 (G : Glb) (k : Cmp) (c : Ctx) (tg : Expr) (x : Str) (a b : Expr) : Option IF :=
  if plainX a && plainX b then (match k.e c a with
    | some f => (match k.e c b with
      | some g => if bltC G c x "range" then some (rngI2 f g) else if bltC G c x "zip" && isTupE tg then some (zipI f g) else none
      | none => none)
    | none => none) else none
def cIt (G : Glb) (k : Cmp) (c : Ctx) (tg e : Expr) : Option IF := match e with
  | .Call (.Name x _) [a] [] _ => cIt1 G k c tg x a
  | .Call (.Name x _) [a, b] [] _ => cIt2 G k c tg x a b
  | _ => none
def stepI (G : Glb) (k : Cmp) (c : Ctx) (tg e : Expr) : Option IF :=
  if listy 20 e then (k.l c e).map lstI else match cIt G k c tg e with
    | some it => some it
    | none => (k.e c e).map valI
def cGs (cg : Expr → Option (GF × List Nat)) : List Expr → Option (GFs × List Nat)
  | [] => some (nilG, [])
  | e :: r => if plainX e then (match cg e with
      | some (g, is) => (match cGs cg r with
        | some (gs, js) => some (consG g gs, is ++ js)
        | none => none)
      | none => none)
    else none
def cGSub (k : Cmp) (c : Ctx) (o i : Expr) : Option (GF × List Nat) := match i with
  | .Tuple es _ _ => if Nat.ble es.length 1000 then (match k.e c o with
    | some f => (match cA (k.e c) es with
      | some l => some (dputG f l, [])
      | none => none)
    | none => none) else none
  | i => if plainIx i then (match k.e c o with
    | some f => (match k.e c i with
      | some g => some (subG f g, [])
      | none => none)
    | none => none) else none
def stepG (G : Glb) (k : Cmp) (c : Ctx) (e : Expr) : Option (GF × List Nat) := match e with
  | .Name x _ => if locC c x then (match ixOf x c.N 0 with
    | some i => some (nameG i, [i])
    | none => none) else none
  | .Tuple es _ _ => (match cGs (k.g c) es with
    | some (gs, is) => some (tupG es.length gs, is)
    | none => none)
  | .Attribute o f _ => (match look f G.flds with
    | some i => (match k.e c o with
      | some fo => some (fldG G.cs fo i, [])
      | none => none)
    | none => none)
  | .Subscript o i _ => cGSub k c o i
  | _ => none
def cSs (cs : Stmt → Option SF) : List Stmt → Option SF
  | [] => some skipS
  | a :: r => match r with
    | [] => cs a
    | _ :: _ => (match cs a with
      | some f => (match cSs cs r with
        | some g => some (seqS f g)
        | none => none)
      | none => none)
def nameAt (c : Ctx) (line : Nat) : Expr → Option Str
  | .Name id pos => if kindC c id == some .local && pos.line == line then some id else none
  | _ => none
def swapQ (c : Ctx) (ts vs : List Expr) : Option Bool :=
  if !(ts.length == 2 || ts.length == 3) || vs.length != ts.length then some false
  else if !vs.all plainX then none
  else
    let names := ts.filterMap (nameAt c ((ts.head?.map (·.pos.line)).getD 0))
    if names.length != ts.length || names.eraseDups.length != names.length then some false
    else if vs.all (foldedForSure 8) then some false
    else if vs.all (constantsAlone 8) then none
    else some true
def cPar (k : Cmp) (c : Ctx) (ts vs : List Expr) : Option SF := match ts, vs with
  | [.Name x _, .Name y _], [a, b] => (match ixOf x c.N 0 with
    | some i => (match ixOf y c.N 0 with
      | some j => (cA (k.e c) [a, b]).map (parS [i, j])
      | none => none)
    | none => none)
  | [.Name x _, .Name y _, .Name z _], [a, b, d] => (match ixOf x c.N 0 with
    | some i => (match ixOf y c.N 0 with
      | some j => (match ixOf z c.N 0 with
        | some h => (cA (k.e c) [a, b, d]).map (parS [i, j, h])
        | none => none)
      | none => none)
    | none => none)
  | _, _ => none
def cSetLc (k : Cmp) (c : Ctx) (y : Str) (py : Pos) (elt : Expr) (gs : List Comprehension) (scope : Scope) (p : Pos) : Option SF :=
  if isLocal c y && (py.line == p.line) && !(scope.names.any fun (n, k) => n == y && (k == .local || k == .cell)) then (match ixOf y c.N 0 with
    | some i => (cComp k c elt gs scope).map fun l => asgS (nameG i) (mkL l)
    | none => none) else none
def cAsg (k : Cmp) (c : Ctx) (tg e : Expr) : Option SF := if isComp e || !plainX tg then none else (match k.e c e with
  | some f => (match k.g c tg with
    | some (g, _) => some (asgS g f)
    | none => none)
  | none => none)
def cAssign (k : Cmp) (c : Ctx) (tg e : Expr) : Option SF := match e with
  | .ListComp elt gs scope p => (match tg with
    | .Name y py => cSetLc k c y py elt gs scope p
    | _ => none)
  | .Tuple vs _ _ => (match tg with
    | .Tuple ts _ _ => (match swapQ c ts vs with
      | some true => cPar k c ts vs
      | some false => cAsg k c tg e
      | none => none)
    | _ => cAsg k c tg e)
  | _ => cAsg k c tg e
def isDoc : Expr → Bool
  | .Constant (.str _) _ _ => true
  | _ => false
def cFor (k : Cmp) (c : Ctx) (tg iter : Expr) (b : List Stmt) : Option SF := if isSet iter then none else (match k.i c tg iter with
  | some it => (match k.g c tg with
    | some (g, _) => (match cSs (k.s c) b with
      | some f => some (forS it g f)
      | none => none)
    | none => none)
  | none => none)
def cIfS (k : Cmp) (c : Ctx) (t : Expr) (a b : List Stmt) : Option SF := match k.t c t with
  | some t => (match cSs (k.s c) a with
    | some f => (match cSs (k.s c) b with
      | some g => some (ifS t f g)
      | none => none)
    | none => none)
  | none => none
def cWhile (k : Cmp) (c : Ctx) (t : Expr) (b : List Stmt) : Option SF := match k.t c t with
  | some t => (match cSs (k.s c) b with
    | some f => some (whileS t f)
    | none => none)
  | none => none
def stepS (G : Glb) (k : Cmp) (c : Ctx) (s : Stmt) : Option SF := match s with
  | .Pass _ => some skipS
  | .Break _ => some brkS
  | .Continue _ => some ctS
  | .Raise _ _ _ => some nevS
  | .Expr e _ => if isDoc e then some skipS else if isComp e then none else (k.e c e).map exprS
  | .Return e _ => (match e with
    | none => some retN
    | some e => (k.e c e).map retS)
  | .If t a b _ => cIfS k c t a b
  | .While t b [] _ => cWhile k c t b
  | .For tg iter b [] _ => cFor k c tg iter b
  | .Assign [tg] e _ => cAssign k c tg e
  | _ => none
def stepC (G : Glb) (cl : CallF) (k : Cmp) : Cmp := ⟨stepE G cl k, stepL G k, stepT G k, stepI G k, stepG G k, stepS G k⟩
def comp (G : Glb) (cl : CallF) : Nat → Cmp
  | 0 => Cmp.none
  | n + 1 => stepC G cl (comp G cl n)
def compB (G : Glb) (cl : CallF) (c : Ctx) (body : List Stmt) : Option SF := cSs ((comp G cl 40).s c) body
end Ev
set_option Elab.async false
set_option linter.all false
set_option maxRecDepth 100000
set_option maxHeartbeats 4000000
namespace Ev
open PySem PySem.Spec PyProof.Rows L2
structure Fits (G : Glb) (p : Par) (CX : CXT) (cl : CallF) (c : Ctx) (X : Cx) : Prop where
  K : X.K = p.K
  calm : X.calm = true
  un : X.A.units + 100 < cLine
  N : X.N = c.N
  nd : c.N.Nodup
  sc : X.env.scope = c.sc
  own : X.fn = c.own
  kind : c.sc.kind = .function
  fns : ∀ x j n, look x G.fns = some (j, n) → X.mg x = some (.ref (p.FA j)) ∧ PySem.W.keepIn X.K (.ref (p.FA j)) = true ∧ ∃ kk fd ps, FnOk X.prog X.w X.K X.mg X.base CX kk (p.FA j) fd ps (spOf p cl j n) ∧ Room kk X.A ∧ Binds X.K fd ps []
  csts : ∀ x d, look x G.csts = some d → ∃ u v, X.mg x = some u ∧ RelV v u ∧ ∀ m, Rel p m d v
  clss : ∀ x ci j n, look x G.clss = some (ci, j, n) → X.mg x = some (.ref (p.CA ci)) ∧ ∃ kk fd ps, Mk X.K (p.CA ci) (p.FA j) ∧ FnOk X.prog X.w X.K X.mg X.base CX kk (p.FA j) fd ps (spOf p cl j (n + 1)) ∧ Room (kk + 1) X.A ∧ Binds X.K fd ps []
  mths : ∀ m ci j n, look m G.mths = some (ci, j, n) → (∀ f, f < p.nF → p.FN f ≠ m) ∧ Cls X.K (p.CA ci) ∧ Meth X.K (p.CA ci) m (p.FA j) ∧ ∃ kk fd ps, FnOk X.prog X.w X.K X.mg X.base CX kk (p.FA j) fd ps (spOf p cl j (n + 1)) ∧ Room kk X.A ∧ Binds X.K fd ps []
  flds : ∀ f i, look f G.flds = some i → f = p.FN i ∧ FldOk p G.cs i
  inj : FInj p
  blt : ∀ x, hasS x G.blt = true → X.mg x = none
  nocx : ∀ l H s e s', ¬ CX l H s (fun _ _ _ => False) e s'
section
variable {G : Glb} {p : Par} {CX : CXT} {cl : CallF} {c : Ctx} {X : Cx} {E : XK} {k : Cmp} {pos : Pos}
theorem strEq_ok {x y : Str} (h : strEq x y = true) : x = y := by rw [strEq_eq] at h; exact of_decide_eq_true h
theorem strEq_no {x y : Str} (h : strEq x y = false) : x ≠ y := by rw [strEq_eq] at h; exact of_decide_eq_false h
theorem ixOf_ge {x : Str} : ∀ {N : List Str} {i j : Nat}, ixOf x N i = some j → i ≤ j ∧ N[j - i]? = some x
  | [], _, _, h => by cases h
  | y :: r, i, j, h => by
    rw [ixOf] at h
    split at h
    · rename_i e
      cases h
      refine ⟨Nat.le_refl _, ?_⟩
      rw [Nat.sub_self, strEq_ok e]; rfl
    · obtain ⟨h1, h2⟩ := ixOf_ge h
      refine ⟨by omega, ?_⟩
      have : j - i = (j - (i + 1)) + 1 := by omega
      rw [this]; exact h2
theorem ixOf_ok {x : Str} {N : List Str} {j : Nat} (h : ixOf x N 0 = some j) : N[j]? = some x := by
  have := (ixOf_ge h).2
  simpa using this
theorem Fits.vis (F : Fits G p CX cl c X) {x : Str} (h : visC c x = true) : Vis X.env.scope x := by
  unfold Vis
  rw [F.sc]
  unfold visC kindC at h
  split at h
  · rename_i e; exact .inl e
  · rename_i e; exact .inr (.inl e)
  · rename_i e; exact .inr (.inr e)
  · cases h
theorem Fits.gl (F : Fits G p CX cl c X) {x : Str} (h : gloC c x = true) : Gl X x := by
  show X.env.scope.names.lookup x = _
  rw [F.sc]
  unfold gloC kindC at h
  split at h
  · rename_i e; exact e
  · cases h
theorem Fits.loc (F : Fits G p CX cl c X) {x : Str} (h : locC c x = true) : L2.Loc X.env.scope x ∧ (X.fn x = true ∨ X.env.scope.names.lookup x = some .local) := by
  unfold L2.Loc
  rw [F.sc, F.own]
  unfold locC kindC at h
  split at h
  · rename_i e; exact ⟨.inl e, .inr e⟩
  · rename_i e; exact ⟨.inr e, .inl h⟩
  · cases h
theorem Fits.lcl (F : Fits G p CX cl c X) {x : Str} (h : isLocal c x = true) : X.env.scope.names.lookup x = some .local := by
  rw [F.sc]
  unfold isLocal kindC at h
  split at h
  · rename_i e; exact e
  · cases h
theorem okName_ok {x : Str} (h : okName x = true) : (x == ("__debug__" : Str)) = false ∧ (x == ("__classdict__" : Str)) = false := by
  unfold okName at h
  simp only [Bool.and_eq_true, Bool.not_eq_true'] at h
  exact ⟨beq_eq_false_iff_ne.mpr (strEq_no h.1), beq_eq_false_iff_ne.mpr (strEq_no h.2)⟩
theorem Fits.bltin (F : Fits G p CX cl c X) {x : Str} {s : String} (h : bltC G c x s = true) : x = Str.ofString s ∧ Gl X x ∧ X.mg x = none := by
  unfold bltC at h
  simp only [Bool.and_eq_true] at h
  exact ⟨strEq_ok h.1.1, F.gl h.1.2, F.blt x h.2⟩
abbrev noE : XK := fun _ _ _ => False
theorem Fits.noP (F : Fits G p CX cl c X) : Passes CX X noE := fun _ _ _ _ _ _ _ h => absurd h (F.nocx _ _ _ _ _)
theorem Fits.u66 (F : Fits G p CX cl c X) : X.A.units + 66 < cLine := by have := F.un; omega
theorem Fits.u70 (F : Fits G p CX cl c X) : X.A.units + 70 < cLine := by have := F.un; omega
theorem Fits.u1 (F : Fits G p CX cl c X) : X.A.units + 1 < cLine := by have := F.un; omega
structure Good (G : Glb) (p : Par) (CX : CXT) (cl : CallF) (k : Cmp) : Prop where
  e : ∀ {c : Ctx} {X : Cx} {E : XK} {e : Expr} {f : EF}, Fits G p CX cl c X → Passes CX X E → k.e c e = some f → PE X e (tE p (wE E) f)
  l : ∀ {c : Ctx} {X : Cx} {E : XK} {e : Expr} {f : LF}, Fits G p CX cl c X → Passes CX X E → k.l c e = some f → PE X e (tL p (wE E) f)
  t : ∀ {c : Ctx} {X : Cx} {E : XK} {e : Expr} {f : TF}, Fits G p CX cl c X → Passes CX X E → k.t c e = some f → PT X e (tT p (wE E) f)
  i : ∀ {c : Ctx} {X : Cx} {E : XK} {tg e : Expr} {f : IF}, Fits G p CX cl c X → Passes CX X E → k.i c tg e = some f → PI X tg e (tI p (wE E) f)
  g : ∀ {c : Ctx} {X : Cx} {e : Expr} {f : GF} {is : List Nat}, Fits G p CX cl c X → k.g c e = some (f, is) → PG X e (tG p is f)
  s : ∀ {c : Ctx} {X : Cx} {E : XK} {s : Stmt} {f : SF}, Fits G p CX cl c X → Passes CX X E → PassesOwn (model X.prog X.w) X.A X.env X.xe → k.s c s = some f → PS X s (tS p (wE E) f)
theorem good_none : Good G p CX cl Cmp.none := ⟨(fun _ _ h => by cases h), (fun _ _ h => by cases h), (fun _ _ h => by cases h), (fun _ _ h => by cases h), (fun _ h => by cases h), (fun _ _ _ h => by cases h)⟩
theorem cA_ok (F : Fits G p CX cl c X) {ce : Expr → Option EF} (h : ∀ e f, ce e = some f → PE X e (tE p (wE E) f)) : ∀ {es : List Expr} {l : LF}, cA ce es = some l → PA X es (tA p (wE E) l) ∧ LenL l es.length ∧ es.all plainX = true
  | [], l, q => by cases q; exact ⟨sa_nil, len_nil, rfl⟩
  | e :: r, l, q => by
    rw [cA] at q
    split at q
    · rename_i hp
      split at q
      · rename_i f q1
        split at q
        · rename_i l1 q2
          cases q
          obtain ⟨a, b, d⟩ := cA_ok F h q2
          exact ⟨sa_cons (h e f q1) a (star_cons r X.env hp), len_cons b, by rw [List.all_cons, hp, d]; rfl⟩
        · cases q
      · cases q
    · cases q
theorem opAdd_ne (x y : D) (S : Store) (e : Ev.X) (S' : Store) : opAdd x y S ≠ .exc e S' := fun q => by unfold opAdd at q; (repeat' split at q) <;> cases q
theorem opSub_ne (x y : D) (S : Store) (e : Ev.X) (S' : Store) : opSub x y S ≠ .exc e S' := fun q => by unfold opSub at q; (repeat' split at q) <;> cases q
theorem opMul_ne (x y : D) (S : Store) (e : Ev.X) (S' : Store) : opMul x y S ≠ .exc e S' := fun q => by unfold opMul at q; (repeat' split at q) <;> cases q
theorem opDiv_ne (x y : D) (S : Store) (e : Ev.X) (S' : Store) : opDiv x y S ≠ .exc e S' := fun q => by unfold opDiv at q; (repeat' split at q) <;> cases q
theorem opMod_ne (x y : D) (S : Store) (e : Ev.X) (S' : Store) : opMod x y S ≠ .exc e S' := fun q => by unfold opMod at q; (repeat' split at q) <;> cases q
theorem opPow_ne (x y : D) (S : Store) (e : Ev.X) (S' : Store) : opPow x y S ≠ .exc e S' := fun q => by unfold opPow at q; (repeat' split at q) <;> cases q
theorem opEq_ne (x y : D) (S : Store) (e : Ev.X) (S' : Store) : opEq x y S ≠ .exc e S' := fun q => by unfold opEq at q; (repeat' split at q) <;> cases q
theorem opNe_ne (x y : D) (S : Store) (e : Ev.X) (S' : Store) : opNe x y S ≠ .exc e S' := fun q => by unfold opNe at q; (repeat' split at q) <;> cases q
theorem opLt_ne (x y : D) (S : Store) (e : Ev.X) (S' : Store) : opLt x y S ≠ .exc e S' := fun q => by unfold opLt at q; (repeat' split at q) <;> cases q
theorem opLe_ne (x y : D) (S : Store) (e : Ev.X) (S' : Store) : opLe x y S ≠ .exc e S' := fun q => by unfold opLe at q; (repeat' split at q) <;> cases q
theorem opGt_ne (x y : D) (S : Store) (e : Ev.X) (S' : Store) : opGt x y S ≠ .exc e S' := fun q => by unfold opGt at q; (repeat' split at q) <;> cases q
theorem opGe_ne (x y : D) (S : Store) (e : Ev.X) (S' : Store) : opGe x y S ≠ .exc e S' := fun q => by unfold opGe at q; (repeat' split at q) <;> cases q
theorem opIn_ne (x y : D) (S : Store) (e : Ev.X) (S' : Store) : opIn x y S ≠ .exc e S' := fun q => by unfold opIn at q; (repeat' split at q) <;> cases q
theorem opNotIn_ne (x y : D) (S : Store) (e : Ev.X) (S' : Store) : opNotIn x y S ≠ .exc e S' := fun q => by unfold opNotIn at q; (repeat' split at q) <;> cases q
theorem opNeg_ne (x : D) (S : Store) (e : Ev.X) (S' : Store) : opNeg x S ≠ .exc e S' := fun q => by unfold opNeg at q; (repeat' split at q) <;> cases q
theorem opOf_ok (F : Fits G p CX cl c X) {o : Operator} {op : Op2} (h : opOf o = some op) : OpR X (binaryOp o) (rOp p op) ∧ ∀ x y S e S', op x y S ≠ .exc e S' := by
  cases o with
  | Add => cases h; exact ⟨ok_add F.K, opAdd_ne⟩
  | Sub => cases h; exact ⟨ok_sub, opSub_ne⟩
  | Mult => cases h; exact ⟨ok_mul F.K, opMul_ne⟩
  | FloorDiv => cases h; exact ⟨ok_div, opDiv_ne⟩
  | Mod => cases h; exact ⟨ok_mod, opMod_ne⟩
  | Pow => cases h; exact ⟨ok_pow, opPow_ne⟩
  | _ => cases h
theorem cmpOf_ok (F : Fits G p CX cl c X) {o : CmpOp} {op : Op2} (h : cmpOf o = some op) : OpR X (compareOp o) (rOp p op) ∧ ∀ x y S e S', op x y S ≠ .exc e S' := by
  cases o with
  | Eq => cases h; exact ⟨ok_eq F.K F.u66, opEq_ne⟩
  | NotEq => cases h; exact ⟨ok_ne F.K F.u66, opNe_ne⟩
  | Lt => cases h; exact ⟨ok_lt F.K F.u66, opLt_ne⟩
  | LtE => cases h; exact ⟨ok_le F.K F.u66, opLe_ne⟩
  | Gt => cases h; exact ⟨ok_gt, opGt_ne⟩
  | GtE => cases h; exact ⟨ok_ge, opGe_ne⟩
  | In => cases h; exact ⟨ok_in F.K F.u66, opIn_ne⟩
  | NotIn => cases h; exact ⟨ok_notIn F.K F.u66, opNotIn_ne⟩
  | _ => cases h
theorem nomarks {o : CmpOp} {b : Expr} (h : isSet b = false) : behindInMarks o b = false := by
  cases b <;> first | rfl | (simp [isSet] at h)
theorem isCst_ok {b : Expr} {d : D} (h : isCst b = some d) : ∃ v, PE X b (tC v) ∧ (d = .non ∧ v = .non ∨ ∃ k, d = .bl k ∧ v = .bl k) ∧ isSet b = false := by
  unfold isCst at h
  split at h
  · cases h; exact ⟨.non, pe_non, .inl ⟨rfl, rfl⟩, rfl⟩
  · cases h; rename_i k _ _; exact ⟨.bl k, pe_bl, .inr ⟨k, rfl, rfl⟩, rfl⟩
  · cases h
theorem hasS_mem {x : Str} : ∀ {l : List Str}, x ∈ l → hasS x l = true
  | y :: r, h => by
    rw [hasS]
    rcases List.mem_cons.mp h with rfl | h
    · rw [strEq_eq, decide_eq_true rfl]; rfl
    · rw [hasS_mem h, Bool.or_true]
theorem nodupS_ok : ∀ {l : List Str}, nodupS l = true → l.Nodup
  | [], _ => List.nodup_nil
  | x :: r, h => by
    rw [nodupS, Bool.and_eq_true, Bool.not_eq_true'] at h
    refine List.nodup_cons.mpr ⟨fun z => ?_, nodupS_ok h.2⟩
    have := hasS_mem z
    rw [h.1] at this; cases this
theorem base_ok {e : Expr} {m : Str} (h : plainBase e = true) : attributeBase e m X.env (eval e X.env) = eval e X.env := by
  cases e <;> first | rfl | (simp [plainBase] at h)
variable (H : Good G p CX cl k)
include H
theorem cCmp_ok (F : Fits G p CX cl c X) (P : Passes CX X E) {a : Expr} {ops : List CmpOp} {bs : List Expr} {f : EF} (h : cCmp k c a ops bs = some f) : PE X (.Compare a ops bs pos) (tE p (wE E) f) ∧ PT X (.Compare a ops bs pos) (tT p (wE E) (boolT f)) := by
  unfold cCmp at h
  split at h
  · split at h
    · split at h
      · rename_i d q
        obtain ⟨f1, q1, rfl⟩ := Option.map_eq_some_iff.mp h
        obtain ⟨v, hv, hc, hs⟩ := isCst_ok (X := X) q
        have he := H.e F P q1
        rcases hc with ⟨rfl, rfl⟩ | ⟨b, rfl, rfl⟩
        · exact ⟨se_isC (neg := false) hv op_isN (nomarks hs) (fun x H Q q => ⟨rfl, q⟩) (.inl ⟨rfl, rfl⟩) he, st_isC (neg := false) hv op_isN (nomarks hs) (fun x H Q q => ⟨rfl, q⟩) (.inl ⟨rfl, rfl⟩) he⟩
        · exact ⟨se_isC (neg := false) hv op_isB (nomarks hs) (fun x H Q q => ⟨rfl, q⟩) (.inr ⟨b, rfl, rfl⟩) he, st_isC (neg := false) hv op_isB (nomarks hs) (fun x H Q q => ⟨rfl, q⟩) (.inr ⟨b, rfl, rfl⟩) he⟩
      · cases h
    · split at h
      · rename_i d q
        obtain ⟨f1, q1, rfl⟩ := Option.map_eq_some_iff.mp h
        obtain ⟨v, hv, hc, hs⟩ := isCst_ok (X := X) q
        have he := H.e F P q1
        rcases hc with ⟨rfl, rfl⟩ | ⟨b, rfl, rfl⟩
        · exact ⟨se_isC (neg := true) hv op_notN (nomarks hs) (fun x H Q q => ⟨rfl, q⟩) (.inl ⟨rfl, rfl⟩) he, st_isC (neg := true) hv op_notN (nomarks hs) (fun x H Q q => ⟨rfl, q⟩) (.inl ⟨rfl, rfl⟩) he⟩
        · exact ⟨se_isC (neg := true) hv op_notB (nomarks hs) (fun x H Q q => ⟨rfl, q⟩) (.inr ⟨b, rfl, rfl⟩) he, st_isC (neg := true) hv op_notB (nomarks hs) (fun x H Q q => ⟨rfl, q⟩) (.inr ⟨b, rfl, rfl⟩) he⟩
      · cases h
    · split at h
      · rename_i op q
        split at h
        · cases h
        · rename_i hs
          split at h
          · rename_i f1 q1
            split at h
            · rename_i g1 q2
              cases h
              obtain ⟨o1, o2⟩ := cmpOf_ok F q
              exact ⟨se_cmp o1 o2 (H.e F P q1) (H.e F P q2) (nomarks (Bool.eq_false_iff.mpr hs)), st_cmp o1 o2 (H.e F P q1) (H.e F P q2) (nomarks (Bool.eq_false_iff.mpr hs))⟩
            · cases h
          · cases h
      · cases h
  · split at h
    · rename_i op q
      split at h
      · rename_i op' q'
        split at h
        · cases h
        · rename_i hs
          split at h
          · rename_i f1 q1
            split at h
            · rename_i g1 q2
              split at h
              · rename_i h1 q3
                cases h
                obtain ⟨o1, o2⟩ := cmpOf_ok F q
                obtain ⟨o3, o4⟩ := cmpOf_ok F q'
                exact ⟨se_chain o1 o3 o2 o4 (H.e F P q1) (H.e F P q2) (H.e F P q3) (nomarks (Bool.eq_false_iff.mpr hs)), st_chain o1 o3 o2 o4 (H.e F P q1) (H.e F P q2) (H.e F P q3) (nomarks (Bool.eq_false_iff.mpr hs))⟩
              · cases h
            · cases h
          · cases h
      · cases h
    · cases h
  · cases h
theorem cName_ok (F : Fits G p CX cl c X) {x : Str} {f : EF} (h : cName G c x = some f) : PE X (.Name x pos) (tE p (wE E) f) := by
  unfold cName at h
  split at h
  · rename_i hn
    obtain ⟨n1, n2⟩ := okName_ok hn
    split at h
    · rename_i hv
      obtain ⟨i, q, rfl⟩ := Option.map_eq_some_iff.mp h
      exact se_var (by rw [F.N]; exact ixOf_ok q) (F.vis hv) n1 n2
    · split at h
      · rename_i hg
        obtain ⟨d, q, rfl⟩ := Option.map_eq_some_iff.mp h
        obtain ⟨u, v, m1, r, hr⟩ := F.csts x d q
        exact se_cst (pe_glob (F.gl hg) m1 r n1) hr
      · cases h
  · cases h
theorem foldAnd_ok (F : Fits G p CX cl c X) (P : Passes CX X E) : ∀ {es : List Expr} {f : EF}, foldC andE (k.e c) es = some f → PE X (.BoolOp .And es pos) (tE p (wE E) f)
  | [], f, h => by cases h
  | [a], f, h => pe_one (H.e F P h)
  | a :: b :: r, f, h => by
    rw [foldC] at h
    · split at h
      · rename_i f1 g1 q1 q2
        cases h
        exact se_and F.K (H.e F P q1) (foldAnd_ok F P q2)
      · cases h
    · simp
theorem foldOr_ok (F : Fits G p CX cl c X) (P : Passes CX X E) : ∀ {es : List Expr} {f : EF}, foldC orE (k.e c) es = some f → PE X (.BoolOp .Or es pos) (tE p (wE E) f)
  | [], f, h => by cases h
  | [a], f, h => pe_one (H.e F P h)
  | a :: b :: r, f, h => by
    rw [foldC] at h
    · split at h
      · rename_i f1 g1 q1 q2
        cases h
        exact se_or F.K (H.e F P q1) (foldOr_ok F P q2)
      · cases h
    · simp
theorem foldAndT_ok (F : Fits G p CX cl c X) (P : Passes CX X E) : ∀ {es : List Expr} {f : TF}, foldT andT (k.t c) es = some f → PW X (.BoolOp .And es pos) (tT p (wE E) f)
  | [], f, h => by cases h
  | [a], f, h => st_and1 (H.t F P h)
  | a :: b :: r, f, h => by
    rw [foldT] at h
    · split at h
      · rename_i f1 g1 q1 q2
        cases h
        exact st_and (H.t F P q1) (foldAndT_ok F P q2)
      · cases h
    · simp
theorem foldOrT_ok (F : Fits G p CX cl c X) (P : Passes CX X E) : ∀ {es : List Expr} {f : TF}, foldT orT (k.t c) es = some f → PW X (.BoolOp .Or es pos) (tT p (wE E) f)
  | [], f, h => by cases h
  | [a], f, h => st_or1 (H.t F P h)
  | a :: b :: r, f, h => by
    rw [foldT] at h
    · split at h
      · rename_i f1 g1 q1 q2
        cases h
        exact st_or (H.t F P q1) (foldOrT_ok F P q2)
      · cases h
    · simp
theorem cPO_ok (F : Fits G p CX cl c X) (P : Passes CX X E) {e : Option Expr} {f : PF} (h : cPO (k.e c) e = some f) : PO X e (tP p (wE E) f) := by
  cases e with
  | none => cases h; exact sp_none
  | some e =>
    obtain ⟨f1, q, rfl⟩ := Option.map_eq_some_iff.mp h
    exact sp_some (H.e F P q)
theorem pairs_ok (F : Fits G p CX cl c X) (P : Passes CX X E) {kp : Pos} : ∀ {keys : List (Option Expr)} {values : List Expr} {ks : List Str} {fs : List EF}, cKeys keys = some ks → cEs (k.e c) values = some fs → keys.length = values.length →
    PPs X kp keys values ((ks.map fun x => tC (.str x)).zip (fs.map (tE p (wE E)))) ∧ ks.length = keys.length ∧ fs.length = values.length ∧ keys.all (·.isSome) = true
  | [], [], ks, fs, h1, h2, _ => by cases h1; cases h2; exact ⟨pps_nil, rfl, rfl, rfl⟩
  | [], _ :: _, _, _, _, _, h => by cases h
  | _ :: _, [], _, _, _, _, h => by cases h
  | key :: keys, v :: values, ks, fs, h1, h2, h3 => by
    unfold cKeys at h1
    split at h1
    · rename_i q; cases q
    · rename_i x j ps r q
      cases q
      split at h1
      · rename_i l q1
        cases h1
        rw [cEs] at h2
        split at h2
        · rename_i f q2
          split at h2
          · rename_i l2 q3
            cases h2
            obtain ⟨a, b, d, e⟩ := pairs_ok F P q1 q3 (by simpa using h3)
            exact ⟨pps_cons pe_str (H.e F P q2) a, by simp [b], by simp [d], by rw [List.all_cons, e]; rfl⟩
          · cases h2
        · cases h2
      · cases h1
    · cases h1
theorem cDisp_ok (F : Fits G p CX cl c X) (P : Passes CX X E) {keys : List (Option Expr)} {values : List Expr} {i : Expr} {kp : Pos} {f : EF} (h : cDisp k c keys values i = some f) : PE X (.Subscript (.Dict keys values kp) i pos) (tE p (wE E) f) := by
  unfold cDisp at h
  split at h
  · rename_i ks q1
    split at h
    · rename_i fs q2
      split at h
      · rename_i fi q3
        split at h
        · rename_i hc
          cases h
          simp only [Bool.and_eq_true] at hc
          obtain ⟨⟨⟨⟨c1, c2⟩, c3⟩, c4⟩, c5⟩ := hc
          have c3 := eq_of_beq c3
          have c4 := Nat.le_of_ble_eq_true c4
          obtain ⟨a, b, d, e⟩ := pairs_ok H F P (kp := kp) q1 q2 c3
          refine se_dispIx F.u1 a e c3 (fun z => ?_) c4 (by omega) (nodupS_ok c2) (by omega) (H.e F P q3) c1
          rw [z] at c5; cases c5
        · cases h
      · cases h
    · cases h
  · cases h
theorem cSub_ok (F : Fits G p CX cl c X) (P : Passes CX X E) {a i : Expr} {f : EF} (h : cSub k c a i = some f) : PE X (.Subscript a i pos) (tE p (wE E) f) := by
  unfold cSub at h
  split at h
  · split at h
    · exact cDisp_ok H F P h
    · cases h
  · split at h
    · rename_i hp
      unfold cIx at h
      rw [if_pos hp] at h
      split at h
      · rename_i f1 q1
        split at h
        · rename_i g1 q2
          cases h
          exact se_ix F.K (H.e F P q1) (H.e F P q2) (plainIx_ok hp)
        · cases h
      · cases h
    · split at h
      · unfold cSlice at h
        split at h
        · rename_i f1 q1
          split at h
          · rename_i l1 q2
            split at h
            · rename_i h1 q3
              cases h
              exact se_slice F.K (H.e F P q1) (cPO_ok H F P q2) (cPO_ok H F P q3)
            · cases h
          · cases h
        · cases h
      · cases h
end
end Ev
set_option Elab.async false
set_option linter.all false
set_option maxRecDepth 100000
set_option maxHeartbeats 4000000
namespace Ev
open PySem PySem.Spec PyProof.Rows L2
section
variable {G : Glb} {p : Par} {CX : CXT} {cl : CallF} {c : Ctx} {X : Cx} {E : XK} {k : Cmp} {pos : Pos}
theorem passAtE (P : Passes CX X E) : ∀ σ, PassesAt CX X σ (WE (wE E) σ) := fun σ pins H s e s' I h => P pins σ H s e s' I h
theorem tyOf_ok {x : Str} {t : Ty} (h : tyOf x = some t) : x = Str.ofString (tyName t) := by
  unfold tyOf at h
  split at h
  · rename_i q; cases h; exact strEq_ok q
  · split at h
    · rename_i q; cases h; exact strEq_ok q
    · split at h
      · rename_i q; cases h; exact strEq_ok q
      · split at h
        · rename_i q; cases h; exact strEq_ok q
        · split at h
          · rename_i q; cases h; exact strEq_ok q
          · cases h
theorem ownOf_ix {N : List Str} : ∀ {names : List (Str × NameKind)} (q : Str × Nat), q ∈ ownOf N names → N[q.2]? = some q.1
  | [], q, h => by cases h
  | (n, k) :: r, q, h => by
    rw [ownOf] at h
    split at h
    · split at h
      · rename_i i e
        rcases List.mem_cons.mp h with rfl | h
        · exact ixOf_ok e
        · exact ownOf_ix q h
      · exact ownOf_ix q h
    · exact ownOf_ix q h
theorem ixOf_none {x : Str} : ∀ {N : List Str} {i : Nat}, ixOf x N i = none → x ∉ N
  | [], _, _ => by simp
  | y :: r, i, h => by
    rw [ixOf] at h
    split at h
    · cases h
    · rename_i e
      intro z
      rcases List.mem_cons.mp z with rfl | z
      · exact e (by rw [strEq_eq]; exact decide_eq_true rfl)
      · exact ixOf_none h z
theorem ownOf_own {N : List Str} : ∀ {names : List (Str × NameKind)} (y : Str × NameKind), y ∈ names → y.2 = .local ∨ y.2 = .cell → y.1 ∈ (ownOf N names).map (·.1) ∨ y.1 ∉ N
  | (n, k) :: r, y, h, hk => by
    rcases List.mem_cons.mp h with rfl | h
    · have hb : (k == .local || k == .cell) = true := by
        rcases hk with hk | hk
        · have hk : k = .local := hk
          subst hk; rfl
        · have hk : k = .cell := hk
          subst hk; rfl
      rw [ownOf, if_pos hb]
      cases q : ixOf n N 0 with
      | some i => exact .inl (by simp)
      | none => exact .inr (ixOf_none q)
    · have ih := ownOf_own (N := N) y h hk
      rw [ownOf]
      split
      · split
        · exact ih.imp (fun z => by rw [List.map_cons]; exact List.mem_cons_of_mem _ z) id
        · exact ih
      · exact ih
theorem Fits.blk (F : Fits G p CX cl c X) {scope : Scope} (h : blkB c scope = true) : BlkOk X.N X.env.scope scope (ownOf c.N scope.names) := by
  unfold blkB at h
  simp only [Bool.and_eq_true] at h
  obtain ⟨⟨⟨h1, h2⟩, h3⟩, h4⟩ := h
  rw [F.N, F.sc]
  refine ⟨eq_of_beq h1, fun y hy => eq_of_beq (List.all_eq_true.mp h2 y hy), fun q hq => ownOf_ix q hq, fun y hy hf => ?_, fun y hy hk => ownOf_own y hy hk⟩
  have := List.all_eq_true.mp h4 y hy
  rw [hf] at this
  have this : (kindC c y.1 == some .cell || kindC c y.1 == some .free) = true := this
  rw [Bool.or_eq_true] at this
  exact this.imp eq_of_beq eq_of_beq
theorem relS_eq {scope : Scope} {env : PySem.Env} : relabel scope env = relS scope env.scope := rfl
theorem Fits.inner (F : Fits G p CX cl c X) {scope : Scope} (h : blkB c scope = true) (s : Shared) (Hh : Hp) (C : Addr) (cls : List (Str × Addr)) (fp : List Addr) : Fits G p CX cl (Ev.inner c scope) (X.blk s Hh scope (compEnvC scope cls C X.env) fp) where
  K := F.K
  calm := F.calm
  un := F.un
  N := F.N
  nd := F.nd
  sc := by
    show relabel scope X.env = relS scope c.sc
    rw [relS_eq, F.sc]
  own := rfl
  kind := by
    unfold blkB at h
    simp only [Bool.and_eq_true] at h
    exact eq_of_beq h.1.1.1
  fns := F.fns
  csts := F.csts
  clss := F.clss
  mths := F.mths
  flds := F.flds
  inj := F.inj
  blt := F.blt
  nocx := F.nocx
theorem setI {e : Expr} {env : PySem.Env} (h : isSet e = false) : ∀ x, foldedSetIterable e env x = pure x := fun x => by
  cases e <;> first | rfl | (simp [isSet] at h)
variable (H : Good G p CX cl k)
include H
theorem cIfs_ok (F : Fits G p CX cl c X) {ifs : List Expr} {t : TF} (h : cIfs (k.t c) ifs = some t) : PTs X ifs (tT p noW t) := by
  unfold cIfs at h
  split at h
  · cases h; exact st_yes (t := tYes) pts_nil
  · exact pts_one (H.t F F.noP h)
  · cases h
structure LcOk (G : Glb) (p : Par) (CX : CXT) (cl : CallF) (c : Ctx) (X : Cx) (E : XK) (elt tg iter : Expr) (ifs : List Expr) (scope : Scope) (l : LF) : Prop where
  ex : ∃ it g is t f, l = lcL ((ownOf c.N scope.names).map (·.2)) it g t f ∧ PI X tg iter (tI p (wE E) it) ∧ (∀ i, i ∈ is → i ∈ (ownOf c.N scope.names).map (·.2)) ∧
    (∀ (s : Shared) (H : Hp) (C : Addr) (cl : List (Str × Addr)) (fp : List Addr), PG (X.blk s H scope (compEnvC scope cl C X.env) fp) tg (tG p is g)) ∧ (∀ (s : Shared) (H : Hp) (C : Addr) (cl : List (Str × Addr)) (fp : List Addr), PTs (X.blk s H scope (compEnvC scope cl C X.env) fp) ifs (tT p noW t)) ∧
    (∀ (s : Shared) (H : Hp) (C : Addr) (cl : List (Str × Addr)) (fp : List Addr), PE (X.blk s H scope (compEnvC scope cl C X.env) fp) elt (tE p noW f)) ∧ (∀ x, foldedSetIterable iter X.env x = pure x) ∧ BlkOk X.N X.env.scope scope (ownOf c.N scope.names)
theorem cLc_ok (F : Fits G p CX cl c X) (P : Passes CX X E) {elt tg iter : Expr} {ifs : List Expr} {scope : Scope} {l : LF} (h : cLc k c elt tg iter ifs scope = some l) : LcOk G p CX cl c X E elt tg iter ifs scope l := by
  unfold cLc at h
  split at h
  · rename_i hc
    rw [Bool.and_eq_true, Bool.not_eq_true'] at hc
    split at h
    · rename_i it g is t f q1 q2 q3 q4
      dsimp only at h
      split at h
      · rename_i hi
        cases h
        refine ⟨it, g, is, t, f, rfl, H.i F P q1, fun i hm => List.contains_iff_mem.mp (List.all_eq_true.mp hi i hm), fun s Hh C cls fp => H.g (F.inner hc.1 s Hh C cls fp) q2, fun s Hh C cls fp => cIfs_ok H (F.inner hc.1 s Hh C cls fp) q3, fun s Hh C cls fp => ?_, setI hc.2, F.blk hc.1⟩
        have F' := F.inner hc.1 s Hh C cls fp
        exact H.e F' F'.noP q4
      · cases h
    · cases h
  · cases h
omit H in
theorem LcOk.pe {elt tg iter : Expr} {ifs : List Expr} {scope : Scope} {l : LF} (F : Fits G p CX cl c X) (h : LcOk G p CX cl c X E elt tg iter ifs scope l) : PE X (.ListComp elt [⟨tg, iter, ifs, 0⟩] scope pos) (tL p (wE E) l) := by
  obtain ⟨it, g, is, t, f, rfl, h1, h2, h3, h4, h5, h6, h7⟩ := h.ex
  exact sl_lc F.calm (by rw [F.N]; exact F.nd) h1 h7 h2 h3 h4 h5 h6
theorem cComp_ok (F : Fits G p CX cl c X) (P : Passes CX X E) {elt : Expr} {gs : List Comprehension} {scope : Scope} {l : LF} (h : cComp k c elt gs scope = some l) : ∃ tg iter ifs, gs = [⟨tg, iter, ifs, 0⟩] ∧ LcOk G p CX cl c X E elt tg iter ifs scope l := by
  unfold cComp at h
  split at h
  · split at h
    · rename_i tg iter ifs a ha
      cases eq_of_beq ha
      exact ⟨tg, iter, ifs, rfl, cLc_ok H F P h⟩
    · cases h
  · cases h
theorem cCore_ok (F : Fits G p CX cl c X) (P : Passes CX X E) {x : Str} {pp : Pos} {id : String} {a : Expr} {f : EF} {g : List D → Option D} (h1 : LstR p X (.builtin id) g) (h2 : TupR p X (.builtin id) g) (hg : Gl X x) (hm : X.mg x = none) (hv : bootBuiltins x = some (.builtin id)) (hn : x ≠ "__name__") (hdb : (x == ("__debug__" : Str)) = false)
    (h : cCore G k c g a = some f) : PE X (.Call (.Name x pp) [a] [] pos) (tE p (wE E) f) := by
  unfold cCore at h
  split at h
  · rename_i hp
    split at h
    · obtain ⟨l, q, rfl⟩ := Option.map_eq_some_iff.mp h
      exact se_coreL F.K h1 hg hm hv hn hdb (H.l F P q) hp
    · obtain ⟨l, q, rfl⟩ := Option.map_eq_some_iff.mp h
      exact se_coreE F.K h1 h2 hg hm hv hn hdb (H.e F P q) hp
  · cases h
theorem cCoreT_ok (F : Fits G p CX cl c X) (P : Passes CX X E) {x : Str} {pp : Pos} {id : String} {a : Expr} {f : EF} {g : List D → Option D} (h1 : LstR p X (.type id) g) (h2 : TupR p X (.type id) g) (hg : Gl X x) (hm : X.mg x = none) (hv : bootBuiltins x = some (.type id)) (hn : x ≠ "__name__") (hdb : (x == ("__debug__" : Str)) = false)
    (h : cCore G k c g a = some f) : PE X (.Call (.Name x pp) [a] [] pos) (tE p (wE E) f) := by
  unfold cCore at h
  split at h
  · rename_i hp
    split at h
    · obtain ⟨l, q, rfl⟩ := Option.map_eq_some_iff.mp h
      exact se_coreTL F.K h1 hg hm hv hn hdb (H.l F P q) hp
    · obtain ⟨l, q, rfl⟩ := Option.map_eq_some_iff.mp h
      exact se_coreTE F.K h1 h2 hg hm hv hn hdb (H.e F P q) hp
  · cases h
theorem cCall1_ok (F : Fits G p CX cl c X) (P : Passes CX X E) {x : Str} {pp : Pos} {a : Expr} {f : EF} (h : cCall1 G k c x a = some f) : PE X (.Call (.Name x pp) [a] [] pos) (tE p (wE E) f) := by
  unfold cCall1 at h
  split at h
  · rename_i hb
    obtain ⟨rfl, hg, hm⟩ := F.bltin hb
    exact cCore_ok H F P lst_len tup_len hg hm boot_len (by decide) (by decide) h
  split at h
  · rename_i hb
    obtain ⟨rfl, hg, hm⟩ := F.bltin hb
    exact cCoreT_ok H F P lst_tuple (tup_tuple F.K) hg hm boot_tuple (by decide) (by decide) h
  split at h
  · rename_i hb
    obtain ⟨rfl, hg, hm⟩ := F.bltin hb
    split at h
    · rename_i hp
      rw [Bool.and_eq_true] at hp
      obtain ⟨l, q, rfl⟩ := Option.map_eq_some_iff.mp h
      exact se_coreL F.K (lst_all F.calm) hg hm boot_all (by decide) (by decide) (H.l F P q) hp.1
    · cases h
  split at h
  · rename_i hb
    obtain ⟨rfl, hg, hm⟩ := F.bltin hb
    split at h
    · rename_i hp
      rw [Bool.and_eq_true] at hp
      obtain ⟨l, q, rfl⟩ := Option.map_eq_some_iff.mp h
      exact se_coreL F.K (lst_any F.calm) hg hm boot_any (by decide) (by decide) (H.l F P q) hp.1
    · cases h
  split at h
  · rename_i hb
    obtain ⟨rfl, hg, hm⟩ := F.bltin hb
    split at h
    · rename_i hp
      rw [Bool.and_eq_true] at hp
      obtain ⟨l, q, rfl⟩ := Option.map_eq_some_iff.mp h
      exact se_coreL F.K (lst_sum F.calm) hg hm boot_sum (by decide) (by decide) (H.l F P q) hp.1
    · cases h
  split at h
  · rename_i hb
    obtain ⟨hx, hg, hm⟩ := F.bltin hb
    split at h
    · rename_i hp
      obtain ⟨l, q, rfl⟩ := Option.map_eq_some_iff.mp h
      exact se_abs hx hg hm (H.e F P q) hp
    · cases h
  split at h
  · rename_i hb
    obtain ⟨hx, hg, hm⟩ := F.bltin hb
    split at h
    · rename_i hp
      obtain ⟨l, q, rfl⟩ := Option.map_eq_some_iff.mp h
      exact se_int hx hg hm (H.e F P q) hp
    · cases h
  · cases h
theorem cCall2_ok (F : Fits G p CX cl c X) (P : Passes CX X E) {x : Str} {pp : Pos} {a b : Expr} {f : EF} (h : cCall2 G k c x a b = some f) : PE X (.Call (.Name x pp) [a, b] [] pos) (tE p (wE E) f) := by
  unfold cCall2 at h
  split at h
  · rename_i hb
    obtain ⟨hx, hg, hm⟩ := F.bltin hb
    split at h
    · rename_i hp
      rw [Bool.and_eq_true] at hp
      split at h
      · rename_i q1 q2
        cases h
        exact se_max F.calm hx hg hm (H.e F P q1) (H.e F P q2) hp.1 hp.2
      · cases h
    · cases h
  split at h
  · rename_i hb
    obtain ⟨hx, hg, hm⟩ := F.bltin hb
    split at h
    · rename_i hp
      rw [Bool.and_eq_true] at hp
      split at h
      · rename_i q1 q2
        cases h
        exact se_min F.calm hx hg hm (H.e F P q1) (H.e F P q2) hp.1 hp.2
      · cases h
    · cases h
  split at h
  · rename_i hb
    obtain ⟨hx, hg, hm⟩ := F.bltin hb
    split at h
    · split at h
      · rename_i t q
        split at h
        · rename_i hp
          simp only [Bool.and_eq_true] at hp
          obtain ⟨l, q1, rfl⟩ := Option.map_eq_some_iff.mp h
          exact se_isi F.K hx (tyOf_ok q) hg hm (F.gl hp.1.2) (F.blt _ hp.2) (H.e F P q1) hp.1.1
        · cases h
      · cases h
    · cases h
  · cases h
theorem cArgs_ok (F : Fits G p CX cl c X) (P : Passes CX X E) {es : List Expr} {l : LF} (h : cA (k.e c) es = some l) : PA X es (tA p (wE E) l) ∧ LenL l es.length ∧ es.all plainX = true := cA_ok F (fun e f q => H.e F P q) h
theorem cCallF_ok (F : Fits G p CX cl c X) (P : Passes CX X E) {x : Str} {pp : Pos} {args : List Expr} {f : EF} (h : cCallF G cl k c x args = some f) : PE X (.Call (.Name x pp) args [] pos) (tE p (wE E) f) := by
  unfold cCallF at h
  split at h
  · rename_i j n q
    split at h
    · rename_i hc
      simp only [Bool.and_eq_true] at hc
      obtain ⟨l, q1, rfl⟩ := Option.map_eq_some_iff.mp h
      obtain ⟨a1, a2, a3⟩ := cArgs_ok H F P q1
      obtain ⟨m1, m2, kk, fd, ps, m3, m4, m5⟩ := F.fns x j n q
      rw [eq_of_beq hc.1.2] at a2
      cases args with
      | nil => have := hc.2; cases this
      | cons e es => exact se_call m3 m4 (F.gl hc.1.1.1) m1 m2 m5 (passAtE P) a1 a2 (okName_ok hc.1.1.2).1 a3
    · cases h
  · cases h
theorem cMake_ok (F : Fits G p CX cl c X) (P : Passes CX X E) {x : Str} {pp : Pos} {args : List Expr} {f : EF} (h : cMake G cl k c x args = some f) : PE X (.Call (.Name x pp) args [] pos) (tE p (wE E) f) := by
  unfold cMake at h
  split at h
  · rename_i ci j n q
    split at h
    · rename_i hc
      simp only [Bool.and_eq_true] at hc
      obtain ⟨l, q1, rfl⟩ := Option.map_eq_some_iff.mp h
      obtain ⟨a1, a2, a3⟩ := cArgs_ok H F P q1
      obtain ⟨m1, kk, fd, ps, mk, m3, m4, m5⟩ := F.clss x ci j n q
      rw [eq_of_beq hc.2] at a2
      cases args with
      | nil =>
        have hl : l = nilL := by cases q1; rfl
        subst hl
        refine PE.conv (pe_make0 mk m3 m4 (F.gl hc.1.1) m1 m5 .nil P (okName_ok hc.1.2).1) fun σ Hh Q g => ?_
        obtain ⟨m, S, env, eH, r⟩ := conv_make a2 g
        subst eH
        exact r.2.2.ok r.1 [] RelL.nil
      | cons e es =>
        rw [List.all_cons, Bool.and_eq_true] at a3
        exact PE.conv (pe_make mk m3 m4 (F.gl hc.1.1) m1 m5 .nil P a1 (okName_ok hc.1.2).1 (star_cons es X.env a3.1) (star_plain a3.2)) fun σ Hh Q g => conv_make a2 g
    · cases h
  · cases h
omit H in
theorem star_all {pos : Pos} {env : PySem.Env} : ∀ {es : List Expr}, es.all plainX = true → (backTo pos (starEach es env)).all (fun x => !x.1) = true
  | [], _ => rfl
  | e :: es, h => by
    rw [List.all_cons, Bool.and_eq_true] at h
    rw [star_cons es env h.1]
    show (true && (backTo pos (starEach es env)).all (fun x => !x.1)) = true
    rw [Bool.true_and]; exact star_all h.2
omit H in
theorem meth_eval {o : Expr} {m : Str} {apos : Pos} {args : List Expr} {env : PySem.Env} (hb : attributeBase o m env (eval o env) = eval o env) (hp : args.all plainX = true) (hl : args.length < 30) (hline : (apos.endLine == pos.line) = true) :
    eval (.Call (.Attribute o m apos) args [] pos) env = (do
      let ov ← eval o env
      standAt apos.atName
      let (f, first) ← holding [ov] (getMethod ov m (do return (← importBound o env).getD true))
      callWith pos f first (backTo pos (starEach args env)) (backToKw pos (keywordEach [] env))) := by
  have few : methodCallForm (args.length + ([] : List Keyword).length) (backTo pos (starEach args env)) (backToKw pos (keywordEach [] env)) = true := by
    unfold methodCallForm
    rw [star_all hp]
    show (true && true && decide (args.length + 0 + 0 < 30)) = true
    rw [decide_eq_true (by omega)]; rfl
  have e : eval (.Call (.Attribute o m apos) args [] pos) env = (do
      let ov ← attributeBase o m env (eval o env)
      standAt apos.atName
      methodCall o m apos pos env ov (args.length + ([] : List Keyword).length) (backTo pos (starEach args env)) (backToKw pos (keywordEach [] env))) := rfl
  rw [e, hb]
  unfold methodCall methodCallPos
  rw [few, hline]
  rfl
theorem cMeth_ok (F : Fits G p CX cl c X) (P : Passes CX X E) {o : Expr} {m : Str} {ap : Pos} {args : List Expr} {f : EF} (h : cMeth G cl k c o m ap args pos = some f) : PE X (.Call (.Attribute o m ap) args [] pos) (tE p (wE E) f) := by
  unfold cMeth at h
  split at h
  · rename_i ci j n q
    split at h
    · rename_i hc
      simp only [Bool.and_eq_true, decide_eq_true_eq] at hc
      obtain ⟨⟨c1, c2⟩, c3, c4⟩ := hc
      split at h
      · rename_i fo q0
        obtain ⟨l, q1, rfl⟩ := Option.map_eq_some_iff.mp h
        obtain ⟨a1, a2, a3⟩ := cArgs_ok H F P q1
        obtain ⟨hmn, hcl, hme, kk, fd, ps, m3, m4, m5⟩ := F.mths m ci j n q
        rw [eq_of_beq c2] at a2
        have ht := meth_eval (pos := pos) (o := o) (m := m) (apos := ap) (args := args) (env := X.env) (base_ok c1) a3 c4 c3
        cases args with
        | nil =>
          have hl : l = nilL := by cases q1; rfl
          subst hl
          refine PE.conv (pe_meth0 (H.e F P q0) hcl hme m3 m4 m5 .nil P ht) fun σ Hh Q g => ?_
          obtain ⟨m', S, env, eH, r⟩ := conv_meth hmn a2 g
          exact ⟨m', S, env, eH, r.1, r.2.1, r.2.2.imp fun d m1 S1 e1 k1 gg x hx => by
            obtain ⟨a, dx, fs, h1, h2, h3, m2, S2, env2, e2, k2, er2, g2⟩ := gg x hx
            refine ⟨a, dx, fs, h1, h2, h3, ?_⟩
            rw [← e2]
            exact g2.ok k2 [] RelL.nil⟩
        | cons e es =>
          rw [List.all_cons, Bool.and_eq_true] at a3
          exact PE.conv (pe_meth (H.e F P q0) hcl hme m3 m4 m5 .nil P a1 (star_cons es X.env a3.1) (star_plain a3.2) ht) fun σ Hh Q g => conv_meth hmn a2 g
      · cases h
    · cases h
  · cases h
end
end Ev
set_option Elab.async false
set_option linter.all false
set_option maxRecDepth 100000
set_option maxHeartbeats 4000000
namespace Ev
open PySem PySem.Spec PyProof.Rows L2
section
variable {G : Glb} {p : Par} {CX : CXT} {cl : CallF} {c : Ctx} {X : Cx} {E : XK} {k : Cmp} {pos : Pos} (H : Good G p CX cl k)
include H
theorem cCallN_ok (F : Fits G p CX cl c X) (P : Passes CX X E) {x : Str} {pp : Pos} {args : List Expr} {f : EF} (h : cCallN G cl k c x args = some f) : PE X (.Call (.Name x pp) args [] pos) (tE p (wE E) f) := by
  unfold cCallN at h
  split at h
  · exact cCallF_ok H F P h
  · split at h
    · exact cMake_ok H F P h
    · split at h
      · exact cCall1_ok H F P h
      · exact cCall2_ok H F P h
      · cases h
theorem cCallA_ok (F : Fits G p CX cl c X) (P : Passes CX X E) {o : Expr} {m : Str} {ap : Pos} {args : List Expr} {f : EF} (h : cCallA G cl k c o m ap args pos = some f) : PE X (.Call (.Attribute o m ap) args [] pos) (tE p (wE E) f) := by
  unfold cCallA at h
  split at h
  · rename_i hm
    have hm := strEq_ok hm
    subst hm
    split at h
    · unfold cApp at h
      split at h
      · rename_i hc
        simp only [Bool.and_eq_true] at hc
        split at h
        · rename_i f1 q1
          split at h
          · rename_i g1 q2
            cases h
            exact se_app F.K (H.e F P q1) (H.e F P q2) (base_ok hc.1.1) hc.1.2 hc.2
          · cases h
        · cases h
      · cases h
    · cases h
  · exact cMeth_ok H F P h
theorem stepE1_ok (F : Fits G p CX cl c X) (P : Passes CX X E) {e : Expr} {f : EF} (h : stepE1 G cl k c e = some f) : PE X e (tE p (wE E) f) := by
  cases e with
  | Constant v j ps =>
    cases v <;> first
      | (cases h; exact se_cst pe_non fun m => rfl)
      | (cases h; exact se_cst pe_bl fun m => rfl)
      | (cases h; exact se_cst pe_int fun m => rfl)
      | (cases h; exact se_cst pe_str fun m => rfl)
      | cases h
  | Name x ps => exact cName_ok H F h
  | Tuple es j ps =>
    unfold stepE1 at h
    dsimp only at h
    split at h
    · rename_i hl
      obtain ⟨l, q, rfl⟩ := Option.map_eq_some_iff.mp h
      obtain ⟨a1, a2, a3⟩ := cArgs_ok H F P q
      exact se_tupN a1 a2 (Nat.le_of_ble_eq_true hl)
    · cases h
  | BinOp a op b ps =>
    have h : cBin k c a op b = some f := h
    unfold cBin at h
    split at h
    · rename_i o q
      split at h
      · rename_i f1 q1
        split at h
        · rename_i g1 q2
          cases h
          obtain ⟨o1, o2⟩ := opOf_ok F q
          exact se_bin o1 o2 (H.e F P q1) (H.e F P q2)
        · cases h
      · cases h
    · cases h
  | UnaryOp op a ps =>
    have h : cUn k c op a = some f := h
    unfold cUn at h
    split at h
    · obtain ⟨l, q, rfl⟩ := Option.map_eq_some_iff.mp h
      exact se_not F.K (H.e F P q)
    · obtain ⟨l, q, rfl⟩ := Option.map_eq_some_iff.mp h
      exact se_un ok_neg opNeg_ne (H.e F P q)
    · cases h
  | BoolOp op es ps =>
    cases op with
    | And => exact foldAnd_ok H F P h
    | Or => exact foldOr_ok H F P h
  | IfExp t a b ps =>
    have h : cIfE k c t a b = some f := h
    unfold cIfE at h
    split at h
    · rename_i t1 q
      split at h
      · rename_i f1 q1
        split at h
        · rename_i g1 q2
          cases h
          exact se_if (H.t F P q) (H.e F P q1) (H.e F P q2)
        · cases h
      · cases h
    · cases h
  | Compare a ops bs ps => exact (cCmp_ok H F P h).1
  | Subscript a i ps => exact cSub_ok H F P h
  | Attribute o m ps =>
    have h : cAttr G k c o m = some f := h
    unfold cAttr at h
    split at h
    · rename_i i q
      split at h
      · rename_i hb
        obtain ⟨l, q1, rfl⟩ := Option.map_eq_some_iff.mp h
        obtain ⟨e1, ok⟩ := F.flds m i q
        subst e1
        exact se_fld F.K F.inj ok (H.e F P q1) (base_ok hb)
      · cases h
    · cases h
  | Call fn args kws ps =>
    have h : cCall G cl k c fn args kws ps = some f := h
    unfold cCall at h
    split at h
    · split at h
      · exact cCallN_ok H F P h
      · exact cCallA_ok H F P h
      · cases h
    · cases h
  | Dict keys values ps =>
    have h : cDict keys values = some f := h
    unfold cDict at h
    split at h
    · cases h; exact se_newD
    · cases h
  | _ => cases h
theorem stepE_ok (F : Fits G p CX cl c X) (P : Passes CX X E) {e : Expr} {f : EF} (h : stepE G cl k c e = some f) : PE X e (tE p (wE E) f) := by
  unfold stepE at h
  split at h
  · obtain ⟨l, q, rfl⟩ := Option.map_eq_some_iff.mp h
    exact se_mk (H.l F P q)
  · exact stepE1_ok H F P h
theorem stepL_ok (F : Fits G p CX cl c X) (P : Passes CX X E) {e : Expr} {f : LF} (h : stepL G k c e = some f) : PE X e (tL p (wE E) f) := by
  unfold stepL at h
  split at h
  · split at h
    · rename_i hl
      obtain ⟨a1, a2, a3⟩ := cArgs_ok H F P h
      exact Ev.sl_list a1 a2 (Nat.le_of_ble_eq_true hl)
    · cases h
  · obtain ⟨tg, iter, ifs, rfl, ok⟩ := cComp_ok H F P h
    exact ok.pe F
  · unfold cIfL at h
    split at h
    · rename_i t1 q
      split at h
      · rename_i f1 q1
        split at h
        · rename_i g1 q2
          cases h
          exact sl_if (H.t F P q) (H.l F P q1) (H.l F P q2)
        · cases h
      · cases h
    · cases h
  · unfold cCat at h
    split at h
    · split at h
      · rename_i f1 q1
        split at h
        · rename_i g1 q2
          cases h
          exact sl_cat F.K (H.l F P q1) (H.l F P q2)
        · cases h
      · cases h
    · split at h
      · rename_i f1 q1
        split at h
        · rename_i g1 q2
          cases h
          exact sl_catVL (H.e F P q1) (H.l F P q2)
        · cases h
      · cases h
  · unfold cCallL at h
    split at h
    · rename_i hp
      split at h
      · rename_i hb
        obtain ⟨hx, hg, hm⟩ := F.bltin hb
        obtain ⟨l, q, rfl⟩ := Option.map_eq_some_iff.mp h
        exact sl_listE F.K hx hg hm (H.e F P q) hp
      · split at h
        · rename_i hb
          obtain ⟨hx, hg, hm⟩ := F.bltin hb
          split at h
          · obtain ⟨l, q, rfl⟩ := Option.map_eq_some_iff.mp h
            exact sl_sortL F.K F.u70 hx hg hm (H.l F P q) hp
          · obtain ⟨l, q, rfl⟩ := Option.map_eq_some_iff.mp h
            exact sl_sortv F.K F.calm F.u70 hx hg hm (H.e F P q) hp
        · cases h
    · cases h
  · cases h
omit H in
theorem valTest_ok {e : Expr} {env : PySem.Env} (h : valTest e = true) : ∀ whole, isTrue e env whole = (do let v ← whole; standAt e.pos; holding [v] (truthy v)) := fun whole => by
  cases e with
  | UnaryOp op a ps => cases op <;> first | rfl | (simp [valTest] at h)
  | _ => first | rfl | (simp [valTest] at h)
theorem stepT_ok (F : Fits G p CX cl c X) (P : Passes CX X E) {e : Expr} {f : TF} (h : stepT G k c e = some f) : PT X e (tT p (wE E) f) := by
  unfold stepT at h
  split at h
  · rename_i hv
    obtain ⟨l, q, rfl⟩ := Option.map_eq_some_iff.mp h
    exact st_truth F.K (H.e F P q) (valTest_ok hv)
  · split at h
    · obtain ⟨l, q, rfl⟩ := Option.map_eq_some_iff.mp h
      exact st_not (H.t F P q)
    · split at h
      · exact (foldAndT_ok H F P h).pt
      · exact (foldOrT_ok H F P h).pt
    · obtain ⟨l, q, rfl⟩ := Option.map_eq_some_iff.mp h
      exact (cCmp_ok H F P q).2
    · cases h
omit H in
theorem isTupE_ok {e : Expr} (h : isTupE e = true) : ∃ es kk ps, e = .Tuple es kk ps := by
  cases e with
  | Tuple es kk ps => exact ⟨es, kk, ps, rfl⟩
  | _ => cases h
theorem stepI_ok (F : Fits G p CX cl c X) (P : Passes CX X E) {tg e : Expr} {f : IF} (h : stepI G k c tg e = some f) : PI X tg e (tI p (wE E) f) := by
  unfold stepI at h
  split at h
  · obtain ⟨l, q, rfl⟩ := Option.map_eq_some_iff.mp h
    exact si_lst F.K (H.l F P q)
  · split at h
    · rename_i it q0
      cases h
      unfold cIt at q0
      split at q0
      · unfold cIt1 at q0
        split at q0
        · rename_i hb
          obtain ⟨hx, hg, hm⟩ := F.bltin hb
          subst hx
          split at q0
          · rename_i hp
            obtain ⟨l, q, rfl⟩ := Option.map_eq_some_iff.mp q0
            exact si_rng1 hg hm (H.e F P q) hp
          · cases q0
        · split at q0
          · rename_i hb
            obtain ⟨hx, hg, hm⟩ := F.bltin hb
            subst hx
            split at q0
            · rename_i hp
              rw [Bool.and_eq_true] at hp
              obtain ⟨es, kk, ps, rfl⟩ := isTupE_ok hp.2
              obtain ⟨l, q, rfl⟩ := Option.map_eq_some_iff.mp q0
              exact si_enum F.K hg hm (H.e F P q) hp.1
            · cases q0
          · cases q0
      · unfold cIt2 at q0
        split at q0
        · rename_i hp
          rw [Bool.and_eq_true] at hp
          split at q0
          · rename_i f1 q1
            split at q0
            · rename_i g1 q2
              split at q0
              · rename_i hb
                obtain ⟨hx, hg, hm⟩ := F.bltin hb
                subst hx
                cases q0
                exact si_rng2 hg hm (H.e F P q1) (H.e F P q2) hp.1 hp.2
              · split at q0
                · rename_i hb
                  rw [Bool.and_eq_true] at hb
                  obtain ⟨hx, hg, hm⟩ := F.bltin hb.1
                  subst hx
                  obtain ⟨es, kk, ps, rfl⟩ := isTupE_ok hb.2
                  cases q0
                  exact si_zip F.K hg hm (H.e F P q1) (H.e F P q2) hp.1 hp.2
                · cases q0
            · cases q0
          · cases q0
        · cases q0
      · cases q0
    · obtain ⟨l, q, rfl⟩ := Option.map_eq_some_iff.mp h
      exact si_val F.K (H.e F P q)
theorem cGs_ok (F : Fits G p CX cl c X) : ∀ {es : List Expr} {g : GFs} {is : List Nat}, cGs (k.g c) es = some (g, is) → PGs X es (tGs p is g) ∧ es.all plainX = true
  | [], g, is, h => by cases h; exact ⟨sgs_nil, rfl⟩
  | e :: r, g, is, h => by
    rw [cGs] at h
    split at h
    · rename_i hp
      split at h
      · rename_i g1 is1 q1
        split at h
        · rename_i g2 is2 q2
          cases h
          obtain ⟨a, b⟩ := cGs_ok F q2
          exact ⟨sgs_cons (H.g F q1) a hp, by rw [List.all_cons, hp, b]; rfl⟩
        · cases h
      · cases h
    · cases h
theorem stepG_ok (F : Fits G p CX cl c X) {e : Expr} {g : GF} {is : List Nat} (h : stepG G k c e = some (g, is)) : PG X e (tG p is g) := by
  cases e with
  | Name x ps =>
    unfold stepG at h
    dsimp only at h
    split at h
    · rename_i hl
      split at h
      · rename_i i q
        cases h
        obtain ⟨l1, l2⟩ := F.loc hl
        exact sg_name (by rw [F.N]; exact F.nd) (by rw [F.N]; exact ixOf_ok q) l1 l2
      · cases h
    · cases h
  | Tuple es j ps =>
    unfold stepG at h
    dsimp only at h
    split at h
    · rename_i gs is1 q
      cases h
      obtain ⟨a, b⟩ := cGs_ok H F q
      exact sg_tup F.K F.calm a b
    · cases h
  | Attribute o m ps =>
    unfold stepG at h
    dsimp only at h
    split at h
    · rename_i i q
      split at h
      · rename_i fo q1
        cases h
        obtain ⟨e1, ok⟩ := F.flds m i q
        subst e1
        exact sg_fld F.K F.inj ok (H.e F F.noP q1)
      · cases h
    · cases h
  | Subscript o i ps =>
    have h : cGSub k c o i = some (g, is) := h
    unfold cGSub at h
    split at h
    · split at h
      · rename_i hl
        split at h
        · rename_i f1 q1
          split at h
          · rename_i l1 q2
            cases h
            obtain ⟨a1, a2, a3⟩ := cArgs_ok H F F.noP q2
            exact sg_dput F.u1 (H.e F F.noP q1) a1 a2 (Nat.le_of_ble_eq_true hl)
          · cases h
        · cases h
      · cases h
    · split at h
      · rename_i hp
        split at h
        · rename_i f1 q1
          split at h
          · rename_i g1 q2
            cases h
            exact sg_sub F.K (H.e F F.noP q1) (H.e F F.noP q2) hp
          · cases h
        · cases h
      · cases h
  | _ => cases h
end
end Ev
set_option Elab.async false
set_option linter.all false
set_option maxRecDepth 100000
set_option maxHeartbeats 4000000
namespace Ev
open PySem PySem.Spec PyProof.Rows L2
section
variable {G : Glb} {p : Par} {CX : CXT} {cl : CallF} {c : Ctx} {X : Cx} {E : XK} {k : Cmp} {pos : Pos}
theorem noStar {vs : List Expr} (h : vs.all plainX = true) : (vs.any fun | .Starred .. => true | _ => false) = false := by
  induction vs with
  | nil => rfl
  | cons e r ih =>
    rw [List.all_cons, Bool.and_eq_true] at h
    rw [List.any_cons, ih h.2, Bool.or_false]
    cases e <;> first | rfl | (simp [plainX] at h)
def isStarred : Expr → Bool
  | .Starred .. => true
  | _ => false
def nameAtE (env : PySem.Env) (line : Nat) : Expr → Option Str
  | .Name id pos => if env.kindOf id == some .local && pos.line == line then some id else none
  | _ => none
def mySwap (env : PySem.Env) (ts vs : List Expr) : Sem (Option (List Str)) :=
  if !(ts.length == 2 || ts.length == 3) || vs.length != ts.length || env.blockKind != .function then pure none
  else if vs.any isStarred then pure none
  else if (ts.filterMap (nameAtE env ((ts.head?.map (·.pos.line)).getD 0))).length != ts.length || (ts.filterMap (nameAtE env ((ts.head?.map (·.pos.line)).getD 0))).eraseDups.length != (ts.filterMap (nameAtE env ((ts.head?.map (·.pos.line)).getD 0))).length then pure none
  else if vs.all (foldedForSure 8) then pure none
  else if vs.all (constantsAlone 8) then (do
    unsupported "assign.tuple-of-constant-expressions:order-of-the-stores"
    pure (some (ts.filterMap (nameAtE env ((ts.head?.map (·.pos.line)).getD 0)))))
  else pure (some (ts.filterMap (nameAtE env ((ts.head?.map (·.pos.line)).getD 0))))
theorem swap_eq {ts vs : List Expr} {k1 k2 : Nat} {p1 p2 : Pos} {env : PySem.Env} : swappedStores [.Tuple ts k1 p1] (.Tuple vs k2 p2) env = mySwap env ts vs := by
  unfold swappedStores mySwap
  rfl
theorem noStar2 {vs : List Expr} (h : vs.all plainX = true) : vs.any isStarred = false := by
  induction vs with
  | nil => rfl
  | cons e r ih =>
    rw [List.all_cons, Bool.and_eq_true] at h
    rw [List.any_cons, ih h.2, Bool.or_false]
    cases e <;> first | rfl | (simp [plainX] at h)
theorem swap_ok {ts vs : List Expr} {b : Bool} {k1 k2 : Nat} {p1 p2 : Pos} (hsc : X.env.scope = c.sc) (hk : c.sc.kind = .function) (h : swapQ c ts vs = some b) :
    swappedStores [.Tuple ts k1 p1] (.Tuple vs k2 p2) X.env = pure (if b then some (ts.filterMap (nameAt c ((ts.head?.map (·.pos.line)).getD 0))) else none) := by
  have hb : (X.env.blockKind != ScopeKind.function) = false := by
    unfold Env.blockKind
    rw [hsc, hk]; rfl
  have hn : ∀ line, nameAtE X.env line = nameAt c line := fun line => by
    funext e
    cases e with
    | Name id ps =>
      show (if X.env.scope.names.lookup id == some .local && ps.line == line then some id else none) = if kindC c id == some .local && ps.line == line then some id else none
      rw [hsc]; rfl
    | _ => rfl
  rw [swap_eq]
  unfold mySwap
  rw [hb, Bool.or_false, hn]
  unfold swapQ at h
  split at h
  · rename_i h1
    cases h
    rw [if_pos h1]; rfl
  · rename_i h1
    rw [if_neg h1]
    split at h
    · cases h
    · rename_i h2
      have h2' : vs.all plainX = true := by
        cases q : vs.all plainX with
        | true => rfl
        | false => rw [q] at h2; exact absurd rfl h2
      rw [if_neg (by rw [noStar2 h2']; exact Bool.false_ne_true)]
      dsimp only at h
      split at h
      · rename_i h3
        cases h
        rw [if_pos h3]; rfl
      · rename_i h3
        rw [if_neg h3]
        split at h
        · rename_i h4
          cases h
          rw [if_pos h4]; rfl
        · rename_i h4
          rw [if_neg h4]
          split at h
          · cases h
          · rename_i h5
            cases h
            rw [if_neg h5]; rfl
theorem swap_two {x y : Str} {px py : Pos} {vs : List Expr} (h : swapQ c [.Name x px, .Name y py] vs = some true) : [Expr.Name x px, .Name y py].filterMap (nameAt c (([Expr.Name x px, .Name y py].head?.map (·.pos.line)).getD 0)) = [x, y] ∧ kindC c x = some .local ∧ kindC c y = some .local ∧ x ≠ y := by
  unfold swapQ at h
  split at h
  · cases h
  split at h
  · cases h
  dsimp only at h
  split at h
  · cases h
  rename_i h3
  rw [Bool.or_eq_true, not_or] at h3
  generalize hl : ((List.head? [Expr.Name x px, Expr.Name y py]).map (fun x => x.pos.line)).getD 0 = line at *
  obtain ⟨h3, h4⟩ := h3
  rw [bne_iff_ne, ne_eq, Classical.not_not] at h3 h4
  have nx : ∀ w (pw : Pos), nameAt c line (.Name w pw) = if (kindC c w == some .local && pw.line == line) = true then some w else none := fun w pw => rfl
  by_cases a1 : (kindC c x == some .local && px.line == line) = true
  · by_cases a2 : (kindC c y == some .local && py.line == line) = true
    · have n1 := nx x px
      have n2 := nx y py
      rw [if_pos a1] at n1
      rw [if_pos a2] at n2
      have e : [Expr.Name x px, .Name y py].filterMap (nameAt c line) = [x, y] := by simp [n1, n2]
      rw [Bool.and_eq_true] at a1 a2
      rw [e] at h4
      refine ⟨e, eq_of_beq a1.1, eq_of_beq a2.1, fun q => ?_⟩
      subst q
      simp [List.eraseDups_cons] at h4
    · exfalso
      simp [List.filterMap_cons, nx, a1, a2] at h3
  · exfalso
    by_cases a2 : (kindC c y == some .local && py.line == line) = true <;> simp [List.filterMap_cons, nx, a1, a2] at h3
theorem swap_three {x y z : Str} {px py pz : Pos} {vs : List Expr} (h : swapQ c [.Name x px, .Name y py, .Name z pz] vs = some true) : [Expr.Name x px, .Name y py, .Name z pz].filterMap (nameAt c (([Expr.Name x px, .Name y py, .Name z pz].head?.map (·.pos.line)).getD 0)) = [x, y, z] ∧ kindC c x = some .local ∧ kindC c y = some .local ∧ kindC c z = some .local ∧ x ≠ y ∧ x ≠ z ∧ y ≠ z := by
  unfold swapQ at h
  split at h
  · cases h
  split at h
  · cases h
  dsimp only at h
  split at h
  · cases h
  rename_i h3
  rw [Bool.or_eq_true, not_or] at h3
  generalize hl : ((List.head? [Expr.Name x px, Expr.Name y py, Expr.Name z pz]).map (fun x => x.pos.line)).getD 0 = line at *
  obtain ⟨h3, h4⟩ := h3
  rw [bne_iff_ne, ne_eq, Classical.not_not] at h3 h4
  have nx : ∀ w (pw : Pos), nameAt c line (.Name w pw) = if (kindC c w == some .local && pw.line == line) = true then some w else none := fun w pw => rfl
  by_cases a1 : (kindC c x == some .local && px.line == line) = true
  · by_cases a2 : (kindC c y == some .local && py.line == line) = true
    · by_cases a3 : (kindC c z == some .local && pz.line == line) = true
      · have n1 := nx x px
        have n2 := nx y py
        have n3 := nx z pz
        rw [if_pos a1] at n1
        rw [if_pos a2] at n2
        rw [if_pos a3] at n3
        have e : [Expr.Name x px, .Name y py, .Name z pz].filterMap (nameAt c line) = [x, y, z] := by simp [n1, n2, n3]
        rw [Bool.and_eq_true] at a1 a2 a3
        rw [e] at h4
        refine ⟨e, eq_of_beq a1.1, eq_of_beq a2.1, eq_of_beq a3.1, fun q => ?_, fun q => ?_, fun q => ?_⟩
        · subst q
          by_cases r : z = x
          · subst r; simp [List.eraseDups_cons] at h4
          · simp [List.eraseDups_cons, r] at h4
        · subst q
          by_cases r : y = x
          · subst r; simp [List.eraseDups_cons] at h4
          · simp [List.eraseDups_cons, r] at h4
        · subst q
          by_cases r : y = x
          · subst r; simp [List.eraseDups_cons] at h4
          · simp [List.eraseDups_cons, r] at h4
      · exfalso
        simp [List.filterMap_cons, nx, a1, a2, a3] at h3
    · exfalso
      by_cases a3 : (kindC c z == some .local && pz.line == line) = true <;> simp [List.filterMap_cons, nx, a1, a2, a3] at h3
  · exfalso
    by_cases a2 : (kindC c y == some .local && py.line == line) = true <;> by_cases a3 : (kindC c z == some .local && pz.line == line) = true <;> simp [List.filterMap_cons, nx, a1, a2, a3] at h3
theorem swap_no {tg e : Expr} {env : PySem.Env} (h : isTupE tg = false ∨ isTupE e = false) (hl : ∀ es ps, tg ≠ .List es ps) : swappedStores [tg] e env = pure none := by
  unfold swappedStores
  cases tg with
  | Tuple es kk ps =>
    cases e with
    | Tuple vs kk2 ps2 => rcases h with h | h <;> cases h
    | _ => rfl
  | List es ps => exact absurd rfl (hl es ps)
  | _ => rfl
theorem swaps_no {tg e : Expr} {l : Nat} {env : PySem.Env} (h : isComp e = false) : swapsWithSole [tg] e l env = pure false := by
  cases e <;> first | rfl | (simp [isComp] at h)
theorem swaps_none {e : Expr} {l : Nat} {env : PySem.Env} (h : isComp e = false) : swapsWith e none l env = pure false := by
  cases e <;> first | rfl | (simp [isComp] at h)
theorem ix_ne {N : List Str} {x y : Str} {i j : Nat} (hi : N[i]? = some x) (hj : N[j]? = some y) (h : x ≠ y) : i ≠ j := fun z => by
  subst z
  rw [hi] at hj
  exact h (Option.some.inj hj)
theorem isDoc_ok {e : Expr} (h : isDoc e = true) : ∃ x j ps, e = .Constant (.str x) j ps := by
  unfold isDoc at h
  split at h
  · exact ⟨_, _, _, rfl⟩
  · cases h
variable (H : Good G p CX cl k)
include H
theorem cSs_ok (F : Fits G p CX cl c X) (P : Passes CX X E) (O : PassesOwn (model X.prog X.w) X.A X.env X.xe) : ∀ {ss : List Stmt} {f : SF}, cSs (k.s c) ss = some f → PSs X ss (tS p (wE E) f)
  | [], f, h => by cases h; exact sss_nil
  | [a], f, h => sss_one (H.s F P O h)
  | a :: b :: r, f, h => by
    rw [cSs] at h
    split at h
    · rename_i f1 q1
      split at h
      · rename_i g1 q2
        cases h
        exact sss_cons (wE_free E) (H.s F P O q1) (cSs_ok F P O q2)
      · cases h
    · cases h
theorem cAsg_ok (F : Fits G p CX cl c X) (P : Passes CX X E) {tg e : Expr} {f : SF} (hw : swappedStores [tg] e X.env = pure none) (h : cAsg k c tg e = some f) : PS X (.Assign [tg] e pos) (tS p (wE E) f) := by
  unfold cAsg at h
  split at h
  · cases h
  · rename_i hc
    rw [Bool.or_eq_true, not_or] at hc
    split at h
    · rename_i f1 q1
      split at h
      · rename_i g1 is1 q2
        cases h
        have hp : plainX tg = true := by
          cases q : plainX tg with
          | true => rfl
          | false => rw [q] at hc; exact absurd rfl hc.2
        exact ss_asg (H.e F P q1) (H.g F q2) (swaps_no (Bool.eq_false_iff.mpr hc.1)) hw hp
      · cases h
    · cases h
theorem cPar_ok (F : Fits G p CX cl c X) (P : Passes CX X E) {ts vs : List Expr} {k1 k2 : Nat} {p1 p2 : Pos} {f : SF} (hs : swapQ c ts vs = some true) (h : cPar k c ts vs = some f) : PS X (.Assign [.Tuple ts k1 p1] (.Tuple vs k2 p2) pos) (tS p (wE E) f) := by
  have hw := swap_ok (X := X) (k1 := k1) (k2 := k2) (p1 := p1) (p2 := p2) F.sc F.kind hs
  rw [if_pos rfl] at hw
  unfold cPar at h
  split at h
  · split at h
    · rename_i i q1
      split at h
      · rename_i j q2
        obtain ⟨l, q3, rfl⟩ := Option.map_eq_some_iff.mp h
        obtain ⟨a1, _, _⟩ := cArgs_ok H F P q3
        obtain ⟨w1, w2, w3, w4⟩ := swap_two hs
        rw [w1] at hw
        have i1 := ixOf_ok q1
        have i2 := ixOf_ok q2
        exact ss_par F.calm (by rw [F.N]; exact F.nd) (by rw [F.N]; exact i1) (by rw [F.N]; exact i2) (ix_ne i1 i2 w4) (by rw [F.sc]; exact w2) (by rw [F.sc]; exact w3) a1 hw rfl
      · cases h
    · cases h
  · split at h
    · rename_i i q1
      split at h
      · rename_i j q2
        split at h
        · rename_i l0 q4
          obtain ⟨l, q3, rfl⟩ := Option.map_eq_some_iff.mp h
          obtain ⟨a1, _, _⟩ := cArgs_ok H F P q3
          obtain ⟨w1, w2, w3, w4, w5, w6, w7⟩ := swap_three hs
          rw [w1] at hw
          have i1 := ixOf_ok q1
          have i2 := ixOf_ok q2
          have i3 := ixOf_ok q4
          exact ss_par3 F.calm (by rw [F.N]; exact F.nd) (by rw [F.N]; exact i1) (by rw [F.N]; exact i2) (by rw [F.N]; exact i3) (ix_ne i1 i2 w5) (ix_ne i1 i3 w6) (ix_ne i2 i3 w7) (by rw [F.sc]; exact w2) (by rw [F.sc]; exact w3) (by rw [F.sc]; exact w4) a1 hw rfl
        · cases h
      · cases h
    · cases h
  · cases h
theorem cSetLc_ok (F : Fits G p CX cl c X) (P : Passes CX X E) {y : Str} {py ps : Pos} {elt : Expr} {gs : List Comprehension} {scope : Scope} {f : SF} (h : cSetLc k c y py elt gs scope ps = some f) : PS X (.Assign [.Name y py] (.ListComp elt gs scope ps) pos) (tS p (wE E) f) := by
  unfold cSetLc at h
  split at h
  · rename_i hc
    simp only [Bool.and_eq_true, Bool.not_eq_true'] at hc
    obtain ⟨⟨c1, c2⟩, c3⟩ := hc
    split at h
    · rename_i i q
      obtain ⟨l, q1, rfl⟩ := Option.map_eq_some_iff.mp h
      obtain ⟨tg, iter, ifs, rfl, ok⟩ := cComp_ok H F P q1
      obtain ⟨it, g, is, t, fe, rfl, h1, h2, h3, h4, h5, h6, h7⟩ := ok.ex
      have hy := F.lcl c1
      exact ss_setLc F.calm (by rw [F.N]; exact F.nd) (by rw [F.N]; exact ixOf_ok q) hy (sw_true (by rw [F.sc]; exact F.kind) hy c2 c3) h1 h7 h2 h3 h4 h5 h6
    · cases h
  · cases h
omit H in
theorem notList {k : Cmp} {tg e : Expr} {f : SF} (hg : ∀ es ps, k.g c (.List es ps) = none) (h : cAsg k c tg e = some f) : ∀ es ps, tg ≠ .List es ps := fun es ps z => by
  subst z
  unfold cAsg at h
  split at h
  · cases h
  · split at h
    · rw [hg] at h; cases h
    · cases h
theorem cAssign_ok (F : Fits G p CX cl c X) (P : Passes CX X E) (hg : ∀ es ps, k.g c (.List es ps) = none) {tg e : Expr} {f : SF} (h : cAssign k c tg e = some f) : PS X (.Assign [tg] e pos) (tS p (wE E) f) := by
  unfold cAssign at h
  split at h
  · split at h
    · exact cSetLc_ok H F P h
    · cases h
  · split at h
    · split at h
      · rename_i q
        exact cPar_ok H F P q h
      · rename_i q
        exact cAsg_ok H F P ((swap_ok (X := X) F.sc F.kind q).trans rfl) h
      · cases h
    · rename_i hne
      refine cAsg_ok H F P (swap_no (.inl ?_) (notList hg h)) h
      cases tg with
      | Tuple es kk ps => exact absurd rfl (hne es kk ps)
      | _ => rfl
  · rename_i h1 h2
    refine cAsg_ok H F P (swap_no (.inr ?_) (notList hg h)) h
    cases e with
    | Tuple es kk ps => exact absurd rfl (h2 es kk ps)
    | _ => rfl
theorem stepS_ok (F : Fits G p CX cl c X) (P : Passes CX X E) (O : PassesOwn (model X.prog X.w) X.A X.env X.xe) (hg : ∀ es ps, k.g c (.List es ps) = none) {s : Stmt} {f : SF} (h : stepS G k c s = some f) : PS X s (tS p (wE E) f) := by
  unfold stepS at h
  split at h
  · cases h; exact ss_pass
  · cases h; exact ss_brk
  · cases h; exact ss_ct
  · cases h; exact ss_nev
  · split at h
    · rename_i hd
      cases h
      obtain ⟨x, j, ps, rfl⟩ := isDoc_ok hd
      exact PS.conv ps_doc fun D σ Hh ⟨m, S, env, hH, kk, er, g⟩ => by
        subst hH
        exact g.ok kk σ er
    · split at h
      · cases h
      · rename_i hc
        obtain ⟨l, q, rfl⟩ := Option.map_eq_some_iff.mp h
        exact ss_expr (H.e F P q) (swaps_none (Bool.eq_false_iff.mpr hc))
  · split at h
    · cases h; exact ss_retN
    · obtain ⟨l, q, rfl⟩ := Option.map_eq_some_iff.mp h
      exact ss_ret (H.e F P q)
  · unfold cIfS at h
    split at h
    · rename_i t1 q
      split at h
      · rename_i f1 q1
        split at h
        · rename_i g1 q2
          cases h
          exact ss_if (H.t F P q) (cSs_ok H F P O q1) (cSs_ok H F P O q2)
        · cases h
      · cases h
    · cases h
  · unfold cWhile at h
    split at h
    · rename_i t1 q
      split at h
      · rename_i f1 q1
        cases h
        exact ss_while (wE_free E) O (H.t F P q) (cSs_ok H F P O q1)
      · cases h
    · cases h
  · unfold cFor at h
    split at h
    · cases h
    · rename_i hs
      split at h
      · rename_i it q
        split at h
        · rename_i g1 is1 q1
          split at h
          · rename_i f1 q2
            cases h
            exact ss_for (wE_free E) O F.calm (H.i F P q) (H.g F q1) (cSs_ok H F P O q2) (setI (Bool.eq_false_iff.mpr hs))
          · cases h
        · cases h
      · cases h
  · exact cAssign_ok H F P hg h
  · cases h
theorem good_step (hg : ∀ c es ps, k.g c (.List es ps) = none) : Good G p CX cl (stepC G cl k) where
  e := fun F P h => stepE_ok H F P h
  l := fun F P h => stepL_ok H F P h
  t := fun F P h => stepT_ok H F P h
  i := fun F P h => stepI_ok H F P h
  g := fun F h => stepG_ok H F h
  s := fun F P O h => stepS_ok H F P O (hg _) h
end
section
variable {G : Glb} {p : Par} {CX : CXT} {cl : CallF} {c : Ctx} {X : Cx} {E : XK}
theorem comp_list : ∀ (n : Nat) (c : Ctx) (es : List Expr) (ps : Pos), (comp G cl n).g c (.List es ps) = none
  | 0, _, _, _ => rfl
  | _ + 1, _, _, _ => rfl
theorem good_comp : ∀ n : Nat, Good G p CX cl (comp G cl n)
  | 0 => good_none
  | n + 1 => good_step (good_comp n) (comp_list n)
theorem body_ok (F : Fits G p CX cl c X) (P : Passes CX X E) (O : PassesOwn (model X.prog X.w) X.A X.env X.xe) {body : List Stmt} {f : SF} (h : compB G cl c body = some f) : PSs X body (tS p (wE E) f) := cSs_ok (good_comp 40) F P O h
end
end Ev
set_option Elab.async false
set_option linter.all false
set_option maxRecDepth 100000
set_option maxHeartbeats 4000000
namespace Ev
open PySem PySem.Spec PyProof.Rows L2
structure DI where
  d : He.DefD
  N : List Str
  ps : List Str
  b : CallF → SF
def callF (tbl : List DI) : Nat → CallF
  | 0 => fun _ _ _ => .stuck
  | n + 1 => fun j ds S => match tbl[j]? with
    | some i => runF i.ps.length i.N.length (i.b (callF tbl n)) ds S
    | none => .stuck
abbrev ctxOf (i : DI) : Ctx := ⟨i.N, i.d.scope, fun _ => true⟩
abbrev FunI (K : PySem.W.Frag) (i : DI) (f : Addr) (fd : FuncData) : Prop := FunD K i.d.name i.d.qual i.d.params i.d.body i.d.scope [] [] f fd
structure Facts (G : Glb) (tbl : List DI) (p : Par) (K : PySem.W.Frag) (mg : Str → Option Value) : Prop where
  hK : p.K = K
  defs : ∀ j i, tbl[j]? = some i → (∃ fd, FunI K i (p.FA j) fd) ∧ (∀ fd, FunI K i (p.FA j) fd → Binds K fd i.ps []) ∧ FnScope i.N i.ps i.d.scope ∧ ∀ cl, compB G cl (ctxOf i) i.d.body = some (i.b cl)
  fns : ∀ x j n, look x G.fns = some (j, n) → mg x = some (.ref (p.FA j)) ∧ ∃ i, tbl[j]? = some i ∧ i.ps.length = n
  csts : ∀ x d, look x G.csts = some d → ∃ u v, mg x = some u ∧ RelV v u ∧ ∀ m, Rel p m d v
  clss : ∀ x ci j n, look x G.clss = some (ci, j, n) → mg x = some (.ref (p.CA ci)) ∧ Mk K (p.CA ci) (p.FA j) ∧ ∃ i, tbl[j]? = some i ∧ i.ps.length = n + 1
  mths : ∀ m ci j n, look m G.mths = some (ci, j, n) → (∀ f, f < p.nF → p.FN f ≠ m) ∧ Cls K (p.CA ci) ∧ Meth K (p.CA ci) m (p.FA j) ∧ ∃ i, tbl[j]? = some i ∧ i.ps.length = n + 1
  flds : ∀ f i, look f G.flds = some i → f = p.FN i ∧ FldOk p G.cs i
  inj : FInj p
  blt : ∀ x, hasS x G.blt = true → mg x = none
section
variable {G : Glb} {tbl : List DI} {p : Par} {K : PySem.W.Frag} {mg : Str → Option Value} {P : Program} {w : World} {base : Heap}
theorem all_fn (Fc : Facts G tbl p K mg) : ∀ (n j : Nat) (i : DI), tbl[j]? = some i → ∃ fd, FunI K i (p.FA j) fd ∧ FnOk P w K mg base CX0 (2 * n) (p.FA j) fd i.ps (spOf p (callF tbl n) j i.ps.length)
  | 0, j, i, h => by
    obtain ⟨⟨fd, F⟩, _⟩ := Fc.defs j i h
    exact ⟨fd, F, ⟨fun vs H Q E ⟨m, S, ds, _, _, _, _, g⟩ => g.elim, fun A outer s H args us vs Q E _ _ _ _ ⟨m, S, ds, _, _, _, _, g⟩ => g.elim⟩⟩
  | n + 1, j, i, h => by
    obtain ⟨⟨fd, F⟩, hb, hs, hc⟩ := Fc.defs j i h
    have e2 : 2 * (n + 1) = (2 * n + 1) + 1 := by omega
    rw [e2]
    refine ⟨fd, F, F.ok hs (fun vs H Q E ⟨m, St, ds, _, _, hr, hl, _⟩ => by rw [← hr.length, hl]) fun cdv A outer s H vs Q E hr ⟨m, St, ds, hH, k, hrel, hl, g⟩ => ?_⟩
    subst hH
    refine ⟨_, ?_, run_body k hrel hl (by
      have e : callF tbl (n + 1) j ds St = runF i.ps.length i.N.length (i.b (callF tbl n)) ds St := by
        show (match tbl[j]? with | some i => runF i.ps.length i.N.length (i.b (callF tbl n)) ds St | none => .stuck) = _
        rw [h]
      rw [← e]; exact g)⟩
    have call : ∀ j' i', tbl[j']? = some i' → ∃ fd, FunI K i' (p.FA j') fd ∧ FnOk P w K mg base CX0 (2 * n) (p.FA j') fd i'.ps (spOf p (callF tbl n) j' i'.ps.length) := fun j' i' h' => all_fn Fc n j' i' h'
    refine body_ok (G := G) (cl := callF tbl n) (c := ctxOf i) (CX := CX0) (E := E) ?_ (fun _ _ _ _ _ _ _ z => (show False from z).elim) (passes_of rfl) (hc (callF tbl n))
    exact {
      K := Fc.hK.symm
      calm := rfl
      un := by have := hr.un; show (A.deeper _).units + 100 < _; omega
      N := rfl
      nd := hs.nd
      sc := rfl
      own := rfl
      kind := hs.kind
      fns := fun x j' n' hx => by
        obtain ⟨m1, i', hi, hn⟩ := Fc.fns x j' n' hx
        obtain ⟨fd', F', ok⟩ := call j' i' hi
        obtain ⟨_, hb', _⟩ := Fc.defs j' i' hi
        exact ⟨m1, F'.kp, 2 * n, fd', i'.ps, hn ▸ ok, hr.mono (by omega), hb' fd' F'⟩
      csts := Fc.csts
      clss := fun x ci j' n' hx => by
        obtain ⟨m1, mk, i', hi, hn⟩ := Fc.clss x ci j' n' hx
        obtain ⟨fd', F', ok⟩ := call j' i' hi
        obtain ⟨_, hb', _⟩ := Fc.defs j' i' hi
        exact ⟨m1, 2 * n, fd', i'.ps, mk, hn ▸ ok, hr.mono (by omega), hb' fd' F'⟩
      mths := fun x ci j' n' hx => by
        obtain ⟨m0, m1, m2, i', hi, hn⟩ := Fc.mths x ci j' n' hx
        obtain ⟨fd', F', ok⟩ := call j' i' hi
        obtain ⟨_, hb', _⟩ := Fc.defs j' i' hi
        exact ⟨m0, m1, m2, 2 * n, fd', i'.ps, hn ▸ ok, hr.mono (by omega), hb' fd' F'⟩
      flds := Fc.flds
      inj := Fc.inj
      blt := Fc.blt
      nocx := fun _ _ _ _ _ z => (show False from z) }
def scr (ns : List Int) : D := .rol (ns.map .int)
theorem law_sp {n j : Nat} (hp : p.K = K) (hlaw : ∀ ns : List Int, ns.length ≤ 63 → ∃ S', callF tbl n j [scr ns] ⟨[], []⟩ = .ok (.bl true) S') {H : Hp} {a : Addr} {ns : List Int} (hl : ns.length ≤ 63) (hS : SqL K H a (ns.map V.int)) (hR : SqL K H a (ns.map V.int) → SqR K H a (ns.map V.int)) :
    spOf p (callF tbl n) j 1 [.ref a] H (fun v _ => v = .bl true) fun _ _ _ => False := by
  have rl : ∀ (m : Sim) (ns : List Int), RelL p m (ns.map D.int) (ns.map V.int) := fun m ns => by
    induction ns with
    | nil => exact RelL.nil
    | cons i r ih => exact RelL.cons rfl ih
  obtain ⟨S', e⟩ := hlaw ns hl
  refine ⟨⟨fun _ => 0, 0, H⟩, ⟨[], []⟩, [scr ns], rfl, ⟨rfl, fun n o h => by simp at h, fun i j hi => absurd hi (Nat.not_lt_zero _)⟩, RelL.cons ⟨a, _, rfl, hp ▸ hR hS, rl _ ns⟩ RelL.nil, rfl, ?_⟩
  rw [e]
  intro m' _ _ v hv
  exact hv
end
def cstVs (f : Value → D → Bool) : List Value → List D → Bool
  | [], [] => true
  | v :: vs, d :: ds => f v d && cstVs f vs ds
  | _, _ => false
def cstV (K : PySem.W.Frag) : Nat → Value → D → Bool
  | 0, _, _ => false
  | n + 1, v, d => match d with
    | .non => v == .none
    | .bl b => v == .bool b
    | .int i => (match v with
      | .int j _ => decide (j = i)
      | _ => false)
    | .str x => (match v with
      | .str y _ => decide (y = x)
      | _ => false)
    | .tup ds => (match v with
      | .ref a => (match K.lookup a with
        | some ⟨.type c, _, .seq its _, _⟩ => decide (c = "tuple") && (decide (its.size ≤ sizeLine) && cstVs (cstV K n) its.toList ds)
        | _ => false)
      | _ => false)
    | _ => false
theorem cstVs_ok {p : Par} {f : Value → D → Bool} (hf : ∀ v d, f v d = true → ∃ x, RelV x v ∧ ∀ m, Rel p m d x) : ∀ {vs : List Value} {ds : List D}, cstVs f vs ds = true → ∃ xs, Vals xs vs ∧ ∀ m, RelL p m ds xs
  | [], [], h => ⟨[], .nil, fun m => RelL.nil⟩
  | v :: vs, d :: ds, h => by
    rw [cstVs, Bool.and_eq_true] at h
    obtain ⟨x, h1, h2⟩ := hf v d h.1
    obtain ⟨xs, h3, h4⟩ := cstVs_ok hf h.2
    exact ⟨x :: xs, .cons h1 h3, fun m => RelL.cons (h2 m) (h4 m)⟩
  | [], _ :: _, h => by simp [cstVs] at h
  | _ :: _, [], h => by simp [cstVs] at h
theorem cstV_ok {p : Par} : ∀ (n : Nat) (v : Value) (d : D), cstV p.K n v d = true → ∃ x, RelV x v ∧ ∀ m, Rel p m d x
  | 0, v, d, h => by cases h
  | n + 1, v, d, h => by
    cases d with
    | non => exact ⟨.non, eq_of_beq (show (v == Value.none) = true from h), fun m => rfl⟩
    | bl b => exact ⟨.bl b, eq_of_beq (show (v == Value.bool b) = true from h), fun m => rfl⟩
    | int i =>
      cases v with
      | int j t => exact ⟨.int i, ⟨t, by rw [of_decide_eq_true (show decide (j = i) = true from h)]⟩, fun m => rfl⟩
      | _ => cases h
    | str i =>
      cases v with
      | str j t => exact ⟨.str i, ⟨t, by rw [of_decide_eq_true (show decide (j = i) = true from h)]⟩, fun m => rfl⟩
      | _ => cases h
    | tup ds =>
      cases v with
      | ref a =>
        have h : (match p.K.lookup a with
          | some ⟨.type c, _, .seq its _, _⟩ => decide (c = "tuple") && (decide (its.size ≤ sizeLine) && cstVs (cstV p.K n) its.toList ds)
          | _ => false) = true := h
        split at h
        · rename_i c od its k osl q
          simp only [Bool.and_eq_true] at h
          obtain ⟨xs, h1, h2⟩ := cstVs_ok (cstV_ok n) h.2.2
          exact ⟨.ref a, rfl, fun m => ⟨a, xs, rfl, .inr ⟨_, its, k, q, congrArg Value.type (of_decide_eq_true h.1), rfl, of_decide_eq_true h.2.1, h1⟩, h2 m⟩⟩
        · cases h
      | _ => cases h
    | _ => cases h
def cstOk (K : PySem.W.Frag) (q : Str × D) : Bool := match PySem.W.nsIn K mainGlobals q.1 with
  | some (some v) => cstV K 30 v q.2
  | _ => false
abbrev AlE : Type := He.AlD × Bool
def obsE (n : Nat) (fa : List He.Fa) (fn : List He.DefD) (cs : List (Str × D)) (g : Addr → Option Obj) : AlE := (He.obsD fa fn (He.frG g (He.asD g n)), cs.all (cstOk (He.frG g (He.asD g n))))
def hookE (n : Nat) (fa : List He.Fa) (fn : List He.DefD) (cs : List (Str × D)) : PySem.W.Hook where
  α := AlE
  obs := fun s => obsE n fa fn cs s.heap.get?
  val := fun _ => (He.valD fn, true)
  says := fun _ h => ∃ K : PySem.W.Frag, K.In h ∧ He.SaysD fa fn K ∧ cs.all (cstOk K) = true
  of := fun _ _ e => ⟨_, He.frG_in, congrArg Prod.fst e, congrArg Prod.snd e⟩
  keeps := fun _ _ _ ⟨K, hK, c⟩ k => ⟨K, PySem.W.Frag.In.keeps hK k, c⟩
theorem obsE_eq {n : Nat} {fa : List He.Fa} {fn : List He.DefD} {cs : List (Str × D)} {g : Addr → Option Obj} {s : Shared} (h : ∀ a, g a = s.heap.get? a) : obsE n fa fn cs g = (hookE n fa fn cs).obs s := by
  have e : g = s.heap.get? := funext h
  rw [e]; rfl
end Ev
set_option Elab.async false
set_option linter.all false
set_option maxRecDepth 100000
set_option maxHeartbeats 4000000
namespace Ev
open PySem PySem.Spec PyProof.Rows L2
structure LD where
  G : Glb
  tbl : List DI
  cn : List Str
  fn : List Str
def LD.at_ (L : LD) (j : Nat) : Str × Option Str := match L.tbl[j]? with
  | some i => i.d.at_
  | none => (Str.empty, none)
def LD.cnm (L : LD) (c : Nat) : Str := match L.cn[c]? with
  | some x => x
  | none => Str.empty
def LD.fnm (L : LD) (c : Nat) : Str := match L.fn[c]? with
  | some x => x
  | none => Str.empty
def LD.par (L : LD) (K : PySem.W.Frag) : Par := ⟨K, fun j => He.fAd K (L.at_ j), fun c => He.ga K (L.cnm c), L.fnm, L.fn.length⟩
def LD.fa (L : LD) : List He.Fa := L.G.fns.map (fun q => .glo q.1) ++ (L.G.blt.map .free ++ (L.G.clss.map (fun q => .glo q.1) ++ (L.G.clss.map (fun q => .mkr q.1) ++ (L.G.mths.map (fun q => .meth (L.cnm q.2.1) q.1) ++ (L.cn.map .cls ++ L.cn.flatMap fun c => L.fn.map fun f => .noat c f)))))
def LD.defs (L : LD) : List He.DefD := L.tbl.map (·.d)
def scopeB (N ps : List Str) (sc : Scope) : Bool := (sc.kind == .function) && !sc.isCoroutine && !sc.isGenerator && nodupS N && (N.take ps.length == ps) && ps.all (fun x => sc.names.lookup x == some .local || sc.names.lookup x == some .cell) && sc.names.all fun y => y.2 != .free
theorem scopeB_ok {N ps : List Str} {sc : Scope} (h : scopeB N ps sc = true) : FnScope N ps sc := by
  unfold scopeB at h
  simp only [Bool.and_eq_true, Bool.not_eq_true'] at h
  obtain ⟨⟨⟨⟨⟨⟨h1, h2⟩, h3⟩, h4⟩, h5⟩, h6⟩, h7⟩ := h
  refine ⟨eq_of_beq h1, h2, h3, nodupS_ok h4, eq_of_beq h5, fun x hx => ?_, fun y hy => ?_⟩
  · have := List.all_eq_true.mp h6 x hx
    rw [Bool.or_eq_true] at this
    exact this.imp eq_of_beq eq_of_beq
  · have := List.all_eq_true.mp h7 y hy
    exact fun z => by rw [z] at this; cases this
def atB (L : LD) (j : Nat) (at_ : Str × Option Str) (n : Nat) : Bool := match L.tbl[j]? with
  | some i => (i.d.at_ == at_) && (i.ps.length == n)
  | none => false
theorem atB_ok {L : LD} {j n : Nat} {at_ : Str × Option Str} (h : atB L j at_ n = true) : ∃ i, L.tbl[j]? = some i ∧ i.ps.length = n ∧ L.at_ j = at_ := by
  unfold atB at h
  split at h
  · rename_i i q
    rw [Bool.and_eq_true] at h
    refine ⟨i, q, eq_of_beq h.2, ?_⟩
    unfold LD.at_
    rw [q]
    exact eq_of_beq h.1
  · cases h
def LD.chk (L : LD) : Bool :=
  L.G.fns.all (fun q => atB L q.2.1 (q.1, none) q.2.2) &&
  L.G.clss.all (fun q => strEq (L.cnm q.2.1) q.1 && atB L q.2.2.1 (q.1, some (Str.ofString "__init__")) (q.2.2.2 + 1)) &&
  L.G.mths.all (fun q => Nat.blt q.2.1 L.cn.length && atB L q.2.2.1 (L.cnm q.2.1, some q.1) (q.2.2.2 + 1) && !hasS q.1 L.fn) &&
  L.G.flds.all (fun q => Nat.blt q.2 L.fn.length && strEq (L.fnm q.2) q.1) &&
  L.G.cs.all (fun c => Nat.blt c L.cn.length) && nodupS L.fn &&
  L.tbl.all (fun i => scopeB i.N i.ps i.d.scope && i.d.dfl.isEmpty && i.d.kwd.isEmpty)
theorem look_mem {α : Type} {x : Str} : ∀ {l : List (Str × α)} {a : α}, look x l = some a → (x, a) ∈ l
  | (y, b) :: r, a, h => by
    rw [look] at h
    split at h
    · rename_i e
      cases h
      rw [strEq_ok e]; exact List.mem_cons_self
    · exact List.mem_cons_of_mem _ (look_mem h)
theorem hasS_in {x : Str} : ∀ {l : List Str}, hasS x l = true → x ∈ l
  | y :: r, h => by
    rw [hasS, Bool.or_eq_true] at h
    rcases h with h | h
    · rw [strEq_ok h]; exact List.mem_cons_self
    · exact List.mem_cons_of_mem _ (hasS_in h)
def OkD (G : Glb) (i : DI) : Prop := (∀ K f fd, FunI K i f fd → Binds K fd i.ps []) ∧ ∀ cl, compB G cl (ctxOf i) i.d.body = some (i.b cl)
def EachD (P : DI → Prop) : List DI → Prop
  | [] => True
  | i :: r => P i ∧ EachD P r
theorem EachD.get {P : DI → Prop} : ∀ {l : List DI} {j : Nat} {i : DI}, EachD P l → l[j]? = some i → P i
  | i :: r, 0, _, h, e => by cases e; exact h.1
  | _ :: r, j + 1, i, h, e => EachD.get h.2 e
theorem EachD.app {P : DI → Prop} : ∀ {l l' : List DI}, EachD P l → EachD P l' → EachD P (l ++ l')
  | [], _, _, h => h
  | _ :: _, _, h, h' => ⟨h.1, EachD.app h.2 h'⟩
theorem SaysD.has {fa : List He.Fa} {fn : List He.DefD} {K : PySem.W.Frag} (c : He.SaysD fa fn K) {f : He.Fa} (h : f ∈ fa) : f.ok K = true := by
  obtain ⟨i, hi⟩ := List.getElem?_of_mem h
  exact He.SaysD.fact c i hi
theorem cnm_mem {L : LD} {c : Nat} (h : Nat.blt c L.cn.length = true) : L.cnm c ∈ L.cn := by
  have h : c < L.cn.length := Nat.le_of_ble_eq_true h
  unfold LD.cnm
  rw [List.getElem?_eq_getElem h]
  exact List.getElem_mem h
theorem facts_of {L : LD} {K : PySem.W.Frag} {h : Heap} {mg : Str → Option Value} (X : K.In h) (Gm : h.Ns mainGlobals mg) (c : He.SaysD L.fa L.defs K) (cst : L.G.csts.all (cstOk K) = true) (ck : L.chk = true) (od : EachD (OkD L.G) L.tbl) : Facts L.G L.tbl (L.par K) K mg := by
  unfold LD.chk at ck
  simp only [Bool.and_eq_true] at ck
  obtain ⟨⟨⟨⟨⟨⟨k1, k2⟩, k3⟩, k4⟩, k5⟩, k6⟩, k7⟩ := ck
  have hfa : ∀ {f : He.Fa}, f ∈ L.fa → f.ok K = true := fun hf => SaysD.has c hf
  unfold LD.fa at hfa
  simp only [List.mem_append] at hfa
  have noat : ∀ C, C ∈ L.cn → ∀ f, f ∈ L.fn → NoAttr K (He.ga K C) f := fun C hC f hf => He.noat_ok (hfa (.inr (.inr (.inr (.inr (.inr (.inr (List.mem_flatMap.mpr ⟨C, hC, List.mem_map.mpr ⟨f, hf, rfl⟩⟩))))))))
  have cls : ∀ C, C ∈ L.cn → Cls K (He.ga K C) := fun C hC => He.cls_ok (hfa (.inr (.inr (.inr (.inr (.inr (.inl (List.mem_map.mpr ⟨C, hC, rfl⟩))))))))
  refine ⟨rfl, fun j i hj => ?_, fun x j n hx => ?_, fun x d hx => ?_, fun x ci j n hx => ?_, fun m ci j n hx => ?_, fun f i hx => ?_, fun f g hf hg e => ?_, fun x hx => ?_⟩
  · have k7 := List.all_eq_true.mp k7 i (List.mem_of_getElem? hj)
    simp only [Bool.and_eq_true] at k7
    obtain ⟨o1, o2⟩ := od.get hj
    refine ⟨?_, fun fd F => o1 _ _ _ F, scopeB_ok k7.1.1, o2⟩
    have hd : L.defs[j]? = some i.d := by unfold LD.defs; rw [List.getElem?_map, hj]; rfl
    obtain ⟨fd, F⟩ := He.SaysD.def_ c j hd
    have e1 : i.d.dvs K = [] := by unfold He.DefD.dvs; rw [List.isEmpty_iff.mp k7.1.2]; rfl
    have e2 : i.d.kws K = [] := by unfold He.DefD.kws; rw [List.isEmpty_iff.mp k7.2]; rfl
    rw [e1, e2] at F
    refine ⟨fd, ?_⟩
    have e3 : (L.par K).FA j = He.fAd K i.d.at_ := by
      show He.fAd K (L.at_ j) = _
      unfold LD.at_
      rw [hj]
    rw [e3]; exact F
  · have hm := look_mem hx
    obtain ⟨i, a1, a2, a3⟩ := atB_ok (List.all_eq_true.mp k1 _ hm)
    refine ⟨?_, i, a1, a2⟩
    have := He.glo_ok X Gm (hfa (.inl (List.mem_map.mpr ⟨_, hm, rfl⟩)))
    rw [this]
    show some (Value.ref (He.ga K x)) = some (.ref (He.fAd K (L.at_ j)))
    rw [a3]; rfl
  · have := List.all_eq_true.mp cst _ (look_mem hx)
    unfold cstOk at this
    split at this
    · rename_i v q
      obtain ⟨x', h1, h2⟩ := cstV_ok (p := L.par K) _ _ _ this
      exact ⟨v, x', PySem.W.mg_of X Gm q, h1, h2⟩
    · cases this
  · have hm := look_mem hx
    have k2 := List.all_eq_true.mp k2 _ hm
    rw [Bool.and_eq_true] at k2
    obtain ⟨i, a1, a2, a3⟩ := atB_ok k2.2
    have e1 : L.cnm ci = x := strEq_ok k2.1
    have g1 := He.glo_ok X Gm (hfa (.inr (.inr (.inl (List.mem_map.mpr ⟨_, hm, rfl⟩)))))
    have g2 := He.mkr_ok (hfa (.inr (.inr (.inr (.inl (List.mem_map.mpr ⟨_, hm, rfl⟩))))))
    have eC : (L.par K).CA ci = He.ga K x := by show He.ga K (L.cnm ci) = _; rw [e1]
    have eF : (L.par K).FA j = He.ma K (He.ga K x) "__init__" := by
      show He.fAd K (L.at_ j) = _
      rw [a3]; rfl
    exact ⟨by rw [g1, eC], by rw [eC, eF]; exact g2, i, a1, a2⟩
  · have hm := look_mem hx
    have k3 := List.all_eq_true.mp k3 _ hm
    simp only [Bool.and_eq_true] at k3
    obtain ⟨⟨b1, b2⟩, b3⟩ := k3
    obtain ⟨i, a1, a2, a3⟩ := atB_ok b2
    have eF : (L.par K).FA j = He.ma K (He.ga K (L.cnm ci)) m := by
      show He.fAd K (L.at_ j) = _
      rw [a3]; rfl
    refine ⟨fun f hf z => ?_, cls _ (cnm_mem b1), ?_, i, a1, a2⟩
    · have hf : f < L.fn.length := hf
      have : m ∈ L.fn := by
        rw [← z]
        show L.fnm f ∈ _
        unfold LD.fnm
        rw [List.getElem?_eq_getElem hf]
        exact List.getElem_mem hf
      rw [hasS_mem this] at b3; cases b3
    · rw [eF]
      exact He.meth_ok (hfa (.inr (.inr (.inr (.inr (.inl (List.mem_map.mpr ⟨_, hm, rfl⟩)))))))
  · have hm := look_mem hx
    have k4 := List.all_eq_true.mp k4 _ hm
    rw [Bool.and_eq_true] at k4
    have hi : i < L.fn.length := Nat.le_of_ble_eq_true k4.1
    refine ⟨(strEq_ok k4.2).symm, hi, fun cc hcc => ?_⟩
    have hC := cnm_mem (List.all_eq_true.mp k5 cc hcc)
    refine ⟨cls _ hC, noat _ hC _ ?_⟩
    show L.fnm i ∈ _
    unfold LD.fnm
    rw [List.getElem?_eq_getElem hi]
    exact List.getElem_mem hi
  · have hf : f < L.fn.length := hf
    have hg : g < L.fn.length := hg
    have e : L.fnm f = L.fnm g := e
    unfold LD.fnm at e
    rw [List.getElem?_eq_getElem hf, List.getElem?_eq_getElem hg] at e
    exact nodup_ix (nodupS_ok k6) (List.getElem?_eq_getElem hf) (by rw [List.getElem?_eq_getElem hg]; exact congrArg some e.symm)
  · exact He.free_ok X Gm (hfa (.inr (.inl (List.mem_map.mpr ⟨x, hasS_in hx, rfl⟩))))
theorem sqR_only {K : PySem.W.Frag} {H : Hp} {a : Addr} {xs : List V} (hO : Only H) (h : SqL K H a xs) : SqR K H a xs := by
  rcases h with (h | ⟨o, h⟩) | h
  · rcases hO a with z | ⟨o, ys, z⟩
    · rw [z] at h; cases h
    · rw [z] at h; cases h
  · exact .inl ⟨o, h⟩
  · exact .inr h
theorem funI_one {K : PySem.W.Frag} {i : DI} {f : Addr} {fd fd' : FuncData} (h : FunI K i f fd) (h' : FunI K i f fd') : fd = fd' := by
  obtain ⟨_, _, _, _, _, _, _, _, _, _, _, e, _⟩ := h.ex
  obtain ⟨_, _, _, _, _, _, _, _, _, _, _, e', _⟩ := h'.ex
  rw [e] at e'
  injection e' with e'
  injection e' with _ _ e'
  injection e' with e'
abbrev lawS : Str := Str.ofString "law"
abbrev scriptS : Str := Str.ofString "script"
theorem law_end {L : LD} {l : PySem.W.OpenLaw} {n j : Nat} {i : DI} {q : Program} {loose : List Str} {XP : (Str → Option Value) → Heap → Prop} {d : DefRec} (hn : l.most = some 63) (hdf : d.params.defaults = []) (hr : Room (2 * n) callerA) (hnm : d.name = lawS)
    (ck : L.chk = true) (od : EachD (OkD L.G) L.tbl) (hj : look lawS L.G.fns = some (j, 1)) (hi : L.tbl[j]? = some i) (hps : i.ps = [scriptS])
    (hb : ∀ K f fd, FunI K i f fd → ∀ (s : Shared) (u : Value), BindsTo s fd ⟨[u], []⟩ [(scriptS, u)])
    (hlaw : ∀ ns : List Int, ns.length ≤ 63 → ∃ S', callF L.tbl n j [scr ns] ⟨[], []⟩ = .ok (.bl true) S') :
    PySem.W.WalkO q loose XP (fun _ h => ∃ K : PySem.W.Frag, K.In h ∧ He.SaysD L.fa L.defs K ∧ L.G.csts.all (cstOk K) = true) l.row.toRowW d [] (fun f vs => PySem.call f vs) := by
  refine L2.walk_ofE (l := l) (n := 63) (k := 2 * n) (x := scriptS) (CX := CX0) hn (by rw [sizeLine_eq]; decide) hdf hr (fun w mg fa h Y Gm hfa => ?_) (fun _ _ _ _ z => z)
  obtain ⟨K, KX, c, cst⟩ := Y
  have Fc := facts_of KX Gm c cst ck od
  have hfa' : mg lawS = some (.ref fa) := by rw [← hnm]; exact hfa
  have e0 := (Fc.fns lawS j 1 hj).1
  rw [hfa'] at e0
  injection e0 with e0
  injection e0 with e0
  subst e0
  obtain ⟨⟨fd, F⟩, _⟩ := Fc.defs j i hi
  refine ⟨K, fd, spOf (L.par K) (callF L.tbl n) j 1, KX, hb K _ fd F, fun H a ns hl hO hS => law_sp (K := K) rfl hlaw hl hS (sqR_only hO), fun base _ _ => ?_⟩
  obtain ⟨fd', F', ok⟩ := all_fn (P := l.prog) (w := w) (base := base) Fc n j i hi
  rw [funI_one F F']
  rw [hps] at ok
  exact ok
end Ev
set_option Elab.async false
set_option linter.all false
set_option maxRecDepth 100000
set_option maxHeartbeats 4000000
namespace K81
open PySem PySem.Spec PyProof.Rows L2 Ev
def s_less : Str := "less"
def s_most : Str := "most"
def s_same : Str := "same"
def s_least : Str := "least"
def s_more : Str := "more"
def d_MOST_TIME : D := (.int (999999999999999999999999999999))
def d_NOUGHT : D := (.tup [(.int (0)), (.int (1))])
def d_MOST_PLACES : D := (.int (8))
def d_MOST_CLOCKS : D := (.int (3))
def d_MOST_STAYS : D := (.int (4))
def d_MOST_EDGES : D := (.int (30))
def d_MOST_GUARD : D := (.int (6))
def d_MOST_LETTER : D := (.int (9))
def d_MOST_NUMBER : D := (.int (20))
def d_LESS : D := (.str s_less)
def d_MOST : D := (.str s_most)
def d_SAME : D := (.str s_same)
def d_LEAST : D := (.str s_least)
def d_MORE : D := (.str s_more)
def d_RELATIONS : D := (.tup [(.str s_less), (.str s_most), (.str s_same), (.str s_least), (.str s_more)])
def d_STAYING : D := (.tup [(.str s_less), (.str s_most)])
def csL : List Nat := [0]
abbrev j_is_integer : Nat := 0
abbrev j_is_whole : Nat := 1
abbrev j_is_tuple_of : Nat := 2
abbrev j_is_rising : Nat := 3
abbrev j_divisor_of : Nat := 4
abbrev j_lowest : Nat := 5
abbrev j_fits_time : Nat := 6
abbrev j_need_time : Nat := 7
abbrev j_put_together : Nat := 8
abbrev j_difference : Nat := 9
abbrev j_side_of : Nat := 10
abbrev j_is_under : Nat := 11
abbrev j_fits_demand : Nat := 12
abbrev j_are_demands : Nat := 13
abbrev j_are_clocks : Nat := 14
abbrev j_fits_edge : Nat := 15
abbrev j_fits_machine : Nat := 16
abbrev j_need_machine : Nat := 17
abbrev j_fits_state : Nat := 18
abbrev j_need_state : Nat := 19
abbrev j_need_edge : Nat := 20
abbrev j_does_keep : Nat := 21
abbrev j_do_demands_hold : Nat := 22
abbrev j_is_let_in : Nat := 23
abbrev j_after_wait : Nat := 24
abbrev j_after_edge : Nat := 25
abbrev j_longest_in : Nat := 26
abbrev j_later_begin : Nat := 27
abbrev j_earlier_end : Nat := 28
abbrev j_Waits___init__ : Nat := 29
abbrev j_Waits_ask : Nat := 30
abbrev j_Waits_are_none : Nat := 31
abbrev j_waits_in : Nat := 32
abbrev j_is_stuck_in : Nat := 33
abbrev j_is_stopped_in : Nat := 34
abbrev j_need_let_state : Nat := 35
abbrev j_is_stuck : Nat := 36
abbrev j_is_stopped : Nat := 37
abbrev j_waits_to_edge : Nat := 38
abbrev j_need_both : Nat := 39
abbrev j_is_let : Nat := 40
abbrev j_waited : Nat := 41
abbrev j_edged : Nat := 42
abbrev j_edges_open : Nat := 43
abbrev j_longest_wait : Nat := 44
abbrev j__law_cup : Nat := 45
abbrev j__law_roll : Nat := 46
abbrev j__law_some : Nat := 47
abbrev j__law_sort : Nat := 48
abbrev j__law_like : Nat := 49
abbrev j__law_divisor : Nat := 50
abbrev j__law_time : Nat := 51
abbrev j__law_sum : Nat := 52
abbrev j__law_after : Nat := 53
abbrev j__law_edged : Nat := 54
abbrev j__law_keeps : Nat := 55
abbrev j__law_demands : Nat := 56
abbrev j__law_machine : Nat := 57
abbrev j__law_halfway : Nat := 58
abbrev j__law_opens : Nat := 59
abbrev j__law_is_stuck : Nat := 60
abbrev j__law_is_stopped : Nat := 61
abbrev j__law_waits_right : Nat := 62
abbrev j__law_right : Nat := 63
abbrev j_law : Nat := 64
def b_is_integer (cl : CallF) : SF :=
  (retS (andE (un1 (opIsi .int) (varE 0)) (un1 opNot (un1 (opIsi .bool) (varE 0)))))
def b_is_whole (cl : CallF) : SF :=
  (retS (andE (callE cl j_is_integer (consL (varE 0) nilL)) (chainE opLe opLe (varE 1) (varE 0) (varE 2))))
def b_is_tuple_of (cl : CallF) : SF :=
  (retS (andE (un1 (opIsi .tuple) (varE 0)) (chainE opLe opLe (varE 1) (coreE fLen (varE 0)) (varE 2))))
def lc_is_rising_1 (cl : CallF) : LF :=
  lcL [1, 2] (zipI (varE 0) (sliceE (varE 0) (someP (cstE (.int (1)))) noP)) (tupG 2 (consG (nameG 1) (consG (nameG 2) nilG))) yesT (bin2 opLt (varE 1) (varE 2))
def b_is_rising (cl : CallF) : SF :=
  (retS (coreL fAll (lc_is_rising_1 cl)))
def wb_divisor_of_1 (cl : CallF) : SF :=
  (parS [0, 1] (consL (varE 1) (consL (bin2 opMod (varE 0) (varE 1)) nilL)))
def wh_divisor_of_1 (cl : CallF) : SF :=
  whileS (boolT (bin2 opNe (varE 1) (cstE (.int (0)))))
    (wb_divisor_of_1 cl)
def b_divisor_of (cl : CallF) : SF :=
  (seqS (wh_divisor_of_1 cl)
    (retS (varE 0)))
def b_lowest (cl : CallF) : SF :=
  (seqS (asgS (nameG 2) (callE cl j_divisor_of (consL (un1 opAbs (varE 0)) (consL (varE 1) nilL))))
    (retS (tupE (consL (bin2 opDiv (varE 0) (varE 2)) (consL (bin2 opDiv (varE 1) (varE 2)) nilL)))))
def b_fits_time (cl : CallF) : SF :=
  (seqS (ifS (orT (notT (truthT (callE cl j_is_tuple_of (consL (varE 0) (consL (cstE (.int (2))) (consL (cstE (.int (2))) nilL)))))) (orT (notT (truthT (callE cl j_is_whole (consL (bin2 opIx (varE 0) (cstE (.int (0)))) (consL (cstE (.int (0))) (consL (cstE d_MOST_TIME) nilL)))))) (notT (truthT (callE cl j_is_whole (consL (bin2 opIx (varE 0) (cstE (.int (1)))) (consL (cstE (.int (1))) (consL (cstE d_MOST_TIME) nilL))))))))
    (retS (cstE (.bl false)))
    skipS)
    (retS (bin2 opEq (callE cl j_divisor_of (consL (bin2 opIx (varE 0) (cstE (.int (0)))) (consL (bin2 opIx (varE 0) (cstE (.int (1)))) nilL))) (cstE (.int (1))))))
def b_need_time (cl : CallF) : SF :=
  (ifS (notT (truthT (callE cl j_fits_time (consL (varE 0) nilL))))
    nevS
    skipS)
def b_put_together (cl : CallF) : SF :=
  (retS (callE cl j_lowest (consL (bin2 opAdd (bin2 opMul (bin2 opIx (varE 0) (cstE (.int (0)))) (bin2 opIx (varE 1) (cstE (.int (1))))) (bin2 opMul (bin2 opIx (varE 1) (cstE (.int (0)))) (bin2 opIx (varE 0) (cstE (.int (1)))))) (consL (bin2 opMul (bin2 opIx (varE 0) (cstE (.int (1)))) (bin2 opIx (varE 1) (cstE (.int (1))))) nilL))))
def b_difference (cl : CallF) : SF :=
  (retS (callE cl j_lowest (consL (bin2 opSub (bin2 opMul (bin2 opIx (varE 0) (cstE (.int (0)))) (bin2 opIx (varE 1) (cstE (.int (1))))) (bin2 opMul (bin2 opIx (varE 1) (cstE (.int (0)))) (bin2 opIx (varE 0) (cstE (.int (1)))))) (consL (bin2 opMul (bin2 opIx (varE 0) (cstE (.int (1)))) (bin2 opIx (varE 1) (cstE (.int (1))))) nilL))))
def b_side_of (cl : CallF) : SF :=
  (retS (bin2 opSub (bin2 opIx (varE 0) (cstE (.int (0)))) (bin2 opMul (varE 1) (bin2 opIx (varE 0) (cstE (.int (1)))))))
def b_is_under (cl : CallF) : SF :=
  (retS (bin2 opLt (bin2 opMul (bin2 opIx (varE 0) (cstE (.int (0)))) (bin2 opIx (varE 1) (cstE (.int (1))))) (bin2 opMul (bin2 opIx (varE 1) (cstE (.int (0)))) (bin2 opIx (varE 0) (cstE (.int (1)))))))
def b_fits_demand (cl : CallF) : SF :=
  (seqS (ifS (orT (notT (truthT (callE cl j_is_tuple_of (consL (varE 2) (consL (cstE (.int (3))) (consL (cstE (.int (3))) nilL)))))) (orT (notT (truthT (callE cl j_is_whole (consL (bin2 opIx (varE 2) (cstE (.int (0)))) (consL (cstE (.int (0))) (consL (bin2 opSub (varE 0) (cstE (.int (1)))) nilL)))))) (notT (truthT (un1 (opIsi .str) (bin2 opIx (varE 2) (cstE (.int (1)))))))))
    (retS (cstE (.bl false)))
    skipS)
    (retS (andE (bin2 opIn (bin2 opIx (varE 2) (cstE (.int (1)))) (varE 1)) (callE cl j_is_whole (consL (bin2 opIx (varE 2) (cstE (.int (2)))) (consL (cstE (.int (0))) (consL (cstE d_MOST_NUMBER) nilL)))))))
def lc_are_demands_1 (cl : CallF) : LF :=
  lcL [4] (valI (varE 3)) (nameG 4) yesT (callE cl j_fits_demand (consL (varE 0) (consL (varE 1) (consL (varE 4) nilL))))
def b_are_demands (cl : CallF) : SF :=
  (seqS (ifS (orT (notT (truthT (callE cl j_is_tuple_of (consL (varE 3) (consL (cstE (.int (0))) (consL (varE 2) nilL)))))) (notT (truthT (coreL fAll (lc_are_demands_1 cl)))))
    (retS (cstE (.bl false)))
    skipS)
    (retS (callE cl j_is_rising (consL (varE 3) nilL))))
def lc_are_clocks_1 (cl : CallF) : LF :=
  lcL [2] (valI (varE 1)) (nameG 2) yesT (callE cl j_is_whole (consL (varE 2) (consL (cstE (.int (0))) (consL (bin2 opSub (varE 0) (cstE (.int (1)))) nilL))))
def b_are_clocks (cl : CallF) : SF :=
  (seqS (ifS (orT (notT (truthT (callE cl j_is_tuple_of (consL (varE 1) (consL (cstE (.int (0))) (consL (varE 0) nilL)))))) (notT (truthT (coreL fAll (lc_are_clocks_1 cl)))))
    (retS (cstE (.bl false)))
    skipS)
    (retS (callE cl j_is_rising (consL (varE 1) nilL))))
def lc_fits_edge_1 (cl : CallF) : LF :=
  lcL [3] (valI (sliceE (varE 2) noP (someP (cstE (.int (2)))))) (nameG 3) yesT (callE cl j_is_whole (consL (varE 3) (consL (cstE (.int (0))) (consL (bin2 opSub (varE 0) (cstE (.int (1)))) nilL))))
def b_fits_edge (cl : CallF) : SF :=
  (seqS (ifS (orT (notT (truthT (callE cl j_is_tuple_of (consL (varE 2) (consL (cstE (.int (5))) (consL (cstE (.int (5))) nilL)))))) (notT (truthT (coreL fAll (lc_fits_edge_1 cl)))))
    (retS (cstE (.bl false)))
    skipS)
    (seqS (ifS (orT (notT (truthT (callE cl j_is_whole (consL (bin2 opIx (varE 2) (cstE (.int (2)))) (consL (cstE (.int (0))) (consL (cstE d_MOST_LETTER) nilL)))))) (notT (truthT (callE cl j_are_demands (consL (varE 1) (consL (cstE d_RELATIONS) (consL (cstE d_MOST_GUARD) (consL (bin2 opIx (varE 2) (cstE (.int (3)))) nilL))))))))
    (retS (cstE (.bl false)))
    skipS)
    (retS (callE cl j_are_clocks (consL (varE 1) (consL (bin2 opIx (varE 2) (cstE (.int (4)))) nilL))))))
def lc_fits_machine_1 (cl : CallF) : LF :=
  lcL [5] (valI (varE 3)) (nameG 5) yesT (callE cl j_are_demands (consL (varE 2) (consL (cstE d_STAYING) (consL (cstE d_MOST_STAYS) (consL (varE 5) nilL)))))
def lc_fits_machine_2 (cl : CallF) : LF :=
  lcL [6] (valI (varE 4)) (nameG 6) yesT (callE cl j_fits_edge (consL (varE 1) (consL (varE 2) (consL (varE 6) nilL))))
def b_fits_machine (cl : CallF) : SF :=
  (seqS (ifS (orT (notT (truthT (callE cl j_is_tuple_of (consL (varE 0) (consL (cstE (.int (4))) (consL (cstE (.int (4))) nilL)))))) (orT (notT (truthT (callE cl j_is_whole (consL (bin2 opIx (varE 0) (cstE (.int (0)))) (consL (cstE (.int (1))) (consL (cstE d_MOST_PLACES) nilL)))))) (notT (truthT (callE cl j_is_whole (consL (bin2 opIx (varE 0) (cstE (.int (1)))) (consL (cstE (.int (0))) (consL (cstE d_MOST_CLOCKS) nilL))))))))
    (retS (cstE (.bl false)))
    skipS)
    (seqS (asgS (tupG 4 (consG (nameG 1) (consG (nameG 2) (consG (nameG 3) (consG (nameG 4) nilG))))) (varE 0))
    (seqS (ifS (orT (notT (truthT (callE cl j_is_tuple_of (consL (varE 3) (consL (varE 1) (consL (varE 1) nilL)))))) (notT (truthT (callE cl j_is_tuple_of (consL (varE 4) (consL (cstE (.int (0))) (consL (cstE d_MOST_EDGES) nilL)))))))
    (retS (cstE (.bl false)))
    skipS)
    (seqS (ifS (notT (truthT (coreL fAll (lc_fits_machine_1 cl))))
    (retS (cstE (.bl false)))
    skipS)
    (retS (andE (coreL fAll (lc_fits_machine_2 cl)) (callE cl j_is_rising (consL (varE 4) nilL))))))))
def b_need_machine (cl : CallF) : SF :=
  (ifS (notT (truthT (callE cl j_fits_machine (consL (varE 0) nilL))))
    nevS
    skipS)
def lc_fits_state_1 (cl : CallF) : LF :=
  lcL [2] (valI (bin2 opIx (varE 1) (cstE (.int (1))))) (nameG 2) yesT (callE cl j_fits_time (consL (varE 2) nilL))
def b_fits_state (cl : CallF) : SF :=
  (seqS (ifS (orT (notT (truthT (callE cl j_is_tuple_of (consL (varE 1) (consL (cstE (.int (2))) (consL (cstE (.int (2))) nilL)))))) (notT (truthT (callE cl j_is_whole (consL (bin2 opIx (varE 1) (cstE (.int (0)))) (consL (cstE (.int (0))) (consL (bin2 opSub (bin2 opIx (varE 0) (cstE (.int (0)))) (cstE (.int (1)))) nilL)))))))
    (retS (cstE (.bl false)))
    skipS)
    (retS (andE (callE cl j_is_tuple_of (consL (bin2 opIx (varE 1) (cstE (.int (1)))) (consL (bin2 opIx (varE 0) (cstE (.int (1)))) (consL (bin2 opIx (varE 0) (cstE (.int (1)))) nilL)))) (coreL fAll (lc_fits_state_1 cl)))))
def b_need_state (cl : CallF) : SF :=
  (ifS (notT (truthT (callE cl j_fits_state (consL (varE 0) (consL (varE 1) nilL)))))
    nevS
    skipS)
def b_need_edge (cl : CallF) : SF :=
  (ifS (notT (truthT (callE cl j_is_whole (consL (varE 1) (consL (cstE (.int (0))) (consL (bin2 opSub (coreE fLen (bin2 opIx (varE 0) (cstE (.int (3))))) (cstE (.int (1)))) nilL))))))
    nevS
    skipS)
def b_does_keep (cl : CallF) : SF :=
  (seqS (ifS (boolT (bin2 opIn (varE 0) (cstE d_STAYING)))
    (retS (orE (bin2 opLt (varE 1) (cstE (.int (0)))) (andE (bin2 opEq (varE 1) (cstE (.int (0)))) (bin2 opEq (varE 0) (cstE d_MOST)))))
    skipS)
    (seqS (ifS (boolT (bin2 opEq (varE 0) (cstE d_SAME)))
    (retS (bin2 opEq (varE 1) (cstE (.int (0)))))
    skipS)
    (retS (orE (bin2 opGt (varE 1) (cstE (.int (0)))) (andE (bin2 opEq (varE 1) (cstE (.int (0)))) (bin2 opEq (varE 0) (cstE d_LEAST)))))))
def lc_do_demands_hold_1 (cl : CallF) : LF :=
  lcL [2, 3, 4] (valI (varE 1)) (tupG 3 (consG (nameG 2) (consG (nameG 3) (consG (nameG 4) nilG)))) yesT (callE cl j_does_keep (consL (varE 3) (consL (callE cl j_side_of (consL (bin2 opIx (varE 0) (varE 2)) (consL (varE 4) nilL))) nilL)))
def b_do_demands_hold (cl : CallF) : SF :=
  (retS (coreL fAll (lc_do_demands_hold_1 cl)))
def b_is_let_in (cl : CallF) : SF :=
  (retS (callE cl j_do_demands_hold (consL (bin2 opIx (varE 1) (cstE (.int (1)))) (consL (bin2 opIx (bin2 opIx (varE 0) (cstE (.int (2)))) (bin2 opIx (varE 1) (cstE (.int (0))))) nilL))))
def lc_after_wait_1 (cl : CallF) : LF :=
  lcL [4] (valI (bin2 opIx (varE 1) (cstE (.int (1))))) (nameG 4) yesT (callE cl j_put_together (consL (varE 4) (consL (varE 2) nilL)))
def b_after_wait (cl : CallF) : SF :=
  (seqS (asgS (nameG 3) (tupE (consL (bin2 opIx (varE 1) (cstE (.int (0)))) (consL (coreL fTup (lc_after_wait_1 cl)) nilL))))
    (retS (ifE (andT (truthT (callE cl j_is_let_in (consL (varE 0) (consL (varE 1) nilL)))) (truthT (callE cl j_is_let_in (consL (varE 0) (consL (varE 3) nilL))))) (varE 3) (cstE .non))))
def lc_after_edge_1 (cl : CallF) : LF :=
  lcL [9, 10] (enumI (bin2 opIx (varE 1) (cstE (.int (1))))) (tupG 2 (consG (nameG 9) (consG (nameG 10) nilG))) yesT (ifE (boolT (bin2 opIn (varE 9) (varE 8))) (cstE d_NOUGHT) (varE 10))
def b_after_edge (cl : CallF) : SF :=
  (seqS (asgS (tupG 5 (consG (nameG 4) (consG (nameG 5) (consG (nameG 6) (consG (nameG 7) (consG (nameG 8) nilG)))))) (bin2 opIx (bin2 opIx (varE 0) (cstE (.int (3)))) (varE 2)))
    (seqS (ifS (orT (boolT (bin2 opNe (bin2 opIx (varE 1) (cstE (.int (0)))) (varE 4))) (orT (notT (truthT (callE cl j_is_let_in (consL (varE 0) (consL (varE 1) nilL))))) (notT (truthT (callE cl j_do_demands_hold (consL (bin2 opIx (varE 1) (cstE (.int (1)))) (consL (varE 7) nilL)))))))
    (retS (cstE .non))
    skipS)
    (seqS (asgS (nameG 3) (tupE (consL (varE 5) (consL (coreL fTup (lc_after_edge_1 cl)) nilL))))
    (retS (ifE (truthT (callE cl j_is_let_in (consL (varE 0) (consL (varE 3) nilL)))) (varE 3) (cstE .non))))))
def fb_longest_in_1 (cl : CallF) : SF :=
  (seqS (parS [6, 7] (consL (callE cl j_difference (consL (tupE (consL (varE 5) (consL (cstE (.int (1))) nilL))) (consL (bin2 opIx (bin2 opIx (varE 1) (cstE (.int (1)))) (varE 3)) nilL))) (consL (bin2 opNe (varE 4) (cstE d_LESS)) nilL)))
    (ifS (orT (boolT (un1 (opIs .non) (varE 2))) (truthT (callE cl j_is_under (consL (varE 6) (consL (bin2 opIx (varE 2) (cstE (.int (0)))) nilL)))))
    (asgS (nameG 2) (tupE (consL (varE 6) (consL (varE 7) nilL))))
    (ifS (boolT (bin2 opEq (varE 6) (bin2 opIx (varE 2) (cstE (.int (0))))))
    (asgS (nameG 2) (tupE (consL (varE 6) (consL (andE (varE 7) (bin2 opIx (varE 2) (cstE (.int (1))))) nilL))))
    skipS)))
def fo_longest_in_1 (cl : CallF) : SF :=
  forS (valI (bin2 opIx (bin2 opIx (varE 0) (cstE (.int (2)))) (bin2 opIx (varE 1) (cstE (.int (0)))))) (tupG 3 (consG (nameG 3) (consG (nameG 4) (consG (nameG 5) nilG))))
    (fb_longest_in_1 cl)
def b_longest_in (cl : CallF) : SF :=
  (seqS (asgS (nameG 2) (cstE .non))
    (seqS (fo_longest_in_1 cl)
    (retS (varE 2))))
def b_later_begin (cl : CallF) : SF :=
  (seqS (ifS (boolT (bin2 opEq (bin2 opIx (varE 0) (cstE (.int (0)))) (bin2 opIx (varE 1) (cstE (.int (0))))))
    (retS (tupE (consL (bin2 opIx (varE 0) (cstE (.int (0)))) (consL (andE (bin2 opIx (varE 0) (cstE (.int (1)))) (bin2 opIx (varE 1) (cstE (.int (1))))) nilL))))
    skipS)
    (retS (ifE (truthT (callE cl j_is_under (consL (bin2 opIx (varE 0) (cstE (.int (0)))) (consL (bin2 opIx (varE 1) (cstE (.int (0)))) nilL)))) (varE 1) (varE 0))))
def b_earlier_end (cl : CallF) : SF :=
  (seqS (ifS (boolT (un1 (opIs .non) (bin2 opIx (varE 0) (cstE (.int (0))))))
    (retS (varE 1))
    skipS)
    (seqS (ifS (boolT (bin2 opEq (bin2 opIx (varE 0) (cstE (.int (0)))) (bin2 opIx (varE 1) (cstE (.int (0))))))
    (retS (tupE (consL (bin2 opIx (varE 0) (cstE (.int (0)))) (consL (andE (bin2 opIx (varE 0) (cstE (.int (1)))) (bin2 opIx (varE 1) (cstE (.int (1))))) nilL))))
    skipS)
    (retS (ifE (truthT (callE cl j_is_under (consL (bin2 opIx (varE 0) (cstE (.int (0)))) (consL (bin2 opIx (varE 1) (cstE (.int (0)))) nilL)))) (varE 0) (varE 1)))))
def b_Waits___init__ (cl : CallF) : SF :=
  (asgS (tupG 2 (consG (fldG csL (varE 0) 0) (consG (fldG csL (varE 0) 1) nilG))) (tupE (consL (tupE (consL (cstE d_NOUGHT) (consL (cstE (.bl true)) nilL))) (consL (tupE (consL (cstE .non) (consL (cstE (.bl false)) nilL))) nilL))))
def b_Waits_ask (cl : CallF) : SF :=
  (seqS (asgS (nameG 4) (callE cl j_difference (consL (tupE (consL (varE 3) (consL (cstE (.int (1))) nilL))) (consL (varE 1) nilL))))
    (seqS (ifS (boolT (bin2 opIn (varE 2) (tupE (consL (cstE d_LESS) (consL (cstE d_MOST) (consL (cstE d_SAME) nilL))))))
    (asgS (fldG csL (varE 0) 1) (callE cl j_earlier_end (consL (un1 (opFld csL 1) (varE 0)) (consL (tupE (consL (varE 4) (consL (bin2 opNe (varE 2) (cstE d_LESS)) nilL))) nilL))))
    skipS)
    (ifS (boolT (bin2 opIn (varE 2) (tupE (consL (cstE d_SAME) (consL (cstE d_LEAST) (consL (cstE d_MORE) nilL))))))
    (asgS (fldG csL (varE 0) 0) (callE cl j_later_begin (consL (un1 (opFld csL 0) (varE 0)) (consL (tupE (consL (varE 4) (consL (bin2 opNe (varE 2) (cstE d_MORE)) nilL))) nilL))))
    skipS)))
def b_Waits_are_none (cl : CallF) : SF :=
  (seqS (ifS (boolT (un1 (opIs .non) (bin2 opIx (un1 (opFld csL 1) (varE 0)) (cstE (.int (0))))))
    (retS (cstE (.bl false)))
    skipS)
    (seqS (ifS (boolT (bin2 opEq (bin2 opIx (un1 (opFld csL 0) (varE 0)) (cstE (.int (0)))) (bin2 opIx (un1 (opFld csL 1) (varE 0)) (cstE (.int (0))))))
    (retS (un1 opNot (andE (bin2 opIx (un1 (opFld csL 0) (varE 0)) (cstE (.int (1)))) (bin2 opIx (un1 (opFld csL 1) (varE 0)) (cstE (.int (1)))))))
    skipS)
    (retS (callE cl j_is_under (consL (bin2 opIx (un1 (opFld csL 1) (varE 0)) (cstE (.int (0)))) (consL (bin2 opIx (un1 (opFld csL 0) (varE 0)) (cstE (.int (0)))) nilL))))))
def fb_waits_in_1 (cl : CallF) : SF :=
  (exprS (methE cl [(0, 30)] (varE 3) (consL (bin2 opIx (bin2 opIx (varE 1) (cstE (.int (1)))) (varE 9)) (consL (varE 10) (consL (varE 11) nilL)))))
def fo_waits_in_1 (cl : CallF) : SF :=
  forS (valI (bin2 opAdd (bin2 opIx (bin2 opIx (varE 0) (cstE (.int (2)))) (varE 4)) (varE 7))) (tupG 3 (consG (nameG 9) (consG (nameG 10) (consG (nameG 11) nilG))))
    (fb_waits_in_1 cl)
def fb_waits_in_2 (cl : CallF) : SF :=
  (seqS (ifS (andT (boolT (bin2 opIn (varE 9) (varE 8))) (notT (truthT (callE cl j_does_keep (consL (varE 10) (consL (un1 opNeg (varE 11)) nilL))))))
    (retS (cstE .non))
    skipS)
    (ifS (boolT (bin2 opNotIn (varE 9) (varE 8)))
    (exprS (methE cl [(0, 30)] (varE 3) (consL (bin2 opIx (bin2 opIx (varE 1) (cstE (.int (1)))) (varE 9)) (consL (varE 10) (consL (varE 11) nilL)))))
    skipS))
def fo_waits_in_2 (cl : CallF) : SF :=
  forS (valI (bin2 opIx (bin2 opIx (varE 0) (cstE (.int (2)))) (varE 5))) (tupG 3 (consG (nameG 9) (consG (nameG 10) (consG (nameG 11) nilG))))
    (fb_waits_in_2 cl)
def b_waits_in (cl : CallF) : SF :=
  (seqS (asgS (tupG 5 (consG (nameG 4) (consG (nameG 5) (consG (nameG 6) (consG (nameG 7) (consG (nameG 8) nilG)))))) (bin2 opIx (bin2 opIx (varE 0) (cstE (.int (3)))) (varE 2)))
    (seqS (ifS (boolT (bin2 opNe (bin2 opIx (varE 1) (cstE (.int (0)))) (varE 4)))
    (retS (cstE .non))
    skipS)
    (seqS (asgS (nameG 3) (makeE cl 0 29 nilL))
    (seqS (fo_waits_in_1 cl)
    (seqS (fo_waits_in_2 cl)
    (retS (ifE (truthT (methE cl [(0, 31)] (varE 3) nilL)) (cstE .non) (varE 3))))))))
def lc_is_stuck_in_1 (cl : CallF) : LF :=
  lcL [2] (rngI1 (coreE fLen (bin2 opIx (varE 0) (cstE (.int (3)))))) (nameG 2) yesT (un1 (opIs .non) (callE cl j_waits_in (consL (varE 0) (consL (varE 1) (consL (varE 2) nilL)))))
def b_is_stuck_in (cl : CallF) : SF :=
  (retS (coreL fAll (lc_is_stuck_in_1 cl)))
def b_is_stopped_in (cl : CallF) : SF :=
  (retS (andE (callE cl j_is_stuck_in (consL (varE 0) (consL (varE 1) nilL))) (un1 (opIsNot .non) (callE cl j_longest_in (consL (varE 0) (consL (varE 1) nilL))))))
def b_need_let_state (cl : CallF) : SF :=
  (seqS (exprS (callE cl j_need_machine (consL (varE 0) nilL)))
    (seqS (exprS (callE cl j_need_state (consL (varE 0) (consL (varE 1) nilL))))
    (ifS (notT (truthT (callE cl j_is_let_in (consL (varE 0) (consL (varE 1) nilL)))))
    nevS
    skipS)))
def b_is_stuck (cl : CallF) : SF :=
  (seqS (exprS (callE cl j_need_let_state (consL (varE 0) (consL (varE 1) nilL))))
    (retS (callE cl j_is_stuck_in (consL (varE 0) (consL (varE 1) nilL)))))
def b_is_stopped (cl : CallF) : SF :=
  (seqS (exprS (callE cl j_need_let_state (consL (varE 0) (consL (varE 1) nilL))))
    (retS (callE cl j_is_stopped_in (consL (varE 0) (consL (varE 1) nilL)))))
def b_waits_to_edge (cl : CallF) : SF :=
  (seqS (exprS (callE cl j_need_let_state (consL (varE 0) (consL (varE 1) nilL))))
    (seqS (exprS (callE cl j_need_edge (consL (varE 0) (consL (varE 2) nilL))))
    (seqS (asgS (nameG 3) (callE cl j_waits_in (consL (varE 0) (consL (varE 1) (consL (varE 2) nilL)))))
    (retS (ifE (boolT (un1 (opIs .non) (varE 3))) (cstE .non) (tupE (consL (bin2 opIx (un1 (opFld csL 0) (varE 3)) (cstE (.int (0)))) (consL (bin2 opIx (un1 (opFld csL 0) (varE 3)) (cstE (.int (1)))) (consL (un1 (opFld csL 1) (varE 3)) nilL)))))))))
def b_need_both (cl : CallF) : SF :=
  (seqS (exprS (callE cl j_need_machine (consL (varE 0) nilL)))
    (exprS (callE cl j_need_state (consL (varE 0) (consL (varE 1) nilL)))))
def b_is_let (cl : CallF) : SF :=
  (seqS (exprS (callE cl j_need_both (consL (varE 0) (consL (varE 1) nilL))))
    (retS (callE cl j_is_let_in (consL (varE 0) (consL (varE 1) nilL)))))
def b_waited (cl : CallF) : SF :=
  (seqS (exprS (callE cl j_need_both (consL (varE 0) (consL (varE 1) nilL))))
    (seqS (exprS (callE cl j_need_time (consL (varE 2) nilL)))
    (retS (callE cl j_after_wait (consL (varE 0) (consL (varE 1) (consL (varE 2) nilL)))))))
def b_edged (cl : CallF) : SF :=
  (seqS (exprS (callE cl j_need_both (consL (varE 0) (consL (varE 1) nilL))))
    (seqS (exprS (callE cl j_need_edge (consL (varE 0) (consL (varE 2) nilL))))
    (retS (callE cl j_after_edge (consL (varE 0) (consL (varE 1) (consL (varE 2) nilL)))))))
def lc_edges_open_1 (cl : CallF) : LF :=
  lcL [2] (rngI1 (coreE fLen (bin2 opIx (varE 0) (cstE (.int (3)))))) (nameG 2) (boolT (un1 (opIsNot .non) (callE cl j_after_edge (consL (varE 0) (consL (varE 1) (consL (varE 2) nilL)))))) (varE 2)
def b_edges_open (cl : CallF) : SF :=
  (seqS (exprS (callE cl j_need_both (consL (varE 0) (consL (varE 1) nilL))))
    (retS (coreL fTup (lc_edges_open_1 cl))))
def b_longest_wait (cl : CallF) : SF :=
  (seqS (exprS (callE cl j_need_both (consL (varE 0) (consL (varE 1) nilL))))
    (seqS (ifS (notT (truthT (callE cl j_is_let_in (consL (varE 0) (consL (varE 1) nilL)))))
    nevS
    skipS)
    (retS (callE cl j_longest_in (consL (varE 0) (consL (varE 1) nilL))))))
def b__law_cup (cl : CallF) : SF :=
  (seqS (asgS (nameG 1) (un1 opAbs (bin2 opIx (mkL (catL (listL (varE 0)) (consL (cstE (.int (0))) nilL))) (cstE (.int (0))))))
    (retS (mkL (consL (ifE (boolT (bin2 opGe (varE 1) (bin2 opPow (cstE (.int (10))) (cstE (.int (18)))))) (bin2 opDiv (varE 1) (cstE (.int (73)))) (cstE (.int (0)))) (consL (bin2 opAdd (bin2 opMod (un1 opInt (bin2 opAdd (bin2 opMul (varE 1) (cstE (.int (283)))) (cstE (.int (3907))))) (cstE (.int (2077503167)))) (cstE (.int (167)))) nilL)))))
def b__law_roll (cl : CallF) : SF :=
  (seqS (ifS (boolT (bin2 opGt (bin2 opIx (varE 0) (cstE (.int (0)))) (cstE (.int (0)))))
    (seqS (asgS (nameG 3) (bin2 opMod (un1 opInt (bin2 opIx (varE 0) (cstE (.int (0))))) (varE 1)))
    (seqS (asgS (subG (varE 0) (cstE (.int (0)))) (bin2 opDiv (bin2 opIx (varE 0) (cstE (.int (0)))) (varE 1)))
    (retS (varE 3))))
    skipS)
    (seqS (asgS (subG (varE 0) (cstE (.int (1)))) (bin2 opMod (un1 opInt (bin2 opAdd (bin2 opMul (bin2 opIx (varE 0) (cstE (.int (1)))) (cstE (.int (31051)))) (cstE (.int (7993))))) (cstE (.int (2147483543)))))
    (seqS (asgS (nameG 2) (bin2 opMod (un1 opInt (bin2 opMul (bin2 opIx (varE 0) (cstE (.int (1)))) (bin2 opAdd (bin2 opIx (varE 0) (cstE (.int (1)))) (cstE (.int (229)))))) (cstE (.int (2147483587)))))
    (retS (bin2 opMod (un1 opInt (bin2 opDiv (varE 2) (cstE (.int (821))))) (varE 1))))))
def b__law_some (cl : CallF) : SF :=
  (retS (bin2 opIx (varE 1) (callE cl j__law_roll (consL (varE 0) (consL (coreE fLen (varE 1)) nilL)))))
def b__law_sort (cl : CallF) : SF :=
  (seqS (ifS (orT (boolT (un1 (opIs .non) (varE 0))) (truthT (un1 (opIsi .bool) (varE 0))))
    (retS (ifE (boolT (un1 (opIs .non) (varE 0))) (cstE (.int (0))) (cstE (.int (1)))))
    skipS)
    (seqS (ifS (orT (truthT (un1 (opIsi .int) (varE 0))) (truthT (un1 (opIsi .str) (varE 0))))
    (retS (ifE (truthT (un1 (opIsi .int) (varE 0))) (cstE (.int (2))) (cstE (.int (3)))))
    skipS)
    (retS (ifE (truthT (un1 (opIsi .tuple) (varE 0))) (cstE (.int (4))) (ifE (truthT (un1 (opIsi .list) (varE 0))) (cstE (.int (5))) (cstE (.int (6))))))))
def lc__law_like_1 (cl : CallF) : LF :=
  lcL [3, 4] (zipI (varE 0) (varE 1)) (tupG 2 (consG (nameG 3) (consG (nameG 4) nilG))) (notT (truthT (callE cl j__law_like (consL (varE 3) (consL (varE 4) nilL))))) (cstE (.int (1)))
def b__law_like (cl : CallF) : SF :=
  (seqS (asgS (nameG 2) (callE cl j__law_sort (consL (varE 1) nilL)))
    (seqS (ifS (orT (boolT (bin2 opNe (callE cl j__law_sort (consL (varE 0) nilL)) (varE 2))) (boolT (bin2 opEq (varE 2) (cstE (.int (6))))))
    (retS (cstE (.bl false)))
    skipS)
    (seqS (ifS (boolT (bin2 opIn (varE 2) (tupE (consL (cstE (.int (4))) (consL (cstE (.int (5))) nilL)))))
    (retS (andE (bin2 opEq (coreE fLen (varE 0)) (coreE fLen (varE 1))) (bin2 opEq (mkL (lc__law_like_1 cl)) (mkL nilL))))
    skipS)
    (retS (bin2 opEq (varE 0) (varE 1))))))
def wb__law_divisor_1 (cl : CallF) : SF :=
  (parS [0, 1] (consL (varE 1) (consL (bin2 opMod (un1 opInt (varE 0)) (varE 1)) nilL)))
def wh__law_divisor_1 (cl : CallF) : SF :=
  whileS (boolT (bin2 opNe (varE 1) (cstE (.int (0)))))
    (wb__law_divisor_1 cl)
def b__law_divisor (cl : CallF) : SF :=
  (seqS (wh__law_divisor_1 cl)
    (retS (varE 0)))
def b__law_time (cl : CallF) : SF :=
  (seqS (asgS (nameG 2) (bin2 opMax (cstE (.int (1))) (callE cl j__law_divisor (consL (varE 0) (consL (varE 1) nilL)))))
    (retS (tupE (consL (un1 opInt (bin2 opDiv (varE 0) (varE 2))) (consL (un1 opInt (bin2 opDiv (varE 1) (varE 2))) nilL)))))
def b__law_sum (cl : CallF) : SF :=
  (retS (callE cl j__law_time (consL (bin2 opAdd (bin2 opMul (bin2 opIx (varE 0) (cstE (.int (0)))) (bin2 opIx (varE 1) (cstE (.int (1))))) (bin2 opMul (bin2 opIx (varE 1) (cstE (.int (0)))) (bin2 opIx (varE 0) (cstE (.int (1)))))) (consL (bin2 opMul (bin2 opIx (varE 0) (cstE (.int (1)))) (bin2 opIx (varE 1) (cstE (.int (1))))) nilL))))
def lc__law_after_1 (cl : CallF) : LF :=
  lcL [4] (valI (bin2 opIx (varE 1) (cstE (.int (1))))) (nameG 4) yesT (callE cl j__law_sum (consL (varE 4) (consL (varE 2) nilL)))
def b__law_after (cl : CallF) : SF :=
  (seqS (asgS (nameG 3) (coreL fTup (lc__law_after_1 cl)))
    (retS (ifE (truthT (callE cl j__law_keeps (consL (varE 3) (consL (bin2 opIx (bin2 opIx (varE 0) (cstE (.int (2)))) (bin2 opIx (varE 1) (cstE (.int (0))))) nilL)))) (tupE (consL (bin2 opIx (varE 1) (cstE (.int (0)))) (consL (varE 3) nilL))) (cstE .non))))
def lc__law_edged_1 (cl : CallF) : LF :=
  lcL [9, 10] (enumI (bin2 opIx (varE 1) (cstE (.int (1))))) (tupG 2 (consG (nameG 9) (consG (nameG 10) nilG))) yesT (ifE (boolT (bin2 opIn (varE 9) (varE 8))) (tupE (consL (cstE (.int (0))) (consL (cstE (.int (1))) nilL))) (varE 10))
def b__law_edged (cl : CallF) : SF :=
  (seqS (asgS (tupG 5 (consG (nameG 4) (consG (nameG 5) (consG (nameG 6) (consG (nameG 7) (consG (nameG 8) nilG)))))) (bin2 opIx (bin2 opIx (varE 0) (cstE (.int (3)))) (varE 2)))
    (seqS (ifS (orT (boolT (bin2 opNe (bin2 opIx (varE 1) (cstE (.int (0)))) (varE 4))) (notT (truthT (callE cl j__law_keeps (consL (bin2 opIx (varE 1) (cstE (.int (1)))) (consL (varE 7) nilL))))))
    (retS (cstE .non))
    skipS)
    (seqS (asgS (nameG 3) (coreL fTup (lc__law_edged_1 cl)))
    (retS (ifE (truthT (callE cl j__law_keeps (consL (varE 3) (consL (bin2 opIx (bin2 opIx (varE 0) (cstE (.int (2)))) (varE 5)) nilL)))) (tupE (consL (varE 5) (consL (varE 3) nilL))) (cstE .non))))))
def fb__law_keeps_1 (cl : CallF) : SF :=
  (seqS (asgS (tupG 2 (consG (nameG 6) (consG (nameG 7) nilG))) (bin2 opIx (varE 0) (varE 2)))
    (seqS (asgS (nameG 5) (bin2 opSub (bin2 opGt (varE 6) (bin2 opMul (varE 4) (varE 7))) (bin2 opLt (varE 6) (bin2 opMul (varE 4) (varE 7)))))
    (ifS (boolT (bin2 opNotIn (varE 5) (dispIxE [s_less, s_most, s_same, s_least, s_more] (consL (tupE (consL (un1 opNeg (cstE (.int (1)))) nilL)) (consL (tupE (consL (un1 opNeg (cstE (.int (1)))) (consL (cstE (.int (0))) nilL))) (consL (tupE (consL (cstE (.int (0))) nilL)) (consL (tupE (consL (cstE (.int (0))) (consL (cstE (.int (1))) nilL))) (consL (tupE (consL (cstE (.int (1))) nilL)) nilL))))) (varE 3))))
    (retS (cstE (.bl false)))
    skipS)))
def fo__law_keeps_1 (cl : CallF) : SF :=
  forS (valI (varE 1)) (tupG 3 (consG (nameG 2) (consG (nameG 3) (consG (nameG 4) nilG))))
    (fb__law_keeps_1 cl)
def b__law_keeps (cl : CallF) : SF :=
  (seqS (fo__law_keeps_1 cl)
    (retS (cstE (.bl true))))
def fb__law_demands_1 (cl : CallF) : SF :=
  (asgS (dputG (varE 5) (consL (callE cl j__law_roll (consL (varE 0) (consL (varE 1) nilL))) (consL (callE cl j__law_some (consL (varE 0) (consL (varE 3) nilL))) (consL (callE cl j__law_roll (consL (varE 0) (consL (bin2 opAdd (varE 4) (cstE (.int (1)))) nilL))) nilL)))) (cstE (.bl true)))
def fo__law_demands_1 (cl : CallF) : SF :=
  forS (rngI1 (ifE (boolT (bin2 opGt (varE 1) (cstE (.int (0))))) (callE cl j__law_roll (consL (varE 0) (consL (bin2 opAdd (varE 2) (cstE (.int (1)))) nilL))) (cstE (.int (0))))) (nameG 6)
    (fb__law_demands_1 cl)
def b__law_demands (cl : CallF) : SF :=
  (seqS (asgS (nameG 5) newDE)
    (seqS (fo__law_demands_1 cl)
    (retS (coreL fTup (sortvL (varE 5))))))
def lc__law_machine_1 (cl : CallF) : LF :=
  lcL [11] (rngI1 (varE 6)) (nameG 11) yesT (callE cl j__law_demands (consL (varE 0) (consL (varE 7) (consL (cstE (.int (1))) (consL (mkL (consL (cstE (.str s_most)) (consL (cstE (.str s_most)) (consL (cstE (.str s_less)) nilL)))) (consL (varE 2) nilL))))))
def lc__law_machine_2 (cl : CallF) : LF :=
  lcL [12] (rngI1 (varE 7)) (nameG 12) (boolT (bin2 opEq (callE cl j__law_roll (consL (varE 0) (consL (cstE (.int (3))) nilL))) (cstE (.int (0))))) (varE 12)
def fb__law_machine_1 (cl : CallF) : SF :=
  (seqS (asgS (nameG 8) (callE cl j__law_demands (consL (varE 0) (consL (varE 7) (consL (cstE (.int (2))) (consL (mkL (consL (cstE (.str s_less)) (consL (cstE (.str s_most)) (consL (cstE (.str s_same)) (consL (cstE (.str s_least)) (consL (cstE (.str s_more)) (consL (cstE (.str s_least)) nilL))))))) (consL (varE 2) nilL)))))))
    (seqS (asgS (nameG 9) (coreL fTup (lc__law_machine_2 cl)))
    (seqS (asgS (nameG 10) (tupE (consL (callE cl j__law_roll (consL (varE 0) (consL (varE 6) nilL))) (consL (callE cl j__law_roll (consL (varE 0) (consL (varE 6) nilL))) (consL (callE cl j__law_roll (consL (varE 0) (consL (cstE (.int (3))) nilL))) (consL (varE 8) (consL (varE 9) nilL)))))))
    (asgS (nameG 4) (mkL (catVL (varE 4) (ifL (boolT (bin2 opNotIn (varE 10) (varE 4))) (consL (varE 10) nilL) nilL)))))))
def fo__law_machine_1 (cl : CallF) : SF :=
  forS (rngI1 (bin2 opAdd (cstE (.int (1))) (callE cl j__law_roll (consL (varE 0) (consL (bin2 opAdd (bin2 opMul (cstE (.int (2))) (varE 6)) (cstE (.int (2)))) nilL))))) (nameG 5)
    (fb__law_machine_1 cl)
def b__law_machine (cl : CallF) : SF :=
  (seqS (asgS (tupG 2 (consG (nameG 6) (consG (nameG 7) nilG))) (tupE (consL (bin2 opAdd (cstE (.int (1))) (callE cl j__law_roll (consL (varE 0) (consL (varE 1) nilL)))) (consL (callE cl j__law_roll (consL (varE 0) (consL (cstE (.int (3))) nilL))) nilL))))
    (seqS (asgS (nameG 3) (mkL (lc__law_machine_1 cl)))
    (seqS (ifS (boolT (bin2 opGt (callE cl j__law_roll (consL (varE 0) (consL (cstE (.int (3))) nilL))) (cstE (.int (0)))))
    (asgS (subG (varE 3) (cstE (.int (0)))) (tupE nilL))
    skipS)
    (seqS (asgS (nameG 4) (mkL nilL))
    (seqS (fo__law_machine_1 cl)
    (retS (tupE (consL (varE 6) (consL (varE 7) (consL (coreE fTup (varE 3)) (consL (coreL fTup (sortvL (varE 4))) nilL)))))))))))
def b__law_halfway (cl : CallF) : SF :=
  (retS (callE cl j__law_time (consL (bin2 opAdd (bin2 opMul (bin2 opIx (varE 0) (cstE (.int (0)))) (bin2 opIx (varE 1) (cstE (.int (1))))) (bin2 opMul (bin2 opIx (varE 1) (cstE (.int (0)))) (bin2 opIx (varE 0) (cstE (.int (1)))))) (consL (bin2 opMul (bin2 opMul (cstE (.int (2))) (bin2 opIx (varE 0) (cstE (.int (1))))) (bin2 opIx (varE 1) (cstE (.int (1))))) nilL))))
def fb__law_opens_1 (cl : CallF) : SF :=
  (seqS (asgS (tupG 2 (consG (nameG 21) (consG (nameG 22) nilG))) (bin2 opIx (bin2 opIx (varE 1) (cstE (.int (1)))) (varE 14)))
    (seqS (asgS (nameG 10) (callE cl j__law_time (consL (bin2 opMax (cstE (.int (0))) (bin2 opSub (bin2 opMul (varE 16) (varE 22)) (varE 21))) (consL (varE 22) nilL))))
    (asgS (nameG 3) (mkL (catVL (varE 3) (ifL (boolT (bin2 opNotIn (varE 10) (varE 3))) (consL (varE 10) nilL) nilL))))))
def fo__law_opens_1 (cl : CallF) : SF :=
  forS (valI (varE 4)) (tupG 3 (consG (nameG 14) (consG (nameG 15) (consG (nameG 16) nilG))))
    (fb__law_opens_1 cl)
def fb__law_opens_2 (cl : CallF) : SF :=
  (fo__law_opens_1 cl)
def fo__law_opens_2 (cl : CallF) : SF :=
  forS (valI (tupE (consL (bin2 opIx (bin2 opIx (varE 0) (cstE (.int (2)))) (bin2 opIx (varE 1) (cstE (.int (0))))) (consL (bin2 opIx (bin2 opIx (bin2 opIx (varE 0) (cstE (.int (3)))) (varE 2)) (cstE (.int (3)))) (consL (bin2 opIx (bin2 opIx (varE 0) (cstE (.int (2)))) (bin2 opIx (bin2 opIx (bin2 opIx (varE 0) (cstE (.int (3)))) (varE 2)) (cstE (.int (1))))) nilL))))) (nameG 4)
    (fb__law_opens_2 cl)
def lc__law_opens_1 (cl : CallF) : LF :=
  lcL [21, 22] (valI (varE 3)) (tupG 2 (consG (nameG 21) (consG (nameG 22) nilG))) yesT (tupE (consL (bin2 opDiv (bin2 opMul (varE 21) (cstE (.int (420)))) (varE 22)) (consL (tupE (consL (varE 21) (consL (varE 22) nilL))) nilL)))
def lc__law_opens_2 (cl : CallF) : LF :=
  lcL [23, 24] (valI (varE 5)) (tupG 2 (consG (nameG 23) (consG (nameG 24) nilG))) yesT (varE 24)
def fb__law_opens_3 (cl : CallF) : SF :=
  (seqS (asgS (nameG 10) (ifE (boolT (bin2 opLt (bin2 opAdd (varE 8) (cstE (.int (1)))) (coreE fLen (varE 3)))) (callE cl j__law_halfway (consL (varE 9) (consL (bin2 opIx (varE 3) (bin2 opAdd (varE 8) (cstE (.int (1))))) nilL))) (callE cl j__law_sum (consL (varE 9) (consL (tupE (consL (cstE (.int (1))) (consL (cstE (.int (1))) nilL))) nilL)))))
    (asgS (nameG 6) (mkL (catVL (varE 6) (consL (tupE (consL (varE 9) (consL (varE 8) (consL (cstE (.bl true)) nilL)))) (consL (tupE (consL (varE 10) (consL (varE 8) (consL (cstE (.bl false)) nilL)))) nilL))))))
def fo__law_opens_3 (cl : CallF) : SF :=
  forS (enumI (varE 3)) (tupG 2 (consG (nameG 8) (consG (nameG 9) nilG)))
    (fb__law_opens_3 cl)
def fb__law_opens_4 (cl : CallF) : SF :=
  (seqS (asgS (nameG 12) (callE cl j__law_after (consL (varE 0) (consL (varE 1) (consL (varE 9) nilL)))))
    (ifS (andT (boolT (un1 (opIsNot .non) (varE 12))) (boolT (un1 (opIsNot .non) (callE cl j__law_edged (consL (varE 0) (consL (varE 12) (consL (varE 2) nilL)))))))
    (exprS (appE (varE 7) (tupE (consL (varE 8) (consL (varE 11) nilL)))))
    skipS))
def fo__law_opens_4 (cl : CallF) : SF :=
  forS (valI (varE 6)) (tupG 3 (consG (nameG 9) (consG (nameG 8) (consG (nameG 11) nilG))))
    (fb__law_opens_4 cl)
def b__law_opens (cl : CallF) : SF :=
  (seqS (asgS (nameG 3) (mkL (consL (tupE (consL (cstE (.int (0))) (consL (cstE (.int (1))) nilL))) nilL)))
    (seqS (fo__law_opens_2 cl)
    (seqS (asgS (nameG 5) (mkL (sortL (lc__law_opens_1 cl))))
    (seqS (asgS (nameG 3) (mkL (lc__law_opens_2 cl)))
    (seqS (asgS (nameG 6) (mkL nilL))
    (seqS (fo__law_opens_3 cl)
    (seqS (asgS (nameG 7) (mkL nilL))
    (seqS (fo__law_opens_4 cl)
    (seqS (ifS (boolT (bin2 opEq (varE 7) (mkL nilL)))
    (retS (cstE .non))
    skipS)
    (seqS (asgS (tupG 2 (consG (tupG 2 (consG (nameG 17) (consG (nameG 18) nilG))) (consG (tupG 2 (consG (nameG 19) (consG (nameG 20) nilG))) nilG))) (tupE (consL (bin2 opIx (varE 7) (cstE (.int (0)))) (consL (bin2 opIx (varE 7) (un1 opNeg (cstE (.int (1))))) nilL))))
    (seqS (ifS (truthT (varE 20))
    (asgS (nameG 13) (tupE (consL (bin2 opIx (varE 3) (varE 19)) (consL (cstE (.bl true)) nilL))))
    (asgS (nameG 13) (ifE (boolT (bin2 opLt (bin2 opAdd (varE 19) (cstE (.int (1)))) (coreE fLen (varE 3)))) (tupE (consL (bin2 opIx (varE 3) (bin2 opAdd (varE 19) (cstE (.int (1))))) (consL (cstE (.bl false)) nilL))) (tupE (consL (cstE .non) (consL (cstE (.bl false)) nilL))))))
    (retS (tupE (consL (bin2 opIx (varE 3) (varE 17)) (consL (varE 18) (consL (varE 13) nilL))))))))))))))))
def lc__law_is_stuck_1 (cl : CallF) : LF :=
  lcL [2] (rngI1 (coreE fLen (bin2 opIx (varE 0) (cstE (.int (3)))))) (nameG 2) (andT (boolT (bin2 opEq (bin2 opIx (bin2 opIx (bin2 opIx (varE 0) (cstE (.int (3)))) (varE 2)) (cstE (.int (0)))) (bin2 opIx (varE 1) (cstE (.int (0)))))) (boolT (un1 (opIsNot .non) (callE cl j__law_opens (consL (varE 0) (consL (varE 1) (consL (varE 2) nilL))))))) (cstE (.int (1)))
def b__law_is_stuck (cl : CallF) : SF :=
  (retS (bin2 opEq (mkL (lc__law_is_stuck_1 cl)) (mkL nilL)))
def b__law_is_stopped (cl : CallF) : SF :=
  (retS (andE (bin2 opNe (bin2 opIx (bin2 opIx (varE 0) (cstE (.int (2)))) (bin2 opIx (varE 1) (cstE (.int (0))))) (tupE nilL)) (callE cl j__law_is_stuck (consL (varE 0) (consL (varE 1) nilL)))))
def fb__law_waits_right_1 (cl : CallF) : SF :=
  (seqS (asgS (nameG 11) (ifE (boolT (un1 (opIsNot .non) (varE 9))) (callE cl j_waited (consL (varE 1) (consL (varE 2) (consL (varE 9) nilL)))) (cstE .non)))
    (ifS (andT (boolT (un1 (opIsNot .non) (varE 9))) (boolT (bin2 opNe (andE (un1 (opIsNot .non) (varE 11)) (un1 (opIsNot .non) (callE cl j_edged (consL (varE 1) (consL (varE 11) (consL (varE 3) nilL)))))) (varE 10))))
    (retS (cstE (.bl false)))
    skipS))
def fo__law_waits_right_1 (cl : CallF) : SF :=
  forS (valI (tupE (consL (tupE (consL (varE 7) (consL (varE 8) nilL))) (consL (tupE (consL (varE 12) (consL (varE 13) nilL))) (consL (tupE (consL (ifE (boolT (un1 (opIsNot .non) (varE 12))) (callE cl j__law_halfway (consL (varE 7) (consL (varE 12) nilL))) (callE cl j__law_sum (consL (varE 7) (consL (tupE (consL (cstE (.int (9))) (consL (cstE (.int (1))) nilL))) nilL)))) (consL (orE (bin2 opNe (varE 7) (varE 12)) (varE 8)) nilL))) nilL))))) (tupG 2 (consG (nameG 9) (consG (nameG 10) nilG)))
    (fb__law_waits_right_1 cl)
def b__law_waits_right (cl : CallF) : SF :=
  (seqS (parS [5, 6] (consL (callE cl j__law_opens (consL (varE 1) (consL (varE 2) (consL (varE 3) nilL)))) (consL (callE cl j_waits_to_edge (consL (varE 1) (consL (varE 2) (consL (varE 3) nilL)))) nilL)))
    (seqS (ifS (boolT (bin2 opNe (bin2 opIx (bin2 opIx (bin2 opIx (varE 1) (cstE (.int (3)))) (varE 3)) (cstE (.int (0)))) (bin2 opIx (varE 2) (cstE (.int (0))))))
    (retS (un1 (opIs .non) (varE 6)))
    skipS)
    (seqS (ifS (notT (truthT (callE cl j__law_like (consL (varE 6) (consL (varE 5) nilL)))))
    (retS (cstE (.bl false)))
    skipS)
    (seqS (ifS (boolT (un1 (opIs .non) (varE 6)))
    (retS (bin2 opNotIn (varE 3) (callE cl j_edges_open (consL (varE 1) (consL (varE 2) nilL)))))
    skipS)
    (seqS (asgS (tupG 3 (consG (nameG 7) (consG (nameG 8) (consG (tupG 2 (consG (nameG 12) (consG (nameG 13) nilG))) nilG)))) (varE 6))
    (seqS (fo__law_waits_right_1 cl)
    (seqS (asgS (nameG 4) (ifE (boolT (un1 (opIsNot .non) (varE 12))) (callE cl j_waited (consL (varE 1) (consL (varE 2) (consL (callE cl j__law_sum (consL (varE 12) (consL (tupE (consL (cstE (.int (1))) (consL (cstE (.int (5))) nilL))) nilL))) nilL)))) (cstE .non)))
    (retS (orE (un1 (opIs .non) (varE 4)) (un1 (opIs .non) (callE cl j_edged (consL (varE 1) (consL (varE 4) (consL (varE 3) nilL))))))))))))))
def lc__law_right_1 (cl : CallF) : LF :=
  lcL [4] (rngI1 (bin2 opIx (varE 1) (cstE (.int (1))))) (nameG 4) yesT (callE cl j__law_time (consL (callE cl j__law_roll (consL (varE 0) (consL (cstE (.int (12))) nilL))) (consL (callE cl j__law_some (consL (varE 0) (consL (mkL (consL (cstE (.int (1))) (consL (cstE (.int (2))) (consL (cstE (.int (3))) (consL (cstE (.int (4))) nilL))))) nilL))) nilL)))
def lc__law_right_2 (cl : CallF) : LF :=
  lcL [5] (rngI1 (coreE fLen (bin2 opIx (varE 1) (cstE (.int (3)))))) (nameG 5) (notT (truthT (callE cl j__law_waits_right (consL (varE 0) (consL (varE 1) (consL (varE 3) (consL (varE 5) nilL))))))) (varE 5)
def fb__law_right_1 (cl : CallF) : SF :=
  (seqS (asgS (nameG 3) (tupE (consL (callE cl j__law_roll (consL (varE 0) (consL (bin2 opIx (varE 1) (cstE (.int (0)))) nilL))) (consL (coreL fTup (lc__law_right_1 cl)) nilL))))
    (seqS (ifS (boolT (bin2 opNe (callE cl j_is_let (consL (varE 1) (consL (varE 3) nilL))) (callE cl j__law_keeps (consL (bin2 opIx (varE 3) (cstE (.int (1)))) (consL (bin2 opIx (bin2 opIx (varE 1) (cstE (.int (2)))) (bin2 opIx (varE 3) (cstE (.int (0))))) nilL)))))
    (retS (cstE (.bl false)))
    skipS)
    (ifS (truthT (callE cl j_is_let (consL (varE 1) (consL (varE 3) nilL))))
    (seqS (ifS (notT (truthT (callE cl j__law_like (consL (mkL (consL (callE cl j_is_stuck (consL (varE 1) (consL (varE 3) nilL))) (consL (callE cl j_is_stopped (consL (varE 1) (consL (varE 3) nilL))) nilL))) (consL (mkL (consL (callE cl j__law_is_stuck (consL (varE 1) (consL (varE 3) nilL))) (consL (callE cl j__law_is_stopped (consL (varE 1) (consL (varE 3) nilL))) nilL))) nilL)))))
    (retS (cstE (.bl false)))
    skipS)
    (seqS (ifS (boolT (bin2 opNe (mkL (lc__law_right_2 cl)) (mkL nilL)))
    (retS (cstE (.bl false)))
    skipS)
    (ifS (orT (andT (truthT (callE cl j_is_stopped (consL (varE 1) (consL (varE 3) nilL)))) (boolT (un1 (opIs .non) (callE cl j_longest_wait (consL (varE 1) (consL (varE 3) nilL)))))) (andT (truthT (callE cl j_is_stuck (consL (varE 1) (consL (varE 3) nilL)))) (boolT (bin2 opNe (callE cl j_edges_open (consL (varE 1) (consL (varE 3) nilL))) (tupE nilL)))))
    (retS (cstE (.bl false)))
    skipS)))
    skipS)))
def fo__law_right_1 (cl : CallF) : SF :=
  forS (rngI1 (cstE (.int (5)))) (nameG 2)
    (fb__law_right_1 cl)
def b__law_right (cl : CallF) : SF :=
  (seqS (fo__law_right_1 cl)
    (retS (cstE (.bl true))))
def fb_law_1 (cl : CallF) : SF :=
  (ifS (notT (truthT (callE cl j__law_right (consL (varE 1) (consL (callE cl j__law_machine (consL (varE 1) (consL (varE 9) (consL (varE 10) nilL)))) nilL)))))
    (retS (cstE (.bl false)))
    skipS)
def fo_law_1 (cl : CallF) : SF :=
  forS (valI (tupE (consL (tupE (consL (cstE (.int (1))) (consL (cstE (.int (2))) nilL))) (consL (tupE (consL (cstE (.int (2))) (consL (cstE (.int (3))) nilL))) (consL (tupE (consL (cstE (.int (3))) (consL (cstE (.int (4))) nilL))) (consL (tupE (consL (cstE (.int (4))) (consL (cstE (.int (2))) nilL))) (consL (tupE (consL (cstE (.int (3))) (consL (cstE (.int (3))) nilL))) nilL))))))) (tupG 2 (consG (nameG 9) (consG (nameG 10) nilG)))
    (fb_law_1 cl)
def lc_law_1 (cl : CallF) : LF :=
  lcL [15] (rngI1 (cstE (.int (3)))) (nameG 15) yesT (callE cl j_waits_to_edge (consL (varE 5) (consL (tupE (consL (cstE (.int (0))) (consL (tupE (consL (tupE (consL (cstE (.int (1))) (consL (cstE (.int (2))) nilL))) (consL (tupE (consL (cstE (.int (0))) (consL (cstE (.int (1))) nilL))) nilL))) nilL))) (consL (varE 15) nilL))))
def lc_law_2 (cl : CallF) : LF :=
  lcL [15] (rngI1 (cstE (.int (2)))) (nameG 15) yesT (callE cl j_waits_to_edge (consL (varE 6) (consL (tupE (consL (cstE (.int (0))) (consL (tupE (consL (tupE (consL (cstE (.int (1))) (consL (cstE (.int (1))) nilL))) (consL (tupE (consL (cstE (.int (2))) (consL (cstE (.int (1))) nilL))) nilL))) nilL))) (consL (varE 15) nilL))))
def lc_law_3 (cl : CallF) : LF :=
  lcL [15] (rngI1 (cstE (.int (2)))) (nameG 15) yesT (callE cl j_waits_to_edge (consL (varE 7) (consL (tupE (consL (cstE (.int (0))) (consL (tupE (consL (tupE (consL (cstE (.int (0))) (consL (cstE (.int (1))) nilL))) nilL)) nilL))) (consL (varE 15) nilL))))
def b_law (cl : CallF) : SF :=
  (seqS (asgS (nameG 1) (callE cl j__law_cup (consL (varE 0) nilL)))
    (seqS (fo_law_1 cl)
    (seqS (asgS (tupG 2 (consG (nameG 11) (consG (nameG 12) nilG))) (tupE (consL (tupE (consL (cstE (.int (1))) (consL (cstE (.int (1))) (consL (tupE (consL (tupE (consL (tupE (consL (cstE (.int (0))) (consL (cstE (.str s_most)) (consL (cstE (.int (2))) nilL)))) nilL)) nilL)) (consL (tupE nilL) nilL))))) (consL (tupE (consL (cstE (.int (1))) (consL (cstE (.int (1))) (consL (tupE (consL (tupE (consL (tupE (consL (cstE (.int (0))) (consL (cstE (.str s_most)) (consL (cstE (.int (1))) nilL)))) nilL)) nilL)) (consL (tupE (consL (tupE (consL (cstE (.int (0))) (consL (cstE (.int (0))) (consL (cstE (.int (0))) (consL (tupE nilL) (consL (tupE nilL) nilL)))))) nilL)) nilL))))) nilL))))
    (seqS (asgS (nameG 2) (tupE (consL (cstE (.int (2))) (consL (cstE (.int (1))) (consL (tupE (consL (tupE nilL) (consL (tupE (consL (tupE (consL (cstE (.int (0))) (consL (cstE (.str s_most)) (consL (cstE (.int (3))) nilL)))) nilL)) nilL))) (consL (tupE (consL (tupE (consL (cstE (.int (0))) (consL (cstE (.int (1))) (consL (cstE (.int (0))) (consL (tupE nilL) (consL (tupE (consL (cstE (.int (0))) nilL)) nilL)))))) (consL (tupE (consL (cstE (.int (1))) (consL (cstE (.int (0))) (consL (cstE (.int (1))) (consL (tupE (consL (tupE (consL (cstE (.int (0))) (consL (cstE (.str s_more)) (consL (cstE (.int (3))) nilL)))) nilL)) (consL (tupE nilL) nilL)))))) nilL))) nilL))))))
    (seqS (asgS (tupG 2 (consG (nameG 13) (consG (nameG 14) nilG))) (tupE (consL (tupE (consL (cstE (.int (1))) (consL (cstE (.int (1))) (consL (tupE (consL (tupE (consL (tupE (consL (cstE (.int (0))) (consL (cstE (.str s_most)) (consL (cstE (.int (1))) nilL)))) nilL)) nilL)) (consL (tupE (consL (tupE (consL (cstE (.int (0))) (consL (cstE (.int (0))) (consL (cstE (.int (0))) (consL (tupE (consL (tupE (consL (cstE (.int (0))) (consL (cstE (.str s_same)) (consL (cstE (.int (1))) nilL)))) nilL)) (consL (tupE (consL (cstE (.int (0))) nilL)) nilL)))))) nilL)) nilL))))) (consL (tupE (consL (cstE (.int (1))) (consL (cstE (.int (0))) (consL (tupE (consL (tupE nilL) nilL)) (consL (tupE nilL) nilL))))) nilL))))
    (seqS (asgS (nameG 3) (mkL (consL (callE cl j_is_stuck (consL (varE 11) (consL (tupE (consL (cstE (.int (0))) (consL (tupE (consL (tupE (consL (cstE (.int (1))) (consL (cstE (.int (2))) nilL))) nilL)) nilL))) nilL))) (consL (callE cl j_is_stopped (consL (varE 11) (consL (tupE (consL (cstE (.int (0))) (consL (tupE (consL (tupE (consL (cstE (.int (1))) (consL (cstE (.int (2))) nilL))) nilL)) nilL))) nilL))) (consL (callE cl j_is_stuck (consL (varE 12) (consL (tupE (consL (cstE (.int (0))) (consL (tupE (consL (tupE (consL (cstE (.int (1))) (consL (cstE (.int (1))) nilL))) nilL)) nilL))) nilL))) (consL (callE cl j_is_stuck (consL (varE 2) (consL (tupE (consL (cstE (.int (1))) (consL (tupE (consL (tupE (consL (cstE (.int (2))) (consL (cstE (.int (1))) nilL))) nilL)) nilL))) nilL))) (consL (callE cl j_is_stopped (consL (varE 14) (consL (tupE (consL (cstE (.int (0))) (consL (tupE nilL) nilL))) nilL))) nilL)))))))
    (seqS (asgS (nameG 3) (mkL (catVL (varE 3) (consL (callE cl j_is_stuck (consL (varE 14) (consL (tupE (consL (cstE (.int (0))) (consL (tupE nilL) nilL))) nilL))) (consL (callE cl j_waits_to_edge (consL (varE 2) (consL (tupE (consL (cstE (.int (0))) (consL (tupE (consL (tupE (consL (cstE (.int (2))) (consL (cstE (.int (1))) nilL))) nilL)) nilL))) (consL (cstE (.int (0))) nilL)))) (consL (callE cl j_waits_to_edge (consL (varE 2) (consL (tupE (consL (cstE (.int (1))) (consL (tupE (consL (tupE (consL (cstE (.int (2))) (consL (cstE (.int (1))) nilL))) nilL)) nilL))) (consL (cstE (.int (1))) nilL)))) (consL (callE cl j_waits_to_edge (consL (varE 13) (consL (tupE (consL (cstE (.int (0))) (consL (tupE (consL (tupE (consL (cstE (.int (1))) (consL (cstE (.int (3))) nilL))) nilL)) nilL))) (consL (cstE (.int (0))) nilL)))) nilL)))))))
    (seqS (exprS (appE (varE 3) (callE cl j_waits_to_edge (consL (varE 12) (consL (tupE (consL (cstE (.int (0))) (consL (tupE (consL (tupE (consL (cstE (.int (1))) (consL (cstE (.int (3))) nilL))) nilL)) nilL))) (consL (cstE (.int (0))) nilL))))))
    (seqS (asgS (nameG 4) (mkL (consL (cstE (.bl true)) (consL (cstE (.bl true)) (consL (cstE (.bl false)) (consL (cstE (.bl true)) (consL (cstE (.bl false)) (consL (cstE (.bl true)) (consL (tupE (consL (tupE (consL (cstE (.int (0))) (consL (cstE (.int (1))) nilL))) (consL (cstE (.bl true)) (consL (tupE (consL (cstE .non) (consL (cstE (.bl false)) nilL))) nilL)))) (consL (cstE .non) (consL (tupE (consL (tupE (consL (cstE (.int (2))) (consL (cstE (.int (3))) nilL))) (consL (cstE (.bl true)) (consL (tupE (consL (tupE (consL (cstE (.int (2))) (consL (cstE (.int (3))) nilL))) (consL (cstE (.bl true)) nilL))) nilL)))) (consL (tupE (consL (tupE (consL (cstE (.int (0))) (consL (cstE (.int (1))) nilL))) (consL (cstE (.bl true)) (consL (tupE (consL (tupE (consL (cstE (.int (2))) (consL (cstE (.int (3))) nilL))) (consL (cstE (.bl true)) nilL))) nilL)))) nilL))))))))))))
    (seqS (asgS (nameG 5) (tupE (consL (cstE (.int (2))) (consL (cstE (.int (2))) (consL (tupE (consL (tupE nilL) (consL (tupE (consL (tupE (consL (cstE (.int (0))) (consL (cstE (.str s_less)) (consL (cstE (.int (1))) nilL)))) (consL (tupE (consL (cstE (.int (1))) (consL (cstE (.str s_less)) (consL (cstE (.int (5))) nilL)))) nilL))) nilL))) (consL (tupE (consL (tupE (consL (cstE (.int (0))) (consL (cstE (.int (1))) (consL (cstE (.int (0))) (consL (tupE (consL (tupE (consL (cstE (.int (0))) (consL (cstE (.str s_more)) (consL (cstE (.int (2))) nilL)))) nilL)) (consL (tupE (consL (cstE (.int (0))) nilL)) nilL)))))) (consL (tupE (consL (cstE (.int (0))) (consL (cstE (.int (1))) (consL (cstE (.int (1))) (consL (tupE (consL (tupE (consL (cstE (.int (0))) (consL (cstE (.str s_least)) (consL (cstE (.int (2))) nilL)))) nilL)) (consL (tupE nilL) nilL)))))) (consL (tupE (consL (cstE (.int (0))) (consL (cstE (.int (1))) (consL (cstE (.int (2))) (consL (tupE nilL) (consL (tupE (consL (cstE (.int (1))) nilL)) nilL)))))) nilL)))) nilL))))))
    (seqS (asgS (nameG 6) (tupE (consL (cstE (.int (1))) (consL (cstE (.int (2))) (consL (tupE (consL (tupE nilL) nilL)) (consL (tupE (consL (tupE (consL (cstE (.int (0))) (consL (cstE (.int (0))) (consL (cstE (.int (0))) (consL (tupE (consL (tupE (consL (cstE (.int (0))) (consL (cstE (.str s_most)) (consL (cstE (.int (2))) nilL)))) (consL (tupE (consL (cstE (.int (1))) (consL (cstE (.str s_least)) (consL (cstE (.int (3))) nilL)))) nilL))) (consL (tupE nilL) nilL)))))) (consL (tupE (consL (cstE (.int (0))) (consL (cstE (.int (0))) (consL (cstE (.int (1))) (consL (tupE (consL (tupE (consL (cstE (.int (0))) (consL (cstE (.str s_less)) (consL (cstE (.int (2))) nilL)))) (consL (tupE (consL (cstE (.int (1))) (consL (cstE (.str s_least)) (consL (cstE (.int (3))) nilL)))) nilL))) (consL (tupE nilL) nilL)))))) nilL))) nilL))))))
    (seqS (asgS (nameG 7) (tupE (consL (cstE (.int (2))) (consL (cstE (.int (1))) (consL (tupE (consL (tupE nilL) (consL (tupE (consL (tupE (consL (cstE (.int (0))) (consL (cstE (.str s_less)) (consL (cstE (.int (0))) nilL)))) nilL)) nilL))) (consL (tupE (consL (tupE (consL (cstE (.int (0))) (consL (cstE (.int (1))) (consL (cstE (.int (0))) (consL (tupE nilL) (consL (tupE (consL (cstE (.int (0))) nilL)) nilL)))))) (consL (tupE (consL (cstE (.int (0))) (consL (cstE (.int (1))) (consL (cstE (.int (1))) (consL (tupE nilL) (consL (tupE nilL) nilL)))))) nilL))) nilL))))))
    (seqS (asgS (nameG 3) (mkL (catL (catVL (varE 3) (lc_law_1 cl)) (lc_law_2 cl))))
    (seqS (asgS (nameG 3) (mkL (catL (catVL (varE 3) (lc_law_3 cl)) (consL (callE cl j_is_stuck (consL (varE 7) (consL (tupE (consL (cstE (.int (0))) (consL (tupE (consL (tupE (consL (cstE (.int (5))) (consL (cstE (.int (1))) nilL))) nilL)) nilL))) nilL))) (consL (callE cl j_is_stopped (consL (varE 7) (consL (tupE (consL (cstE (.int (0))) (consL (tupE (consL (tupE (consL (cstE (.int (5))) (consL (cstE (.int (1))) nilL))) nilL)) nilL))) nilL))) nilL)))))
    (seqS (asgS (nameG 4) (mkL (catVL (varE 4) (consL (tupE (consL (tupE (consL (cstE (.int (3))) (consL (cstE (.int (2))) nilL))) (consL (cstE (.bl false)) (consL (tupE (consL (tupE (consL (cstE (.int (5))) (consL (cstE (.int (1))) nilL))) (consL (cstE (.bl false)) nilL))) nilL)))) (consL (cstE .non) (consL (tupE (consL (tupE (consL (cstE (.int (0))) (consL (cstE (.int (1))) nilL))) (consL (cstE (.bl true)) (consL (tupE (consL (tupE (consL (cstE (.int (1))) (consL (cstE (.int (2))) nilL))) (consL (cstE (.bl false)) nilL))) nilL)))) (consL (tupE (consL (tupE (consL (cstE (.int (1))) (consL (cstE (.int (1))) nilL))) (consL (cstE (.bl true)) (consL (tupE (consL (tupE (consL (cstE (.int (1))) (consL (cstE (.int (1))) nilL))) (consL (cstE (.bl true)) nilL))) nilL)))) (consL (cstE .non) nilL))))))))
    (seqS (asgS (nameG 8) (tupE (consL (cstE (.int (1))) (consL (cstE (.int (3))) (consL (tupE (consL (tupE (consL (tupE (consL (cstE (.int (2))) (consL (cstE (.str s_most)) (consL (cstE (.int (5))) nilL)))) nilL)) nilL)) (consL (tupE (consL (tupE (consL (cstE (.int (0))) (consL (cstE (.int (0))) (consL (cstE (.int (0))) (consL (tupE (consL (tupE (consL (cstE (.int (2))) (consL (cstE (.str s_least)) (consL (cstE (.int (3))) nilL)))) nilL)) (consL (tupE (consL (cstE (.int (2))) nilL)) nilL)))))) nilL)) nilL))))))
    (seqS (exprS (appE (varE 3) (callE cl j_waits_to_edge (consL (varE 8) (consL (tupE (consL (cstE (.int (0))) (consL (tupE (consL (tupE (consL (cstE (.int (9))) (consL (cstE (.int (1))) nilL))) (consL (tupE (consL (cstE (.int (0))) (consL (cstE (.int (1))) nilL))) (consL (tupE (consL (cstE (.int (1))) (consL (cstE (.int (2))) nilL))) nilL)))) nilL))) (consL (cstE (.int (0))) nilL))))))
    (retS (callE cl j__law_like (consL (varE 3) (consL (mkL (catVL (varE 4) (consL (cstE .non) (consL (cstE .non) (consL (cstE (.bl true)) (consL (cstE (.bl false)) (consL (tupE (consL (tupE (consL (cstE (.int (5))) (consL (cstE (.int (2))) nilL))) (consL (cstE (.bl true)) (consL (tupE (consL (tupE (consL (cstE (.int (9))) (consL (cstE (.int (2))) nilL))) (consL (cstE (.bl true)) nilL))) nilL)))) nilL))))))) nilL)))))))))))))))))))))
def bs0 : List (Nat × Nat × (CallF → SF)) := [(1, 1, b_is_integer), (3, 3, b_is_whole), (3, 3, b_is_tuple_of), (1, 3, b_is_rising), (2, 2, b_divisor_of), (2, 3, b_lowest), (1, 1, b_fits_time), (1, 1, b_need_time), (2, 2, b_put_together), (2, 2, b_difference), (2, 2, b_side_of), (2, 2, b_is_under), (3, 3, b_fits_demand), (4, 5, b_are_demands), (2, 3, b_are_clocks), (3, 4, b_fits_edge), (1, 7, b_fits_machine), (1, 1, b_need_machine), (2, 3, b_fits_state), (2, 2, b_need_state)]
def bs1 : List (Nat × Nat × (CallF → SF)) := [(2, 2, b_need_edge), (2, 2, b_does_keep), (2, 5, b_do_demands_hold), (2, 2, b_is_let_in), (3, 5, b_after_wait), (3, 11, b_after_edge), (2, 8, b_longest_in), (2, 2, b_later_begin), (2, 2, b_earlier_end), (1, 1, b_Waits___init__), (4, 5, b_Waits_ask), (1, 1, b_Waits_are_none), (3, 12, b_waits_in), (2, 3, b_is_stuck_in), (2, 2, b_is_stopped_in), (2, 2, b_need_let_state), (2, 2, b_is_stuck), (2, 2, b_is_stopped), (3, 4, b_waits_to_edge), (2, 2, b_need_both)]
def bs2 : List (Nat × Nat × (CallF → SF)) := [(2, 2, b_is_let), (3, 3, b_waited), (3, 3, b_edged), (2, 3, b_edges_open), (2, 2, b_longest_wait), (1, 2, b__law_cup), (2, 4, b__law_roll), (2, 2, b__law_some), (1, 1, b__law_sort), (2, 5, b__law_like), (2, 2, b__law_divisor), (2, 3, b__law_time), (2, 2, b__law_sum), (3, 5, b__law_after), (3, 11, b__law_edged), (2, 8, b__law_keeps), (5, 7, b__law_demands), (3, 13, b__law_machine), (2, 2, b__law_halfway), (3, 25, b__law_opens)]
def bs3 : List (Nat × Nat × (CallF → SF)) := [(2, 3, b__law_is_stuck), (2, 2, b__law_is_stopped), (4, 14, b__law_waits_right), (2, 6, b__law_right), (1, 16, b_law)]
def bs : List (Nat × Nat × (CallF → SF)) := bs0 ++ (bs1 ++ (bs2 ++ (bs3)))
def ev : Nat → CallF
  | 0 => fun _ _ _ => .stuck
  | n + 1 => fun j ds S => match bs[j]? with
    | some (m, k, b) => runF m k (b (ev n)) ds S
    | none => .stuck
theorem u_is_integer (n : Nat) (ds : List D) (S : Store) : ev (n + 1) j_is_integer ds S = runF 1 1 (b_is_integer (ev n)) ds S := rfl
theorem u_is_whole (n : Nat) (ds : List D) (S : Store) : ev (n + 1) j_is_whole ds S = runF 3 3 (b_is_whole (ev n)) ds S := rfl
theorem u_is_tuple_of (n : Nat) (ds : List D) (S : Store) : ev (n + 1) j_is_tuple_of ds S = runF 3 3 (b_is_tuple_of (ev n)) ds S := rfl
theorem u_is_rising (n : Nat) (ds : List D) (S : Store) : ev (n + 1) j_is_rising ds S = runF 1 3 (b_is_rising (ev n)) ds S := rfl
theorem u_divisor_of (n : Nat) (ds : List D) (S : Store) : ev (n + 1) j_divisor_of ds S = runF 2 2 (b_divisor_of (ev n)) ds S := rfl
theorem u_lowest (n : Nat) (ds : List D) (S : Store) : ev (n + 1) j_lowest ds S = runF 2 3 (b_lowest (ev n)) ds S := rfl
theorem u_fits_time (n : Nat) (ds : List D) (S : Store) : ev (n + 1) j_fits_time ds S = runF 1 1 (b_fits_time (ev n)) ds S := rfl
theorem u_need_time (n : Nat) (ds : List D) (S : Store) : ev (n + 1) j_need_time ds S = runF 1 1 (b_need_time (ev n)) ds S := rfl
theorem u_put_together (n : Nat) (ds : List D) (S : Store) : ev (n + 1) j_put_together ds S = runF 2 2 (b_put_together (ev n)) ds S := rfl
theorem u_difference (n : Nat) (ds : List D) (S : Store) : ev (n + 1) j_difference ds S = runF 2 2 (b_difference (ev n)) ds S := rfl
theorem u_side_of (n : Nat) (ds : List D) (S : Store) : ev (n + 1) j_side_of ds S = runF 2 2 (b_side_of (ev n)) ds S := rfl
theorem u_is_under (n : Nat) (ds : List D) (S : Store) : ev (n + 1) j_is_under ds S = runF 2 2 (b_is_under (ev n)) ds S := rfl
theorem u_fits_demand (n : Nat) (ds : List D) (S : Store) : ev (n + 1) j_fits_demand ds S = runF 3 3 (b_fits_demand (ev n)) ds S := rfl
theorem u_are_demands (n : Nat) (ds : List D) (S : Store) : ev (n + 1) j_are_demands ds S = runF 4 5 (b_are_demands (ev n)) ds S := rfl
theorem u_are_clocks (n : Nat) (ds : List D) (S : Store) : ev (n + 1) j_are_clocks ds S = runF 2 3 (b_are_clocks (ev n)) ds S := rfl
theorem u_fits_edge (n : Nat) (ds : List D) (S : Store) : ev (n + 1) j_fits_edge ds S = runF 3 4 (b_fits_edge (ev n)) ds S := rfl
theorem u_fits_machine (n : Nat) (ds : List D) (S : Store) : ev (n + 1) j_fits_machine ds S = runF 1 7 (b_fits_machine (ev n)) ds S := rfl
theorem u_need_machine (n : Nat) (ds : List D) (S : Store) : ev (n + 1) j_need_machine ds S = runF 1 1 (b_need_machine (ev n)) ds S := rfl
theorem u_fits_state (n : Nat) (ds : List D) (S : Store) : ev (n + 1) j_fits_state ds S = runF 2 3 (b_fits_state (ev n)) ds S := rfl
theorem u_need_state (n : Nat) (ds : List D) (S : Store) : ev (n + 1) j_need_state ds S = runF 2 2 (b_need_state (ev n)) ds S := rfl
theorem u_need_edge (n : Nat) (ds : List D) (S : Store) : ev (n + 1) j_need_edge ds S = runF 2 2 (b_need_edge (ev n)) ds S := rfl
theorem u_does_keep (n : Nat) (ds : List D) (S : Store) : ev (n + 1) j_does_keep ds S = runF 2 2 (b_does_keep (ev n)) ds S := rfl
theorem u_do_demands_hold (n : Nat) (ds : List D) (S : Store) : ev (n + 1) j_do_demands_hold ds S = runF 2 5 (b_do_demands_hold (ev n)) ds S := rfl
theorem u_is_let_in (n : Nat) (ds : List D) (S : Store) : ev (n + 1) j_is_let_in ds S = runF 2 2 (b_is_let_in (ev n)) ds S := rfl
theorem u_after_wait (n : Nat) (ds : List D) (S : Store) : ev (n + 1) j_after_wait ds S = runF 3 5 (b_after_wait (ev n)) ds S := rfl
theorem u_after_edge (n : Nat) (ds : List D) (S : Store) : ev (n + 1) j_after_edge ds S = runF 3 11 (b_after_edge (ev n)) ds S := rfl
theorem u_longest_in (n : Nat) (ds : List D) (S : Store) : ev (n + 1) j_longest_in ds S = runF 2 8 (b_longest_in (ev n)) ds S := rfl
theorem u_later_begin (n : Nat) (ds : List D) (S : Store) : ev (n + 1) j_later_begin ds S = runF 2 2 (b_later_begin (ev n)) ds S := rfl
theorem u_earlier_end (n : Nat) (ds : List D) (S : Store) : ev (n + 1) j_earlier_end ds S = runF 2 2 (b_earlier_end (ev n)) ds S := rfl
theorem u_Waits___init__ (n : Nat) (ds : List D) (S : Store) : ev (n + 1) j_Waits___init__ ds S = runF 1 1 (b_Waits___init__ (ev n)) ds S := rfl
theorem u_Waits_ask (n : Nat) (ds : List D) (S : Store) : ev (n + 1) j_Waits_ask ds S = runF 4 5 (b_Waits_ask (ev n)) ds S := rfl
theorem u_Waits_are_none (n : Nat) (ds : List D) (S : Store) : ev (n + 1) j_Waits_are_none ds S = runF 1 1 (b_Waits_are_none (ev n)) ds S := rfl
theorem u_waits_in (n : Nat) (ds : List D) (S : Store) : ev (n + 1) j_waits_in ds S = runF 3 12 (b_waits_in (ev n)) ds S := rfl
theorem u_is_stuck_in (n : Nat) (ds : List D) (S : Store) : ev (n + 1) j_is_stuck_in ds S = runF 2 3 (b_is_stuck_in (ev n)) ds S := rfl
theorem u_is_stopped_in (n : Nat) (ds : List D) (S : Store) : ev (n + 1) j_is_stopped_in ds S = runF 2 2 (b_is_stopped_in (ev n)) ds S := rfl
theorem u_need_let_state (n : Nat) (ds : List D) (S : Store) : ev (n + 1) j_need_let_state ds S = runF 2 2 (b_need_let_state (ev n)) ds S := rfl
theorem u_is_stuck (n : Nat) (ds : List D) (S : Store) : ev (n + 1) j_is_stuck ds S = runF 2 2 (b_is_stuck (ev n)) ds S := rfl
theorem u_is_stopped (n : Nat) (ds : List D) (S : Store) : ev (n + 1) j_is_stopped ds S = runF 2 2 (b_is_stopped (ev n)) ds S := rfl
theorem u_waits_to_edge (n : Nat) (ds : List D) (S : Store) : ev (n + 1) j_waits_to_edge ds S = runF 3 4 (b_waits_to_edge (ev n)) ds S := rfl
theorem u_need_both (n : Nat) (ds : List D) (S : Store) : ev (n + 1) j_need_both ds S = runF 2 2 (b_need_both (ev n)) ds S := rfl
theorem u_is_let (n : Nat) (ds : List D) (S : Store) : ev (n + 1) j_is_let ds S = runF 2 2 (b_is_let (ev n)) ds S := rfl
theorem u_waited (n : Nat) (ds : List D) (S : Store) : ev (n + 1) j_waited ds S = runF 3 3 (b_waited (ev n)) ds S := rfl
theorem u_edged (n : Nat) (ds : List D) (S : Store) : ev (n + 1) j_edged ds S = runF 3 3 (b_edged (ev n)) ds S := rfl
theorem u_edges_open (n : Nat) (ds : List D) (S : Store) : ev (n + 1) j_edges_open ds S = runF 2 3 (b_edges_open (ev n)) ds S := rfl
theorem u_longest_wait (n : Nat) (ds : List D) (S : Store) : ev (n + 1) j_longest_wait ds S = runF 2 2 (b_longest_wait (ev n)) ds S := rfl
theorem u__law_cup (n : Nat) (ds : List D) (S : Store) : ev (n + 1) j__law_cup ds S = runF 1 2 (b__law_cup (ev n)) ds S := rfl
theorem u__law_roll (n : Nat) (ds : List D) (S : Store) : ev (n + 1) j__law_roll ds S = runF 2 4 (b__law_roll (ev n)) ds S := rfl
theorem u__law_some (n : Nat) (ds : List D) (S : Store) : ev (n + 1) j__law_some ds S = runF 2 2 (b__law_some (ev n)) ds S := rfl
theorem u__law_sort (n : Nat) (ds : List D) (S : Store) : ev (n + 1) j__law_sort ds S = runF 1 1 (b__law_sort (ev n)) ds S := rfl
theorem u__law_like (n : Nat) (ds : List D) (S : Store) : ev (n + 1) j__law_like ds S = runF 2 5 (b__law_like (ev n)) ds S := rfl
theorem u__law_divisor (n : Nat) (ds : List D) (S : Store) : ev (n + 1) j__law_divisor ds S = runF 2 2 (b__law_divisor (ev n)) ds S := rfl
theorem u__law_time (n : Nat) (ds : List D) (S : Store) : ev (n + 1) j__law_time ds S = runF 2 3 (b__law_time (ev n)) ds S := rfl
theorem u__law_sum (n : Nat) (ds : List D) (S : Store) : ev (n + 1) j__law_sum ds S = runF 2 2 (b__law_sum (ev n)) ds S := rfl
theorem u__law_after (n : Nat) (ds : List D) (S : Store) : ev (n + 1) j__law_after ds S = runF 3 5 (b__law_after (ev n)) ds S := rfl
theorem u__law_edged (n : Nat) (ds : List D) (S : Store) : ev (n + 1) j__law_edged ds S = runF 3 11 (b__law_edged (ev n)) ds S := rfl
theorem u__law_keeps (n : Nat) (ds : List D) (S : Store) : ev (n + 1) j__law_keeps ds S = runF 2 8 (b__law_keeps (ev n)) ds S := rfl
theorem u__law_demands (n : Nat) (ds : List D) (S : Store) : ev (n + 1) j__law_demands ds S = runF 5 7 (b__law_demands (ev n)) ds S := rfl
theorem u__law_machine (n : Nat) (ds : List D) (S : Store) : ev (n + 1) j__law_machine ds S = runF 3 13 (b__law_machine (ev n)) ds S := rfl
theorem u__law_halfway (n : Nat) (ds : List D) (S : Store) : ev (n + 1) j__law_halfway ds S = runF 2 2 (b__law_halfway (ev n)) ds S := rfl
theorem u__law_opens (n : Nat) (ds : List D) (S : Store) : ev (n + 1) j__law_opens ds S = runF 3 25 (b__law_opens (ev n)) ds S := rfl
theorem u__law_is_stuck (n : Nat) (ds : List D) (S : Store) : ev (n + 1) j__law_is_stuck ds S = runF 2 3 (b__law_is_stuck (ev n)) ds S := rfl
theorem u__law_is_stopped (n : Nat) (ds : List D) (S : Store) : ev (n + 1) j__law_is_stopped ds S = runF 2 2 (b__law_is_stopped (ev n)) ds S := rfl
theorem u__law_waits_right (n : Nat) (ds : List D) (S : Store) : ev (n + 1) j__law_waits_right ds S = runF 4 14 (b__law_waits_right (ev n)) ds S := rfl
theorem u__law_right (n : Nat) (ds : List D) (S : Store) : ev (n + 1) j__law_right ds S = runF 2 6 (b__law_right (ev n)) ds S := rfl
theorem u_law (n : Nat) (ds : List D) (S : Store) : ev (n + 1) j_law ds S = runF 1 16 (b_law (ev n)) ds S := rfl
end K81
set_option Elab.async false
set_option linter.all false
set_option maxRecDepth 100000
set_option maxHeartbeats 0
namespace K81
open PySem PySem.Spec PyProof.Rows L2 Ev
abbrev R : PySem.W.OpenRow := PySem.W.OpenLaw.row PySem.Challenge.rw_clockstold_k81_whole_stuck_states
abbrev qv : Program := PySem.W.view R.prog [90]
def top (i : Nat) : Stmt := R.prog.main.body.getD i (.Pass ⟨0, 0, 0, 0⟩)
def n0 : List PySem.Str := ["ClockError", "InvalidTime", "InvalidMachine", "InvalidState", "InvalidEdge", "MOST_TIME", "NOUGHT", "is_integer", "is_whole", "is_tuple_of", "is_rising", "divisor_of", "lowest", "fits_time", "need_time", "put_together", "difference", "side_of", "is_under", "MOST_PLACES"]
def n1 : List PySem.Str := ["MOST_CLOCKS", "MOST_STAYS", "MOST_EDGES", "MOST_GUARD", "MOST_LETTER", "MOST_NUMBER", "LESS", "MOST", "SAME", "LEAST", "MORE", "RELATIONS", "STAYING", "fits_demand", "are_demands", "are_clocks", "fits_edge", "fits_machine", "need_machine", "fits_state"]
def n2 : List PySem.Str := ["need_state", "need_edge", "does_keep", "do_demands_hold", "is_let_in", "after_wait", "after_edge", "longest_in", "later_begin", "earlier_end", "Waits", "waits_in", "is_stuck_in", "is_stopped_in", "need_let_state", "is_stuck", "is_stopped", "waits_to_edge", "need_both", "is_let"]
def n3 : List PySem.Str := ["waited", "edged", "edges_open", "longest_wait", "_law_cup", "_law_roll", "_law_some", "_law_sort", "_law_like", "_law_divisor", "_law_time", "_law_sum", "_law_after", "_law_edged", "_law_keeps", "_law_demands", "_law_machine", "_law_halfway", "_law_opens", "_law_is_stuck"]
def n4 : List PySem.Str := ["_law_is_stopped", "_law_waits_right", "_law_right"]
def names : List PySem.Str := n0 ++ n1 ++ n2 ++ n3 ++ n4
def i_is_integer : DI := ⟨⟨("is_integer", none), "is_integer", "is_integer", defArgs (top 9), defBody (top 9), defScope (top 9), [], []⟩, ["value"], ["value"], b_is_integer⟩
def i_is_whole : DI := ⟨⟨("is_whole", none), "is_whole", "is_whole", defArgs (top 10), defBody (top 10), defScope (top 10), [], []⟩, ["value", "low", "high"], ["value", "low", "high"], b_is_whole⟩
def i_is_tuple_of : DI := ⟨⟨("is_tuple_of", none), "is_tuple_of", "is_tuple_of", defArgs (top 11), defBody (top 11), defScope (top 11), [], []⟩, ["value", "low", "high"], ["value", "low", "high"], b_is_tuple_of⟩
def i_is_rising : DI := ⟨⟨("is_rising", none), "is_rising", "is_rising", defArgs (top 12), defBody (top 12), defScope (top 12), [], []⟩, ["things", "one", "other"], ["things"], b_is_rising⟩
def i_divisor_of : DI := ⟨⟨("divisor_of", none), "divisor_of", "divisor_of", defArgs (top 13), defBody (top 13), defScope (top 13), [], []⟩, ["one", "other"], ["one", "other"], b_divisor_of⟩
def i_lowest : DI := ⟨⟨("lowest", none), "lowest", "lowest", defArgs (top 14), defBody (top 14), defScope (top 14), [], []⟩, ["above", "below", "part"], ["above", "below"], b_lowest⟩
def i_fits_time : DI := ⟨⟨("fits_time", none), "fits_time", "fits_time", defArgs (top 15), defBody (top 15), defScope (top 15), [], []⟩, ["value"], ["value"], b_fits_time⟩
def i_need_time : DI := ⟨⟨("need_time", none), "need_time", "need_time", defArgs (top 16), defBody (top 16), defScope (top 16), [], []⟩, ["value"], ["value"], b_need_time⟩
def i_put_together : DI := ⟨⟨("put_together", none), "put_together", "put_together", defArgs (top 17), defBody (top 17), defScope (top 17), [], []⟩, ["one", "other"], ["one", "other"], b_put_together⟩
def i_difference : DI := ⟨⟨("difference", none), "difference", "difference", defArgs (top 18), defBody (top 18), defScope (top 18), [], []⟩, ["one", "other"], ["one", "other"], b_difference⟩
def i_side_of : DI := ⟨⟨("side_of", none), "side_of", "side_of", defArgs (top 19), defBody (top 19), defScope (top 19), [], []⟩, ["time", "number"], ["time", "number"], b_side_of⟩
def i_is_under : DI := ⟨⟨("is_under", none), "is_under", "is_under", defArgs (top 20), defBody (top 20), defScope (top 20), [], []⟩, ["one", "other"], ["one", "other"], b_is_under⟩
def i_fits_demand : DI := ⟨⟨("fits_demand", none), "fits_demand", "fits_demand", defArgs (top 36), defBody (top 36), defScope (top 36), [], []⟩, ["clocks", "relations", "value"], ["clocks", "relations", "value"], b_fits_demand⟩
def i_are_demands : DI := ⟨⟨("are_demands", none), "are_demands", "are_demands", defArgs (top 37), defBody (top 37), defScope (top 37), [], []⟩, ["clocks", "relations", "most", "value", "demand"], ["clocks", "relations", "most", "value"], b_are_demands⟩
def i_are_clocks : DI := ⟨⟨("are_clocks", none), "are_clocks", "are_clocks", defArgs (top 38), defBody (top 38), defScope (top 38), [], []⟩, ["clocks", "value", "clock"], ["clocks", "value"], b_are_clocks⟩
def i_fits_edge : DI := ⟨⟨("fits_edge", none), "fits_edge", "fits_edge", defArgs (top 39), defBody (top 39), defScope (top 39), [], []⟩, ["places", "clocks", "value", "place"], ["places", "clocks", "value"], b_fits_edge⟩
def i_fits_machine : DI := ⟨⟨("fits_machine", none), "fits_machine", "fits_machine", defArgs (top 40), defBody (top 40), defScope (top 40), [], []⟩, ["value", "places", "clocks", "stays", "edges", "stay", "edge"], ["value"], b_fits_machine⟩
def i_need_machine : DI := ⟨⟨("need_machine", none), "need_machine", "need_machine", defArgs (top 41), defBody (top 41), defScope (top 41), [], []⟩, ["value"], ["value"], b_need_machine⟩
def i_fits_state : DI := ⟨⟨("fits_state", none), "fits_state", "fits_state", defArgs (top 42), defBody (top 42), defScope (top 42), [], []⟩, ["machine", "value", "time"], ["machine", "value"], b_fits_state⟩
def i_need_state : DI := ⟨⟨("need_state", none), "need_state", "need_state", defArgs (top 43), defBody (top 43), defScope (top 43), [], []⟩, ["machine", "value"], ["machine", "value"], b_need_state⟩
def i_need_edge : DI := ⟨⟨("need_edge", none), "need_edge", "need_edge", defArgs (top 44), defBody (top 44), defScope (top 44), [], []⟩, ["machine", "value"], ["machine", "value"], b_need_edge⟩
def i_does_keep : DI := ⟨⟨("does_keep", none), "does_keep", "does_keep", defArgs (top 45), defBody (top 45), defScope (top 45), [], []⟩, ["relation", "side"], ["relation", "side"], b_does_keep⟩
def i_do_demands_hold : DI := ⟨⟨("do_demands_hold", none), "do_demands_hold", "do_demands_hold", defArgs (top 46), defBody (top 46), defScope (top 46), [], []⟩, ["shown", "demands", "clock", "relation", "number"], ["shown", "demands"], b_do_demands_hold⟩
def i_is_let_in : DI := ⟨⟨("is_let_in", none), "is_let_in", "is_let_in", defArgs (top 47), defBody (top 47), defScope (top 47), [], []⟩, ["machine", "state"], ["machine", "state"], b_is_let_in⟩
def i_after_wait : DI := ⟨⟨("after_wait", none), "after_wait", "after_wait", defArgs (top 49), defBody (top 49), defScope (top 49), [], []⟩, ["machine", "state", "wait", "found", "time"], ["machine", "state", "wait"], b_after_wait⟩
def i_after_edge : DI := ⟨⟨("after_edge", none), "after_edge", "after_edge", defArgs (top 50), defBody (top 50), defScope (top 50), [], []⟩, ["machine", "state", "index", "found", "source", "target", "letter", "guard", "resets", "clock", "time"], ["machine", "state", "index"], b_after_edge⟩
def i_longest_in : DI := ⟨⟨("longest_in", none), "longest_in", "longest_in", defArgs (top 51), defBody (top 51), defScope (top 51), [], []⟩, ["machine", "state", "found", "clock", "relation", "number", "left", "is_so"], ["machine", "state"], b_longest_in⟩
def i_later_begin : DI := ⟨⟨("later_begin", none), "later_begin", "later_begin", defArgs (top 53), defBody (top 53), defScope (top 53), [], []⟩, ["one", "other"], ["one", "other"], b_later_begin⟩
def i_earlier_end : DI := ⟨⟨("earlier_end", none), "earlier_end", "earlier_end", defArgs (top 54), defBody (top 54), defScope (top 54), [], []⟩, ["one", "other"], ["one", "other"], b_earlier_end⟩
def i_Waits___init__ : DI := ⟨⟨("Waits", some "__init__"), "__init__", "Waits.__init__", defArgs (inClass (top 55) 0), defBody (inClass (top 55) 0), defScope (inClass (top 55) 0), [], []⟩, ["self"], ["self"], b_Waits___init__⟩
def i_Waits_ask : DI := ⟨⟨("Waits", some "ask"), "ask", "Waits.ask", defArgs (inClass (top 55) 1), defBody (inClass (top 55) 1), defScope (inClass (top 55) 1), [], []⟩, ["self", "time", "relation", "number", "left"], ["self", "time", "relation", "number"], b_Waits_ask⟩
def i_Waits_are_none : DI := ⟨⟨("Waits", some "are_none"), "are_none", "Waits.are_none", defArgs (inClass (top 55) 2), defBody (inClass (top 55) 2), defScope (inClass (top 55) 2), [], []⟩, ["self"], ["self"], b_Waits_are_none⟩
def i_waits_in : DI := ⟨⟨("waits_in", none), "waits_in", "waits_in", defArgs (top 56), defBody (top 56), defScope (top 56), [], []⟩, ["machine", "state", "edge", "found", "source", "target", "letter", "guard", "resets", "clock", "relation", "number"], ["machine", "state", "edge"], b_waits_in⟩
def i_is_stuck_in : DI := ⟨⟨("is_stuck_in", none), "is_stuck_in", "is_stuck_in", defArgs (top 57), defBody (top 57), defScope (top 57), [], []⟩, ["machine", "state", "edge"], ["machine", "state"], b_is_stuck_in⟩
def i_is_stopped_in : DI := ⟨⟨("is_stopped_in", none), "is_stopped_in", "is_stopped_in", defArgs (top 58), defBody (top 58), defScope (top 58), [], []⟩, ["machine", "state"], ["machine", "state"], b_is_stopped_in⟩
def i_need_let_state : DI := ⟨⟨("need_let_state", none), "need_let_state", "need_let_state", defArgs (top 59), defBody (top 59), defScope (top 59), [], []⟩, ["machine", "state"], ["machine", "state"], b_need_let_state⟩
def i_is_stuck : DI := ⟨⟨("is_stuck", none), "is_stuck", "is_stuck", defArgs (top 60), defBody (top 60), defScope (top 60), [], []⟩, ["machine", "state"], ["machine", "state"], b_is_stuck⟩
def i_is_stopped : DI := ⟨⟨("is_stopped", none), "is_stopped", "is_stopped", defArgs (top 61), defBody (top 61), defScope (top 61), [], []⟩, ["machine", "state"], ["machine", "state"], b_is_stopped⟩
def i_waits_to_edge : DI := ⟨⟨("waits_to_edge", none), "waits_to_edge", "waits_to_edge", defArgs (top 62), defBody (top 62), defScope (top 62), [], []⟩, ["machine", "state", "edge", "found"], ["machine", "state", "edge"], b_waits_to_edge⟩
def i_need_both : DI := ⟨⟨("need_both", none), "need_both", "need_both", defArgs (top 64), defBody (top 64), defScope (top 64), [], []⟩, ["machine", "state"], ["machine", "state"], b_need_both⟩
def i_is_let : DI := ⟨⟨("is_let", none), "is_let", "is_let", defArgs (top 65), defBody (top 65), defScope (top 65), [], []⟩, ["machine", "state"], ["machine", "state"], b_is_let⟩
def i_waited : DI := ⟨⟨("waited", none), "waited", "waited", defArgs (top 66), defBody (top 66), defScope (top 66), [], []⟩, ["machine", "state", "wait"], ["machine", "state", "wait"], b_waited⟩
def i_edged : DI := ⟨⟨("edged", none), "edged", "edged", defArgs (top 67), defBody (top 67), defScope (top 67), [], []⟩, ["machine", "state", "edge"], ["machine", "state", "edge"], b_edged⟩
def i_edges_open : DI := ⟨⟨("edges_open", none), "edges_open", "edges_open", defArgs (top 68), defBody (top 68), defScope (top 68), [], []⟩, ["machine", "state", "at"], ["machine", "state"], b_edges_open⟩
def i_longest_wait : DI := ⟨⟨("longest_wait", none), "longest_wait", "longest_wait", defArgs (top 69), defBody (top 69), defScope (top 69), [], []⟩, ["machine", "state"], ["machine", "state"], b_longest_wait⟩
def i__law_cup : DI := ⟨⟨("_law_cup", none), "_law_cup", "_law_cup", defArgs (top 71), defBody (top 71), defScope (top 71), [], []⟩, ["script", "cell"], ["script"], b__law_cup⟩
def i__law_roll : DI := ⟨⟨("_law_roll", none), "_law_roll", "_law_roll", defArgs (top 72), defBody (top 72), defScope (top 72), [], []⟩, ["cup", "many", "deep", "found"], ["cup", "many"], b__law_roll⟩
def i__law_some : DI := ⟨⟨("_law_some", none), "_law_some", "_law_some", defArgs (top 73), defBody (top 73), defScope (top 73), [], []⟩, ["cup", "things"], ["cup", "things"], b__law_some⟩
def i__law_sort : DI := ⟨⟨("_law_sort", none), "_law_sort", "_law_sort", defArgs (top 74), defBody (top 74), defScope (top 74), [], []⟩, ["value"], ["value"], b__law_sort⟩
def i__law_like : DI := ⟨⟨("_law_like", none), "_law_like", "_law_like", defArgs (top 75), defBody (top 75), defScope (top 75), [], []⟩, ["one", "other", "sort", "first", "second"], ["one", "other"], b__law_like⟩
def i__law_divisor : DI := ⟨⟨("_law_divisor", none), "_law_divisor", "_law_divisor", defArgs (top 76), defBody (top 76), defScope (top 76), [], []⟩, ["one", "other"], ["one", "other"], b__law_divisor⟩
def i__law_time : DI := ⟨⟨("_law_time", none), "_law_time", "_law_time", defArgs (top 77), defBody (top 77), defScope (top 77), [], []⟩, ["above", "below", "whole"], ["above", "below"], b__law_time⟩
def i__law_sum : DI := ⟨⟨("_law_sum", none), "_law_sum", "_law_sum", defArgs (top 78), defBody (top 78), defScope (top 78), [], []⟩, ["one", "other"], ["one", "other"], b__law_sum⟩
def i__law_after : DI := ⟨⟨("_law_after", none), "_law_after", "_law_after", defArgs (top 79), defBody (top 79), defScope (top 79), [], []⟩, ["machine", "state", "wait", "shown", "time"], ["machine", "state", "wait"], b__law_after⟩
def i__law_edged : DI := ⟨⟨("_law_edged", none), "_law_edged", "_law_edged", defArgs (top 80), defBody (top 80), defScope (top 80), [], []⟩, ["machine", "state", "edge", "shown", "source", "target", "letter", "guard", "resets", "clock", "time"], ["machine", "state", "edge"], b__law_edged⟩
def i__law_keeps : DI := ⟨⟨("_law_keeps", none), "_law_keeps", "_law_keeps", defArgs (top 81), defBody (top 81), defScope (top 81), [], []⟩, ["shown", "demands", "clock", "relation", "number", "side", "above", "below"], ["shown", "demands"], b__law_keeps⟩
def i__law_demands : DI := ⟨⟨("_law_demands", none), "_law_demands", "_law_demands", defArgs (top 82), defBody (top 82), defScope (top 82), [], []⟩, ["cup", "clocks", "most", "relations", "greatest", "held", "turn"], ["cup", "clocks", "most", "relations", "greatest"], b__law_demands⟩
def i__law_machine : DI := ⟨⟨("_law_machine", none), "_law_machine", "_law_machine", defArgs (top 83), defBody (top 83), defScope (top 83), [], []⟩, ["cup", "most", "greatest", "stays", "found", "turn", "places", "clocks", "guard", "resets", "edge", "place", "clock"], ["cup", "most", "greatest"], b__law_machine⟩
def i__law_halfway : DI := ⟨⟨("_law_halfway", none), "_law_halfway", "_law_halfway", defArgs (top 84), defBody (top 84), defScope (top 84), [], []⟩, ["one", "other"], ["one", "other"], b__law_halfway⟩
def i__law_opens : DI := ⟨⟨("_law_opens", none), "_law_opens", "_law_opens", defArgs (top 85), defBody (top 85), defScope (top 85), [], []⟩, ["machine", "state", "edge", "moments", "demands", "line", "spots", "good", "at", "moment", "later", "is_moment", "there", "end", "clock", "relation", "number", "first", "is_first", "last", "is_last", "above", "below", "size", "own"], ["machine", "state", "edge"], b__law_opens⟩
def i__law_is_stuck : DI := ⟨⟨("_law_is_stuck", none), "_law_is_stuck", "_law_is_stuck", defArgs (top 86), defBody (top 86), defScope (top 86), [], []⟩, ["machine", "state", "edge"], ["machine", "state"], b__law_is_stuck⟩
def i__law_is_stopped : DI := ⟨⟨("_law_is_stopped", none), "_law_is_stopped", "_law_is_stopped", defArgs (top 87), defBody (top 87), defScope (top 87), [], []⟩, ["machine", "state"], ["machine", "state"], b__law_is_stopped⟩
def i__law_waits_right : DI := ⟨⟨("_law_waits_right", none), "_law_waits_right", "_law_waits_right", defArgs (top 88), defBody (top 88), defScope (top 88), [], []⟩, ["cup", "machine", "state", "edge", "later", "due", "found", "least", "is_least", "wait", "good", "there", "most", "is_most"], ["cup", "machine", "state", "edge"], b__law_waits_right⟩
def i__law_right : DI := ⟨⟨("_law_right", none), "_law_right", "_law_right", defArgs (top 89), defBody (top 89), defScope (top 89), [], []⟩, ["cup", "machine", "turn", "state", "clock", "edge"], ["cup", "machine"], b__law_right⟩
def i_law : DI := ⟨⟨("law", none), "law", "law", defArgs (top 90), defBody (top 90), defScope (top 90), [], []⟩, ["script", "cup", "s", "shown", "due", "two", "meet", "shut", "three", "most", "greatest", "e", "z", "r", "bare", "edge"], ["script"], b_law⟩
def t0 : List DI := [i_is_integer, i_is_whole, i_is_tuple_of, i_is_rising, i_divisor_of, i_lowest, i_fits_time, i_need_time, i_put_together, i_difference, i_side_of, i_is_under, i_fits_demand, i_are_demands, i_are_clocks, i_fits_edge, i_fits_machine, i_need_machine, i_fits_state, i_need_state]
def t1 : List DI := [i_need_edge, i_does_keep, i_do_demands_hold, i_is_let_in, i_after_wait, i_after_edge, i_longest_in, i_later_begin, i_earlier_end, i_Waits___init__, i_Waits_ask, i_Waits_are_none, i_waits_in, i_is_stuck_in, i_is_stopped_in, i_need_let_state, i_is_stuck, i_is_stopped, i_waits_to_edge, i_need_both]
def t2 : List DI := [i_is_let, i_waited, i_edged, i_edges_open, i_longest_wait, i__law_cup, i__law_roll, i__law_some, i__law_sort, i__law_like, i__law_divisor, i__law_time, i__law_sum, i__law_after, i__law_edged, i__law_keeps, i__law_demands, i__law_machine, i__law_halfway, i__law_opens]
def t3 : List DI := [i__law_is_stuck, i__law_is_stopped, i__law_waits_right, i__law_right, i_law]
def tbl : List DI := t0 ++ (t1 ++ (t2 ++ (t3)))
def gf0 : List (Str × (Nat × Nat)) := [("is_integer", (0, 1)), ("is_whole", (1, 3)), ("is_tuple_of", (2, 3)), ("is_rising", (3, 1)), ("divisor_of", (4, 2)), ("lowest", (5, 2)), ("fits_time", (6, 1)), ("need_time", (7, 1)), ("put_together", (8, 2)), ("difference", (9, 2)), ("side_of", (10, 2)), ("is_under", (11, 2)), ("fits_demand", (12, 3)), ("are_demands", (13, 4)), ("are_clocks", (14, 2)), ("fits_edge", (15, 3)), ("fits_machine", (16, 1)), ("need_machine", (17, 1)), ("fits_state", (18, 2)), ("need_state", (19, 2))]
def gf1 : List (Str × (Nat × Nat)) := [("need_edge", (20, 2)), ("does_keep", (21, 2)), ("do_demands_hold", (22, 2)), ("is_let_in", (23, 2)), ("after_wait", (24, 3)), ("after_edge", (25, 3)), ("longest_in", (26, 2)), ("later_begin", (27, 2)), ("earlier_end", (28, 2)), ("waits_in", (32, 3)), ("is_stuck_in", (33, 2)), ("is_stopped_in", (34, 2)), ("need_let_state", (35, 2)), ("is_stuck", (36, 2)), ("is_stopped", (37, 2)), ("waits_to_edge", (38, 3)), ("need_both", (39, 2)), ("is_let", (40, 2)), ("waited", (41, 3)), ("edged", (42, 3))]
def gf2 : List (Str × (Nat × Nat)) := [("edges_open", (43, 2)), ("longest_wait", (44, 2)), ("_law_cup", (45, 1)), ("_law_roll", (46, 2)), ("_law_some", (47, 2)), ("_law_sort", (48, 1)), ("_law_like", (49, 2)), ("_law_divisor", (50, 2)), ("_law_time", (51, 2)), ("_law_sum", (52, 2)), ("_law_after", (53, 3)), ("_law_edged", (54, 3)), ("_law_keeps", (55, 2)), ("_law_demands", (56, 5)), ("_law_machine", (57, 3)), ("_law_halfway", (58, 2)), ("_law_opens", (59, 3)), ("_law_is_stuck", (60, 2)), ("_law_is_stopped", (61, 2)), ("_law_waits_right", (62, 4))]
def gf3 : List (Str × (Nat × Nat)) := [("_law_right", (63, 2)), ("law", (64, 1))]
def gF : List (Str × (Nat × Nat)) := gf0 ++ (gf1 ++ (gf2 ++ (gf3)))
def gc0 : List (Str × D) := [("MOST_TIME", d_MOST_TIME), ("NOUGHT", d_NOUGHT), ("MOST_PLACES", d_MOST_PLACES), ("MOST_CLOCKS", d_MOST_CLOCKS), ("MOST_STAYS", d_MOST_STAYS), ("MOST_EDGES", d_MOST_EDGES), ("MOST_GUARD", d_MOST_GUARD), ("MOST_LETTER", d_MOST_LETTER), ("MOST_NUMBER", d_MOST_NUMBER), ("LESS", d_LESS), ("MOST", d_MOST), ("SAME", d_SAME), ("LEAST", d_LEAST), ("MORE", d_MORE), ("RELATIONS", d_RELATIONS), ("STAYING", d_STAYING)]
def gC : List (Str × D) := gc0
def gK : List (Str × (Nat × Nat × Nat)) := [("Waits", (0, 29, 0))]
def gM : List (Str × (Nat × Nat × Nat)) := [("ask", (0, 30, 3)), ("are_none", (0, 31, 0))]
def gD : List (Str × Nat) := [("begin", 0), ("end", 1)]
def gb0 : List Str := ["abs", "all", "bool", "enumerate", "int", "isinstance", "len", "list", "max", "range", "sorted", "str", "tuple", "zip"]
def gB : List Str := gb0
def G : Glb := ⟨gF, gC, gK, gM, gD, csL, gB⟩
def ld : LD := ⟨G, tbl, ["Waits"], ["begin", "end"]⟩
theorem ok_is_integer : OkD G i_is_integer := ⟨fun K f fd F => FunD.bindsN F fun _ _ _ _ _ _ us hl => match us, hl with | [_], _ => rfl, fun cl => by kernel_rfl⟩
theorem ok_is_whole : OkD G i_is_whole := ⟨fun K f fd F => FunD.bindsN F fun _ _ _ _ _ _ us hl => match us, hl with | [_, _, _], _ => rfl, fun cl => by kernel_rfl⟩
theorem ok_is_tuple_of : OkD G i_is_tuple_of := ⟨fun K f fd F => FunD.bindsN F fun _ _ _ _ _ _ us hl => match us, hl with | [_, _, _], _ => rfl, fun cl => by kernel_rfl⟩
theorem ok_is_rising : OkD G i_is_rising := ⟨fun K f fd F => FunD.bindsN F fun _ _ _ _ _ _ us hl => match us, hl with | [_], _ => rfl, fun cl => by kernel_rfl⟩
theorem ok_divisor_of : OkD G i_divisor_of := ⟨fun K f fd F => FunD.bindsN F fun _ _ _ _ _ _ us hl => match us, hl with | [_, _], _ => rfl, fun cl => by kernel_rfl⟩
theorem ok_lowest : OkD G i_lowest := ⟨fun K f fd F => FunD.bindsN F fun _ _ _ _ _ _ us hl => match us, hl with | [_, _], _ => rfl, fun cl => by kernel_rfl⟩
theorem ok_fits_time : OkD G i_fits_time := ⟨fun K f fd F => FunD.bindsN F fun _ _ _ _ _ _ us hl => match us, hl with | [_], _ => rfl, fun cl => by kernel_rfl⟩
theorem ok_need_time : OkD G i_need_time := ⟨fun K f fd F => FunD.bindsN F fun _ _ _ _ _ _ us hl => match us, hl with | [_], _ => rfl, fun cl => by kernel_rfl⟩
theorem ok_put_together : OkD G i_put_together := ⟨fun K f fd F => FunD.bindsN F fun _ _ _ _ _ _ us hl => match us, hl with | [_, _], _ => rfl, fun cl => by kernel_rfl⟩
theorem ok_difference : OkD G i_difference := ⟨fun K f fd F => FunD.bindsN F fun _ _ _ _ _ _ us hl => match us, hl with | [_, _], _ => rfl, fun cl => by kernel_rfl⟩
theorem ok_side_of : OkD G i_side_of := ⟨fun K f fd F => FunD.bindsN F fun _ _ _ _ _ _ us hl => match us, hl with | [_, _], _ => rfl, fun cl => by kernel_rfl⟩
theorem ok_is_under : OkD G i_is_under := ⟨fun K f fd F => FunD.bindsN F fun _ _ _ _ _ _ us hl => match us, hl with | [_, _], _ => rfl, fun cl => by kernel_rfl⟩
theorem ok_fits_demand : OkD G i_fits_demand := ⟨fun K f fd F => FunD.bindsN F fun _ _ _ _ _ _ us hl => match us, hl with | [_, _, _], _ => rfl, fun cl => by kernel_rfl⟩
theorem ok_are_demands : OkD G i_are_demands := ⟨fun K f fd F => FunD.bindsN F fun _ _ _ _ _ _ us hl => match us, hl with | [_, _, _, _], _ => rfl, fun cl => by kernel_rfl⟩
theorem ok_are_clocks : OkD G i_are_clocks := ⟨fun K f fd F => FunD.bindsN F fun _ _ _ _ _ _ us hl => match us, hl with | [_, _], _ => rfl, fun cl => by kernel_rfl⟩
theorem ok_fits_edge : OkD G i_fits_edge := ⟨fun K f fd F => FunD.bindsN F fun _ _ _ _ _ _ us hl => match us, hl with | [_, _, _], _ => rfl, fun cl => by kernel_rfl⟩
theorem ok_fits_machine : OkD G i_fits_machine := ⟨fun K f fd F => FunD.bindsN F fun _ _ _ _ _ _ us hl => match us, hl with | [_], _ => rfl, fun cl => by kernel_rfl⟩
theorem ok_need_machine : OkD G i_need_machine := ⟨fun K f fd F => FunD.bindsN F fun _ _ _ _ _ _ us hl => match us, hl with | [_], _ => rfl, fun cl => by kernel_rfl⟩
theorem ok_fits_state : OkD G i_fits_state := ⟨fun K f fd F => FunD.bindsN F fun _ _ _ _ _ _ us hl => match us, hl with | [_, _], _ => rfl, fun cl => by kernel_rfl⟩
theorem ok_need_state : OkD G i_need_state := ⟨fun K f fd F => FunD.bindsN F fun _ _ _ _ _ _ us hl => match us, hl with | [_, _], _ => rfl, fun cl => by kernel_rfl⟩
theorem ok_need_edge : OkD G i_need_edge := ⟨fun K f fd F => FunD.bindsN F fun _ _ _ _ _ _ us hl => match us, hl with | [_, _], _ => rfl, fun cl => by kernel_rfl⟩
theorem ok_does_keep : OkD G i_does_keep := ⟨fun K f fd F => FunD.bindsN F fun _ _ _ _ _ _ us hl => match us, hl with | [_, _], _ => rfl, fun cl => by kernel_rfl⟩
theorem ok_do_demands_hold : OkD G i_do_demands_hold := ⟨fun K f fd F => FunD.bindsN F fun _ _ _ _ _ _ us hl => match us, hl with | [_, _], _ => rfl, fun cl => by kernel_rfl⟩
theorem ok_is_let_in : OkD G i_is_let_in := ⟨fun K f fd F => FunD.bindsN F fun _ _ _ _ _ _ us hl => match us, hl with | [_, _], _ => rfl, fun cl => by kernel_rfl⟩
theorem ok_after_wait : OkD G i_after_wait := ⟨fun K f fd F => FunD.bindsN F fun _ _ _ _ _ _ us hl => match us, hl with | [_, _, _], _ => rfl, fun cl => by kernel_rfl⟩
theorem ok_after_edge : OkD G i_after_edge := ⟨fun K f fd F => FunD.bindsN F fun _ _ _ _ _ _ us hl => match us, hl with | [_, _, _], _ => rfl, fun cl => by kernel_rfl⟩
theorem ok_longest_in : OkD G i_longest_in := ⟨fun K f fd F => FunD.bindsN F fun _ _ _ _ _ _ us hl => match us, hl with | [_, _], _ => rfl, fun cl => by kernel_rfl⟩
theorem ok_later_begin : OkD G i_later_begin := ⟨fun K f fd F => FunD.bindsN F fun _ _ _ _ _ _ us hl => match us, hl with | [_, _], _ => rfl, fun cl => by kernel_rfl⟩
theorem ok_earlier_end : OkD G i_earlier_end := ⟨fun K f fd F => FunD.bindsN F fun _ _ _ _ _ _ us hl => match us, hl with | [_, _], _ => rfl, fun cl => by kernel_rfl⟩
theorem ok_Waits___init__ : OkD G i_Waits___init__ := ⟨fun K f fd F => FunD.bindsN F fun _ _ _ _ _ _ us hl => match us, hl with | [_], _ => rfl, fun cl => by kernel_rfl⟩
theorem ok_Waits_ask : OkD G i_Waits_ask := ⟨fun K f fd F => FunD.bindsN F fun _ _ _ _ _ _ us hl => match us, hl with | [_, _, _, _], _ => rfl, fun cl => by kernel_rfl⟩
theorem ok_Waits_are_none : OkD G i_Waits_are_none := ⟨fun K f fd F => FunD.bindsN F fun _ _ _ _ _ _ us hl => match us, hl with | [_], _ => rfl, fun cl => by kernel_rfl⟩
theorem ok_waits_in : OkD G i_waits_in := ⟨fun K f fd F => FunD.bindsN F fun _ _ _ _ _ _ us hl => match us, hl with | [_, _, _], _ => rfl, fun cl => by kernel_rfl⟩
theorem ok_is_stuck_in : OkD G i_is_stuck_in := ⟨fun K f fd F => FunD.bindsN F fun _ _ _ _ _ _ us hl => match us, hl with | [_, _], _ => rfl, fun cl => by kernel_rfl⟩
theorem ok_is_stopped_in : OkD G i_is_stopped_in := ⟨fun K f fd F => FunD.bindsN F fun _ _ _ _ _ _ us hl => match us, hl with | [_, _], _ => rfl, fun cl => by kernel_rfl⟩
theorem ok_need_let_state : OkD G i_need_let_state := ⟨fun K f fd F => FunD.bindsN F fun _ _ _ _ _ _ us hl => match us, hl with | [_, _], _ => rfl, fun cl => by kernel_rfl⟩
theorem ok_is_stuck : OkD G i_is_stuck := ⟨fun K f fd F => FunD.bindsN F fun _ _ _ _ _ _ us hl => match us, hl with | [_, _], _ => rfl, fun cl => by kernel_rfl⟩
theorem ok_is_stopped : OkD G i_is_stopped := ⟨fun K f fd F => FunD.bindsN F fun _ _ _ _ _ _ us hl => match us, hl with | [_, _], _ => rfl, fun cl => by kernel_rfl⟩
theorem ok_waits_to_edge : OkD G i_waits_to_edge := ⟨fun K f fd F => FunD.bindsN F fun _ _ _ _ _ _ us hl => match us, hl with | [_, _, _], _ => rfl, fun cl => by kernel_rfl⟩
theorem ok_need_both : OkD G i_need_both := ⟨fun K f fd F => FunD.bindsN F fun _ _ _ _ _ _ us hl => match us, hl with | [_, _], _ => rfl, fun cl => by kernel_rfl⟩
theorem ok_is_let : OkD G i_is_let := ⟨fun K f fd F => FunD.bindsN F fun _ _ _ _ _ _ us hl => match us, hl with | [_, _], _ => rfl, fun cl => by kernel_rfl⟩
theorem ok_waited : OkD G i_waited := ⟨fun K f fd F => FunD.bindsN F fun _ _ _ _ _ _ us hl => match us, hl with | [_, _, _], _ => rfl, fun cl => by kernel_rfl⟩
theorem ok_edged : OkD G i_edged := ⟨fun K f fd F => FunD.bindsN F fun _ _ _ _ _ _ us hl => match us, hl with | [_, _, _], _ => rfl, fun cl => by kernel_rfl⟩
theorem ok_edges_open : OkD G i_edges_open := ⟨fun K f fd F => FunD.bindsN F fun _ _ _ _ _ _ us hl => match us, hl with | [_, _], _ => rfl, fun cl => by kernel_rfl⟩
theorem ok_longest_wait : OkD G i_longest_wait := ⟨fun K f fd F => FunD.bindsN F fun _ _ _ _ _ _ us hl => match us, hl with | [_, _], _ => rfl, fun cl => by kernel_rfl⟩
theorem ok__law_cup : OkD G i__law_cup := ⟨fun K f fd F => FunD.bindsN F fun _ _ _ _ _ _ us hl => match us, hl with | [_], _ => rfl, fun cl => by kernel_rfl⟩
theorem ok__law_roll : OkD G i__law_roll := ⟨fun K f fd F => FunD.bindsN F fun _ _ _ _ _ _ us hl => match us, hl with | [_, _], _ => rfl, fun cl => by kernel_rfl⟩
theorem ok__law_some : OkD G i__law_some := ⟨fun K f fd F => FunD.bindsN F fun _ _ _ _ _ _ us hl => match us, hl with | [_, _], _ => rfl, fun cl => by kernel_rfl⟩
theorem ok__law_sort : OkD G i__law_sort := ⟨fun K f fd F => FunD.bindsN F fun _ _ _ _ _ _ us hl => match us, hl with | [_], _ => rfl, fun cl => by kernel_rfl⟩
theorem ok__law_like : OkD G i__law_like := ⟨fun K f fd F => FunD.bindsN F fun _ _ _ _ _ _ us hl => match us, hl with | [_, _], _ => rfl, fun cl => by kernel_rfl⟩
theorem ok__law_divisor : OkD G i__law_divisor := ⟨fun K f fd F => FunD.bindsN F fun _ _ _ _ _ _ us hl => match us, hl with | [_, _], _ => rfl, fun cl => by kernel_rfl⟩
theorem ok__law_time : OkD G i__law_time := ⟨fun K f fd F => FunD.bindsN F fun _ _ _ _ _ _ us hl => match us, hl with | [_, _], _ => rfl, fun cl => by kernel_rfl⟩
theorem ok__law_sum : OkD G i__law_sum := ⟨fun K f fd F => FunD.bindsN F fun _ _ _ _ _ _ us hl => match us, hl with | [_, _], _ => rfl, fun cl => by kernel_rfl⟩
theorem ok__law_after : OkD G i__law_after := ⟨fun K f fd F => FunD.bindsN F fun _ _ _ _ _ _ us hl => match us, hl with | [_, _, _], _ => rfl, fun cl => by kernel_rfl⟩
theorem ok__law_edged : OkD G i__law_edged := ⟨fun K f fd F => FunD.bindsN F fun _ _ _ _ _ _ us hl => match us, hl with | [_, _, _], _ => rfl, fun cl => by kernel_rfl⟩
theorem ok__law_keeps : OkD G i__law_keeps := ⟨fun K f fd F => FunD.bindsN F fun _ _ _ _ _ _ us hl => match us, hl with | [_, _], _ => rfl, fun cl => by kernel_rfl⟩
theorem ok__law_demands : OkD G i__law_demands := ⟨fun K f fd F => FunD.bindsN F fun _ _ _ _ _ _ us hl => match us, hl with | [_, _, _, _, _], _ => rfl, fun cl => by kernel_rfl⟩
theorem ok__law_machine : OkD G i__law_machine := ⟨fun K f fd F => FunD.bindsN F fun _ _ _ _ _ _ us hl => match us, hl with | [_, _, _], _ => rfl, fun cl => by kernel_rfl⟩
theorem ok__law_halfway : OkD G i__law_halfway := ⟨fun K f fd F => FunD.bindsN F fun _ _ _ _ _ _ us hl => match us, hl with | [_, _], _ => rfl, fun cl => by kernel_rfl⟩
theorem ok__law_opens : OkD G i__law_opens := ⟨fun K f fd F => FunD.bindsN F fun _ _ _ _ _ _ us hl => match us, hl with | [_, _, _], _ => rfl, fun cl => by kernel_rfl⟩
theorem ok__law_is_stuck : OkD G i__law_is_stuck := ⟨fun K f fd F => FunD.bindsN F fun _ _ _ _ _ _ us hl => match us, hl with | [_, _], _ => rfl, fun cl => by kernel_rfl⟩
theorem ok__law_is_stopped : OkD G i__law_is_stopped := ⟨fun K f fd F => FunD.bindsN F fun _ _ _ _ _ _ us hl => match us, hl with | [_, _], _ => rfl, fun cl => by kernel_rfl⟩
theorem ok__law_waits_right : OkD G i__law_waits_right := ⟨fun K f fd F => FunD.bindsN F fun _ _ _ _ _ _ us hl => match us, hl with | [_, _, _, _], _ => rfl, fun cl => by kernel_rfl⟩
theorem ok__law_right : OkD G i__law_right := ⟨fun K f fd F => FunD.bindsN F fun _ _ _ _ _ _ us hl => match us, hl with | [_, _], _ => rfl, fun cl => by kernel_rfl⟩
theorem ok_law : OkD G i_law := ⟨fun K f fd F => FunD.bindsN F fun _ _ _ _ _ _ us hl => match us, hl with | [_], _ => rfl, fun cl => by kernel_rfl⟩
theorem e0 : EachD (OkD G) t0 := ⟨ok_is_integer, ok_is_whole, ok_is_tuple_of, ok_is_rising, ok_divisor_of, ok_lowest, ok_fits_time, ok_need_time, ok_put_together, ok_difference, ok_side_of, ok_is_under, ok_fits_demand, ok_are_demands, ok_are_clocks, ok_fits_edge, ok_fits_machine, ok_need_machine, ok_fits_state, ok_need_state, trivial⟩
theorem e1 : EachD (OkD G) t1 := ⟨ok_need_edge, ok_does_keep, ok_do_demands_hold, ok_is_let_in, ok_after_wait, ok_after_edge, ok_longest_in, ok_later_begin, ok_earlier_end, ok_Waits___init__, ok_Waits_ask, ok_Waits_are_none, ok_waits_in, ok_is_stuck_in, ok_is_stopped_in, ok_need_let_state, ok_is_stuck, ok_is_stopped, ok_waits_to_edge, ok_need_both, trivial⟩
theorem e2 : EachD (OkD G) t2 := ⟨ok_is_let, ok_waited, ok_edged, ok_edges_open, ok_longest_wait, ok__law_cup, ok__law_roll, ok__law_some, ok__law_sort, ok__law_like, ok__law_divisor, ok__law_time, ok__law_sum, ok__law_after, ok__law_edged, ok__law_keeps, ok__law_demands, ok__law_machine, ok__law_halfway, ok__law_opens, trivial⟩
theorem e3 : EachD (OkD G) t3 := ⟨ok__law_is_stuck, ok__law_is_stopped, ok__law_waits_right, ok__law_right, ok_law, trivial⟩
theorem each : EachD (OkD G) ld.tbl := EachD.app e0 (EachD.app e1 (EachD.app e2 (e3)))
theorem chk : ld.chk = true := by kernel_rfl
theorem tbl_bs : tbl.map (fun i => (i.ps.length, i.N.length, i.b)) = bs := rfl
theorem callF_ev : ∀ n : Nat, callF tbl n = ev n
  | 0 => rfl
  | n + 1 => by
    funext j ds S
    have e : bs[j]? = (tbl[j]?).map (fun i => (i.ps.length, i.N.length, i.b)) := by rw [← tbl_bs, List.getElem?_map]
    show (match tbl[j]? with | some i => runF i.ps.length i.N.length (i.b (callF tbl n)) ds S | none => .stuck) = (match bs[j]? with | some (m, k, b) => runF m k (b (ev n)) ds S | none => .stuck)
    rw [e, callF_ev n]
    cases tbl[j]? <;> rfl
end K81
set_option Elab.async false
set_option linter.all false
set_option maxRecDepth 100000
set_option maxHeartbeats 0
namespace K81
open PySem PySem.Spec PyProof.Rows L2 Ev
abbrev hk : PySem.W.Hook := hookE 5 ld.fa ld.defs ld.G.csts
def ob (s : PySem.W.SharedT) : AlE := obsE 5 ld.fa ld.defs ld.G.csts (HandSHeadRun.getT s)
theorem ob_eq (s : PySem.W.SharedT) : ob s = hk.obs s.abs := obsE_eq (HandSHeadRun.getT_eq s)
theorem run (w : World) : HandSHeadRun.RunEq R qv hk ob 20000 names w := by
  intro os
  kernel_rfl
end K81
set_option Elab.async false
set_option linter.all false
namespace K81
inductive Rl where
  | less | most | same | least | more
  deriving DecidableEq
def Rl.holds : Rl → Rat → Rat → Bool
  | .less, x, l => decide (x < l)
  | .most, x, l => decide (x ≤ l)
  | .same, x, l => decide (x = l)
  | .least, x, l => decide (l ≤ x)
  | .more, x, l => decide (l < x)
def Rl.ends : Rl → Bool
  | .less => true
  | .most => true
  | .same => true
  | _ => false
def Rl.begins : Rl → Bool
  | .same => true
  | .least => true
  | .more => true
  | _ => false
structure Iv where
  b : Rat
  bc : Bool
  e : Option Rat
  ec : Bool
  deriving DecidableEq
def Iv.up (I : Iv) (w : Rat) : Bool := match I.e with
  | none => true
  | some e => decide (w < e) || (decide (w = e) && I.ec)
def Iv.lo (I : Iv) (w : Rat) : Bool := decide (I.b < w) || (decide (I.b = w) && I.bc)
def Iv.mem (I : Iv) (w : Rat) : Bool := I.lo w && I.up w
def endA (e : Option Rat × Bool) (l : Rat) (c : Bool) : Option Rat × Bool := match e.1 with
  | none => (some l, c)
  | some x => if x = l then (some x, e.2 && c) else if x < l then e else (some l, c)
def begA (b : Rat × Bool) (l : Rat) (c : Bool) : Rat × Bool := if b.1 = l then (b.1, b.2 && c) else if b.1 < l then (l, c) else b
def Iv.ask (I : Iv) (r : Rl) (l : Rat) : Iv :=
  let e := if r.ends then endA (I.e, I.ec) l (r != .less) else (I.e, I.ec)
  let b := if r.begins then begA (I.b, I.bc) l (r != .more) else (I.b, I.bc)
  ⟨b.1, b.2, e.1, e.2⟩
def Iv.start : Iv := ⟨0, true, none, false⟩
def Iv.no (I : Iv) : Bool := match I.e with
  | none => false
  | some e => if I.b = e then !(I.bc && I.ec) else decide (e < I.b)
def upP (e : Option Rat × Bool) (w : Rat) : Bool := match e.1 with
  | none => true
  | some x => decide (w < x) || (decide (w = x) && e.2)
theorem endA_up (e : Option Rat × Bool) (l : Rat) (c : Bool) (w : Rat) : upP (endA e l c) w = (upP e w && (decide (w < l) || (decide (w = l) && c))) := by
  obtain ⟨e, k⟩ := e
  cases e with
  | none => simp [upP, endA]
  | some x =>
    unfold endA
    by_cases h : x = l
    · subst h
      simp only [if_pos rfl, upP]
      by_cases h1 : w < x <;> by_cases h2 : w = x <;> cases k <;> cases c <;> simp [h1, h2] <;> grind
    · simp only [if_neg h]
      by_cases h1 : x < l
      · simp only [if_pos h1, upP]
        by_cases h2 : w < l
        · simp [h2]
        · have : ¬ w < x := by grind
          have : ¬ w = x := by grind
          simp [*]
      · simp only [if_neg h1, upP]
        by_cases h2 : w < x
        · simp [h2]
        · have : ¬ w < l := by grind
          have : ¬ w = l := by grind
          simp [*]
def loP (b : Rat × Bool) (w : Rat) : Bool := decide (b.1 < w) || (decide (b.1 = w) && b.2)
theorem begA_lo (b : Rat × Bool) (l : Rat) (c : Bool) (w : Rat) : loP (begA b l c) w = (loP b w && (decide (l < w) || (decide (l = w) && c))) := by
  obtain ⟨x, k⟩ := b
  unfold begA
  by_cases h : x = l
  · subst h
    simp only [if_pos rfl, loP]
    by_cases h1 : x < w <;> by_cases h2 : x = w <;> cases k <;> cases c <;> simp [h1, h2] <;> grind
  · simp only [if_neg h]
    by_cases h1 : x < l
    · simp only [if_pos h1, loP]
      by_cases h2 : l < w
      · have : x < w := by grind
        simp [*]
      · by_cases h3 : l = w
        · have : x < w := by grind
          simp [*]
        · simp [*]
    · simp only [if_neg h1, loP]
      by_cases h2 : x < w
      · have : l < w := by grind
        simp [*]
      · by_cases h3 : x = w
        · have : l < w := by grind
          simp [*]
        · simp [*]
theorem up_eq (I : Iv) (w : Rat) : I.up w = upP (I.e, I.ec) w := rfl
theorem lo_eq (I : Iv) (w : Rat) : I.lo w = loP (I.b, I.bc) w := rfl
theorem le_iff_lt_or (a b : Rat) : a ≤ b ↔ a < b ∨ a = b := by grind
theorem ask_mem (I : Iv) (r : Rl) (l w : Rat) : (I.ask r l).mem w = (I.mem w && r.holds w l) := by
  have hu : (I.ask r l).up w = (I.up w && (!r.ends || (decide (w < l) || (decide (w = l) && (r != .less))))) := by
    rw [up_eq, up_eq]
    show upP (if r.ends then endA (I.e, I.ec) l (r != .less) else (I.e, I.ec)) w = _
    cases hr : r.ends
    · simp
    · simp [endA_up]
  have hl : (I.ask r l).lo w = (I.lo w && (!r.begins || (decide (l < w) || (decide (l = w) && (r != .more))))) := by
    rw [lo_eq, lo_eq]
    show loP (if r.begins then begA (I.b, I.bc) l (r != .more) else (I.b, I.bc)) w = _
    cases hr : r.begins
    · simp
    · simp [begA_lo]
  unfold Iv.mem
  rw [hu, hl]
  cases I.lo w <;> cases I.up w <;> cases r <;> simp [Rl.ends, Rl.begins, Rl.holds, le_iff_lt_or] <;> grind
def Iv.all (I : Iv) (cs : List (Rl × Rat)) : Iv := cs.foldl (fun I c => I.ask c.1 c.2) I
theorem all_mem (w : Rat) : ∀ (cs : List (Rl × Rat)) (I : Iv), (I.all cs).mem w = (I.mem w && cs.all fun c => c.1.holds w c.2)
  | [], I => by simp [Iv.all]
  | c :: cs, I => by
    show ((I.ask c.1 c.2).all cs).mem w = _
    rw [all_mem w cs, ask_mem]
    simp [Bool.and_assoc]
theorem start_mem (w : Rat) : Iv.start.mem w = decide (0 ≤ w) := by
  have : decide (0 ≤ w) = (decide (0 < w) || decide (0 = w)) := by
    by_cases h : 0 < w <;> by_cases h' : 0 = w <;> simp [h, h'] <;> grind
  rw [this]
  show ((decide ((0 : Rat) < w) || (decide ((0 : Rat) = w) && true)) && true) = _
  rw [Bool.and_true, Bool.and_true]
structure Iv.Ok (I : Iv) (L : List Rat) : Prop where
  b : I.b = 0 ∨ I.b ∈ L
  b0 : 0 ≤ I.b
  e : ∀ e, I.e = some e → e ∈ L
  ec : I.e = none → I.ec = false
theorem Ok_start (L : List Rat) : Iv.start.Ok L := ⟨.inl rfl, by decide, fun e h => (by cases h), fun _ => rfl⟩
theorem Iv.Ok.ask {I : Iv} {L : List Rat} (h : I.Ok L) (r : Rl) {l : Rat} (hl : l ∈ L) : (I.ask r l).Ok L := by
  obtain ⟨h1, h2, h3, h4⟩ := h
  have hb : ∀ c, ((begA (I.b, I.bc) l c).1 = 0 ∨ (begA (I.b, I.bc) l c).1 ∈ L) ∧ 0 ≤ (begA (I.b, I.bc) l c).1 := by
    intro c
    unfold begA
    by_cases h : I.b = l
    · simp [h]; subst h; exact ⟨h1, h2⟩
    · simp only [if_neg h]
      by_cases h5 : I.b < l
      · simp only [if_pos h5]; exact ⟨.inr hl, by grind⟩
      · simp only [if_neg h5]; exact ⟨h1, h2⟩
  have he : ∀ c, (∀ e, (endA (I.e, I.ec) l c).1 = some e → e ∈ L) ∧ ((endA (I.e, I.ec) l c).1 = none → (endA (I.e, I.ec) l c).2 = false) := by
    intro c
    unfold endA
    cases hE : I.e with
    | none => exact ⟨fun e h => by cases h; exact hl, fun h => by cases h⟩
    | some x =>
      show (∀ e, (if x = l then (some x, I.ec && c) else if x < l then (some x, I.ec) else (some l, c)).1 = some e → e ∈ L) ∧ _
      by_cases h : x = l
      · subst h
        simp only [if_pos rfl]
        exact ⟨fun e h => by cases h; exact hl, fun h => by cases h⟩
      · simp only [if_neg h]
        by_cases h5 : x < l
        · simp only [if_pos h5]; exact ⟨fun e h => by cases h; exact h3 _ hE, fun h => by cases h⟩
        · simp only [if_neg h5]; exact ⟨fun e h => by cases h; exact hl, fun h => by cases h⟩
  refine ⟨?_, ?_, ?_, ?_⟩
  · show (if r.begins then begA (I.b, I.bc) l (r != .more) else (I.b, I.bc)).1 = 0 ∨ (if r.begins then begA (I.b, I.bc) l (r != .more) else (I.b, I.bc)).1 ∈ L
    split
    · exact (hb _).1
    · exact h1
  · show 0 ≤ (if r.begins then begA (I.b, I.bc) l (r != .more) else (I.b, I.bc)).1
    split
    · exact (hb _).2
    · exact h2
  · show ∀ e, (if r.ends then endA (I.e, I.ec) l (r != .less) else (I.e, I.ec)).1 = some e → e ∈ L
    split
    · exact (he _).1
    · exact h3
  · show (if r.ends then endA (I.e, I.ec) l (r != .less) else (I.e, I.ec)).1 = none → (if r.ends then endA (I.e, I.ec) l (r != .less) else (I.e, I.ec)).2 = false
    split
    · exact (he _).2
    · exact h4
theorem Iv.Ok.all {L : List Rat} : ∀ {cs : List (Rl × Rat)} {I : Iv}, I.Ok L → (∀ c ∈ cs, c.2 ∈ L) → (I.all cs).Ok L
  | [], _, h, _ => h
  | c :: cs, I, h, hc => Iv.Ok.all (cs := cs) (h.ask c.1 (hc c List.mem_cons_self)) fun c' h' => hc c' (List.mem_cons_of_mem _ h')
theorem no_mem {I : Iv} (h : I.no = true) (w : Rat) : I.mem w = false := by
  unfold Iv.no at h
  unfold Iv.mem Iv.lo Iv.up
  split at h
  · cases h
  · rename_i e he
    split at h
    · rename_i hb
      subst hb
      by_cases h1 : I.b < w <;> by_cases h2 : I.b = w <;> cases hbc : I.bc <;> cases hec : I.ec <;> simp [h1, h2, hbc, hec] at h ⊢ <;> grind
    · have h := of_decide_eq_true h
      by_cases h1 : I.b < w <;> by_cases h2 : I.b = w <;> simp [h1, h2] <;> grind
theorem not_no {I : Iv} (h : I.no = false) : ∀ e, I.e = some e → I.b < e ∨ (I.b = e ∧ I.bc = true ∧ I.ec = true) := by
  intro e he
  unfold Iv.no at h
  rw [he] at h
  simp only at h
  split at h
  · rename_i hb
    simp at h
    exact .inr ⟨hb, h⟩
  · have h := of_decide_eq_false h
    exact .inl (by grind)
structure Sp where
  w : Rat
  st : Rat
  m : Bool
  nx : Option Rat
def sp : List Rat → List Sp
  | [] => []
  | [m] => [⟨m, m, true, none⟩, ⟨m + 1, m, false, none⟩]
  | m :: m' :: r => ⟨m, m, true, some m'⟩ :: ⟨(m + m') / 2, m, false, some m'⟩ :: sp (m' :: r)
abbrev Up (ms : List Rat) : Prop := ms.Pairwise (· < ·)
theorem sp_ge : ∀ {ms : List Rat} {x : Rat}, Up ms → (∀ m ∈ ms, x ≤ m) → ∀ s ∈ sp ms, x ≤ s.w
  | [], x, h, hx, s, hs => by cases hs
  | [m], x, h, hx, s, hs => by
    have := hx m List.mem_cons_self
    simp [sp] at hs
    rcases hs with rfl | rfl
    · exact this
    · show x ≤ m + 1; grind
  | m :: m' :: r, x, h, hx, s, hs => by
    have h1 := hx m List.mem_cons_self
    have h2 := hx m' (by simp)
    simp only [sp, List.mem_cons] at hs
    rcases hs with rfl | rfl | hs
    · exact h1
    · show x ≤ (m + m') / 2; grind
    · exact sp_ge (List.pairwise_cons.mp h).2 (fun y hy => hx y (List.mem_cons_of_mem _ hy)) s hs
theorem sp_gt {ms : List Rat} {x m : Rat} (h : Up (m :: ms)) (hx : x ≤ m) : ∀ s ∈ sp ms, x < s.w := by
  cases ms with
  | nil => intro s hs; cases hs
  | cons m' r =>
    have h1 := (List.pairwise_cons.mp h).1 m' List.mem_cons_self
    intro s hs
    have := sp_ge (x := m') (List.pairwise_cons.mp h).2 (fun y hy => by
      rcases List.mem_cons.mp hy with rfl | hy
      · grind
      · have := (List.pairwise_cons.mp (List.pairwise_cons.mp h).2).1 y hy; grind) s hs
    grind
def good (I : Iv) (ms : List Rat) : List Sp := (sp ms).filter fun s => I.mem s.w
theorem good_one (I : Iv) (m : Rat) : good I [m] = (if I.mem m then [⟨m, m, true, none⟩] else []) ++ (if I.mem (m + 1) then [⟨m + 1, m, false, none⟩] else []) := by
  simp only [good, sp, List.filter_cons, List.filter_nil]
  cases I.mem m <;> cases I.mem (m + 1) <;> rfl
theorem good_cons (I : Iv) (m m' : Rat) (r : List Rat) : good I (m :: m' :: r) = (if I.mem m then [⟨m, m, true, some m'⟩] else []) ++ ((if I.mem ((m + m') / 2) then [⟨(m + m') / 2, m, false, some m'⟩] else []) ++ good I (m' :: r)) := by
  simp only [good, sp, List.filter_cons]
  cases I.mem m <;> cases I.mem ((m + m') / 2) <;> rfl
theorem mem_below {I : Iv} {w : Rat} (h : w < I.b) : I.mem w = false := by
  unfold Iv.mem Iv.lo
  have h1 : ¬ I.b < w := by grind
  have h2 : ¬ I.b = w := by grind
  simp [h1, h2]
theorem mem_above {I : Iv} {e w : Rat} (he : I.e = some e) (h : e < w) : I.mem w = false := by
  unfold Iv.mem Iv.up
  rw [he]
  have h1 : ¬ w < e := by grind
  have h2 : ¬ w = e := by grind
  simp [h1, h2]
theorem mem_in {I : Iv} {w : Rat} (h : I.b < w) (h' : ∀ e, I.e = some e → w < e) : I.mem w = true := by
  unfold Iv.mem Iv.lo Iv.up
  cases hE : I.e with
  | none => simp [h]
  | some e => simp [h, h' e hE]
theorem mem_end {I : Iv} {e : Rat} (he : I.e = some e) (h : I.b < e) : I.mem e = I.ec := by
  unfold Iv.mem Iv.lo Iv.up
  rw [he]
  have : ¬ e < e := by grind
  simp [h, this]
theorem mem_beg {I : Iv} (h : ∀ e, I.e = some e → I.b < e ∨ (I.b = e ∧ I.bc = true ∧ I.ec = true)) : I.mem I.b = I.bc := by
  unfold Iv.mem Iv.lo Iv.up
  have : ¬ I.b < I.b := by grind
  cases hE : I.e with
  | none => simp [this]
  | some e =>
    rcases h e hE with h | ⟨h, h1, h2⟩
    · simp [h, this]
    · simp [h, h1, h2]
theorem good_first {I : Iv} (hn : ∀ e, I.e = some e → I.b < e ∨ (I.b = e ∧ I.bc = true ∧ I.ec = true)) : ∀ {ms : List Rat}, Up ms → I.b ∈ ms → (∀ e, I.e = some e → e ∈ ms) → ∃ s r, good I ms = s :: r ∧ s.st = I.b ∧ s.m = I.bc
  | [], _, h, _ => by cases h
  | [m], hu, h, he => by
    have e : I.b = m := by simpa using h
    rw [good_one, ← e, mem_beg hn]
    cases hb : I.bc
    · have : I.mem (I.b + 1) = true := mem_in (by grind) fun x hx => by
        have := he x hx
        rcases hn x hx with h | ⟨_, h, _⟩
        · have : x = m := by simpa using this
          grind
        · rw [hb] at h; cases h
      rw [this]
      exact ⟨_, _, rfl, rfl, rfl⟩
    · exact ⟨_, _, rfl, rfl, rfl⟩
  | m :: m' :: r, hu, h, he => by
    rw [good_cons]
    obtain ⟨hu1, hu2⟩ := List.pairwise_cons.mp hu
    have hm := hu1 m' List.mem_cons_self
    by_cases e : I.b = m
    · rw [← e, mem_beg hn]
      cases hb : I.bc
      · have : I.mem ((I.b + m') / 2) = true := mem_in (by grind) fun x hx => by
          have h1 := he x hx
          rcases hn x hx with h | ⟨_, h, _⟩
          · rcases List.mem_cons.mp h1 with h1 | h1
            · grind
            · rcases List.mem_cons.mp h1 with h1 | h1
              · grind
              · have := (List.pairwise_cons.mp hu2).1 x h1; grind
          · rw [hb] at h; cases h
        rw [this]
        exact ⟨_, _, rfl, rfl, rfl⟩
      · exact ⟨_, _, rfl, rfl, rfl⟩
    · have hb : I.b ∈ m' :: r := (List.mem_cons.mp h).resolve_left e
      have h1 : m' ≤ I.b := by
        rcases List.mem_cons.mp hb with h1 | h1
        · grind
        · have := (List.pairwise_cons.mp hu2).1 _ h1; grind
      rw [mem_below (by grind : m < I.b), mem_below (by grind : (m + m') / 2 < I.b)]
      exact good_first hn hu2 hb fun x hx => (List.mem_cons.mp (he x hx)).resolve_left fun z => by
        rcases hn x hx with h | ⟨h, _⟩ <;> grind
def fin (s : Sp) : Option Rat × Bool := if s.m then (some s.st, true) else (s.nx, false)
theorem getLast?_app {α : Type} {a b : List α} {x : α} (h : b.getLast? = some x) : (a ++ b).getLast? = some x := by
  rw [List.getLast?_append, h]; rfl
theorem good_above {I : Iv} {e m : Rat} {ms : List Rat} (he : I.e = some e) (hu : Up (m :: ms)) (h : e ≤ m) : good I ms = [] := by
  unfold good
  rw [List.filter_eq_nil_iff]
  intro s hs
  rw [mem_above he (sp_gt hu h s hs)]
  simp
theorem good_last' {I : Iv} {e : Rat} (hE : I.e = some e) : ∀ {m : Rat} {ms : List Rat}, Up (m :: ms) → I.b < m → e ∈ m :: ms → (I.ec = false ∧ e = m ∧ good I (m :: ms) = []) ∨ (∃ s, (good I (m :: ms)).getLast? = some s ∧ fin s = (some e, I.ec))
  | m, [], hu, hb, he => by
    have h : e = m := by simpa using he
    subst h
    rw [good_one, mem_end hE hb, mem_above hE (by grind : e < e + 1)]
    cases hc : I.ec
    · exact .inl ⟨rfl, rfl, rfl⟩
    · exact .inr ⟨_, rfl, rfl⟩
  | m, m' :: r, hu, hb, he => by
    rw [good_cons]
    obtain ⟨hu1, hu2⟩ := List.pairwise_cons.mp hu
    have hm := hu1 m' List.mem_cons_self
    by_cases h : e = m
    · subst h
      rw [mem_end hE hb, mem_above hE (by grind : e < (e + m') / 2), good_above hE hu (by grind)]
      cases hc : I.ec
      · exact .inl ⟨rfl, rfl, rfl⟩
      · exact .inr ⟨_, rfl, rfl⟩
    · have he' := (List.mem_cons.mp he).resolve_left h
      have h1 : m' ≤ e := by
        rcases List.mem_cons.mp he' with h1 | h1
        · grind
        · have := (List.pairwise_cons.mp hu2).1 _ h1; grind
      rw [mem_in (by grind : I.b < (m + m') / 2) (fun x hx => by rw [hE] at hx; cases hx; grind)]
      right
      rcases good_last' hE hu2 (by grind) he' with ⟨hc, hh, hg⟩ | ⟨s, hs, hf⟩
      · rw [hg, hc, hh]
        exact ⟨_, getLast?_app rfl, rfl⟩
      · exact ⟨s, getLast?_app (getLast?_app hs), hf⟩
theorem good_last {I : Iv} {e : Rat} (hE : I.e = some e) (hn : I.b < e ∨ (I.b = e ∧ I.bc = true ∧ I.ec = true)) : ∀ {ms : List Rat}, Up ms → I.b ∈ ms → e ∈ ms → ∃ s, (good I ms).getLast? = some s ∧ fin s = (some e, I.ec)
  | [], _, h, _ => by cases h
  | [m], hu, h, he => by
    have h1 : I.b = m := by simpa using h
    have h2 : e = m := by simpa using he
    rcases hn with h | ⟨h, hb, hc⟩
    · grind
    · have := mem_beg (I := I) (fun x hx => by rw [hE] at hx; cases hx; exact .inr ⟨h, hb, hc⟩)
      rw [good_one, ← h1, this, hb, mem_above hE (by grind : e < I.b + 1), hc]
      exact ⟨_, rfl, by simp [fin, h]⟩
  | m :: m' :: r, hu, h, he => by
    rw [good_cons]
    obtain ⟨hu1, hu2⟩ := List.pairwise_cons.mp hu
    have hm := hu1 m' List.mem_cons_self
    by_cases e1 : I.b = m
    · by_cases e2 : e = m
      · rcases hn with h | ⟨h, hb, hc⟩
        · grind
        · have := mem_beg (I := I) (fun x hx => by rw [hE] at hx; cases hx; exact .inr ⟨h, hb, hc⟩)
          rw [← e1, this, hb, mem_above hE (by grind : e < (I.b + m') / 2), good_above hE hu (by grind), hc]
          exact ⟨_, rfl, by simp [fin, h]⟩
      · have he' := (List.mem_cons.mp he).resolve_left e2
        have h1 : m' ≤ e := by
          rcases List.mem_cons.mp he' with h1 | h1
          · grind
          · have := (List.pairwise_cons.mp hu2).1 _ h1; grind
        rw [mem_in (by grind : I.b < (m + m') / 2) (fun x hx => by rw [hE] at hx; cases hx; grind)]
        rcases good_last' hE hu2 (by grind) he' with ⟨hc, hh, hg⟩ | ⟨s, hs, hf⟩
        · rw [hg, hc, hh]
          exact ⟨_, getLast?_app rfl, rfl⟩
        · exact ⟨s, getLast?_app (getLast?_app hs), hf⟩
    · have hb : I.b ∈ m' :: r := (List.mem_cons.mp h).resolve_left e1
      have h1 : m' ≤ I.b := by
        rcases List.mem_cons.mp hb with h1 | h1
        · grind
        · have := (List.pairwise_cons.mp hu2).1 _ h1; grind
      obtain ⟨s, hs, hf⟩ := good_last hE hn hu2 hb ((List.mem_cons.mp he).resolve_left fun z => by rcases hn with h | ⟨h, _⟩ <;> grind)
      exact ⟨s, getLast?_app (getLast?_app hs), hf⟩
theorem good_last_open {I : Iv} (hE : I.e = none) : ∀ {ms : List Rat}, Up ms → I.b ∈ ms → ∃ s, (good I ms).getLast? = some s ∧ fin s = (none, false)
  | [], _, h => by cases h
  | [m], hu, h => by
    have h1 : I.b = m := by simpa using h
    rw [good_one, mem_in (by grind : I.b < m + 1) (fun e he => by rw [hE] at he; cases he)]
    exact ⟨_, getLast?_app rfl, rfl⟩
  | m :: m' :: r, hu, h => by
    rw [good_cons]
    obtain ⟨hu1, hu2⟩ := List.pairwise_cons.mp hu
    by_cases hb : I.b ∈ m' :: r
    · obtain ⟨s, hs, hf⟩ := good_last_open hE hu2 hb
      exact ⟨s, getLast?_app (getLast?_app hs), hf⟩
    · have e1 : I.b = m := (List.mem_cons.mp h).resolve_right hb
      have : ∀ {m : Rat} {ms : List Rat}, Up (m :: ms) → I.b < m → ∃ s, (good I (m :: ms)).getLast? = some s ∧ fin s = (none, false) := by
        intro m ms
        induction ms generalizing m with
        | nil =>
          intro _ hb
          rw [good_one, mem_in (by grind : I.b < m + 1) (fun e he => by rw [hE] at he; cases he)]
          exact ⟨_, getLast?_app rfl, rfl⟩
        | cons m' r ih =>
          intro hu hb
          have hm := (List.pairwise_cons.mp hu).1 m' List.mem_cons_self
          obtain ⟨s, hs, hf⟩ := ih (List.pairwise_cons.mp hu).2 (by grind)
          rw [good_cons]
          exact ⟨s, getLast?_app (getLast?_app hs), hf⟩
      obtain ⟨s, hs, hf⟩ := this hu2 (by have := hu1 m' List.mem_cons_self; grind)
      exact ⟨s, getLast?_app (getLast?_app hs), hf⟩
theorem spots_tell {I : Iv} {ms : List Rat} (hu : Up ms) (hb : I.b ∈ ms) (he : ∀ e, I.e = some e → 0 ≤ e → e ∈ ms) (h0 : 0 ≤ I.b) (hc : I.e = none → I.ec = false) :
    (I.no = true → good I ms = []) ∧ (I.no = false → ∃ s r t, good I ms = s :: r ∧ s.st = I.b ∧ s.m = I.bc ∧ (good I ms).getLast? = some t ∧ fin t = (I.e, I.ec)) := by
  refine ⟨fun h => ?_, fun h => ?_⟩
  · unfold good
    rw [List.filter_eq_nil_iff]
    intro s _
    rw [no_mem h]; simp
  · have hn := not_no h
    have he' : ∀ e, I.e = some e → e ∈ ms := fun e h => he e h (by rcases hn e h with h | ⟨h, _⟩ <;> grind)
    obtain ⟨s, r, h1, h2, h3⟩ := good_first hn hu hb he'
    cases hE : I.e with
    | none =>
      obtain ⟨t, h4, h5⟩ := good_last_open hE hu hb
      exact ⟨s, r, t, h1, h2, h3, h4, by rw [h5, hc hE]⟩
    | some e =>
      obtain ⟨t, h4, h5⟩ := good_last hE (hn e hE) hu hb (he' e hE)
      exact ⟨s, r, t, h1, h2, h3, h4, h5⟩
end K81
set_option Elab.async false
set_option linter.all false
set_option maxRecDepth 100000
set_option maxHeartbeats 4000000
namespace Ev
open PySem
inductive Wp {α : Type} (r : Rs α) (Q : α → Store → Prop) : Prop where
  | mk (a : α) (S : Store) (e : r = .ok a S) (q : Q a S)
theorem Wp.get {α : Type} {r : Rs α} {Q : α → Store → Prop} (h : Wp r Q) : ∃ a S, r = .ok a S ∧ Q a S := by
  obtain ⟨a, S, e, q⟩ := h
  exact ⟨a, S, e, q⟩
theorem Wp.of {α : Type} {r : Rs α} {Q : α → Store → Prop} {a : α} {S : Store} (e : r = .ok a S) (h : Q a S) : Wp r Q := ⟨a, S, e, h⟩
theorem Wp.mono {α : Type} {r : Rs α} {Q Q' : α → Store → Prop} (h : Wp r Q) (m : ∀ a S, Q a S → Q' a S) : Wp r Q' := by
  obtain ⟨a, S, e, q⟩ := h.get
  exact Wp.of e (m a S q)
theorem Wp.bind {α β : Type} {r : Rs α} {f : α → Store → Rs β} {Q : β → Store → Prop} (h : Wp r fun a S => Wp (f a S) Q) : Wp (r.bind f) Q := by
  obtain ⟨a, S, e, q⟩ := h.get
  obtain ⟨b, S', e', q'⟩ := q.get
  exact Wp.of (show r.bind f = .ok b S' by rw [e]; exact e') q'
@[simp] theorem bind_ok {α β : Type} (a : α) (S : Store) (f : α → Store → Rs β) : (Rs.ok a S).bind f = f a S := rfl
@[simp] theorem wp_ok {α : Type} (a : α) (S : Store) (Q : α → Store → Prop) : Wp (.ok a S) Q = Q a S := propext ⟨fun ⟨b, S', e, q⟩ => by cases e; exact q, fun q => ⟨a, S, rfl, q⟩⟩
@[simp] theorem ofO_some {α : Type} (a : α) (S : Store) : Rs.ofO (some a) S = .ok a S := rfl
mutual
def flat : D → Bool
  | .ref _ => false
  | .tup ds => flats ds
  | .rol ds => flats ds
  | _ => true
def flats : List D → Bool
  | [] => true
  | d :: ds => flat d && flats ds
end
mutual
theorem flat_below (m : Nat) : ∀ d : D, flat d = true → below m d = true
  | .ref _, h => by rw [flat] at h; cases h
  | .tup ds, h => by rw [flat] at h; rw [below]; exact flats_below m ds h
  | .rol ds, h => by rw [flat] at h; rw [below]; exact flats_below m ds h
  | .non, _ => by simp [below]
  | .bl _, _ => by simp [below]
  | .int _, _ => by simp [below]
  | .str _, _ => by simp [below]
  | .fn _, _ => by simp [below]
  | .cl _, _ => by simp [below]
theorem flats_below (m : Nat) : ∀ ds : List D, flats ds = true → belows m ds = true
  | [], _ => by rw [belows]
  | d :: ds, h => by
    rw [flats, Bool.and_eq_true] at h
    rw [belows, flat_below m d h.1, flats_below m ds h.2]; rfl
end
@[simp] theorem flat_non : flat .non = true := by unfold flat; rfl
@[simp] theorem flat_bl (b : Bool) : flat (.bl b) = true := by unfold flat; rfl
@[simp] theorem flat_int (b : Int) : flat (.int b) = true := by unfold flat; rfl
@[simp] theorem flat_str (b : Str) : flat (.str b) = true := by unfold flat; rfl
@[simp] theorem flat_tup (ds : List D) : flat (.tup ds) = flats ds := by rw [flat]
@[simp] theorem flats_nil : flats [] = true := by rw [flats]
@[simp] theorem flats_cons (d : D) (ds : List D) : flats (d :: ds) = (flat d && flats ds) := by rw [flats]
theorem flats_all : ∀ ds : List D, flats ds = ds.all flat
  | [] => by simp
  | d :: ds => by simp [flats_all ds]
theorem flats_map {α : Type} {f : α → D} (h : ∀ a, flat (f a) = true) (as : List α) : flats (as.map f) = true := by
  rw [flats_all, List.all_eq_true]
  intro d hd
  obtain ⟨a, _, rfl⟩ := List.mem_map.mp hd
  exact h a
theorem flats_mapM {α : Type} {f : α → D} {as : List α} (h : ∀ a ∈ as, flat (f a) = true) : flats (as.map f) = true := by
  rw [flats_all, List.all_eq_true]
  intro d hd
  obtain ⟨a, ha, rfl⟩ := List.mem_map.mp hd
  exact h a ha
def Nw (objs : List O) (S' : Store) : Prop := ∃ ex, S'.objs = objs ++ ex ∧ ∀ k ∈ S'.dirty, objs.length ≤ k ∧ k < S'.objs.length
theorem Nw.refl (objs : List O) : Nw objs ⟨objs, []⟩ := ⟨[], by simp, fun k h => by cases h⟩
theorem addAll_nil (l : List Nat) : addAll l [] = l := rfl
theorem Nw.leave {S S' : Store} (h : Nw S.objs S') {d : D} (hd : flat d = true) : leave S S' d = S := by
  obtain ⟨ex, h1, h2⟩ := h
  have hf : S'.dirty.filter (fun n => Nat.blt n S.objs.length) = [] := by
    rw [List.filter_eq_nil_iff]
    intro k hk
    have := (h2 k hk).1
    rw [Nat.blt_eq]; omega
  unfold Ev.leave
  split
  · rename_i e
    have hn : S'.dirty = [] := by
      rw [List.eq_nil_iff_forall_not_mem]
      intro k hk
      have := h2 k hk
      omega
    have : ex = [] := by
      rw [h1] at e
      simpa using e
    subst this
    rw [hn, addAll_nil, h1, List.append_nil]
  · show (if (below S.objs.length d && (S'.dirty.filter fun n => Nat.blt n S.objs.length).all fun n => match S'.objs[n]? with | some o => belowO S.objs.length o | none => true) = true then (⟨S'.objs.take S.objs.length, addAll S.dirty (S'.dirty.filter fun n => Nat.blt n S.objs.length)⟩ : Store) else ⟨S'.objs, addAll S.dirty (S'.dirty.filter fun n => Nat.blt n S.objs.length)⟩) = S
    rw [hf]
    simp only [List.all_nil, Bool.and_true, flat_below _ d hd, if_true, addAll_nil]
    rw [h1, List.take_left]
theorem Nw.alloc {objs : List O} {S : Store} (h : Nw objs S) (o : O) : Nw objs ⟨S.objs ++ [o], S.dirty⟩ := by
  obtain ⟨ex, h1, h2⟩ := h
  exact ⟨ex ++ [o], by rw [h1, List.append_assoc], fun k hk => by
    have := h2 k hk
    simp only [List.length_append, List.length_cons, List.length_nil]; omega⟩
theorem addD_in {k n : Nat} {l : List Nat} (h : k ∈ addD n l) : k = n ∨ k ∈ l := by
  unfold addD at h
  split at h
  · exact .inr h
  · exact List.mem_cons.mp h
theorem Nw.set {objs : List O} {S : Store} (h : Nw objs S) {n : Nat} (hn : objs.length ≤ n) (hl : n < S.objs.length) (o : O) : Nw objs (S.set n o) := by
  obtain ⟨ex, h1, h2⟩ := h
  refine ⟨ex.set (n - objs.length) o, ?_, fun k hk => ?_⟩
  · show S.objs.set n o = _
    rw [h1, List.set_append_right _ _ hn]
  · have e : (S.set n o).objs.length = S.objs.length := by show (S.objs.set n o).length = _; rw [List.length_set]
    rw [e]
    rcases addD_in hk with rfl | hk
    · exact ⟨hn, hl⟩
    · exact h2 k hk
theorem Nw.get {objs : List O} {S : Store} (h : Nw objs S) {n : Nat} {o : O} (hn : objs[n]? = some o) : S.objs[n]? = some o := by
  obtain ⟨ex, h1, h2⟩ := h
  rw [h1, List.getElem?_append_left (List.getElem?_eq_some_iff.mp hn).1]; exact hn
theorem Nw.len {objs : List O} {S : Store} (h : Nw objs S) : objs.length ≤ S.objs.length := by
  obtain ⟨ex, h1, _⟩ := h
  rw [h1]; simp
theorem run_pure {m n : Nat} {b : SF} {ds : List D} {S : Store} {d : D} (hl : ds.length = m) (hd : flat d = true) (h : Wp (b (initE n ds) ⟨S.objs, []⟩) fun f S' => f = .rt d ∧ Nw S.objs S') : runF m n b ds S = .ok d S := by
  obtain ⟨f, S', e, rfl, h'⟩ := h.get
  unfold runF
  rw [if_pos hl, e]
  show Rs.ok d (leave S S' d) = _
  rw [h'.leave hd]
theorem run_none {m n : Nat} {b : SF} {ds : List D} {S : Store} (hl : ds.length = m) (h : Wp (b (initE n ds) ⟨S.objs, []⟩) fun f S' => (∃ env, f = .nx env) ∧ Nw S.objs S') : runF m n b ds S = .ok .non S := by
  obtain ⟨f, S', e, ⟨env, rfl⟩, h'⟩ := h.get
  unfold runF
  rw [if_pos hl, e]
  show Rs.ok D.non (leave S S' .non) = _
  rw [h'.leave flat_non]
theorem run_val {m n : Nat} {b : SF} {ds : List D} {S : Store} {d : D} (hl : ds.length = m) (hd : flat d = true) (h : b (initE n ds) ⟨S.objs, []⟩ = .ok (.rt d) ⟨S.objs, []⟩) : runF m n b ds S = .ok d S :=
  run_pure hl hd (Wp.of h ⟨rfl, Nw.refl _⟩)
theorem run_nx {m n : Nat} {b : SF} {ds : List D} {S : Store} {env : Env} (hl : ds.length = m) (h : b (initE n ds) ⟨S.objs, []⟩ = .ok (.nx env) ⟨S.objs, []⟩) : runF m n b ds S = .ok .non S :=
  run_none hl (Wp.of h ⟨⟨env, rfl⟩, Nw.refl _⟩)
def PS (I : Store → Prop) : Src → List D → Prop
  | s, [] => ∀ S, I S → s.next S = some none
  | s, d :: ds => ∃ s', (∀ S, I S → s.next S = some (some (d, s'))) ∧ PS I s' ds
theorem PS.fix (I : Store → Prop) : ∀ ds : List D, PS I (.fix ds) ds
  | [] => fun S _ => rfl
  | d :: ds => ⟨.fix ds, fun S _ => rfl, PS.fix I ds⟩
def intsFrom (lo : Int) : Nat → List D
  | 0 => []
  | k + 1 => .int lo :: intsFrom (lo + 1) k
theorem PS.rng (I : Store → Prop) : ∀ (k : Nat) (lo : Int), PS I (.rng lo k) (intsFrom lo k)
  | 0, lo => fun S _ => rfl
  | k + 1, lo => ⟨.rng (lo + 1) k, fun S _ => rfl, PS.rng I k (lo + 1)⟩
def enumD (i : Nat) : List D → List D
  | [] => []
  | d :: ds => .tup [.int i, d] :: enumD (i + 1) ds
theorem PS.enum {I : Store → Prop} : ∀ {ds : List D} {a : Src} (i : Nat), PS I a ds → PS I (.enum i a) (enumD i ds)
  | [], a, i, h => fun S hS => by
    show (match a.next S with | some (some (x, a')) => some (some (D.tup [.int i, x], Src.enum (i + 1) a')) | some none => some none | none => none) = _
    rw [h S hS]
  | d :: ds, a, i, ⟨a', h, h'⟩ => ⟨.enum (i + 1) a', fun S hS => by
    show (match a.next S with | some (some (x, a')) => some (some (D.tup [.int i, x], Src.enum (i + 1) a')) | some none => some none | none => none) = _
    rw [h S hS], PS.enum (i + 1) h'⟩
def zipD : List D → List D → List D
  | a :: as, b :: bs => .tup [a, b] :: zipD as bs
  | _, _ => []
theorem PS.zip {I : Store → Prop} : ∀ {as bs : List D} {a b : Src}, PS I a as → PS I b bs → PS I (.zip a b) (zipD as bs)
  | [], [], a, b, h, h' => fun S hS => by
    simp only [Src.next]; rw [h S hS, h' S hS]
  | [], y :: bs, a, b, h, ⟨b', h', _⟩ => fun S hS => by
    simp only [Src.next]; rw [h S hS, h' S hS]
  | x :: as, [], a, b, ⟨a', h, _⟩, h' => fun S hS => by
    simp only [Src.next]; rw [h S hS, h' S hS]
  | x :: as, y :: bs, a, b, ⟨a', h, k⟩, ⟨b', h', k'⟩ => ⟨.zip a' b', fun S hS => by
    simp only [Src.next]; rw [h S hS, h' S hS], PS.zip k k'⟩
theorem PS.refAt {n : Nat} {xs : List D} : ∀ (ys zs : List D), xs = ys ++ zs → PS (fun S => S.objs[n]? = some (.lst xs)) (.ref n ys.length) zs
  | ys, [], e => fun S hS => by
    simp only [Src.next]; rw [hS]
    subst e; simp
  | ys, z :: zs, e => ⟨.ref n (ys.length + 1), fun S hS => by
    simp only [Src.next]; rw [hS]
    subst e; simp, by
    have := PS.refAt (n := n) (xs := xs) (ys ++ [z]) zs (by rw [e]; simp)
    simpa using this⟩
theorem PS.ref {n : Nat} (xs : List D) : PS (fun S => S.objs[n]? = some (.lst xs)) (.ref n 0) xs := PS.refAt [] xs rfl
theorem PS.weak {I J : Store → Prop} (w : ∀ S, J S → I S) : ∀ {ds : List D} {s : Src}, PS I s ds → PS J s ds
  | [], s, h => fun S hS => h S (w S hS)
  | d :: ds, s, ⟨s', h, k⟩ => ⟨s', fun S hS => h S (w S hS), PS.weak w k⟩
theorem lc_filt {g : GF} {t : TF} {e : EF} {env : Env} {S : Store} {I : Store → Prop} (f : D → Option D) (hI : I S) : ∀ (ds : List D) (n : Nat) (s : Src) (acc : List D), PS I s ds → ds.length < n →
    (∀ d ∈ ds, ∃ env1, g d env S = .ok env1 S ∧ ((f d = none ∧ t env1 S = .ok false S) ∨ (∃ y, f d = some y ∧ t env1 S = .ok true S ∧ e env1 S = .ok y S))) →
    lcGo g t e env n s S acc = .ok (acc.reverse ++ ds.filterMap f) S
  | [], n + 1, s, acc, h, _, _ => by
    rw [lcGo, h S hI]; simp
  | d :: ds, n + 1, s, acc, ⟨s', h, k⟩, hn, hd => by
    rw [lcGo, h S hI]
    obtain ⟨env1, h1, h2⟩ := hd d List.mem_cons_self
    have hn' : ds.length < n := by simp only [List.length_cons] at hn; omega
    have hd' := fun d' h' => hd d' (List.mem_cons_of_mem _ h')
    rcases h2 with ⟨h2, h3⟩ | ⟨y, h2, h3, h4⟩
    · simp only [h1, h3]
      rw [lc_filt f hI ds n s' acc k hn' hd']
      simp [h2]
    · simp only [h1, h3, h4]
      rw [lc_filt f hI ds n s' (y :: acc) k hn' hd']
      simp [h2]
theorem lc_map {g : GF} {t : TF} {e : EF} {env : Env} {S : Store} {I : Store → Prop} (f : D → D) (hI : I S) (ds : List D) (n : Nat) (s : Src) (h : PS I s ds) (hn : ds.length < n)
    (hd : ∀ d ∈ ds, ∃ env1, g d env S = .ok env1 S ∧ t env1 S = .ok true S ∧ e env1 S = .ok (f d) S) :
    lcGo g t e env n s S [] = .ok (ds.map f) S := by
  rw [lc_filt (fun d => some (f d)) hI ds n s [] h hn fun d h' => by
    obtain ⟨env1, h1, h2, h3⟩ := hd d h'
    exact ⟨env1, h1, .inr ⟨_, rfl, h2, h3⟩⟩]
  simp [List.filterMap_eq_map]
theorem lc_mapM {α : Type} {g : GF} {t : TF} {e : EF} {env : Env} {S : Store} (enc : α → D) (f : α → D) (xs : List α) (hn : xs.length < FU)
    (hd : ∀ x ∈ xs, ∃ env1, g (enc x) env S = .ok env1 S ∧ t env1 S = .ok true S ∧ e env1 S = .ok (f x) S) :
    lcGo g t e env FU (.fix (xs.map enc)) S [] = .ok (xs.map f) S := by
  have : ∀ (xs : List α) (n : Nat) (acc : List D), xs.length < n → (∀ x ∈ xs, ∃ env1, g (enc x) env S = .ok env1 S ∧ t env1 S = .ok true S ∧ e env1 S = .ok (f x) S) → lcGo g t e env n (.fix (xs.map enc)) S acc = .ok (acc.reverse ++ xs.map f) S := by
    intro xs
    induction xs with
    | nil => intro n acc hn _; cases n with
      | zero => simp at hn
      | succ n => rw [lcGo]; simp [Src.next]
    | cons x xs ih =>
      intro n acc hn hd
      cases n with
      | zero => simp at hn
      | succ n =>
        obtain ⟨env1, h1, h2, h3⟩ := hd x List.mem_cons_self
        rw [lcGo]
        simp only [List.map_cons, Src.next, h1, h2, h3]
        rw [ih n _ (by simp only [List.length_cons] at hn; omega) fun x' h' => hd x' (List.mem_cons_of_mem _ h')]
        simp
  simpa using this xs FU [] hn hd
theorem lc_inv {g : GF} {t : TF} {e : EF} {env : Env} {I : Store → Prop} {P : List D → List D → Store → Prop}
    (step : ∀ d r acc S, P (d :: r) acc S → I S ∧ ∃ env1, g d env S = .ok env1 S ∧ Wp (t env1 S) fun k S1 => if k = true then Wp (e env1 S1) fun y S2 => P r (y :: acc) S2 else P r acc S1) :
    ∀ (ds : List D) (n : Nat) (s : Src) (acc : List D) (S : Store), PS I s ds → ds.length < n → P ds acc S → (∀ acc S, P [] acc S → I S) → Wp (lcGo g t e env n s S acc) fun l S' => ∃ acc, l = acc.reverse ∧ P [] acc S'
  | [], n + 1, s, acc, S, h, _, p, hI => by
    rw [lcGo, h S (hI _ _ p)]
    exact Wp.of rfl ⟨acc, rfl, p⟩
  | d :: ds, n + 1, s, acc, S, ⟨s', h, k⟩, hn, p, hI => by
    obtain ⟨hS, env1, h1, h2⟩ := step d ds acc S p
    rw [lcGo, h S hS]
    have hn' : ds.length < n := by simp only [List.length_cons] at hn; omega
    obtain ⟨b, S1, e1, h3⟩ := h2.get
    simp only [h1, e1]
    cases b with
    | false => exact lc_inv step ds n s' acc S1 k hn' h3 hI
    | true =>
      obtain ⟨y, S2, e2, h4⟩ := Wp.get (show Wp (e env1 S1) fun y S2 => P ds (y :: acc) S2 from h3)
      simp only [e2]
      exact lc_inv step ds n s' (y :: acc) S2 k hn' h4 hI
theorem for_inv {g : GF} {b : SF} {I : Store → Prop} {P : List D → Env → Store → Prop} {Q : Fl → Store → Prop}
    (step : ∀ d r env S, P (d :: r) env S → I S ∧ ∃ env1 S1, g d env S = .ok env1 S1 ∧ Wp (b env1 S1) fun f S2 => match f with
      | .nx env2 => P r env2 S2
      | .ct env2 => P r env2 S2
      | .bk env2 => Q (.nx env2) S2
      | .rt d => Q (.rt d) S2)
    (fin : ∀ env S, P [] env S → I S ∧ Q (.nx env) S) :
    ∀ (ds : List D) (n : Nat) (s : Src) (env : Env) (S : Store), PS I s ds → ds.length < n → P ds env S → Wp (forGo g b n s env S) Q
  | [], n + 1, s, env, S, h, _, p => by
    obtain ⟨h1, h2⟩ := fin env S p
    rw [forGo, h S h1]
    exact Wp.of rfl h2
  | d :: ds, n + 1, s, env, S, ⟨s', h, k⟩, hn, p => by
    obtain ⟨hS, env1, S1, h1, h2⟩ := step d ds env S p
    rw [forGo, h S hS]
    simp only [h1]
    have hn' : ds.length < n := by simp only [List.length_cons] at hn; omega
    refine Wp.bind (h2.mono fun f S2 h3 => ?_)
    cases f with
    | nx env2 => exact for_inv step fin ds n s' env2 S2 k hn' h3
    | ct env2 => exact for_inv step fin ds n s' env2 S2 k hn' h3
    | bk env2 => exact Wp.of rfl h3
    | rt d => exact Wp.of rfl h3
theorem while_inv {t : TF} {b : SF} {P : Nat → Env → Store → Prop} {Q : Fl → Store → Prop}
    (step : ∀ k env S, P k env S → Wp (t env S) fun c S1 => if c = true then Wp (b env S1) fun f S2 => (match f with
      | .nx env2 => ∃ k', k' < k ∧ P k' env2 S2
      | .ct env2 => ∃ k', k' < k ∧ P k' env2 S2
      | .bk env2 => Q (.nx env2) S2
      | .rt d => Q (.rt d) S2) else Q (.nx env) S1) :
    ∀ (n k : Nat) (env : Env) (S : Store), k < n → P k env S → Wp (whileGo t b n env S) Q
  | 0, k, env, S, h, _ => by omega
  | n + 1, k, env, S, h, p => by
    rw [whileGo]
    refine Wp.bind ((step k env S p).mono fun c S1 h1 => ?_)
    cases c with
    | false => exact Wp.of rfl h1
    | true =>
      simp only [if_true] at h1 ⊢
      refine Wp.bind (h1.mono fun f S2 h2 => ?_)
      cases f with
      | nx env2 =>
        obtain ⟨k', hk, p'⟩ := h2
        exact while_inv step n k' env2 S2 (by omega) p'
      | ct env2 =>
        obtain ⟨k', hk, p'⟩ := h2
        exact while_inv step n k' env2 S2 (by omega) p'
      | bk env2 => exact Wp.of rfl h2
      | rt d => exact Wp.of rfl h2
end Ev
set_option Elab.async false
set_option linter.all false
set_option maxRecDepth 100000
set_option maxHeartbeats 4000000
namespace Ev
open PySem
def tm (q : Rat) : D := .tup [.int q.num, .int q.den]
theorem FU_eq : FU = 1000000 := by unfold FU; rfl
theorem flat_tm (q : Rat) : flat (tm q) = true := by simp [tm]
theorem tm_inj {q r : Rat} (h : tm q = tm r) : q = r := by
  unfold tm at h
  injection h with h
  injection h with h1 h2
  injection h1 with h1
  injection h2 with h2
  injection h2 with h2
  exact Rat.ext h1 (by omega)
theorem tm_mk (a : Int) (d : Nat) (hd : d ≠ 0) : tm (mkRat a d) = .tup [.int (a / (Nat.gcd a.natAbs d : Nat)), .int ((d : Int) / (Nat.gcd a.natAbs d : Nat))] := by
  unfold tm
  rw [← Rat.normalize_eq_mkRat hd, Rat.normalize_eq hd]
  simp
theorem add_mk (q r : Rat) : q + r = mkRat (q.num * r.den + r.num * q.den) (q.den * r.den) := by
  rw [Rat.add_def, Rat.normalize_eq_mkRat]
theorem sub_mk (q r : Rat) : q - r = mkRat (q.num * r.den - r.num * q.den) (q.den * r.den) := by
  rw [Rat.sub_def, Rat.normalize_eq_mkRat]
theorem half_mk (q r : Rat) : (q + r) / 2 = mkRat (q.num * r.den + r.num * q.den) (2 * q.den * r.den) := by
  rw [add_mk, Rat.mkRat_eq_div, Rat.mkRat_eq_div]
  have h1 : (q.den : Rat) ≠ 0 := by exact_mod_cast q.den_nz
  have h2 : (r.den : Rat) ≠ 0 := by exact_mod_cast r.den_nz
  push_cast
  grind
theorem nat_sub_mk (n : Nat) (q : Rat) : (n : Rat) - q = mkRat ((n : Int) * q.den - q.num) q.den := by
  rw [sub_mk]; simp
theorem lt_num (q : Rat) (n : Nat) : q < (n : Rat) ↔ q.num < n * q.den := by
  rw [Rat.lt_iff]; simp
theorem gt_num (q : Rat) (n : Nat) : (n : Rat) < q ↔ n * q.den < q.num := by
  rw [Rat.lt_iff]; simp
theorem num_mk_le (a : Int) (d : Nat) : (mkRat a d).num.natAbs ≤ a.natAbs := by
  rw [Rat.num_mkRat]
  split
  · simp
  · exact Int.natAbs_ediv_le_natAbs _ _
theorem den_mk_le (a : Int) (d : Nat) (hd : d ≠ 0) : (mkRat a d).den ≤ d := by
  rw [Rat.den_mkRat, if_neg hd]
  exact Nat.div_le_self _ _
def Sm (N D : Nat) (q : Rat) : Prop := q.num.natAbs ≤ N ∧ q.den ≤ D
theorem Sm.mono {N D N' D' : Nat} {q : Rat} (h : Sm N D q) (h1 : N ≤ N') (h2 : D ≤ D') : Sm N' D' q := ⟨Nat.le_trans h.1 h1, Nat.le_trans h.2 h2⟩
theorem Sm.mk {N D : Nat} {a : Int} {d : Nat} (hd : d ≠ 0) (h1 : a.natAbs ≤ N) (h2 : d ≤ D) : Sm N D (mkRat a d) := ⟨Nat.le_trans (num_mk_le a d) h1, Nat.le_trans (den_mk_le a d hd) h2⟩
theorem natAbs_mul_le {a b : Int} {A B : Nat} (h1 : a.natAbs ≤ A) (h2 : b.natAbs ≤ B) : (a * b).natAbs ≤ A * B := by
  rw [Int.natAbs_mul]; exact Nat.mul_le_mul h1 h2
theorem Sm.add {N D N' D' : Nat} {q r : Rat} (h : Sm N D q) (h' : Sm N' D' r) : Sm (N * D' + N' * D) (D * D') (q + r) := by
  rw [add_mk]
  refine Sm.mk (Nat.mul_ne_zero q.den_nz r.den_nz) ?_ (Nat.mul_le_mul h.2 h'.2)
  have h1 := natAbs_mul_le h.1 (b := (r.den : Int)) (B := D') (by simpa using h'.2)
  have h2 := natAbs_mul_le h'.1 (b := (q.den : Int)) (B := D) (by simpa using h.2)
  omega
theorem Sm.sub {N D N' D' : Nat} {q r : Rat} (h : Sm N D q) (h' : Sm N' D' r) : Sm (N * D' + N' * D) (D * D') (q - r) := by
  rw [sub_mk]
  refine Sm.mk (Nat.mul_ne_zero q.den_nz r.den_nz) ?_ (Nat.mul_le_mul h.2 h'.2)
  have h1 := natAbs_mul_le h.1 (b := (r.den : Int)) (B := D') (by simpa using h'.2)
  have h2 := natAbs_mul_le h'.1 (b := (q.den : Int)) (B := D) (by simpa using h.2)
  omega
theorem Sm.half {N D N' D' : Nat} {q r : Rat} (h : Sm N D q) (h' : Sm N' D' r) : Sm (N * D' + N' * D) (2 * D * D') ((q + r) / 2) := by
  rw [half_mk]
  refine Sm.mk (Nat.mul_ne_zero (Nat.mul_ne_zero (by decide) q.den_nz) r.den_nz) ?_ (Nat.mul_le_mul (Nat.mul_le_mul_left 2 h.2) h'.2)
  have h1 := natAbs_mul_le h.1 (b := (r.den : Int)) (B := D') (by simpa using h'.2)
  have h2 := natAbs_mul_le h'.1 (b := (q.den : Int)) (B := D) (by simpa using h.2)
  omega
theorem Sm.nat (n : Nat) : Sm n 1 (n : Rat) := ⟨by simp, by simp⟩
theorem divOk_s {j : Int} (h : 0 < j) (h' : j.natAbs < 2 ^ 64) : divOk j = true := by
  have h2 : j.natAbs < 2 ^ 9000 := Nat.lt_of_lt_of_le h' (Nat.pow_le_pow_right (by decide) (by decide))
  unfold divOk
  rw [decide_eq_true h, decide_eq_true h2]; rfl
theorem mulOk_l {i j : Int} (h : i.natAbs < 2 ^ 64) : mulOk i j = true := by
  unfold mulOk; rw [decide_eq_true h]; rfl
theorem mulOk_r {i j : Int} (h : j.natAbs < 2 ^ 64) : mulOk i j = true := by
  unfold mulOk; rw [decide_eq_true h, Bool.or_true]; rfl
end Ev
namespace Ev
open PySem
theorem at_nat (ds : List D) (c : Nat) : atD ds (c : Int) = ds[c]? := by
  unfold atD ixD
  rw [if_pos (Int.natCast_nonneg c)]
  by_cases h : c < ds.length
  · rw [if_pos (by omega)]; rfl
  · rw [if_neg (by omega)]
    exact (List.getElem?_eq_none (by omega)).symm
theorem at_0 (ds : List D) : atD ds 0 = ds[0]? := at_nat ds 0
theorem at_1 (ds : List D) : atD ds 1 = ds[1]? := at_nat ds 1
theorem at_2 (ds : List D) : atD ds 2 = ds[2]? := at_nat ds 2
theorem at_3 (ds : List D) : atD ds 3 = ds[3]? := at_nat ds 3
theorem at_4 (ds : List D) : atD ds 4 = ds[4]? := at_nat ds 4
theorem allC_map {α : Type} (f : α → Bool) : ∀ xs : List α, allC (xs.map fun x => .bl (f x)) = some (xs.all f)
  | [] => rfl
  | x :: xs => by simp [allC, allC_map f xs]
theorem fAll_map {α : Type} (f : α → Bool) (xs : List α) : fAll (xs.map fun x => .bl (f x)) = some (.bl (xs.all f)) := by
  unfold fAll; rw [allC_map]; rfl
theorem allC_yes {α : Type} (xs : List α) : allC (xs.map fun _ => .bl true) = some true := by
  rw [allC_map]; simp
theorem fAll_yes {α : Type} (xs : List α) : fAll (xs.map fun _ => .bl true) = some (.bl true) := by
  unfold fAll; rw [allC_yes]; rfl
theorem fTup_le {ds : List D} (h : ds.length ≤ 1000000) : fTup ds = some (.tup ds) := by
  unfold fTup sizeOk
  rw [if_pos (Nat.ble_eq.mpr h)]
theorem cut_from (ds : List D) (k : Nat) : cutD ds (some (k : Int)) none = ds.drop k := by
  have e : sIxD ds.length 0 (some (k : Int)) = min k ds.length := by
    show (if (k : Int) < 0 then ((k : Int) + (ds.length : Int)).toNat else min (k : Int).toNat ds.length) = _
    rw [if_neg (by omega)]; simp
  unfold cutD
  rw [e, show sIxD ds.length ds.length none = ds.length from rfl]
  by_cases h : k ≤ ds.length
  · rw [Nat.min_eq_left h]
    exact List.take_of_length_le (by simp)
  · rw [Nat.min_eq_right (by omega), List.drop_eq_nil_of_le (by omega), List.drop_eq_nil_of_le (by omega)]; simp
theorem cut_to (ds : List D) (k : Nat) : cutD ds none (some (k : Int)) = ds.take k := by
  have e : sIxD ds.length ds.length (some (k : Int)) = min k ds.length := by
    show (if (k : Int) < 0 then ((k : Int) + (ds.length : Int)).toNat else min (k : Int).toNat ds.length) = _
    rw [if_neg (by omega)]; simp
  unfold cutD
  rw [e, show sIxD ds.length 0 none = 0 from rfl, List.drop_zero, Nat.sub_zero]
  by_cases h : k ≤ ds.length
  · rw [Nat.min_eq_left h]
  · rw [Nat.min_eq_right (by omega), List.take_of_length_le (by omega), List.take_of_length_le (by omega)]
theorem lcL_src {vs : List Nat} {it : IF} {g : GF} {t : TF} {e : EF} {env : Env} {S S1 : Store} {src : Src} (h : it env S = .ok src S1) : lcL vs it g t e env S = lcGo g t e (wipeE env vs) FU src S1 [] := by
  unfold lcL
  rw [h]; rfl
theorem forS_src {it : IF} {g : GF} {b : SF} {env : Env} {S S1 : Store} {src : Src} (h : it env S = .ok src S1) : forS it g b env S = forGo g b FU src env S1 := by
  unfold forS
  rw [h]; rfl
theorem lcL_val {vs : List Nat} {e0 : EF} {g : GF} {t : TF} {e : EF} {env : Env} {S : Store} {ds : List D} (h : e0 env S = .ok (.tup ds) S) : lcL vs (valI e0) g t e env S = lcGo g t e (wipeE env vs) FU (.fix ds) S [] := by
  unfold lcL valI
  rw [h]; rfl
theorem forS_val {e0 : EF} {g : GF} {b : SF} {env : Env} {S : Store} {ds : List D} (h : e0 env S = .ok (.tup ds) S) : forS (valI e0) g b env S = forGo g b FU (.fix ds) env S := by
  unfold forS valI
  rw [h]; rfl
theorem getElem?_mapD {α : Type} (f : α → D) (d : α) (xs : List α) (c : Nat) (h : c < xs.length) : (xs.map f)[c]? = some (f (xs.getD c d)) := by
  rw [List.getElem?_map, List.getD_eq_getElem?_getD, List.getElem?_eq_getElem h]; rfl
@[simp] theorem flat_ref (n : Nat) : flat (.ref n) = false := by unfold flat; rfl
@[simp] theorem flat_rol (ds : List D) : flat (.rol ds) = flats ds := by rw [flat]
def ltP (a b : D) : Bool := ltD ⟨[], []⟩ a b == some true
def risD : List D → Bool
  | a :: b :: r => ltP a b && risD (b :: r)
  | _ => true
theorem pyAt_flat (S : Store) {d : D} (h : flat d = true) : pyAt S d = pyOf d := by
  cases d <;> first | rfl | (rw [flat] at h; cases h)
theorem ltD_flat (S : Store) {a b : D} (ha : flat a = true) (hb : flat b = true) : ltD S a b = ltD ⟨[], []⟩ a b := by
  cases a <;> cases b <;> first | rfl | (simp at hb; done) | (simp at ha; done)
theorem eqD_flat (S : Store) {a b : D} (ha : flat a = true) (hb : flat b = true) : eqD S a b = eqD ⟨[], []⟩ a b := by
  cases a <;> cases b <;> first | rfl | (simp at hb; done) | (simp at ha; done)
theorem risD_zip {S : Store} : ∀ {ds : List D}, flats ds = true → risD ds = true → ∀ d ∈ zipD ds (ds.drop 1), ∃ a b, d = .tup [a, b] ∧ ltD S a b = some true
  | [], _, _, d, h => by simp [zipD] at h
  | [a], _, _, d, h => by simp [zipD] at h
  | a :: b :: r, hf, hr, d, h => by
    rw [risD, Bool.and_eq_true] at hr
    rw [flats_cons, flats_cons, Bool.and_eq_true, Bool.and_eq_true] at hf
    simp only [List.drop_succ_cons, List.drop_zero, zipD, List.mem_cons] at h
    rcases h with rfl | h
    · exact ⟨a, b, rfl, by rw [ltD_flat S hf.1 hf.2.1]; exact eq_of_beq hr.1⟩
    · exact risD_zip (by rw [flats_cons, hf.2.1, hf.2.2]; rfl) hr.2 d (by simpa using h)
theorem zipD_len : ∀ as bs : List D, (zipD as bs).length ≤ as.length
  | [], bs => by unfold zipD; simp
  | a :: as, [] => by unfold zipD; simp
  | a :: as, b :: bs => by simp only [zipD, List.length_cons]; have := zipD_len as bs; omega
end Ev
set_option Elab.async false
set_option linter.all false
set_option maxRecDepth 100000
set_option maxHeartbeats 4000000
namespace Ev
open PySem
theorem lc_grow {g : GF} {t : TF} {e : EF} {env : Env} {I G : Store → Prop} (f : D → Option D) (hI : ∀ S, G S → I S) : ∀ (ds : List D) (n : Nat) (s : Src) (acc : List D) (S : Store), PS I s ds → ds.length < n → G S →
    (∀ d ∈ ds, ∀ S, G S → ∃ env1, g d env S = .ok env1 S ∧ Wp (t env1 S) fun k S1 => G S1 ∧ (k = true → Wp (e env1 S1) fun y S2 => G S2 ∧ f d = some y) ∧ (k = false → f d = none)) →
    Wp (lcGo g t e env n s S acc) fun l S' => l = acc.reverse ++ ds.filterMap f ∧ G S'
  | [], n + 1, s, acc, S, h, _, hG, _ => by
    rw [lcGo, h S (hI S hG)]
    exact Wp.of rfl ⟨by simp, hG⟩
  | d :: ds, n + 1, s, acc, S, ⟨s', h, k⟩, hn, hG, hd => by
    obtain ⟨env1, h1, h2⟩ := hd d List.mem_cons_self S hG
    have hn' : ds.length < n := by simp only [List.length_cons] at hn; omega
    have hd' := fun d' h' => hd d' (List.mem_cons_of_mem _ h')
    rw [lcGo, h S (hI S hG)]
    obtain ⟨b, S1, e1, hG1, ht, hf⟩ := h2.get
    simp only [h1, e1]
    cases b with
    | false =>
      refine (lc_grow f hI ds n s' acc S1 k hn' hG1 hd').mono fun l S' q => ?_
      rw [List.filterMap_cons, hf rfl]; exact q
    | true =>
      obtain ⟨y, S2, e2, hG2, hy⟩ := (ht rfl).get
      simp only [e2]
      refine (lc_grow f hI ds n s' (y :: acc) S2 k hn' hG2 hd').mono fun l S' q => ?_
      rw [List.filterMap_cons, hy]
      obtain ⟨q1, q2⟩ := q
      exact ⟨by rw [q1]; simp, q2⟩
theorem intsFrom_eq : ∀ (k i : Nat), intsFrom (i : Int) k = (List.range' i k).map fun j => .int (j : Int)
  | 0, i => rfl
  | k + 1, i => by
    show D.int i :: intsFrom ((i : Int) + 1) k = _
    rw [show ((i : Int) + 1) = ((i + 1 : Nat) : Int) by omega, intsFrom_eq k (i + 1)]
    rfl
theorem intsFrom_zero (k : Nat) : intsFrom 0 k = (List.range k).map fun j => .int (j : Int) := by
  have := intsFrom_eq k 0
  rw [List.range_eq_range']; exact this
theorem intsFrom_len : ∀ (k : Nat) (i : Int), (intsFrom i k).length = k
  | 0, _ => rfl
  | k + 1, i => by show (intsFrom (i + 1) k).length + 1 = _; rw [intsFrom_len k]
def enumM {α : Type} (f : Nat → α → D) (i : Nat) : List α → List D
  | [] => []
  | x :: xs => f i x :: enumM f (i + 1) xs
theorem lc_enum {α : Type} {g : GF} {t : TF} {e : EF} {env : Env} {S : Store} (enc : α → D) (f : Nat → α → D) : ∀ (xs : List α) (i n : Nat) (acc : List D), xs.length < n →
    (∀ (i : Nat) (x : α), x ∈ xs → ∃ env1, g (.tup [.int i, enc x]) env S = .ok env1 S ∧ t env1 S = .ok true S ∧ e env1 S = .ok (f i x) S) →
    lcGo g t e env n (.enum i (.fix (xs.map enc))) S acc = .ok (acc.reverse ++ enumM f i xs) S
  | [], i, n + 1, acc, _, _ => by rw [lcGo]; simp [Src.next, enumM]
  | x :: xs, i, n + 1, acc, hn, hd => by
    obtain ⟨env1, h1, h2, h3⟩ := hd i x List.mem_cons_self
    rw [lcGo]
    simp only [List.map_cons, Src.next, h1, h2, h3]
    rw [lc_enum enc f xs (i + 1) n _ (by simp only [List.length_cons] at hn; omega) fun j x' h' => hd j x' (List.mem_cons_of_mem _ h')]
    simp [enumM]
theorem memI_nat (i : Nat) : ∀ l : List Nat, memI (i : Int) (l.map fun (c : Nat) => D.int (c : Int)) = some (l.contains i)
  | [] => rfl
  | c :: l => by
    simp only [List.map_cons, memI, memI_nat i l, List.contains_cons]
    congr 2
    by_cases h : c = i
    · subst h; simp
    · have : ¬ (c : Int) = (i : Int) := by omega
      have h' : ¬ i = c := fun z => h z.symm
      simp [this, h']
theorem memD_nat (i : Nat) (l : List Nat) : memD (.int i) (l.map fun (c : Nat) => D.int (c : Int)) = some (l.contains i) := by
  show (match memI (i : Int) (l.map fun (c : Nat) => D.int (c : Int)) with | some b => some b | none => memPy (some (.int i)) (pyOfs (l.map fun (c : Nat) => D.int (c : Int)))) = _
  rw [memI_nat]
theorem rng_nat {e : EF} {env : Env} {S S1 : Store} {k : Nat} (h : e env S = .ok (.int k) S1) (hk : k < 1000000) : rngI1 e env S = .ok (.rng 0 k) S1 := by
  have h2 : (k : Int) < 2 ^ 62 := Int.lt_trans (Int.ofNat_lt.mpr hk) (by decide)
  have h1 : -(2 ^ 62) ≤ (k : Int) := Int.le_trans (by decide) (Int.natCast_nonneg k)
  unfold rngI1
  rw [h, bind_ok]
  generalize (2 : Int) ^ 62 = P at *
  simp only [h1, h2, decide_true, Bool.and_self, if_true, Int.toNat_natCast]
def onI (f : Nat → Option D) : D → Option D
  | .int e => f e.toNat
  | _ => none
theorem fm_ints (k : Nat) (f : Nat → Option D) : (intsFrom 0 k).filterMap (onI f) = (List.range k).filterMap f := by
  rw [intsFrom_zero, List.filterMap_map]
  congr 1
theorem fm_some {α : Type} (g : α → D) (l : List α) : l.filterMap (fun x => some (g x)) = l.map g := by
  induction l with
  | nil => rfl
  | cons x l ih => simp
theorem mem_ints {k : Nat} {d : D} (h : d ∈ intsFrom 0 k) : ∃ e : Nat, d = .int e ∧ e < k := by
  rw [intsFrom_zero] at h
  obtain ⟨e, he, rfl⟩ := List.mem_map.mp h
  exact ⟨e, rfl, List.mem_range.mp he⟩
theorem Wp.elim {α : Type} {r : Rs α} {Q : α → Store → Prop} {P : Prop} (h : Wp r Q) (k : ∀ a S, r = .ok a S → Q a S → P) : P := by
  obtain ⟨a, S, e, q⟩ := h.get
  exact k a S e q
end Ev
set_option Elab.async false
set_option linter.all false
set_option maxRecDepth 100000
set_option maxHeartbeats 4000000
namespace Ev
open PySem
theorem toks_ne {x y : PyData} (h : W.alike x y = true) (e : PyData.eqv x y = false) : W.keyToks x ≠ W.keyToks y := by
  intro k
  have h1 := (W.toks_eqv x y h).2 e [] [Sum.inl 0]
  rw [k, W.lex_pre] at h1
  have h2 : PyProof.Rows.lexLt PyProof.Rows.itemOrd (W.keyToks y) (W.keyToks y) = false := PyProof.Rows.lex_irrefl _
  rw [h2] at h1
  cases h1
theorem lt_or {x y : PyData} (h : W.alike x y = true) (e : PyData.eqv x y = false) (n : W.dataLt y x = false) : W.dataLt x y = true := by
  cases c : W.dataLt x y
  · exact absurd (PyProof.Rows.lex_total (O := PyProof.Rows.itemOrd) _ _ c n) (toks_ne h e)
  · rfl
section
variable {α : Type} (enc : α → D) (py : α → PyData)
theorem alikeTo_enc (x : PyData) (h1 : ∀ a, pyOf (enc a) = some (py a)) : ∀ xs : List α, (∀ a ∈ xs, W.alike x (py a) = true ∧ W.alike (py a) x = true ∧ (py a).depth ≤ 64) → alikeTo x (xs.map enc) = true
  | [], _ => rfl
  | a :: xs, h => by
    obtain ⟨p, q, r⟩ := h a List.mem_cons_self
    show ((match pyOf (enc a) with
      | some y => W.alike x y && W.alike y x && decide (y.depth ≤ 64)
      | none => false) && alikeTo x (xs.map enc)) = true
    rw [alikeTo_enc x h1 xs fun b hb => h b (List.mem_cons_of_mem _ hb), h1]
    simp only [p, q, decide_eq_true r, Bool.and_self]
theorem allAlike_enc (h1 : ∀ a, pyOf (enc a) = some (py a)) : ∀ xs : List α, (∀ a ∈ xs, ∀ b ∈ xs, W.alike (py a) (py b) = true) → (∀ a ∈ xs, (py a).depth ≤ 64) → allAlike (xs.map enc) = true
  | [], _, _ => rfl
  | a :: xs, h, hd => by
    show ((match pyOf (enc a) with
      | some y => W.alike y y && Nat.ble y.depth 64 && alikeTo y (xs.map enc)
      | none => false) && allAlike (xs.map enc)) = true
    rw [allAlike_enc h1 xs (fun b hb c hc => h b (List.mem_cons_of_mem _ hb) c (List.mem_cons_of_mem _ hc)) fun b hb => hd b (List.mem_cons_of_mem _ hb), h1]
    have e1 := h a List.mem_cons_self a List.mem_cons_self
    have e2 : Nat.ble (py a).depth 64 = true := Nat.ble_eq.mpr (hd a List.mem_cons_self)
    have e3 := alikeTo_enc enc py (py a) h1 xs fun b hb => ⟨h a List.mem_cons_self b (List.mem_cons_of_mem _ hb), h b (List.mem_cons_of_mem _ hb) a List.mem_cons_self, hd b (List.mem_cons_of_mem _ hb)⟩
    simp only [e1, e2, e3, Bool.and_self]
theorem ris_enc (h1 : ∀ a, pyOf (enc a) = some (py a)) (h2 : ∀ a, ∃ ds, enc a = .tup ds) : ∀ zs : List α, (∀ a ∈ zs, ∀ b ∈ zs, W.alike (py a) (py b) = true) → (∀ a ∈ zs, (py a).depth ≤ 64) → zs.Pairwise (fun a b => W.dataLt (py a) (py b) = true) → risD (zs.map enc) = true
  | [], _, _, _ => rfl
  | [a], _, _, _ => rfl
  | a :: b :: r, h, hd, hp => by
    obtain ⟨p1, p2⟩ := List.pairwise_cons.mp hp
    have ih := ris_enc h1 h2 (b :: r) (fun x hx y hy => h x (List.mem_cons_of_mem _ hx) y (List.mem_cons_of_mem _ hy)) (fun x hx => hd x (List.mem_cons_of_mem _ hx)) p2
    show (ltP (enc a) (enc b) && risD ((b :: r).map enc)) = true
    rw [ih, Bool.and_true]
    obtain ⟨da, ea⟩ := h2 a
    obtain ⟨db, eb⟩ := h2 b
    have e : ltD ⟨[], []⟩ (enc a) (enc b) = ordPy W.dataLt (pyOf (enc a)) (pyOf (enc b)) := by rw [ea, eb]; rfl
    have hna : ∃ xs, py a = .tuple xs := by
      have := h1 a
      rw [ea] at this
      have e2 : pyOf (.tup da) = (pyOfs da).map .tuple := by rw [pyOf]
      rw [e2] at this
      cases hda : pyOfs da with
      | none => rw [hda] at this; cases this
      | some xs => rw [hda] at this; exact ⟨xs, (Option.some.inj this).symm⟩
    obtain ⟨xs, hxs⟩ := hna
    have ha := h a List.mem_cons_self b (by simp)
    have hs : shallow (py a) (py b) = true := by
      unfold shallow
      rw [Nat.ble_eq]
      exact Nat.le_trans (Nat.min_le_left _ _) (hd a List.mem_cons_self)
    have hl := p1 b List.mem_cons_self
    unfold ltP
    rw [e, h1, h1]
    unfold ordPy
    rw [hxs] at ha hs hl ⊢
    simp only [ha, hs, hl, Bool.and_self, if_true]
    rfl
theorem sort_enc (h1 : ∀ a, pyOf (enc a) = some (py a)) (h2 : ∀ a, ∃ ds, enc a = .tup ds) (ht : ∀ a, isTupNe (py a) = true) (xs : List α) (ha : ∀ a ∈ xs, ∀ b ∈ xs, W.alike (py a) (py b) = true) (hdep : ∀ a ∈ xs, (py a).depth ≤ 64)
    (hd : xs.Pairwise fun a b => PyData.eqv (py a) (py b) = false ∧ PyData.eqv (py b) (py a) = false) (hl : xs.length ≤ 1000000) : ∃ zs : List α, sortC (xs.map enc) = some (zs.map enc) ∧ zs.Perm xs ∧ risD (zs.map enc) = true := by
  have hpd : ∀ a, pyD (enc a) = py a := fun a => by unfold pyD; rw [h1]
  have hperm := List.mergeSort_perm xs fun a b => W.dataLe false py a b
  refine ⟨xs.mergeSort fun a b => W.dataLe false py a b, ?_, hperm, ?_⟩
  · unfold sortC
    have e1 : sortOk (xs.map enc) = true := by
      unfold sortOk
      rw [allAlike_enc enc py h1 xs ha hdep]
      have : (xs.map enc).all (fun d => isTupNe (pyD d)) = true := by
        rw [List.all_eq_true]
        intro d hd
        obtain ⟨q, _, rfl⟩ := List.mem_map.mp hd
        rw [hpd]; exact ht q
      rw [this]; rfl
    have e2 : Ev.sizeOk (xs.map enc).length = true := by
      unfold Ev.sizeOk
      rw [Nat.ble_eq, List.length_map]; exact hl
    rw [e1, e2]
    simp only [Bool.and_self, if_true]
    congr 1
    refine (List.map_mergeSort (f := enc) fun a _ b _ => ?_).symm
    rw [W.dataLe_eq, W.dataLe_eq]
    show (!W.dataLt (py b) (py a)) = (!W.dataLt (pyD (enc b)) (pyD (enc a)))
    rw [hpd, hpd]
  · have tl := W.sortLe_total (PyProof.Rows.listOrd PyProof.Rows.itemOrd) false fun b => W.keyToks (py b)
    have hp : (xs.mergeSort fun a b => W.dataLe false py a b).Pairwise fun a b => W.dataLe false py a b = true := List.pairwise_mergeSort (fun a b c => tl.trans a b c) (fun a b => by rw [Bool.or_eq_true]; exact tl.total a b) xs
    have hm : ∀ a ∈ (xs.mergeSort fun a b => W.dataLe false py a b), a ∈ xs := fun a h => List.mem_mergeSort.mp h
    refine ris_enc enc py h1 h2 _ (fun a h b h' => ha a (hm a h) b (hm b h')) (fun a h => hdep a (hm a h)) ?_
    have hd' : (xs.mergeSort fun a b => W.dataLe false py a b).Pairwise fun a b => (PyData.eqv (py a) (py b) = false ∧ PyData.eqv (py b) (py a) = false) := hperm.symm.pairwise hd fun h => ⟨h.2, h.1⟩
    refine List.Pairwise.imp_of_mem (fun {a b} h h' q => ?_) (List.Pairwise.and hp hd')
    obtain ⟨q1, q2⟩ := q
    refine lt_or (ha a (hm a h) b (hm b h')) q2.1 ?_
    rw [W.dataLe_eq] at q1
    have q1 : (!W.dataLt (py b) (py a)) = true := q1
    rwa [Bool.not_eq_true'] at q1
end
abbrev cupO (a b : Nat) : O := .lst [.int a, .int b]
def NwC (c : Nat) (B : List O) (S : Store) : Prop := ∃ (a b : Nat) (ex : List O), S.objs = B.set c (cupO a b) ++ ex ∧ ∀ k ∈ S.dirty, (B.length ≤ k ∧ k < S.objs.length) ∨ k = c
def CuStep (c : Nat) (S S' : Store) : Prop := (∃ a b : Nat, S'.objs = S.objs.set c (cupO a b)) ∧ ∀ k ∈ S'.dirty, k ∈ S.dirty ∨ k = c
theorem NwC.refl {c : Nat} {B : List O} {a b : Nat} (h : B[c]? = some (cupO a b)) : NwC c B ⟨B, []⟩ := by
  refine ⟨a, b, [], ?_, fun k hk => by cases hk⟩
  obtain ⟨hc, e⟩ := List.getElem?_eq_some_iff.mp h
  rw [List.append_nil, ← e]
  exact (List.set_getElem_self hc).symm
theorem NwC.cup {c : Nat} {B : List O} {S : Store} (h : NwC c B S) (hc : c < B.length) : ∃ a b : Nat, S.objs[c]? = some (cupO a b) := by
  obtain ⟨a, b, ex, e, _⟩ := h
  refine ⟨a, b, ?_⟩
  rw [e, List.getElem?_append_left (by rw [List.length_set]; exact hc), List.getElem?_set_self hc]
theorem NwC.len {c : Nat} {B : List O} {S : Store} (h : NwC c B S) : B.length ≤ S.objs.length := by
  obtain ⟨a, b, ex, e, _⟩ := h
  rw [e, List.length_append, List.length_set]; omega
theorem NwC.alloc {c : Nat} {B : List O} {S : Store} (h : NwC c B S) (o : O) : NwC c B ⟨S.objs ++ [o], S.dirty⟩ := by
  obtain ⟨a, b, ex, e, d⟩ := h
  refine ⟨a, b, ex ++ [o], by rw [e, List.append_assoc], fun k hk => ?_⟩
  rcases d k hk with q | q
  · left; simp only [List.length_append, List.length_cons, List.length_nil]; omega
  · exact .inr q
theorem NwC.set {c : Nat} {B : List O} {S : Store} (h : NwC c B S) {n : Nat} (hn : B.length ≤ n) (hl : n < S.objs.length) (o : O) : NwC c B (S.set n o) := by
  obtain ⟨a, b, ex, e, d⟩ := h
  have el : (S.set n o).objs.length = S.objs.length := by show (S.objs.set n o).length = _; rw [List.length_set]
  refine ⟨a, b, ex.set (n - B.length) o, ?_, fun k hk => ?_⟩
  · show S.objs.set n o = _
    rw [e, List.set_append_right _ _ (by rw [List.length_set]; exact hn), List.length_set]
  · rw [el]
    rcases addD_in hk with rfl | hk
    · exact .inl ⟨hn, hl⟩
    · exact d k hk
theorem NwC.step {c : Nat} {B : List O} {S S' : Store} (h : NwC c B S) (hc : c < B.length) (s : CuStep c S S') : NwC c B S' := by
  obtain ⟨a, b, ex, e, d⟩ := h
  obtain ⟨⟨a', b', e'⟩, d'⟩ := s
  refine ⟨a', b', ex, ?_, fun k hk => ?_⟩
  · rw [e', e, List.set_append_left _ _ (by rw [List.length_set]; exact hc), List.set_set]
  · have : S'.objs.length = S.objs.length := by rw [e', List.length_set]
    rw [this]
    rcases d' k hk with q | q
    · exact d k q
    · exact .inr q
theorem CuStep.other {c n : Nat} {S S' : Store} (s : CuStep c S S') (h : n ≠ c) : S'.objs[n]? = S.objs[n]? := by
  obtain ⟨⟨a, b, e⟩, _⟩ := s
  rw [e, List.getElem?_set_ne (Ne.symm h)]
theorem CuStep.len {c : Nat} {S S' : Store} (s : CuStep c S S') : S'.objs.length = S.objs.length := by
  obtain ⟨⟨a, b, e⟩, _⟩ := s
  rw [e, List.length_set]
theorem CuStep.trans {c : Nat} {S S' S'' : Store} (s : CuStep c S S') (t : CuStep c S' S'') : CuStep c S S'' := by
  obtain ⟨⟨a, b, e⟩, d⟩ := s
  obtain ⟨⟨a', b', e'⟩, d'⟩ := t
  refine ⟨⟨a', b', by rw [e', e, List.set_set]⟩, fun k hk => ?_⟩
  rcases d' k hk with q | q
  · exact d k q
  · exact .inr q
theorem addAll_in {k : Nat} : ∀ {m l : List Nat}, k ∈ addAll l m → k ∈ l ∨ k ∈ m
  | [], l, h => .inl h
  | x :: m, l, h => by
    have h : k ∈ addD x (addAll l m) := h
    rcases addD_in h with rfl | h
    · exact .inr List.mem_cons_self
    · rcases addAll_in (m := m) h with h | h
      · exact .inl h
      · exact .inr (List.mem_cons_of_mem _ h)
theorem NwC.leave {c : Nat} {S S' : Store} (h : NwC c S.objs S') (hc : c < S.objs.length) {d : D} (hd : flat d = true) : CuStep c S (leave S S' d) := by
  obtain ⟨a, b, ex, e, dr⟩ := h
  unfold Ev.leave
  split
  · rename_i hl
    have : ex = [] := by
      rw [e, List.length_append, List.length_set] at hl
      exact List.eq_nil_of_length_eq_zero (by omega)
    subst this
    refine ⟨⟨a, b, by rw [e, List.append_nil]⟩, fun k hk => ?_⟩
    rcases addAll_in hk with h | h
    · exact .inl h
    · rcases dr k h with q | q
      · omega
      · exact .inr q
  · rename_i hl
    have hold : ∀ k ∈ S'.dirty.filter (fun n => Nat.blt n S.objs.length), k = c := fun k hk => by
      obtain ⟨h1, h2⟩ := List.mem_filter.mp hk
      rw [Nat.blt_eq] at h2
      rcases dr k h1 with q | q
      · omega
      · exact q
    have hc' : S'.objs[c]? = some (cupO a b) := by
      rw [e, List.getElem?_append_left (by rw [List.length_set]; exact hc), List.getElem?_set_self hc]
    have hall : ((S'.dirty.filter fun n => Nat.blt n S.objs.length).all fun n => match S'.objs[n]? with | some o => belowO S.objs.length o | none => true) = true := by
      rw [List.all_eq_true]
      intro k hk
      rw [hold k hk, hc']
      show belows S.objs.length [.int a, .int b] = true
      simp [belows, below]
    show CuStep c S (if (below S.objs.length d && (S'.dirty.filter fun n => Nat.blt n S.objs.length).all fun n => match S'.objs[n]? with | some o => belowO S.objs.length o | none => true) = true then (⟨S'.objs.take S.objs.length, addAll S.dirty (S'.dirty.filter fun n => Nat.blt n S.objs.length)⟩ : Store) else ⟨S'.objs, addAll S.dirty (S'.dirty.filter fun n => Nat.blt n S.objs.length)⟩)
    rw [flat_below _ d hd, hall]
    simp only [Bool.and_self, if_true]
    refine ⟨⟨a, b, ?_⟩, fun k hk => ?_⟩
    · show S'.objs.take S.objs.length = _
      rw [e]
      have : S.objs.length = (S.objs.set c (cupO a b)).length := by rw [List.length_set]
      rw [this, List.take_left]
    · rcases addAll_in hk with h | h
      · exact .inl h
      · exact .inr (hold k h)
theorem run_cup {m n c : Nat} {b : SF} {ds : List D} {S : Store} {P : D → Prop} (hl : ds.length = m) (hc : c < S.objs.length) (h : Wp (b (initE n ds) ⟨S.objs, []⟩) fun f S' => ∃ d, f = .rt d ∧ flat d = true ∧ P d ∧ NwC c S.objs S') : Wp (runF m n b ds S) fun d S' => P d ∧ CuStep c S S' := by
  refine Wp.elim h ?_
  rintro f S' e ⟨d, rfl, hf, hp, hN⟩
  refine Wp.of (a := d) (S := leave S S' d) ?_ ⟨hp, hN.leave hc hf⟩
  unfold runF
  rw [if_pos hl, e]
end Ev
set_option Elab.async false
set_option linter.all false
set_option maxRecDepth 100000
set_option maxHeartbeats 4000000
namespace K81
open PySem Ev
theorem is_integer_i (n : Nat) (i : Int) (S : Store) : ev (n + 1) j_is_integer [.int i] S = .ok (.bl true) S := by
  rw [u_is_integer]
  refine run_val rfl (by simp [initE, List.replicate, retS, retN, seqS, asgS, exprS, ifS, parS, skipS, setAll, varE, cstE, nilL, consL, tupE, mkL, un1, bin2, andE, orE, ifE, chainE, boolT, truthT, notT, andT, orT, yesT, callE, nameG, tupG, consG, nilG, itemsD, opNot, opAdd, opSub, opDiv, opMod, opNeg, opEq, opNe, opLt, opLe, opGt, opGe, opIsNot, opIs, isC, eqD, ltD, leD, truth, atD, ixD, opIx, fLen, coreE, coreL, opIsi, isTy, opAbs, opMax, opMin, opInt, opMul]) ?_
  simp [initE, List.replicate, retS, retN, seqS, asgS, exprS, ifS, parS, skipS, setAll, varE, cstE, nilL, consL, tupE, mkL, un1, bin2, andE, orE, ifE, chainE, boolT, truthT, notT, andT, orT, yesT, callE, nameG, tupG, consG, nilG, itemsD, opNot, opAdd, opSub, opDiv, opMod, opNeg, opEq, opNe, opLt, opLe, opGt, opGe, opIsNot, opIs, isC, eqD, ltD, leD, truth, atD, ixD, opIx, fLen, coreE, coreL, opIsi, isTy, opAbs, opMax, opMin, opInt, opMul, b_is_integer]
theorem is_whole_i (n : Nat) (v lo hi : Int) (S : Store) : ev (n + 2) j_is_whole [.int v, .int lo, .int hi] S = .ok (.bl (decide (lo ≤ v) && decide (v ≤ hi))) S := by
  rw [u_is_whole]
  refine run_val rfl (by simp [initE, List.replicate, retS, retN, seqS, asgS, exprS, ifS, parS, skipS, setAll, varE, cstE, nilL, consL, tupE, mkL, un1, bin2, andE, orE, ifE, chainE, boolT, truthT, notT, andT, orT, yesT, callE, nameG, tupG, consG, nilG, itemsD, opNot, opAdd, opSub, opDiv, opMod, opNeg, opEq, opNe, opLt, opLe, opGt, opGe, opIsNot, opIs, isC, eqD, ltD, leD, truth, atD, ixD, opIx, fLen, coreE, coreL, opIsi, isTy, opAbs, opMax, opMin, opInt, opMul]) ?_
  simp [initE, List.replicate, retS, retN, seqS, asgS, exprS, ifS, parS, skipS, setAll, varE, cstE, nilL, consL, tupE, mkL, un1, bin2, andE, orE, ifE, chainE, boolT, truthT, notT, andT, orT, yesT, callE, nameG, tupG, consG, nilG, itemsD, opNot, opAdd, opSub, opDiv, opMod, opNeg, opEq, opNe, opLt, opLe, opGt, opGe, opIsNot, opIs, isC, eqD, ltD, leD, truth, atD, ixD, opIx, fLen, coreE, coreL, opIsi, isTy, opAbs, opMax, opMin, opInt, opMul, b_is_whole, is_integer_i n]
  cases decide (lo ≤ v) <;> simp [initE, List.replicate, retS, retN, seqS, asgS, exprS, ifS, parS, skipS, setAll, varE, cstE, nilL, consL, tupE, mkL, un1, bin2, andE, orE, ifE, chainE, boolT, truthT, notT, andT, orT, yesT, callE, nameG, tupG, consG, nilG, itemsD, opNot, opAdd, opSub, opDiv, opMod, opNeg, opEq, opNe, opLt, opLe, opGt, opGe, opIsNot, opIs, isC, eqD, ltD, leD, truth, atD, ixD, opIx, fLen, coreE, coreL, opIsi, isTy, opAbs, opMax, opMin, opInt, opMul]
theorem is_tuple_t (n : Nat) (ds : List D) (lo hi : Int) (S : Store) : ev (n + 1) j_is_tuple_of [.tup ds, .int lo, .int hi] S = .ok (.bl (decide (lo ≤ ds.length) && decide ((ds.length : Int) ≤ hi))) S := by
  rw [u_is_tuple_of]
  refine run_val rfl (by simp [initE, List.replicate, retS, retN, seqS, asgS, exprS, ifS, parS, skipS, setAll, varE, cstE, nilL, consL, tupE, mkL, un1, bin2, andE, orE, ifE, chainE, boolT, truthT, notT, andT, orT, yesT, callE, nameG, tupG, consG, nilG, itemsD, opNot, opAdd, opSub, opDiv, opMod, opNeg, opEq, opNe, opLt, opLe, opGt, opGe, opIsNot, opIs, isC, eqD, ltD, leD, truth, atD, ixD, opIx, fLen, coreE, coreL, opIsi, isTy, opAbs, opMax, opMin, opInt, opMul]) ?_
  simp [initE, List.replicate, retS, retN, seqS, asgS, exprS, ifS, parS, skipS, setAll, varE, cstE, nilL, consL, tupE, mkL, un1, bin2, andE, orE, ifE, chainE, boolT, truthT, notT, andT, orT, yesT, callE, nameG, tupG, consG, nilG, itemsD, opNot, opAdd, opSub, opDiv, opMod, opNeg, opEq, opNe, opLt, opLe, opGt, opGe, opIsNot, opIs, isC, eqD, ltD, leD, truth, atD, ixD, opIx, fLen, coreE, coreL, opIsi, isTy, opAbs, opMax, opMin, opInt, opMul, b_is_tuple_of]
  cases decide (lo ≤ (ds.length : Int)) <;> simp [initE, List.replicate, retS, retN, seqS, asgS, exprS, ifS, parS, skipS, setAll, varE, cstE, nilL, consL, tupE, mkL, un1, bin2, andE, orE, ifE, chainE, boolT, truthT, notT, andT, orT, yesT, callE, nameG, tupG, consG, nilG, itemsD, opNot, opAdd, opSub, opDiv, opMod, opNeg, opEq, opNe, opLt, opLe, opGt, opGe, opIsNot, opIs, isC, eqD, ltD, leD, truth, atD, ixD, opIx, fLen, coreE, coreL, opIsi, isTy, opAbs, opMax, opMin, opInt, opMul]
theorem is_rising_t (n : Nat) (ds : List D) (S : Store) (hf : flats ds = true) (hr : risD ds = true) (hl : ds.length < 1000000) : ev (n + 1) j_is_rising [.tup ds] S = .ok (.bl true) S := by
  rw [u_is_rising]
  refine run_val rfl (by simp [initE, List.replicate, retS, retN, seqS, asgS, exprS, ifS, parS, skipS, setAll, varE, cstE, nilL, consL, tupE, mkL, un1, bin2, andE, orE, ifE, chainE, boolT, truthT, notT, andT, orT, yesT, callE, nameG, tupG, consG, nilG, itemsD, opNot, opAdd, opSub, opDiv, opMod, opNeg, opEq, opNe, opLt, opLe, opGt, opGe, opIsNot, opIs, isC, eqD, ltD, leD, truth, atD, ixD, opIx, fLen, coreE, coreL, opIsi, isTy, opAbs, opMax, opMin, opInt, opMul]) ?_
  have hc : cutD ds (some 1) none = ds.drop 1 := cut_from ds 1
  have hz : lc_is_rising_1 (ev n) [some (.tup ds), none, none] ⟨S.objs, []⟩ = .ok ((zipD ds (ds.drop 1)).map fun _ => .bl true) ⟨S.objs, []⟩ := by
    unfold lc_is_rising_1
    have e : zipI (varE 0) (sliceE (varE 0) (someP (cstE (.int (1)))) noP) [some (.tup ds), none, none] ⟨S.objs, []⟩ = .ok (.zip (.fix ds) (.fix (ds.drop 1))) ⟨S.objs, []⟩ := by
      simp [initE, List.replicate, retS, retN, seqS, asgS, exprS, ifS, parS, skipS, setAll, varE, cstE, nilL, consL, tupE, mkL, un1, bin2, andE, orE, ifE, chainE, boolT, truthT, notT, andT, orT, yesT, callE, nameG, tupG, consG, nilG, itemsD, opNot, opAdd, opSub, opDiv, opMod, opNeg, opEq, opNe, opLt, opLe, opGt, opGe, opIsNot, opIs, isC, eqD, ltD, leD, truth, atD, ixD, opIx, fLen, coreE, coreL, opIsi, isTy, opAbs, opMax, opMin, opInt, opMul, zipI, sliceE, someP, noP, hc, srcOf, isTupD]
    rw [lcL_src e]
    refine lc_map (I := fun _ => True) (fun _ => .bl true) trivial _ _ _ (PS.zip (PS.fix _ _) (PS.fix _ _)) ?_ fun d hd => ?_
    · have := zipD_len ds (ds.drop 1)
      rw [FU_eq]; omega
    · obtain ⟨a, b, rfl, hlt⟩ := risD_zip (S := ⟨S.objs, []⟩) hf hr d hd
      refine ⟨[some (.tup ds), some a, some b], by simp [initE, List.replicate, retS, retN, seqS, asgS, exprS, ifS, parS, skipS, setAll, varE, cstE, nilL, consL, tupE, mkL, un1, bin2, andE, orE, ifE, chainE, boolT, truthT, notT, andT, orT, yesT, callE, nameG, tupG, consG, nilG, itemsD, opNot, opAdd, opSub, opDiv, opMod, opNeg, opEq, opNe, opLt, opLe, opGt, opGe, opIsNot, opIs, isC, eqD, ltD, leD, truth, atD, ixD, opIx, fLen, coreE, coreL, opIsi, isTy, opAbs, opMax, opMin, opInt, opMul, wipeE], by simp [initE, List.replicate, retS, retN, seqS, asgS, exprS, ifS, parS, skipS, setAll, varE, cstE, nilL, consL, tupE, mkL, un1, bin2, andE, orE, ifE, chainE, boolT, truthT, notT, andT, orT, yesT, callE, nameG, tupG, consG, nilG, itemsD, opNot, opAdd, opSub, opDiv, opMod, opNeg, opEq, opNe, opLt, opLe, opGt, opGe, opIsNot, opIs, isC, eqD, ltD, leD, truth, atD, ixD, opIx, fLen, coreE, coreL, opIsi, isTy, opAbs, opMax, opMin, opInt, opMul], ?_⟩
      unfold bin2 opLt varE
      simp only [List.getElem?_cons_succ, List.getElem?_cons_zero, bind_ok, hlt]
  simp [initE, List.replicate, retS, retN, seqS, asgS, exprS, ifS, parS, skipS, setAll, varE, cstE, nilL, consL, tupE, mkL, un1, bin2, andE, orE, ifE, chainE, boolT, truthT, notT, andT, orT, yesT, callE, nameG, tupG, consG, nilG, itemsD, opNot, opAdd, opSub, opDiv, opMod, opNeg, opEq, opNe, opLt, opLe, opGt, opGe, opIsNot, opIs, isC, eqD, ltD, leD, truth, atD, ixD, opIx, fLen, coreE, coreL, opIsi, isTy, opAbs, opMax, opMin, opInt, opMul, b_is_rising, hz, fAll_yes]
theorem div_loop (n : Nat) (S : Store) (a b : Nat) (hb : b < 1000000) : wh_divisor_of_1 (ev n) [some (.int a), some (.int b)] S = .ok (.nx [some (.int (Nat.gcd a b)), some (.int 0)]) S := by
  have : Wp (wh_divisor_of_1 (ev n) [some (.int a), some (.int b)] S) fun f S'' => f = .nx [some (.int (Nat.gcd a b)), some (.int 0)] ∧ S'' = S := by
    unfold wh_divisor_of_1 whileS
    refine while_inv (P := fun k env S' => ∃ c : Nat, env = [some (.int c), some (.int k)] ∧ S' = S ∧ Nat.gcd c k = Nat.gcd a b) ?_ FU b _ S (by rw [FU_eq]; exact hb) ⟨a, rfl, rfl, rfl⟩
    rintro k env S' ⟨c, rfl, rfl, hg⟩
    by_cases h : k = 0
    · subst h
      have : Nat.gcd a b = c := by simpa using hg.symm
      subst this
      simp [initE, List.replicate, retS, retN, seqS, asgS, exprS, ifS, parS, skipS, setAll, varE, cstE, nilL, consL, tupE, mkL, un1, bin2, andE, orE, ifE, chainE, boolT, truthT, notT, andT, orT, yesT, callE, nameG, tupG, consG, nilG, itemsD, opNot, opAdd, opSub, opDiv, opMod, opNeg, opEq, opNe, opLt, opLe, opGt, opGe, opIsNot, opIs, isC, eqD, ltD, leD, truth, atD, ixD, opIx, fLen, coreE, coreL, opIsi, isTy, opAbs, opMax, opMin, opInt, opMul]
    · have h' : 0 < k := by omega
      simp [initE, List.replicate, retS, retN, seqS, asgS, exprS, ifS, parS, skipS, setAll, varE, cstE, nilL, consL, tupE, mkL, un1, bin2, andE, orE, ifE, chainE, boolT, truthT, notT, andT, orT, yesT, callE, nameG, tupG, consG, nilG, itemsD, opNot, opAdd, opSub, opDiv, opMod, opNeg, opEq, opNe, opLt, opLe, opGt, opGe, opIsNot, opIs, isC, eqD, ltD, leD, truth, atD, ixD, opIx, fLen, coreE, coreL, opIsi, isTy, opAbs, opMax, opMin, opInt, opMul, h, h', wb_divisor_of_1]
      refine ⟨c % k, Nat.mod_lt _ (by omega), k, ⟨rfl, by simp [initE, List.replicate, retS, retN, seqS, asgS, exprS, ifS, parS, skipS, setAll, varE, cstE, nilL, consL, tupE, mkL, un1, bin2, andE, orE, ifE, chainE, boolT, truthT, notT, andT, orT, yesT, callE, nameG, tupG, consG, nilG, itemsD, opNot, opAdd, opSub, opDiv, opMod, opNeg, opEq, opNe, opLt, opLe, opGt, opGe, opIsNot, opIs, isC, eqD, ltD, leD, truth, atD, ixD, opIx, fLen, coreE, coreL, opIsi, isTy, opAbs, opMax, opMin, opInt, opMul]⟩, ?_⟩
      rw [← hg, Nat.gcd_comm c k, Nat.gcd_rec k c, Nat.gcd_comm]
  obtain ⟨f, S', e, rfl, rfl⟩ := this.get
  exact e
theorem divisor_of_n (n : Nat) (a b : Nat) (S : Store) (hb : b < 1000000) : ev (n + 1) j_divisor_of [.int a, .int b] S = .ok (.int (Nat.gcd a b)) S := by
  rw [u_divisor_of]
  refine run_val rfl (by simp [initE, List.replicate, retS, retN, seqS, asgS, exprS, ifS, parS, skipS, setAll, varE, cstE, nilL, consL, tupE, mkL, un1, bin2, andE, orE, ifE, chainE, boolT, truthT, notT, andT, orT, yesT, callE, nameG, tupG, consG, nilG, itemsD, opNot, opAdd, opSub, opDiv, opMod, opNeg, opEq, opNe, opLt, opLe, opGt, opGe, opIsNot, opIs, isC, eqD, ltD, leD, truth, atD, ixD, opIx, fLen, coreE, coreL, opIsi, isTy, opAbs, opMax, opMin, opInt, opMul]) ?_
  simp [initE, List.replicate, retS, retN, seqS, asgS, exprS, ifS, parS, skipS, setAll, varE, cstE, nilL, consL, tupE, mkL, un1, bin2, andE, orE, ifE, chainE, boolT, truthT, notT, andT, orT, yesT, callE, nameG, tupG, consG, nilG, itemsD, opNot, opAdd, opSub, opDiv, opMod, opNeg, opEq, opNe, opLt, opLe, opGt, opGe, opIsNot, opIs, isC, eqD, ltD, leD, truth, atD, ixD, opIx, fLen, coreE, coreL, opIsi, isTy, opAbs, opMax, opMin, opInt, opMul, b_divisor_of, div_loop n _ a b hb]
theorem lowest_mk (n : Nat) (a : Int) (d : Nat) (S : Store) (hd : 0 < d) (hb : d < 1000000) : ev (n + 2) j_lowest [.int a, .int d] S = .ok (tm (mkRat a d)) S := by
  rw [u_lowest]
  refine run_val rfl (flat_tm _) ?_
  have h1 : (if a < 0 then -a else a) = (a.natAbs : Int) := by split <;> omega
  have hg : 0 < Nat.gcd a.natAbs d := Nat.gcd_pos_of_pos_right _ hd
  have hg' : divOk (Nat.gcd a.natAbs d : Nat) = true := divOk_s (by omega) (by
    have h2 : Nat.gcd a.natAbs d ≤ d := Nat.gcd_le_right _ hd
    rw [Int.natAbs_natCast]; omega)
  rw [tm_mk a d (by omega)]
  simp [initE, List.replicate, retS, retN, seqS, asgS, exprS, ifS, parS, skipS, setAll, varE, cstE, nilL, consL, tupE, mkL, un1, bin2, andE, orE, ifE, chainE, boolT, truthT, notT, andT, orT, yesT, callE, nameG, tupG, consG, nilG, itemsD, opNot, opAdd, opSub, opDiv, opMod, opNeg, opEq, opNe, opLt, opLe, opGt, opGe, opIsNot, opIs, isC, eqD, ltD, leD, truth, atD, ixD, opIx, fLen, coreE, coreL, opIsi, isTy, opAbs, opMax, opMin, opInt, opMul, b_lowest, h1, divisor_of_n n _ _ _ hb, hg']
theorem side_of_t (n : Nat) (q : Rat) (m : Nat) (S : Store) (hm : m < 2 ^ 64) : ev (n + 1) j_side_of [tm q, .int m] S = .ok (.int (q.num - m * q.den)) S := by
  rw [u_side_of]
  refine run_val rfl (by simp [initE, List.replicate, retS, retN, seqS, asgS, exprS, ifS, parS, skipS, setAll, varE, cstE, nilL, consL, tupE, mkL, un1, bin2, andE, orE, ifE, chainE, boolT, truthT, notT, andT, orT, yesT, callE, nameG, tupG, consG, nilG, itemsD, opNot, opAdd, opSub, opDiv, opMod, opNeg, opEq, opNe, opLt, opLe, opGt, opGe, opIsNot, opIs, isC, eqD, ltD, leD, truth, atD, ixD, opIx, fLen, coreE, coreL, opIsi, isTy, opAbs, opMax, opMin, opInt, opMul]) ?_
  have := mulOk_l (i := (m : Int)) (j := (q.den : Int)) (by rw [Int.natAbs_natCast]; exact hm)
  simp [initE, List.replicate, retS, retN, seqS, asgS, exprS, ifS, parS, skipS, setAll, varE, cstE, nilL, consL, tupE, mkL, un1, bin2, andE, orE, ifE, chainE, boolT, truthT, notT, andT, orT, yesT, callE, nameG, tupG, consG, nilG, itemsD, opNot, opAdd, opSub, opDiv, opMod, opNeg, opEq, opNe, opLt, opLe, opGt, opGe, opIsNot, opIs, isC, eqD, ltD, leD, truth, atD, ixD, opIx, fLen, coreE, coreL, opIsi, isTy, opAbs, opMax, opMin, opInt, opMul, b_side_of, tm, this]
def ok64 (q : Rat) : Prop := Sm (2 ^ 40) 900 q
theorem ok64.m1 {q r : Rat} (h : ok64 q) (h' : ok64 r) : mulOk q.num r.den = true := mulOk_l (Nat.lt_of_le_of_lt h.1 (by decide))
theorem ok64.m2 {q r : Rat} (h : ok64 q) (h' : ok64 r) : mulOk (q.den : Int) r.den = true := mulOk_l (by
  rw [Int.natAbs_natCast]; exact Nat.lt_of_le_of_lt h.2 (by decide))
theorem ok64.dd {q r : Rat} (h : ok64 q) (h' : ok64 r) : q.den * r.den < 1000000 := Nat.lt_of_le_of_lt (Nat.mul_le_mul h.2 h'.2) (by decide)
theorem is_under_t (n : Nat) (q r : Rat) (S : Store) (hq : ok64 q) (hr : ok64 r) : ev (n + 1) j_is_under [tm q, tm r] S = .ok (.bl (decide (q < r))) S := by
  rw [u_is_under]
  refine run_val rfl (by simp [initE, List.replicate, retS, retN, seqS, asgS, exprS, ifS, parS, skipS, setAll, varE, cstE, nilL, consL, tupE, mkL, un1, bin2, andE, orE, ifE, chainE, boolT, truthT, notT, andT, orT, yesT, callE, nameG, tupG, consG, nilG, itemsD, opNot, opAdd, opSub, opDiv, opMod, opNeg, opEq, opNe, opLt, opLe, opGt, opGe, opIsNot, opIs, isC, eqD, ltD, leD, truth, atD, ixD, opIx, fLen, coreE, coreL, opIsi, isTy, opAbs, opMax, opMin, opInt, opMul]) ?_
  have h1 := hq.m1 hr
  have h2 := hr.m1 hq
  simp [initE, List.replicate, retS, retN, seqS, asgS, exprS, ifS, parS, skipS, setAll, varE, cstE, nilL, consL, tupE, mkL, un1, bin2, andE, orE, ifE, chainE, boolT, truthT, notT, andT, orT, yesT, callE, nameG, tupG, consG, nilG, itemsD, opNot, opAdd, opSub, opDiv, opMod, opNeg, opEq, opNe, opLt, opLe, opGt, opGe, opIsNot, opIs, isC, eqD, ltD, leD, truth, atD, ixD, opIx, fLen, coreE, coreL, opIsi, isTy, opAbs, opMax, opMin, opInt, opMul, b_is_under, tm, h1, h2, Rat.lt_iff]
theorem put_together_t (n : Nat) (q r : Rat) (S : Store) (hq : ok64 q) (hr : ok64 r) : ev (n + 3) j_put_together [tm q, tm r] S = .ok (tm (q + r)) S := by
  rw [u_put_together]
  refine run_val rfl (flat_tm _) ?_
  have h1 := hq.m1 hr
  have h2 := hr.m1 hq
  have h3 := hq.m2 hr
  have h4 := lowest_mk n (q.num * r.den + r.num * q.den) (q.den * r.den) ⟨S.objs, []⟩ (Nat.mul_pos q.den_pos r.den_pos) (hq.dd hr)
  rw [add_mk]
  rw [Int.natCast_mul] at h4
  have e : initE 2 [tm q, tm r] = [some (.tup [.int q.num, .int q.den]), some (.tup [.int r.num, .int r.den])] := rfl
  rw [e]
  simp [initE, List.replicate, retS, retN, seqS, asgS, exprS, ifS, parS, skipS, setAll, varE, cstE, nilL, consL, tupE, mkL, un1, bin2, andE, orE, ifE, chainE, boolT, truthT, notT, andT, orT, yesT, callE, nameG, tupG, consG, nilG, itemsD, opNot, opAdd, opSub, opDiv, opMod, opNeg, opEq, opNe, opLt, opLe, opGt, opGe, opIsNot, opIs, isC, eqD, ltD, leD, truth, atD, ixD, opIx, fLen, coreE, coreL, opIsi, isTy, opAbs, opMax, opMin, opInt, opMul, b_put_together, h1, h2, h3, h4]
theorem difference_t (n : Nat) (q r : Rat) (S : Store) (hq : ok64 q) (hr : ok64 r) : ev (n + 3) j_difference [tm q, tm r] S = .ok (tm (q - r)) S := by
  rw [u_difference]
  refine run_val rfl (flat_tm _) ?_
  have h1 := hq.m1 hr
  have h2 := hr.m1 hq
  have h3 := hq.m2 hr
  have h4 := lowest_mk n (q.num * r.den - r.num * q.den) (q.den * r.den) ⟨S.objs, []⟩ (Nat.mul_pos q.den_pos r.den_pos) (hq.dd hr)
  rw [sub_mk]
  rw [Int.natCast_mul] at h4
  have e : initE 2 [tm q, tm r] = [some (.tup [.int q.num, .int q.den]), some (.tup [.int r.num, .int r.den])] := rfl
  rw [e]
  simp [initE, List.replicate, retS, retN, seqS, asgS, exprS, ifS, parS, skipS, setAll, varE, cstE, nilL, consL, tupE, mkL, un1, bin2, andE, orE, ifE, chainE, boolT, truthT, notT, andT, orT, yesT, callE, nameG, tupG, consG, nilG, itemsD, opNot, opAdd, opSub, opDiv, opMod, opNeg, opEq, opNe, opLt, opLe, opGt, opGe, opIsNot, opIs, isC, eqD, ltD, leD, truth, atD, ixD, opIx, fLen, coreE, coreL, opIsi, isTy, opAbs, opMax, opMin, opInt, opMul, b_difference, h1, h2, h3, h4]
theorem fits_time_t (n : Nat) (q : Rat) (S : Store) (h0 : 0 ≤ q) (hq : ok64 q) : ev (n + 3) j_fits_time [tm q] S = .ok (.bl true) S := by
  rw [u_fits_time]
  refine run_val rfl (by simp [initE, List.replicate, retS, retN, seqS, asgS, exprS, ifS, parS, skipS, setAll, varE, cstE, nilL, consL, tupE, mkL, un1, bin2, andE, orE, ifE, chainE, boolT, truthT, notT, andT, orT, yesT, callE, nameG, tupG, consG, nilG, itemsD, opNot, opAdd, opSub, opDiv, opMod, opNeg, opEq, opNe, opLt, opLe, opGt, opGe, opIsNot, opIs, isC, eqD, ltD, leD, truth, atD, ixD, opIx, fLen, coreE, coreL, opIsi, isTy, opAbs, opMax, opMin, opInt, opMul]) ?_
  have h1 : 0 ≤ q.num := Rat.num_nonneg.mpr h0
  obtain ⟨a, ha⟩ := Int.eq_ofNat_of_zero_le h1
  have h2 : a ≤ 2 ^ 40 := by have := hq.1; rw [ha] at this; simpa using this
  have h3 : q.den ≤ 900 := hq.2
  have h4 := q.den_pos
  have h5 : Nat.gcd a q.den = 1 := by have := q.reduced; rw [ha] at this; simpa [Nat.Coprime] using this
  have e : initE 1 [tm q] = [some (.tup [.int a, .int q.den])] := by rw [← ha]; rfl
  have h6 := divisor_of_n (n + 1) a q.den ⟨S.objs, []⟩ (by omega)
  have h7 : ¬ (999999999999999999999999999999 < (a : Int)) := by omega
  have h8 : (q.den : Int) ≤ 999999999999999999999999999999 := by omega
  have h9 : (1 : Int) ≤ (q.den : Int) := by omega
  rw [e]
  simp [initE, List.replicate, retS, retN, seqS, asgS, exprS, ifS, parS, skipS, setAll, varE, cstE, nilL, consL, tupE, mkL, un1, bin2, andE, orE, ifE, chainE, boolT, truthT, notT, andT, orT, yesT, callE, nameG, tupG, consG, nilG, itemsD, opNot, opAdd, opSub, opDiv, opMod, opNeg, opEq, opNe, opLt, opLe, opGt, opGe, opIsNot, opIs, isC, eqD, ltD, leD, truth, atD, ixD, opIx, fLen, coreE, coreL, opIsi, isTy, opAbs, opMax, opMin, opInt, opMul, b_fits_time, is_tuple_t, is_whole_i, d_MOST_TIME, h6, h5, h7, h8, h9]
theorem need_time_t (n : Nat) (q : Rat) (S : Store) (h0 : 0 ≤ q) (hq : ok64 q) : ev (n + 4) j_need_time [tm q] S = .ok .non S := by
  rw [u_need_time]
  refine run_nx rfl (env := [some (tm q)]) ?_
  simp [initE, List.replicate, retS, retN, seqS, asgS, exprS, ifS, parS, skipS, setAll, varE, cstE, nilL, consL, tupE, mkL, un1, bin2, andE, orE, ifE, chainE, boolT, truthT, notT, andT, orT, yesT, callE, nameG, tupG, consG, nilG, itemsD, opNot, opAdd, opSub, opDiv, opMod, opNeg, opEq, opNe, opLt, opLe, opGt, opGe, opIsNot, opIs, isC, eqD, ltD, leD, truth, atD, ixD, opIx, fLen, coreE, coreL, opIsi, isTy, opAbs, opMax, opMin, opInt, opMul, b_need_time, fits_time_t n q _ h0 hq]
end K81
set_option Elab.async false
set_option linter.all false
set_option maxRecDepth 100000
set_option maxHeartbeats 4000000
namespace K81
open PySem Ev
def Rl.s : Rl → Str
  | .less => s_less
  | .most => s_most
  | .same => s_same
  | .least => s_least
  | .more => s_more
structure Dm where
  c : Nat
  r : Rl
  n : Nat
def Dm.d (x : Dm) : D := .tup [.int x.c, .str x.r.s, .int x.n]
def dms (l : List Dm) : D := .tup (l.map Dm.d)
def nt (c : Nat) : D := .int c
def nts (l : List Nat) : D := .tup (l.map nt)
structure Ed where
  s : Nat
  t : Nat
  l : Nat
  g : List Dm
  rs : List Nat
def Ed.d (x : Ed) : D := .tup [.int x.s, .int x.t, .int x.l, dms x.g, nts x.rs]
structure Mc where
  p : Nat
  k : Nat
  st : List (List Dm)
  es : List Ed
def Mc.d (m : Mc) : D := .tup [.int m.p, .int m.k, .tup (m.st.map dms), .tup (m.es.map Ed.d)]
def tms (l : List Rat) : D := .tup (l.map tm)
def std (p : Nat) (ts : List Rat) : D := .tup [.int p, tms ts]
theorem flat_Dm (x : Dm) : flat x.d = true := by simp [initE, List.replicate, retS, retN, seqS, asgS, exprS, ifS, parS, skipS, setAll, varE, cstE, nilL, consL, tupE, mkL, un1, bin2, andE, orE, ifE, chainE, boolT, truthT, notT, andT, orT, yesT, callE, nameG, tupG, consG, nilG, itemsD, opNot, opAdd, opSub, opDiv, opMod, opNeg, opEq, opNe, opLt, opLe, opGt, opGe, opIsNot, opIs, isC, eqD, ltD, leD, truth, atD, ixD, opIx, fLen, coreE, coreL, opIsi, isTy, opAbs, opMax, opMin, opInt, opMul, Dm.d]
theorem flat_dms (l : List Dm) : flat (dms l) = true := by rw [dms, flat_tup]; exact flats_map flat_Dm l
theorem flat_nt (c : Nat) : flat (nt c) = true := by simp [initE, List.replicate, retS, retN, seqS, asgS, exprS, ifS, parS, skipS, setAll, varE, cstE, nilL, consL, tupE, mkL, un1, bin2, andE, orE, ifE, chainE, boolT, truthT, notT, andT, orT, yesT, callE, nameG, tupG, consG, nilG, itemsD, opNot, opAdd, opSub, opDiv, opMod, opNeg, opEq, opNe, opLt, opLe, opGt, opGe, opIsNot, opIs, isC, eqD, ltD, leD, truth, atD, ixD, opIx, fLen, coreE, coreL, opIsi, isTy, opAbs, opMax, opMin, opInt, opMul, nt]
theorem flat_nts (l : List Nat) : flat (nts l) = true := by rw [nts, flat_tup]; exact flats_map flat_nt l
theorem flat_Ed (x : Ed) : flat x.d = true := by simp [initE, List.replicate, retS, retN, seqS, asgS, exprS, ifS, parS, skipS, setAll, varE, cstE, nilL, consL, tupE, mkL, un1, bin2, andE, orE, ifE, chainE, boolT, truthT, notT, andT, orT, yesT, callE, nameG, tupG, consG, nilG, itemsD, opNot, opAdd, opSub, opDiv, opMod, opNeg, opEq, opNe, opLt, opLe, opGt, opGe, opIsNot, opIs, isC, eqD, ltD, leD, truth, atD, ixD, opIx, fLen, coreE, coreL, opIsi, isTy, opAbs, opMax, opMin, opInt, opMul, Ed.d, flat_dms, flat_nts]
theorem flat_Mc (x : Mc) : flat x.d = true := by
  simp only [Mc.d, flat_tup, flats_cons, flat_int, flats_nil, flats_map flat_dms, flats_map flat_Ed, Bool.and_self, Bool.and_true]
theorem flat_tms (l : List Rat) : flat (tms l) = true := by rw [tms, flat_tup]; exact flats_map flat_tm l
theorem flat_std (p : Nat) (l : List Rat) : flat (std p l) = true := by simp [initE, List.replicate, retS, retN, seqS, asgS, exprS, ifS, parS, skipS, setAll, varE, cstE, nilL, consL, tupE, mkL, un1, bin2, andE, orE, ifE, chainE, boolT, truthT, notT, andT, orT, yesT, callE, nameG, tupG, consG, nilG, itemsD, opNot, opAdd, opSub, opDiv, opMod, opNeg, opEq, opNe, opLt, opLe, opGt, opGe, opIsNot, opIs, isC, eqD, ltD, leD, truth, atD, ixD, opIx, fLen, coreE, coreL, opIsi, isTy, opAbs, opMax, opMin, opInt, opMul, std, flat_tms]
def Rl.stay : Rl → Bool
  | .less => true
  | .most => true
  | _ => false
def STAY : List D := [.str s_less, .str s_most]
def RELS : List D := [.str s_less, .str s_most, .str s_same, .str s_least, .str s_more]
theorem in_stay (r : Rl) : memD (.str r.s) [.str s_less, .str s_most] = some r.stay := by cases r <;> rfl
theorem in_rels (r : Rl) : memD (.str r.s) [.str s_less, .str s_most, .str s_same, .str s_least, .str s_more] = some true := by cases r <;> rfl
theorem in_ends (r : Rl) : memD (.str r.s) [.str s_less, .str s_most, .str s_same] = some r.ends := by cases r <;> rfl
theorem in_begins (r : Rl) : memD (.str r.s) [.str s_same, .str s_least, .str s_more] = some r.begins := by cases r <;> rfl
theorem eq_less (r : Rl) : strEq r.s s_less = (r == .less) := by cases r <;> rfl
theorem eq_most (r : Rl) : strEq r.s s_most = (r == .most) := by cases r <;> rfl
theorem eq_same (r : Rl) : strEq r.s s_same = (r == .same) := by cases r <;> rfl
theorem eq_least (r : Rl) : strEq r.s s_least = (r == .least) := by cases r <;> rfl
theorem eq_more (r : Rl) : strEq r.s s_more = (r == .more) := by cases r <;> rfl
structure DmOk (k : Nat) (x : Dm) : Prop where
  c : x.c < k
  n : x.n ≤ 20
structure DmsOk (k : Nat) (l : List Dm) : Prop where
  each : ∀ x ∈ l, DmOk k x
  ris : risD (l.map Dm.d) = true
structure EdOk (p k : Nat) (x : Ed) : Prop where
  s : x.s < p
  t : x.t < p
  l : x.l ≤ 9
  g : DmsOk k x.g
  gl : x.g.length ≤ 6
  r : ∀ c ∈ x.rs, c < k
  rl : x.rs.length ≤ k
  ris : risD (x.rs.map nt) = true
structure McOk (m : Mc) : Prop where
  p1 : 1 ≤ m.p
  p8 : m.p ≤ 8
  k : m.k ≤ 3
  sl : m.st.length = m.p
  st : ∀ l ∈ m.st, DmsOk m.k l ∧ l.length ≤ 4 ∧ ∀ x ∈ l, x.r.stay = true
  el : m.es.length ≤ 30
  es : ∀ e ∈ m.es, EdOk m.p m.k e
  ris : risD (m.es.map Ed.d) = true
structure StOk (m : Mc) (p : Nat) (ts : List Rat) : Prop where
  p : p < m.p
  l : ts.length = m.k
  t : ∀ q ∈ ts, 0 ≤ q ∧ ok64 q
theorem fits_demand_t (n k : Nat) (rels : List D) (x : Dm) (S : Store) (h : DmOk k x) (hr : memD (.str x.r.s) rels = some true) : ev (n + 3) j_fits_demand [.int k, .tup rels, x.d] S = .ok (.bl true) S := by
  rw [u_fits_demand]
  refine run_val rfl (by simp [initE, List.replicate, retS, retN, seqS, asgS, exprS, ifS, parS, skipS, setAll, varE, cstE, nilL, consL, tupE, mkL, un1, bin2, andE, orE, ifE, chainE, boolT, truthT, notT, andT, orT, yesT, callE, nameG, tupG, consG, nilG, itemsD, opNot, opAdd, opSub, opDiv, opMod, opNeg, opEq, opNe, opLt, opLe, opGt, opGe, opIsNot, opIs, isC, eqD, ltD, leD, truth, atD, ixD, opIx, fLen, coreE, coreL, opIsi, isTy, opAbs, opMax, opMin, opInt, opMul]) ?_
  have h1 : (x.c : Int) ≤ (k : Int) - 1 := by have := h.c; omega
  have h2 : (x.n : Int) ≤ 20 := by have := h.n; omega
  have e : initE 3 [D.int k, .tup rels, x.d] = [some (.int k), some (.tup rels), some (.tup [.int x.c, .str x.r.s, .int x.n])] := rfl
  rw [e]
  simp [initE, List.replicate, retS, retN, seqS, asgS, exprS, ifS, parS, skipS, setAll, varE, cstE, nilL, consL, tupE, mkL, un1, bin2, andE, orE, ifE, chainE, boolT, truthT, notT, andT, orT, yesT, callE, nameG, tupG, consG, nilG, itemsD, opNot, opAdd, opSub, opDiv, opMod, opNeg, opEq, opNe, opLt, opLe, opGt, opGe, opIsNot, opIs, isC, eqD, ltD, leD, truth, atD, ixD, opIx, fLen, coreE, coreL, opIsi, isTy, opAbs, opMax, opMin, opInt, opMul, b_fits_demand, is_tuple_t, is_whole_i, d_MOST_NUMBER, h1, h2, opIn, inD, hr]
theorem are_demands_t (n k most : Nat) (rels : List D) (l : List Dm) (S : Store) (h : DmsOk k l) (hl : l.length ≤ most) (hm : most < 100) (hr : ∀ x ∈ l, memD (.str x.r.s) rels = some true) : ev (n + 4) j_are_demands [.int k, .tup rels, .int most, dms l] S = .ok (.bl true) S := by
  rw [u_are_demands]
  refine run_val rfl (by simp [initE, List.replicate, retS, retN, seqS, asgS, exprS, ifS, parS, skipS, setAll, varE, cstE, nilL, consL, tupE, mkL, un1, bin2, andE, orE, ifE, chainE, boolT, truthT, notT, andT, orT, yesT, callE, nameG, tupG, consG, nilG, itemsD, opNot, opAdd, opSub, opDiv, opMod, opNeg, opEq, opNe, opLt, opLe, opGt, opGe, opIsNot, opIs, isC, eqD, ltD, leD, truth, atD, ixD, opIx, fLen, coreE, coreL, opIsi, isTy, opAbs, opMax, opMin, opInt, opMul]) ?_
  have h1 : lc_are_demands_1 (ev (n + 3)) [some (.int k), some (.tup rels), some (.int most), some (.tup (l.map Dm.d)), none] ⟨S.objs, []⟩ = .ok (l.map fun _ => .bl true) ⟨S.objs, []⟩ := by
    unfold lc_are_demands_1
    rw [lcL_val rfl]
    exact lc_mapM Dm.d _ l (by rw [FU_eq]; omega) fun x hx => ⟨_, rfl, rfl, by
      simp [initE, List.replicate, retS, retN, seqS, asgS, exprS, ifS, parS, skipS, setAll, varE, cstE, nilL, consL, tupE, mkL, un1, bin2, andE, orE, ifE, chainE, boolT, truthT, notT, andT, orT, yesT, callE, nameG, tupG, consG, nilG, itemsD, opNot, opAdd, opSub, opDiv, opMod, opNeg, opEq, opNe, opLt, opLe, opGt, opGe, opIsNot, opIs, isC, eqD, ltD, leD, truth, atD, ixD, opIx, fLen, coreE, coreL, opIsi, isTy, opAbs, opMax, opMin, opInt, opMul, wipeE, fits_demand_t n k rels x _ (h.each x hx) (hr x hx)]⟩
  have h2 := is_rising_t (n + 2) (l.map Dm.d) ⟨S.objs, []⟩ (flats_map flat_Dm l) h.ris (by simp [initE, List.replicate, retS, retN, seqS, asgS, exprS, ifS, parS, skipS, setAll, varE, cstE, nilL, consL, tupE, mkL, un1, bin2, andE, orE, ifE, chainE, boolT, truthT, notT, andT, orT, yesT, callE, nameG, tupG, consG, nilG, itemsD, opNot, opAdd, opSub, opDiv, opMod, opNeg, opEq, opNe, opLt, opLe, opGt, opGe, opIsNot, opIs, isC, eqD, ltD, leD, truth, atD, ixD, opIx, fLen, coreE, coreL, opIsi, isTy, opAbs, opMax, opMin, opInt, opMul]; omega)
  have e : initE 5 [D.int k, .tup rels, .int most, dms l] = [some (.int k), some (.tup rels), some (.int most), some (.tup (l.map Dm.d)), none] := rfl
  have h3 : (l.length : Int) ≤ (most : Int) := by omega
  rw [e]
  simp [initE, List.replicate, retS, retN, seqS, asgS, exprS, ifS, parS, skipS, setAll, varE, cstE, nilL, consL, tupE, mkL, un1, bin2, andE, orE, ifE, chainE, boolT, truthT, notT, andT, orT, yesT, callE, nameG, tupG, consG, nilG, itemsD, opNot, opAdd, opSub, opDiv, opMod, opNeg, opEq, opNe, opLt, opLe, opGt, opGe, opIsNot, opIs, isC, eqD, ltD, leD, truth, atD, ixD, opIx, fLen, coreE, coreL, opIsi, isTy, opAbs, opMax, opMin, opInt, opMul, b_are_demands, is_tuple_t, h1, fAll_yes, h2, h3]
theorem are_clocks_t (n k : Nat) (l : List Nat) (S : Store) (h : ∀ c ∈ l, c < k) (hl : l.length ≤ k) (hk : k < 100) (hr : risD (l.map nt) = true) : ev (n + 4) j_are_clocks [.int k, nts l] S = .ok (.bl true) S := by
  rw [u_are_clocks]
  refine run_val rfl (by simp [initE, List.replicate, retS, retN, seqS, asgS, exprS, ifS, parS, skipS, setAll, varE, cstE, nilL, consL, tupE, mkL, un1, bin2, andE, orE, ifE, chainE, boolT, truthT, notT, andT, orT, yesT, callE, nameG, tupG, consG, nilG, itemsD, opNot, opAdd, opSub, opDiv, opMod, opNeg, opEq, opNe, opLt, opLe, opGt, opGe, opIsNot, opIs, isC, eqD, ltD, leD, truth, atD, ixD, opIx, fLen, coreE, coreL, opIsi, isTy, opAbs, opMax, opMin, opInt, opMul]) ?_
  have h1 : lc_are_clocks_1 (ev (n + 3)) [some (.int k), some (.tup (l.map nt)), none] ⟨S.objs, []⟩ = .ok (l.map fun _ => .bl true) ⟨S.objs, []⟩ := by
    unfold lc_are_clocks_1
    rw [lcL_val rfl]
    exact lc_mapM nt _ l (by rw [FU_eq]; omega) fun x hx => ⟨_, rfl, rfl, by
      have := h x hx
      have h4 : (x : Int) ≤ (k : Int) - 1 := by omega
      simp [initE, List.replicate, retS, retN, seqS, asgS, exprS, ifS, parS, skipS, setAll, varE, cstE, nilL, consL, tupE, mkL, un1, bin2, andE, orE, ifE, chainE, boolT, truthT, notT, andT, orT, yesT, callE, nameG, tupG, consG, nilG, itemsD, opNot, opAdd, opSub, opDiv, opMod, opNeg, opEq, opNe, opLt, opLe, opGt, opGe, opIsNot, opIs, isC, eqD, ltD, leD, truth, atD, ixD, opIx, fLen, coreE, coreL, opIsi, isTy, opAbs, opMax, opMin, opInt, opMul, wipeE, nt, is_whole_i, h4]⟩
  have h2 := is_rising_t (n + 2) (l.map nt) ⟨S.objs, []⟩ (flats_map flat_nt l) hr (by simp [initE, List.replicate, retS, retN, seqS, asgS, exprS, ifS, parS, skipS, setAll, varE, cstE, nilL, consL, tupE, mkL, un1, bin2, andE, orE, ifE, chainE, boolT, truthT, notT, andT, orT, yesT, callE, nameG, tupG, consG, nilG, itemsD, opNot, opAdd, opSub, opDiv, opMod, opNeg, opEq, opNe, opLt, opLe, opGt, opGe, opIsNot, opIs, isC, eqD, ltD, leD, truth, atD, ixD, opIx, fLen, coreE, coreL, opIsi, isTy, opAbs, opMax, opMin, opInt, opMul]; omega)
  have e : initE 3 [D.int k, nts l] = [some (.int k), some (.tup (l.map nt)), none] := rfl
  have h3 : (l.length : Int) ≤ (k : Int) := by omega
  rw [e]
  simp [initE, List.replicate, retS, retN, seqS, asgS, exprS, ifS, parS, skipS, setAll, varE, cstE, nilL, consL, tupE, mkL, un1, bin2, andE, orE, ifE, chainE, boolT, truthT, notT, andT, orT, yesT, callE, nameG, tupG, consG, nilG, itemsD, opNot, opAdd, opSub, opDiv, opMod, opNeg, opEq, opNe, opLt, opLe, opGt, opGe, opIsNot, opIs, isC, eqD, ltD, leD, truth, atD, ixD, opIx, fLen, coreE, coreL, opIsi, isTy, opAbs, opMax, opMin, opInt, opMul, b_are_clocks, is_tuple_t, h1, fAll_yes, h2, h3]
theorem fits_edge_t (n p k : Nat) (x : Ed) (S : Store) (h : EdOk p k x) (hk : k < 100) : ev (n + 5) j_fits_edge [.int p, .int k, x.d] S = .ok (.bl true) S := by
  rw [u_fits_edge]
  refine run_val rfl (by simp [initE, List.replicate, retS, retN, seqS, asgS, exprS, ifS, parS, skipS, setAll, varE, cstE, nilL, consL, tupE, mkL, un1, bin2, andE, orE, ifE, chainE, boolT, truthT, notT, andT, orT, yesT, callE, nameG, tupG, consG, nilG, itemsD, opNot, opAdd, opSub, opDiv, opMod, opNeg, opEq, opNe, opLt, opLe, opGt, opGe, opIsNot, opIs, isC, eqD, ltD, leD, truth, atD, ixD, opIx, fLen, coreE, coreL, opIsi, isTy, opAbs, opMax, opMin, opInt, opMul]) ?_
  have e : initE 4 [D.int p, .int k, x.d] = [some (.int p), some (.int k), some (.tup [.int x.s, .int x.t, .int x.l, dms x.g, nts x.rs]), none] := rfl
  rw [e]
  have hc : cutD [D.int x.s, .int x.t, .int x.l, dms x.g, nts x.rs] none (some 2) = [x.s, x.t].map nt := cut_to _ 2
  have h1 : lc_fits_edge_1 (ev (n + 4)) [some (.int p), some (.int k), some (.tup [.int x.s, .int x.t, .int x.l, dms x.g, nts x.rs]), none] ⟨S.objs, []⟩ = .ok ([x.s, x.t].map fun _ => .bl true) ⟨S.objs, []⟩ := by
    unfold lc_fits_edge_1
    rw [lcL_val (ds := [x.s, x.t].map nt) (by simp only [sliceE, someP, noP, varE, cstE, List.getElem?_cons_succ, List.getElem?_cons_zero, bind_ok, hc])]
    exact lc_mapM nt _ [x.s, x.t] (by rw [FU_eq]; show 2 < 1000000; decide) fun y hy => ⟨_, rfl, rfl, by
      have h4 : (y : Int) ≤ (p : Int) - 1 := by
        have := h.s; have := h.t
        simp [initE, List.replicate, retS, retN, seqS, asgS, exprS, ifS, parS, skipS, setAll, varE, cstE, nilL, consL, tupE, mkL, un1, bin2, andE, orE, ifE, chainE, boolT, truthT, notT, andT, orT, yesT, callE, nameG, tupG, consG, nilG, itemsD, opNot, opAdd, opSub, opDiv, opMod, opNeg, opEq, opNe, opLt, opLe, opGt, opGe, opIsNot, opIs, isC, eqD, ltD, leD, truth, atD, ixD, opIx, fLen, coreE, coreL, opIsi, isTy, opAbs, opMax, opMin, opInt, opMul] at hy
        omega
      simp [initE, List.replicate, retS, retN, seqS, asgS, exprS, ifS, parS, skipS, setAll, varE, cstE, nilL, consL, tupE, mkL, un1, bin2, andE, orE, ifE, chainE, boolT, truthT, notT, andT, orT, yesT, callE, nameG, tupG, consG, nilG, itemsD, opNot, opAdd, opSub, opDiv, opMod, opNeg, opEq, opNe, opLt, opLe, opGt, opGe, opIsNot, opIs, isC, eqD, ltD, leD, truth, atD, ixD, opIx, fLen, coreE, coreL, opIsi, isTy, opAbs, opMax, opMin, opInt, opMul, wipeE, nt, is_whole_i, h4]⟩
  have h2 : ev (n + 4) j_are_demands [.int k, .tup RELS, .int 6, dms x.g] ⟨S.objs, []⟩ = .ok (.bl true) ⟨S.objs, []⟩ := are_demands_t n k 6 RELS x.g ⟨S.objs, []⟩ h.g h.gl (by decide) (fun x _ => in_rels x.r)
  have h3 := are_clocks_t n k x.rs ⟨S.objs, []⟩ h.r h.rl hk h.ris
  have h4 : (x.l : Int) ≤ 9 := by have := h.l; omega
  unfold RELS at h2
  simp [initE, List.replicate, retS, retN, seqS, asgS, exprS, ifS, parS, skipS, setAll, varE, cstE, nilL, consL, tupE, mkL, un1, bin2, andE, orE, ifE, chainE, boolT, truthT, notT, andT, orT, yesT, callE, nameG, tupG, consG, nilG, itemsD, opNot, opAdd, opSub, opDiv, opMod, opNeg, opEq, opNe, opLt, opLe, opGt, opGe, opIsNot, opIs, isC, eqD, ltD, leD, truth, atD, ixD, opIx, fLen, coreE, coreL, opIsi, isTy, opAbs, opMax, opMin, opInt, opMul, b_fits_edge, is_tuple_t, is_whole_i, h1, fAll, allC, d_MOST_LETTER, d_RELATIONS, d_MOST_GUARD, h2, h3, h4]
theorem fits_machine_t (n : Nat) (m : Mc) (S : Store) (h : McOk m) : ev (n + 6) j_fits_machine [m.d] S = .ok (.bl true) S := by
  rw [u_fits_machine]
  refine run_val rfl (by simp [initE, List.replicate, retS, retN, seqS, asgS, exprS, ifS, parS, skipS, setAll, varE, cstE, nilL, consL, tupE, mkL, un1, bin2, andE, orE, ifE, chainE, boolT, truthT, notT, andT, orT, yesT, callE, nameG, tupG, consG, nilG, itemsD, opNot, opAdd, opSub, opDiv, opMod, opNeg, opEq, opNe, opLt, opLe, opGt, opGe, opIsNot, opIs, isC, eqD, ltD, leD, truth, atD, ixD, opIx, fLen, coreE, coreL, opIsi, isTy, opAbs, opMax, opMin, opInt, opMul]) ?_
  have e : initE 7 [m.d] = [some (.tup [.int m.p, .int m.k, .tup (m.st.map dms), .tup (m.es.map Ed.d)]), none, none, none, none, none, none] := rfl
  rw [e]
  have h1 : lc_fits_machine_1 (ev (n + 5)) [some (.tup [.int m.p, .int m.k, .tup (m.st.map dms), .tup (m.es.map Ed.d)]), some (.int m.p), some (.int m.k), some (.tup (m.st.map dms)), some (.tup (m.es.map Ed.d)), none, none] ⟨S.objs, []⟩ = .ok (m.st.map fun _ => .bl true) ⟨S.objs, []⟩ := by
    unfold lc_fits_machine_1
    rw [lcL_val rfl]
    exact lc_mapM dms _ m.st (by rw [FU_eq, h.sl]; have := h.p8; omega) fun x hx => ⟨_, rfl, rfl, by
      obtain ⟨a, b, c⟩ := h.st x hx
      have : ev (n + 5) j_are_demands [.int m.k, .tup STAY, .int 4, dms x] ⟨S.objs, []⟩ = .ok (.bl true) ⟨S.objs, []⟩ := are_demands_t (n + 1) m.k 4 STAY x ⟨S.objs, []⟩ a b (by decide) (fun y hy => by rw [STAY, in_stay, c y hy])
      unfold STAY at this
      simp [initE, List.replicate, retS, retN, seqS, asgS, exprS, ifS, parS, skipS, setAll, varE, cstE, nilL, consL, tupE, mkL, un1, bin2, andE, orE, ifE, chainE, boolT, truthT, notT, andT, orT, yesT, callE, nameG, tupG, consG, nilG, itemsD, opNot, opAdd, opSub, opDiv, opMod, opNeg, opEq, opNe, opLt, opLe, opGt, opGe, opIsNot, opIs, isC, eqD, ltD, leD, truth, atD, ixD, opIx, fLen, coreE, coreL, opIsi, isTy, opAbs, opMax, opMin, opInt, opMul, wipeE, d_STAYING, d_MOST_STAYS, this]⟩
  have h2 : lc_fits_machine_2 (ev (n + 5)) [some (.tup [.int m.p, .int m.k, .tup (m.st.map dms), .tup (m.es.map Ed.d)]), some (.int m.p), some (.int m.k), some (.tup (m.st.map dms)), some (.tup (m.es.map Ed.d)), none, none] ⟨S.objs, []⟩ = .ok (m.es.map fun _ => .bl true) ⟨S.objs, []⟩ := by
    unfold lc_fits_machine_2
    rw [lcL_val rfl]
    exact lc_mapM Ed.d _ m.es (by rw [FU_eq]; have := h.el; omega) fun x hx => ⟨_, rfl, rfl, by
      simp [initE, List.replicate, retS, retN, seqS, asgS, exprS, ifS, parS, skipS, setAll, varE, cstE, nilL, consL, tupE, mkL, un1, bin2, andE, orE, ifE, chainE, boolT, truthT, notT, andT, orT, yesT, callE, nameG, tupG, consG, nilG, itemsD, opNot, opAdd, opSub, opDiv, opMod, opNeg, opEq, opNe, opLt, opLe, opGt, opGe, opIsNot, opIs, isC, eqD, ltD, leD, truth, atD, ixD, opIx, fLen, coreE, coreL, opIsi, isTy, opAbs, opMax, opMin, opInt, opMul, wipeE, fits_edge_t n m.p m.k x _ (h.es x hx) (by have := h.k; omega)]⟩
  have h3 := is_rising_t (n + 4) (m.es.map Ed.d) ⟨S.objs, []⟩ (flats_map flat_Ed m.es) h.ris (by simp [initE, List.replicate, retS, retN, seqS, asgS, exprS, ifS, parS, skipS, setAll, varE, cstE, nilL, consL, tupE, mkL, un1, bin2, andE, orE, ifE, chainE, boolT, truthT, notT, andT, orT, yesT, callE, nameG, tupG, consG, nilG, itemsD, opNot, opAdd, opSub, opDiv, opMod, opNeg, opEq, opNe, opLt, opLe, opGt, opGe, opIsNot, opIs, isC, eqD, ltD, leD, truth, atD, ixD, opIx, fLen, coreE, coreL, opIsi, isTy, opAbs, opMax, opMin, opInt, opMul]; have := h.el; omega)
  have a1 : (1 : Int) ≤ m.p := by have := h.p1; omega
  have a2 : (m.p : Int) ≤ 8 := by have := h.p8; omega
  have a3 : (m.k : Int) ≤ 3 := by have := h.k; omega
  have a4 : (m.es.length : Int) ≤ 30 := by have := h.el; omega
  simp [initE, List.replicate, retS, retN, seqS, asgS, exprS, ifS, parS, skipS, setAll, varE, cstE, nilL, consL, tupE, mkL, un1, bin2, andE, orE, ifE, chainE, boolT, truthT, notT, andT, orT, yesT, callE, nameG, tupG, consG, nilG, itemsD, opNot, opAdd, opSub, opDiv, opMod, opNeg, opEq, opNe, opLt, opLe, opGt, opGe, opIsNot, opIs, isC, eqD, ltD, leD, truth, atD, ixD, opIx, fLen, coreE, coreL, opIsi, isTy, opAbs, opMax, opMin, opInt, opMul, b_fits_machine, is_tuple_t, is_whole_i, d_MOST_PLACES, d_MOST_CLOCKS, d_MOST_EDGES, h1, h2, h3, fAll_yes, h.sl, a1, a2, a3, a4]
theorem need_machine_t (n : Nat) (m : Mc) (S : Store) (h : McOk m) : ev (n + 7) j_need_machine [m.d] S = .ok .non S := by
  rw [u_need_machine]
  refine run_nx rfl (env := [some m.d]) ?_
  simp [initE, List.replicate, retS, retN, seqS, asgS, exprS, ifS, parS, skipS, setAll, varE, cstE, nilL, consL, tupE, mkL, un1, bin2, andE, orE, ifE, chainE, boolT, truthT, notT, andT, orT, yesT, callE, nameG, tupG, consG, nilG, itemsD, opNot, opAdd, opSub, opDiv, opMod, opNeg, opEq, opNe, opLt, opLe, opGt, opGe, opIsNot, opIs, isC, eqD, ltD, leD, truth, atD, ixD, opIx, fLen, coreE, coreL, opIsi, isTy, opAbs, opMax, opMin, opInt, opMul, b_need_machine, fits_machine_t n m _ h]
theorem fits_state_t (n : Nat) (m : Mc) (p : Nat) (ts : List Rat) (S : Store) (hm : McOk m) (h : StOk m p ts) : ev (n + 4) j_fits_state [m.d, std p ts] S = .ok (.bl true) S := by
  rw [u_fits_state]
  refine run_val rfl (by simp [initE, List.replicate, retS, retN, seqS, asgS, exprS, ifS, parS, skipS, setAll, varE, cstE, nilL, consL, tupE, mkL, un1, bin2, andE, orE, ifE, chainE, boolT, truthT, notT, andT, orT, yesT, callE, nameG, tupG, consG, nilG, itemsD, opNot, opAdd, opSub, opDiv, opMod, opNeg, opEq, opNe, opLt, opLe, opGt, opGe, opIsNot, opIs, isC, eqD, ltD, leD, truth, atD, ixD, opIx, fLen, coreE, coreL, opIsi, isTy, opAbs, opMax, opMin, opInt, opMul]) ?_
  have e : initE 3 [m.d, std p ts] = [some (.tup [.int m.p, .int m.k, .tup (m.st.map dms), .tup (m.es.map Ed.d)]), some (.tup [.int p, .tup (ts.map tm)]), none] := rfl
  rw [e]
  have h1 : lc_fits_state_1 (ev (n + 3)) [some (.tup [.int m.p, .int m.k, .tup (m.st.map dms), .tup (m.es.map Ed.d)]), some (.tup [.int p, .tup (ts.map tm)]), none] ⟨S.objs, []⟩ = .ok (ts.map fun _ => .bl true) ⟨S.objs, []⟩ := by
    unfold lc_fits_state_1
    rw [lcL_val rfl]
    exact lc_mapM tm _ ts (by rw [FU_eq, h.l]; have := hm.k; omega) fun x hx => ⟨_, rfl, rfl, by
      simp [initE, List.replicate, retS, retN, seqS, asgS, exprS, ifS, parS, skipS, setAll, varE, cstE, nilL, consL, tupE, mkL, un1, bin2, andE, orE, ifE, chainE, boolT, truthT, notT, andT, orT, yesT, callE, nameG, tupG, consG, nilG, itemsD, opNot, opAdd, opSub, opDiv, opMod, opNeg, opEq, opNe, opLt, opLe, opGt, opGe, opIsNot, opIs, isC, eqD, ltD, leD, truth, atD, ixD, opIx, fLen, coreE, coreL, opIsi, isTy, opAbs, opMax, opMin, opInt, opMul, wipeE, fits_time_t n x _ (h.t x hx).1 (h.t x hx).2]⟩
  have a1 : (p : Int) ≤ (m.p : Int) - 1 := by have := h.p; omega
  simp [initE, List.replicate, retS, retN, seqS, asgS, exprS, ifS, parS, skipS, setAll, varE, cstE, nilL, consL, tupE, mkL, un1, bin2, andE, orE, ifE, chainE, boolT, truthT, notT, andT, orT, yesT, callE, nameG, tupG, consG, nilG, itemsD, opNot, opAdd, opSub, opDiv, opMod, opNeg, opEq, opNe, opLt, opLe, opGt, opGe, opIsNot, opIs, isC, eqD, ltD, leD, truth, atD, ixD, opIx, fLen, coreE, coreL, opIsi, isTy, opAbs, opMax, opMin, opInt, opMul, b_fits_state, is_tuple_t, is_whole_i, h1, fAll_yes, h.l, a1]
theorem need_state_t (n : Nat) (m : Mc) (p : Nat) (ts : List Rat) (S : Store) (hm : McOk m) (h : StOk m p ts) : ev (n + 5) j_need_state [m.d, std p ts] S = .ok .non S := by
  rw [u_need_state]
  refine run_nx rfl (env := [some m.d, some (std p ts)]) ?_
  simp [initE, List.replicate, retS, retN, seqS, asgS, exprS, ifS, parS, skipS, setAll, varE, cstE, nilL, consL, tupE, mkL, un1, bin2, andE, orE, ifE, chainE, boolT, truthT, notT, andT, orT, yesT, callE, nameG, tupG, consG, nilG, itemsD, opNot, opAdd, opSub, opDiv, opMod, opNeg, opEq, opNe, opLt, opLe, opGt, opGe, opIsNot, opIs, isC, eqD, ltD, leD, truth, atD, ixD, opIx, fLen, coreE, coreL, opIsi, isTy, opAbs, opMax, opMin, opInt, opMul, b_need_state, fits_state_t n m p ts _ hm h]
theorem need_edge_t (n : Nat) (m : Mc) (e : Nat) (S : Store) (h : e < m.es.length) : ev (n + 3) j_need_edge [m.d, .int e] S = .ok .non S := by
  rw [u_need_edge]
  refine run_nx rfl (env := [some (.tup [.int m.p, .int m.k, .tup (m.st.map dms), .tup (m.es.map Ed.d)]), some (.int e)]) ?_
  have e' : initE 2 [m.d, .int e] = [some (.tup [.int m.p, .int m.k, .tup (m.st.map dms), .tup (m.es.map Ed.d)]), some (.int e)] := rfl
  rw [e']
  have a1 : (e : Int) ≤ (m.es.length : Int) - 1 := by omega
  simp [initE, List.replicate, retS, retN, seqS, asgS, exprS, ifS, parS, skipS, setAll, varE, cstE, nilL, consL, tupE, mkL, un1, bin2, andE, orE, ifE, chainE, boolT, truthT, notT, andT, orT, yesT, callE, nameG, tupG, consG, nilG, itemsD, opNot, opAdd, opSub, opDiv, opMod, opNeg, opEq, opNe, opLt, opLe, opGt, opGe, opIsNot, opIs, isC, eqD, ltD, leD, truth, atD, ixD, opIx, fLen, coreE, coreL, opIsi, isTy, opAbs, opMax, opMin, opInt, opMul, b_need_edge, is_whole_i, a1]
theorem need_both_t (n : Nat) (m : Mc) (p : Nat) (ts : List Rat) (S : Store) (hm : McOk m) (h : StOk m p ts) : ev (n + 8) j_need_both [m.d, std p ts] S = .ok .non S := by
  rw [u_need_both]
  refine run_nx rfl (env := [some m.d, some (std p ts)]) ?_
  simp [initE, List.replicate, retS, retN, seqS, asgS, exprS, ifS, parS, skipS, setAll, varE, cstE, nilL, consL, tupE, mkL, un1, bin2, andE, orE, ifE, chainE, boolT, truthT, notT, andT, orT, yesT, callE, nameG, tupG, consG, nilG, itemsD, opNot, opAdd, opSub, opDiv, opMod, opNeg, opEq, opNe, opLt, opLe, opGt, opGe, opIsNot, opIs, isC, eqD, ltD, leD, truth, atD, ixD, opIx, fLen, coreE, coreL, opIsi, isTy, opAbs, opMax, opMin, opInt, opMul, b_need_both, need_machine_t n m _ hm, need_state_t (n + 2) m p ts _ hm h]
end K81
set_option Elab.async false
set_option linter.all false
set_option maxRecDepth 100000
set_option maxHeartbeats 4000000
namespace K81
open PySem Ev
def keepI : Rl → Int → Bool
  | .less, x => decide (x < 0)
  | .most, x => decide (x ≤ 0)
  | .same, x => decide (x = 0)
  | .least, x => decide (0 ≤ x)
  | .more, x => decide (0 < x)
theorem keep_holds (r : Rl) (q : Rat) (n : Nat) : keepI r (q.num - n * q.den) = r.holds q n := by
  have h1 := lt_num q n
  have h2 := gt_num q n
  cases r <;> simp only [keepI, Rl.holds, decide_eq_decide]
  · rw [h1]; omega
  · rw [show q ≤ (n : Rat) ↔ ¬ (n : Rat) < q by grind, h2]; omega
  · rw [show q = (n : Rat) ↔ ¬ (n : Rat) < q ∧ ¬ q < (n : Rat) by grind, h2, h1]; omega
  · rw [show (n : Rat) ≤ q ↔ ¬ q < (n : Rat) by grind, h1]; omega
  · rw [h2]; omega
theorem does_keep_t (n : Nat) (r : Rl) (x : Int) (S : Store) : ev (n + 1) j_does_keep [.str r.s, .int x] S = .ok (.bl (keepI r x)) S := by
  rw [u_does_keep]
  refine run_val rfl (by simp [initE, List.replicate, retS, retN, seqS, asgS, exprS, ifS, parS, skipS, setAll, varE, cstE, nilL, consL, tupE, mkL, un1, bin2, andE, orE, ifE, chainE, boolT, truthT, notT, andT, orT, yesT, callE, nameG, tupG, consG, nilG, itemsD, opNot, opAdd, opSub, opDiv, opMod, opNeg, opEq, opNe, opLt, opLe, opGt, opGe, opIsNot, opIs, isC, eqD, ltD, leD, truth, at_nat, at_0, at_1, at_2, at_3, at_4, opIx, fLen, coreE, coreL, opIsi, isTy, opAbs, opMax, opMin, opInt, opMul]) ?_
  have h : ∀ x : Int, (decide (x < 0) || decide (x = 0)) = decide (x ≤ 0) := fun x => by
    rw [← Bool.decide_or, decide_eq_decide]; omega
  have h' : ∀ x : Int, (decide (0 < x) || decide (x = 0)) = decide (0 ≤ x) := fun x => by
    rw [← Bool.decide_or, decide_eq_decide]; omega
  simp [initE, List.replicate, retS, retN, seqS, asgS, exprS, ifS, parS, skipS, setAll, varE, cstE, nilL, consL, tupE, mkL, un1, bin2, andE, orE, ifE, chainE, boolT, truthT, notT, andT, orT, yesT, callE, nameG, tupG, consG, nilG, itemsD, opNot, opAdd, opSub, opDiv, opMod, opNeg, opEq, opNe, opLt, opLe, opGt, opGe, opIsNot, opIs, isC, eqD, ltD, leD, truth, at_nat, at_0, at_1, at_2, at_3, at_4, opIx, fLen, coreE, coreL, opIsi, isTy, opAbs, opMax, opMin, opInt, opMul, b_does_keep, d_STAYING, opIn, inD, in_stay]
  cases r <;> simp [initE, List.replicate, retS, retN, seqS, asgS, exprS, ifS, parS, skipS, setAll, varE, cstE, nilL, consL, tupE, mkL, un1, bin2, andE, orE, ifE, chainE, boolT, truthT, notT, andT, orT, yesT, callE, nameG, tupG, consG, nilG, itemsD, opNot, opAdd, opSub, opDiv, opMod, opNeg, opEq, opNe, opLt, opLe, opGt, opGe, opIsNot, opIs, isC, eqD, ltD, leD, truth, at_nat, at_0, at_1, at_2, at_3, at_4, opIx, fLen, coreE, coreL, opIsi, isTy, opAbs, opMax, opMin, opInt, opMul, Rl.stay, keepI, d_MOST, d_SAME, d_LEAST, eq_most, eq_same, eq_least]
  · by_cases h : x < 0 <;> by_cases h' : x = 0 <;> simp [initE, List.replicate, retS, retN, seqS, asgS, exprS, ifS, parS, skipS, setAll, varE, cstE, nilL, consL, tupE, mkL, un1, bin2, andE, orE, ifE, chainE, boolT, truthT, notT, andT, orT, yesT, callE, nameG, tupG, consG, nilG, itemsD, opNot, opAdd, opSub, opDiv, opMod, opNeg, opEq, opNe, opLt, opLe, opGt, opGe, opIsNot, opIs, isC, eqD, ltD, leD, truth, at_nat, at_0, at_1, at_2, at_3, at_4, opIx, fLen, coreE, coreL, opIsi, isTy, opAbs, opMax, opMin, opInt, opMul, h, h']
  · by_cases h : x < 0 <;> by_cases h' : x = 0 <;> simp [initE, List.replicate, retS, retN, seqS, asgS, exprS, ifS, parS, skipS, setAll, varE, cstE, nilL, consL, tupE, mkL, un1, bin2, andE, orE, ifE, chainE, boolT, truthT, notT, andT, orT, yesT, callE, nameG, tupG, consG, nilG, itemsD, opNot, opAdd, opSub, opDiv, opMod, opNeg, opEq, opNe, opLt, opLe, opGt, opGe, opIsNot, opIs, isC, eqD, ltD, leD, truth, at_nat, at_0, at_1, at_2, at_3, at_4, opIx, fLen, coreE, coreL, opIsi, isTy, opAbs, opMax, opMin, opInt, opMul, h, h'] <;> omega
  · by_cases h : 0 < x <;> by_cases h' : x = 0 <;> simp [initE, List.replicate, retS, retN, seqS, asgS, exprS, ifS, parS, skipS, setAll, varE, cstE, nilL, consL, tupE, mkL, un1, bin2, andE, orE, ifE, chainE, boolT, truthT, notT, andT, orT, yesT, callE, nameG, tupG, consG, nilG, itemsD, opNot, opAdd, opSub, opDiv, opMod, opNeg, opEq, opNe, opLt, opLe, opGt, opGe, opIsNot, opIs, isC, eqD, ltD, leD, truth, at_nat, at_0, at_1, at_2, at_3, at_4, opIx, fLen, coreE, coreL, opIsi, isTy, opAbs, opMax, opMin, opInt, opMul, h, h'] <;> omega
  · by_cases h : 0 < x <;> by_cases h' : x = 0 <;> simp [initE, List.replicate, retS, retN, seqS, asgS, exprS, ifS, parS, skipS, setAll, varE, cstE, nilL, consL, tupE, mkL, un1, bin2, andE, orE, ifE, chainE, boolT, truthT, notT, andT, orT, yesT, callE, nameG, tupG, consG, nilG, itemsD, opNot, opAdd, opSub, opDiv, opMod, opNeg, opEq, opNe, opLt, opLe, opGt, opGe, opIsNot, opIs, isC, eqD, ltD, leD, truth, at_nat, at_0, at_1, at_2, at_3, at_4, opIx, fLen, coreE, coreL, opIsi, isTy, opAbs, opMax, opMin, opInt, opMul, h, h']
def Dm.h (ts : List Rat) (x : Dm) : Bool := x.r.holds (ts.getD x.c 0) x.n
def allH (ts : List Rat) (l : List Dm) : Bool := l.all (Dm.h ts)
def Mc.stay (m : Mc) (p : Nat) : List Dm := m.st.getD p []
def Mc.edge (m : Mc) (e : Nat) : Ed := m.es.getD e ⟨0, 0, 0, [], []⟩
def letIn (m : Mc) (p : Nat) (ts : List Rat) : Bool := allH ts (m.stay p)
theorem at_tms (ts : List Rat) (c : Nat) (h : c < ts.length) : atD (ts.map tm) (c : Int) = some (tm (ts.getD c 0)) := by
  rw [at_nat, getElem?_mapD tm 0 ts c h]
theorem hold_t (n k : Nat) (ts : List Rat) (l : List Dm) (S : Store) (h : DmsOk k l) (hk : ts.length = k) (hl : l.length < 1000) : ev (n + 2) j_do_demands_hold [tms ts, dms l] S = .ok (.bl (allH ts l)) S := by
  rw [u_do_demands_hold]
  refine run_val rfl (by simp [initE, List.replicate, retS, retN, seqS, asgS, exprS, ifS, parS, skipS, setAll, varE, cstE, nilL, consL, tupE, mkL, un1, bin2, andE, orE, ifE, chainE, boolT, truthT, notT, andT, orT, yesT, callE, nameG, tupG, consG, nilG, itemsD, opNot, opAdd, opSub, opDiv, opMod, opNeg, opEq, opNe, opLt, opLe, opGt, opGe, opIsNot, opIs, isC, eqD, ltD, leD, truth, at_nat, at_0, at_1, at_2, at_3, at_4, opIx, fLen, coreE, coreL, opIsi, isTy, opAbs, opMax, opMin, opInt, opMul]) ?_
  have e : initE 5 [tms ts, dms l] = [some (.tup (ts.map tm)), some (.tup (l.map Dm.d)), none, none, none] := rfl
  rw [e]
  have h1 : lc_do_demands_hold_1 (ev (n + 1)) [some (.tup (ts.map tm)), some (.tup (l.map Dm.d)), none, none, none] ⟨S.objs, []⟩ = .ok (l.map fun x => .bl (x.h ts)) ⟨S.objs, []⟩ := by
    unfold lc_do_demands_hold_1
    rw [lcL_val rfl]
    exact lc_mapM Dm.d _ l (by rw [FU_eq]; omega) fun x hx => ⟨_, rfl, rfl, by
      have a := h.each x hx
      have h2 := at_tms ts x.c (by rw [hk]; exact a.c)
      have h3 := side_of_t n (ts.getD x.c 0) x.n ⟨S.objs, []⟩ (by have := a.n; omega)
      unfold bin2 opIx
      simp only [callE, consL, nilL, varE, List.getElem?_cons_succ, List.getElem?_cons_zero, bind_ok, wipeE, List.set_cons_succ, List.set_cons_zero, List.getElem?_set, h2, ofO_some]
      simp only [h3, does_keep_t, bind_ok, keep_holds]
      rfl⟩
  simp [initE, List.replicate, retS, retN, seqS, asgS, exprS, ifS, parS, skipS, setAll, varE, cstE, nilL, consL, tupE, mkL, un1, bin2, andE, orE, ifE, chainE, boolT, truthT, notT, andT, orT, yesT, callE, nameG, tupG, consG, nilG, itemsD, opNot, opAdd, opSub, opDiv, opMod, opNeg, opEq, opNe, opLt, opLe, opGt, opGe, opIsNot, opIs, isC, eqD, ltD, leD, truth, at_nat, at_0, at_1, at_2, at_3, at_4, opIx, fLen, coreE, coreL, opIsi, isTy, opAbs, opMax, opMin, opInt, opMul, b_do_demands_hold, h1, fAll_map, allH]
theorem stay_dms (m : Mc) (p : Nat) (h : McOk m) (hp : p < m.p) : (m.st.map dms)[p]? = some (dms (m.stay p)) := getElem?_mapD dms [] m.st p (by rw [h.sl]; exact hp)
theorem stay_get (m : Mc) (p : Nat) (h : McOk m) (hp : p < m.p) : m.st[p]? = some (m.stay p) := by
  have : p < m.st.length := by rw [h.sl]; exact hp
  rw [Mc.stay, List.getD_eq_getElem?_getD, List.getElem?_eq_getElem this]; rfl
theorem edge_get (m : Mc) (e : Nat) (he : e < m.es.length) : m.es[e]? = some (m.edge e) := by
  rw [Mc.edge, List.getD_eq_getElem?_getD, List.getElem?_eq_getElem he]; rfl
theorem stay_ok (m : Mc) (p : Nat) (h : McOk m) (hp : p < m.p) : DmsOk m.k (m.stay p) ∧ (m.stay p).length ≤ 4 ∧ ∀ x ∈ m.stay p, x.r.stay = true := by
  refine h.st _ ?_
  have : p < m.st.length := by rw [h.sl]; exact hp
  rw [Mc.stay, List.getD_eq_getElem?_getD, List.getElem?_eq_getElem this]
  exact List.getElem_mem this
theorem edge_d (m : Mc) (e : Nat) (he : e < m.es.length) : (m.es.map Ed.d)[e]? = some (m.edge e).d := getElem?_mapD Ed.d _ m.es e he
theorem edge_ok (m : Mc) (e : Nat) (h : McOk m) (he : e < m.es.length) : EdOk m.p m.k (m.edge e) := by
  refine h.es _ ?_
  rw [Mc.edge, List.getD_eq_getElem?_getD, List.getElem?_eq_getElem he]
  exact List.getElem_mem he
theorem let_in_t (n : Nat) (m : Mc) (p : Nat) (ts : List Rat) (S : Store) (hm : McOk m) (hp : p < m.p) (hl : ts.length = m.k) : ev (n + 3) j_is_let_in [m.d, std p ts] S = .ok (.bl (letIn m p ts)) S := by
  rw [u_is_let_in]
  refine run_val rfl (by simp [initE, List.replicate, retS, retN, seqS, asgS, exprS, ifS, parS, skipS, setAll, varE, cstE, nilL, consL, tupE, mkL, un1, bin2, andE, orE, ifE, chainE, boolT, truthT, notT, andT, orT, yesT, callE, nameG, tupG, consG, nilG, itemsD, opNot, opAdd, opSub, opDiv, opMod, opNeg, opEq, opNe, opLt, opLe, opGt, opGe, opIsNot, opIs, isC, eqD, ltD, leD, truth, at_nat, at_0, at_1, at_2, at_3, at_4, opIx, fLen, coreE, coreL, opIsi, isTy, opAbs, opMax, opMin, opInt, opMul]) ?_
  have e : initE 2 [m.d, std p ts] = [some (.tup [.int m.p, .int m.k, .tup (m.st.map dms), .tup (m.es.map Ed.d)]), some (.tup [.int p, tms ts])] := rfl
  rw [e]
  have h1 := stay_get m p hm hp
  obtain ⟨a, b, _⟩ := stay_ok m p hm hp
  have h2 := hold_t n m.k ts (m.stay p) ⟨S.objs, []⟩ a hl (by omega)
  simp [initE, List.replicate, retS, retN, seqS, asgS, exprS, ifS, parS, skipS, setAll, varE, cstE, nilL, consL, tupE, mkL, un1, bin2, andE, orE, ifE, chainE, boolT, truthT, notT, andT, orT, yesT, callE, nameG, tupG, consG, nilG, itemsD, opNot, opAdd, opSub, opDiv, opMod, opNeg, opEq, opNe, opLt, opLe, opGt, opGe, opIsNot, opIs, isC, eqD, ltD, leD, truth, at_nat, at_0, at_1, at_2, at_3, at_4, opIx, fLen, coreE, coreL, opIsi, isTy, opAbs, opMax, opMin, opInt, opMul, b_is_let_in, h1, h2, letIn]
theorem after_wait_t (n : Nat) (m : Mc) (p : Nat) (ts : List Rat) (w : Rat) (S : Store) (hm : McOk m) (h : StOk m p ts) (hw : ok64 w) :
    ev (n + 4) j_after_wait [m.d, std p ts, tm w] S = .ok (if letIn m p ts && letIn m p (ts.map (· + w)) then std p (ts.map (· + w)) else .non) S := by
  rw [u_after_wait]
  refine run_val rfl (by split <;> simp [initE, List.replicate, retS, retN, seqS, asgS, exprS, ifS, parS, skipS, setAll, varE, cstE, nilL, consL, tupE, mkL, un1, bin2, andE, orE, ifE, chainE, boolT, truthT, notT, andT, orT, yesT, callE, nameG, tupG, consG, nilG, itemsD, opNot, opAdd, opSub, opDiv, opMod, opNeg, opEq, opNe, opLt, opLe, opGt, opGe, opIsNot, opIs, isC, eqD, ltD, leD, truth, at_nat, at_0, at_1, at_2, at_3, at_4, opIx, fLen, coreE, coreL, opIsi, isTy, opAbs, opMax, opMin, opInt, opMul, flat_std]) ?_
  have e : initE 5 [m.d, std p ts, tm w] = [some m.d, some (.tup [.int p, .tup (ts.map tm)]), some (tm w), none, none] := rfl
  rw [e]
  have h1 : lc_after_wait_1 (ev (n + 3)) [some m.d, some (.tup [.int p, .tup (ts.map tm)]), some (tm w), none, none] ⟨S.objs, []⟩ = .ok (ts.map fun x => tm (x + w)) ⟨S.objs, []⟩ := by
    unfold lc_after_wait_1
    rw [lcL_val rfl]
    exact lc_mapM tm _ ts (by rw [FU_eq, h.l]; have := hm.k; omega) fun x hx => ⟨_, rfl, rfl, by
      simp [initE, List.replicate, retS, retN, seqS, asgS, exprS, ifS, parS, skipS, setAll, varE, cstE, nilL, consL, tupE, mkL, un1, bin2, andE, orE, ifE, chainE, boolT, truthT, notT, andT, orT, yesT, callE, nameG, tupG, consG, nilG, itemsD, opNot, opAdd, opSub, opDiv, opMod, opNeg, opEq, opNe, opLt, opLe, opGt, opGe, opIsNot, opIs, isC, eqD, ltD, leD, truth, at_nat, at_0, at_1, at_2, at_3, at_4, opIx, fLen, coreE, coreL, opIsi, isTy, opAbs, opMax, opMin, opInt, opMul, wipeE, put_together_t n x w _ (h.t x hx).2 hw]⟩
  have h2 := let_in_t n m p ts ⟨S.objs, []⟩ hm h.p h.l
  have h3 := let_in_t n m p (ts.map (· + w)) ⟨S.objs, []⟩ hm h.p (by rw [List.length_map]; exact h.l)
  have h4 : fTup (ts.map fun x => tm (x + w)) = some (tms (ts.map (· + w))) := by
    rw [fTup_le (by rw [List.length_map, h.l]; have := hm.k; omega), tms, List.map_map]; rfl
  simp only [std, tms, List.map_map] at h2 h3 h4 ⊢
  simp [initE, List.replicate, retS, retN, seqS, asgS, exprS, ifS, parS, skipS, setAll, varE, cstE, nilL, consL, tupE, mkL, un1, bin2, andE, orE, ifE, chainE, boolT, truthT, notT, andT, orT, yesT, callE, nameG, tupG, consG, nilG, itemsD, opNot, opAdd, opSub, opDiv, opMod, opNeg, opEq, opNe, opLt, opLe, opGt, opGe, opIsNot, opIs, isC, eqD, ltD, leD, truth, at_nat, at_0, at_1, at_2, at_3, at_4, opIx, fLen, coreE, coreL, opIsi, isTy, opAbs, opMax, opMin, opInt, opMul, b_after_wait, h1, h4, h2, h3]
  cases letIn m p ts <;> cases letIn m p (ts.map (· + w)) <;> simp [initE, List.replicate, retS, retN, seqS, asgS, exprS, ifS, parS, skipS, setAll, varE, cstE, nilL, consL, tupE, mkL, un1, bin2, andE, orE, ifE, chainE, boolT, truthT, notT, andT, orT, yesT, callE, nameG, tupG, consG, nilG, itemsD, opNot, opAdd, opSub, opDiv, opMod, opNeg, opEq, opNe, opLt, opLe, opGt, opGe, opIsNot, opIs, isC, eqD, ltD, leD, truth, at_nat, at_0, at_1, at_2, at_3, at_4, opIx, fLen, coreE, coreL, opIsi, isTy, opAbs, opMax, opMin, opInt, opMul]
def rst (rs : List Nat) (i : Nat) : List Rat → List Rat
  | [] => []
  | t :: ts => (if rs.contains i then 0 else t) :: rst rs (i + 1) ts
theorem rst_len (rs : List Nat) : ∀ (ts : List Rat) (i : Nat), (rst rs i ts).length = ts.length
  | [], _ => rfl
  | t :: ts, i => by simp [initE, List.replicate, retS, retN, seqS, asgS, exprS, ifS, parS, skipS, setAll, varE, cstE, nilL, consL, tupE, mkL, un1, bin2, andE, orE, ifE, chainE, boolT, truthT, notT, andT, orT, yesT, callE, nameG, tupG, consG, nilG, itemsD, opNot, opAdd, opSub, opDiv, opMod, opNeg, opEq, opNe, opLt, opLe, opGt, opGe, opIsNot, opIs, isC, eqD, ltD, leD, truth, at_nat, at_0, at_1, at_2, at_3, at_4, opIx, fLen, coreE, coreL, opIsi, isTy, opAbs, opMax, opMin, opInt, opMul, rst, rst_len rs ts]
theorem rst_enum (rs : List Nat) : ∀ (ts : List Rat) (i : Nat), enumM (fun i t => if rs.contains i then tm 0 else tm t) i ts = (rst rs i ts).map tm
  | [], _ => rfl
  | t :: ts, i => by
    rw [enumM, rst, List.map_cons, rst_enum rs ts]
    congr 1
    split <;> rfl
def edgeTo (m : Mc) (p : Nat) (ts : List Rat) (e : Nat) : Option (Nat × List Rat) :=
  if (m.edge e).s = p ∧ letIn m p ts = true ∧ allH ts (m.edge e).g = true ∧ letIn m (m.edge e).t (rst (m.edge e).rs 0 ts) = true then some ((m.edge e).t, rst (m.edge e).rs 0 ts) else none
def stO : Option (Nat × List Rat) → D
  | some x => std x.1 x.2
  | none => .non
theorem tm_zero : tm 0 = .tup [.int 0, .int 1] := rfl
theorem after_edge_t (n : Nat) (m : Mc) (p : Nat) (ts : List Rat) (e : Nat) (S : Store) (hm : McOk m) (hp : p < m.p) (hl : ts.length = m.k) (he : e < m.es.length) :
    ev (n + 4) j_after_edge [m.d, std p ts, .int e] S = .ok (stO (edgeTo m p ts e)) S := by
  rw [u_after_edge]
  refine run_val rfl (by unfold stO; split <;> simp [initE, List.replicate, retS, retN, seqS, asgS, exprS, ifS, parS, skipS, setAll, varE, cstE, nilL, consL, tupE, mkL, un1, bin2, andE, orE, ifE, chainE, boolT, truthT, notT, andT, orT, yesT, callE, nameG, tupG, consG, nilG, itemsD, opNot, opAdd, opSub, opDiv, opMod, opNeg, opEq, opNe, opLt, opLe, opGt, opGe, opIsNot, opIs, isC, eqD, ltD, leD, truth, at_nat, at_0, at_1, at_2, at_3, at_4, opIx, fLen, coreE, coreL, opIsi, isTy, opAbs, opMax, opMin, opInt, opMul, flat_std]) ?_
  have e0 : initE 11 [m.d, std p ts, .int e] = [some (.tup [.int m.p, .int m.k, .tup (m.st.map dms), .tup (m.es.map Ed.d)]), some (.tup [.int p, .tup (ts.map tm)]), some (.int e), none, none, none, none, none, none, none, none] := rfl
  rw [e0]
  have hx := edge_ok m e hm he
  have h1 := edge_get m e he
  generalize hE : m.edge e = x at *
  have h2 := let_in_t n m p ts ⟨S.objs, []⟩ hm hp hl
  have h3 := hold_t (n + 1) m.k ts x.g ⟨S.objs, []⟩ hx.g hl (by have := hx.gl; omega)
  have h4 := let_in_t n m x.t (rst x.rs 0 ts) ⟨S.objs, []⟩ hm hx.t (by rw [rst_len]; exact hl)
  have h5 : ∀ a b c d, lc_after_edge_1 (ev (n + 3)) [some (.tup [.int m.p, .int m.k, .tup (m.st.map dms), .tup (m.es.map Ed.d)]), some (.tup [.int p, .tup (ts.map tm)]), some (.int e), a, some b, some c, some d, some (dms x.g), some (nts x.rs), none, none] ⟨S.objs, []⟩ = .ok ((rst x.rs 0 ts).map tm) ⟨S.objs, []⟩ := fun a b c d => by
    unfold lc_after_edge_1
    rw [lcL_src (src := .enum 0 (.fix (ts.map tm))) (S1 := ⟨S.objs, []⟩) (by simp [initE, List.replicate, retS, retN, seqS, asgS, exprS, ifS, parS, skipS, setAll, varE, cstE, nilL, consL, tupE, mkL, un1, bin2, andE, orE, ifE, chainE, boolT, truthT, notT, andT, orT, yesT, callE, nameG, tupG, consG, nilG, itemsD, opNot, opAdd, opSub, opDiv, opMod, opNeg, opEq, opNe, opLt, opLe, opGt, opGe, opIsNot, opIs, isC, eqD, ltD, leD, truth, at_nat, at_0, at_1, at_2, at_3, at_4, opIx, fLen, coreE, coreL, opIsi, isTy, opAbs, opMax, opMin, opInt, opMul, enumI, srcOf])]
    rw [lc_enum tm (fun i t => if x.rs.contains i then tm 0 else tm t) ts 0 FU [] (by rw [FU_eq, hl]; have := hm.k; omega) fun i t ht => ⟨_, rfl, rfl, ?_⟩]
    · rw [rst_enum]; rfl
    · have h6 := memD_nat i x.rs
      simp only [ifE, boolT, bin2, opIn, varE, cstE, wipeE, List.set_cons_succ, List.set_cons_zero, List.getElem?_cons_succ, List.getElem?_cons_zero, bind_ok, inD, nts]
      rw [show memD (.int i) (x.rs.map nt) = some (x.rs.contains i) from h6]
      simp only [bind_ok]
      cases x.rs.contains i <;> rfl
  have h6 : fTup ((rst x.rs 0 ts).map tm) = some (tms (rst x.rs 0 ts)) := fTup_le (by rw [List.length_map, rst_len, hl]; have := hm.k; omega)
  have hd : x.d = .tup [.int x.s, .int x.t, .int x.l, dms x.g, nts x.rs] := rfl
  simp only [Mc.d, std, tms] at h2 h3 h4 h6
  unfold edgeTo
  rw [hE]
  by_cases a1 : x.s = p
  · subst a1
    cases a2 : letIn m x.s ts
    · simp [initE, List.replicate, retS, retN, seqS, asgS, exprS, ifS, parS, skipS, setAll, varE, cstE, nilL, consL, tupE, mkL, un1, bin2, andE, orE, ifE, chainE, boolT, truthT, notT, andT, orT, yesT, callE, nameG, tupG, consG, nilG, itemsD, opNot, opAdd, opSub, opDiv, opMod, opNeg, opEq, opNe, opLt, opLe, opGt, opGe, opIsNot, opIs, isC, eqD, ltD, leD, truth, at_nat, at_0, at_1, at_2, at_3, at_4, opIx, fLen, coreE, coreL, opIsi, isTy, opAbs, opMax, opMin, opInt, opMul, b_after_edge, h1, hd, h2, a2, stO]
    · cases a3 : allH ts x.g
      · simp [initE, List.replicate, retS, retN, seqS, asgS, exprS, ifS, parS, skipS, setAll, varE, cstE, nilL, consL, tupE, mkL, un1, bin2, andE, orE, ifE, chainE, boolT, truthT, notT, andT, orT, yesT, callE, nameG, tupG, consG, nilG, itemsD, opNot, opAdd, opSub, opDiv, opMod, opNeg, opEq, opNe, opLt, opLe, opGt, opGe, opIsNot, opIs, isC, eqD, ltD, leD, truth, at_nat, at_0, at_1, at_2, at_3, at_4, opIx, fLen, coreE, coreL, opIsi, isTy, opAbs, opMax, opMin, opInt, opMul, b_after_edge, h1, hd, h2, h3, a2, a3, stO]
      · cases a4 : letIn m x.t (rst x.rs 0 ts)
        · simp [initE, List.replicate, retS, retN, seqS, asgS, exprS, ifS, parS, skipS, setAll, varE, cstE, nilL, consL, tupE, mkL, un1, bin2, andE, orE, ifE, chainE, boolT, truthT, notT, andT, orT, yesT, callE, nameG, tupG, consG, nilG, itemsD, opNot, opAdd, opSub, opDiv, opMod, opNeg, opEq, opNe, opLt, opLe, opGt, opGe, opIsNot, opIs, isC, eqD, ltD, leD, truth, at_nat, at_0, at_1, at_2, at_3, at_4, opIx, fLen, coreE, coreL, opIsi, isTy, opAbs, opMax, opMin, opInt, opMul, b_after_edge, h1, hd, h2, h3, a2, a3, h5, h6, h4, a4, stO]
        · simp [initE, List.replicate, retS, retN, seqS, asgS, exprS, ifS, parS, skipS, setAll, varE, cstE, nilL, consL, tupE, mkL, un1, bin2, andE, orE, ifE, chainE, boolT, truthT, notT, andT, orT, yesT, callE, nameG, tupG, consG, nilG, itemsD, opNot, opAdd, opSub, opDiv, opMod, opNeg, opEq, opNe, opLt, opLe, opGt, opGe, opIsNot, opIs, isC, eqD, ltD, leD, truth, at_nat, at_0, at_1, at_2, at_3, at_4, opIx, fLen, coreE, coreL, opIsi, isTy, opAbs, opMax, opMin, opInt, opMul, b_after_edge, h1, hd, h2, h3, a2, a3, h5, h6, h4, a4, stO, std, tms]
  · have a1' : ¬ (p : Int) = (x.s : Int) := by omega
    have a1'' : ¬ p = x.s := fun z => a1 z.symm
    simp [initE, List.replicate, retS, retN, seqS, asgS, exprS, ifS, parS, skipS, setAll, varE, cstE, nilL, consL, tupE, mkL, un1, bin2, andE, orE, ifE, chainE, boolT, truthT, notT, andT, orT, yesT, callE, nameG, tupG, consG, nilG, itemsD, opNot, opAdd, opSub, opDiv, opMod, opNeg, opEq, opNe, opLt, opLe, opGt, opGe, opIsNot, opIs, isC, eqD, ltD, leD, truth, at_nat, at_0, at_1, at_2, at_3, at_4, opIx, fLen, coreE, coreL, opIsi, isTy, opAbs, opMax, opMin, opInt, opMul, b_after_edge, h1, hd, a1, a1', a1'', stO]
theorem is_let_t (n : Nat) (m : Mc) (p : Nat) (ts : List Rat) (S : Store) (hm : McOk m) (h : StOk m p ts) : ev (n + 9) j_is_let [m.d, std p ts] S = .ok (.bl (letIn m p ts)) S := by
  rw [u_is_let]
  refine run_val rfl (by simp [initE, List.replicate, retS, retN, seqS, asgS, exprS, ifS, parS, skipS, setAll, varE, cstE, nilL, consL, tupE, mkL, un1, bin2, andE, orE, ifE, chainE, boolT, truthT, notT, andT, orT, yesT, callE, nameG, tupG, consG, nilG, itemsD, opNot, opAdd, opSub, opDiv, opMod, opNeg, opEq, opNe, opLt, opLe, opGt, opGe, opIsNot, opIs, isC, eqD, ltD, leD, truth, at_nat, at_0, at_1, at_2, at_3, at_4, opIx, fLen, coreE, coreL, opIsi, isTy, opAbs, opMax, opMin, opInt, opMul]) ?_
  have h1 := need_both_t n m p ts ⟨S.objs, []⟩ hm h
  have h2 := let_in_t (n + 5) m p ts ⟨S.objs, []⟩ hm h.p h.l
  simp [initE, List.replicate, retS, retN, seqS, asgS, exprS, ifS, parS, skipS, setAll, varE, cstE, nilL, consL, tupE, mkL, un1, bin2, andE, orE, ifE, chainE, boolT, truthT, notT, andT, orT, yesT, callE, nameG, tupG, consG, nilG, itemsD, opNot, opAdd, opSub, opDiv, opMod, opNeg, opEq, opNe, opLt, opLe, opGt, opGe, opIsNot, opIs, isC, eqD, ltD, leD, truth, at_nat, at_0, at_1, at_2, at_3, at_4, opIx, fLen, coreE, coreL, opIsi, isTy, opAbs, opMax, opMin, opInt, opMul, b_is_let, h1, h2]
theorem waited_t (n : Nat) (m : Mc) (p : Nat) (ts : List Rat) (w : Rat) (S : Store) (hm : McOk m) (h : StOk m p ts) (hw : ok64 w) (h0 : 0 ≤ w) :
    ev (n + 9) j_waited [m.d, std p ts, tm w] S = .ok (if letIn m p ts && letIn m p (ts.map (· + w)) then std p (ts.map (· + w)) else .non) S := by
  rw [u_waited]
  refine run_val rfl (by split <;> simp [initE, List.replicate, retS, retN, seqS, asgS, exprS, ifS, parS, skipS, setAll, varE, cstE, nilL, consL, tupE, mkL, un1, bin2, andE, orE, ifE, chainE, boolT, truthT, notT, andT, orT, yesT, callE, nameG, tupG, consG, nilG, itemsD, opNot, opAdd, opSub, opDiv, opMod, opNeg, opEq, opNe, opLt, opLe, opGt, opGe, opIsNot, opIs, isC, eqD, ltD, leD, truth, at_nat, at_0, at_1, at_2, at_3, at_4, opIx, fLen, coreE, coreL, opIsi, isTy, opAbs, opMax, opMin, opInt, opMul, flat_std]) ?_
  have h1 := need_both_t n m p ts ⟨S.objs, []⟩ hm h
  have h2 := after_wait_t (n + 4) m p ts w ⟨S.objs, []⟩ hm h hw
  have h3 := need_time_t (n + 4) w ⟨S.objs, []⟩ h0 hw
  simp [initE, List.replicate, retS, retN, seqS, asgS, exprS, ifS, parS, skipS, setAll, varE, cstE, nilL, consL, tupE, mkL, un1, bin2, andE, orE, ifE, chainE, boolT, truthT, notT, andT, orT, yesT, callE, nameG, tupG, consG, nilG, itemsD, opNot, opAdd, opSub, opDiv, opMod, opNeg, opEq, opNe, opLt, opLe, opGt, opGe, opIsNot, opIs, isC, eqD, ltD, leD, truth, at_nat, at_0, at_1, at_2, at_3, at_4, opIx, fLen, coreE, coreL, opIsi, isTy, opAbs, opMax, opMin, opInt, opMul, b_waited, h1, h2, h3]
theorem edged_t (n : Nat) (m : Mc) (p : Nat) (ts : List Rat) (e : Nat) (S : Store) (hm : McOk m) (h : StOk m p ts) (he : e < m.es.length) :
    ev (n + 9) j_edged [m.d, std p ts, .int e] S = .ok (stO (edgeTo m p ts e)) S := by
  rw [u_edged]
  refine run_val rfl (by unfold stO; split <;> simp [initE, List.replicate, retS, retN, seqS, asgS, exprS, ifS, parS, skipS, setAll, varE, cstE, nilL, consL, tupE, mkL, un1, bin2, andE, orE, ifE, chainE, boolT, truthT, notT, andT, orT, yesT, callE, nameG, tupG, consG, nilG, itemsD, opNot, opAdd, opSub, opDiv, opMod, opNeg, opEq, opNe, opLt, opLe, opGt, opGe, opIsNot, opIs, isC, eqD, ltD, leD, truth, at_nat, at_0, at_1, at_2, at_3, at_4, opIx, fLen, coreE, coreL, opIsi, isTy, opAbs, opMax, opMin, opInt, opMul, flat_std]) ?_
  have h1 := need_both_t n m p ts ⟨S.objs, []⟩ hm h
  have h2 := after_edge_t (n + 4) m p ts e ⟨S.objs, []⟩ hm h.p h.l he
  have h3 := need_edge_t (n + 5) m e ⟨S.objs, []⟩ he
  simp [initE, List.replicate, retS, retN, seqS, asgS, exprS, ifS, parS, skipS, setAll, varE, cstE, nilL, consL, tupE, mkL, un1, bin2, andE, orE, ifE, chainE, boolT, truthT, notT, andT, orT, yesT, callE, nameG, tupG, consG, nilG, itemsD, opNot, opAdd, opSub, opDiv, opMod, opNeg, opEq, opNe, opLt, opLe, opGt, opGe, opIsNot, opIs, isC, eqD, ltD, leD, truth, at_nat, at_0, at_1, at_2, at_3, at_4, opIx, fLen, coreE, coreL, opIsi, isTy, opAbs, opMax, opMin, opInt, opMul, b_edged, h1, h2, h3]
end K81
set_option Elab.async false
set_option linter.all false
set_option maxRecDepth 100000
set_option maxHeartbeats 4000000
namespace K81
open PySem Ev
theorem eqD_tm (S : Store) (q r : Rat) : eqD S (tm q) (tm r) = some (decide (q = r)) := by
  have e : eqD S (tm q) (tm r) = eqPy (some (.tuple [.int q.num, .int q.den])) (some (.tuple [.int r.num, .int r.den])) := rfl
  rw [e]
  have e2 : eqPy (some (.tuple [.int q.num, .int q.den])) (some (.tuple [.int r.num, .int r.den])) = some (decide (q.num = r.num) && (decide ((q.den : Int) = r.den) && true)) := rfl
  rw [e2]
  congr 1
  rw [Bool.and_true, ← Bool.decide_and, decide_eq_decide]
  constructor
  · rintro ⟨h1, h2⟩
    exact Rat.ext h1 (by omega)
  · rintro rfl
    exact ⟨rfl, rfl⟩
theorem opEq_tm (q r : Rat) (S : Store) : opEq (tm q) (tm r) S = .ok (.bl (decide (q = r))) S := by
  unfold opEq; rw [eqD_tm]
theorem opNe_tm (q r : Rat) (S : Store) : opNe (tm q) (tm r) S = .ok (.bl (!decide (q = r))) S := by
  unfold opNe; rw [eqD_tm]
def otm : Option Rat → D
  | none => .non
  | some q => tm q
def begD (b : Rat × Bool) : D := .tup [tm b.1, .bl b.2]
def endD (e : Option Rat × Bool) : D := .tup [otm e.1, .bl e.2]
theorem flat_otm (e : Option Rat) : flat (otm e) = true := by cases e <;> simp [initE, List.replicate, retS, retN, seqS, asgS, exprS, ifS, parS, skipS, setAll, varE, cstE, nilL, consL, tupE, mkL, un1, bin2, andE, orE, ifE, chainE, boolT, truthT, notT, andT, orT, yesT, callE, nameG, tupG, consG, nilG, itemsD, opNot, opAdd, opSub, opDiv, opMod, opNeg, opEq, opNe, opLt, opLe, opGt, opGe, opIsNot, opIs, eqD, ltD, leD, truth, at_nat, at_0, at_1, at_2, at_3, at_4, opIx, fLen, coreE, coreL, opIsi, isTy, opAbs, opMax, opMin, opInt, opMul, otm, flat_tm]
theorem flat_begD (b : Rat × Bool) : flat (begD b) = true := by simp [initE, List.replicate, retS, retN, seqS, asgS, exprS, ifS, parS, skipS, setAll, varE, cstE, nilL, consL, tupE, mkL, un1, bin2, andE, orE, ifE, chainE, boolT, truthT, notT, andT, orT, yesT, callE, nameG, tupG, consG, nilG, itemsD, opNot, opAdd, opSub, opDiv, opMod, opNeg, opEq, opNe, opLt, opLe, opGt, opGe, opIsNot, opIs, eqD, ltD, leD, truth, at_nat, at_0, at_1, at_2, at_3, at_4, opIx, fLen, coreE, coreL, opIsi, isTy, opAbs, opMax, opMin, opInt, opMul, begD, flat_tm]
theorem flat_endD (b : Option Rat × Bool) : flat (endD b) = true := by simp [initE, List.replicate, retS, retN, seqS, asgS, exprS, ifS, parS, skipS, setAll, varE, cstE, nilL, consL, tupE, mkL, un1, bin2, andE, orE, ifE, chainE, boolT, truthT, notT, andT, orT, yesT, callE, nameG, tupG, consG, nilG, itemsD, opNot, opAdd, opSub, opDiv, opMod, opNeg, opEq, opNe, opLt, opLe, opGt, opGe, opIsNot, opIs, eqD, ltD, leD, truth, at_nat, at_0, at_1, at_2, at_3, at_4, opIx, fLen, coreE, coreL, opIsi, isTy, opAbs, opMax, opMin, opInt, opMul, endD, flat_otm]
theorem is_nn : isC .non .non = true := rfl
theorem is_nt (ds : List D) : isC .non (.tup ds) = false := rfl
theorem is_nr (k : Nat) : isC .non (.ref k) = false := rfl
theorem is_nb (b : Bool) : isC .non (.bl b) = false := rfl
theorem is_ni (b : Int) : isC .non (.int b) = false := rfl
theorem is_ntm (q : Rat) : isC .non (tm q) = false := rfl
theorem is_nst (p : Nat) (ts : List Rat) : isC .non (std p ts) = false := rfl
theorem later_begin_t (n : Nat) (b : Rat × Bool) (l : Rat) (c : Bool) (S : Store) (hb : ok64 b.1) (hl : ok64 l) : ev (n + 2) j_later_begin [begD b, .tup [tm l, .bl c]] S = .ok (begD (begA b l c)) S := by
  rw [u_later_begin]
  refine run_val rfl (flat_begD _) ?_
  obtain ⟨x, k⟩ := b
  have e : initE 2 [begD (x, k), .tup [tm l, .bl c]] = [some (.tup [tm x, .bl k]), some (.tup [tm l, .bl c])] := rfl
  rw [e]
  have h1 := is_under_t n x l ⟨S.objs, []⟩ hb hl
  have h2 := opEq_tm x l ⟨S.objs, []⟩
  by_cases h : x = l
  · subst h
    cases k <;> cases c <;> simp [initE, List.replicate, retS, retN, seqS, asgS, exprS, ifS, parS, skipS, setAll, varE, cstE, nilL, consL, tupE, mkL, un1, bin2, andE, orE, ifE, chainE, boolT, truthT, notT, andT, orT, yesT, callE, nameG, tupG, consG, nilG, itemsD, opNot, opAdd, opSub, opDiv, opMod, opNeg, opLt, opLe, opGt, opGe, opIsNot, opIs, eqD, ltD, leD, truth, at_nat, at_0, at_1, at_2, at_3, at_4, opIx, fLen, coreE, coreL, opIsi, isTy, opAbs, opMax, opMin, opInt, opMul, is_nn, is_nt, is_nr, is_nb, is_ni, is_ntm, is_nst, b_later_begin, begA, begD, h2]
  · by_cases h' : x < l
    · simp [initE, List.replicate, retS, retN, seqS, asgS, exprS, ifS, parS, skipS, setAll, varE, cstE, nilL, consL, tupE, mkL, un1, bin2, andE, orE, ifE, chainE, boolT, truthT, notT, andT, orT, yesT, callE, nameG, tupG, consG, nilG, itemsD, opNot, opAdd, opSub, opDiv, opMod, opNeg, opLt, opLe, opGt, opGe, opIsNot, opIs, eqD, ltD, leD, truth, at_nat, at_0, at_1, at_2, at_3, at_4, opIx, fLen, coreE, coreL, opIsi, isTy, opAbs, opMax, opMin, opInt, opMul, is_nn, is_nt, is_nr, is_nb, is_ni, is_ntm, is_nst, b_later_begin, begA, begD, h2, h1, h, h']
    · simp [initE, List.replicate, retS, retN, seqS, asgS, exprS, ifS, parS, skipS, setAll, varE, cstE, nilL, consL, tupE, mkL, un1, bin2, andE, orE, ifE, chainE, boolT, truthT, notT, andT, orT, yesT, callE, nameG, tupG, consG, nilG, itemsD, opNot, opAdd, opSub, opDiv, opMod, opNeg, opLt, opLe, opGt, opGe, opIsNot, opIs, eqD, ltD, leD, truth, at_nat, at_0, at_1, at_2, at_3, at_4, opIx, fLen, coreE, coreL, opIsi, isTy, opAbs, opMax, opMin, opInt, opMul, is_nn, is_nt, is_nr, is_nb, is_ni, is_ntm, is_nst, b_later_begin, begA, begD, h2, h1, h, h']
theorem earlier_end_t (n : Nat) (b : Option Rat × Bool) (l : Rat) (c : Bool) (S : Store) (hb : ∀ q, b.1 = some q → ok64 q) (hl : ok64 l) : ev (n + 2) j_earlier_end [endD b, .tup [tm l, .bl c]] S = .ok (endD (endA b l c)) S := by
  rw [u_earlier_end]
  refine run_val rfl (flat_endD _) ?_
  obtain ⟨x, k⟩ := b
  cases x with
  | none =>
    simp [initE, List.replicate, retS, retN, seqS, asgS, exprS, ifS, parS, skipS, setAll, varE, cstE, nilL, consL, tupE, mkL, un1, bin2, andE, orE, ifE, chainE, boolT, truthT, notT, andT, orT, yesT, callE, nameG, tupG, consG, nilG, itemsD, opNot, opAdd, opSub, opDiv, opMod, opNeg, opLt, opLe, opGt, opGe, opIsNot, opIs, eqD, ltD, leD, truth, at_nat, at_0, at_1, at_2, at_3, at_4, opIx, fLen, coreE, coreL, opIsi, isTy, opAbs, opMax, opMin, opInt, opMul, is_nn, is_nt, is_nr, is_nb, is_ni, is_ntm, is_nst, b_earlier_end, endA, endD, otm]
  | some x =>
    have e : initE 2 [endD (some x, k), .tup [tm l, .bl c]] = [some (.tup [tm x, .bl k]), some (.tup [tm l, .bl c])] := rfl
    rw [e]
    have h1 := is_under_t n x l ⟨S.objs, []⟩ (hb x rfl) hl
    have h2 := opEq_tm x l ⟨S.objs, []⟩
    by_cases h : x = l
    · subst h
      cases k <;> cases c <;> simp [initE, List.replicate, retS, retN, seqS, asgS, exprS, ifS, parS, skipS, setAll, varE, cstE, nilL, consL, tupE, mkL, un1, bin2, andE, orE, ifE, chainE, boolT, truthT, notT, andT, orT, yesT, callE, nameG, tupG, consG, nilG, itemsD, opNot, opAdd, opSub, opDiv, opMod, opNeg, opLt, opLe, opGt, opGe, opIsNot, opIs, eqD, ltD, leD, truth, at_nat, at_0, at_1, at_2, at_3, at_4, opIx, fLen, coreE, coreL, opIsi, isTy, opAbs, opMax, opMin, opInt, opMul, is_nn, is_nt, is_nr, is_nb, is_ni, is_ntm, is_nst, b_earlier_end, endA, endD, otm, h2]
    · by_cases h' : x < l
      · simp [initE, List.replicate, retS, retN, seqS, asgS, exprS, ifS, parS, skipS, setAll, varE, cstE, nilL, consL, tupE, mkL, un1, bin2, andE, orE, ifE, chainE, boolT, truthT, notT, andT, orT, yesT, callE, nameG, tupG, consG, nilG, itemsD, opNot, opAdd, opSub, opDiv, opMod, opNeg, opLt, opLe, opGt, opGe, opIsNot, opIs, eqD, ltD, leD, truth, at_nat, at_0, at_1, at_2, at_3, at_4, opIx, fLen, coreE, coreL, opIsi, isTy, opAbs, opMax, opMin, opInt, opMul, is_nn, is_nt, is_nr, is_nb, is_ni, is_ntm, is_nst, b_earlier_end, endA, endD, otm, h2, h1, h, h']
      · simp [initE, List.replicate, retS, retN, seqS, asgS, exprS, ifS, parS, skipS, setAll, varE, cstE, nilL, consL, tupE, mkL, un1, bin2, andE, orE, ifE, chainE, boolT, truthT, notT, andT, orT, yesT, callE, nameG, tupG, consG, nilG, itemsD, opNot, opAdd, opSub, opDiv, opMod, opNeg, opLt, opLe, opGt, opGe, opIsNot, opIs, eqD, ltD, leD, truth, at_nat, at_0, at_1, at_2, at_3, at_4, opIx, fLen, coreE, coreL, opIsi, isTy, opAbs, opMax, opMin, opInt, opMul, is_nn, is_nt, is_nr, is_nb, is_ni, is_ntm, is_nst, b_earlier_end, endA, endD, otm, h2, h1, h, h']
def ivO (I : Iv) : O := .ins 0 [(0, begD (I.b, I.bc)), (1, endD (I.e, I.ec))]
theorem addD_one (n : Nat) : addD n (addD n []) = [n] := by unfold addD; simp [initE, List.replicate, retS, retN, seqS, asgS, exprS, ifS, parS, skipS, setAll, varE, cstE, nilL, consL, tupE, mkL, un1, bin2, andE, orE, ifE, chainE, boolT, truthT, notT, andT, orT, yesT, callE, nameG, tupG, consG, nilG, itemsD, opNot, opAdd, opSub, opDiv, opMod, opNeg, opLt, opLe, opGt, opGe, opIsNot, opIs, eqD, ltD, leD, truth, at_nat, at_0, at_1, at_2, at_3, at_4, opIx, fLen, coreE, coreL, opIsi, isTy, opAbs, opMax, opMin, opInt, opMul, is_nn, is_nt, is_nr, is_nb, is_ni, is_ntm, is_nst]
theorem addD_nil (n : Nat) : addD n [] = [n] := by unfold addD; simp [initE, List.replicate, retS, retN, seqS, asgS, exprS, ifS, parS, skipS, setAll, varE, cstE, nilL, consL, tupE, mkL, un1, bin2, andE, orE, ifE, chainE, boolT, truthT, notT, andT, orT, yesT, callE, nameG, tupG, consG, nilG, itemsD, opNot, opAdd, opSub, opDiv, opMod, opNeg, opLt, opLe, opGt, opGe, opIsNot, opIs, eqD, ltD, leD, truth, at_nat, at_0, at_1, at_2, at_3, at_4, opIx, fLen, coreE, coreL, opIsi, isTy, opAbs, opMax, opMin, opInt, opMul, is_nn, is_nt, is_nr, is_nb, is_ni, is_ntm, is_nst]
theorem run_set {m k : Nat} {b : SF} {ds : List D} {S : Store} {i : Nat} {o : O} {env : Ev.Env} (hl : ds.length = m) (h : b (initE k ds) ⟨S.objs, []⟩ = .ok (.nx env) ⟨S.objs.set i o, [i]⟩) : runF m k b ds S = .ok .non ⟨S.objs.set i o, addD i S.dirty⟩ := by
  unfold runF
  rw [if_pos hl, h]
  show Rs.ok D.non (leave S ⟨S.objs.set i o, [i]⟩ .non) = _
  unfold leave
  rw [if_pos (by simp [initE, List.replicate, retS, retN, seqS, asgS, exprS, ifS, parS, skipS, setAll, varE, cstE, nilL, consL, tupE, mkL, un1, bin2, andE, orE, ifE, chainE, boolT, truthT, notT, andT, orT, yesT, callE, nameG, tupG, consG, nilG, itemsD, opNot, opAdd, opSub, opDiv, opMod, opNeg, opLt, opLe, opGt, opGe, opIsNot, opIs, eqD, ltD, leD, truth, at_nat, at_0, at_1, at_2, at_3, at_4, opIx, fLen, coreE, coreL, opIsi, isTy, opAbs, opMax, opMin, opInt, opMul, is_nn, is_nt, is_nr, is_nb, is_ni, is_ntm, is_nst])]
  rfl
theorem init_t (n i : Nat) (S : Store) (h : S.objs[i]? = some (.ins 0 [])) : ev (n + 1) j_Waits___init__ [.ref i] S = .ok .non ⟨S.objs.set i (ivO Iv.start), addD i S.dirty⟩ := by
  rw [u_Waits___init__]
  have hi : i < S.objs.length := (List.getElem?_eq_some_iff.mp h).1
  have hs : ∀ o, (S.objs.set i o)[i]? = some o := fun o => by rw [List.getElem?_set_self hi]
  clear hi
  refine run_set (env := [some (.ref i)]) rfl ?_
  simp [initE, List.replicate, retS, retN, seqS, asgS, exprS, ifS, parS, skipS, setAll, varE, cstE, nilL, consL, tupE, mkL, un1, bin2, andE, orE, ifE, chainE, boolT, truthT, notT, andT, orT, yesT, callE, nameG, tupG, consG, nilG, itemsD, opNot, opAdd, opSub, opDiv, opMod, opNeg, opLt, opLe, opGt, opGe, opIsNot, opIs, eqD, ltD, leD, truth, at_nat, at_0, at_1, at_2, at_3, at_4, opIx, fLen, coreE, coreL, opIsi, isTy, opAbs, opMax, opMin, opInt, opMul, is_nn, is_nt, is_nr, is_nb, is_ni, is_ntm, is_nst, b_Waits___init__, fldG, h, csL, putD, Store.set, hs, addD_one, addD_nil, addD, ivO, begD, endD, otm, Iv.start, d_NOUGHT, tm_zero, Nat.blt]
theorem ask_t (n i : Nat) (I : Iv) (x : Rat) (r : Rl) (v : Nat) (S : Store) (h : S.objs[i]? = some (ivO I)) (hx : ok64 x) (hv : v ≤ 20) (hb : ok64 I.b) (he : ∀ q, I.e = some q → ok64 q) (hl : ok64 ((v : Rat) - x)) :
    ev (n + 4) j_Waits_ask [.ref i, tm x, .str r.s, .int v] S = .ok .non ⟨S.objs.set i (ivO (I.ask r ((v : Rat) - x))), addD i S.dirty⟩ := by
  rw [u_Waits_ask]
  have hi : i < S.objs.length := (List.getElem?_eq_some_iff.mp h).1
  have hs : ∀ o, (S.objs.set i o)[i]? = some o := fun o => by rw [List.getElem?_set_self hi]
  clear hi
  refine run_set (env := [some (.ref i), some (tm x), some (.str r.s), some (.int v), some (tm ((v : Rat) - x))]) rfl ?_
  have hv64 : ok64 (v : Rat) := (Sm.nat v).mono (by omega) (by omega)
  have h1 : ∀ S, ev (n + 3) j_difference [.tup [.int v, .int 1], tm x] S = .ok (tm ((v : Rat) - x)) S := fun S => by
    have := difference_t n (v : Rat) x S hv64 hx
    have e : tm (v : Rat) = .tup [.int v, .int 1] := by simp [initE, List.replicate, retS, retN, seqS, asgS, exprS, ifS, parS, skipS, setAll, varE, cstE, nilL, consL, tupE, mkL, un1, bin2, andE, orE, ifE, chainE, boolT, truthT, notT, andT, orT, yesT, callE, nameG, tupG, consG, nilG, itemsD, opNot, opAdd, opSub, opDiv, opMod, opNeg, opLt, opLe, opGt, opGe, opIsNot, opIs, eqD, ltD, leD, truth, at_nat, at_0, at_1, at_2, at_3, at_4, opIx, fLen, coreE, coreL, opIsi, isTy, opAbs, opMax, opMin, opInt, opMul, is_nn, is_nt, is_nr, is_nb, is_ni, is_ntm, is_nst, tm]
    rw [e] at this; exact this
  generalize hL : (v : Rat) - x = l at *
  have h2 : ∀ c S, ev (n + 3) j_earlier_end [endD (I.e, I.ec), .tup [tm l, .bl c]] S = .ok (endD (endA (I.e, I.ec) l c)) S := fun c S => earlier_end_t (n + 1) _ l c S he hl
  have h3 : ∀ c S, ev (n + 3) j_later_begin [begD (I.b, I.bc), .tup [tm l, .bl c]] S = .ok (begD (begA (I.b, I.bc) l c)) S := fun c S => later_begin_t (n + 1) _ l c S hb hl
  have e1 : ∀ S, opNe (.str r.s) (.str s_less) S = .ok (.bl (r != .less)) S := fun S => by
    unfold opNe eqD; simp only [eq_less]; rfl
  have e2 : ∀ S, opNe (.str r.s) (.str s_more) S = .ok (.bl (r != .more)) S := fun S => by
    unfold opNe eqD; simp only [eq_more]; rfl
  have f1 : ivO I = .ins 0 [(0, begD (I.b, I.bc)), (1, endD (I.e, I.ec))] := rfl
  rw [f1] at h
  have hf : ∀ x, fieldD 0 [(0, x), (1, endD (I.e, I.ec))] = some x := fun _ => rfl
  have hf1 : ∀ x y, fieldD 1 [(0, x), (1, y)] = some y := fun _ _ => rfl
  have hf0 : ∀ x y, fieldD 0 [(0, x), (1, y)] = some x := fun _ _ => rfl
  have p1 : ∀ x y z, putD 1 z [(0, x), (1, y)] = [(0, x), (1, z)] := fun _ _ _ => rfl
  have p0 : ∀ x y z, putD 0 z [(0, x), (1, y)] = [(0, z), (1, y)] := fun _ _ _ => rfl
  have bl : Nat.blt 2 1000 = true := rfl
  cases he' : r.ends <;> cases hb' : r.begins
  · cases r <;> simp [initE, List.replicate, retS, retN, seqS, asgS, exprS, ifS, parS, skipS, setAll, varE, cstE, nilL, consL, tupE, mkL, un1, bin2, andE, orE, ifE, chainE, boolT, truthT, notT, andT, orT, yesT, callE, nameG, tupG, consG, nilG, itemsD, opNot, opAdd, opSub, opDiv, opMod, opNeg, opLt, opLe, opGt, opGe, opIsNot, opIs, eqD, ltD, leD, truth, at_nat, at_0, at_1, at_2, at_3, at_4, opIx, fLen, coreE, coreL, opIsi, isTy, opAbs, opMax, opMin, opInt, opMul, is_nn, is_nt, is_nr, is_nb, is_ni, is_ntm, is_nst, Rl.ends, Rl.begins] at he' hb'
  · simp [initE, List.replicate, retS, retN, seqS, asgS, exprS, ifS, parS, skipS, setAll, varE, cstE, nilL, consL, tupE, mkL, un1, bin2, andE, orE, ifE, chainE, boolT, truthT, notT, andT, orT, yesT, callE, nameG, tupG, consG, nilG, itemsD, opNot, opAdd, opSub, opDiv, opMod, opNeg, opLt, opLe, opGt, opGe, opIsNot, opIs, eqD, ltD, leD, truth, at_nat, at_0, at_1, at_2, at_3, at_4, opIx, fLen, coreE, coreL, opIsi, isTy, opAbs, opMax, opMin, opInt, opMul, is_nn, is_nt, is_nr, is_nb, is_ni, is_ntm, is_nst, b_Waits_ask, h1, opIn, inD, d_LESS, d_MOST, d_SAME, d_LEAST, d_MORE, in_ends, in_begins, fldG, opFld, csL, h, h3, e1, e2, hf0, hf1, p0, p1, bl, Store.set, hs, addD_nil, ivO, Iv.ask, he', hb']
  · simp [initE, List.replicate, retS, retN, seqS, asgS, exprS, ifS, parS, skipS, setAll, varE, cstE, nilL, consL, tupE, mkL, un1, bin2, andE, orE, ifE, chainE, boolT, truthT, notT, andT, orT, yesT, callE, nameG, tupG, consG, nilG, itemsD, opNot, opAdd, opSub, opDiv, opMod, opNeg, opLt, opLe, opGt, opGe, opIsNot, opIs, eqD, ltD, leD, truth, at_nat, at_0, at_1, at_2, at_3, at_4, opIx, fLen, coreE, coreL, opIsi, isTy, opAbs, opMax, opMin, opInt, opMul, is_nn, is_nt, is_nr, is_nb, is_ni, is_ntm, is_nst, b_Waits_ask, h1, opIn, inD, d_LESS, d_MOST, d_SAME, d_LEAST, d_MORE, in_ends, in_begins, fldG, opFld, csL, h, h2, e1, e2, hf0, hf1, p0, p1, bl, Store.set, hs, addD_nil, ivO, Iv.ask, he', hb']
  · simp [initE, List.replicate, retS, retN, seqS, asgS, exprS, ifS, parS, skipS, setAll, varE, cstE, nilL, consL, tupE, mkL, un1, bin2, andE, orE, ifE, chainE, boolT, truthT, notT, andT, orT, yesT, callE, nameG, tupG, consG, nilG, itemsD, opNot, opAdd, opSub, opDiv, opMod, opNeg, opLt, opLe, opGt, opGe, opIsNot, opIs, eqD, ltD, leD, truth, at_nat, at_0, at_1, at_2, at_3, at_4, opIx, fLen, coreE, coreL, opIsi, isTy, opAbs, opMax, opMin, opInt, opMul, is_nn, is_nt, is_nr, is_nb, is_ni, is_ntm, is_nst, b_Waits_ask, h1, opIn, inD, d_LESS, d_MOST, d_SAME, d_LEAST, d_MORE, in_ends, in_begins, fldG, opFld, csL, h, h2, h3, e1, e2, hf0, hf1, p0, p1, bl, Store.set, hs, addD_nil, addD_one, addD, ivO, Iv.ask, he', hb']
theorem are_none_t (n i : Nat) (I : Iv) (S : Store) (h : S.objs[i]? = some (ivO I)) (hb : ok64 I.b) (he : ∀ q, I.e = some q → ok64 q) : ev (n + 2) j_Waits_are_none [.ref i] S = .ok (.bl I.no) S := by
  rw [u_Waits_are_none]
  refine run_val rfl (by simp [initE, List.replicate, retS, retN, seqS, asgS, exprS, ifS, parS, skipS, setAll, varE, cstE, nilL, consL, tupE, mkL, un1, bin2, andE, orE, ifE, chainE, boolT, truthT, notT, andT, orT, yesT, callE, nameG, tupG, consG, nilG, itemsD, opNot, opAdd, opSub, opDiv, opMod, opNeg, opLt, opLe, opGt, opGe, opIsNot, opIs, eqD, ltD, leD, truth, at_nat, at_0, at_1, at_2, at_3, at_4, opIx, fLen, coreE, coreL, opIsi, isTy, opAbs, opMax, opMin, opInt, opMul, is_nn, is_nt, is_nr, is_nb, is_ni, is_ntm, is_nst]) ?_
  have f1 : ivO I = .ins 0 [(0, begD (I.b, I.bc)), (1, endD (I.e, I.ec))] := rfl
  rw [f1] at h
  have hf1 : ∀ x y, fieldD 1 [(0, x), (1, y)] = some y := fun _ _ => rfl
  have hf0 : ∀ x y, fieldD 0 [(0, x), (1, y)] = some x := fun _ _ => rfl
  obtain ⟨b, bc, e, ec⟩ := I
  simp only at h hb he
  cases e with
  | none => simp [initE, List.replicate, retS, retN, seqS, asgS, exprS, ifS, parS, skipS, setAll, varE, cstE, nilL, consL, tupE, mkL, un1, bin2, andE, orE, ifE, chainE, boolT, truthT, notT, andT, orT, yesT, callE, nameG, tupG, consG, nilG, itemsD, opNot, opAdd, opSub, opDiv, opMod, opNeg, opLt, opLe, opGt, opGe, opIsNot, opIs, eqD, ltD, leD, truth, at_nat, at_0, at_1, at_2, at_3, at_4, opIx, fLen, coreE, coreL, opIsi, isTy, opAbs, opMax, opMin, opInt, opMul, is_nn, is_nt, is_nr, is_nb, is_ni, is_ntm, is_nst, b_Waits_are_none, opFld, csL, h, hf0, hf1, endD, otm, Iv.no]
  | some e =>
    have h1 := is_under_t n e b ⟨S.objs, []⟩ (he e rfl) hb
    have h2 := opEq_tm b e ⟨S.objs, []⟩
    by_cases hq : b = e
    · subst hq
      cases bc <;> cases ec <;> simp [initE, List.replicate, retS, retN, seqS, asgS, exprS, ifS, parS, skipS, setAll, varE, cstE, nilL, consL, tupE, mkL, un1, bin2, andE, orE, ifE, chainE, boolT, truthT, notT, andT, orT, yesT, callE, nameG, tupG, consG, nilG, itemsD, opNot, opAdd, opSub, opDiv, opMod, opNeg, opLt, opLe, opGt, opGe, opIsNot, opIs, eqD, ltD, leD, truth, at_nat, at_0, at_1, at_2, at_3, at_4, opIx, fLen, coreE, coreL, opIsi, isTy, opAbs, opMax, opMin, opInt, opMul, is_nn, is_nt, is_nr, is_nb, is_ni, is_ntm, is_nst, b_Waits_are_none, opFld, csL, h, hf0, hf1, endD, begD, otm, Iv.no, h2]
    · simp [initE, List.replicate, retS, retN, seqS, asgS, exprS, ifS, parS, skipS, setAll, varE, cstE, nilL, consL, tupE, mkL, un1, bin2, andE, orE, ifE, chainE, boolT, truthT, notT, andT, orT, yesT, callE, nameG, tupG, consG, nilG, itemsD, opNot, opAdd, opSub, opDiv, opMod, opNeg, opLt, opLe, opGt, opGe, opIsNot, opIs, eqD, ltD, leD, truth, at_nat, at_0, at_1, at_2, at_3, at_4, opIx, fLen, coreE, coreL, opIsi, isTy, opAbs, opMax, opMin, opInt, opMul, is_nn, is_nt, is_nr, is_nb, is_ni, is_ntm, is_nst, b_Waits_are_none, opFld, csL, h, hf0, hf1, endD, begD, otm, Iv.no, h2, hq, h1]
end K81
set_option Elab.async false
set_option linter.all false
set_option maxRecDepth 100000
set_option maxHeartbeats 4000000
namespace K81
open PySem Ev
def con (ts : List Rat) (x : Dm) : Rl × Rat := (x.r, (x.n : Rat) - ts.getD x.c 0)
def rok (rs : List Nat) (x : Dm) : Bool := if rs.contains x.c then x.r.holds 0 x.n else true
def conE (m : Mc) (ts : List Rat) (x : Ed) : List (Rl × Rat) := (m.stay x.s ++ x.g).map (con ts) ++ ((m.stay x.t).filter fun y => !x.rs.contains y.c).map (con ts)
def span (m : Mc) (ts : List Rat) (x : Ed) : Iv := Iv.start.all (conE m ts x)
def waitsP (m : Mc) (p : Nat) (ts : List Rat) (e : Nat) : Option Iv :=
  if (m.edge e).s = p ∧ (m.stay (m.edge e).t).all (rok (m.edge e).rs) = true ∧ (span m ts (m.edge e)).no = false then some (span m ts (m.edge e)) else none
structure StS (m : Mc) (p : Nat) (ts : List Rat) : Prop where
  p : p < m.p
  l : ts.length = m.k
  t : ∀ q ∈ ts, 0 ≤ q ∧ Sm 11 4 q
theorem StS.ok {m : Mc} {p : Nat} {ts : List Rat} (h : StS m p ts) : StOk m p ts := ⟨h.p, h.l, fun q hq => ⟨(h.t q hq).1, (h.t q hq).2.mono (by decide) (by decide)⟩⟩
theorem sm_ok {q : Rat} {N D : Nat} (h : Sm N D q) (h1 : N ≤ 2 ^ 40) (h2 : D ≤ 900) : ok64 q := h.mono h1 h2
theorem getD_mem {ts : List Rat} {c : Nat} (h : c < ts.length) : ts.getD c 0 ∈ ts := by
  rw [List.getD_eq_getElem?_getD, List.getElem?_eq_getElem h]; exact List.getElem_mem h
theorem con_sm {m : Mc} {p : Nat} {ts : List Rat} (h : StS m p ts) {x : Dm} (hx : DmOk m.k x) : Sm 91 4 (con ts x).2 := by
  have h1 := (h.t _ (getD_mem (c := x.c) (by rw [h.l]; exact hx.c))).2
  exact ((Sm.nat x.n).sub h1).mono (by have := hx.n; omega) (by decide)
theorem Ok_b {I : Iv} {L : List Rat} (h : I.Ok L) (hL : ∀ q ∈ L, Sm 91 4 q) : Sm 91 4 I.b := by
  rcases h.b with h | h
  · rw [h]; exact ⟨by decide, by decide⟩
  · exact hL _ h
theorem Ok_e {I : Iv} {L : List Rat} (h : I.Ok L) (hL : ∀ q ∈ L, Sm 91 4 q) : ∀ e, I.e = some e → Sm 91 4 e := fun e he => hL _ (h.e e he)
def Sv (B : List O) (I : Iv) (S : Store) : Prop := S.objs = B ++ [ivO I] ∧ ∀ k ∈ S.dirty, k = B.length
theorem Sv.get {B : List O} {I : Iv} {S : Store} (h : Sv B I S) : S.objs[B.length]? = some (ivO I) := by rw [h.1]; simp [initE, List.replicate, retS, retN, seqS, asgS, exprS, ifS, parS, skipS, setAll, varE, cstE, nilL, consL, tupE, mkL, un1, bin2, andE, orE, ifE, chainE, boolT, truthT, notT, andT, orT, yesT, callE, nameG, tupG, consG, nilG, itemsD, opNot, opAdd, opSub, opDiv, opMod, opNeg, opEq, opNe, opLt, opLe, opGt, opGe, opIsNot, opIs, eqD, ltD, leD, truth, at_nat, at_0, at_1, at_2, at_3, at_4, opIx, fLen, coreE, coreL, opIsi, isTy, opAbs, opMax, opMin, opInt, opMul, is_nn, is_nt, is_nr, is_nb, is_ni, is_ntm, is_nst]
theorem Sv.set {B : List O} {I J : Iv} {S : Store} (h : Sv B I S) : Sv B J ⟨S.objs.set B.length (ivO J), addD B.length S.dirty⟩ := by
  refine ⟨?_, fun k hk => ?_⟩
  · show S.objs.set B.length (ivO J) = _
    rw [h.1, List.set_append_right _ _ (Nat.le_refl _)]; simp [initE, List.replicate, retS, retN, seqS, asgS, exprS, ifS, parS, skipS, setAll, varE, cstE, nilL, consL, tupE, mkL, un1, bin2, andE, orE, ifE, chainE, boolT, truthT, notT, andT, orT, yesT, callE, nameG, tupG, consG, nilG, itemsD, opNot, opAdd, opSub, opDiv, opMod, opNeg, opEq, opNe, opLt, opLe, opGt, opGe, opIsNot, opIs, eqD, ltD, leD, truth, at_nat, at_0, at_1, at_2, at_3, at_4, opIx, fLen, coreE, coreL, opIsi, isTy, opAbs, opMax, opMin, opInt, opMul, is_nn, is_nt, is_nr, is_nb, is_ni, is_ntm, is_nst]
  · rcases addD_in hk with h' | h'
    · exact h'
    · exact h.2 k h'
section
variable {m : Mc} {p : Nat} {ts : List Rat} {L : List Rat} {B : List O}
theorem ask_sv (n : Nat) (hs : StS m p ts) (hL : ∀ q ∈ L, Sm 91 4 q) {J : Iv} {S : Store} (h : Sv B J S) (hJ : J.Ok L) {x : Dm} (hx : DmOk m.k x) (hxL : (con ts x).2 ∈ L) :
    ev (n + 4) j_Waits_ask [.ref B.length, tm (ts.getD x.c 0), .str x.r.s, .int x.n] S = .ok .non ⟨S.objs.set B.length (ivO (J.ask (con ts x).1 (con ts x).2)), addD B.length S.dirty⟩ :=
  ask_t n B.length J _ x.r x.n S h.get (sm_ok (hs.t _ (getD_mem (by rw [hs.l]; exact hx.c))).2 (by decide) (by decide)) hx.n (sm_ok (Ok_b hJ hL) (by decide) (by decide)) (fun q hq => sm_ok (Ok_e hJ hL q hq) (by decide) (by decide)) (sm_ok (con_sm hs hx) (by decide) (by decide))
theorem loop1 (n : Nat) (hs : StS m p ts) (hL : ∀ q ∈ L, Sm 91 4 q) (M E s t lt g rs : D) (a b c : Option D) (l1 l2 : List Dm) (hl : ∀ x ∈ l1 ++ l2, DmOk m.k x ∧ (con ts x).2 ∈ L) (hn : (l1 ++ l2).length < 1000) (I : Iv) (hI : I.Ok L) (S : Store) (hS : Sv B I S)
    (hst : bin2 opAdd (bin2 opIx (bin2 opIx (varE 0) (cstE (.int (2)))) (varE 4)) (varE 7) [some M, some (std p ts), some E, some (.ref B.length), some s, some t, some lt, some g, some rs, a, b, c] S = .ok (.tup ((l1 ++ l2).map Dm.d)) S) :
    Wp (fo_waits_in_1 (ev (n + 4)) [some M, some (std p ts), some E, some (.ref B.length), some s, some t, some lt, some g, some rs, a, b, c] S) fun f S' => (∃ a b c, f = .nx [some M, some (std p ts), some E, some (.ref B.length), some s, some t, some lt, some g, some rs, a, b, c]) ∧ Sv B (I.all ((l1 ++ l2).map (con ts))) S' := by
  unfold fo_waits_in_1
  rw [forS_val hst]
  refine for_inv (I := fun _ => True) (P := fun ds env S' => ∃ (r : List Dm) (J : Iv) (a b c : Option D), ds = r.map Dm.d ∧ (∀ x ∈ r, DmOk m.k x ∧ (con ts x).2 ∈ L) ∧ env = [some M, some (std p ts), some E, some (.ref B.length), some s, some t, some lt, some g, some rs, a, b, c] ∧ Sv B J S' ∧ J.Ok L ∧ J.all (r.map (con ts)) = I.all ((l1 ++ l2).map (con ts))) ?_ ?_ _ FU _ _ S (PS.fix _ _) (by rw [FU_eq, List.length_map]; omega) ⟨l1 ++ l2, I, a, b, c, rfl, hl, rfl, hS, hI, rfl⟩
  · rintro d r env S' ⟨r', J, a, b, c, e1, e2, rfl, e4, e5, e6⟩
    cases r' with
    | nil => simp [initE, List.replicate, retS, retN, seqS, asgS, exprS, ifS, parS, skipS, setAll, varE, cstE, nilL, consL, tupE, mkL, un1, bin2, andE, orE, ifE, chainE, boolT, truthT, notT, andT, orT, yesT, callE, nameG, tupG, consG, nilG, itemsD, opNot, opAdd, opSub, opDiv, opMod, opNeg, opEq, opNe, opLt, opLe, opGt, opGe, opIsNot, opIs, eqD, ltD, leD, truth, at_nat, at_0, at_1, at_2, at_3, at_4, opIx, fLen, coreE, coreL, opIsi, isTy, opAbs, opMax, opMin, opInt, opMul, is_nn, is_nt, is_nr, is_nb, is_ni, is_ntm, is_nst] at e1
    | cons x r' =>
      simp only [List.map_cons, List.cons.injEq] at e1
      obtain ⟨rfl, rfl⟩ := e1
      obtain ⟨hx, hxL⟩ := e2 x List.mem_cons_self
      refine ⟨trivial, _, _, rfl, ?_⟩
      have h1 := ask_sv n hs hL e4 e5 hx hxL
      have h2 := at_tms ts x.c (by rw [hs.l]; exact hx.c)
      have h3 := e4.get
      have h4 : atD [D.int p, D.tup (ts.map tm)] 1 = some (D.tup (ts.map tm)) := rfl
      refine Wp.of (a := .nx [some M, some (std p ts), some E, some (.ref B.length), some s, some t, some lt, some g, some rs, some (.int x.c), some (.str x.r.s), some (.int x.n)]) (S := ⟨S'.objs.set B.length (ivO (J.ask (con ts x).1 (con ts x).2)), addD B.length S'.dirty⟩) ?_ ?_
      · unfold fb_waits_in_1 exprS methE bin2 opIx
        simp only [consL, nilL, varE, cstE, List.getElem?_cons_succ, List.getElem?_cons_zero, bind_ok, List.set_cons_succ, List.set_cons_zero, h3, ivO, List.lookup, std, h4, ofO_some, tms, h2]
        rw [show (0 == 0) = true from rfl]
        simp only [bind_ok, h1]
        rfl
      · exact ⟨r', J.ask (con ts x).1 (con ts x).2, _, _, _, rfl, fun y hy => e2 y (List.mem_cons_of_mem _ hy), rfl, e4.set, e5.ask _ hxL, e6⟩
  · rintro env S' ⟨r', J, a, b, c, e1, e2, rfl, e4, e5, e6⟩
    have : r' = [] := by cases r' with
      | nil => rfl
      | cons x r' => simp [initE, List.replicate, retS, retN, seqS, asgS, exprS, ifS, parS, skipS, setAll, varE, cstE, nilL, consL, tupE, mkL, un1, bin2, andE, orE, ifE, chainE, boolT, truthT, notT, andT, orT, yesT, callE, nameG, tupG, consG, nilG, itemsD, opNot, opAdd, opSub, opDiv, opMod, opNeg, opEq, opNe, opLt, opLe, opGt, opGe, opIsNot, opIs, eqD, ltD, leD, truth, at_nat, at_0, at_1, at_2, at_3, at_4, opIx, fLen, coreE, coreL, opIsi, isTy, opAbs, opMax, opMin, opInt, opMul, is_nn, is_nt, is_nr, is_nb, is_ni, is_ntm, is_nst] at e1
    subst this
    refine ⟨trivial, ⟨_, _, _, rfl⟩, ?_⟩
    rw [← e6]; exact e4
theorem keep_zero (r : Rl) (v : Nat) : keepI r (-(v : Int)) = r.holds 0 v := by
  have := keep_holds r 0 v
  simpa using this
theorem loop2 (n : Nat) (hs : StS m p ts) (hL : ∀ q ∈ L, Sm 91 4 q) (M E s t lt g : D) (rs : List Nat) (a b c : Option D) (l : List Dm) (hl : ∀ x ∈ l, DmOk m.k x ∧ (rs.contains x.c = false → (con ts x).2 ∈ L)) (hn : l.length < 1000) (I : Iv) (hI : I.Ok L) (S : Store) (hS : Sv B I S)
    (hst : bin2 opIx (bin2 opIx (varE 0) (cstE (.int (2)))) (varE 5) [some M, some (std p ts), some E, some (.ref B.length), some s, some t, some lt, some g, some (nts rs), a, b, c] S = .ok (.tup (l.map Dm.d)) S) :
    Wp (fo_waits_in_2 (ev (n + 4)) [some M, some (std p ts), some E, some (.ref B.length), some s, some t, some lt, some g, some (nts rs), a, b, c] S) fun f S' =>
      (l.all (rok rs) = true ∧ (∃ a b c, f = .nx [some M, some (std p ts), some E, some (.ref B.length), some s, some t, some lt, some g, some (nts rs), a, b, c]) ∧ Sv B (I.all ((l.filter fun y => !rs.contains y.c).map (con ts))) S' ∧ (I.all ((l.filter fun y => !rs.contains y.c).map (con ts))).Ok L)
      ∨ (l.all (rok rs) = false ∧ f = .rt .non ∧ ∃ J, Sv B J S') := by
  unfold fo_waits_in_2
  rw [forS_val hst]
  refine for_inv (I := fun _ => True) (P := fun ds env S' => ∃ (r : List Dm) (J : Iv) (a b c : Option D), ds = r.map Dm.d ∧ (∀ x ∈ r, DmOk m.k x ∧ (rs.contains x.c = false → (con ts x).2 ∈ L)) ∧ env = [some M, some (std p ts), some E, some (.ref B.length), some s, some t, some lt, some g, some (nts rs), a, b, c] ∧ Sv B J S' ∧ J.Ok L ∧ J.all ((r.filter fun y => !rs.contains y.c).map (con ts)) = I.all ((l.filter fun y => !rs.contains y.c).map (con ts)) ∧ l.all (rok rs) = r.all (rok rs)) ?_ ?_ _ FU _ _ S (PS.fix _ _) (by rw [FU_eq, List.length_map]; omega) ⟨l, I, a, b, c, rfl, hl, rfl, hS, hI, rfl, rfl⟩
  · rintro d r env S' ⟨r', J, a, b, c, e1, e2, rfl, e4, e5, e6, e7⟩
    cases r' with
    | nil => simp [initE, List.replicate, retS, retN, seqS, asgS, exprS, ifS, parS, skipS, setAll, varE, cstE, nilL, consL, tupE, mkL, un1, bin2, andE, orE, ifE, chainE, boolT, truthT, notT, andT, orT, yesT, callE, nameG, tupG, consG, nilG, itemsD, opNot, opAdd, opSub, opDiv, opMod, opNeg, opEq, opNe, opLt, opLe, opGt, opGe, opIsNot, opIs, eqD, ltD, leD, truth, at_nat, at_0, at_1, at_2, at_3, at_4, opIx, fLen, coreE, coreL, opIsi, isTy, opAbs, opMax, opMin, opInt, opMul, is_nn, is_nt, is_nr, is_nb, is_ni, is_ntm, is_nst] at e1
    | cons x r' =>
      simp only [List.map_cons, List.cons.injEq] at e1
      obtain ⟨rfl, rfl⟩ := e1
      obtain ⟨hx, hxL⟩ := e2 x List.mem_cons_self
      refine ⟨trivial, _, _, rfl, ?_⟩
      have h2 := at_tms ts x.c (by rw [hs.l]; exact hx.c)
      have h3 := e4.get
      have h4 : atD [D.int p, D.tup (ts.map tm)] 1 = some (D.tup (ts.map tm)) := rfl
      have h5 : memD (.int x.c) (rs.map nt) = some (rs.contains x.c) := memD_nat x.c rs
      have h6 := does_keep_t (n + 3) x.r (-(x.n : Int)) S'
      rw [keep_zero] at h6
      cases hc : rs.contains x.c
      · have h1 := ask_sv n hs hL e4 e5 hx (hxL hc)
        refine Wp.of (a := .nx [some M, some (std p ts), some E, some (.ref B.length), some s, some t, some lt, some g, some (nts rs), some (.int x.c), some (.str x.r.s), some (.int x.n)]) (S := ⟨S'.objs.set B.length (ivO (J.ask (con ts x).1 (con ts x).2)), addD B.length S'.dirty⟩) ?_ ?_
        · unfold fb_waits_in_2 seqS ifS andT boolT opIn opNotIn exprS methE bin2 opIx
          simp only [consL, nilL, varE, cstE, List.getElem?_cons_succ, List.getElem?_cons_zero, bind_ok, List.set_cons_succ, List.set_cons_zero, nts, inD, h5, hc, Bool.not_false, if_true, Bool.false_eq_true, if_false, skipS, h3, ivO, List.lookup, std, h4, ofO_some, tms, h2]
          rw [show (0 == 0) = true from rfl]
          simp only [bind_ok, h1]
          rfl
        · refine ⟨r', J.ask (con ts x).1 (con ts x).2, _, _, _, rfl, fun y hy => e2 y (List.mem_cons_of_mem _ hy), rfl, e4.set, e5.ask _ (hxL hc), ?_, ?_⟩
          · rw [← e6, List.filter_cons, hc]; rfl
          · rw [e7, List.all_cons, rok, hc]; rfl
      · have hr : rok rs x = x.r.holds 0 x.n := by rw [rok, hc]; rfl
        rw [hc] at h5
        cases hh : x.r.holds 0 x.n <;> rw [hh] at h6
        · refine Wp.of (a := .rt .non) (S := S') ?_ ?_
          · unfold fb_waits_in_2
            simp [initE, List.replicate, retS, retN, seqS, asgS, exprS, ifS, parS, skipS, setAll, varE, cstE, nilL, consL, tupE, mkL, un1, bin2, andE, orE, ifE, chainE, boolT, truthT, notT, andT, orT, yesT, callE, nameG, tupG, consG, nilG, itemsD, opNot, opAdd, opSub, opDiv, opMod, opNeg, opEq, opNe, opLt, opLe, opGt, opGe, opIsNot, opIs, eqD, ltD, leD, truth, at_nat, at_0, at_1, at_2, at_3, at_4, opIx, fLen, coreE, coreL, opIsi, isTy, opAbs, opMax, opMin, opInt, opMul, is_nn, is_nt, is_nr, is_nb, is_ni, is_ntm, is_nst, opIn, inD, nts, h5, h6]
          · exact .inr ⟨by rw [e7, List.all_cons, hr, hh]; rfl, rfl, J, e4⟩
        · refine Wp.of (a := .nx [some M, some (std p ts), some E, some (.ref B.length), some s, some t, some lt, some g, some (nts rs), some (.int x.c), some (.str x.r.s), some (.int x.n)]) (S := S') ?_ ?_
          · unfold fb_waits_in_2
            simp [initE, List.replicate, retS, retN, seqS, asgS, exprS, ifS, parS, skipS, setAll, varE, cstE, nilL, consL, tupE, mkL, un1, bin2, andE, orE, ifE, chainE, boolT, truthT, notT, andT, orT, yesT, callE, nameG, tupG, consG, nilG, itemsD, opNot, opAdd, opSub, opDiv, opMod, opNeg, opEq, opNe, opLt, opLe, opGt, opGe, opIsNot, opIs, eqD, ltD, leD, truth, at_nat, at_0, at_1, at_2, at_3, at_4, opIx, fLen, coreE, coreL, opIsi, isTy, opAbs, opMax, opMin, opInt, opMul, is_nn, is_nt, is_nr, is_nb, is_ni, is_ntm, is_nst, opIn, opNotIn, inD, nts, h5, h6]
          · refine ⟨r', J, _, _, _, rfl, fun y hy => e2 y (List.mem_cons_of_mem _ hy), rfl, e4, e5, ?_, ?_⟩
            · rw [← e6, List.filter_cons, hc]; rfl
            · rw [e7, List.all_cons, hr, hh]; rfl
  · rintro env S' ⟨r', J, a, b, c, e1, e2, rfl, e4, e5, e6, e7⟩
    have : r' = [] := by cases r' with
      | nil => rfl
      | cons x r' => simp [initE, List.replicate, retS, retN, seqS, asgS, exprS, ifS, parS, skipS, setAll, varE, cstE, nilL, consL, tupE, mkL, un1, bin2, andE, orE, ifE, chainE, boolT, truthT, notT, andT, orT, yesT, callE, nameG, tupG, consG, nilG, itemsD, opNot, opAdd, opSub, opDiv, opMod, opNeg, opEq, opNe, opLt, opLe, opGt, opGe, opIsNot, opIs, eqD, ltD, leD, truth, at_nat, at_0, at_1, at_2, at_3, at_4, opIx, fLen, coreE, coreL, opIsi, isTy, opAbs, opMax, opMin, opInt, opMul, is_nn, is_nt, is_nr, is_nb, is_ni, is_ntm, is_nst] at e1
    subst this
    refine ⟨trivial, .inl ⟨by rw [e7]; rfl, ⟨_, _, _, rfl⟩, ?_⟩⟩
    rw [← e6]; exact ⟨e4, e5⟩
end
theorem con_mem {m : Mc} {ts : List Rat} {x : Ed} {c : Rl × Rat} (h : c ∈ conE m ts x) : c.2 ∈ (conE m ts x).map (·.2) := List.mem_map.mpr ⟨c, h, rfl⟩
theorem conE_sm {m : Mc} {p : Nat} {ts : List Rat} {x : Ed} (hm : McOk m) (hs : StS m p ts) (hx : EdOk m.p m.k x) : ∀ q ∈ (conE m ts x).map (·.2), Sm 91 4 q := by
  intro q hq
  obtain ⟨c, hc, rfl⟩ := List.mem_map.mp hq
  unfold conE at hc
  rcases List.mem_append.mp hc with hc | hc
  · obtain ⟨y, hy, rfl⟩ := List.mem_map.mp hc
    rcases List.mem_append.mp hy with hy | hy
    · exact con_sm hs ((stay_ok m x.s hm hx.s).1.each y hy)
    · exact con_sm hs (hx.g.each y hy)
  · obtain ⟨y, hy, rfl⟩ := List.mem_map.mp hc
    exact con_sm hs ((stay_ok m x.t hm hx.t).1.each y (List.mem_filter.mp hy).1)
theorem span_ok (m : Mc) (ts : List Rat) (x : Ed) : (span m ts x).Ok ((conE m ts x).map (·.2)) := (Ok_start _).all fun c hc => con_mem hc
theorem all_app (I : Iv) (a b : List (Rl × Rat)) : I.all (a ++ b) = (I.all a).all b := by unfold Iv.all; rw [List.foldl_append]
theorem waits_in_t (n : Nat) (m : Mc) (p : Nat) (ts : List Rat) (e : Nat) (S : Store) (hm : McOk m) (hs : StS m p ts) (he : e < m.es.length) :
    Wp (ev (n + 5) j_waits_in [m.d, std p ts, .int e] S) fun d S' => match waitsP m p ts e with
      | none => d = .non ∧ S' = S
      | some I => d = .ref S.objs.length ∧ S' = ⟨S.objs ++ [ivO I], S.dirty⟩ := by
  rw [u_waits_in]
  have e0 : initE 12 [m.d, std p ts, .int e] = [some (.tup [.int m.p, .int m.k, .tup (m.st.map dms), .tup (m.es.map Ed.d)]), some (std p ts), some (.int e), none, none, none, none, none, none, none, none, none] := rfl
  have hx := edge_ok m e hm he
  have h1 := edge_get m e he
  unfold waitsP
  generalize hE : m.edge e = x at *
  have hd : x.d = .tup [.int x.s, .int x.t, .int x.l, dms x.g, nts x.rs] := rfl
  have hp : atD [D.int p, tms ts] 0 = some (.int p) := rfl
  by_cases a1 : x.s = p
  · subst a1
    obtain ⟨s1, s2, _⟩ := stay_ok m x.s hm hx.s
    obtain ⟨s3, s4, _⟩ := stay_ok m x.t hm hx.t
    have hL := conE_sm hm hs hx
    have i1 := init_t (n + 3) S.objs.length ⟨S.objs ++ [O.ins 0 []], []⟩ (by simp [initE, List.replicate, retS, retN, seqS, asgS, exprS, ifS, parS, skipS, setAll, varE, cstE, nilL, consL, tupE, mkL, un1, bin2, andE, orE, ifE, chainE, boolT, truthT, notT, andT, orT, yesT, callE, nameG, tupG, consG, nilG, itemsD, opNot, opAdd, opSub, opDiv, opMod, opNeg, opEq, opNe, opLt, opLe, opGt, opGe, opIsNot, opIs, eqD, ltD, leD, truth, at_nat, at_0, at_1, at_2, at_3, at_4, opIx, fLen, coreE, coreL, opIsi, isTy, opAbs, opMax, opMin, opInt, opMul, is_nn, is_nt, is_nr, is_nb, is_ni, is_ntm, is_nst])
    have i2 : (⟨(S.objs ++ [O.ins 0 []]).set S.objs.length (ivO Iv.start), addD S.objs.length []⟩ : Store) = ⟨S.objs ++ [ivO Iv.start], [S.objs.length]⟩ := by
      rw [addD_nil, List.set_append_right _ _ (Nat.le_refl _)]; simp [initE, List.replicate, retS, retN, seqS, asgS, exprS, ifS, parS, skipS, setAll, varE, cstE, nilL, consL, tupE, mkL, un1, bin2, andE, orE, ifE, chainE, boolT, truthT, notT, andT, orT, yesT, callE, nameG, tupG, consG, nilG, itemsD, opNot, opAdd, opSub, opDiv, opMod, opNeg, opEq, opNe, opLt, opLe, opGt, opGe, opIsNot, opIs, eqD, ltD, leD, truth, at_nat, at_0, at_1, at_2, at_3, at_4, opIx, fLen, coreE, coreL, opIsi, isTy, opAbs, opMax, opMin, opInt, opMul, is_nn, is_nt, is_nr, is_nb, is_ni, is_ntm, is_nst]
    rw [show (⟨S.objs ++ [O.ins 0 []], []⟩ : Store).objs = S.objs ++ [O.ins 0 []] from rfl, show (⟨S.objs ++ [O.ins 0 []], []⟩ : Store).dirty = [] from rfl, i2] at i1
    have hSv : Sv S.objs Iv.start ⟨S.objs ++ [ivO Iv.start], [S.objs.length]⟩ := ⟨rfl, fun k hk => by simpa using hk⟩
    have l1 := loop1 (m := m) (p := x.s) (L := (conE m ts x).map (·.2)) (B := S.objs) n hs hL (.tup [.int m.p, .int m.k, .tup (m.st.map dms), .tup (m.es.map Ed.d)]) (.int e) (.int x.s) (.int x.t) (.int x.l) (dms x.g) (nts x.rs) none none none (m.stay x.s) x.g
      (fun y hy => ⟨by
        rcases List.mem_append.mp hy with hy | hy
        · exact s1.each y hy
        · exact hx.g.each y hy, con_mem (List.mem_append_left _ (List.mem_map.mpr ⟨y, hy, rfl⟩))⟩)
      (by rw [List.length_append]; have := hx.gl; omega) Iv.start (Ok_start _) _ hSv (by
        simp [initE, List.replicate, retS, retN, seqS, asgS, exprS, ifS, parS, skipS, setAll, varE, cstE, nilL, consL, tupE, mkL, un1, bin2, andE, orE, ifE, chainE, boolT, truthT, notT, andT, orT, yesT, callE, nameG, tupG, consG, nilG, itemsD, opNot, opAdd, opSub, opDiv, opMod, opNeg, opEq, opNe, opLt, opLe, opGt, opGe, opIsNot, opIs, eqD, ltD, leD, truth, at_nat, at_0, at_1, at_2, at_3, at_4, opIx, fLen, coreE, coreL, opIsi, isTy, opAbs, opMax, opMin, opInt, opMul, is_nn, is_nt, is_nr, is_nb, is_ni, is_ntm, is_nst, stay_get m x.s hm hx.s, dms]
        unfold Ev.sizeOk
        rw [Nat.ble_eq]
        have := hx.gl; omega)
    obtain ⟨f1, S1, r1, ⟨a, b, c, rfl⟩, hS1⟩ := l1.get
    have l2 := loop2 (m := m) (p := x.s) (L := (conE m ts x).map (·.2)) (B := S.objs) n hs hL (.tup [.int m.p, .int m.k, .tup (m.st.map dms), .tup (m.es.map Ed.d)]) (.int e) (.int x.s) (.int x.t) (.int x.l) (dms x.g) x.rs a b c (m.stay x.t)
      (fun y hy => ⟨s3.each y hy, fun hc => con_mem (List.mem_append_right _ (List.mem_map.mpr ⟨y, List.mem_filter.mpr ⟨hy, by rw [hc]; rfl⟩, rfl⟩))⟩)
      (by omega) (Iv.start.all ((m.stay x.s ++ x.g).map (con ts))) ((Ok_start _).all fun c hc => con_mem (List.mem_append_left _ hc)) S1 hS1 (by
        simp [initE, List.replicate, retS, retN, seqS, asgS, exprS, ifS, parS, skipS, setAll, varE, cstE, nilL, consL, tupE, mkL, un1, bin2, andE, orE, ifE, chainE, boolT, truthT, notT, andT, orT, yesT, callE, nameG, tupG, consG, nilG, itemsD, opNot, opAdd, opSub, opDiv, opMod, opNeg, opEq, opNe, opLt, opLe, opGt, opGe, opIsNot, opIs, eqD, ltD, leD, truth, at_nat, at_0, at_1, at_2, at_3, at_4, opIx, fLen, coreE, coreL, opIsi, isTy, opAbs, opMax, opMin, opInt, opMul, is_nn, is_nt, is_nr, is_nb, is_ni, is_ntm, is_nst, stay_get m x.t hm hx.t, dms])
    obtain ⟨f2, S2, r2, q⟩ := l2.get
    simp only [std] at r1 r2
    rcases q with ⟨q1, ⟨a', b', c', rfl⟩, q2, q3⟩ | ⟨q1, rfl, J, q2⟩
    · have hI : (Iv.start.all ((m.stay x.s ++ x.g).map (con ts))).all (((m.stay x.t).filter fun y => !x.rs.contains y.c).map (con ts)) = span m ts x := by
        rw [← all_app]; rfl
      rw [hI] at q2 q3
      have h5 := are_none_t (n + 2) S.objs.length (span m ts x) S2 q2.get (sm_ok (Ok_b q3 hL) (by decide) (by decide)) (fun q hq => sm_ok (Ok_e q3 hL q hq) (by decide) (by decide))
      have h6 : S2.objs[S.objs.length]? = some (.ins 0 [(0, begD ((span m ts x).b, (span m ts x).bc)), (1, endD ((span m ts x).e, (span m ts x).ec))]) := q2.get
      have hN : Nw S.objs S2 := ⟨[ivO (span m ts x)], q2.1, fun k hk => by
        have := q2.2 k hk
        rw [this, q2.1]; simp [initE, List.replicate, retS, retN, seqS, asgS, exprS, ifS, parS, skipS, setAll, varE, cstE, nilL, consL, tupE, mkL, un1, bin2, andE, orE, ifE, chainE, boolT, truthT, notT, andT, orT, yesT, callE, nameG, tupG, consG, nilG, itemsD, opNot, opAdd, opSub, opDiv, opMod, opNeg, opEq, opNe, opLt, opLe, opGt, opGe, opIsNot, opIs, eqD, ltD, leD, truth, at_nat, at_0, at_1, at_2, at_3, at_4, opIx, fLen, coreE, coreL, opIsi, isTy, opAbs, opMax, opMin, opInt, opMul, is_nn, is_nt, is_nr, is_nb, is_ni, is_ntm, is_nst]⟩
      cases hno : (span m ts x).no
      · rw [if_pos ⟨rfl, q1, rfl⟩]
        have hb : b_waits_in (ev (n + 4)) (initE 12 [m.d, std x.s ts, .int e]) ⟨S.objs, []⟩ = .ok (.rt (.ref S.objs.length)) S2 := by
          rw [e0]
          simp [initE, List.replicate, retS, retN, seqS, asgS, exprS, ifS, parS, skipS, setAll, varE, cstE, nilL, consL, tupE, mkL, un1, bin2, andE, orE, ifE, chainE, boolT, truthT, notT, andT, orT, yesT, callE, nameG, tupG, consG, nilG, itemsD, opNot, opAdd, opSub, opDiv, opMod, opNeg, opEq, opNe, opLt, opLe, opGt, opGe, opIsNot, opIs, eqD, ltD, leD, truth, at_nat, at_0, at_1, at_2, at_3, at_4, opIx, fLen, coreE, coreL, opIsi, isTy, opAbs, opMax, opMin, opInt, opMul, is_nn, is_nt, is_nr, is_nb, is_ni, is_ntm, is_nst, b_waits_in, h1, hd, hp, makeE, i1, std, r1, r2, methE, h6, List.lookup, h5, hno]
        unfold runF
        rw [if_pos (show [m.d, std x.s ts, D.int e].length = 3 from rfl), hb]
        have hf : S2.dirty.filter (fun n => Nat.blt n S.objs.length) = [] := by
          rw [List.filter_eq_nil_iff]
          intro k hk
          rw [q2.2 k hk, Nat.blt_eq]; omega
        have hl : leave S S2 (.ref S.objs.length) = ⟨S.objs ++ [ivO (span m ts x)], S.dirty⟩ := by
          unfold Ev.leave
          rw [if_neg (by rw [q2.1]; simp [initE, List.replicate, retS, retN, seqS, asgS, exprS, ifS, parS, skipS, setAll, varE, cstE, nilL, consL, tupE, mkL, un1, bin2, andE, orE, ifE, chainE, boolT, truthT, notT, andT, orT, yesT, callE, nameG, tupG, consG, nilG, itemsD, opNot, opAdd, opSub, opDiv, opMod, opNeg, opEq, opNe, opLt, opLe, opGt, opGe, opIsNot, opIs, eqD, ltD, leD, truth, at_nat, at_0, at_1, at_2, at_3, at_4, opIx, fLen, coreE, coreL, opIsi, isTy, opAbs, opMax, opMin, opInt, opMul, is_nn, is_nt, is_nr, is_nb, is_ni, is_ntm, is_nst])]
          show (if (below S.objs.length (.ref S.objs.length) && (S2.dirty.filter fun n => Nat.blt n S.objs.length).all fun n => match S2.objs[n]? with | some o => belowO S.objs.length o | none => true) = true then (⟨S2.objs.take S.objs.length, addAll S.dirty (S2.dirty.filter fun n => Nat.blt n S.objs.length)⟩ : Store) else ⟨S2.objs, addAll S.dirty (S2.dirty.filter fun n => Nat.blt n S.objs.length)⟩) = _
          rw [hf, show below S.objs.length (.ref S.objs.length) = false by rw [below]; exact Bool.eq_false_iff.mpr (fun z => by rw [Nat.blt_eq] at z; omega), q2.1]
          rfl
        show Wp (Rs.ok (D.ref S.objs.length) (leave S S2 (.ref S.objs.length))) _
        rw [hl]
        exact Wp.of rfl ⟨rfl, rfl⟩
      · rw [if_neg (by rintro ⟨_, _, z⟩; cases z)]
        refine Wp.of (a := .non) (S := S) (run_pure rfl flat_non (Wp.of (a := .rt .non) (S := S2) ?_ ⟨rfl, hN⟩)) ⟨rfl, rfl⟩
        rw [e0]
        simp [initE, List.replicate, retS, retN, seqS, asgS, exprS, ifS, parS, skipS, setAll, varE, cstE, nilL, consL, tupE, mkL, un1, bin2, andE, orE, ifE, chainE, boolT, truthT, notT, andT, orT, yesT, callE, nameG, tupG, consG, nilG, itemsD, opNot, opAdd, opSub, opDiv, opMod, opNeg, opEq, opNe, opLt, opLe, opGt, opGe, opIsNot, opIs, eqD, ltD, leD, truth, at_nat, at_0, at_1, at_2, at_3, at_4, opIx, fLen, coreE, coreL, opIsi, isTy, opAbs, opMax, opMin, opInt, opMul, is_nn, is_nt, is_nr, is_nb, is_ni, is_ntm, is_nst, b_waits_in, h1, hd, hp, makeE, i1, std, r1, r2, methE, h6, List.lookup, h5, hno]
    · rw [if_neg (by rintro ⟨_, z, _⟩; rw [q1] at z; cases z)]
      have hN : Nw S.objs S2 := ⟨[ivO J], q2.1, fun k hk => by
        have := q2.2 k hk
        rw [this, q2.1]; simp [initE, List.replicate, retS, retN, seqS, asgS, exprS, ifS, parS, skipS, setAll, varE, cstE, nilL, consL, tupE, mkL, un1, bin2, andE, orE, ifE, chainE, boolT, truthT, notT, andT, orT, yesT, callE, nameG, tupG, consG, nilG, itemsD, opNot, opAdd, opSub, opDiv, opMod, opNeg, opEq, opNe, opLt, opLe, opGt, opGe, opIsNot, opIs, eqD, ltD, leD, truth, at_nat, at_0, at_1, at_2, at_3, at_4, opIx, fLen, coreE, coreL, opIsi, isTy, opAbs, opMax, opMin, opInt, opMul, is_nn, is_nt, is_nr, is_nb, is_ni, is_ntm, is_nst]⟩
      refine Wp.of (a := .non) (S := S) (run_pure rfl flat_non (Wp.of (a := .rt .non) (S := S2) ?_ ⟨rfl, hN⟩)) ⟨rfl, rfl⟩
      rw [e0]
      simp [initE, List.replicate, retS, retN, seqS, asgS, exprS, ifS, parS, skipS, setAll, varE, cstE, nilL, consL, tupE, mkL, un1, bin2, andE, orE, ifE, chainE, boolT, truthT, notT, andT, orT, yesT, callE, nameG, tupG, consG, nilG, itemsD, opNot, opAdd, opSub, opDiv, opMod, opNeg, opEq, opNe, opLt, opLe, opGt, opGe, opIsNot, opIs, eqD, ltD, leD, truth, at_nat, at_0, at_1, at_2, at_3, at_4, opIx, fLen, coreE, coreL, opIsi, isTy, opAbs, opMax, opMin, opInt, opMul, is_nn, is_nt, is_nr, is_nb, is_ni, is_ntm, is_nst, b_waits_in, h1, hd, hp, makeE, i1, std, r1, r2]
  · rw [if_neg (by rintro ⟨z, _⟩; exact a1 z)]
    refine Wp.of (a := .non) (S := S) (run_val rfl flat_non ?_) ⟨rfl, rfl⟩
    have a1' : ¬ p = x.s := fun z => a1 z.symm
    have a2' : ¬ (p : Int) = (x.s : Int) := by omega
    rw [e0]
    simp [initE, List.replicate, retS, retN, seqS, asgS, exprS, ifS, parS, skipS, setAll, varE, cstE, nilL, consL, tupE, mkL, un1, bin2, andE, orE, ifE, chainE, boolT, truthT, notT, andT, orT, yesT, callE, nameG, tupG, consG, nilG, itemsD, opNot, opAdd, opSub, opDiv, opMod, opNeg, opEq, opNe, opLt, opLe, opGt, opGe, opIsNot, opIs, eqD, ltD, leD, truth, at_nat, at_0, at_1, at_2, at_3, at_4, opIx, fLen, coreE, coreL, opIsi, isTy, opAbs, opMax, opMin, opInt, opMul, is_nn, is_nt, is_nr, is_nb, is_ni, is_ntm, is_nst, b_waits_in, h1, hd, hp, std, a1', a2']
end K81
set_option Elab.async false
set_option linter.all false
set_option maxRecDepth 100000
set_option maxHeartbeats 4000000
namespace K81
open PySem Ev
def isStuck (m : Mc) (p : Nat) (ts : List Rat) : Bool := (List.range m.es.length).all fun e => (waitsP m p ts e).isNone
theorem rng_len (m : Mc) (hm : McOk m) (S : Store) (r : List (Option D)) : rngI1 (coreE fLen (bin2 opIx (varE 0) (cstE (.int (3))))) (some m.d :: r) S = .ok (.rng 0 m.es.length) S := by
  have e : atD [D.int m.p, .int m.k, .tup (m.st.map dms), .tup (m.es.map Ed.d)] 3 = some (.tup (m.es.map Ed.d)) := rfl
  refine rng_nat ?_ (by have := hm.el; omega)
  unfold coreE bin2 opIx varE cstE Mc.d
  simp only [List.getElem?_cons_zero, bind_ok, e, ofO_some, itemsD, fLen, List.length_map]
theorem stuck_loop (n : Nat) (m : Mc) (p : Nat) (ts : List Rat) (B : List O) (hm : McOk m) (hs : StS m p ts) : Wp (lc_is_stuck_in_1 (ev (n + 5)) [some m.d, some (std p ts), none] ⟨B, []⟩) fun (l : List D) (S' : Store) => l = (List.range m.es.length).map (fun (e : Nat) => D.bl (waitsP m p ts e).isNone) ∧ Nw B S' := by
  unfold lc_is_stuck_in_1
  rw [lcL_src (rng_len m hm _ _)]
  refine (lc_grow (I := fun _ => True) (G := Nw B) (onI fun e => some (.bl (waitsP m p ts e).isNone)) (fun _ _ => trivial) _ FU _ [] _ (PS.rng _ _ _) (by rw [intsFrom_len, FU_eq]; have := hm.el; omega) (Nw.refl _) ?_).mono ?_
  · intro d hd S1 hS1
    obtain ⟨e, rfl, he⟩ := mem_ints hd
    refine ⟨_, rfl, ?_⟩
    refine Wp.elim (waits_in_t n m p ts e S1 hm hs he) ?_
    intro d S2 e2 q
    refine Wp.of (a := true) (S := S1) rfl ⟨hS1, fun _ => ?_, fun z => by cases z⟩
    simp -implicitDefEqProofs [initE, List.replicate, retS, retN, seqS, asgS, exprS, ifS, parS, skipS, setAll, varE, cstE, nilL, consL, tupE, mkL, un1, bin2, andE, orE, ifE, chainE, boolT, truthT, notT, andT, orT, yesT, callE, nameG, tupG, consG, nilG, itemsD, opNot, opAdd, opSub, opDiv, opMod, opNeg, opLt, opLe, opGt, opGe, opIsNot, opIs, eqD, ltD, leD, truth, at_nat, at_0, at_1, at_2, at_3, at_4, opIx, fLen, coreE, coreL, opIsi, isTy, opAbs, opMax, opMin, opInt, opMul, is_nn, is_nt, is_nr, is_nb, is_ni, is_ntm, is_nst, wipeE, e2]
    cases hw : waitsP m p ts e <;> rw [hw] at q <;> obtain ⟨rfl, rfl⟩ := q
    · exact ⟨hS1, by simp [initE, List.replicate, retS, retN, seqS, asgS, exprS, ifS, parS, skipS, setAll, varE, cstE, nilL, consL, tupE, mkL, un1, bin2, andE, orE, ifE, chainE, boolT, truthT, notT, andT, orT, yesT, callE, nameG, tupG, consG, nilG, itemsD, opNot, opAdd, opSub, opDiv, opMod, opNeg, opLt, opLe, opGt, opGe, opIsNot, opIs, eqD, ltD, leD, truth, at_nat, at_0, at_1, at_2, at_3, at_4, opIx, fLen, coreE, coreL, opIsi, isTy, opAbs, opMax, opMin, opInt, opMul, is_nn, is_nt, is_nr, is_nb, is_ni, is_ntm, is_nst, onI, hw]⟩
    · exact ⟨hS1.alloc _, by simp [initE, List.replicate, retS, retN, seqS, asgS, exprS, ifS, parS, skipS, setAll, varE, cstE, nilL, consL, tupE, mkL, un1, bin2, andE, orE, ifE, chainE, boolT, truthT, notT, andT, orT, yesT, callE, nameG, tupG, consG, nilG, itemsD, opNot, opAdd, opSub, opDiv, opMod, opNeg, opLt, opLe, opGt, opGe, opIsNot, opIs, eqD, ltD, leD, truth, at_nat, at_0, at_1, at_2, at_3, at_4, opIx, fLen, coreE, coreL, opIsi, isTy, opAbs, opMax, opMin, opInt, opMul, is_nn, is_nt, is_nr, is_nb, is_ni, is_ntm, is_nst, onI, hw]⟩
  · intro l S' q
    refine ⟨?_, q.2⟩
    rw [q.1, fm_ints, fm_some, List.reverse_nil, List.nil_append]
theorem is_stuck_in_t (n : Nat) (m : Mc) (p : Nat) (ts : List Rat) (S : Store) (hm : McOk m) (hs : StS m p ts) : ev (n + 6) j_is_stuck_in [m.d, std p ts] S = .ok (.bl (isStuck m p ts)) S := by
  rw [u_is_stuck_in]
  refine run_pure rfl (by simp [initE, List.replicate, retS, retN, seqS, asgS, exprS, ifS, parS, skipS, setAll, varE, cstE, nilL, consL, tupE, mkL, un1, bin2, andE, orE, ifE, chainE, boolT, truthT, notT, andT, orT, yesT, callE, nameG, tupG, consG, nilG, itemsD, opNot, opAdd, opSub, opDiv, opMod, opNeg, opLt, opLe, opGt, opGe, opIsNot, opIs, eqD, ltD, leD, truth, at_nat, at_0, at_1, at_2, at_3, at_4, opIx, fLen, coreE, coreL, opIsi, isTy, opAbs, opMax, opMin, opInt, opMul, is_nn, is_nt, is_nr, is_nb, is_ni, is_ntm, is_nst]) ?_
  refine Wp.elim (stuck_loop n m p ts S.objs hm hs) ?_
  intro l S' e1 q
  have hN := q.2
  rw [q.1] at e1
  refine Wp.of (a := .rt (.bl (isStuck m p ts))) (S := S') ?_ ⟨rfl, hN⟩
  simp -implicitDefEqProofs [initE, List.replicate, retS, retN, seqS, asgS, exprS, ifS, parS, skipS, setAll, varE, cstE, nilL, consL, tupE, mkL, un1, bin2, andE, orE, ifE, chainE, boolT, truthT, notT, andT, orT, yesT, callE, nameG, tupG, consG, nilG, itemsD, opNot, opAdd, opSub, opDiv, opMod, opNeg, opLt, opLe, opGt, opGe, opIsNot, opIs, eqD, ltD, leD, truth, at_nat, at_0, at_1, at_2, at_3, at_4, opIx, fLen, coreE, coreL, opIsi, isTy, opAbs, opMax, opMin, opInt, opMul, is_nn, is_nt, is_nr, is_nb, is_ni, is_ntm, is_nst, b_is_stuck_in, e1, fAll_map, isStuck]
theorem need_let_t (n : Nat) (m : Mc) (p : Nat) (ts : List Rat) (S : Store) (hm : McOk m) (hs : StOk m p ts) (hl : letIn m p ts = true) : ev (n + 8) j_need_let_state [m.d, std p ts] S = .ok .non S := by
  rw [u_need_let_state]
  refine run_nx (env := [some m.d, some (std p ts)]) rfl ?_
  have h1 := need_machine_t n m ⟨S.objs, []⟩ hm
  have h2 := need_state_t (n + 2) m p ts ⟨S.objs, []⟩ hm hs
  have h3 := let_in_t (n + 4) m p ts ⟨S.objs, []⟩ hm hs.p hs.l
  simp -implicitDefEqProofs [initE, List.replicate, retS, retN, seqS, asgS, exprS, ifS, parS, skipS, setAll, varE, cstE, nilL, consL, tupE, mkL, un1, bin2, andE, orE, ifE, chainE, boolT, truthT, notT, andT, orT, yesT, callE, nameG, tupG, consG, nilG, itemsD, opNot, opAdd, opSub, opDiv, opMod, opNeg, opLt, opLe, opGt, opGe, opIsNot, opIs, eqD, ltD, leD, truth, at_nat, at_0, at_1, at_2, at_3, at_4, opIx, fLen, coreE, coreL, opIsi, isTy, opAbs, opMax, opMin, opInt, opMul, is_nn, is_nt, is_nr, is_nb, is_ni, is_ntm, is_nst, b_need_let_state, h1, h2, h3, hl]
theorem longest_t (n : Nat) (m : Mc) (p : Nat) (ts : List Rat) (S : Store) (hm : McOk m) (hs : StS m p ts) : ∃ d, ev (n + 4) j_longest_in [m.d, std p ts] S = .ok d S ∧ flat d = true ∧ isC .non d = (m.stay p).isEmpty := by
  rw [u_longest_in]
  obtain ⟨s1, s2, _⟩ := stay_ok m p hm hs.p
  have h1 : Wp (fo_longest_in_1 (ev (n + 3)) [some m.d, some (std p ts), some .non, none, none, none, none, none] ⟨S.objs, []⟩) fun f S' => S' = ⟨S.objs, []⟩ ∧ ∃ d a b c x y, f = .nx [some m.d, some (std p ts), some d, a, b, c, x, y] ∧ flat d = true ∧ isC .non d = (m.stay p).isEmpty := by
    unfold fo_longest_in_1
    rw [forS_val (ds := (m.stay p).map Dm.d) (by simp -implicitDefEqProofs [initE, List.replicate, retS, retN, seqS, asgS, exprS, ifS, parS, skipS, setAll, varE, cstE, nilL, consL, tupE, mkL, un1, bin2, andE, orE, ifE, chainE, boolT, truthT, notT, andT, orT, yesT, callE, nameG, tupG, consG, nilG, itemsD, opNot, opAdd, opSub, opDiv, opMod, opNeg, opLt, opLe, opGt, opGe, opIsNot, opIs, eqD, ltD, leD, truth, at_nat, at_0, at_1, at_2, at_3, at_4, opIx, fLen, coreE, coreL, opIsi, isTy, opAbs, opMax, opMin, opInt, opMul, is_nn, is_nt, is_nr, is_nb, is_ni, is_ntm, is_nst, Mc.d, std, stay_get m p hm hs.p, dms])]
    refine for_inv (I := fun _ => True) (P := fun ds env S' => ∃ (r : List Dm) (o : Option (Rat × Bool)) (a b c x y : Option D), ds = r.map Dm.d ∧ (∀ x ∈ r, DmOk m.k x) ∧ env = [some m.d, some (std p ts), some (match o with | none => .non | some q => .tup [tm q.1, .bl q.2]), a, b, c, x, y] ∧ S' = ⟨S.objs, []⟩ ∧ (∀ q, o = some q → ok64 q.1) ∧ (r.length ≤ (m.stay p).length ∧ (o.isNone = decide (r.length = (m.stay p).length)))) ?_ ?_ _ FU _ _ _ (PS.fix _ _) (by rw [FU_eq, List.length_map]; omega) ⟨m.stay p, none, none, none, none, none, none, rfl, s1.each, rfl, rfl, (fun q h => by cases h), Nat.le_refl _, (by simp [initE, List.replicate, retS, retN, seqS, asgS, exprS, ifS, parS, skipS, setAll, varE, cstE, nilL, consL, tupE, mkL, un1, bin2, andE, orE, ifE, chainE, boolT, truthT, notT, andT, orT, yesT, callE, nameG, tupG, consG, nilG, itemsD, opNot, opAdd, opSub, opDiv, opMod, opNeg, opLt, opLe, opGt, opGe, opIsNot, opIs, eqD, ltD, leD, truth, at_nat, at_0, at_1, at_2, at_3, at_4, opIx, fLen, coreE, coreL, opIsi, isTy, opAbs, opMax, opMin, opInt, opMul, is_nn, is_nt, is_nr, is_nb, is_ni, is_ntm, is_nst])⟩
    · rintro d r env S' ⟨r', o, a, b, c, u, v, e1, e2, rfl, rfl, e5, e6, e7⟩
      cases r' with
      | nil => simp [initE, List.replicate, retS, retN, seqS, asgS, exprS, ifS, parS, skipS, setAll, varE, cstE, nilL, consL, tupE, mkL, un1, bin2, andE, orE, ifE, chainE, boolT, truthT, notT, andT, orT, yesT, callE, nameG, tupG, consG, nilG, itemsD, opNot, opAdd, opSub, opDiv, opMod, opNeg, opLt, opLe, opGt, opGe, opIsNot, opIs, eqD, ltD, leD, truth, at_nat, at_0, at_1, at_2, at_3, at_4, opIx, fLen, coreE, coreL, opIsi, isTy, opAbs, opMax, opMin, opInt, opMul, is_nn, is_nt, is_nr, is_nb, is_ni, is_ntm, is_nst] at e1
      | cons x r' =>
        simp only [List.map_cons, List.cons.injEq] at e1
        obtain ⟨rfl, rfl⟩ := e1
        have hx := e2 x List.mem_cons_self
        refine ⟨trivial, _, _, rfl, ?_⟩
        have hq := hs.t _ (getD_mem (c := x.c) (by rw [hs.l]; exact hx.c))
        have hx64 : ok64 (ts.getD x.c 0) := sm_ok hq.2 (by decide) (by decide)
        have hl64 : ok64 ((x.n : Rat) - ts.getD x.c 0) := sm_ok (con_sm hs hx) (by decide) (by decide)
        have hv64 : ok64 (x.n : Rat) := (Sm.nat x.n).mono (by have := hx.n; omega) (by omega)
        have h1 : ∀ S, ev (n + 3) j_difference [.tup [.int x.n, .int 1], tm (ts.getD x.c 0)] S = .ok (tm ((x.n : Rat) - ts.getD x.c 0)) S := fun S => by
          have := difference_t n (x.n : Rat) (ts.getD x.c 0) S hv64 hx64
          have e : tm (x.n : Rat) = .tup [.int x.n, .int 1] := by simp -implicitDefEqProofs [initE, List.replicate, retS, retN, seqS, asgS, exprS, ifS, parS, skipS, setAll, varE, cstE, nilL, consL, tupE, mkL, un1, bin2, andE, orE, ifE, chainE, boolT, truthT, notT, andT, orT, yesT, callE, nameG, tupG, consG, nilG, itemsD, opNot, opAdd, opSub, opDiv, opMod, opNeg, opLt, opLe, opGt, opGe, opIsNot, opIs, eqD, ltD, leD, truth, at_nat, at_0, at_1, at_2, at_3, at_4, opIx, fLen, coreE, coreL, opIsi, isTy, opAbs, opMax, opMin, opInt, opMul, is_nn, is_nt, is_nr, is_nb, is_ni, is_ntm, is_nst, tm]
          rw [e] at this; exact this
        have h2 : atD (ts.map tm) (x.c : Int) = some (tm (ts.getD x.c 0)) := at_tms ts x.c (by rw [hs.l]; exact hx.c)
        generalize (x.n : Rat) - ts.getD x.c 0 = l at *
        have e1 : ∀ S, opNe (.str x.r.s) (.str s_less) S = .ok (.bl (x.r != .less)) S := fun S => by
          unfold opNe eqD; simp only [eq_less]; rfl
        have h4 : atD [D.int p, D.tup (ts.map tm)] 1 = some (D.tup (ts.map tm)) := rfl
        have hr : r'.length + 1 ≤ (m.stay p).length := e6
        have fin : ∀ (q : Rat × Bool) (S' : Store), ok64 q.1 → S' = ⟨S.objs, []⟩ → ∃ (r : List Dm) (o : Option (Rat × Bool)) (a b c x_1 y : Option D), r'.map Dm.d = r.map Dm.d ∧ (∀ x ∈ r, DmOk m.k x) ∧ [some m.d, some (std p ts), some (.tup [tm q.1, .bl q.2]), some (.int x.c), some (.str x.r.s), some (.int x.n), some (tm l), some (.bl (x.r != .less))] = [some m.d, some (std p ts), some (match o with | none => .non | some q => .tup [tm q.1, .bl q.2]), a, b, c, x_1, y] ∧ S' = ⟨S.objs, []⟩ ∧ (∀ q, o = some q → ok64 q.1) ∧ (r.length ≤ (m.stay p).length ∧ (o.isNone = decide (r.length = (m.stay p).length))) := fun q S' hq hS' =>
          ⟨r', some q, _, _, _, _, _, rfl, fun y hy => e2 y (List.mem_cons_of_mem _ hy), rfl, hS', (fun q' h => by cases h; exact hq), by omega, by
            rw [decide_eq_false (by omega)]; rfl⟩
        unfold fb_longest_in_1
        unfold seqS parS
        cases o with
        | none =>
          refine Wp.of (a := .nx [some m.d, some (std p ts), some (.tup [tm l, .bl (x.r != .less)]), some (.int x.c), some (.str x.r.s), some (.int x.n), some (tm l), some (.bl (x.r != .less))]) (S := ⟨S.objs, []⟩) ?_ (fin (l, x.r != .less) _ hl64 rfl)
          simp -implicitDefEqProofs [initE, List.replicate, retS, retN, seqS, asgS, exprS, ifS, parS, skipS, setAll, varE, cstE, nilL, consL, tupE, mkL, un1, bin2, andE, orE, ifE, chainE, boolT, truthT, notT, andT, orT, yesT, callE, nameG, tupG, consG, nilG, itemsD, opNot, opAdd, opSub, opDiv, opMod, opNeg, opLt, opLe, opGt, opGe, opIsNot, opIs, eqD, ltD, leD, truth, at_nat, at_0, at_1, at_2, at_3, at_4, opIx, fLen, coreE, coreL, opIsi, isTy, opAbs, opMax, opMin, opInt, opMul, is_nn, is_nt, is_nr, is_nb, is_ni, is_ntm, is_nst, -List.getD_eq_getElem?_getD, std, tms, opIx, h4, h2, h1, d_LESS, e1]
        | some q =>
          obtain ⟨q, k⟩ := q
          have h5 := is_under_t (n + 2) l q ⟨S.objs, []⟩ hl64 (e5 _ rfl)
          have h6 := opEq_tm l q ⟨S.objs, []⟩
          by_cases c1 : l < q
          · refine Wp.of (a := .nx [some m.d, some (std p ts), some (.tup [tm l, .bl (x.r != .less)]), some (.int x.c), some (.str x.r.s), some (.int x.n), some (tm l), some (.bl (x.r != .less))]) (S := ⟨S.objs, []⟩) ?_ (fin (l, x.r != .less) _ hl64 rfl)
            simp -implicitDefEqProofs [initE, List.replicate, retS, retN, seqS, asgS, exprS, ifS, parS, skipS, setAll, varE, cstE, nilL, consL, tupE, mkL, un1, bin2, andE, orE, ifE, chainE, boolT, truthT, notT, andT, orT, yesT, callE, nameG, tupG, consG, nilG, itemsD, opNot, opAdd, opSub, opDiv, opMod, opNeg, opLt, opLe, opGt, opGe, opIsNot, opIs, eqD, ltD, leD, truth, at_nat, at_0, at_1, at_2, at_3, at_4, opIx, fLen, coreE, coreL, opIsi, isTy, opAbs, opMax, opMin, opInt, opMul, is_nn, is_nt, is_nr, is_nb, is_ni, is_ntm, is_nst, -List.getD_eq_getElem?_getD, std, tms, opIx, h4, h2, h1, d_LESS, e1, h5, c1]
          · by_cases c2 : l = q
            · subst c2
              refine Wp.of (a := .nx [some m.d, some (std p ts), some (.tup [tm l, .bl ((x.r != .less) && k)]), some (.int x.c), some (.str x.r.s), some (.int x.n), some (tm l), some (.bl (x.r != .less))]) (S := ⟨S.objs, []⟩) ?_ (fin (l, (x.r != .less) && k) _ hl64 rfl)
              simp -implicitDefEqProofs [initE, List.replicate, retS, retN, seqS, asgS, exprS, ifS, parS, skipS, setAll, varE, cstE, nilL, consL, tupE, mkL, un1, bin2, andE, orE, ifE, chainE, boolT, truthT, notT, andT, orT, yesT, callE, nameG, tupG, consG, nilG, itemsD, opNot, opAdd, opSub, opDiv, opMod, opNeg, opLt, opLe, opGt, opGe, opIsNot, opIs, eqD, ltD, leD, truth, at_nat, at_0, at_1, at_2, at_3, at_4, opIx, fLen, coreE, coreL, opIsi, isTy, opAbs, opMax, opMin, opInt, opMul, is_nn, is_nt, is_nr, is_nb, is_ni, is_ntm, is_nst, -List.getD_eq_getElem?_getD, std, tms, opIx, h4, h2, h1, d_LESS, e1, h5, c1, h6]
              cases hk : (x.r != Rl.less) <;> simp [initE, List.replicate, retS, retN, seqS, asgS, exprS, ifS, parS, skipS, setAll, varE, cstE, nilL, consL, tupE, mkL, un1, bin2, andE, orE, ifE, chainE, boolT, truthT, notT, andT, orT, yesT, callE, nameG, tupG, consG, nilG, itemsD, opNot, opAdd, opSub, opDiv, opMod, opNeg, opLt, opLe, opGt, opGe, opIsNot, opIs, eqD, ltD, leD, truth, at_nat, at_0, at_1, at_2, at_3, at_4, opIx, fLen, coreE, coreL, opIsi, isTy, opAbs, opMax, opMin, opInt, opMul, is_nn, is_nt, is_nr, is_nb, is_ni, is_ntm, is_nst]
            · refine Wp.of (a := .nx [some m.d, some (std p ts), some (.tup [tm q, .bl k]), some (.int x.c), some (.str x.r.s), some (.int x.n), some (tm l), some (.bl (x.r != .less))]) (S := ⟨S.objs, []⟩) ?_ (fin (q, k) _ (e5 _ rfl) rfl)
              simp -implicitDefEqProofs [initE, List.replicate, retS, retN, seqS, asgS, exprS, ifS, parS, skipS, setAll, varE, cstE, nilL, consL, tupE, mkL, un1, bin2, andE, orE, ifE, chainE, boolT, truthT, notT, andT, orT, yesT, callE, nameG, tupG, consG, nilG, itemsD, opNot, opAdd, opSub, opDiv, opMod, opNeg, opLt, opLe, opGt, opGe, opIsNot, opIs, eqD, ltD, leD, truth, at_nat, at_0, at_1, at_2, at_3, at_4, opIx, fLen, coreE, coreL, opIsi, isTy, opAbs, opMax, opMin, opInt, opMul, is_nn, is_nt, is_nr, is_nb, is_ni, is_ntm, is_nst, -List.getD_eq_getElem?_getD, std, tms, opIx, h4, h2, h1, d_LESS, e1, h5, c1, h6, c2]
    · rintro env S' ⟨r', o, a, b, c, u, v, e1, e2, rfl, rfl, e5, e6, e7⟩
      have : r' = [] := by cases r' with
        | nil => rfl
        | cons x r' => simp [initE, List.replicate, retS, retN, seqS, asgS, exprS, ifS, parS, skipS, setAll, varE, cstE, nilL, consL, tupE, mkL, un1, bin2, andE, orE, ifE, chainE, boolT, truthT, notT, andT, orT, yesT, callE, nameG, tupG, consG, nilG, itemsD, opNot, opAdd, opSub, opDiv, opMod, opNeg, opLt, opLe, opGt, opGe, opIsNot, opIs, eqD, ltD, leD, truth, at_nat, at_0, at_1, at_2, at_3, at_4, opIx, fLen, coreE, coreL, opIsi, isTy, opAbs, opMax, opMin, opInt, opMul, is_nn, is_nt, is_nr, is_nb, is_ni, is_ntm, is_nst] at e1
      subst this
      refine ⟨trivial, rfl, _, _, _, _, _, _, rfl, ?_, ?_⟩
      · cases o <;> simp -implicitDefEqProofs [initE, List.replicate, retS, retN, seqS, asgS, exprS, ifS, parS, skipS, setAll, varE, cstE, nilL, consL, tupE, mkL, un1, bin2, andE, orE, ifE, chainE, boolT, truthT, notT, andT, orT, yesT, callE, nameG, tupG, consG, nilG, itemsD, opNot, opAdd, opSub, opDiv, opMod, opNeg, opLt, opLe, opGt, opGe, opIsNot, opIs, eqD, ltD, leD, truth, at_nat, at_0, at_1, at_2, at_3, at_4, opIx, fLen, coreE, coreL, opIsi, isTy, opAbs, opMax, opMin, opInt, opMul, is_nn, is_nt, is_nr, is_nb, is_ni, is_ntm, is_nst, flat_tm]
      · have e8 : (m.stay p).isEmpty = o.isNone := by
          rw [e7]
          cases m.stay p <;> simp [initE, List.replicate, retS, retN, seqS, asgS, exprS, ifS, parS, skipS, setAll, varE, cstE, nilL, consL, tupE, mkL, un1, bin2, andE, orE, ifE, chainE, boolT, truthT, notT, andT, orT, yesT, callE, nameG, tupG, consG, nilG, itemsD, opNot, opAdd, opSub, opDiv, opMod, opNeg, opLt, opLe, opGt, opGe, opIsNot, opIs, eqD, ltD, leD, truth, at_nat, at_0, at_1, at_2, at_3, at_4, opIx, fLen, coreE, coreL, opIsi, isTy, opAbs, opMax, opMin, opInt, opMul, is_nn, is_nt, is_nr, is_nb, is_ni, is_ntm, is_nst]
        rw [e8]
        cases o <;> rfl
  obtain ⟨f, S', e1, rfl, d, a, b, c, x, y, rfl, hf, hd⟩ := h1.get
  refine ⟨d, run_val rfl hf ?_, hf, hd⟩
  simp -implicitDefEqProofs [initE, List.replicate, retS, retN, seqS, asgS, exprS, ifS, parS, skipS, setAll, varE, cstE, nilL, consL, tupE, mkL, un1, bin2, andE, orE, ifE, chainE, boolT, truthT, notT, andT, orT, yesT, callE, nameG, tupG, consG, nilG, itemsD, opNot, opAdd, opSub, opDiv, opMod, opNeg, opLt, opLe, opGt, opGe, opIsNot, opIs, eqD, ltD, leD, truth, at_nat, at_0, at_1, at_2, at_3, at_4, opIx, fLen, coreE, coreL, opIsi, isTy, opAbs, opMax, opMin, opInt, opMul, is_nn, is_nt, is_nr, is_nb, is_ni, is_ntm, is_nst, b_longest_in, e1]
theorem is_stopped_in_t (n : Nat) (m : Mc) (p : Nat) (ts : List Rat) (S : Store) (hm : McOk m) (hs : StS m p ts) : ev (n + 7) j_is_stopped_in [m.d, std p ts] S = .ok (.bl (isStuck m p ts && !(m.stay p).isEmpty)) S := by
  rw [u_is_stopped_in]
  refine run_val rfl (by simp [initE, List.replicate, retS, retN, seqS, asgS, exprS, ifS, parS, skipS, setAll, varE, cstE, nilL, consL, tupE, mkL, un1, bin2, andE, orE, ifE, chainE, boolT, truthT, notT, andT, orT, yesT, callE, nameG, tupG, consG, nilG, itemsD, opNot, opAdd, opSub, opDiv, opMod, opNeg, opLt, opLe, opGt, opGe, opIsNot, opIs, eqD, ltD, leD, truth, at_nat, at_0, at_1, at_2, at_3, at_4, opIx, fLen, coreE, coreL, opIsi, isTy, opAbs, opMax, opMin, opInt, opMul, is_nn, is_nt, is_nr, is_nb, is_ni, is_ntm, is_nst]) ?_
  have h1 := is_stuck_in_t n m p ts ⟨S.objs, []⟩ hm hs
  obtain ⟨d, h2, _, h3⟩ := longest_t (n + 2) m p ts ⟨S.objs, []⟩ hm hs
  cases hq : isStuck m p ts <;> rw [hq] at h1
  · simp -implicitDefEqProofs [initE, List.replicate, retS, retN, seqS, asgS, exprS, ifS, parS, skipS, setAll, varE, cstE, nilL, consL, tupE, mkL, un1, bin2, andE, orE, ifE, chainE, boolT, truthT, notT, andT, orT, yesT, callE, nameG, tupG, consG, nilG, itemsD, opNot, opAdd, opSub, opDiv, opMod, opNeg, opLt, opLe, opGt, opGe, opIsNot, opIs, eqD, ltD, leD, truth, at_nat, at_0, at_1, at_2, at_3, at_4, opIx, fLen, coreE, coreL, opIsi, isTy, opAbs, opMax, opMin, opInt, opMul, is_nn, is_nt, is_nr, is_nb, is_ni, is_ntm, is_nst, b_is_stopped_in, h1]
  · simp -implicitDefEqProofs [initE, List.replicate, retS, retN, seqS, asgS, exprS, ifS, parS, skipS, setAll, varE, cstE, nilL, consL, tupE, mkL, un1, bin2, andE, orE, ifE, chainE, boolT, truthT, notT, andT, orT, yesT, callE, nameG, tupG, consG, nilG, itemsD, opNot, opAdd, opSub, opDiv, opMod, opNeg, opLt, opLe, opGt, opGe, opIsNot, opIs, eqD, ltD, leD, truth, at_nat, at_0, at_1, at_2, at_3, at_4, opIx, fLen, coreE, coreL, opIsi, isTy, opAbs, opMax, opMin, opInt, opMul, is_nn, is_nt, is_nr, is_nb, is_ni, is_ntm, is_nst, b_is_stopped_in, h1, h2, h3]
theorem is_stuck_t (n : Nat) (m : Mc) (p : Nat) (ts : List Rat) (S : Store) (hm : McOk m) (hs : StS m p ts) (hl : letIn m p ts = true) : ev (n + 9) j_is_stuck [m.d, std p ts] S = .ok (.bl (isStuck m p ts)) S := by
  rw [u_is_stuck]
  refine run_val rfl (by simp [initE, List.replicate, retS, retN, seqS, asgS, exprS, ifS, parS, skipS, setAll, varE, cstE, nilL, consL, tupE, mkL, un1, bin2, andE, orE, ifE, chainE, boolT, truthT, notT, andT, orT, yesT, callE, nameG, tupG, consG, nilG, itemsD, opNot, opAdd, opSub, opDiv, opMod, opNeg, opLt, opLe, opGt, opGe, opIsNot, opIs, eqD, ltD, leD, truth, at_nat, at_0, at_1, at_2, at_3, at_4, opIx, fLen, coreE, coreL, opIsi, isTy, opAbs, opMax, opMin, opInt, opMul, is_nn, is_nt, is_nr, is_nb, is_ni, is_ntm, is_nst]) ?_
  have h1 := need_let_t n m p ts ⟨S.objs, []⟩ hm hs.ok hl
  have h2 := is_stuck_in_t (n + 2) m p ts ⟨S.objs, []⟩ hm hs
  simp -implicitDefEqProofs [initE, List.replicate, retS, retN, seqS, asgS, exprS, ifS, parS, skipS, setAll, varE, cstE, nilL, consL, tupE, mkL, un1, bin2, andE, orE, ifE, chainE, boolT, truthT, notT, andT, orT, yesT, callE, nameG, tupG, consG, nilG, itemsD, opNot, opAdd, opSub, opDiv, opMod, opNeg, opLt, opLe, opGt, opGe, opIsNot, opIs, eqD, ltD, leD, truth, at_nat, at_0, at_1, at_2, at_3, at_4, opIx, fLen, coreE, coreL, opIsi, isTy, opAbs, opMax, opMin, opInt, opMul, is_nn, is_nt, is_nr, is_nb, is_ni, is_ntm, is_nst, b_is_stuck, h1, h2]
theorem is_stopped_t (n : Nat) (m : Mc) (p : Nat) (ts : List Rat) (S : Store) (hm : McOk m) (hs : StS m p ts) (hl : letIn m p ts = true) : ev (n + 9) j_is_stopped [m.d, std p ts] S = .ok (.bl (isStuck m p ts && !(m.stay p).isEmpty)) S := by
  rw [u_is_stopped]
  refine run_val rfl (by simp [initE, List.replicate, retS, retN, seqS, asgS, exprS, ifS, parS, skipS, setAll, varE, cstE, nilL, consL, tupE, mkL, un1, bin2, andE, orE, ifE, chainE, boolT, truthT, notT, andT, orT, yesT, callE, nameG, tupG, consG, nilG, itemsD, opNot, opAdd, opSub, opDiv, opMod, opNeg, opLt, opLe, opGt, opGe, opIsNot, opIs, eqD, ltD, leD, truth, at_nat, at_0, at_1, at_2, at_3, at_4, opIx, fLen, coreE, coreL, opIsi, isTy, opAbs, opMax, opMin, opInt, opMul, is_nn, is_nt, is_nr, is_nb, is_ni, is_ntm, is_nst]) ?_
  have h1 := need_let_t n m p ts ⟨S.objs, []⟩ hm hs.ok hl
  have h2 := is_stopped_in_t (n + 1) m p ts ⟨S.objs, []⟩ hm hs
  simp -implicitDefEqProofs [initE, List.replicate, retS, retN, seqS, asgS, exprS, ifS, parS, skipS, setAll, varE, cstE, nilL, consL, tupE, mkL, un1, bin2, andE, orE, ifE, chainE, boolT, truthT, notT, andT, orT, yesT, callE, nameG, tupG, consG, nilG, itemsD, opNot, opAdd, opSub, opDiv, opMod, opNeg, opLt, opLe, opGt, opGe, opIsNot, opIs, eqD, ltD, leD, truth, at_nat, at_0, at_1, at_2, at_3, at_4, opIx, fLen, coreE, coreL, opIsi, isTy, opAbs, opMax, opMin, opInt, opMul, is_nn, is_nt, is_nr, is_nb, is_ni, is_ntm, is_nst, b_is_stopped, h1, h2]
def waitD : Option Iv → D
  | none => .non
  | some I => .tup [tm I.b, .bl I.bc, endD (I.e, I.ec)]
theorem flat_waitD (o : Option Iv) : flat (waitD o) = true := by cases o <;> simp -implicitDefEqProofs [initE, List.replicate, retS, retN, seqS, asgS, exprS, ifS, parS, skipS, setAll, varE, cstE, nilL, consL, tupE, mkL, un1, bin2, andE, orE, ifE, chainE, boolT, truthT, notT, andT, orT, yesT, callE, nameG, tupG, consG, nilG, itemsD, opNot, opAdd, opSub, opDiv, opMod, opNeg, opLt, opLe, opGt, opGe, opIsNot, opIs, eqD, ltD, leD, truth, at_nat, at_0, at_1, at_2, at_3, at_4, opIx, fLen, coreE, coreL, opIsi, isTy, opAbs, opMax, opMin, opInt, opMul, is_nn, is_nt, is_nr, is_nb, is_ni, is_ntm, is_nst, waitD, flat_tm, flat_endD]
theorem waits_to_edge_t (n : Nat) (m : Mc) (p : Nat) (ts : List Rat) (e : Nat) (S : Store) (hm : McOk m) (hs : StS m p ts) (hl : letIn m p ts = true) (he : e < m.es.length) : ev (n + 9) j_waits_to_edge [m.d, std p ts, .int e] S = .ok (waitD (waitsP m p ts e)) S := by
  rw [u_waits_to_edge]
  refine run_pure rfl (flat_waitD _) ?_
  have h1 := need_let_t n m p ts ⟨S.objs, []⟩ hm hs.ok hl
  have h2 := need_edge_t (n + 5) m e ⟨S.objs, []⟩ he
  obtain ⟨d, S2, e2, q⟩ := (waits_in_t (n + 3) m p ts e ⟨S.objs, []⟩ hm hs he).get
  cases hw : waitsP m p ts e with
  | none =>
    rw [hw] at q
    obtain ⟨rfl, rfl⟩ := q
    refine Wp.of (a := .rt .non) (S := ⟨S.objs, []⟩) ?_ ⟨rfl, Nw.refl _⟩
    simp -implicitDefEqProofs [initE, List.replicate, retS, retN, seqS, asgS, exprS, ifS, parS, skipS, setAll, varE, cstE, nilL, consL, tupE, mkL, un1, bin2, andE, orE, ifE, chainE, boolT, truthT, notT, andT, orT, yesT, callE, nameG, tupG, consG, nilG, itemsD, opNot, opAdd, opSub, opDiv, opMod, opNeg, opLt, opLe, opGt, opGe, opIsNot, opIs, eqD, ltD, leD, truth, at_nat, at_0, at_1, at_2, at_3, at_4, opIx, fLen, coreE, coreL, opIsi, isTy, opAbs, opMax, opMin, opInt, opMul, is_nn, is_nt, is_nr, is_nb, is_ni, is_ntm, is_nst, b_waits_to_edge, h1, h2, e2]
  | some I =>
    rw [hw] at q
    obtain ⟨rfl, rfl⟩ := q
    refine Wp.of (a := .rt (waitD (some I))) (S := ⟨S.objs ++ [ivO I], []⟩) ?_ ⟨rfl, (Nw.refl S.objs).alloc _⟩
    have h3 : (S.objs ++ [O.ins 0 [(0, begD (I.b, I.bc)), (1, endD (I.e, I.ec))]])[S.objs.length]? = some (.ins 0 [(0, begD (I.b, I.bc)), (1, endD (I.e, I.ec))]) := by simp [initE, List.replicate, retS, retN, seqS, asgS, exprS, ifS, parS, skipS, setAll, varE, cstE, nilL, consL, tupE, mkL, un1, bin2, andE, orE, ifE, chainE, boolT, truthT, notT, andT, orT, yesT, callE, nameG, tupG, consG, nilG, itemsD, opNot, opAdd, opSub, opDiv, opMod, opNeg, opLt, opLe, opGt, opGe, opIsNot, opIs, eqD, ltD, leD, truth, at_nat, at_0, at_1, at_2, at_3, at_4, opIx, fLen, coreE, coreL, opIsi, isTy, opAbs, opMax, opMin, opInt, opMul, is_nn, is_nt, is_nr, is_nb, is_ni, is_ntm, is_nst]
    have hf1 : ∀ x y, fieldD 1 [(0, x), (1, y)] = some y := fun _ _ => rfl
    have hf0 : ∀ x y, fieldD 0 [(0, x), (1, y)] = some x := fun _ _ => rfl
    simp only [ivO] at e2 ⊢
    simp -implicitDefEqProofs [initE, List.replicate, retS, retN, seqS, asgS, exprS, ifS, parS, skipS, setAll, varE, cstE, nilL, consL, tupE, mkL, un1, bin2, andE, orE, ifE, chainE, boolT, truthT, notT, andT, orT, yesT, callE, nameG, tupG, consG, nilG, itemsD, opNot, opAdd, opSub, opDiv, opMod, opNeg, opLt, opLe, opGt, opGe, opIsNot, opIs, eqD, ltD, leD, truth, at_nat, at_0, at_1, at_2, at_3, at_4, opIx, fLen, coreE, coreL, opIsi, isTy, opAbs, opMax, opMin, opInt, opMul, is_nn, is_nt, is_nr, is_nb, is_ni, is_ntm, is_nst, b_waits_to_edge, h1, h2, e2, opFld, h3, hf0, hf1, csL, begD, waitD]
theorem edges_open_t (n : Nat) (m : Mc) (p : Nat) (ts : List Rat) (S : Store) (hm : McOk m) (hs : StOk m p ts) : ev (n + 9) j_edges_open [m.d, std p ts] S = .ok (nts ((List.range m.es.length).filter fun e => (edgeTo m p ts e).isSome)) S := by
  rw [u_edges_open]
  refine run_val rfl (flat_nts _) ?_
  have h1 := need_both_t n m p ts ⟨S.objs, []⟩ hm hs
  have h2 : lc_edges_open_1 (ev (n + 8)) [some m.d, some (std p ts), none] ⟨S.objs, []⟩ = .ok (((List.range m.es.length).filter fun e => (edgeTo m p ts e).isSome).map nt) ⟨S.objs, []⟩ := by
    unfold lc_edges_open_1
    rw [lcL_src (rng_len m hm _ _)]
    rw [lc_filt (I := fun _ => True) (onI fun e => if (edgeTo m p ts e).isSome then some (nt e) else none) trivial _ FU _ [] (PS.rng _ _ _) (by rw [intsFrom_len, FU_eq]; have := hm.el; omega) ?_]
    · rw [fm_ints, List.reverse_nil, List.nil_append]
      congr 1
      induction List.range m.es.length with
      | nil => rfl
      | cons x l ih =>
        rw [List.filterMap_cons, List.filter_cons]
        cases (edgeTo m p ts x).isSome <;> simp -implicitDefEqProofs [initE, List.replicate, retS, retN, seqS, asgS, exprS, ifS, parS, skipS, setAll, varE, cstE, nilL, consL, tupE, mkL, un1, bin2, andE, orE, ifE, chainE, boolT, truthT, notT, andT, orT, yesT, callE, nameG, tupG, consG, nilG, itemsD, opNot, opAdd, opSub, opDiv, opMod, opNeg, opLt, opLe, opGt, opGe, opIsNot, opIs, eqD, ltD, leD, truth, at_nat, at_0, at_1, at_2, at_3, at_4, opIx, fLen, coreE, coreL, opIsi, isTy, opAbs, opMax, opMin, opInt, opMul, is_nn, is_nt, is_nr, is_nb, is_ni, is_ntm, is_nst, ih]
    · intro d hd
      obtain ⟨e, rfl, he⟩ := mem_ints hd
      refine ⟨_, rfl, ?_⟩
      have h3 := after_edge_t (n + 4) m p ts e ⟨S.objs, []⟩ hm hs.p hs.l he
      cases hq : edgeTo m p ts e with
      | none =>
        rw [hq] at h3
        exact .inl ⟨by simp -implicitDefEqProofs [initE, List.replicate, retS, retN, seqS, asgS, exprS, ifS, parS, skipS, setAll, varE, cstE, nilL, consL, tupE, mkL, un1, bin2, andE, orE, ifE, chainE, boolT, truthT, notT, andT, orT, yesT, callE, nameG, tupG, consG, nilG, itemsD, opNot, opAdd, opSub, opDiv, opMod, opNeg, opLt, opLe, opGt, opGe, opIsNot, opIs, eqD, ltD, leD, truth, at_nat, at_0, at_1, at_2, at_3, at_4, opIx, fLen, coreE, coreL, opIsi, isTy, opAbs, opMax, opMin, opInt, opMul, is_nn, is_nt, is_nr, is_nb, is_ni, is_ntm, is_nst, onI, hq], by simp -implicitDefEqProofs [initE, List.replicate, retS, retN, seqS, asgS, exprS, ifS, parS, skipS, setAll, varE, cstE, nilL, consL, tupE, mkL, un1, bin2, andE, orE, ifE, chainE, boolT, truthT, notT, andT, orT, yesT, callE, nameG, tupG, consG, nilG, itemsD, opNot, opAdd, opSub, opDiv, opMod, opNeg, opLt, opLe, opGt, opGe, opIsNot, opIs, eqD, ltD, leD, truth, at_nat, at_0, at_1, at_2, at_3, at_4, opIx, fLen, coreE, coreL, opIsi, isTy, opAbs, opMax, opMin, opInt, opMul, is_nn, is_nt, is_nr, is_nb, is_ni, is_ntm, is_nst, wipeE, h3, stO]⟩
      | some x =>
        rw [hq] at h3
        exact .inr ⟨nt e, by simp -implicitDefEqProofs [initE, List.replicate, retS, retN, seqS, asgS, exprS, ifS, parS, skipS, setAll, varE, cstE, nilL, consL, tupE, mkL, un1, bin2, andE, orE, ifE, chainE, boolT, truthT, notT, andT, orT, yesT, callE, nameG, tupG, consG, nilG, itemsD, opNot, opAdd, opSub, opDiv, opMod, opNeg, opLt, opLe, opGt, opGe, opIsNot, opIs, eqD, ltD, leD, truth, at_nat, at_0, at_1, at_2, at_3, at_4, opIx, fLen, coreE, coreL, opIsi, isTy, opAbs, opMax, opMin, opInt, opMul, is_nn, is_nt, is_nr, is_nb, is_ni, is_ntm, is_nst, onI, hq], by simp -implicitDefEqProofs [initE, List.replicate, retS, retN, seqS, asgS, exprS, ifS, parS, skipS, setAll, varE, cstE, nilL, consL, tupE, mkL, un1, bin2, andE, orE, ifE, chainE, boolT, truthT, notT, andT, orT, yesT, callE, nameG, tupG, consG, nilG, itemsD, opNot, opAdd, opSub, opDiv, opMod, opNeg, opLt, opLe, opGt, opGe, opIsNot, opIs, eqD, ltD, leD, truth, at_nat, at_0, at_1, at_2, at_3, at_4, opIx, fLen, coreE, coreL, opIsi, isTy, opAbs, opMax, opMin, opInt, opMul, is_nn, is_nt, is_nr, is_nb, is_ni, is_ntm, is_nst, wipeE, h3, stO], by simp -implicitDefEqProofs [initE, List.replicate, retS, retN, seqS, asgS, exprS, ifS, parS, skipS, setAll, varE, cstE, nilL, consL, tupE, mkL, un1, bin2, andE, orE, ifE, chainE, boolT, truthT, notT, andT, orT, yesT, callE, nameG, tupG, consG, nilG, itemsD, opNot, opAdd, opSub, opDiv, opMod, opNeg, opLt, opLe, opGt, opGe, opIsNot, opIs, eqD, ltD, leD, truth, at_nat, at_0, at_1, at_2, at_3, at_4, opIx, fLen, coreE, coreL, opIsi, isTy, opAbs, opMax, opMin, opInt, opMul, is_nn, is_nt, is_nr, is_nb, is_ni, is_ntm, is_nst, wipeE, nt]⟩
  have h4 : fTup (((List.range m.es.length).filter fun e => (edgeTo m p ts e).isSome).map nt) = some (nts ((List.range m.es.length).filter fun e => (edgeTo m p ts e).isSome)) := fTup_le (by
    rw [List.length_map]
    have := List.length_filter_le (fun e => (edgeTo m p ts e).isSome) (List.range m.es.length)
    have := hm.el
    rw [List.length_range] at *
    omega)
  simp -implicitDefEqProofs [initE, List.replicate, retS, retN, seqS, asgS, exprS, ifS, parS, skipS, setAll, varE, cstE, nilL, consL, tupE, mkL, un1, bin2, andE, orE, ifE, chainE, boolT, truthT, notT, andT, orT, yesT, callE, nameG, tupG, consG, nilG, itemsD, opNot, opAdd, opSub, opDiv, opMod, opNeg, opLt, opLe, opGt, opGe, opIsNot, opIs, eqD, ltD, leD, truth, at_nat, at_0, at_1, at_2, at_3, at_4, opIx, fLen, coreE, coreL, opIsi, isTy, opAbs, opMax, opMin, opInt, opMul, is_nn, is_nt, is_nr, is_nb, is_ni, is_ntm, is_nst, b_edges_open, h1, h2, h4]
theorem longest_wait_t (n : Nat) (m : Mc) (p : Nat) (ts : List Rat) (S : Store) (hm : McOk m) (hs : StS m p ts) (hl : letIn m p ts = true) : ∃ d, ev (n + 9) j_longest_wait [m.d, std p ts] S = .ok d S ∧ isC .non d = (m.stay p).isEmpty := by
  obtain ⟨d, h2, hf, h3⟩ := longest_t (n + 4) m p ts ⟨S.objs, []⟩ hm hs
  refine ⟨d, ?_, h3⟩
  rw [u_longest_wait]
  refine run_val rfl hf ?_
  have h1 := need_both_t n m p ts ⟨S.objs, []⟩ hm hs.ok
  have h4 := let_in_t (n + 5) m p ts ⟨S.objs, []⟩ hm hs.p hs.l
  rw [hl] at h4
  simp -implicitDefEqProofs [initE, List.replicate, retS, retN, seqS, asgS, exprS, ifS, parS, skipS, setAll, varE, cstE, nilL, consL, tupE, mkL, un1, bin2, andE, orE, ifE, chainE, boolT, truthT, notT, andT, orT, yesT, callE, nameG, tupG, consG, nilG, itemsD, opNot, opAdd, opSub, opDiv, opMod, opNeg, opLt, opLe, opGt, opGe, opIsNot, opIs, eqD, ltD, leD, truth, at_nat, at_0, at_1, at_2, at_3, at_4, opIx, fLen, coreE, coreL, opIsi, isTy, opAbs, opMax, opMin, opInt, opMul, is_nn, is_nt, is_nr, is_nb, is_ni, is_ntm, is_nst, b_longest_wait, h1, h4, h2]
end K81
set_option Elab.async false
set_option linter.all false
set_option maxRecDepth 100000
set_option maxHeartbeats 4000000
namespace K81
open PySem Ev
theorem ldiv_loop (n : Nat) (S : Store) (a b : Nat) (hb : b < 1000000) : wh__law_divisor_1 (ev n) [some (.int a), some (.int b)] S = .ok (.nx [some (.int (Nat.gcd a b)), some (.int 0)]) S := by
  have : Wp (wh__law_divisor_1 (ev n) [some (.int a), some (.int b)] S) fun f S'' => f = .nx [some (.int (Nat.gcd a b)), some (.int 0)] ∧ S'' = S := by
    unfold wh__law_divisor_1 whileS
    refine while_inv (P := fun k env S' => ∃ c : Nat, env = [some (.int c), some (.int k)] ∧ S' = S ∧ Nat.gcd c k = Nat.gcd a b) ?_ FU b _ S (by rw [FU_eq]; exact hb) ⟨a, rfl, rfl, rfl⟩
    rintro k env S' ⟨c, rfl, rfl, hg⟩
    by_cases h : k = 0
    · subst h
      have : Nat.gcd a b = c := by simpa using hg.symm
      subst this
      simp -implicitDefEqProofs [initE, List.replicate, retS, retN, seqS, asgS, exprS, ifS, parS, skipS, setAll, varE, cstE, nilL, consL, tupE, mkL, un1, bin2, andE, orE, ifE, chainE, boolT, truthT, notT, andT, orT, yesT, callE, nameG, tupG, consG, nilG, itemsD, opNot, opAdd, opSub, opDiv, opMod, opNeg, opLt, opLe, opGt, opGe, opIsNot, opIs, eqD, ltD, leD, truth, at_nat, at_0, at_1, at_2, at_3, at_4, opIx, fLen, coreE, coreL, opIsi, isTy, opAbs, opMax, opMin, opInt, opMul, is_nn, is_nt, is_nr, is_nb, is_ni, is_ntm, is_nst, opNe]
    · have h' : 0 < k := by omega
      simp -implicitDefEqProofs [initE, List.replicate, retS, retN, seqS, asgS, exprS, ifS, parS, skipS, setAll, varE, cstE, nilL, consL, tupE, mkL, un1, bin2, andE, orE, ifE, chainE, boolT, truthT, notT, andT, orT, yesT, callE, nameG, tupG, consG, nilG, itemsD, opNot, opAdd, opSub, opDiv, opMod, opNeg, opLt, opLe, opGt, opGe, opIsNot, opIs, eqD, ltD, leD, truth, at_nat, at_0, at_1, at_2, at_3, at_4, opIx, fLen, coreE, coreL, opIsi, isTy, opAbs, opMax, opMin, opInt, opMul, is_nn, is_nt, is_nr, is_nb, is_ni, is_ntm, is_nst, opNe, h, h', wb__law_divisor_1]
      refine ⟨c % k, Nat.mod_lt _ (by omega), k, ⟨rfl, by simp [initE, List.replicate, retS, retN, seqS, asgS, exprS, ifS, parS, skipS, setAll, varE, cstE, nilL, consL, tupE, mkL, un1, bin2, andE, orE, ifE, chainE, boolT, truthT, notT, andT, orT, yesT, callE, nameG, tupG, consG, nilG, itemsD, opNot, opAdd, opSub, opDiv, opMod, opNeg, opLt, opLe, opGt, opGe, opIsNot, opIs, eqD, ltD, leD, truth, at_nat, at_0, at_1, at_2, at_3, at_4, opIx, fLen, coreE, coreL, opIsi, isTy, opAbs, opMax, opMin, opInt, opMul, is_nn, is_nt, is_nr, is_nb, is_ni, is_ntm, is_nst]⟩, ?_⟩
      rw [← hg, Nat.gcd_comm c k, Nat.gcd_rec k c, Nat.gcd_comm]
  refine Wp.elim this ?_
  intro f S' e q
  rw [q.1, q.2] at e
  exact e
theorem ldivisor_t (n : Nat) (a b : Nat) (S : Store) (hb : b < 1000000) : ev (n + 1) j__law_divisor [.int a, .int b] S = .ok (.int (Nat.gcd a b)) S := by
  rw [u__law_divisor]
  refine run_val rfl (by simp [initE, List.replicate, retS, retN, seqS, asgS, exprS, ifS, parS, skipS, setAll, varE, cstE, nilL, consL, tupE, mkL, un1, bin2, andE, orE, ifE, chainE, boolT, truthT, notT, andT, orT, yesT, callE, nameG, tupG, consG, nilG, itemsD, opNot, opAdd, opSub, opDiv, opMod, opNeg, opLt, opLe, opGt, opGe, opIsNot, opIs, eqD, ltD, leD, truth, at_nat, at_0, at_1, at_2, at_3, at_4, opIx, fLen, coreE, coreL, opIsi, isTy, opAbs, opMax, opMin, opInt, opMul, is_nn, is_nt, is_nr, is_nb, is_ni, is_ntm, is_nst]) ?_
  simp -implicitDefEqProofs [initE, List.replicate, retS, retN, seqS, asgS, exprS, ifS, parS, skipS, setAll, varE, cstE, nilL, consL, tupE, mkL, un1, bin2, andE, orE, ifE, chainE, boolT, truthT, notT, andT, orT, yesT, callE, nameG, tupG, consG, nilG, itemsD, opNot, opAdd, opSub, opDiv, opMod, opNeg, opLt, opLe, opGt, opGe, opIsNot, opIs, eqD, ltD, leD, truth, at_nat, at_0, at_1, at_2, at_3, at_4, opIx, fLen, coreE, coreL, opIsi, isTy, opAbs, opMax, opMin, opInt, opMul, is_nn, is_nt, is_nr, is_nb, is_ni, is_ntm, is_nst, b__law_divisor, ldiv_loop n _ a b hb]
theorem ltime_t (n : Nat) (a d : Nat) (S : Store) (hd : 0 < d) (hb : d < 1000000) : ev (n + 2) j__law_time [.int a, .int d] S = .ok (tm (mkRat a d)) S := by
  rw [u__law_time]
  refine run_val rfl (flat_tm _) ?_
  have hg : 0 < Nat.gcd a d := Nat.gcd_pos_of_pos_right _ hd
  have hg' : divOk (Nat.gcd a d : Nat) = true := divOk_s (by omega) (by
    have h2 : Nat.gcd a d ≤ d := Nat.gcd_le_right _ hd
    rw [Int.natAbs_natCast]; omega)
  have hm : ∀ S, opMax (.int 1) (.int (Nat.gcd a d : Nat)) S = .ok (.int (Nat.gcd a d : Nat)) S := fun S => by
    unfold opMax
    simp only
    split
    · rfl
    · rw [show (1 : Int) = (Nat.gcd a d : Nat) by omega]
  rw [tm_mk a d (by omega)]
  simp -implicitDefEqProofs [initE, List.replicate, retS, retN, seqS, asgS, exprS, ifS, parS, skipS, setAll, varE, cstE, nilL, consL, tupE, mkL, un1, bin2, andE, orE, ifE, chainE, boolT, truthT, notT, andT, orT, yesT, callE, nameG, tupG, consG, nilG, itemsD, opNot, opAdd, opSub, opDiv, opMod, opNeg, opLt, opLe, opGt, opGe, opIsNot, opIs, eqD, ltD, leD, truth, at_nat, at_0, at_1, at_2, at_3, at_4, opIx, fLen, coreE, coreL, opIsi, isTy, opAbs, opMin, opInt, opMul, is_nn, is_nt, is_nr, is_nb, is_ni, is_ntm, is_nst, b__law_time, ldivisor_t n a d _ hb, hm, hg']
theorem num_nat {q : Rat} (h : 0 ≤ q) : q.num = (q.num.natAbs : Int) := by
  have := Rat.num_nonneg.mpr h
  omega
theorem lsum_t (n : Nat) (q r : Rat) (S : Store) (hq : ok64 q) (hr : ok64 r) (q0 : 0 ≤ q) (r0 : 0 ≤ r) : ev (n + 3) j__law_sum [tm q, tm r] S = .ok (tm (q + r)) S := by
  rw [u__law_sum]
  refine run_val rfl (flat_tm _) ?_
  have h1 := hq.m1 hr
  have h2 := hr.m1 hq
  have h3 := hq.m2 hr
  have h4 := ltime_t n (q.num.natAbs * r.den + r.num.natAbs * q.den) (q.den * r.den) ⟨S.objs, []⟩ (Nat.mul_pos q.den_pos r.den_pos) (hq.dd hr)
  rw [add_mk]
  rw [Int.natCast_mul, Int.natCast_add, Int.natCast_mul, Int.natCast_mul, ← num_nat q0, ← num_nat r0] at h4
  have e : initE 2 [tm q, tm r] = [some (.tup [.int q.num, .int q.den]), some (.tup [.int r.num, .int r.den])] := rfl
  rw [e]
  simp -implicitDefEqProofs [initE, List.replicate, retS, retN, seqS, asgS, exprS, ifS, parS, skipS, setAll, varE, cstE, nilL, consL, tupE, mkL, un1, bin2, andE, orE, ifE, chainE, boolT, truthT, notT, andT, orT, yesT, callE, nameG, tupG, consG, nilG, itemsD, opNot, opAdd, opSub, opDiv, opMod, opNeg, opLt, opLe, opGt, opGe, opIsNot, opIs, eqD, ltD, leD, truth, at_nat, at_0, at_1, at_2, at_3, at_4, opIx, fLen, coreE, coreL, opIsi, isTy, opAbs, opMax, opMin, opInt, opMul, is_nn, is_nt, is_nr, is_nb, is_ni, is_ntm, is_nst, b__law_sum, h1, h2, h3, h4]
theorem lhalf_t (n : Nat) (q r : Rat) (S : Store) (hq : Sm (2 ^ 40) 400 q) (hr : Sm (2 ^ 40) 400 r) (q0 : 0 ≤ q) (r0 : 0 ≤ r) : ev (n + 3) j__law_halfway [tm q, tm r] S = .ok (tm ((q + r) / 2)) S := by
  rw [u__law_halfway]
  refine run_val rfl (flat_tm _) ?_
  have hq' : ok64 q := hq.mono (Nat.le_refl _) (by decide)
  have hr' : ok64 r := hr.mono (Nat.le_refl _) (by decide)
  have h1 := hq'.m1 hr'
  have h2 := hr'.m1 hq'
  have h3 : mulOk (2 : Int) q.den = true := mulOk_l (by decide)
  have h3' : mulOk (2 * (q.den : Int)) r.den = true := mulOk_r (by
    rw [Int.natAbs_natCast]; exact Nat.lt_of_le_of_lt hr.2 (by decide))
  have h4 := ltime_t n (q.num.natAbs * r.den + r.num.natAbs * q.den) (2 * q.den * r.den) ⟨S.objs, []⟩ (Nat.mul_pos (Nat.mul_pos (by decide) q.den_pos) r.den_pos) (Nat.lt_of_le_of_lt (Nat.mul_le_mul (Nat.mul_le_mul_left 2 hq.2) hr.2) (by decide))
  rw [half_mk]
  rw [Int.natCast_mul, Int.natCast_add, Int.natCast_mul, Int.natCast_mul, Int.natCast_mul, ← num_nat q0, ← num_nat r0] at h4
  have e : initE 2 [tm q, tm r] = [some (.tup [.int q.num, .int q.den]), some (.tup [.int r.num, .int r.den])] := rfl
  rw [e]
  have h5 : ((2 : Nat) : Int) = 2 := rfl
  rw [h5] at h4
  simp -implicitDefEqProofs [initE, List.replicate, retS, retN, seqS, asgS, exprS, ifS, parS, skipS, setAll, varE, cstE, nilL, consL, tupE, mkL, un1, bin2, andE, orE, ifE, chainE, boolT, truthT, notT, andT, orT, yesT, callE, nameG, tupG, consG, nilG, itemsD, opNot, opAdd, opSub, opDiv, opMod, opNeg, opLt, opLe, opGt, opGe, opIsNot, opIs, eqD, ltD, leD, truth, at_nat, at_0, at_1, at_2, at_3, at_4, opIx, fLen, coreE, coreL, opIsi, isTy, opAbs, opMax, opMin, opInt, opMul, is_nn, is_nt, is_nr, is_nb, is_ni, is_ntm, is_nst, b__law_halfway, h1, h2, h3, h3', h4]
def mom (ts : List Rat) (y : Dm) : Rat := max 0 ((y.n : Rat) - ts.getD y.c 0)
theorem max_mk (v : Nat) (q : Rat) : max 0 ((v : Rat) - q) = mkRat (max 0 ((v : Int) * q.den - q.num)) q.den := by
  by_cases h : 0 ≤ (v : Int) * q.den - q.num
  · rw [Int.max_eq_right h, ← nat_sub_mk]
    have : ¬ (v : Rat) < q := fun z => by have := (gt_num q v).mp z; omega
    grind
  · rw [Int.max_eq_left (by omega), Rat.zero_mkRat]
    have : (v : Rat) < q := (gt_num q v).mpr (by omega)
    grind
theorem lmom_t (n : Nat) (v : Nat) (q : Rat) (S : Store) (hb : q.den < 1000000) : ev (n + 2) j__law_time [.int (max 0 ((v : Int) * q.den - q.num)), .int q.den] S = .ok (tm (max 0 ((v : Rat) - q))) S := by
  rw [max_mk]
  obtain ⟨a, ha⟩ := Int.eq_ofNat_of_zero_le (Int.le_max_left 0 ((v : Int) * q.den - q.num))
  rw [ha]
  exact ltime_t n a q.den S q.den_pos hb
theorem keepsL_of (o : Int) (r : Rl) : lookS r.s [s_less, s_most, s_same, s_least, s_more] [.tup [.int (-1)], .tup [.int (-1), .int 0], .tup [.int 0], .tup [.int 0, .int 1], .tup [.int 1]] = some (.tup (match r with
    | .less => [.int (-1)]
    | .most => [.int (-1), .int 0]
    | .same => [.int 0]
    | .least => [.int 0, .int 1]
    | .more => [.int 1])) := by cases r <;> rfl
def sgn (q : Rat) (v : Nat) : Int := b2i (decide ((v : Int) * q.den < q.num)) - b2i (decide (q.num < (v : Int) * q.den))
theorem sgn_mem (r : Rl) (q : Rat) (v : Nat) : memD (.int (sgn q v)) (match r with
    | .less => [.int (-1)]
    | .most => [.int (-1), .int 0]
    | .same => [.int 0]
    | .least => [.int 0, .int 1]
    | .more => [.int 1]) = some (r.holds q v) := by
  have h1 := lt_num q v
  have h2 := gt_num q v
  have h3 : q ≤ (v : Rat) ↔ ¬ (v : Rat) < q := by grind
  have h4 : (v : Rat) ≤ q ↔ ¬ q < (v : Rat) := by grind
  have h5 : q = (v : Rat) ↔ ¬ (v : Rat) < q ∧ ¬ q < (v : Rat) := by grind
  rw [h1] at h4 h5
  rw [h2] at h3 h5
  unfold sgn
  by_cases a : (v : Int) * q.den < q.num
  · have b : ¬ q.num < (v : Int) * q.den := by omega
    cases r <;> simp [initE, List.replicate, retS, retN, seqS, asgS, exprS, ifS, parS, skipS, setAll, varE, cstE, nilL, consL, tupE, mkL, un1, bin2, andE, orE, ifE, chainE, boolT, truthT, notT, andT, orT, yesT, callE, nameG, tupG, consG, nilG, itemsD, opNot, opAdd, opSub, opDiv, opMod, opNeg, opLt, opLe, opGt, opGe, opIsNot, opIs, eqD, ltD, leD, truth, at_nat, at_0, at_1, at_2, at_3, at_4, opIx, fLen, coreE, coreL, opIsi, isTy, opAbs, opMax, opMin, opInt, opMul, is_nn, is_nt, is_nr, is_nb, is_ni, is_ntm, is_nst, Rl.holds, h1, h2, h3, h4, h5, a, b, b2i, memD, memI]
  · by_cases b : q.num < (v : Int) * q.den
    · cases r <;> simp [initE, List.replicate, retS, retN, seqS, asgS, exprS, ifS, parS, skipS, setAll, varE, cstE, nilL, consL, tupE, mkL, un1, bin2, andE, orE, ifE, chainE, boolT, truthT, notT, andT, orT, yesT, callE, nameG, tupG, consG, nilG, itemsD, opNot, opAdd, opSub, opDiv, opMod, opNeg, opLt, opLe, opGt, opGe, opIsNot, opIs, eqD, ltD, leD, truth, at_nat, at_0, at_1, at_2, at_3, at_4, opIx, fLen, coreE, coreL, opIsi, isTy, opAbs, opMax, opMin, opInt, opMul, is_nn, is_nt, is_nr, is_nb, is_ni, is_ntm, is_nst, Rl.holds, h1, h2, h3, h4, h5, a, b, b2i, memD, memI]
    · cases r <;> simp [initE, List.replicate, retS, retN, seqS, asgS, exprS, ifS, parS, skipS, setAll, varE, cstE, nilL, consL, tupE, mkL, un1, bin2, andE, orE, ifE, chainE, boolT, truthT, notT, andT, orT, yesT, callE, nameG, tupG, consG, nilG, itemsD, opNot, opAdd, opSub, opDiv, opMod, opNeg, opLt, opLe, opGt, opGe, opIsNot, opIs, eqD, ltD, leD, truth, at_nat, at_0, at_1, at_2, at_3, at_4, opIx, fLen, coreE, coreL, opIsi, isTy, opAbs, opMax, opMin, opInt, opMul, is_nn, is_nt, is_nr, is_nb, is_ni, is_ntm, is_nst, Rl.holds, h1, h2, h3, h4, h5, a, b, b2i, memD, memI]
theorem lkeeps_t (n k : Nat) (ts : List Rat) (l : List Dm) (S : Store) (h : DmsOk k l) (hk : ts.length = k) (hl : l.length < 1000) (hs : ∀ q ∈ ts, ok64 q) : ev (n + 1) j__law_keeps [tms ts, dms l] S = .ok (.bl (allH ts l)) S := by
  rw [u__law_keeps]
  have h1 : Wp (fo__law_keeps_1 (ev n) [some (tms ts), some (dms l), none, none, none, none, none, none] ⟨S.objs, []⟩) fun f S' => S' = ⟨S.objs, []⟩ ∧ ((allH ts l = true ∧ ∃ env, f = .nx env) ∨ (allH ts l = false ∧ f = .rt (.bl false))) := by
    unfold fo__law_keeps_1
    rw [forS_val (ds := l.map Dm.d) rfl]
    refine for_inv (I := fun _ => True) (P := fun ds env S' => ∃ (r : List Dm) (a b c d e f : Option D), ds = r.map Dm.d ∧ (∀ x ∈ r, DmOk k x) ∧ env = [some (tms ts), some (dms l), a, b, c, d, e, f] ∧ S' = ⟨S.objs, []⟩ ∧ allH ts l = allH ts r) ?_ ?_ _ FU _ _ _ (PS.fix _ _) (by rw [FU_eq, List.length_map]; omega) ⟨l, none, none, none, none, none, none, rfl, h.each, rfl, rfl, rfl⟩
    · rintro d r env S' ⟨r', a, b, c, d', e, f, e1, e2, rfl, rfl, e5⟩
      cases r' with
      | nil => simp [initE, List.replicate, retS, retN, seqS, asgS, exprS, ifS, parS, skipS, setAll, varE, cstE, nilL, consL, tupE, mkL, un1, bin2, andE, orE, ifE, chainE, boolT, truthT, notT, andT, orT, yesT, callE, nameG, tupG, consG, nilG, itemsD, opNot, opAdd, opSub, opDiv, opMod, opNeg, opLt, opLe, opGt, opGe, opIsNot, opIs, eqD, ltD, leD, truth, at_nat, at_0, at_1, at_2, at_3, at_4, opIx, fLen, coreE, coreL, opIsi, isTy, opAbs, opMax, opMin, opInt, opMul, is_nn, is_nt, is_nr, is_nb, is_ni, is_ntm, is_nst] at e1
      | cons x r' =>
        simp only [List.map_cons, List.cons.injEq] at e1
        obtain ⟨rfl, rfl⟩ := e1
        have hx := e2 x List.mem_cons_self
        refine ⟨trivial, _, _, rfl, ?_⟩
        have h2 : atD (ts.map tm) (x.c : Int) = some (tm (ts.getD x.c 0)) := at_tms ts x.c (by rw [hk]; exact hx.c)
        have h3 : mulOk (x.n : Int) ((ts.getD x.c 0).den : Int) = true := mulOk_l (by have := hx.n; rw [Int.natAbs_natCast]; omega)
        have h4 := keepsL_of 0 x.r
        have h5 := sgn_mem x.r (ts.getD x.c 0) x.n
        have h6 : allH ts (x :: r') = (x.r.holds (ts.getD x.c 0) x.n && allH ts r') := rfl
        generalize (match x.r with
          | .less => [D.int (-1)]
          | .most => [.int (-1), .int 0]
          | .same => [.int 0]
          | .least => [.int 0, .int 1]
          | .more => [.int 1]) = L at h4 h5
        cases hh : x.r.holds (ts.getD x.c 0) x.n
        · rw [hh] at h5 h6
          refine Wp.of (a := .rt (.bl false)) (S := ⟨S.objs, []⟩) ?_ ⟨rfl, .inr ⟨by rw [e5, h6]; rfl, rfl⟩⟩
          generalize hq : ts.getD x.c 0 = q at *
          simp -implicitDefEqProofs [initE, List.replicate, retS, retN, seqS, asgS, exprS, ifS, parS, skipS, setAll, varE, cstE, nilL, consL, tupE, mkL, un1, bin2, andE, orE, ifE, chainE, boolT, truthT, notT, andT, orT, yesT, callE, nameG, tupG, consG, nilG, itemsD, opNot, opAdd, opSub, opDiv, opMod, opNeg, opLt, opLe, opGt, opGe, opIsNot, opIs, eqD, ltD, leD, truth, at_nat, at_0, at_1, at_2, at_3, at_4, opIx, fLen, coreE, coreL, opIsi, isTy, opAbs, opMax, opMin, opInt, opMul, is_nn, is_nt, is_nr, is_nb, is_ni, is_ntm, is_nst, fb__law_keeps_1, tms, dms, h2, tm, h3, opNotIn, dispIxE, h4, inD]
          unfold sgn at h5
          simp -implicitDefEqProofs [initE, List.replicate, retS, retN, seqS, asgS, exprS, ifS, parS, skipS, setAll, varE, cstE, nilL, consL, tupE, mkL, un1, bin2, andE, orE, ifE, chainE, boolT, truthT, notT, andT, orT, yesT, callE, nameG, tupG, consG, nilG, itemsD, opNot, opAdd, opSub, opDiv, opMod, opNeg, opLt, opLe, opGt, opGe, opIsNot, opIs, eqD, ltD, leD, truth, at_nat, at_0, at_1, at_2, at_3, at_4, opIx, fLen, coreE, coreL, opIsi, isTy, opAbs, opMax, opMin, opInt, opMul, is_nn, is_nt, is_nr, is_nb, is_ni, is_ntm, is_nst, h5]
        · rw [hh] at h5 h6
          generalize hq : ts.getD x.c 0 = q at *
          refine Wp.of (a := .nx [some (tms ts), some (dms l), some (.int x.c), some (.str x.r.s), some (.int x.n), some (.int (sgn q x.n)), some (.int q.num), some (.int q.den)]) (S := ⟨S.objs, []⟩) ?_ ⟨r', _, _, _, _, _, _, rfl, fun y hy => e2 y (List.mem_cons_of_mem _ hy), rfl, rfl, by rw [e5, h6]; rfl⟩
          simp -implicitDefEqProofs [initE, List.replicate, retS, retN, seqS, asgS, exprS, ifS, parS, skipS, setAll, varE, cstE, nilL, consL, tupE, mkL, un1, bin2, andE, orE, ifE, chainE, boolT, truthT, notT, andT, orT, yesT, callE, nameG, tupG, consG, nilG, itemsD, opNot, opAdd, opSub, opDiv, opMod, opNeg, opLt, opLe, opGt, opGe, opIsNot, opIs, eqD, ltD, leD, truth, at_nat, at_0, at_1, at_2, at_3, at_4, opIx, fLen, coreE, coreL, opIsi, isTy, opAbs, opMax, opMin, opInt, opMul, is_nn, is_nt, is_nr, is_nb, is_ni, is_ntm, is_nst, fb__law_keeps_1, tms, dms, h2, tm, h3, opNotIn, dispIxE, h4, inD]
          unfold sgn at h5
          simp -implicitDefEqProofs [initE, List.replicate, retS, retN, seqS, asgS, exprS, ifS, parS, skipS, setAll, varE, cstE, nilL, consL, tupE, mkL, un1, bin2, andE, orE, ifE, chainE, boolT, truthT, notT, andT, orT, yesT, callE, nameG, tupG, consG, nilG, itemsD, opNot, opAdd, opSub, opDiv, opMod, opNeg, opLt, opLe, opGt, opGe, opIsNot, opIs, eqD, ltD, leD, truth, at_nat, at_0, at_1, at_2, at_3, at_4, opIx, fLen, coreE, coreL, opIsi, isTy, opAbs, opMax, opMin, opInt, opMul, is_nn, is_nt, is_nr, is_nb, is_ni, is_ntm, is_nst, h5, sgn]
    · rintro env S' ⟨r', a, b, c, d', e, f, e1, e2, rfl, rfl, e5⟩
      have : r' = [] := by cases r' with
        | nil => rfl
        | cons x r' => simp [initE, List.replicate, retS, retN, seqS, asgS, exprS, ifS, parS, skipS, setAll, varE, cstE, nilL, consL, tupE, mkL, un1, bin2, andE, orE, ifE, chainE, boolT, truthT, notT, andT, orT, yesT, callE, nameG, tupG, consG, nilG, itemsD, opNot, opAdd, opSub, opDiv, opMod, opNeg, opLt, opLe, opGt, opGe, opIsNot, opIs, eqD, ltD, leD, truth, at_nat, at_0, at_1, at_2, at_3, at_4, opIx, fLen, coreE, coreL, opIsi, isTy, opAbs, opMax, opMin, opInt, opMul, is_nn, is_nt, is_nr, is_nb, is_ni, is_ntm, is_nst] at e1
      subst this
      exact ⟨trivial, rfl, .inl ⟨by rw [e5]; rfl, _, rfl⟩⟩
  refine Wp.elim h1 ?_
  intro f S' e1 ⟨q1, q2⟩
  subst q1
  rcases q2 with ⟨q2, env, rfl⟩ | ⟨q2, rfl⟩
  · rw [q2]
    refine run_val rfl (by simp [initE, List.replicate, retS, retN, seqS, asgS, exprS, ifS, parS, skipS, setAll, varE, cstE, nilL, consL, tupE, mkL, un1, bin2, andE, orE, ifE, chainE, boolT, truthT, notT, andT, orT, yesT, callE, nameG, tupG, consG, nilG, itemsD, opNot, opAdd, opSub, opDiv, opMod, opNeg, opLt, opLe, opGt, opGe, opIsNot, opIs, eqD, ltD, leD, truth, at_nat, at_0, at_1, at_2, at_3, at_4, opIx, fLen, coreE, coreL, opIsi, isTy, opAbs, opMax, opMin, opInt, opMul, is_nn, is_nt, is_nr, is_nb, is_ni, is_ntm, is_nst]) ?_
    simp -implicitDefEqProofs [initE, List.replicate, retS, retN, seqS, asgS, exprS, ifS, parS, skipS, setAll, varE, cstE, nilL, consL, tupE, mkL, un1, bin2, andE, orE, ifE, chainE, boolT, truthT, notT, andT, orT, yesT, callE, nameG, tupG, consG, nilG, itemsD, opNot, opAdd, opSub, opDiv, opMod, opNeg, opLt, opLe, opGt, opGe, opIsNot, opIs, eqD, ltD, leD, truth, at_nat, at_0, at_1, at_2, at_3, at_4, opIx, fLen, coreE, coreL, opIsi, isTy, opAbs, opMax, opMin, opInt, opMul, is_nn, is_nt, is_nr, is_nb, is_ni, is_ntm, is_nst, b__law_keeps, e1]
  · rw [q2]
    refine run_val rfl (by simp [initE, List.replicate, retS, retN, seqS, asgS, exprS, ifS, parS, skipS, setAll, varE, cstE, nilL, consL, tupE, mkL, un1, bin2, andE, orE, ifE, chainE, boolT, truthT, notT, andT, orT, yesT, callE, nameG, tupG, consG, nilG, itemsD, opNot, opAdd, opSub, opDiv, opMod, opNeg, opLt, opLe, opGt, opGe, opIsNot, opIs, eqD, ltD, leD, truth, at_nat, at_0, at_1, at_2, at_3, at_4, opIx, fLen, coreE, coreL, opIsi, isTy, opAbs, opMax, opMin, opInt, opMul, is_nn, is_nt, is_nr, is_nb, is_ni, is_ntm, is_nst]) ?_
    simp -implicitDefEqProofs [initE, List.replicate, retS, retN, seqS, asgS, exprS, ifS, parS, skipS, setAll, varE, cstE, nilL, consL, tupE, mkL, un1, bin2, andE, orE, ifE, chainE, boolT, truthT, notT, andT, orT, yesT, callE, nameG, tupG, consG, nilG, itemsD, opNot, opAdd, opSub, opDiv, opMod, opNeg, opLt, opLe, opGt, opGe, opIsNot, opIs, eqD, ltD, leD, truth, at_nat, at_0, at_1, at_2, at_3, at_4, opIx, fLen, coreE, coreL, opIsi, isTy, opAbs, opMax, opMin, opInt, opMul, is_nn, is_nt, is_nr, is_nb, is_ni, is_ntm, is_nst, b__law_keeps, e1]
def afterL (m : Mc) (p : Nat) (ts : List Rat) (w : Rat) : D := if letIn m p (ts.map (· + w)) then std p (ts.map (· + w)) else .non
def edgedL (m : Mc) (p : Nat) (ts : List Rat) (e : Nat) : Bool := decide ((m.edge e).s = p) && (allH ts (m.edge e).g && letIn m (m.edge e).t (rst (m.edge e).rs 0 ts))
theorem lafter_t (n : Nat) (m : Mc) (p : Nat) (ts : List Rat) (w : Rat) (S : Store) (hm : McOk m) (h : StOk m p ts) (hw : ok64 w) (w0 : 0 ≤ w) (hs : ∀ q ∈ ts, ok64 (q + w)) :
    ev (n + 4) j__law_after [m.d, std p ts, tm w] S = .ok (afterL m p ts w) S := by
  rw [u__law_after]
  refine run_val rfl (by unfold afterL; split <;> simp [initE, List.replicate, retS, retN, seqS, asgS, exprS, ifS, parS, skipS, setAll, varE, cstE, nilL, consL, tupE, mkL, un1, bin2, andE, orE, ifE, chainE, boolT, truthT, notT, andT, orT, yesT, callE, nameG, tupG, consG, nilG, itemsD, opNot, opAdd, opSub, opDiv, opMod, opNeg, opLt, opLe, opGt, opGe, opIsNot, opIs, eqD, ltD, leD, truth, at_nat, at_0, at_1, at_2, at_3, at_4, opIx, fLen, coreE, coreL, opIsi, isTy, opAbs, opMax, opMin, opInt, opMul, is_nn, is_nt, is_nr, is_nb, is_ni, is_ntm, is_nst, flat_std]) ?_
  have h1 : lc__law_after_1 (ev (n + 3)) [some m.d, some (.tup [.int p, .tup (ts.map tm)]), some (tm w), none, none] ⟨S.objs, []⟩ = .ok (ts.map fun x => tm (x + w)) ⟨S.objs, []⟩ := by
    unfold lc__law_after_1
    rw [lcL_val rfl]
    exact lc_mapM tm _ ts (by rw [FU_eq, h.l]; have := hm.k; omega) fun x hx => ⟨_, rfl, rfl, by
      simp -implicitDefEqProofs [initE, List.replicate, retS, retN, seqS, asgS, exprS, ifS, parS, skipS, setAll, varE, cstE, nilL, consL, tupE, mkL, un1, bin2, andE, orE, ifE, chainE, boolT, truthT, notT, andT, orT, yesT, callE, nameG, tupG, consG, nilG, itemsD, opNot, opAdd, opSub, opDiv, opMod, opNeg, opLt, opLe, opGt, opGe, opIsNot, opIs, eqD, ltD, leD, truth, at_nat, at_0, at_1, at_2, at_3, at_4, opIx, fLen, coreE, coreL, opIsi, isTy, opAbs, opMax, opMin, opInt, opMul, is_nn, is_nt, is_nr, is_nb, is_ni, is_ntm, is_nst, wipeE, lsum_t n x w _ (h.t x hx).2 hw (h.t x hx).1 w0]⟩
  obtain ⟨a, b, _⟩ := stay_ok m p hm h.p
  have h3 := lkeeps_t (n + 2) m.k (ts.map (· + w)) (m.stay p) ⟨S.objs, []⟩ a (by rw [List.length_map]; exact h.l) (by omega) (fun q hq => by
    obtain ⟨x, hx, rfl⟩ := List.mem_map.mp hq
    exact hs x hx)
  have h4 : fTup (ts.map fun x => tm (x + w)) = some (tms (ts.map (· + w))) := by
    rw [fTup_le (by rw [List.length_map, h.l]; have := hm.k; omega), tms, List.map_map]; rfl
  have h5 := stay_get m p hm h.p
  unfold afterL letIn
  cases hh : allH (ts.map (· + w)) (m.stay p) <;> rw [hh] at h3
  · simp only [std, tms, List.map_map, Mc.d] at h1 h3 h4 ⊢
    simp -implicitDefEqProofs [initE, List.replicate, retS, retN, seqS, asgS, exprS, ifS, parS, skipS, setAll, varE, cstE, nilL, consL, tupE, mkL, un1, bin2, andE, orE, ifE, chainE, boolT, truthT, notT, andT, orT, yesT, callE, nameG, tupG, consG, nilG, itemsD, opNot, opAdd, opSub, opDiv, opMod, opNeg, opLt, opLe, opGt, opGe, opIsNot, opIs, eqD, ltD, leD, truth, at_nat, at_0, at_1, at_2, at_3, at_4, opIx, fLen, coreE, coreL, opIsi, isTy, opAbs, opMax, opMin, opInt, opMul, is_nn, is_nt, is_nr, is_nb, is_ni, is_ntm, is_nst, b__law_after, h1, h4, h3, h5]
  · simp only [std, tms, List.map_map, Mc.d] at h1 h3 h4 ⊢
    simp -implicitDefEqProofs [initE, List.replicate, retS, retN, seqS, asgS, exprS, ifS, parS, skipS, setAll, varE, cstE, nilL, consL, tupE, mkL, un1, bin2, andE, orE, ifE, chainE, boolT, truthT, notT, andT, orT, yesT, callE, nameG, tupG, consG, nilG, itemsD, opNot, opAdd, opSub, opDiv, opMod, opNeg, opLt, opLe, opGt, opGe, opIsNot, opIs, eqD, ltD, leD, truth, at_nat, at_0, at_1, at_2, at_3, at_4, opIx, fLen, coreE, coreL, opIsi, isTy, opAbs, opMax, opMin, opInt, opMul, is_nn, is_nt, is_nr, is_nb, is_ni, is_ntm, is_nst, b__law_after, h1, h4, h3, h5]
theorem ledged_t (n : Nat) (m : Mc) (p : Nat) (ts : List Rat) (e : Nat) (S : Store) (hm : McOk m) (hl : ts.length = m.k) (he : e < m.es.length) (hs : ∀ q ∈ ts, ok64 q) :
    ∃ d, ev (n + 2) j__law_edged [m.d, std p ts, .int e] S = .ok d S ∧ isC .non d = !edgedL m p ts e := by
  have hx := edge_ok m e hm he
  have h1 := edge_get m e he
  unfold edgedL
  generalize hE : m.edge e = x at *
  have hd : x.d = .tup [.int x.s, .int x.t, .int x.l, dms x.g, nts x.rs] := rfl
  have h3 := lkeeps_t n m.k ts x.g ⟨S.objs, []⟩ hx.g hl (by have := hx.gl; omega) hs
  obtain ⟨a, b, _⟩ := stay_ok m x.t hm hx.t
  have h4 := lkeeps_t n m.k (rst x.rs 0 ts) (m.stay x.t) ⟨S.objs, []⟩ a (by rw [rst_len]; exact hl) (by omega) (fun q hq => by
    have : ∀ (ts : List Rat) (i : Nat), (∀ q ∈ ts, ok64 q) → ∀ q ∈ rst x.rs i ts, ok64 q := by
      intro ts
      induction ts with
      | nil => intro i _ q hq; cases hq
      | cons t ts ih =>
        intro i h q hq
        rw [rst] at hq
        rcases List.mem_cons.mp hq with rfl | hq
        · split
          · exact ⟨by decide, by decide⟩
          · exact h t List.mem_cons_self
        · exact ih _ (fun q hq => h q (List.mem_cons_of_mem _ hq)) q hq
    exact this ts 0 hs q hq)
  have h6 : fTup ((rst x.rs 0 ts).map tm) = some (tms (rst x.rs 0 ts)) := fTup_le (by rw [List.length_map, rst_len, hl]; have := hm.k; omega)
  have h7 := stay_get m x.t hm hx.t
  have h5 : ∀ a b c d, lc__law_edged_1 (ev (n + 1)) [some (.tup [.int m.p, .int m.k, .tup (m.st.map dms), .tup (m.es.map Ed.d)]), some (.tup [.int p, .tup (ts.map tm)]), some (.int e), a, some b, some c, some d, some (dms x.g), some (nts x.rs), none, none] ⟨S.objs, []⟩ = .ok ((rst x.rs 0 ts).map tm) ⟨S.objs, []⟩ := fun a b c d => by
    unfold lc__law_edged_1
    rw [lcL_src (src := .enum 0 (.fix (ts.map tm))) (S1 := ⟨S.objs, []⟩) (by simp -implicitDefEqProofs [initE, List.replicate, retS, retN, seqS, asgS, exprS, ifS, parS, skipS, setAll, varE, cstE, nilL, consL, tupE, mkL, un1, bin2, andE, orE, ifE, chainE, boolT, truthT, notT, andT, orT, yesT, callE, nameG, tupG, consG, nilG, itemsD, opNot, opAdd, opSub, opDiv, opMod, opNeg, opLt, opLe, opGt, opGe, opIsNot, opIs, eqD, ltD, leD, truth, at_nat, at_0, at_1, at_2, at_3, at_4, opIx, fLen, coreE, coreL, opIsi, isTy, opAbs, opMax, opMin, opInt, opMul, is_nn, is_nt, is_nr, is_nb, is_ni, is_ntm, is_nst, enumI, srcOf])]
    rw [lc_enum tm (fun i t => if x.rs.contains i then tm 0 else tm t) ts 0 FU [] (by rw [FU_eq, hl]; have := hm.k; omega) fun i t ht => ⟨_, rfl, rfl, ?_⟩]
    · rw [rst_enum]; rfl
    · have h6 := memD_nat i x.rs
      simp only [ifE, boolT, bin2, opIn, varE, cstE, tupE, consL, nilL, wipeE, List.set_cons_succ, List.set_cons_zero, List.getElem?_cons_succ, List.getElem?_cons_zero, bind_ok, inD, nts]
      rw [show memD (.int i) (x.rs.map nt) = some (x.rs.contains i) from h6]
      simp only [bind_ok]
      cases x.rs.contains i <;> rfl
  have e0 : initE 11 [m.d, std p ts, .int e] = [some (.tup [.int m.p, .int m.k, .tup (m.st.map dms), .tup (m.es.map Ed.d)]), some (.tup [.int p, .tup (ts.map tm)]), some (.int e), none, none, none, none, none, none, none, none] := rfl
  rw [u__law_edged]
  simp only [Mc.d, std, tms] at h3 h4 h6
  by_cases a1 : x.s = p
  · subst a1
    cases a3 : allH ts x.g <;> rw [a3] at h3
    · refine ⟨.non, run_val rfl flat_non ?_, by simp [initE, List.replicate, retS, retN, seqS, asgS, exprS, ifS, parS, skipS, setAll, varE, cstE, nilL, consL, tupE, mkL, un1, bin2, andE, orE, ifE, chainE, boolT, truthT, notT, andT, orT, yesT, callE, nameG, tupG, consG, nilG, itemsD, opNot, opAdd, opSub, opDiv, opMod, opNeg, opLt, opLe, opGt, opGe, opIsNot, opIs, eqD, ltD, leD, truth, at_nat, at_0, at_1, at_2, at_3, at_4, opIx, fLen, coreE, coreL, opIsi, isTy, opAbs, opMax, opMin, opInt, opMul, is_nn, is_nt, is_nr, is_nb, is_ni, is_ntm, is_nst, isC]⟩
      rw [e0]
      simp -implicitDefEqProofs [initE, List.replicate, retS, retN, seqS, asgS, exprS, ifS, parS, skipS, setAll, varE, cstE, nilL, consL, tupE, mkL, un1, bin2, andE, orE, ifE, chainE, boolT, truthT, notT, andT, orT, yesT, callE, nameG, tupG, consG, nilG, itemsD, opNot, opAdd, opSub, opDiv, opMod, opNeg, opLt, opLe, opGt, opGe, opIsNot, opIs, eqD, ltD, leD, truth, at_nat, at_0, at_1, at_2, at_3, at_4, opIx, fLen, coreE, coreL, opIsi, isTy, opAbs, opMax, opMin, opInt, opMul, is_nn, is_nt, is_nr, is_nb, is_ni, is_ntm, is_nst, b__law_edged, opNe, h1, hd, h3]
    · unfold letIn
      cases a4 : allH (rst x.rs 0 ts) (m.stay x.t) <;> rw [a4] at h4
      · refine ⟨.non, run_val rfl flat_non ?_, by simp [initE, List.replicate, retS, retN, seqS, asgS, exprS, ifS, parS, skipS, setAll, varE, cstE, nilL, consL, tupE, mkL, un1, bin2, andE, orE, ifE, chainE, boolT, truthT, notT, andT, orT, yesT, callE, nameG, tupG, consG, nilG, itemsD, opNot, opAdd, opSub, opDiv, opMod, opNeg, opLt, opLe, opGt, opGe, opIsNot, opIs, eqD, ltD, leD, truth, at_nat, at_0, at_1, at_2, at_3, at_4, opIx, fLen, coreE, coreL, opIsi, isTy, opAbs, opMax, opMin, opInt, opMul, is_nn, is_nt, is_nr, is_nb, is_ni, is_ntm, is_nst, isC]⟩
        rw [e0]
        simp -implicitDefEqProofs [initE, List.replicate, retS, retN, seqS, asgS, exprS, ifS, parS, skipS, setAll, varE, cstE, nilL, consL, tupE, mkL, un1, bin2, andE, orE, ifE, chainE, boolT, truthT, notT, andT, orT, yesT, callE, nameG, tupG, consG, nilG, itemsD, opNot, opAdd, opSub, opDiv, opMod, opNeg, opLt, opLe, opGt, opGe, opIsNot, opIs, eqD, ltD, leD, truth, at_nat, at_0, at_1, at_2, at_3, at_4, opIx, fLen, coreE, coreL, opIsi, isTy, opAbs, opMax, opMin, opInt, opMul, is_nn, is_nt, is_nr, is_nb, is_ni, is_ntm, is_nst, b__law_edged, opNe, h1, hd, h3, h5, h6, h4, h7]
      · refine ⟨std x.t (rst x.rs 0 ts), run_val rfl (flat_std _ _) ?_, by simp [initE, List.replicate, retS, retN, seqS, asgS, exprS, ifS, parS, skipS, setAll, varE, cstE, nilL, consL, tupE, mkL, un1, bin2, andE, orE, ifE, chainE, boolT, truthT, notT, andT, orT, yesT, callE, nameG, tupG, consG, nilG, itemsD, opNot, opAdd, opSub, opDiv, opMod, opNeg, opLt, opLe, opGt, opGe, opIsNot, opIs, eqD, ltD, leD, truth, at_nat, at_0, at_1, at_2, at_3, at_4, opIx, fLen, coreE, coreL, opIsi, isTy, opAbs, opMax, opMin, opInt, opMul, is_nn, is_nt, is_nr, is_nb, is_ni, is_ntm, is_nst, isC, std]⟩
        rw [e0]
        simp -implicitDefEqProofs [initE, List.replicate, retS, retN, seqS, asgS, exprS, ifS, parS, skipS, setAll, varE, cstE, nilL, consL, tupE, mkL, un1, bin2, andE, orE, ifE, chainE, boolT, truthT, notT, andT, orT, yesT, callE, nameG, tupG, consG, nilG, itemsD, opNot, opAdd, opSub, opDiv, opMod, opNeg, opLt, opLe, opGt, opGe, opIsNot, opIs, eqD, ltD, leD, truth, at_nat, at_0, at_1, at_2, at_3, at_4, opIx, fLen, coreE, coreL, opIsi, isTy, opAbs, opMax, opMin, opInt, opMul, is_nn, is_nt, is_nr, is_nb, is_ni, is_ntm, is_nst, b__law_edged, opNe, h1, hd, h3, h5, h6, h4, h7, std, tms]
  · have a1' : ¬ (p : Int) = (x.s : Int) := by omega
    have a1'' : ¬ p = x.s := fun z => a1 z.symm
    refine ⟨.non, run_val rfl flat_non ?_, by simp [initE, List.replicate, retS, retN, seqS, asgS, exprS, ifS, parS, skipS, setAll, varE, cstE, nilL, consL, tupE, mkL, un1, bin2, andE, orE, ifE, chainE, boolT, truthT, notT, andT, orT, yesT, callE, nameG, tupG, consG, nilG, itemsD, opNot, opAdd, opSub, opDiv, opMod, opNeg, opLt, opLe, opGt, opGe, opIsNot, opIs, eqD, ltD, leD, truth, at_nat, at_0, at_1, at_2, at_3, at_4, opIx, fLen, coreE, coreL, opIsi, isTy, opAbs, opMax, opMin, opInt, opMul, is_nn, is_nt, is_nr, is_nb, is_ni, is_ntm, is_nst, isC, a1]⟩
    rw [e0]
    simp -implicitDefEqProofs [initE, List.replicate, retS, retN, seqS, asgS, exprS, ifS, parS, skipS, setAll, varE, cstE, nilL, consL, tupE, mkL, un1, bin2, andE, orE, ifE, chainE, boolT, truthT, notT, andT, orT, yesT, callE, nameG, tupG, consG, nilG, itemsD, opNot, opAdd, opSub, opDiv, opMod, opNeg, opLt, opLe, opGt, opGe, opIsNot, opIs, eqD, ltD, leD, truth, at_nat, at_0, at_1, at_2, at_3, at_4, opIx, fLen, coreE, coreL, opIsi, isTy, opAbs, opMax, opMin, opInt, opMul, is_nn, is_nt, is_nr, is_nb, is_ni, is_ntm, is_nst, b__law_edged, opNe, h1, hd, a1', a1'']
end K81
set_option Elab.async false
set_option linter.all false
set_option maxRecDepth 100000
set_option maxHeartbeats 4000000
namespace K81
open PySem Ev
def spotOk (m : Mc) (p : Nat) (ts : List Rat) (e : Nat) (w : Rat) : Bool := letIn m p (ts.map (· + w)) && edgedL m p (ts.map (· + w)) e
theorem holds_add (r : Rl) (t w : Rat) (n : Nat) : r.holds (t + w) n = r.holds w ((n : Rat) - t) := by
  cases r <;> simp only [Rl.holds, decide_eq_decide] <;> constructor <;> intro h <;> grind
theorem getD_map_add (ts : List Rat) (w : Rat) (c : Nat) (h : c < ts.length) : (ts.map (· + w)).getD c 0 = ts.getD c 0 + w := by
  rw [List.getD_eq_getElem?_getD, List.getD_eq_getElem?_getD, List.getElem?_map, List.getElem?_eq_getElem h]; rfl
theorem h_con (ts : List Rat) (w : Rat) (y : Dm) (h : y.c < ts.length) : y.h (ts.map (· + w)) = (con ts y).1.holds w (con ts y).2 := by
  unfold Dm.h con
  rw [getD_map_add ts w y.c h, holds_add]
theorem all_congr' {α : Type} {f g : α → Bool} : ∀ {l : List α}, (∀ x ∈ l, f x = g x) → l.all f = l.all g
  | [], _ => rfl
  | x :: l, h => by
    rw [List.all_cons, List.all_cons, h x List.mem_cons_self, all_congr' fun y hy => h y (List.mem_cons_of_mem _ hy)]
theorem rst_getD (rs : List Nat) : ∀ (ts : List Rat) (i c : Nat), c < ts.length → (rst rs i ts).getD c 0 = if rs.contains (i + c) then 0 else ts.getD c 0
  | t :: ts, i, 0, h => by simp [rst]
  | t :: ts, i, c + 1, h => by
    have := rst_getD rs ts (i + 1) c (by simpa using h)
    rw [rst, List.getD_cons_succ, this, List.getD_cons_succ, show i + 1 + c = i + (c + 1) by omega]
theorem allH_con (ts : List Rat) (w : Rat) (l : List Dm) (h : ∀ y ∈ l, y.c < ts.length) : allH (ts.map (· + w)) l = (l.map (con ts)).all fun c => c.1.holds w c.2 := by
  unfold allH
  rw [List.all_map]
  exact all_congr' fun y hy => h_con ts w y (h y hy)
theorem allH_rst (ts : List Rat) (w : Rat) (rs : List Nat) : ∀ (l : List Dm), (∀ y ∈ l, y.c < ts.length) → allH (rst rs 0 (ts.map (· + w))) l = (l.all (rok rs) && ((l.filter fun y => !rs.contains y.c).map (con ts)).all fun c => c.1.holds w c.2)
  | [], _ => rfl
  | y :: l, h => by
    have ih := allH_rst ts w rs l fun z hz => h z (List.mem_cons_of_mem _ hz)
    have hy := h y List.mem_cons_self
    have e1 : y.h (rst rs 0 (ts.map (· + w))) = if rs.contains y.c then y.r.holds 0 y.n else (con ts y).1.holds w (con ts y).2 := by
      rw [← h_con ts w y hy]
      unfold Dm.h
      rw [rst_getD rs (ts.map (· + w)) 0 y.c (by rw [List.length_map]; exact hy), Nat.zero_add]
      split <;> rfl
    have e2 : allH (rst rs 0 (ts.map (· + w))) (y :: l) = (y.h (rst rs 0 (ts.map (· + w))) && allH (rst rs 0 (ts.map (· + w))) l) := rfl
    rw [e2, ih, e1, List.all_cons, List.filter_cons]
    unfold rok
    cases hc : rs.contains y.c
    · simp only [Bool.not_false, if_true, List.map_cons, List.all_cons, Bool.false_eq_true, if_false, Bool.true_and]
      cases (con ts y).1.holds w (con ts y).2 <;> cases l.all (fun x => if rs.contains x.c = true then x.r.holds 0 x.n else true) <;> simp
    · simp only [Bool.not_true, Bool.false_eq_true, if_false, if_true]
      cases y.r.holds 0 y.n <;> simp
theorem spot_eq {m : Mc} {p : Nat} {ts : List Rat} {e : Nat} {w : Rat} (hm : McOk m) (hs : StS m p ts) (he : e < m.es.length) (h0 : 0 ≤ w) :
    spotOk m p ts e w = (decide ((m.edge e).s = p) && (m.stay (m.edge e).t).all (rok (m.edge e).rs) && (span m ts (m.edge e)).mem w) := by
  have hx := edge_ok m e hm he
  unfold spotOk edgedL letIn
  generalize m.edge e = x at *
  by_cases a : x.s = p
  · subst a
    have l1 : ∀ y ∈ m.stay x.s, y.c < ts.length := fun y hy => by rw [hs.l]; exact ((stay_ok m x.s hm hx.s).1.each y hy).c
    have l2 : ∀ y ∈ m.stay x.t, y.c < ts.length := fun y hy => by rw [hs.l]; exact ((stay_ok m x.t hm hx.t).1.each y hy).c
    have l3 : ∀ y ∈ x.g, y.c < ts.length := fun y hy => by rw [hs.l]; exact (hx.g.each y hy).c
    rw [allH_con ts w _ l1, allH_con ts w _ l3, allH_rst ts w x.rs _ l2]
    unfold span
    rw [all_mem, start_mem, decide_eq_true h0, decide_eq_true rfl]
    unfold conE
    rw [List.map_append, List.all_append, List.all_append]
    cases (m.stay x.t).all (rok x.rs) <;> simp [Bool.and_assoc]
  · rw [decide_eq_false a]; simp
def addM (M : List Rat) (q : Rat) : List Rat := if M.contains q then M else M ++ [q]
def moms (ts : List Rat) (l : List Dm) (M : List Rat) : List Rat := l.foldl (fun M y => addM M (mom ts y)) M
def allMoms (m : Mc) (p : Nat) (ts : List Rat) (e : Nat) : List Rat := moms ts (m.stay (m.edge e).t) (moms ts (m.edge e).g (moms ts (m.stay p) [0]))
structure MOk (M : List Rat) : Prop where
  nd : M.Nodup
  z : (0 : Rat) ∈ M
  pos : ∀ q ∈ M, 0 ≤ q
  sm : ∀ q ∈ M, Sm 91 4 q
theorem mom_sm {m : Mc} {p : Nat} {ts : List Rat} (h : StS m p ts) {x : Dm} (hx : DmOk m.k x) : Sm 91 4 (mom ts x) := by
  have h1 := con_sm h hx
  unfold con at h1
  unfold mom
  by_cases c : 0 ≤ (x.n : Rat) - ts.getD x.c 0
  · rw [show max 0 ((x.n : Rat) - ts.getD x.c 0) = (x.n : Rat) - ts.getD x.c 0 by grind]; exact h1
  · rw [show max 0 ((x.n : Rat) - ts.getD x.c 0) = 0 by grind]; exact ⟨by decide, by decide⟩
theorem mem_addM {M : List Rat} {q r : Rat} : r ∈ addM M q ↔ r ∈ M ∨ r = q := by
  unfold addM
  split
  · rename_i h
    rw [List.contains_iff_mem] at h
    exact ⟨.inl, fun z => z.elim id fun z => z ▸ h⟩
  · simp
theorem MOk.add {M : List Rat} (h : MOk M) {q : Rat} (h0 : 0 ≤ q) (hs : Sm 91 4 q) : MOk (addM M q) := by
  refine ⟨?_, mem_addM.mpr (.inl h.z), fun r hr => ?_, fun r hr => ?_⟩
  · unfold addM
    split
    · exact h.nd
    · rename_i c
      rw [List.contains_iff_mem] at c
      rw [List.nodup_append]
      refine ⟨h.nd, by simp, fun a ha b hb => ?_⟩
      rw [List.mem_singleton.mp hb]
      exact fun z => c (z ▸ ha)
  · rcases mem_addM.mp hr with hr | rfl
    · exact h.pos r hr
    · exact h0
  · rcases mem_addM.mp hr with hr | rfl
    · exact h.sm r hr
    · exact hs
theorem mom_pos (ts : List Rat) (x : Dm) : 0 ≤ mom ts x := by unfold mom; grind
theorem MOk.moms {m : Mc} {p : Nat} {ts : List Rat} (hs : StS m p ts) : ∀ {l : List Dm} {M : List Rat}, MOk M → (∀ x ∈ l, DmOk m.k x) → MOk (moms ts l M)
  | [], _, h, _ => h
  | x :: l, M, h, hl => MOk.moms hs (l := l) (h.add (mom_pos ts x) (mom_sm hs (hl x List.mem_cons_self))) fun y hy => hl y (List.mem_cons_of_mem _ hy)
theorem moms_sub {ts : List Rat} : ∀ {l : List Dm} {M : List Rat} {q : Rat}, q ∈ M → q ∈ moms ts l M
  | [], _, _, h => h
  | x :: l, M, q, h => moms_sub (l := l) (mem_addM.mpr (.inl h))
theorem moms_in {ts : List Rat} : ∀ {l : List Dm} {M : List Rat} {x : Dm}, x ∈ l → mom ts x ∈ moms ts l M
  | y :: l, M, x, h => by
    rcases List.mem_cons.mp h with rfl | h
    · exact moms_sub (l := l) (mem_addM.mpr (.inr rfl))
    · exact moms_in (l := l) h
theorem addM_len (M : List Rat) (q : Rat) : (addM M q).length ≤ M.length + 1 := by
  unfold addM; split <;> simp
theorem moms_len (ts : List Rat) : ∀ (l : List Dm) (M : List Rat), (moms ts l M).length ≤ M.length + l.length
  | [], M => Nat.le_refl _
  | x :: l, M => by
    have h1 := moms_len ts l (addM M (mom ts x))
    have h2 := addM_len M (mom ts x)
    show (moms ts l (addM M (mom ts x))).length ≤ _
    simp only [List.length_cons]; omega
theorem MOk_one : MOk [0] := ⟨by simp, by simp, fun q h => by rw [List.mem_singleton.mp h]; decide, fun q h => by rw [List.mem_singleton.mp h]; exact ⟨by decide, by decide⟩⟩
theorem allMoms_ok {m : Mc} {p : Nat} {ts : List Rat} {e : Nat} (hm : McOk m) (hs : StS m p ts) (he : e < m.es.length) : MOk (allMoms m p ts e) ∧ (allMoms m p ts e).length ≤ 20 := by
  have hx := edge_ok m e hm he
  obtain ⟨a1, a2, _⟩ := stay_ok m p hm hs.p
  obtain ⟨b1, b2, _⟩ := stay_ok m (m.edge e).t hm hx.t
  unfold allMoms
  refine ⟨(((MOk_one.moms hs a1.each).moms hs hx.g.each).moms hs b1.each), ?_⟩
  have h1 := moms_len ts (m.stay (m.edge e).t) (moms ts (m.edge e).g (moms ts (m.stay p) [0]))
  have h2 := moms_len ts (m.edge e).g (moms ts (m.stay p) [0])
  have h3 := moms_len ts (m.stay p) [0]
  have h4 := hx.gl
  simp only [List.length_cons, List.length_nil] at h3
  omega
theorem con_mom {m : Mc} {p : Nat} {ts : List Rat} {e : Nat} (a : (m.edge e).s = p) {q : Rat} (hq : q ∈ (conE m ts (m.edge e)).map (·.2)) (h0 : 0 ≤ q) : q ∈ allMoms m p ts e := by
  subst a
  obtain ⟨c, hc, rfl⟩ := List.mem_map.mp hq
  have key : ∀ y : Dm, con ts y = c → mom ts y = c.2 := fun y hy => by
    subst hy
    have : (0 : Rat) ≤ (y.n : Rat) - ts.getD y.c 0 := h0
    show max 0 ((y.n : Rat) - ts.getD y.c 0) = (y.n : Rat) - ts.getD y.c 0
    grind
  unfold conE at hc
  unfold allMoms
  rcases List.mem_append.mp hc with hc | hc
  · obtain ⟨y, hy, e1⟩ := List.mem_map.mp hc
    rw [← key y e1]
    rcases List.mem_append.mp hy with hy | hy
    · exact moms_sub (moms_sub (moms_in hy))
    · exact moms_sub (moms_in hy)
  · obtain ⟨y, hy, e1⟩ := List.mem_map.mp hc
    rw [← key y e1]
    exact moms_in (List.mem_filter.mp hy).1
theorem opens_tell {m : Mc} {p : Nat} {ts : List Rat} {e : Nat} (hm : McOk m) (hs : StS m p ts) (he : e < m.es.length) {ms : List Rat} (hp : ∀ q, q ∈ ms ↔ q ∈ allMoms m p ts e) (hu : Up ms) :
    match waitsP m p ts e with
    | none => (sp ms).filter (fun s => spotOk m p ts e s.w) = []
    | some I => ∃ s r t, (sp ms).filter (fun s => spotOk m p ts e s.w) = s :: r ∧ s.st = I.b ∧ s.m = I.bc ∧ ((sp ms).filter (fun s => spotOk m p ts e s.w)).getLast? = some t ∧ fin t = (I.e, I.ec) := by
  have hpos : ∀ s ∈ sp ms, 0 ≤ s.w := sp_ge hu fun q hq => (allMoms_ok hm hs he).1.pos q ((hp q).mp hq)
  have hf : (sp ms).filter (fun s => spotOk m p ts e s.w) = (sp ms).filter (fun s => decide ((m.edge e).s = p) && (m.stay (m.edge e).t).all (rok (m.edge e).rs) && (span m ts (m.edge e)).mem s.w) :=
    List.filter_congr fun s hs' => spot_eq hm hs he (hpos s hs')
  rw [hf]
  unfold waitsP
  by_cases a : (m.edge e).s = p
  · cases b : (m.stay (m.edge e).t).all (rok (m.edge e).rs)
    · rw [if_neg (by rintro ⟨_, z, _⟩; cases z)]
      simp
    · have hg : (sp ms).filter (fun s => decide ((m.edge e).s = p) && true && (span m ts (m.edge e)).mem s.w) = good (span m ts (m.edge e)) ms := by
        unfold good
        simp [a]
      rw [hg]
      have ok := span_ok m ts (m.edge e)
      have ht := spots_tell (I := span m ts (m.edge e)) hu (by
        rcases ok.b with h | h
        · rw [h]; exact (hp 0).mpr (allMoms_ok hm hs he).1.z
        · exact (hp _).mpr (con_mom a h ok.b0)) (fun e' h h0 => (hp _).mpr (con_mom a (ok.e e' h) h0)) ok.b0 ok.ec
      cases hno : (span m ts (m.edge e)).no
      · rw [if_pos ⟨a, rfl, rfl⟩]
        exact ht.2 hno
      · rw [if_neg (by rintro ⟨_, _, z⟩; cases z)]
        exact ht.1 hno
  · rw [if_neg (by rintro ⟨z, _⟩; exact a z)]
    simp [a]
end K81
set_option Elab.async false
set_option linter.all false
set_option maxRecDepth 100000
set_option maxHeartbeats 4000000
namespace K81
open PySem Ev
def tp (q : Rat) : PyData := .tuple [.int q.num, .int q.den]
theorem py_tm (q : Rat) : pyOf (tm q) = some (tp q) := rfl
theorem pys_tm : ∀ M : List Rat, pyOfs (M.map tm) = some (M.map tp)
  | [] => rfl
  | q :: M => by
    show (match pyOf (tm q), pyOfs (M.map tm) with | some x, some xs => some (x :: xs) | _, _ => none) = _
    rw [py_tm, pys_tm M]; rfl
theorem eqv_tp (q r : Rat) : PyData.eqv (tp q) (tp r) = decide (q = r) := by
  have e : PyData.eqv (tp q) (tp r) = (decide (q.num = r.num) && (decide ((q.den : Int) = r.den) && true)) := rfl
  rw [e, Bool.and_true, ← Bool.decide_and, decide_eq_decide]
  constructor
  · rintro ⟨h1, h2⟩
    exact Rat.ext h1 (by omega)
  · rintro rfl
    exact ⟨rfl, rfl⟩
theorem memD_tm (q : Rat) (M : List Rat) : memD (tm q) (M.map tm) = some (M.contains q) := by
  show memPy (pyOf (tm q)) (pyOfs (M.map tm)) = _
  rw [py_tm, pys_tm]
  unfold memPy
  simp only
  have hd : (tp q).depth ≤ 64 := by show 1 ≤ 64; decide
  rw [if_pos (Nat.ble_eq.mpr (Nat.le_trans (Nat.min_le_right _ _) hd))]
  congr 1
  induction M with
  | nil => rfl
  | cons y M ih =>
    rw [List.map_cons, List.any_cons, ih, eqv_tp, List.contains_cons]
    congr 1
    by_cases h : y = q
    · subst h; simp [initE, List.replicate, retS, retN, seqS, asgS, exprS, ifS, parS, skipS, setAll, varE, cstE, nilL, consL, tupE, mkL, un1, bin2, andE, orE, ifE, chainE, boolT, truthT, notT, andT, orT, yesT, callE, nameG, tupG, consG, nilG, itemsD, opNot, opAdd, opSub, opDiv, opMod, opNeg, opLt, opLe, opGt, opGe, opIsNot, opIs, ltD, leD, truth, at_nat, at_0, at_1, at_2, at_3, at_4, opIx, fLen, coreE, coreL, opIsi, isTy, opAbs, opMin, opInt, opMul, is_nn, is_nt, is_nr, is_nb, is_ni, is_ntm, is_nst]
    · have h' : ¬ q = y := fun z => h z.symm
      simp [initE, List.replicate, retS, retN, seqS, asgS, exprS, ifS, parS, skipS, setAll, varE, cstE, nilL, consL, tupE, mkL, un1, bin2, andE, orE, ifE, chainE, boolT, truthT, notT, andT, orT, yesT, callE, nameG, tupG, consG, nilG, itemsD, opNot, opAdd, opSub, opDiv, opMod, opNeg, opLt, opLe, opGt, opGe, opIsNot, opIs, ltD, leD, truth, at_nat, at_0, at_1, at_2, at_3, at_4, opIx, fLen, coreE, coreL, opIsi, isTy, opAbs, opMin, opInt, opMul, is_nn, is_nt, is_nr, is_nb, is_ni, is_ntm, is_nst, h, h']
@[reducible] def oE (M St E : D) (x3 x4 x5 x6 x7 x8 x9 x10 x11 x12 x13 x14 x15 x16 x17 x18 x19 x20 x21 x22 x23 x24 : Option D) : Ev.Env :=
  [some M, some St, some E, x3, x4, x5, x6, x7, x8, x9, x10, x11, x12, x13, x14, x15, x16, x17, x18, x19, x20, x21, x22, x23, x24]
theorem max0 (x : Int) (S : Store) : opMax (.int 0) (.int x) S = .ok (.int (max 0 x)) S := by
  unfold opMax
  simp only
  split <;> congr 2 <;> omega
section
variable {m : Mc} {p : Nat} {ts : List Rat} {B : List O}
theorem olist (n : Nat) (hs : StS m p ts) (A E : D) (k : Nat) (l : List Dm) (x5 x6 x7 x8 x9 x10 x11 x12 x13 x14 x15 x16 x17 x18 x19 x20 x21 x22 x23 x24 : Option D) (M : List Rat) (S : Store) (hk : S.objs[k]? = some (.lst (M.map tm))) (hB : Nw B S) (hl : ∀ x ∈ l, DmOk m.k x) (hn : M.length + l.length ≤ 100) :
    Wp (fo__law_opens_1 (ev (n + 2)) (oE A (std p ts) E (some (.ref k)) (some (dms l)) x5 x6 x7 x8 x9 x10 x11 x12 x13 x14 x15 x16 x17 x18 x19 x20 x21 x22 x23 x24) S) fun f S' => ∃ k' x10 x14 x15 x16 x21 x22, f = .nx (oE A (std p ts) E (some (.ref k')) (some (dms l)) x5 x6 x7 x8 x9 x10 x11 x12 x13 x14 x15 x16 x17 x18 x19 x20 x21 x22 x23 x24) ∧ S'.objs[k']? = some (.lst ((moms ts l M).map tm)) ∧ Nw B S' := by
  unfold fo__law_opens_1
  rw [forS_val (ds := l.map Dm.d) rfl]
  refine for_inv (I := fun _ => True) (P := fun ds env S' => ∃ (r : List Dm) (N : List Rat) (k' : Nat) (x10 x14 x15 x16 x21 x22 : Option D), ds = r.map Dm.d ∧ (∀ x ∈ r, DmOk m.k x) ∧ env = oE A (std p ts) E (some (.ref k')) (some (dms l)) x5 x6 x7 x8 x9 x10 x11 x12 x13 x14 x15 x16 x17 x18 x19 x20 x21 x22 x23 x24 ∧ S'.objs[k']? = some (.lst (N.map tm)) ∧ Nw B S' ∧ moms ts l M = moms ts r N ∧ N.length + r.length ≤ 100) ?_ ?_ _ FU _ _ S (PS.fix _ _) (by rw [FU_eq, List.length_map]; omega) ⟨l, M, k, _, _, _, _, _, _, rfl, hl, rfl, hk, hB, rfl, hn⟩
  · rintro d r env S' ⟨r', N, k', a10, a14, a15, a16, a21, a22, e1, e2, rfl, e4, e5, e6, e7⟩
    cases r' with
    | nil => simp [initE, List.replicate, retS, retN, seqS, asgS, exprS, ifS, parS, skipS, setAll, varE, cstE, nilL, consL, tupE, mkL, un1, bin2, andE, orE, ifE, chainE, boolT, truthT, notT, andT, orT, yesT, callE, nameG, tupG, consG, nilG, itemsD, opNot, opAdd, opSub, opDiv, opMod, opNeg, opLt, opLe, opGt, opGe, opIsNot, opIs, ltD, leD, truth, at_nat, at_0, at_1, at_2, at_3, at_4, opIx, fLen, coreE, coreL, opIsi, isTy, opAbs, opMin, opInt, opMul, is_nn, is_nt, is_nr, is_nb, is_ni, is_ntm, is_nst] at e1
    | cons x r' =>
      simp only [List.map_cons, List.cons.injEq] at e1
      obtain ⟨rfl, rfl⟩ := e1
      have hx := e2 x List.mem_cons_self
      refine ⟨trivial, _, _, rfl, ?_⟩
      have h2 : atD (ts.map tm) (x.c : Int) = some (tm (ts.getD x.c 0)) := at_tms ts x.c (by rw [hs.l]; exact hx.c)
      have h3 : mulOk (x.n : Int) ((ts.getD x.c 0).den : Int) = true := mulOk_l (by have := hx.n; rw [Int.natAbs_natCast]; omega)
      have h4 : ∀ S, ev (n + 2) j__law_time [.int (max 0 ((x.n : Int) * (ts.getD x.c 0).den - (ts.getD x.c 0).num)), .int (ts.getD x.c 0).den] S = .ok (tm (mom ts x)) S := fun S => lmom_t n x.n (ts.getD x.c 0) S (by
        have := (hs.t _ (getD_mem (c := x.c) (by rw [hs.l]; exact hx.c))).2.2
        omega)
      have h5 := memD_tm (mom ts x) N
      have h6 : atD [D.int p, D.tup (ts.map tm)] 1 = some (D.tup (ts.map tm)) := rfl
      have h7 : ∀ j, j ≤ 101 → Ev.sizeOk j = true := fun j hj => by unfold Ev.sizeOk; rw [Nat.ble_eq]; omega
      have e8 : moms ts (x :: r') N = moms ts r' (addM N (mom ts x)) := rfl
      have e9 : N.length + r'.length + 1 ≤ 100 := by simp only [List.length_cons] at e7; omega
      have e10 := addM_len N (mom ts x)
      unfold fb__law_opens_1
      generalize mom ts x = q at *
      refine Wp.of (a := .nx (oE A (std p ts) E (some (.ref S'.objs.length)) (some (dms l)) x5 x6 x7 x8 x9 (some (tm q)) x11 x12 x13 (some (.int x.c)) (some (.str x.r.s)) (some (.int x.n)) x17 x18 x19 x20 (some (.int (ts.getD x.c 0).num)) (some (.int (ts.getD x.c 0).den)) x23 x24)) (S := ⟨S'.objs ++ [.lst ((addM N q).map tm)], S'.dirty⟩) ?_ ⟨r', addM N q, _, _, _, _, _, _, _, rfl, fun y hy => e2 y (List.mem_cons_of_mem _ hy), rfl, by simp [initE, List.replicate, retS, retN, seqS, asgS, exprS, ifS, parS, skipS, setAll, varE, cstE, nilL, consL, tupE, mkL, un1, bin2, andE, orE, ifE, chainE, boolT, truthT, notT, andT, orT, yesT, callE, nameG, tupG, consG, nilG, itemsD, opNot, opAdd, opSub, opDiv, opMod, opNeg, opLt, opLe, opGt, opGe, opIsNot, opIs, ltD, leD, truth, at_nat, at_0, at_1, at_2, at_3, at_4, opIx, fLen, coreE, coreL, opIsi, isTy, opAbs, opMin, opInt, opMul, is_nn, is_nt, is_nr, is_nb, is_ni, is_ntm, is_nst], e5.alloc _, by rw [e6, e8], by omega⟩
      generalize ts.getD x.c 0 = t at *
      unfold addM
      cases hc : N.contains q <;> rw [hc] at h5
      · simp -implicitDefEqProofs [initE, List.replicate, retS, retN, seqS, asgS, exprS, ifS, parS, skipS, setAll, varE, cstE, nilL, consL, tupE, mkL, un1, bin2, andE, orE, ifE, chainE, boolT, truthT, notT, andT, orT, yesT, callE, nameG, tupG, consG, nilG, itemsD, opNot, opAdd, opSub, opDiv, opMod, opNeg, opLt, opLe, opGt, opGe, opIsNot, opIs, ltD, leD, truth, at_nat, at_0, at_1, at_2, at_3, at_4, opIx, fLen, coreE, coreL, opIsi, isTy, opAbs, opMin, opInt, opMul, is_nn, is_nt, is_nr, is_nb, is_ni, is_ntm, is_nst, std, tms, h2, h6, tm, h3, max0]
        simp only [tm] at h4 h5 e4
        simp -implicitDefEqProofs [initE, List.replicate, retS, retN, seqS, asgS, exprS, ifS, parS, skipS, setAll, varE, cstE, nilL, consL, tupE, mkL, un1, bin2, andE, orE, ifE, chainE, boolT, truthT, notT, andT, orT, yesT, callE, nameG, tupG, consG, nilG, itemsD, opNot, opAdd, opSub, opDiv, opMod, opNeg, opLt, opLe, opGt, opGe, opIsNot, opIs, ltD, leD, truth, at_nat, at_0, at_1, at_2, at_3, at_4, opIx, fLen, coreE, coreL, opIsi, isTy, opAbs, opMin, opInt, opMul, is_nn, is_nt, is_nr, is_nb, is_ni, is_ntm, is_nst, h4, catVL, ifL, opNotIn, inD, e4, h5, h7 (N.length + 1) (by omega), tm]
      · simp -implicitDefEqProofs [initE, List.replicate, retS, retN, seqS, asgS, exprS, ifS, parS, skipS, setAll, varE, cstE, nilL, consL, tupE, mkL, un1, bin2, andE, orE, ifE, chainE, boolT, truthT, notT, andT, orT, yesT, callE, nameG, tupG, consG, nilG, itemsD, opNot, opAdd, opSub, opDiv, opMod, opNeg, opLt, opLe, opGt, opGe, opIsNot, opIs, ltD, leD, truth, at_nat, at_0, at_1, at_2, at_3, at_4, opIx, fLen, coreE, coreL, opIsi, isTy, opAbs, opMin, opInt, opMul, is_nn, is_nt, is_nr, is_nb, is_ni, is_ntm, is_nst, std, tms, h2, h6, tm, h3, max0]
        simp only [tm] at h4 h5 e4
        simp -implicitDefEqProofs [initE, List.replicate, retS, retN, seqS, asgS, exprS, ifS, parS, skipS, setAll, varE, cstE, nilL, consL, tupE, mkL, un1, bin2, andE, orE, ifE, chainE, boolT, truthT, notT, andT, orT, yesT, callE, nameG, tupG, consG, nilG, itemsD, opNot, opAdd, opSub, opDiv, opMod, opNeg, opLt, opLe, opGt, opGe, opIsNot, opIs, ltD, leD, truth, at_nat, at_0, at_1, at_2, at_3, at_4, opIx, fLen, coreE, coreL, opIsi, isTy, opAbs, opMin, opInt, opMul, is_nn, is_nt, is_nr, is_nb, is_ni, is_ntm, is_nst, h4, catVL, ifL, opNotIn, inD, e4, h5, h7 N.length (by omega), tm]
  · rintro env S' ⟨r', N, k', a10, a14, a15, a16, a21, a22, e1, e2, rfl, e4, e5, e6, e7⟩
    have : r' = [] := by cases r' with
      | nil => rfl
      | cons x r' => simp [initE, List.replicate, retS, retN, seqS, asgS, exprS, ifS, parS, skipS, setAll, varE, cstE, nilL, consL, tupE, mkL, un1, bin2, andE, orE, ifE, chainE, boolT, truthT, notT, andT, orT, yesT, callE, nameG, tupG, consG, nilG, itemsD, opNot, opAdd, opSub, opDiv, opMod, opNeg, opLt, opLe, opGt, opGe, opIsNot, opIs, ltD, leD, truth, at_nat, at_0, at_1, at_2, at_3, at_4, opIx, fLen, coreE, coreL, opIsi, isTy, opAbs, opMin, opInt, opMul, is_nn, is_nt, is_nr, is_nb, is_ni, is_ntm, is_nst] at e1
    subst this
    exact ⟨trivial, k', a10, a14, a15, a16, a21, a22, rfl, by rw [e6]; exact e4, e5⟩
theorem olists (n : Nat) (hs : StS m p ts) (A E : D) (k : Nat) (L : List (List Dm)) (x4 x5 x6 x7 x8 x9 x10 x11 x12 x13 x14 x15 x16 x17 x18 x19 x20 x21 x22 x23 x24 : Option D) (M : List Rat) (S : Store) (hk : S.objs[k]? = some (.lst (M.map tm))) (hB : Nw B S) (hl : ∀ l ∈ L, l.length ≤ 6 ∧ ∀ x ∈ l, DmOk m.k x) (hn : M.length + 6 * L.length ≤ 100)
    (hst : tupE (consL (bin2 opIx (bin2 opIx (varE 0) (cstE (.int (2)))) (bin2 opIx (varE 1) (cstE (.int (0))))) (consL (bin2 opIx (bin2 opIx (bin2 opIx (varE 0) (cstE (.int (3)))) (varE 2)) (cstE (.int (3)))) (consL (bin2 opIx (bin2 opIx (varE 0) (cstE (.int (2)))) (bin2 opIx (bin2 opIx (bin2 opIx (varE 0) (cstE (.int (3)))) (varE 2)) (cstE (.int (1))))) nilL))) (oE A (std p ts) E (some (.ref k)) x4 x5 x6 x7 x8 x9 x10 x11 x12 x13 x14 x15 x16 x17 x18 x19 x20 x21 x22 x23 x24) S = .ok (.tup (L.map dms)) S) :
    Wp (fo__law_opens_2 (ev (n + 2)) (oE A (std p ts) E (some (.ref k)) x4 x5 x6 x7 x8 x9 x10 x11 x12 x13 x14 x15 x16 x17 x18 x19 x20 x21 x22 x23 x24) S) fun f S' => ∃ k' x4 x10 x14 x15 x16 x21 x22, f = .nx (oE A (std p ts) E (some (.ref k')) x4 x5 x6 x7 x8 x9 x10 x11 x12 x13 x14 x15 x16 x17 x18 x19 x20 x21 x22 x23 x24) ∧ S'.objs[k']? = some (.lst ((L.foldl (fun M l => moms ts l M) M).map tm)) ∧ Nw B S' := by
  unfold fo__law_opens_2
  rw [forS_val hst]
  refine for_inv (I := fun _ => True) (P := fun ds env S' => ∃ (r : List (List Dm)) (N : List Rat) (k' : Nat) (x4 x10 x14 x15 x16 x21 x22 : Option D), ds = r.map dms ∧ (∀ l ∈ r, l.length ≤ 6 ∧ ∀ x ∈ l, DmOk m.k x) ∧ env = oE A (std p ts) E (some (.ref k')) x4 x5 x6 x7 x8 x9 x10 x11 x12 x13 x14 x15 x16 x17 x18 x19 x20 x21 x22 x23 x24 ∧ S'.objs[k']? = some (.lst (N.map tm)) ∧ Nw B S' ∧ L.foldl (fun M l => moms ts l M) M = r.foldl (fun M l => moms ts l M) N ∧ N.length + 6 * r.length ≤ 100) ?_ ?_ _ FU _ _ S (PS.fix _ _) (by rw [FU_eq, List.length_map]; omega) ⟨L, M, k, _, _, _, _, _, _, _, rfl, hl, rfl, hk, hB, rfl, hn⟩
  · rintro d r env S' ⟨r', N, k', a4, a10, a14, a15, a16, a21, a22, e1, e2, rfl, e4, e5, e6, e7⟩
    cases r' with
    | nil => simp [initE, List.replicate, retS, retN, seqS, asgS, exprS, ifS, parS, skipS, setAll, varE, cstE, nilL, consL, tupE, mkL, un1, bin2, andE, orE, ifE, chainE, boolT, truthT, notT, andT, orT, yesT, callE, nameG, tupG, consG, nilG, itemsD, opNot, opAdd, opSub, opDiv, opMod, opNeg, opLt, opLe, opGt, opGe, opIsNot, opIs, ltD, leD, truth, at_nat, at_0, at_1, at_2, at_3, at_4, opIx, fLen, coreE, coreL, opIsi, isTy, opAbs, opMin, opInt, opMul, is_nn, is_nt, is_nr, is_nb, is_ni, is_ntm, is_nst] at e1
    | cons x r' =>
      simp only [List.map_cons, List.cons.injEq] at e1
      obtain ⟨rfl, rfl⟩ := e1
      obtain ⟨hx1, hx2⟩ := e2 x List.mem_cons_self
      refine ⟨trivial, _, _, rfl, ?_⟩
      unfold fb__law_opens_2
      simp only [List.length_cons] at e7
      refine (olist n hs A E k' x x5 x6 x7 x8 x9 a10 x11 x12 x13 a14 a15 a16 x17 x18 x19 x20 a21 a22 x23 x24 N S' e4 e5 hx2 (by omega)).mono ?_
      rintro f S2 ⟨k2, b10, b14, b15, b16, b21, b22, rfl, q1, q2⟩
      have q3 := moms_len ts x N
      exact ⟨r', moms ts x N, k2, _, b10, b14, b15, b16, b21, b22, rfl, fun y hy => e2 y (List.mem_cons_of_mem _ hy), rfl, q1, q2, by rw [e6]; rfl, by omega⟩
  · rintro env S' ⟨r', N, k', a4, a10, a14, a15, a16, a21, a22, e1, e2, rfl, e4, e5, e6, e7⟩
    have : r' = [] := by cases r' with
      | nil => rfl
      | cons x r' => simp [initE, List.replicate, retS, retN, seqS, asgS, exprS, ifS, parS, skipS, setAll, varE, cstE, nilL, consL, tupE, mkL, un1, bin2, andE, orE, ifE, chainE, boolT, truthT, notT, andT, orT, yesT, callE, nameG, tupG, consG, nilG, itemsD, opNot, opAdd, opSub, opDiv, opMod, opNeg, opLt, opLe, opGt, opGe, opIsNot, opIs, ltD, leD, truth, at_nat, at_0, at_1, at_2, at_3, at_4, opIx, fLen, coreE, coreL, opIsi, isTy, opAbs, opMin, opInt, opMul, is_nn, is_nt, is_nr, is_nb, is_ni, is_ntm, is_nst] at e1
    subst this
    exact ⟨trivial, k', a4, a10, a14, a15, a16, a21, a22, rfl, by rw [e6]; exact e4, e5⟩
end
end K81
set_option Elab.async false
set_option linter.all false
set_option maxRecDepth 100000
set_option maxHeartbeats 4000000
namespace K81
open PySem Ev
def kq (q : Rat) : Int := q.num * 420 / (q.den : Int)
def keyQ (q : Rat) : D := .tup [.int (kq q), tm q]
def kp (q : Rat) : PyData := .tuple [.int (kq q), tp q]
theorem py_key (q : Rat) : pyOf (keyQ q) = some (kp q) := rfl
theorem pyD_key (q : Rat) : pyD (keyQ q) = kp q := rfl
theorem kq_lt {q r : Rat} (hq : q.den ≤ 4) (hr : r.den ≤ 4) : kq q < kq r ↔ q < r := by
  have h1 := q.den_pos
  have h2 := r.den_pos
  rw [Rat.lt_iff]
  unfold kq
  have a : q.den = 1 ∨ q.den = 2 ∨ q.den = 3 ∨ q.den = 4 := by omega
  have b : r.den = 1 ∨ r.den = 2 ∨ r.den = 3 ∨ r.den = 4 := by omega
  rcases a with a | a | a | a <;> rcases b with b | b | b | b <;> rw [a, b] <;> omega
theorem kq_eq {q r : Rat} (hq : q.den ≤ 4) (hr : r.den ≤ 4) : kq q = kq r ↔ q = r := by
  have h1 := kq_lt hq hr
  have h2 := kq_lt hr hq
  constructor
  · intro h
    have : ¬ q < r := fun z => by have := h1.mpr z; omega
    have : ¬ r < q := fun z => by have := h2.mpr z; omega
    grind
  · rintro rfl; rfl
theorem lt_key {q r : Rat} (hq : q.den ≤ 4) (hr : r.den ≤ 4) : W.dataLt (kp q) (kp r) = decide (q < r) := by
  unfold kp
  rw [W.dataLt_pair rfl rfl, eqv_tp, W.dataLt_int]
  have e : PyData.eqv (.int (kq q)) (.int (kq r)) = decide (kq q = kq r) := rfl
  rw [e]
  by_cases h : q = r
  · subst h
    have : ¬ q < q := by grind
    simp [this]
  · have : ¬ kq q = kq r := fun z => h ((kq_eq hq hr).mp z)
    simp [this, kq_lt hq hr]
theorem le_key {q r : Rat} (hq : q.den ≤ 4) (hr : r.den ≤ 4) : W.dataLe false pyD (keyQ q) (keyQ r) = decide (q ≤ r) := by
  rw [W.dataLe_eq]
  show (!W.dataLt (pyD (keyQ r)) (pyD (keyQ q))) = _
  rw [pyD_key, pyD_key, lt_key hr hq]
  by_cases h : r < q
  · have : ¬ q ≤ r := by grind
    simp [h, this]
  · have : q ≤ r := by grind
    simp [h, this]
theorem alikeTo_key (q : Rat) : ∀ M : List Rat, alikeTo (kp q) (M.map keyQ) = true
  | [] => rfl
  | r :: M => by
    show ((match pyOf (keyQ r) with
      | some y => W.alike (kp q) y && W.alike y (kp q) && decide (y.depth ≤ 64)
      | none => false) && alikeTo (kp q) (M.map keyQ)) = true
    rw [alikeTo_key q M, py_key]
    rfl
theorem allAlike_key : ∀ M : List Rat, allAlike (M.map keyQ) = true
  | [] => rfl
  | r :: M => by
    show ((match pyOf (keyQ r) with
      | some y => W.alike y y && Nat.ble y.depth 64 && alikeTo y (M.map keyQ)
      | none => false) && allAlike (M.map keyQ)) = true
    rw [allAlike_key M, py_key]
    show (W.alike (kp r) (kp r) && Nat.ble (kp r).depth 64 && alikeTo (kp r) (M.map keyQ) && true) = true
    rw [alikeTo_key]
    rfl
theorem sort_key {M : List Rat} (h : MOk M) (hl : M.length ≤ 1000) : ∃ Z : List Rat, sortC (M.map keyQ) = some (Z.map keyQ) ∧ (∀ q, q ∈ Z ↔ q ∈ M) ∧ Up Z ∧ Z.length = M.length := by
  refine ⟨M.mergeSort fun a b => decide (a ≤ b), ?_, fun q => List.mem_mergeSort, ?_, List.length_mergeSort _⟩
  · unfold sortC
    have h1 : sortOk (M.map keyQ) = true := by
      unfold sortOk
      rw [allAlike_key]
      have : (M.map keyQ).all (fun d => isTupNe (pyD d)) = true := by
        rw [List.all_eq_true]
        intro d hd
        obtain ⟨q, _, rfl⟩ := List.mem_map.mp hd
        rfl
      rw [this]; rfl
    have h2 : Ev.sizeOk (M.map keyQ).length = true := by
      unfold Ev.sizeOk
      rw [Nat.ble_eq, List.length_map]; omega
    rw [h1, h2]
    simp only [Bool.and_self, if_true]
    congr 1
    exact (List.map_mergeSort (f := keyQ) fun a ha b hb => (le_key (h.sm a ha).2 (h.sm b hb).2).symm).symm
  · have hp : (M.mergeSort fun a b => decide (a ≤ b)).Pairwise fun a b => decide (a ≤ b) = true := List.pairwise_mergeSort (fun a b c h1 h2 => by
      have h1 := of_decide_eq_true h1
      have h2 := of_decide_eq_true h2
      exact decide_eq_true (by grind)) (fun a b => by
      by_cases h : a ≤ b
      · simp [h]
      · have : b ≤ a := by grind
        simp [this]) M
    have hn : (M.mergeSort fun a b => decide (a ≤ b)).Nodup := (List.mergeSort_perm M _).nodup_iff.mpr h.nd
    refine List.Pairwise.imp₂ (fun a b h1 h2 => ?_) hp hn
    have h1 := of_decide_eq_true h1
    have : ¬ a = b := h2
    grind
end K81
set_option Elab.async false
set_option linter.all false
set_option maxRecDepth 100000
set_option maxHeartbeats 4000000
namespace K81
open PySem Ev
def spI : Nat → List Rat → List (Sp × Nat)
  | _, [] => []
  | i, [m] => [(⟨m, m, true, none⟩, i), (⟨m + 1, m, false, none⟩, i)]
  | i, m :: m' :: r => (⟨m, m, true, some m'⟩, i) :: (⟨(m + m') / 2, m, false, some m'⟩, i) :: spI (i + 1) (m' :: r)
theorem spI_fst : ∀ (i : Nat) (ms : List Rat), (spI i ms).map Prod.fst = sp ms
  | _, [] => rfl
  | _, [_] => rfl
  | i, m :: m' :: r => by
    rw [spI, sp, List.map_cons, List.map_cons, spI_fst (i + 1) (m' :: r)]
theorem spI_ix : ∀ (ms pre : List Rat) (x : Sp × Nat), x ∈ spI pre.length ms → (pre ++ ms)[x.2]? = some x.1.st ∧ (pre ++ ms)[x.2 + 1]? = x.1.nx
  | [], pre, x, h => by cases h
  | [m], pre, x, h => by
    simp only [spI, List.mem_cons, List.not_mem_nil, or_false] at h
    rcases h with rfl | rfl <;> simp [initE, List.replicate, retS, retN, seqS, asgS, exprS, ifS, parS, skipS, setAll, varE, cstE, nilL, consL, tupE, mkL, un1, bin2, andE, orE, ifE, chainE, boolT, truthT, notT, andT, orT, yesT, callE, nameG, tupG, consG, nilG, itemsD, opNot, opAdd, opSub, opDiv, opMod, opNeg, opLt, opLe, opGt, opGe, opIsNot, opIs, ltD, leD, truth, at_nat, at_0, at_1, at_2, at_3, at_4, opIx, fLen, coreE, coreL, opIsi, isTy, opAbs, opMin, opInt, opMul, is_nn, is_nt, is_nr, is_nb, is_ni, is_ntm, is_nst]
  | m :: m' :: r, pre, x, h => by
    simp only [spI, List.mem_cons] at h
    rcases h with rfl | rfl | h
    · simp [initE, List.replicate, retS, retN, seqS, asgS, exprS, ifS, parS, skipS, setAll, varE, cstE, nilL, consL, tupE, mkL, un1, bin2, andE, orE, ifE, chainE, boolT, truthT, notT, andT, orT, yesT, callE, nameG, tupG, consG, nilG, itemsD, opNot, opAdd, opSub, opDiv, opMod, opNeg, opLt, opLe, opGt, opGe, opIsNot, opIs, ltD, leD, truth, at_nat, at_0, at_1, at_2, at_3, at_4, opIx, fLen, coreE, coreL, opIsi, isTy, opAbs, opMin, opInt, opMul, is_nn, is_nt, is_nr, is_nb, is_ni, is_ntm, is_nst]
    · simp [initE, List.replicate, retS, retN, seqS, asgS, exprS, ifS, parS, skipS, setAll, varE, cstE, nilL, consL, tupE, mkL, un1, bin2, andE, orE, ifE, chainE, boolT, truthT, notT, andT, orT, yesT, callE, nameG, tupG, consG, nilG, itemsD, opNot, opAdd, opSub, opDiv, opMod, opNeg, opLt, opLe, opGt, opGe, opIsNot, opIs, ltD, leD, truth, at_nat, at_0, at_1, at_2, at_3, at_4, opIx, fLen, coreE, coreL, opIsi, isTy, opAbs, opMin, opInt, opMul, is_nn, is_nt, is_nr, is_nb, is_ni, is_ntm, is_nst]
    · have := spI_ix (m' :: r) (pre ++ [m]) x (by rw [List.length_append]; exact h)
      rw [List.append_assoc] at this
      exact this
theorem spI_sm : ∀ {ms : List Rat} {i : Nat}, (∀ q ∈ ms, 0 ≤ q ∧ Sm 91 4 q) → ∀ x ∈ spI i ms, 0 ≤ x.1.w ∧ Sm 728 32 x.1.w
  | [], _, _, x, h => by cases h
  | [m], i, hm, x, h => by
    obtain ⟨h1, h2⟩ := hm m List.mem_cons_self
    simp only [spI, List.mem_cons, List.not_mem_nil, or_false] at h
    rcases h with rfl | rfl
    · exact ⟨h1, h2.mono (by decide) (by decide)⟩
    · exact ⟨by show (0 : Rat) ≤ m + 1; grind, (h2.add (show Sm 1 1 1 from ⟨by decide, by decide⟩)).mono (by decide) (by decide)⟩
  | m :: m' :: r, i, hm, x, h => by
    obtain ⟨h1, h2⟩ := hm m List.mem_cons_self
    obtain ⟨h3, h4⟩ := hm m' (by simp [initE, List.replicate, retS, retN, seqS, asgS, exprS, ifS, parS, skipS, setAll, varE, cstE, nilL, consL, tupE, mkL, un1, bin2, andE, orE, ifE, chainE, boolT, truthT, notT, andT, orT, yesT, callE, nameG, tupG, consG, nilG, itemsD, opNot, opAdd, opSub, opDiv, opMod, opNeg, opLt, opLe, opGt, opGe, opIsNot, opIs, ltD, leD, truth, at_nat, at_0, at_1, at_2, at_3, at_4, opIx, fLen, coreE, coreL, opIsi, isTy, opAbs, opMin, opInt, opMul, is_nn, is_nt, is_nr, is_nb, is_ni, is_ntm, is_nst])
    simp only [spI, List.mem_cons] at h
    rcases h with rfl | rfl | h
    · exact ⟨h1, h2.mono (by decide) (by decide)⟩
    · exact ⟨by show (0 : Rat) ≤ (m + m') / 2; grind, (h2.half h4).mono (by decide) (by decide)⟩
    · exact spI_sm (fun q hq => hm q (List.mem_cons_of_mem _ hq)) x h
theorem spI_len : ∀ (i : Nat) (ms : List Rat), (spI i ms).length = 2 * ms.length
  | _, [] => rfl
  | _, [_] => rfl
  | i, m :: m' :: r => by
    have := spI_len (i + 1) (m' :: r)
    rw [spI]
    simp only [List.length_cons] at this ⊢
    omega
def spD (x : Sp × Nat) : D := .tup [tm x.1.w, .int x.2, .bl x.1.m]
def gspD (x : Sp × Nat) : D := .tup [.int x.2, .bl x.1.m]
section
variable {m : Mc} {p : Nat} {ts : List Rat} {B : List O}
theorem ospots (n : Nat) (A St E : D) (k3 k6 : Nat) (x4 x5 x7 x8 x9 x10 x11 x12 x13 x14 x15 x16 x17 x18 x19 x20 x21 x22 x23 x24 : Option D) (Z : List Rat) (hZ : ∀ q ∈ Z, 0 ≤ q ∧ Sm 91 4 q) (hn : Z.length ≤ 100) (S : Store) (h3 : S.objs[k3]? = some (.lst (Z.map tm))) (h6 : S.objs[k6]? = some (.lst [])) (hB : Nw B S) :
    Wp (fo__law_opens_3 (ev (n + 3)) (oE A St E (some (.ref k3)) x4 x5 (some (.ref k6)) x7 x8 x9 x10 x11 x12 x13 x14 x15 x16 x17 x18 x19 x20 x21 x22 x23 x24) S) fun f S' => ∃ k6 x8 x9 x10, f = .nx (oE A St E (some (.ref k3)) x4 x5 (some (.ref k6)) x7 x8 x9 x10 x11 x12 x13 x14 x15 x16 x17 x18 x19 x20 x21 x22 x23 x24) ∧ S'.objs[k6]? = some (.lst ((spI 0 Z).map spD)) ∧ S'.objs[k3]? = some (.lst (Z.map tm)) ∧ Nw B S' := by
  have e0 : enumI (varE 3) (oE A St E (some (.ref k3)) x4 x5 (some (.ref k6)) x7 x8 x9 x10 x11 x12 x13 x14 x15 x16 x17 x18 x19 x20 x21 x22 x23 x24) S = .ok (.enum 0 (.ref k3 0)) S := by
    unfold enumI varE oE srcOf
    simp only [List.getElem?_cons_succ, List.getElem?_cons_zero, bind_ok, h3]
  have el : ∀ (i : Nat) (l : List D), (enumD i l).length = l.length := by
    intro i l
    induction l generalizing i with
    | nil => rfl
    | cons d l ih => rw [enumD, List.length_cons, ih, List.length_cons]
  unfold fo__law_opens_3
  rw [forS_src e0]
  refine for_inv (P := fun ds env S' => ∃ (r pre : List Rat) (X : List (Sp × Nat)) (k6 : Nat) (x8 x9 x10 : Option D), ds = enumD pre.length (r.map tm) ∧ Z = pre ++ r ∧ env = oE A St E (some (.ref k3)) x4 x5 (some (.ref k6)) x7 x8 x9 x10 x11 x12 x13 x14 x15 x16 x17 x18 x19 x20 x21 x22 x23 x24 ∧ S'.objs[k6]? = some (.lst (X.map spD)) ∧ S'.objs[k3]? = some (.lst (Z.map tm)) ∧ Nw B S' ∧ X ++ spI pre.length r = spI 0 Z) ?_ ?_ _ FU _ _ S (PS.enum 0 (PS.ref (n := k3) (Z.map tm))) (by rw [FU_eq, el, List.length_map]; omega) ⟨Z, [], [], k6, _, _, _, rfl, rfl, rfl, h6, h3, hB, rfl⟩
  · rintro d r env S' ⟨r', pre, X, k', a8, a9, a10, e1, e2, rfl, e4, e5, e6, e7⟩
    cases r' with
    | nil => simp [initE, List.replicate, retS, retN, seqS, asgS, exprS, ifS, parS, skipS, setAll, varE, cstE, nilL, consL, tupE, mkL, un1, bin2, andE, orE, ifE, chainE, boolT, truthT, notT, andT, orT, yesT, callE, nameG, tupG, consG, nilG, itemsD, opNot, opAdd, opSub, opDiv, opMod, opNeg, opLt, opLe, opGt, opGe, opIsNot, opIs, ltD, leD, truth, at_nat, at_0, at_1, at_2, at_3, at_4, opIx, fLen, coreE, coreL, opIsi, isTy, opAbs, opMin, opInt, opMul, is_nn, is_nt, is_nr, is_nb, is_ni, is_ntm, is_nst, enumD] at e1
    | cons x r' =>
      simp only [List.map_cons, enumD, List.cons.injEq] at e1
      obtain ⟨rfl, rfl⟩ := e1
      refine ⟨e5, _, _, rfl, ?_⟩
      have hx := hZ x (by rw [e2]; simp [initE, List.replicate, retS, retN, seqS, asgS, exprS, ifS, parS, skipS, setAll, varE, cstE, nilL, consL, tupE, mkL, un1, bin2, andE, orE, ifE, chainE, boolT, truthT, notT, andT, orT, yesT, callE, nameG, tupG, consG, nilG, itemsD, opNot, opAdd, opSub, opDiv, opMod, opNeg, opLt, opLe, opGt, opGe, opIsNot, opIs, ltD, leD, truth, at_nat, at_0, at_1, at_2, at_3, at_4, opIx, fLen, coreE, coreL, opIsi, isTy, opAbs, opMin, opInt, opMul, is_nn, is_nt, is_nr, is_nb, is_ni, is_ntm, is_nst])
      have hXl : X.length ≤ 200 := by
        have h1 := congrArg List.length e7
        rw [List.length_append, spI_len, spI_len] at h1
        omega
      have hsz : Ev.sizeOk (X.length + 2) = true := by unfold Ev.sizeOk; rw [Nat.ble_eq]; omega
      have fin : ∀ (y : Rat) (Y : Option Rat), spI pre.length (x :: r') = (⟨x, x, true, Y⟩, pre.length) :: (⟨y, x, false, Y⟩, pre.length) :: spI (pre.length + 1) r' →
          ∃ (r pre1 : List Rat) (X1 : List (Sp × Nat)) (k6 : Nat) (x8 x9 x10 : Option D), enumD (pre.length + 1) (r'.map tm) = enumD pre1.length (r.map tm) ∧ Z = pre1 ++ r ∧ oE A St E (some (.ref k3)) x4 x5 (some (.ref S'.objs.length)) x7 (some (.int pre.length)) (some (tm x)) (some (tm y)) x11 x12 x13 x14 x15 x16 x17 x18 x19 x20 x21 x22 x23 x24 = oE A St E (some (.ref k3)) x4 x5 (some (.ref k6)) x7 x8 x9 x10 x11 x12 x13 x14 x15 x16 x17 x18 x19 x20 x21 x22 x23 x24 ∧ (S'.objs ++ [O.lst (X.map spD ++ [.tup [tm x, .int pre.length, .bl true], .tup [tm y, .int pre.length, .bl false]])])[k6]? = some (.lst (X1.map spD)) ∧ (S'.objs ++ [O.lst (X.map spD ++ [.tup [tm x, .int pre.length, .bl true], .tup [tm y, .int pre.length, .bl false]])])[k3]? = some (.lst (Z.map tm)) ∧ Nw B ⟨S'.objs ++ [O.lst (X.map spD ++ [.tup [tm x, .int pre.length, .bl true], .tup [tm y, .int pre.length, .bl false]])], S'.dirty⟩ ∧ X1 ++ spI pre1.length r = spI 0 Z := fun y Y hy => by
        refine ⟨r', pre ++ [x], X ++ [(⟨x, x, true, Y⟩, pre.length), (⟨y, x, false, Y⟩, pre.length)], S'.objs.length, _, _, _, by rw [List.length_append]; rfl, by rw [e2]; simp [initE, List.replicate, retS, retN, seqS, asgS, exprS, ifS, parS, skipS, setAll, varE, cstE, nilL, consL, tupE, mkL, un1, bin2, andE, orE, ifE, chainE, boolT, truthT, notT, andT, orT, yesT, callE, nameG, tupG, consG, nilG, itemsD, opNot, opAdd, opSub, opDiv, opMod, opNeg, opLt, opLe, opGt, opGe, opIsNot, opIs, ltD, leD, truth, at_nat, at_0, at_1, at_2, at_3, at_4, opIx, fLen, coreE, coreL, opIsi, isTy, opAbs, opMin, opInt, opMul, is_nn, is_nt, is_nr, is_nb, is_ni, is_ntm, is_nst], rfl, by simp [initE, List.replicate, retS, retN, seqS, asgS, exprS, ifS, parS, skipS, setAll, varE, cstE, nilL, consL, tupE, mkL, un1, bin2, andE, orE, ifE, chainE, boolT, truthT, notT, andT, orT, yesT, callE, nameG, tupG, consG, nilG, itemsD, opNot, opAdd, opSub, opDiv, opMod, opNeg, opLt, opLe, opGt, opGe, opIsNot, opIs, ltD, leD, truth, at_nat, at_0, at_1, at_2, at_3, at_4, opIx, fLen, coreE, coreL, opIsi, isTy, opAbs, opMin, opInt, opMul, is_nn, is_nt, is_nr, is_nb, is_ni, is_ntm, is_nst, spD], ?_, e6.alloc _, ?_⟩
        · rw [List.getElem?_append_left (List.getElem?_eq_some_iff.mp e5).1]; exact e5
        · rw [← e7, hy, List.length_append]; simp [initE, List.replicate, retS, retN, seqS, asgS, exprS, ifS, parS, skipS, setAll, varE, cstE, nilL, consL, tupE, mkL, un1, bin2, andE, orE, ifE, chainE, boolT, truthT, notT, andT, orT, yesT, callE, nameG, tupG, consG, nilG, itemsD, opNot, opAdd, opSub, opDiv, opMod, opNeg, opLt, opLe, opGt, opGe, opIsNot, opIs, ltD, leD, truth, at_nat, at_0, at_1, at_2, at_3, at_4, opIx, fLen, coreE, coreL, opIsi, isTy, opAbs, opMin, opInt, opMul, is_nn, is_nt, is_nr, is_nb, is_ni, is_ntm, is_nst]
      unfold fb__law_opens_3
      have hat : ((pre.length : Nat) : Int) + 1 = ((pre.length + 1 : Nat) : Int) := by omega
      have hlen : Z.length = pre.length + (r'.length + 1) := by rw [e2]; simp [initE, List.replicate, retS, retN, seqS, asgS, exprS, ifS, parS, skipS, setAll, varE, cstE, nilL, consL, tupE, mkL, un1, bin2, andE, orE, ifE, chainE, boolT, truthT, notT, andT, orT, yesT, callE, nameG, tupG, consG, nilG, itemsD, opNot, opAdd, opSub, opDiv, opMod, opNeg, opLt, opLe, opGt, opGe, opIsNot, opIs, ltD, leD, truth, at_nat, at_0, at_1, at_2, at_3, at_4, opIx, fLen, coreE, coreL, opIsi, isTy, opAbs, opMin, opInt, opMul, is_nn, is_nt, is_nr, is_nb, is_ni, is_ntm, is_nst]
      cases r' with
      | nil =>
        have hs1 := lsum_t n x 1 S' (sm_ok hx.2 (by decide) (by decide)) ⟨by decide, by decide⟩ hx.1 (by decide)
        have hs1 : ev (n + 3) j__law_sum [tm x, .tup [.int 1, .int 1]] S' = .ok (tm (x + 1)) S' := hs1
        refine Wp.of (a := .nx (oE A St E (some (.ref k3)) x4 x5 (some (.ref S'.objs.length)) x7 (some (.int pre.length)) (some (tm x)) (some (tm (x + 1))) x11 x12 x13 x14 x15 x16 x17 x18 x19 x20 x21 x22 x23 x24)) (S := ⟨S'.objs ++ [O.lst (X.map spD ++ [.tup [tm x, .int pre.length, .bl true], .tup [tm (x + 1), .int pre.length, .bl false]])], S'.dirty⟩) ?_ (fin (x + 1) none rfl)
        have hc : ¬ ((pre.length : Nat) : Int) + 1 < (Z.length : Int) := by rw [hlen]; simp [initE, List.replicate, retS, retN, seqS, asgS, exprS, ifS, parS, skipS, setAll, varE, cstE, nilL, consL, tupE, mkL, un1, bin2, andE, orE, ifE, chainE, boolT, truthT, notT, andT, orT, yesT, callE, nameG, tupG, consG, nilG, itemsD, opNot, opAdd, opSub, opDiv, opMod, opNeg, opLt, opLe, opGt, opGe, opIsNot, opIs, ltD, leD, truth, at_nat, at_0, at_1, at_2, at_3, at_4, opIx, fLen, coreE, coreL, opIsi, isTy, opAbs, opMin, opInt, opMul, is_nn, is_nt, is_nr, is_nb, is_ni, is_ntm, is_nst]
        simp -implicitDefEqProofs [initE, List.replicate, retS, retN, seqS, asgS, exprS, ifS, parS, skipS, setAll, varE, cstE, nilL, consL, tupE, mkL, un1, bin2, andE, orE, ifE, chainE, boolT, truthT, notT, andT, orT, yesT, callE, nameG, tupG, consG, nilG, itemsD, opNot, opAdd, opSub, opDiv, opMod, opNeg, opLt, opLe, opGt, opGe, opIsNot, opIs, ltD, leD, truth, at_nat, at_0, at_1, at_2, at_3, at_4, opIx, fLen, coreE, coreL, opIsi, isTy, opAbs, opMin, opInt, opMul, is_nn, is_nt, is_nr, is_nb, is_ni, is_ntm, is_nst, e5, e4, hc, hs1, catVL, hsz]
      | cons y r' =>
        have hy := hZ y (by rw [e2]; simp [initE, List.replicate, retS, retN, seqS, asgS, exprS, ifS, parS, skipS, setAll, varE, cstE, nilL, consL, tupE, mkL, un1, bin2, andE, orE, ifE, chainE, boolT, truthT, notT, andT, orT, yesT, callE, nameG, tupG, consG, nilG, itemsD, opNot, opAdd, opSub, opDiv, opMod, opNeg, opLt, opLe, opGt, opGe, opIsNot, opIs, ltD, leD, truth, at_nat, at_0, at_1, at_2, at_3, at_4, opIx, fLen, coreE, coreL, opIsi, isTy, opAbs, opMin, opInt, opMul, is_nn, is_nt, is_nr, is_nb, is_ni, is_ntm, is_nst])
        have hs1 := lhalf_t n x y S' (hx.2.mono (by decide) (by decide)) (hy.2.mono (by decide) (by decide)) hx.1 hy.1
        refine Wp.of (a := .nx (oE A St E (some (.ref k3)) x4 x5 (some (.ref S'.objs.length)) x7 (some (.int pre.length)) (some (tm x)) (some (tm ((x + y) / 2))) x11 x12 x13 x14 x15 x16 x17 x18 x19 x20 x21 x22 x23 x24)) (S := ⟨S'.objs ++ [O.lst (X.map spD ++ [.tup [tm x, .int pre.length, .bl true], .tup [tm ((x + y) / 2), .int pre.length, .bl false]])], S'.dirty⟩) ?_ (fin ((x + y) / 2) (some y) rfl)
        have hc : ((pre.length : Nat) : Int) + 1 < (Z.length : Int) := by rw [hlen]; simp [initE, List.replicate, retS, retN, seqS, asgS, exprS, ifS, parS, skipS, setAll, varE, cstE, nilL, consL, tupE, mkL, un1, bin2, andE, orE, ifE, chainE, boolT, truthT, notT, andT, orT, yesT, callE, nameG, tupG, consG, nilG, itemsD, opNot, opAdd, opSub, opDiv, opMod, opNeg, opLt, opLe, opGt, opGe, opIsNot, opIs, ltD, leD, truth, at_nat, at_0, at_1, at_2, at_3, at_4, opIx, fLen, coreE, coreL, opIsi, isTy, opAbs, opMin, opInt, opMul, is_nn, is_nt, is_nr, is_nb, is_ni, is_ntm, is_nst]; omega
        have hz : atD (Z.map tm) (((pre.length : Nat) : Int) + 1) = some (tm y) := by
          rw [hat, at_nat, e2]
          simp [initE, List.replicate, retS, retN, seqS, asgS, exprS, ifS, parS, skipS, setAll, varE, cstE, nilL, consL, tupE, mkL, un1, bin2, andE, orE, ifE, chainE, boolT, truthT, notT, andT, orT, yesT, callE, nameG, tupG, consG, nilG, itemsD, opNot, opAdd, opSub, opDiv, opMod, opNeg, opLt, opLe, opGt, opGe, opIsNot, opIs, ltD, leD, truth, at_nat, at_0, at_1, at_2, at_3, at_4, opIx, fLen, coreE, coreL, opIsi, isTy, opAbs, opMin, opInt, opMul, is_nn, is_nt, is_nr, is_nb, is_ni, is_ntm, is_nst]
        simp -implicitDefEqProofs [initE, List.replicate, retS, retN, seqS, asgS, exprS, ifS, parS, skipS, setAll, varE, cstE, nilL, consL, tupE, mkL, un1, bin2, andE, orE, ifE, chainE, boolT, truthT, notT, andT, orT, yesT, callE, nameG, tupG, consG, nilG, itemsD, opNot, opAdd, opSub, opDiv, opMod, opNeg, opLt, opLe, opGt, opGe, opIsNot, opIs, ltD, leD, truth, at_0, at_1, at_2, at_3, at_4, opIx, fLen, coreE, coreL, opIsi, isTy, opAbs, opMin, opInt, opMul, is_nn, is_nt, is_nr, is_nb, is_ni, is_ntm, is_nst, e5, e4, hc, hz, hs1, catVL, hsz]
  · rintro env S' ⟨r', pre, X, k', a8, a9, a10, e1, e2, rfl, e4, e5, e6, e7⟩
    have : r' = [] := by cases r' with
      | nil => rfl
      | cons x r' => simp [initE, List.replicate, retS, retN, seqS, asgS, exprS, ifS, parS, skipS, setAll, varE, cstE, nilL, consL, tupE, mkL, un1, bin2, andE, orE, ifE, chainE, boolT, truthT, notT, andT, orT, yesT, callE, nameG, tupG, consG, nilG, itemsD, opNot, opAdd, opSub, opDiv, opMod, opNeg, opLt, opLe, opGt, opGe, opIsNot, opIs, ltD, leD, truth, at_nat, at_0, at_1, at_2, at_3, at_4, opIx, fLen, coreE, coreL, opIsi, isTy, opAbs, opMin, opInt, opMul, is_nn, is_nt, is_nr, is_nb, is_ni, is_ntm, is_nst, enumD] at e1
    subst this
    refine ⟨e5, k', a8, a9, a10, rfl, ?_, e5, e6⟩
    rw [e4, ← e7]
    simp [initE, List.replicate, retS, retN, seqS, asgS, exprS, ifS, parS, skipS, setAll, varE, cstE, nilL, consL, tupE, mkL, un1, bin2, andE, orE, ifE, chainE, boolT, truthT, notT, andT, orT, yesT, callE, nameG, tupG, consG, nilG, itemsD, opNot, opAdd, opSub, opDiv, opMod, opNeg, opLt, opLe, opGt, opGe, opIsNot, opIs, ltD, leD, truth, at_nat, at_0, at_1, at_2, at_3, at_4, opIx, fLen, coreE, coreL, opIsi, isTy, opAbs, opMin, opInt, opMul, is_nn, is_nt, is_nr, is_nb, is_ni, is_ntm, is_nst, spI]
theorem ogood (n : Nat) (hm : McOk m) (hs : StS m p ts) (e : Nat) (he : e < m.es.length) (k3 k6 k7 : Nat) (x4 x5 x8 x9 x10 x11 x12 x13 x14 x15 x16 x17 x18 x19 x20 x21 x22 x23 x24 : Option D) (Z : List Rat) (L : List (Sp × Nat)) (hL : ∀ x ∈ L, 0 ≤ x.1.w ∧ Sm 728 32 x.1.w) (hn : L.length ≤ 1000) (S : Store) (h3 : S.objs[k3]? = some (.lst (Z.map tm))) (h6 : S.objs[k6]? = some (.lst (L.map spD))) (h7 : S.objs[k7]? = some (.lst [])) (n3 : k3 ≠ k7) (n6 : k6 ≠ k7) (hk : B.length ≤ k7) (hB : Nw B S) :
    Wp (fo__law_opens_4 (ev (n + 4)) (oE m.d (std p ts) (.int e) (some (.ref k3)) x4 x5 (some (.ref k6)) (some (.ref k7)) x8 x9 x10 x11 x12 x13 x14 x15 x16 x17 x18 x19 x20 x21 x22 x23 x24) S) fun f S' => ∃ x8 x9 x11 x12, f = .nx (oE m.d (std p ts) (.int e) (some (.ref k3)) x4 x5 (some (.ref k6)) (some (.ref k7)) x8 x9 x10 x11 x12 x13 x14 x15 x16 x17 x18 x19 x20 x21 x22 x23 x24) ∧ S'.objs[k3]? = some (.lst (Z.map tm)) ∧ S'.objs[k7]? = some (.lst ((L.filter fun x => spotOk m p ts e x.1.w).map gspD)) ∧ Nw B S' := by
  have e0 : valI (varE 6) (oE m.d (std p ts) (.int e) (some (.ref k3)) x4 x5 (some (.ref k6)) (some (.ref k7)) x8 x9 x10 x11 x12 x13 x14 x15 x16 x17 x18 x19 x20 x21 x22 x23 x24) S = .ok (.ref k6 0) S := by
    unfold valI varE oE srcOf
    simp only [List.getElem?_cons_succ, List.getElem?_cons_zero, bind_ok, h6, ofO_some]
  unfold fo__law_opens_4
  rw [forS_src e0]
  refine for_inv (P := fun ds env S' => ∃ (r X : List (Sp × Nat)) (x8 x9 x11 x12 : Option D), ds = r.map spD ∧ (∀ x ∈ r, 0 ≤ x.1.w ∧ Sm 728 32 x.1.w) ∧ env = oE m.d (std p ts) (.int e) (some (.ref k3)) x4 x5 (some (.ref k6)) (some (.ref k7)) x8 x9 x10 x11 x12 x13 x14 x15 x16 x17 x18 x19 x20 x21 x22 x23 x24 ∧ S'.objs[k3]? = some (.lst (Z.map tm)) ∧ S'.objs[k6]? = some (.lst (L.map spD)) ∧ S'.objs[k7]? = some (.lst (X.map gspD)) ∧ Nw B S' ∧ X ++ (r.filter fun x => spotOk m p ts e x.1.w) = (L.filter fun x => spotOk m p ts e x.1.w)) ?_ ?_ _ FU _ _ S (PS.ref (n := k6) (L.map spD)) (by rw [FU_eq, List.length_map]; omega) ⟨L, [], _, _, _, _, rfl, hL, rfl, h3, h6, h7, hB, rfl⟩
  · rintro d r env S' ⟨r', X, a8, a9, a11, a12, e1, e2, rfl, e3, e4, e5, e6, e7⟩
    cases r' with
    | nil => simp [initE, List.replicate, retS, retN, seqS, asgS, exprS, ifS, parS, skipS, setAll, varE, cstE, nilL, consL, tupE, mkL, un1, bin2, andE, orE, ifE, chainE, boolT, truthT, notT, andT, orT, yesT, callE, nameG, tupG, consG, nilG, itemsD, opNot, opAdd, opSub, opDiv, opMod, opNeg, opLt, opLe, opGt, opGe, opIsNot, opIs, ltD, leD, truth, at_nat, at_0, at_1, at_2, at_3, at_4, opIx, fLen, coreE, coreL, opIsi, isTy, opAbs, opMin, opInt, opMul, is_nn, is_nt, is_nr, is_nb, is_ni, is_ntm, is_nst] at e1
    | cons x r' =>
      simp only [List.map_cons, List.cons.injEq] at e1
      obtain ⟨rfl, rfl⟩ := e1
      refine ⟨e4, _, _, rfl, ?_⟩
      obtain ⟨w0, ws⟩ := e2 x List.mem_cons_self
      have hq : ∀ q ∈ ts, ok64 (q + x.1.w) := fun q hq => ((hs.t q hq).2.add ws).mono (by decide) (by decide)
      have hl := lafter_t n m p ts x.1.w S' hm hs.ok (sm_ok ws (by decide) (by decide)) w0 hq
      obtain ⟨dd, hd1, hd2⟩ := ledged_t (n + 2) m p (ts.map (· + x.1.w)) e S' hm (by rw [List.length_map]; exact hs.l) he (fun q hq' => by
        obtain ⟨y, hy, rfl⟩ := List.mem_map.mp hq'
        exact hq y hy)
      have hXl : X.length ≤ 1000 := by
        have h1 := congrArg List.length e7
        rw [List.length_append] at h1
        have := List.length_filter_le (fun x => spotOk m p ts e x.1.w) L
        omega
      have hsz : Ev.sizeOk (X.length + 1) = true := by unfold Ev.sizeOk; rw [Nat.ble_eq]; omega
      have hi : k7 < S'.objs.length := (List.getElem?_eq_some_iff.mp e5).1
      unfold fb__law_opens_4
      have keep : ∀ a12, spotOk m p ts e x.1.w = false → ∃ (r X1 : List (Sp × Nat)) (x8 x9 x11 x12 : Option D), r'.map spD = r.map spD ∧ (∀ x ∈ r, 0 ≤ x.1.w ∧ Sm 728 32 x.1.w) ∧ oE m.d (std p ts) (.int e) (some (.ref k3)) x4 x5 (some (.ref k6)) (some (.ref k7)) (some (.int x.2)) (some (tm x.1.w)) x10 (some (.bl x.1.m)) a12 x13 x14 x15 x16 x17 x18 x19 x20 x21 x22 x23 x24 = oE m.d (std p ts) (.int e) (some (.ref k3)) x4 x5 (some (.ref k6)) (some (.ref k7)) x8 x9 x10 x11 x12 x13 x14 x15 x16 x17 x18 x19 x20 x21 x22 x23 x24 ∧ S'.objs[k3]? = some (.lst (Z.map tm)) ∧ S'.objs[k6]? = some (.lst (L.map spD)) ∧ S'.objs[k7]? = some (.lst (X1.map gspD)) ∧ Nw B S' ∧ X1 ++ (r.filter fun x => spotOk m p ts e x.1.w) = (L.filter fun x => spotOk m p ts e x.1.w) := fun a12 hno =>
        ⟨r', X, _, _, _, _, rfl, fun y hy => e2 y (List.mem_cons_of_mem _ hy), rfl, e3, e4, e5, e6, by rw [← e7, List.filter_cons, hno]; rfl⟩
      unfold afterL at hl
      cases h1 : letIn m p (ts.map (· + x.1.w))
      · rw [h1] at hl
        refine Wp.of (a := .nx (oE m.d (std p ts) (.int e) (some (.ref k3)) x4 x5 (some (.ref k6)) (some (.ref k7)) (some (.int x.2)) (some (tm x.1.w)) x10 (some (.bl x.1.m)) (some .non) x13 x14 x15 x16 x17 x18 x19 x20 x21 x22 x23 x24)) (S := S') ?_ (keep _ (by unfold spotOk; rw [h1]; rfl))
        simp [initE, List.replicate, retS, retN, seqS, asgS, exprS, ifS, parS, skipS, setAll, varE, cstE, nilL, consL, tupE, mkL, un1, bin2, andE, orE, ifE, chainE, boolT, truthT, notT, andT, orT, yesT, callE, nameG, tupG, consG, nilG, itemsD, opNot, opAdd, opSub, opDiv, opMod, opNeg, opLt, opLe, opGt, opGe, opIsNot, opIs, ltD, leD, truth, at_nat, at_0, at_1, at_2, at_3, at_4, opIx, fLen, coreE, coreL, opIsi, isTy, opAbs, opMin, opInt, opMul, is_nn, is_nt, is_nr, is_nb, is_ni, is_ntm, is_nst] at hl
        simp -implicitDefEqProofs [initE, List.replicate, retS, retN, seqS, asgS, exprS, ifS, parS, skipS, setAll, varE, cstE, nilL, consL, tupE, mkL, un1, bin2, andE, orE, ifE, chainE, boolT, truthT, notT, andT, orT, yesT, callE, nameG, tupG, consG, nilG, itemsD, opNot, opAdd, opSub, opDiv, opMod, opNeg, opLt, opLe, opGt, opGe, opIsNot, opIs, ltD, leD, truth, at_nat, at_0, at_1, at_2, at_3, at_4, opIx, fLen, coreE, coreL, opIsi, isTy, opAbs, opMin, opInt, opMul, is_nn, is_nt, is_nr, is_nb, is_ni, is_ntm, is_nst, hl]
      · rw [h1] at hl
        simp [initE, List.replicate, retS, retN, seqS, asgS, exprS, ifS, parS, skipS, setAll, varE, cstE, nilL, consL, tupE, mkL, un1, bin2, andE, orE, ifE, chainE, boolT, truthT, notT, andT, orT, yesT, callE, nameG, tupG, consG, nilG, itemsD, opNot, opAdd, opSub, opDiv, opMod, opNeg, opLt, opLe, opGt, opGe, opIsNot, opIs, ltD, leD, truth, at_nat, at_0, at_1, at_2, at_3, at_4, opIx, fLen, coreE, coreL, opIsi, isTy, opAbs, opMin, opInt, opMul, is_nn, is_nt, is_nr, is_nb, is_ni, is_ntm, is_nst] at hl
        cases h2 : edgedL m p (ts.map (· + x.1.w)) e
        · rw [h2] at hd2
          refine Wp.of (a := .nx (oE m.d (std p ts) (.int e) (some (.ref k3)) x4 x5 (some (.ref k6)) (some (.ref k7)) (some (.int x.2)) (some (tm x.1.w)) x10 (some (.bl x.1.m)) (some (std p (ts.map (· + x.1.w)))) x13 x14 x15 x16 x17 x18 x19 x20 x21 x22 x23 x24)) (S := S') ?_ (keep _ (by unfold spotOk; rw [h1, h2]; rfl))
          simp -implicitDefEqProofs [initE, List.replicate, retS, retN, seqS, asgS, exprS, ifS, parS, skipS, setAll, varE, cstE, nilL, consL, tupE, mkL, un1, bin2, andE, orE, ifE, chainE, boolT, truthT, notT, andT, orT, yesT, callE, nameG, tupG, consG, nilG, itemsD, opNot, opAdd, opSub, opDiv, opMod, opNeg, opLt, opLe, opGt, opGe, opIsNot, opIs, ltD, leD, truth, at_nat, at_0, at_1, at_2, at_3, at_4, opIx, fLen, coreE, coreL, opIsi, isTy, opAbs, opMin, opInt, opMul, is_nn, is_nt, is_nr, is_nb, is_ni, is_ntm, is_nst, hl, hd1, hd2]
        · rw [h2] at hd2
          have hok : spotOk m p ts e x.1.w = true := by unfold spotOk; rw [h1, h2]; rfl
          refine Wp.of (a := .nx (oE m.d (std p ts) (.int e) (some (.ref k3)) x4 x5 (some (.ref k6)) (some (.ref k7)) (some (.int x.2)) (some (tm x.1.w)) x10 (some (.bl x.1.m)) (some (std p (ts.map (· + x.1.w)))) x13 x14 x15 x16 x17 x18 x19 x20 x21 x22 x23 x24)) (S := S'.set k7 (.lst ((X ++ [x]).map gspD))) ?_ ?_
          · simp -implicitDefEqProofs [initE, List.replicate, retS, retN, seqS, asgS, exprS, ifS, parS, skipS, setAll, varE, cstE, nilL, consL, tupE, mkL, un1, bin2, andE, orE, ifE, chainE, boolT, truthT, notT, andT, orT, yesT, callE, nameG, tupG, consG, nilG, itemsD, opNot, opAdd, opSub, opDiv, opMod, opNeg, opLt, opLe, opGt, opGe, opIsNot, opIs, ltD, leD, truth, at_nat, at_0, at_1, at_2, at_3, at_4, opIx, fLen, coreE, coreL, opIsi, isTy, opAbs, opMin, opInt, opMul, is_nn, is_nt, is_nr, is_nb, is_ni, is_ntm, is_nst, hl, hd1, hd2, appE, e5, opAppend, hsz, gspD]
          · refine ⟨r', X ++ [x], _, _, _, _, rfl, fun y hy => e2 y (List.mem_cons_of_mem _ hy), rfl, ?_, ?_, ?_, e6.set hk hi _, ?_⟩
            · show (S'.objs.set k7 _)[k3]? = _
              rw [List.getElem?_set_ne (Ne.symm n3)]; exact e3
            · show (S'.objs.set k7 _)[k6]? = _
              rw [List.getElem?_set_ne (Ne.symm n6)]; exact e4
            · show (S'.objs.set k7 _)[k7]? = _
              rw [List.getElem?_set_self hi]
            · rw [← e7, List.filter_cons, hok]; simp [initE, List.replicate, retS, retN, seqS, asgS, exprS, ifS, parS, skipS, setAll, varE, cstE, nilL, consL, tupE, mkL, un1, bin2, andE, orE, ifE, chainE, boolT, truthT, notT, andT, orT, yesT, callE, nameG, tupG, consG, nilG, itemsD, opNot, opAdd, opSub, opDiv, opMod, opNeg, opLt, opLe, opGt, opGe, opIsNot, opIs, ltD, leD, truth, at_nat, at_0, at_1, at_2, at_3, at_4, opIx, fLen, coreE, coreL, opIsi, isTy, opAbs, opMin, opInt, opMul, is_nn, is_nt, is_nr, is_nb, is_ni, is_ntm, is_nst]
  · rintro env S' ⟨r', X, a8, a9, a11, a12, e1, e2, rfl, e3, e4, e5, e6, e7⟩
    have : r' = [] := by cases r' with
      | nil => rfl
      | cons x r' => simp [initE, List.replicate, retS, retN, seqS, asgS, exprS, ifS, parS, skipS, setAll, varE, cstE, nilL, consL, tupE, mkL, un1, bin2, andE, orE, ifE, chainE, boolT, truthT, notT, andT, orT, yesT, callE, nameG, tupG, consG, nilG, itemsD, opNot, opAdd, opSub, opDiv, opMod, opNeg, opLt, opLe, opGt, opGe, opIsNot, opIs, ltD, leD, truth, at_nat, at_0, at_1, at_2, at_3, at_4, opIx, fLen, coreE, coreL, opIsi, isTy, opAbs, opMin, opInt, opMul, is_nn, is_nt, is_nr, is_nb, is_ni, is_ntm, is_nst] at e1
    subst this
    refine ⟨e4, a8, a9, a11, a12, rfl, e3, ?_, e6⟩
    rw [e5, ← e7]
    simp [initE, List.replicate, retS, retN, seqS, asgS, exprS, ifS, parS, skipS, setAll, varE, cstE, nilL, consL, tupE, mkL, un1, bin2, andE, orE, ifE, chainE, boolT, truthT, notT, andT, orT, yesT, callE, nameG, tupG, consG, nilG, itemsD, opNot, opAdd, opSub, opDiv, opMod, opNeg, opLt, opLe, opGt, opGe, opIsNot, opIs, ltD, leD, truth, at_nat, at_0, at_1, at_2, at_3, at_4, opIx, fLen, coreE, coreL, opIsi, isTy, opAbs, opMin, opInt, opMul, is_nn, is_nt, is_nr, is_nb, is_ni, is_ntm, is_nst]
end
end K81
set_option Elab.async false
set_option linter.all false
set_option maxRecDepth 100000
set_option maxHeartbeats 4000000
namespace K81
open PySem Ev
theorem seq_nx {a b : SF} {env env1 : Ev.Env} {S S1 : Store} (h : a env S = .ok (.nx env1) S1) : seqS a b env S = b env1 S1 := by
  unfold Ev.seqS; rw [h]; rfl
def fKey : D → D
  | .tup [.int a, .int b] => .tup [.int (a * 420 / b), .tup [.int a, .int b]]
  | d => d
def fOwn : D → D
  | .tup [_, x] => x
  | d => d
section
variable (A St E : D) (x3 x4 x5 x6 x7 x8 x9 x10 x11 x12 x13 x14 x15 x16 x17 x18 x19 x20 x21 x22 x23 x24 : Option D)
theorem okeys (n k : Nat) (M : List Rat) (S : Store) (hk : S.objs[k]? = some (.lst (M.map tm))) (hM : ∀ q ∈ M, Sm 91 4 q) (hl : M.length ≤ 100) : lc__law_opens_1 (ev n) (oE A St E (some (.ref k)) x4 x5 x6 x7 x8 x9 x10 x11 x12 x13 x14 x15 x16 x17 x18 x19 x20 x21 x22 x23 x24) S = .ok (M.map keyQ) S := by
  have e0 : valI (varE 3) (oE A St E (some (.ref k)) x4 x5 x6 x7 x8 x9 x10 x11 x12 x13 x14 x15 x16 x17 x18 x19 x20 x21 x22 x23 x24) S = .ok (.ref k 0) S := by
    unfold valI varE oE srcOf
    simp only [List.getElem?_cons_succ, List.getElem?_cons_zero, bind_ok, hk, ofO_some]
  unfold lc__law_opens_1
  rw [lcL_src e0]
  rw [lc_map fKey hk _ FU _ (PS.ref (n := k) (M.map tm)) (by rw [FU_eq, List.length_map]; omega) ?_]
  · rw [List.map_map]; rfl
  · intro d hd
    obtain ⟨q, hq, rfl⟩ := List.mem_map.mp hd
    have h1 : mulOk q.num 420 = true := mulOk_r (by decide)
    have h2 : divOk (q.den : Int) = true := divOk_s (by have := q.den_pos; omega) (by rw [Int.natAbs_natCast]; have := (hM q hq).2; omega)
    refine ⟨_, rfl, rfl, ?_⟩
    simp -implicitDefEqProofs [initE, List.replicate, retS, retN, seqS, asgS, exprS, ifS, parS, skipS, setAll, varE, cstE, nilL, consL, tupE, mkL, un1, bin2, andE, orE, ifE, chainE, boolT, truthT, notT, andT, orT, yesT, callE, nameG, tupG, consG, nilG, itemsD, opNot, opAdd, opSub, opDiv, opMod, opNeg, opLt, opLe, opGt, opGe, opIsNot, opIs, ltD, leD, truth, at_nat, at_0, at_1, at_2, at_3, at_4, opIx, fLen, coreE, coreL, opIsi, isTy, opAbs, opMin, opInt, opMul, is_nn, is_nt, is_nr, is_nb, is_ni, is_ntm, is_nst, wipeE, h1, h2, fKey, tm]
theorem oowns (n k : Nat) (Z : List Rat) (S : Store) (hk : S.objs[k]? = some (.lst (Z.map keyQ))) (hl : Z.length ≤ 100) : lc__law_opens_2 (ev n) (oE A St E x3 x4 (some (.ref k)) x6 x7 x8 x9 x10 x11 x12 x13 x14 x15 x16 x17 x18 x19 x20 x21 x22 x23 x24) S = .ok (Z.map tm) S := by
  have e0 : valI (varE 5) (oE A St E x3 x4 (some (.ref k)) x6 x7 x8 x9 x10 x11 x12 x13 x14 x15 x16 x17 x18 x19 x20 x21 x22 x23 x24) S = .ok (.ref k 0) S := by
    unfold valI varE oE srcOf
    simp only [List.getElem?_cons_succ, List.getElem?_cons_zero, bind_ok, hk, ofO_some]
  unfold lc__law_opens_2
  rw [lcL_src e0]
  rw [lc_map fOwn hk _ FU _ (PS.ref (n := k) (Z.map keyQ)) (by rw [FU_eq, List.length_map]; omega) ?_]
  · rw [List.map_map]; rfl
  · intro d hd
    obtain ⟨q, hq, rfl⟩ := List.mem_map.mp hd
    refine ⟨_, rfl, rfl, ?_⟩
    simp -implicitDefEqProofs [initE, List.replicate, retS, retN, seqS, asgS, exprS, ifS, parS, skipS, setAll, varE, cstE, nilL, consL, tupE, mkL, un1, bin2, andE, orE, ifE, chainE, boolT, truthT, notT, andT, orT, yesT, callE, nameG, tupG, consG, nilG, itemsD, opNot, opAdd, opSub, opDiv, opMod, opNeg, opLt, opLe, opGt, opGe, opIsNot, opIs, ltD, leD, truth, at_nat, at_0, at_1, at_2, at_3, at_4, opIx, fLen, coreE, coreL, opIsi, isTy, opAbs, opMin, opInt, opMul, is_nn, is_nt, is_nr, is_nb, is_ni, is_ntm, is_nst, wipeE, fOwn, keyQ]
end
def gp (x : Sp × Nat) : PyData := .tuple [.int x.2, .bool x.1.m]
theorem pys_g : ∀ L : List (Sp × Nat), pyOfs (L.map gspD) = some (L.map gp)
  | [] => rfl
  | x :: L => by
    show (match pyOf (gspD x), pyOfs (L.map gspD) with | some x, some xs => some (x :: xs) | _, _ => none) = _
    rw [pys_g L]; rfl
theorem eq_lists {S : Store} {a b : Nat} {xs : List D} {ps : List PyData} (ha : S.objs[a]? = some (.lst xs)) (hb : S.objs[b]? = some (.lst [])) (hx : pyOfs xs = some ps) : opEq (.ref a) (.ref b) S = .ok (.bl ps.isEmpty) S := by
  have e : eqD S (.ref a) (.ref b) = some ps.isEmpty := by
    show eqPy (pyAt S (.ref a)) (pyAt S (.ref b)) = _
    have h1 : pyAt S (.ref a) = some (.list ps) := by
      unfold pyAt
      simp only [ha, hx, Option.map_some]
    have h2 : pyAt S (.ref b) = some (.list []) := by
      unfold pyAt
      simp only [hb]
      rfl
    rw [h1, h2]
    unfold eqPy
    have h3 : shallow (.list ps) (.list []) = true := by
      unfold shallow
      rw [Nat.ble_eq]
      exact Nat.le_trans (Nat.min_le_right _ _) (by decide)
    simp only [h3, if_true]
    cases ps <;> rfl
  unfold opEq; rw [e]
theorem at_last (xs : List D) : atD xs (-1) = xs.getLast? := by
  unfold atD ixD
  rw [if_neg (by decide)]
  cases xs with
  | nil => rfl
  | cons x xs =>
    rw [if_pos (by simp [initE, List.replicate, retS, retN, seqS, asgS, exprS, ifS, parS, skipS, setAll, varE, cstE, nilL, consL, tupE, mkL, un1, bin2, andE, orE, ifE, chainE, boolT, truthT, notT, andT, orT, yesT, callE, nameG, tupG, consG, nilG, itemsD, opNot, opAdd, opSub, opDiv, opMod, opNeg, opLt, opLe, opGt, opGe, opIsNot, opIs, ltD, leD, truth, at_nat, at_0, at_1, at_2, at_3, at_4, opIx, fLen, coreE, coreL, opIsi, isTy, opAbs, opMin, opInt, opMul, is_nn, is_nt, is_nr, is_nb, is_ni, is_ntm, is_nst]; omega)]
    simp only [List.length_cons]
    rw [show ((-1 : Int) + ((xs.length + 1 : Nat) : Int)).toNat = xs.length by omega, List.getLast?_eq_getElem?]
    rfl
theorem opens_t (n : Nat) (m : Mc) (p : Nat) (ts : List Rat) (e : Nat) (S : Store) (hm : McOk m) (hs : StS m p ts) (he : e < m.es.length) : ev (n + 5) j__law_opens [m.d, std p ts, .int e] S = .ok (waitD (waitsP m p ts e)) S := by
  rw [u__law_opens]
  refine run_pure rfl (flat_waitD _) ?_
  have hx := edge_ok m e hm he
  obtain ⟨a1, a2, _⟩ := stay_ok m p hm hs.p
  obtain ⟨b1, b2, _⟩ := stay_ok m (m.edge e).t hm hx.t
  obtain ⟨hMo, hMl⟩ := allMoms_ok hm hs he
  have e0 : initE 25 [m.d, std p ts, .int e] = oE m.d (std p ts) (.int e) none none none none none none none none none none none none none none none none none none none none none none := rfl
  rw [e0]
  unfold b__law_opens
  rw [seq_nx (show asgS (nameG 3) (mkL (consL (tupE (consL (cstE (.int (0))) (consL (cstE (.int (1))) nilL))) nilL)) (oE m.d (std p ts) (.int e) none none none none none none none none none none none none none none none none none none none none none none) ⟨S.objs, []⟩ = .ok (.nx (oE m.d (std p ts) (.int e) (some (.ref S.objs.length)) none none none none none none none none none none none none none none none none none none none none none)) ⟨S.objs ++ [.lst [tm 0]], []⟩ from rfl)]
  have hB1 : Nw S.objs ⟨S.objs ++ [.lst [tm 0]], []⟩ := (Nw.refl S.objs).alloc _
  have hst : tupE (consL (bin2 opIx (bin2 opIx (varE 0) (cstE (.int (2)))) (bin2 opIx (varE 1) (cstE (.int (0))))) (consL (bin2 opIx (bin2 opIx (bin2 opIx (varE 0) (cstE (.int (3)))) (varE 2)) (cstE (.int (3)))) (consL (bin2 opIx (bin2 opIx (varE 0) (cstE (.int (2)))) (bin2 opIx (bin2 opIx (bin2 opIx (varE 0) (cstE (.int (3)))) (varE 2)) (cstE (.int (1))))) nilL))) (oE m.d (std p ts) (.int e) (some (.ref S.objs.length)) none none none none none none none none none none none none none none none none none none none none none) ⟨S.objs ++ [.lst [tm 0]], []⟩ = .ok (.tup ([m.stay p, (m.edge e).g, m.stay (m.edge e).t].map dms)) ⟨S.objs ++ [.lst [tm 0]], []⟩ := by
    simp -implicitDefEqProofs [initE, List.replicate, retS, retN, seqS, asgS, exprS, ifS, parS, skipS, setAll, varE, cstE, nilL, consL, tupE, mkL, un1, bin2, andE, orE, ifE, chainE, boolT, truthT, notT, andT, orT, yesT, callE, nameG, tupG, consG, nilG, itemsD, opNot, opAdd, opSub, opDiv, opMod, opNeg, opLt, opLe, opGt, opGe, opIsNot, opIs, ltD, leD, truth, at_nat, at_0, at_1, at_2, at_3, at_4, opIx, fLen, coreE, coreL, opIsi, isTy, opAbs, opMin, opInt, opMul, is_nn, is_nt, is_nr, is_nb, is_ni, is_ntm, is_nst, Mc.d, std, stay_get m p hm hs.p, edge_get m e he, Ed.d, stay_get m (m.edge e).t hm hx.t]
  refine Wp.elim (olists (B := S.objs) (n + 2) hs m.d (.int e) S.objs.length [m.stay p, (m.edge e).g, m.stay (m.edge e).t] none none none none none none none none none none none none none none none none none none none none none [0] ⟨S.objs ++ [.lst [tm 0]], []⟩ (by simp [initE, List.replicate, retS, retN, seqS, asgS, exprS, ifS, parS, skipS, setAll, varE, cstE, nilL, consL, tupE, mkL, un1, bin2, andE, orE, ifE, chainE, boolT, truthT, notT, andT, orT, yesT, callE, nameG, tupG, consG, nilG, itemsD, opNot, opAdd, opSub, opDiv, opMod, opNeg, opLt, opLe, opGt, opGe, opIsNot, opIs, ltD, leD, truth, at_nat, at_0, at_1, at_2, at_3, at_4, opIx, fLen, coreE, coreL, opIsi, isTy, opAbs, opMin, opInt, opMul, is_nn, is_nt, is_nr, is_nb, is_ni, is_ntm, is_nst]) hB1 (fun l hl => by
    simp only [List.mem_cons, List.not_mem_nil, or_false] at hl
    rcases hl with rfl | rfl | rfl
    · exact ⟨by omega, a1.each⟩
    · exact ⟨hx.gl, hx.g.each⟩
    · exact ⟨by omega, b1.each⟩) (by simp [initE, List.replicate, retS, retN, seqS, asgS, exprS, ifS, parS, skipS, setAll, varE, cstE, nilL, consL, tupE, mkL, un1, bin2, andE, orE, ifE, chainE, boolT, truthT, notT, andT, orT, yesT, callE, nameG, tupG, consG, nilG, itemsD, opNot, opAdd, opSub, opDiv, opMod, opNeg, opLt, opLe, opGt, opGe, opIsNot, opIs, ltD, leD, truth, at_nat, at_0, at_1, at_2, at_3, at_4, opIx, fLen, coreE, coreL, opIsi, isTy, opAbs, opMin, opInt, opMul, is_nn, is_nt, is_nr, is_nb, is_ni, is_ntm, is_nst]) hst) ?_
  rintro f S2 r2 ⟨k', x4, x10, x14, x15, x16, x21, x22, rfl, hk', hN2⟩
  rw [seq_nx r2]
  have hMM : [m.stay p, (m.edge e).g, m.stay (m.edge e).t].foldl (fun M l => moms ts l M) [0] = allMoms m p ts e := rfl
  rw [hMM] at hk'
  obtain ⟨Z, z1, z2, z3, z4⟩ := sort_key hMo (by omega)
  have z5 : ∀ q ∈ Z, 0 ≤ q ∧ Sm 91 4 q := fun q hq => ⟨hMo.pos q ((z2 q).mp hq), hMo.sm q ((z2 q).mp hq)⟩
  have zl : Z.length ≤ 20 := by omega
  rw [seq_nx (env1 := oE m.d (std p ts) (.int e) (some (.ref k')) x4 (some (.ref S2.objs.length)) none none none none x10 none none none x14 x15 x16 none none none none x21 x22 none none) (S1 := ⟨S2.objs ++ [.lst (Z.map keyQ)], S2.dirty⟩) (by
    have h1 := okeys m.d (std p ts) (.int e) x4 none none none none none x10 none none none x14 x15 x16 none none none none x21 x22 none none (n + 4) k' (allMoms m p ts e) S2 hk' hMo.sm (by omega)
    simp -implicitDefEqProofs [initE, List.replicate, retS, retN, seqS, asgS, exprS, ifS, parS, skipS, setAll, varE, cstE, nilL, consL, tupE, mkL, un1, bin2, andE, orE, ifE, chainE, boolT, truthT, notT, andT, orT, yesT, callE, nameG, tupG, consG, nilG, itemsD, opNot, opAdd, opSub, opDiv, opMod, opNeg, opLt, opLe, opGt, opGe, opIsNot, opIs, ltD, leD, truth, at_nat, at_0, at_1, at_2, at_3, at_4, opIx, fLen, coreE, coreL, opIsi, isTy, opAbs, opMin, opInt, opMul, is_nn, is_nt, is_nr, is_nb, is_ni, is_ntm, is_nst, sortL, h1, z1])]
  have h5 : (S2.objs ++ [O.lst (Z.map keyQ)])[S2.objs.length]? = some (.lst (Z.map keyQ)) := by simp [initE, List.replicate, retS, retN, seqS, asgS, exprS, ifS, parS, skipS, setAll, varE, cstE, nilL, consL, tupE, mkL, un1, bin2, andE, orE, ifE, chainE, boolT, truthT, notT, andT, orT, yesT, callE, nameG, tupG, consG, nilG, itemsD, opNot, opAdd, opSub, opDiv, opMod, opNeg, opLt, opLe, opGt, opGe, opIsNot, opIs, ltD, leD, truth, at_nat, at_0, at_1, at_2, at_3, at_4, opIx, fLen, coreE, coreL, opIsi, isTy, opAbs, opMin, opInt, opMul, is_nn, is_nt, is_nr, is_nb, is_ni, is_ntm, is_nst]
  rw [seq_nx (env1 := oE m.d (std p ts) (.int e) (some (.ref (S2.objs.length + 1))) x4 (some (.ref S2.objs.length)) none none none none x10 none none none x14 x15 x16 none none none none x21 x22 none none) (S1 := ⟨S2.objs ++ [.lst (Z.map keyQ)] ++ [.lst (Z.map tm)], S2.dirty⟩) (by
    have h1 := oowns m.d (std p ts) (.int e) (some (.ref k')) x4 none none none none x10 none none none x14 x15 x16 none none none none x21 x22 none none (n + 4) S2.objs.length Z ⟨S2.objs ++ [.lst (Z.map keyQ)], S2.dirty⟩ h5 (by omega)
    simp -implicitDefEqProofs [initE, List.replicate, retS, retN, seqS, asgS, exprS, ifS, parS, skipS, setAll, varE, cstE, nilL, consL, tupE, mkL, un1, bin2, andE, orE, ifE, chainE, boolT, truthT, notT, andT, orT, yesT, callE, nameG, tupG, consG, nilG, itemsD, opNot, opAdd, opSub, opDiv, opMod, opNeg, opLt, opLe, opGt, opGe, opIsNot, opIs, ltD, leD, truth, at_nat, at_0, at_1, at_2, at_3, at_4, opIx, fLen, coreE, coreL, opIsi, isTy, opAbs, opMin, opInt, opMul, is_nn, is_nt, is_nr, is_nb, is_ni, is_ntm, is_nst, h1])]
  rw [seq_nx (env1 := oE m.d (std p ts) (.int e) (some (.ref (S2.objs.length + 1))) x4 (some (.ref S2.objs.length)) (some (.ref (S2.objs.length + 2))) none none none x10 none none none x14 x15 x16 none none none none x21 x22 none none) (S1 := ⟨S2.objs ++ [.lst (Z.map keyQ)] ++ [.lst (Z.map tm)] ++ [.lst []], S2.dirty⟩) (by
    simp -implicitDefEqProofs [initE, List.replicate, retS, retN, seqS, asgS, exprS, ifS, parS, skipS, setAll, varE, cstE, nilL, consL, tupE, mkL, un1, bin2, andE, orE, ifE, chainE, boolT, truthT, notT, andT, orT, yesT, callE, nameG, tupG, consG, nilG, itemsD, opNot, opAdd, opSub, opDiv, opMod, opNeg, opLt, opLe, opGt, opGe, opIsNot, opIs, ltD, leD, truth, at_nat, at_0, at_1, at_2, at_3, at_4, opIx, fLen, coreE, coreL, opIsi, isTy, opAbs, opMin, opInt, opMul, is_nn, is_nt, is_nr, is_nb, is_ni, is_ntm, is_nst])]
  have hN5 : Nw S.objs ⟨S2.objs ++ [.lst (Z.map keyQ)] ++ [.lst (Z.map tm)] ++ [.lst []], S2.dirty⟩ := ((hN2.alloc _).alloc _).alloc _
  refine Wp.elim (ospots (B := S.objs) (n + 1) m.d (std p ts) (.int e) (S2.objs.length + 1) (S2.objs.length + 2) x4 (some (.ref S2.objs.length)) none none none x10 none none none x14 x15 x16 none none none none x21 x22 none none Z z5 (by omega) ⟨S2.objs ++ [.lst (Z.map keyQ)] ++ [.lst (Z.map tm)] ++ [.lst []], S2.dirty⟩ (by simp [initE, List.replicate, retS, retN, seqS, asgS, exprS, ifS, parS, skipS, setAll, varE, cstE, nilL, consL, tupE, mkL, un1, bin2, andE, orE, ifE, chainE, boolT, truthT, notT, andT, orT, yesT, callE, nameG, tupG, consG, nilG, itemsD, opNot, opAdd, opSub, opDiv, opMod, opNeg, opLt, opLe, opGt, opGe, opIsNot, opIs, ltD, leD, truth, at_nat, at_0, at_1, at_2, at_3, at_4, opIx, fLen, coreE, coreL, opIsi, isTy, opAbs, opMin, opInt, opMul, is_nn, is_nt, is_nr, is_nb, is_ni, is_ntm, is_nst]) (by simp [initE, List.replicate, retS, retN, seqS, asgS, exprS, ifS, parS, skipS, setAll, varE, cstE, nilL, consL, tupE, mkL, un1, bin2, andE, orE, ifE, chainE, boolT, truthT, notT, andT, orT, yesT, callE, nameG, tupG, consG, nilG, itemsD, opNot, opAdd, opSub, opDiv, opMod, opNeg, opLt, opLe, opGt, opGe, opIsNot, opIs, ltD, leD, truth, at_nat, at_0, at_1, at_2, at_3, at_4, opIx, fLen, coreE, coreL, opIsi, isTy, opAbs, opMin, opInt, opMul, is_nn, is_nt, is_nr, is_nb, is_ni, is_ntm, is_nst]) hN5) ?_
  rintro f S6 r6 ⟨k6, x8, x9, x10', rfl, g6, g3, hN6⟩
  rw [seq_nx r6]
  rw [seq_nx (env1 := oE m.d (std p ts) (.int e) (some (.ref (S2.objs.length + 1))) x4 (some (.ref S2.objs.length)) (some (.ref k6)) (some (.ref S6.objs.length)) x8 x9 x10' none none none x14 x15 x16 none none none none x21 x22 none none) (S1 := ⟨S6.objs ++ [.lst []], S6.dirty⟩) (by
    simp -implicitDefEqProofs [initE, List.replicate, retS, retN, seqS, asgS, exprS, ifS, parS, skipS, setAll, varE, cstE, nilL, consL, tupE, mkL, un1, bin2, andE, orE, ifE, chainE, boolT, truthT, notT, andT, orT, yesT, callE, nameG, tupG, consG, nilG, itemsD, opNot, opAdd, opSub, opDiv, opMod, opNeg, opLt, opLe, opGt, opGe, opIsNot, opIs, ltD, leD, truth, at_nat, at_0, at_1, at_2, at_3, at_4, opIx, fLen, coreE, coreL, opIsi, isTy, opAbs, opMin, opInt, opMul, is_nn, is_nt, is_nr, is_nb, is_ni, is_ntm, is_nst])]
  have l3 := (List.getElem?_eq_some_iff.mp g3).1
  have l6 := (List.getElem?_eq_some_iff.mp g6).1
  refine Wp.elim (ogood (B := S.objs) n hm hs e he (S2.objs.length + 1) k6 S6.objs.length x4 (some (.ref S2.objs.length)) x8 x9 x10' none none none x14 x15 x16 none none none none x21 x22 none none Z (spI 0 Z) (spI_sm z5) (by rw [spI_len]; omega) ⟨S6.objs ++ [.lst []], S6.dirty⟩ (by rw [List.getElem?_append_left l3]; exact g3) (by rw [List.getElem?_append_left l6]; exact g6) (by simp [initE, List.replicate, retS, retN, seqS, asgS, exprS, ifS, parS, skipS, setAll, varE, cstE, nilL, consL, tupE, mkL, un1, bin2, andE, orE, ifE, chainE, boolT, truthT, notT, andT, orT, yesT, callE, nameG, tupG, consG, nilG, itemsD, opNot, opAdd, opSub, opDiv, opMod, opNeg, opLt, opLe, opGt, opGe, opIsNot, opIs, ltD, leD, truth, at_nat, at_0, at_1, at_2, at_3, at_4, opIx, fLen, coreE, coreL, opIsi, isTy, opAbs, opMin, opInt, opMul, is_nn, is_nt, is_nr, is_nb, is_ni, is_ntm, is_nst]) (by omega) (by omega) hN6.len (hN6.alloc _)) ?_
  rintro f S8 r8 ⟨y8, y9, y11, y12, rfl, q3, q7, hN8⟩
  rw [seq_nx r8]
  have tell := opens_tell hm hs he z2 z3
  have hfm : ((spI 0 Z).filter fun x => spotOk m p ts e x.1.w).map Prod.fst = (sp Z).filter fun s => spotOk m p ts e s.w := by
    rw [← spI_fst 0 Z, List.filter_map]; rfl
  generalize hG : ((spI 0 Z).filter fun x => spotOk m p ts e x.1.w) = Gs at *
  have hGm : ∀ x ∈ Gs, (Z)[x.2]? = some x.1.st ∧ Z[x.2 + 1]? = x.1.nx := fun x hx => by
    rw [← hG] at hx
    exact spI_ix Z [] x (List.mem_filter.mp hx).1
  have hb : (S8.objs ++ [O.lst []])[S8.objs.length]? = some (.lst []) := by simp [initE, List.replicate, retS, retN, seqS, asgS, exprS, ifS, parS, skipS, setAll, varE, cstE, nilL, consL, tupE, mkL, un1, bin2, andE, orE, ifE, chainE, boolT, truthT, notT, andT, orT, yesT, callE, nameG, tupG, consG, nilG, itemsD, opNot, opAdd, opSub, opDiv, opMod, opNeg, opLt, opLe, opGt, opGe, opIsNot, opIs, ltD, leD, truth, at_nat, at_0, at_1, at_2, at_3, at_4, opIx, fLen, coreE, coreL, opIsi, isTy, opAbs, opMin, opInt, opMul, is_nn, is_nt, is_nr, is_nb, is_ni, is_ntm, is_nst]
  have q7' : (S8.objs ++ [O.lst []])[S6.objs.length]? = some (.lst (Gs.map gspD)) := by
    rw [List.getElem?_append_left (List.getElem?_eq_some_iff.mp q7).1]; exact q7
  have q3' : (S8.objs ++ [O.lst []])[S2.objs.length + 1]? = some (.lst (Z.map tm)) := by
    rw [List.getElem?_append_left (List.getElem?_eq_some_iff.mp q3).1]; exact q3
  have heq := eq_lists (S := ⟨S8.objs ++ [.lst []], S8.dirty⟩) q7' hb (pys_g Gs)
  have hN9 : Nw S.objs ⟨S8.objs ++ [.lst []], S8.dirty⟩ := hN8.alloc _
  cases hw : waitsP m p ts e with
  | none =>
    rw [hw] at tell
    simp only at tell
    have hGn : Gs = [] := by
      rw [tell] at hfm
      exact List.map_eq_nil_iff.mp hfm
    subst hGn
    refine Wp.of (a := .rt .non) (S := ⟨S8.objs ++ [.lst []], S8.dirty⟩) ?_ ⟨rfl, hN9⟩
    simp -implicitDefEqProofs [initE, List.replicate, retS, retN, seqS, asgS, exprS, ifS, parS, skipS, setAll, varE, cstE, nilL, consL, tupE, mkL, un1, bin2, andE, orE, ifE, chainE, boolT, truthT, notT, andT, orT, yesT, callE, nameG, tupG, consG, nilG, itemsD, opNot, opAdd, opSub, opDiv, opMod, opNeg, opLt, opLe, opGt, opGe, opIsNot, opIs, ltD, leD, truth, at_nat, at_0, at_1, at_2, at_3, at_4, opIx, fLen, coreE, coreL, opIsi, isTy, opAbs, opMin, opInt, opMul, is_nn, is_nt, is_nr, is_nb, is_ni, is_ntm, is_nst, heq]
  | some I =>
    rw [hw] at tell
    simp only at tell
    obtain ⟨s, r, t, t1, t2, t3, t4, t5⟩ := tell
    rw [← hfm] at t1 t4
    cases hGs : Gs with
    | nil => rw [hGs] at t1; cases t1
    | cons x Gr =>
      rw [hGs] at t1
      simp only [List.map_cons, List.cons.injEq] at t1
      obtain ⟨rfl, _⟩ := t1
      rw [List.getLast?_map] at t4
      obtain ⟨y, hy, rfl⟩ := Option.map_eq_some_iff.mp t4
      have hx1 := hGm x (by rw [hGs]; exact List.mem_cons_self)
      have hy1 := hGm y (List.mem_of_getLast? hy)
      rw [hGs] at heq q7' hy
      have hlast : atD ((x :: Gr).map gspD) (-1) = some (gspD y) := by
        rw [at_last, List.getLast?_map, hy]; rfl
      have hfirst : atD ((x :: Gr).map gspD) 0 = some (gspD x) := by rw [at_0]; rfl
      have hz1 : atD (Z.map tm) (x.2 : Int) = some (tm x.1.st) := by rw [at_nat, List.getElem?_map, hx1.1]; rfl
      have hz2 : atD (Z.map tm) (y.2 : Int) = some (tm y.1.st) := by rw [at_nat, List.getElem?_map, hy1.1]; rfl
      have hz3 : ∀ q, y.1.nx = some q → atD (Z.map tm) ((y.2 : Int) + 1) = some (tm q) ∧ (y.2 : Int) + 1 < (Z.length : Int) := fun q hq => by
        rw [hq] at hy1
        have := (List.getElem?_eq_some_iff.mp hy1.2).1
        rw [show ((y.2 : Int) + 1) = ((y.2 + 1 : Nat) : Int) by omega, at_nat, List.getElem?_map, hy1.2]
        exact ⟨rfl, by omega⟩
      have hz4 : y.1.nx = none → ¬ (y.2 : Int) + 1 < (Z.length : Int) := fun hq => by
        rw [hq] at hy1
        have := List.getElem?_eq_none_iff.mp hy1.2
        omega
      have hwd : waitD (some I) = .tup [tm x.1.st, .bl x.1.m, endD (fin y.1)] := by
        rw [t5, t2, t3]; rfl
      rw [hwd]
      refine Wp.of (a := .rt (.tup [tm x.1.st, .bl x.1.m, endD (fin y.1)])) (S := ⟨S8.objs ++ [.lst []], S8.dirty⟩) ?_ ⟨rfl, hN9⟩
      have hf7 : itemsD ⟨S8.objs ++ [.lst []], S8.dirty⟩ (.tup [.tup [D.int x.2, .bl x.1.m], .tup [.int y.2, .bl y.1.m]]) = some [.tup [D.int x.2, .bl x.1.m], .tup [.int y.2, .bl y.1.m]] := rfl
      have heq' : opEq (D.ref S6.objs.length) (D.ref S8.objs.length) ⟨S8.objs ++ [.lst []], S8.dirty⟩ = .ok (.bl false) ⟨S8.objs ++ [.lst []], S8.dirty⟩ := heq
      generalize (x :: Gr).map gspD = GL at q7' hlast hfirst
      cases hym : y.1.m
      · cases hnx : y.1.nx with
        | none =>
          have h4 := hz4 hnx
          simp -implicitDefEqProofs [initE, List.replicate, retS, retN, seqS, asgS, exprS, ifS, parS, skipS, setAll, varE, cstE, nilL, consL, tupE, mkL, un1, bin2, andE, orE, ifE, chainE, boolT, truthT, notT, andT, orT, yesT, callE, nameG, tupG, consG, nilG, itemsD, opNot, opAdd, opSub, opDiv, opMod, opNeg, opLt, opLe, opGt, opGe, opIsNot, opIs, ltD, leD, truth, at_1, at_2, at_3, at_4, opIx, fLen, coreE, coreL, opIsi, isTy, opAbs, opMin, opInt, opMul, is_nn, is_nt, is_nr, is_nb, is_ni, is_ntm, is_nst, heq', q7', q3', hfirst, hlast, gspD, hym, hz1, h4, fin, hnx, endD, otm]
        | some q =>
          obtain ⟨h3, h4⟩ := hz3 q hnx
          simp -implicitDefEqProofs [initE, List.replicate, retS, retN, seqS, asgS, exprS, ifS, parS, skipS, setAll, varE, cstE, nilL, consL, tupE, mkL, un1, bin2, andE, orE, ifE, chainE, boolT, truthT, notT, andT, orT, yesT, callE, nameG, tupG, consG, nilG, itemsD, opNot, opAdd, opSub, opDiv, opMod, opNeg, opLt, opLe, opGt, opGe, opIsNot, opIs, ltD, leD, truth, at_1, at_2, at_3, at_4, opIx, fLen, coreE, coreL, opIsi, isTy, opAbs, opMin, opInt, opMul, is_nn, is_nt, is_nr, is_nb, is_ni, is_ntm, is_nst, heq', q7', q3', hfirst, hlast, gspD, hym, hz1, h3, h4, fin, hnx, endD, otm]
      · simp -implicitDefEqProofs [initE, List.replicate, retS, retN, seqS, asgS, exprS, ifS, parS, skipS, setAll, varE, cstE, nilL, consL, tupE, mkL, un1, bin2, andE, orE, ifE, chainE, boolT, truthT, notT, andT, orT, yesT, callE, nameG, tupG, consG, nilG, itemsD, opNot, opAdd, opSub, opDiv, opMod, opNeg, opLt, opLe, opGt, opGe, opIsNot, opIs, ltD, leD, truth, at_1, at_2, at_3, at_4, opIx, fLen, coreE, coreL, opIsi, isTy, opAbs, opMin, opInt, opMul, is_nn, is_nt, is_nr, is_nb, is_ni, is_ntm, is_nst, heq', q7', q3', hfirst, hlast, gspD, hym, hz1, hz2, fin, endD, otm]
end K81
set_option Elab.async false
set_option linter.all false
set_option maxRecDepth 100000
set_option maxHeartbeats 4000000
namespace K81
open PySem Ev
theorem sort_non (n : Nat) (S : Store) : ev (n + 1) j__law_sort [.non] S = .ok (.int 0) S := by
  rw [u__law_sort]
  refine run_val rfl (by simp [initE, List.replicate, retS, retN, seqS, asgS, exprS, ifS, parS, skipS, setAll, varE, cstE, nilL, consL, tupE, mkL, un1, bin2, andE, orE, ifE, chainE, boolT, truthT, notT, andT, orT, yesT, callE, nameG, tupG, consG, nilG, itemsD, opNot, opAdd, opSub, opDiv, opMod, opNeg, opLt, opLe, opGt, opGe, opIsNot, opIs, ltD, leD, truth, at_nat, at_0, at_1, at_2, at_3, at_4, opIx, fLen, coreE, coreL, opIsi, isTy, opAbs, opMin, opInt, opMul, is_nn, is_nt, is_nr, is_nb, is_ni, is_ntm, is_nst]) ?_
  simp -implicitDefEqProofs [initE, List.replicate, retS, retN, seqS, asgS, exprS, ifS, parS, skipS, setAll, varE, cstE, nilL, consL, tupE, mkL, un1, bin2, andE, orE, ifE, chainE, boolT, truthT, notT, andT, orT, yesT, callE, nameG, tupG, consG, nilG, itemsD, opNot, opAdd, opSub, opDiv, opMod, opNeg, opLt, opLe, opGt, opGe, opIsNot, opIs, ltD, leD, truth, at_nat, at_0, at_1, at_2, at_3, at_4, opIx, fLen, coreE, coreL, opIsi, isTy, opAbs, opMin, opInt, opMul, is_nn, is_nt, is_nr, is_nb, is_ni, is_ntm, is_nst, b__law_sort]
theorem sort_bl (n : Nat) (b : Bool) (S : Store) : ev (n + 1) j__law_sort [.bl b] S = .ok (.int 1) S := by
  rw [u__law_sort]
  refine run_val rfl (by simp [initE, List.replicate, retS, retN, seqS, asgS, exprS, ifS, parS, skipS, setAll, varE, cstE, nilL, consL, tupE, mkL, un1, bin2, andE, orE, ifE, chainE, boolT, truthT, notT, andT, orT, yesT, callE, nameG, tupG, consG, nilG, itemsD, opNot, opAdd, opSub, opDiv, opMod, opNeg, opLt, opLe, opGt, opGe, opIsNot, opIs, ltD, leD, truth, at_nat, at_0, at_1, at_2, at_3, at_4, opIx, fLen, coreE, coreL, opIsi, isTy, opAbs, opMin, opInt, opMul, is_nn, is_nt, is_nr, is_nb, is_ni, is_ntm, is_nst]) ?_
  simp -implicitDefEqProofs [initE, List.replicate, retS, retN, seqS, asgS, exprS, ifS, parS, skipS, setAll, varE, cstE, nilL, consL, tupE, mkL, un1, bin2, andE, orE, ifE, chainE, boolT, truthT, notT, andT, orT, yesT, callE, nameG, tupG, consG, nilG, itemsD, opNot, opAdd, opSub, opDiv, opMod, opNeg, opLt, opLe, opGt, opGe, opIsNot, opIs, ltD, leD, truth, at_nat, at_0, at_1, at_2, at_3, at_4, opIx, fLen, coreE, coreL, opIsi, isTy, opAbs, opMin, opInt, opMul, is_nn, is_nt, is_nr, is_nb, is_ni, is_ntm, is_nst, b__law_sort]
theorem sort_int (n : Nat) (i : Int) (S : Store) : ev (n + 1) j__law_sort [.int i] S = .ok (.int 2) S := by
  rw [u__law_sort]
  refine run_val rfl (by simp [initE, List.replicate, retS, retN, seqS, asgS, exprS, ifS, parS, skipS, setAll, varE, cstE, nilL, consL, tupE, mkL, un1, bin2, andE, orE, ifE, chainE, boolT, truthT, notT, andT, orT, yesT, callE, nameG, tupG, consG, nilG, itemsD, opNot, opAdd, opSub, opDiv, opMod, opNeg, opLt, opLe, opGt, opGe, opIsNot, opIs, ltD, leD, truth, at_nat, at_0, at_1, at_2, at_3, at_4, opIx, fLen, coreE, coreL, opIsi, isTy, opAbs, opMin, opInt, opMul, is_nn, is_nt, is_nr, is_nb, is_ni, is_ntm, is_nst]) ?_
  simp -implicitDefEqProofs [initE, List.replicate, retS, retN, seqS, asgS, exprS, ifS, parS, skipS, setAll, varE, cstE, nilL, consL, tupE, mkL, un1, bin2, andE, orE, ifE, chainE, boolT, truthT, notT, andT, orT, yesT, callE, nameG, tupG, consG, nilG, itemsD, opNot, opAdd, opSub, opDiv, opMod, opNeg, opLt, opLe, opGt, opGe, opIsNot, opIs, ltD, leD, truth, at_nat, at_0, at_1, at_2, at_3, at_4, opIx, fLen, coreE, coreL, opIsi, isTy, opAbs, opMin, opInt, opMul, is_nn, is_nt, is_nr, is_nb, is_ni, is_ntm, is_nst, b__law_sort]
theorem sort_tup (n : Nat) (ds : List D) (S : Store) : ev (n + 1) j__law_sort [.tup ds] S = .ok (.int 4) S := by
  rw [u__law_sort]
  refine run_val rfl (by simp [initE, List.replicate, retS, retN, seqS, asgS, exprS, ifS, parS, skipS, setAll, varE, cstE, nilL, consL, tupE, mkL, un1, bin2, andE, orE, ifE, chainE, boolT, truthT, notT, andT, orT, yesT, callE, nameG, tupG, consG, nilG, itemsD, opNot, opAdd, opSub, opDiv, opMod, opNeg, opLt, opLe, opGt, opGe, opIsNot, opIs, ltD, leD, truth, at_nat, at_0, at_1, at_2, at_3, at_4, opIx, fLen, coreE, coreL, opIsi, isTy, opAbs, opMin, opInt, opMul, is_nn, is_nt, is_nr, is_nb, is_ni, is_ntm, is_nst]) ?_
  simp -implicitDefEqProofs [initE, List.replicate, retS, retN, seqS, asgS, exprS, ifS, parS, skipS, setAll, varE, cstE, nilL, consL, tupE, mkL, un1, bin2, andE, orE, ifE, chainE, boolT, truthT, notT, andT, orT, yesT, callE, nameG, tupG, consG, nilG, itemsD, opNot, opAdd, opSub, opDiv, opMod, opNeg, opLt, opLe, opGt, opGe, opIsNot, opIs, ltD, leD, truth, at_nat, at_0, at_1, at_2, at_3, at_4, opIx, fLen, coreE, coreL, opIsi, isTy, opAbs, opMin, opInt, opMul, is_nn, is_nt, is_nr, is_nb, is_ni, is_ntm, is_nst, b__law_sort]
theorem sort_lst (n a : Nat) (ds : List D) (S : Store) (h : S.objs[a]? = some (.lst ds)) : ev (n + 1) j__law_sort [.ref a] S = .ok (.int 5) S := by
  rw [u__law_sort]
  refine run_val rfl (by simp [initE, List.replicate, retS, retN, seqS, asgS, exprS, ifS, parS, skipS, setAll, varE, cstE, nilL, consL, tupE, mkL, un1, bin2, andE, orE, ifE, chainE, boolT, truthT, notT, andT, orT, yesT, callE, nameG, tupG, consG, nilG, itemsD, opNot, opAdd, opSub, opDiv, opMod, opNeg, opLt, opLe, opGt, opGe, opIsNot, opIs, ltD, leD, truth, at_nat, at_0, at_1, at_2, at_3, at_4, opIx, fLen, coreE, coreL, opIsi, isTy, opAbs, opMin, opInt, opMul, is_nn, is_nt, is_nr, is_nb, is_ni, is_ntm, is_nst]) ?_
  simp -implicitDefEqProofs [initE, List.replicate, retS, retN, seqS, asgS, exprS, ifS, parS, skipS, setAll, varE, cstE, nilL, consL, tupE, mkL, un1, bin2, andE, orE, ifE, chainE, boolT, truthT, notT, andT, orT, yesT, callE, nameG, tupG, consG, nilG, itemsD, opNot, opAdd, opSub, opDiv, opMod, opNeg, opLt, opLe, opGt, opGe, opIsNot, opIs, ltD, leD, truth, at_nat, at_0, at_1, at_2, at_3, at_4, opIx, fLen, coreE, coreL, opIsi, isTy, opAbs, opMin, opInt, opMul, is_nn, is_nt, is_nr, is_nb, is_ni, is_ntm, is_nst, b__law_sort, h]
def lkD : Nat → D → Bool
  | _, .non => true
  | _, .bl _ => true
  | _, .int _ => true
  | k + 1, .tup ds => decide (ds.length ≤ 1000) && ds.all (lkD k)
  | _, _ => false
theorem zipD_same : ∀ ds : List D, ∀ d ∈ zipD ds ds, ∃ x ∈ ds, d = .tup [x, x]
  | [], d, h => by simp [initE, List.replicate, retS, retN, seqS, asgS, exprS, ifS, parS, skipS, setAll, varE, cstE, nilL, consL, tupE, mkL, un1, bin2, andE, orE, ifE, chainE, boolT, truthT, notT, andT, orT, yesT, callE, nameG, tupG, consG, nilG, itemsD, opNot, opAdd, opSub, opDiv, opMod, opNeg, opLt, opLe, opGt, opGe, opIsNot, opIs, ltD, leD, truth, at_nat, at_0, at_1, at_2, at_3, at_4, opIx, fLen, coreE, coreL, opIsi, isTy, opAbs, opMin, opInt, opMul, is_nn, is_nt, is_nr, is_nb, is_ni, is_ntm, is_nst, zipD] at h
  | x :: ds, d, h => by
    simp only [zipD, List.mem_cons] at h
    rcases h with rfl | h
    · exact ⟨x, by simp [initE, List.replicate, retS, retN, seqS, asgS, exprS, ifS, parS, skipS, setAll, varE, cstE, nilL, consL, tupE, mkL, un1, bin2, andE, orE, ifE, chainE, boolT, truthT, notT, andT, orT, yesT, callE, nameG, tupG, consG, nilG, itemsD, opNot, opAdd, opSub, opDiv, opMod, opNeg, opLt, opLe, opGt, opGe, opIsNot, opIs, ltD, leD, truth, at_nat, at_0, at_1, at_2, at_3, at_4, opIx, fLen, coreE, coreL, opIsi, isTy, opAbs, opMin, opInt, opMul, is_nn, is_nt, is_nr, is_nb, is_ni, is_ntm, is_nst], rfl⟩
    · obtain ⟨y, hy, e⟩ := zipD_same ds d h
      exact ⟨y, by simp [initE, List.replicate, retS, retN, seqS, asgS, exprS, ifS, parS, skipS, setAll, varE, cstE, nilL, consL, tupE, mkL, un1, bin2, andE, orE, ifE, chainE, boolT, truthT, notT, andT, orT, yesT, callE, nameG, tupG, consG, nilG, itemsD, opNot, opAdd, opSub, opDiv, opMod, opNeg, opLt, opLe, opGt, opGe, opIsNot, opIs, ltD, leD, truth, at_nat, at_0, at_1, at_2, at_3, at_4, opIx, fLen, coreE, coreL, opIsi, isTy, opAbs, opMin, opInt, opMul, is_nn, is_nt, is_nr, is_nb, is_ni, is_ntm, is_nst, hy], e⟩
theorem like_items (n : Nat) (x y : D) (sx sy : Src) (ds : List D) (z : Option D) (S : Store) (I : Store → Prop) (hI : I S) (hz : zipI (varE 0) (varE 1) [some x, some y, z, none, none] S = .ok (.zip sx sy) S) (px : PS I sx ds) (py : PS I sy ds) (hl : ds.length ≤ 1000)
    (ih : ∀ d ∈ ds, ev n j__law_like [d, d] S = .ok (.bl true) S) : lc__law_like_1 (ev n) [some x, some y, z, none, none] S = .ok [] S := by
  unfold lc__law_like_1
  rw [lcL_src hz]
  rw [lc_filt (fun _ => none) hI _ FU _ [] (PS.zip px py) (by have := zipD_len ds ds; rw [FU_eq]; omega) ?_]
  · congr 1
    induction zipD ds ds with
    | nil => rfl
    | cons d l ih => rw [List.filterMap_cons]; exact ih
  · intro d hd
    obtain ⟨u, hu, rfl⟩ := zipD_same ds d hd
    exact ⟨_, rfl, .inl ⟨rfl, by simp -implicitDefEqProofs [initE, List.replicate, retS, retN, seqS, asgS, exprS, ifS, parS, skipS, setAll, varE, cstE, nilL, consL, tupE, mkL, un1, bin2, andE, orE, ifE, chainE, boolT, truthT, notT, andT, orT, yesT, callE, nameG, tupG, consG, nilG, itemsD, opNot, opAdd, opSub, opDiv, opMod, opNeg, opLt, opLe, opGt, opGe, opIsNot, opIs, ltD, leD, truth, at_nat, at_0, at_1, at_2, at_3, at_4, opIx, fLen, coreE, coreL, opIsi, isTy, opAbs, opMin, opInt, opMul, is_nn, is_nt, is_nr, is_nb, is_ni, is_ntm, is_nst, wipeE, ih u hu]⟩⟩
theorem like_same : ∀ (k n : Nat) (d : D) (S : Store), lkD k d = true → ev (n + k + 2) j__law_like [d, d] S = .ok (.bl true) S := by
  intro k
  induction k with
  | zero =>
    intro n d S h
    rw [show n + 0 + 2 = (n + 1) + 1 by omega, u__law_like]
    refine run_val rfl (by simp [initE, List.replicate, retS, retN, seqS, asgS, exprS, ifS, parS, skipS, setAll, varE, cstE, nilL, consL, tupE, mkL, un1, bin2, andE, orE, ifE, chainE, boolT, truthT, notT, andT, orT, yesT, callE, nameG, tupG, consG, nilG, itemsD, opNot, opAdd, opSub, opDiv, opMod, opNeg, opLt, opLe, opGt, opGe, opIsNot, opIs, ltD, leD, truth, at_nat, at_0, at_1, at_2, at_3, at_4, opIx, fLen, coreE, coreL, opIsi, isTy, opAbs, opMin, opInt, opMul, is_nn, is_nt, is_nr, is_nb, is_ni, is_ntm, is_nst]) ?_
    cases d <;> simp [initE, List.replicate, retS, retN, seqS, asgS, exprS, ifS, parS, skipS, setAll, varE, cstE, nilL, consL, tupE, mkL, un1, bin2, andE, orE, ifE, chainE, boolT, truthT, notT, andT, orT, yesT, callE, nameG, tupG, consG, nilG, itemsD, opNot, opAdd, opSub, opDiv, opMod, opNeg, opLt, opLe, opGt, opGe, opIsNot, opIs, ltD, leD, truth, at_nat, at_0, at_1, at_2, at_3, at_4, opIx, fLen, coreE, coreL, opIsi, isTy, opAbs, opMin, opInt, opMul, is_nn, is_nt, is_nr, is_nb, is_ni, is_ntm, is_nst, lkD] at h
    · simp -implicitDefEqProofs [initE, List.replicate, retS, retN, seqS, asgS, exprS, ifS, parS, skipS, setAll, varE, cstE, nilL, consL, tupE, mkL, un1, bin2, andE, orE, ifE, chainE, boolT, truthT, notT, andT, orT, yesT, callE, nameG, tupG, consG, nilG, itemsD, opNot, opAdd, opSub, opDiv, opMod, opNeg, opLt, opLe, opGt, opGe, opIsNot, opIs, ltD, leD, truth, at_nat, at_0, at_1, at_2, at_3, at_4, opIx, fLen, coreE, coreL, opIsi, isTy, opAbs, opMin, opInt, opMul, is_nn, is_nt, is_nr, is_nb, is_ni, is_ntm, is_nst, b__law_like, sort_non, opEq, opNe, eqD, opIn, inD, memD, memI]
    · simp -implicitDefEqProofs [initE, List.replicate, retS, retN, seqS, asgS, exprS, ifS, parS, skipS, setAll, varE, cstE, nilL, consL, tupE, mkL, un1, bin2, andE, orE, ifE, chainE, boolT, truthT, notT, andT, orT, yesT, callE, nameG, tupG, consG, nilG, itemsD, opNot, opAdd, opSub, opDiv, opMod, opNeg, opLt, opLe, opGt, opGe, opIsNot, opIs, ltD, leD, truth, at_nat, at_0, at_1, at_2, at_3, at_4, opIx, fLen, coreE, coreL, opIsi, isTy, opAbs, opMin, opInt, opMul, is_nn, is_nt, is_nr, is_nb, is_ni, is_ntm, is_nst, b__law_like, sort_bl, opEq, opNe, eqD, opIn, inD, memD, memI]
    · simp -implicitDefEqProofs [initE, List.replicate, retS, retN, seqS, asgS, exprS, ifS, parS, skipS, setAll, varE, cstE, nilL, consL, tupE, mkL, un1, bin2, andE, orE, ifE, chainE, boolT, truthT, notT, andT, orT, yesT, callE, nameG, tupG, consG, nilG, itemsD, opNot, opAdd, opSub, opDiv, opMod, opNeg, opLt, opLe, opGt, opGe, opIsNot, opIs, ltD, leD, truth, at_nat, at_0, at_1, at_2, at_3, at_4, opIx, fLen, coreE, coreL, opIsi, isTy, opAbs, opMin, opInt, opMul, is_nn, is_nt, is_nr, is_nb, is_ni, is_ntm, is_nst, b__law_like, sort_int, opEq, opNe, eqD, opIn, inD, memD, memI]
  | succ k ih =>
    intro n d S h
    rw [show n + (k + 1) + 2 = (n + k + 2) + 1 by omega, u__law_like]
    cases d with
    | non =>
      refine run_val rfl (by simp [initE, List.replicate, retS, retN, seqS, asgS, exprS, ifS, parS, skipS, setAll, varE, cstE, nilL, consL, tupE, mkL, un1, bin2, andE, orE, ifE, chainE, boolT, truthT, notT, andT, orT, yesT, callE, nameG, tupG, consG, nilG, itemsD, opNot, opAdd, opSub, opDiv, opMod, opNeg, opLt, opLe, opGt, opGe, opIsNot, opIs, ltD, leD, truth, at_nat, at_0, at_1, at_2, at_3, at_4, opIx, fLen, coreE, coreL, opIsi, isTy, opAbs, opMin, opInt, opMul, is_nn, is_nt, is_nr, is_nb, is_ni, is_ntm, is_nst]) ?_
      simp -implicitDefEqProofs [initE, List.replicate, retS, retN, seqS, asgS, exprS, ifS, parS, skipS, setAll, varE, cstE, nilL, consL, tupE, mkL, un1, bin2, andE, orE, ifE, chainE, boolT, truthT, notT, andT, orT, yesT, callE, nameG, tupG, consG, nilG, itemsD, opNot, opAdd, opSub, opDiv, opMod, opNeg, opLt, opLe, opGt, opGe, opIsNot, opIs, ltD, leD, truth, at_nat, at_0, at_1, at_2, at_3, at_4, opIx, fLen, coreE, coreL, opIsi, isTy, opAbs, opMin, opInt, opMul, is_nn, is_nt, is_nr, is_nb, is_ni, is_ntm, is_nst, b__law_like, sort_non (n + k + 1), opEq, opNe, eqD, opIn, inD, memD, memI]
    | bl b =>
      refine run_val rfl (by simp [initE, List.replicate, retS, retN, seqS, asgS, exprS, ifS, parS, skipS, setAll, varE, cstE, nilL, consL, tupE, mkL, un1, bin2, andE, orE, ifE, chainE, boolT, truthT, notT, andT, orT, yesT, callE, nameG, tupG, consG, nilG, itemsD, opNot, opAdd, opSub, opDiv, opMod, opNeg, opLt, opLe, opGt, opGe, opIsNot, opIs, ltD, leD, truth, at_nat, at_0, at_1, at_2, at_3, at_4, opIx, fLen, coreE, coreL, opIsi, isTy, opAbs, opMin, opInt, opMul, is_nn, is_nt, is_nr, is_nb, is_ni, is_ntm, is_nst]) ?_
      simp -implicitDefEqProofs [initE, List.replicate, retS, retN, seqS, asgS, exprS, ifS, parS, skipS, setAll, varE, cstE, nilL, consL, tupE, mkL, un1, bin2, andE, orE, ifE, chainE, boolT, truthT, notT, andT, orT, yesT, callE, nameG, tupG, consG, nilG, itemsD, opNot, opAdd, opSub, opDiv, opMod, opNeg, opLt, opLe, opGt, opGe, opIsNot, opIs, ltD, leD, truth, at_nat, at_0, at_1, at_2, at_3, at_4, opIx, fLen, coreE, coreL, opIsi, isTy, opAbs, opMin, opInt, opMul, is_nn, is_nt, is_nr, is_nb, is_ni, is_ntm, is_nst, b__law_like, sort_bl (n + k + 1), opEq, opNe, eqD, opIn, inD, memD, memI]
    | int i =>
      refine run_val rfl (by simp [initE, List.replicate, retS, retN, seqS, asgS, exprS, ifS, parS, skipS, setAll, varE, cstE, nilL, consL, tupE, mkL, un1, bin2, andE, orE, ifE, chainE, boolT, truthT, notT, andT, orT, yesT, callE, nameG, tupG, consG, nilG, itemsD, opNot, opAdd, opSub, opDiv, opMod, opNeg, opLt, opLe, opGt, opGe, opIsNot, opIs, ltD, leD, truth, at_nat, at_0, at_1, at_2, at_3, at_4, opIx, fLen, coreE, coreL, opIsi, isTy, opAbs, opMin, opInt, opMul, is_nn, is_nt, is_nr, is_nb, is_ni, is_ntm, is_nst]) ?_
      simp -implicitDefEqProofs [initE, List.replicate, retS, retN, seqS, asgS, exprS, ifS, parS, skipS, setAll, varE, cstE, nilL, consL, tupE, mkL, un1, bin2, andE, orE, ifE, chainE, boolT, truthT, notT, andT, orT, yesT, callE, nameG, tupG, consG, nilG, itemsD, opNot, opAdd, opSub, opDiv, opMod, opNeg, opLt, opLe, opGt, opGe, opIsNot, opIs, ltD, leD, truth, at_nat, at_0, at_1, at_2, at_3, at_4, opIx, fLen, coreE, coreL, opIsi, isTy, opAbs, opMin, opInt, opMul, is_nn, is_nt, is_nr, is_nb, is_ni, is_ntm, is_nst, b__law_like, sort_int (n + k + 1), opEq, opNe, eqD, opIn, inD, memD, memI]
    | tup ds =>
      refine run_pure rfl (by simp [initE, List.replicate, retS, retN, seqS, asgS, exprS, ifS, parS, skipS, setAll, varE, cstE, nilL, consL, tupE, mkL, un1, bin2, andE, orE, ifE, chainE, boolT, truthT, notT, andT, orT, yesT, callE, nameG, tupG, consG, nilG, itemsD, opNot, opAdd, opSub, opDiv, opMod, opNeg, opLt, opLe, opGt, opGe, opIsNot, opIs, ltD, leD, truth, at_nat, at_0, at_1, at_2, at_3, at_4, opIx, fLen, coreE, coreL, opIsi, isTy, opAbs, opMin, opInt, opMul, is_nn, is_nt, is_nr, is_nb, is_ni, is_ntm, is_nst]) ?_
      have h' : (decide (ds.length ≤ 1000) && ds.all (lkD k)) = true := h
      rw [Bool.and_eq_true] at h'
      have h1 := of_decide_eq_true h'.1
      have hall : ∀ d ∈ ds, ev (n + k + 2) j__law_like [d, d] ⟨S.objs, []⟩ = .ok (.bl true) ⟨S.objs, []⟩ := fun d hd => ih n d ⟨S.objs, []⟩ (List.all_eq_true.mp h'.2 d hd)
      have h3 := like_items (n + k + 2) (.tup ds) (.tup ds) (.fix ds) (.fix ds) ds (some (.int 4)) ⟨S.objs, []⟩ (fun _ => True) trivial (by simp -implicitDefEqProofs [initE, List.replicate, retS, retN, seqS, asgS, exprS, ifS, parS, skipS, setAll, varE, cstE, nilL, consL, tupE, mkL, un1, bin2, andE, orE, ifE, chainE, boolT, truthT, notT, andT, orT, yesT, callE, nameG, tupG, consG, nilG, itemsD, opNot, opAdd, opSub, opDiv, opMod, opNeg, opLt, opLe, opGt, opGe, opIsNot, opIs, ltD, leD, truth, at_nat, at_0, at_1, at_2, at_3, at_4, opIx, fLen, coreE, coreL, opIsi, isTy, opAbs, opMin, opInt, opMul, is_nn, is_nt, is_nr, is_nb, is_ni, is_ntm, is_nst, zipI, srcOf, isTupD]) (PS.fix _ _) (PS.fix _ _) h1 hall
      have h4 := eq_lists (S := ⟨S.objs ++ [.lst []] ++ [.lst []], []⟩) (a := S.objs.length) (b := S.objs.length + 1) (xs := []) (ps := []) (by simp [initE, List.replicate, retS, retN, seqS, asgS, exprS, ifS, parS, skipS, setAll, varE, cstE, nilL, consL, tupE, mkL, un1, bin2, andE, orE, ifE, chainE, boolT, truthT, notT, andT, orT, yesT, callE, nameG, tupG, consG, nilG, itemsD, opNot, opAdd, opSub, opDiv, opMod, opNeg, opLt, opLe, opGt, opGe, opIsNot, opIs, ltD, leD, truth, at_nat, at_0, at_1, at_2, at_3, at_4, opIx, fLen, coreE, coreL, opIsi, isTy, opAbs, opMin, opInt, opMul, is_nn, is_nt, is_nr, is_nb, is_ni, is_ntm, is_nst]) (by simp [initE, List.replicate, retS, retN, seqS, asgS, exprS, ifS, parS, skipS, setAll, varE, cstE, nilL, consL, tupE, mkL, un1, bin2, andE, orE, ifE, chainE, boolT, truthT, notT, andT, orT, yesT, callE, nameG, tupG, consG, nilG, itemsD, opNot, opAdd, opSub, opDiv, opMod, opNeg, opLt, opLe, opGt, opGe, opIsNot, opIs, ltD, leD, truth, at_nat, at_0, at_1, at_2, at_3, at_4, opIx, fLen, coreE, coreL, opIsi, isTy, opAbs, opMin, opInt, opMul, is_nn, is_nt, is_nr, is_nb, is_ni, is_ntm, is_nst]) rfl
      refine Wp.of (a := .rt (.bl true)) (S := ⟨S.objs ++ [.lst []] ++ [.lst []], []⟩) ?_ ⟨rfl, ((Nw.refl _).alloc _).alloc _⟩
      have h4' : opEq (.ref S.objs.length) (.ref (S.objs ++ [O.lst []]).length) ⟨S.objs ++ [.lst []] ++ [.lst []], []⟩ = .ok (.bl true) ⟨S.objs ++ [.lst []] ++ [.lst []], []⟩ := by
        rw [List.length_append]; exact h4
      have h5 : ∀ a b : Int, ∀ S, opEq (.int a) (.int b) S = .ok (.bl (decide (a = b))) S := fun _ _ _ => rfl
      have h6 : ∀ a b : Int, ∀ S, opNe (.int a) (.int b) S = .ok (.bl (!decide (a = b))) S := fun _ _ _ => rfl
      unfold b__law_like
      simp -implicitDefEqProofs [initE, List.replicate, retS, retN, seqS, asgS, exprS, ifS, parS, skipS, setAll, varE, cstE, nilL, consL, tupE, mkL, un1, bin2, andE, orE, ifE, chainE, boolT, truthT, notT, andT, orT, yesT, callE, nameG, tupG, consG, nilG, itemsD, opNot, opAdd, opSub, opDiv, opMod, opNeg, opLt, opLe, opGt, opGe, opIsNot, opIs, ltD, leD, truth, at_nat, at_0, at_1, at_2, at_3, at_4, opIx, fLen, coreE, coreL, opIsi, isTy, opAbs, opMin, opInt, opMul, is_nn, is_nt, is_nr, is_nb, is_ni, is_ntm, is_nst, -List.append_assoc, -List.length_append, sort_tup (n + k + 1), h5, h6, opIn, inD, memD, memI, h3, h4']
    | str _ => simp [initE, List.replicate, retS, retN, seqS, asgS, exprS, ifS, parS, skipS, setAll, varE, cstE, nilL, consL, tupE, mkL, un1, bin2, andE, orE, ifE, chainE, boolT, truthT, notT, andT, orT, yesT, callE, nameG, tupG, consG, nilG, itemsD, opNot, opAdd, opSub, opDiv, opMod, opNeg, opLt, opLe, opGt, opGe, opIsNot, opIs, ltD, leD, truth, at_nat, at_0, at_1, at_2, at_3, at_4, opIx, fLen, coreE, coreL, opIsi, isTy, opAbs, opMin, opInt, opMul, is_nn, is_nt, is_nr, is_nb, is_ni, is_ntm, is_nst, lkD] at h
    | ref _ => simp [initE, List.replicate, retS, retN, seqS, asgS, exprS, ifS, parS, skipS, setAll, varE, cstE, nilL, consL, tupE, mkL, un1, bin2, andE, orE, ifE, chainE, boolT, truthT, notT, andT, orT, yesT, callE, nameG, tupG, consG, nilG, itemsD, opNot, opAdd, opSub, opDiv, opMod, opNeg, opLt, opLe, opGt, opGe, opIsNot, opIs, ltD, leD, truth, at_nat, at_0, at_1, at_2, at_3, at_4, opIx, fLen, coreE, coreL, opIsi, isTy, opAbs, opMin, opInt, opMul, is_nn, is_nt, is_nr, is_nb, is_ni, is_ntm, is_nst, lkD] at h
    | fn _ => simp [initE, List.replicate, retS, retN, seqS, asgS, exprS, ifS, parS, skipS, setAll, varE, cstE, nilL, consL, tupE, mkL, un1, bin2, andE, orE, ifE, chainE, boolT, truthT, notT, andT, orT, yesT, callE, nameG, tupG, consG, nilG, itemsD, opNot, opAdd, opSub, opDiv, opMod, opNeg, opLt, opLe, opGt, opGe, opIsNot, opIs, ltD, leD, truth, at_nat, at_0, at_1, at_2, at_3, at_4, opIx, fLen, coreE, coreL, opIsi, isTy, opAbs, opMin, opInt, opMul, is_nn, is_nt, is_nr, is_nb, is_ni, is_ntm, is_nst, lkD] at h
    | cl _ => simp [initE, List.replicate, retS, retN, seqS, asgS, exprS, ifS, parS, skipS, setAll, varE, cstE, nilL, consL, tupE, mkL, un1, bin2, andE, orE, ifE, chainE, boolT, truthT, notT, andT, orT, yesT, callE, nameG, tupG, consG, nilG, itemsD, opNot, opAdd, opSub, opDiv, opMod, opNeg, opLt, opLe, opGt, opGe, opIsNot, opIs, ltD, leD, truth, at_nat, at_0, at_1, at_2, at_3, at_4, opIx, fLen, coreE, coreL, opIsi, isTy, opAbs, opMin, opInt, opMul, is_nn, is_nt, is_nr, is_nb, is_ni, is_ntm, is_nst, lkD] at h
    | rol _ => simp [initE, List.replicate, retS, retN, seqS, asgS, exprS, ifS, parS, skipS, setAll, varE, cstE, nilL, consL, tupE, mkL, un1, bin2, andE, orE, ifE, chainE, boolT, truthT, notT, andT, orT, yesT, callE, nameG, tupG, consG, nilG, itemsD, opNot, opAdd, opSub, opDiv, opMod, opNeg, opLt, opLe, opGt, opGe, opIsNot, opIs, ltD, leD, truth, at_nat, at_0, at_1, at_2, at_3, at_4, opIx, fLen, coreE, coreL, opIsi, isTy, opAbs, opMin, opInt, opMul, is_nn, is_nt, is_nr, is_nb, is_ni, is_ntm, is_nst, lkD] at h
end K81
set_option Elab.async false
set_option linter.all false
set_option maxRecDepth 100000
set_option maxHeartbeats 4000000
namespace K81
open PySem Ev
theorem eq_ii (a b : Int) (S : Store) : opEq (.int a) (.int b) S = .ok (.bl (decide (a = b))) S := rfl
theorem ne_ii (a b : Int) (S : Store) : opNe (.int a) (.int b) S = .ok (.bl (!decide (a = b))) S := rfl
theorem eq_bb (a b : Bool) (S : Store) : opEq (.bl a) (.bl b) S = .ok (.bl (a == b)) S := rfl
theorem ne_bb (a b : Bool) (S : Store) : opNe (.bl a) (.bl b) S = .ok (.bl (!(a == b))) S := rfl
theorem like_lists (k n a b : Nat) (ds : List D) (S : Store) (ha : S.objs[a]? = some (.lst ds)) (hb : S.objs[b]? = some (.lst ds)) (h : ds.all (lkD k) = true) (hl : ds.length ≤ 1000) : ev (n + k + 3) j__law_like [.ref a, .ref b] S = .ok (.bl true) S := by
  rw [u__law_like]
  refine run_pure rfl (by simp [initE, List.replicate, retS, retN, seqS, asgS, exprS, ifS, parS, skipS, setAll, varE, cstE, nilL, consL, tupE, mkL, un1, bin2, andE, orE, ifE, chainE, boolT, truthT, notT, andT, orT, yesT, callE, nameG, tupG, consG, nilG, itemsD, opNot, opAdd, opSub, opDiv, opMod, opNeg, opLt, opLe, opGt, opGe, opIsNot, opIs, ltD, leD, truth, at_nat, at_0, at_1, at_2, at_3, at_4, opIx, fLen, coreE, coreL, opIsi, isTy, opAbs, opMin, opInt, opMul, is_nn, is_nt, is_nr, is_nb, is_ni, is_ntm, is_nst, eq_ii, ne_ii, eq_bb, ne_bb]) ?_
  have hall : ∀ d ∈ ds, ev (n + k + 2) j__law_like [d, d] ⟨S.objs, []⟩ = .ok (.bl true) ⟨S.objs, []⟩ := fun d hd => like_same k n d ⟨S.objs, []⟩ (List.all_eq_true.mp h d hd)
  have h3 := like_items (n + k + 2) (.ref a) (.ref b) (.ref a 0) (.ref b 0) ds (some (.int 5)) ⟨S.objs, []⟩ (fun S => S.objs[a]? = some (.lst ds) ∧ S.objs[b]? = some (.lst ds)) ⟨ha, hb⟩ (by simp -implicitDefEqProofs [initE, List.replicate, retS, retN, seqS, asgS, exprS, ifS, parS, skipS, setAll, varE, cstE, nilL, consL, tupE, mkL, un1, bin2, andE, orE, ifE, chainE, boolT, truthT, notT, andT, orT, yesT, callE, nameG, tupG, consG, nilG, itemsD, opNot, opAdd, opSub, opDiv, opMod, opNeg, opLt, opLe, opGt, opGe, opIsNot, opIs, ltD, leD, truth, at_nat, at_0, at_1, at_2, at_3, at_4, opIx, fLen, coreE, coreL, opIsi, isTy, opAbs, opMin, opInt, opMul, is_nn, is_nt, is_nr, is_nb, is_ni, is_ntm, is_nst, eq_ii, ne_ii, eq_bb, ne_bb, zipI, srcOf, isTupD, ha, hb]) ((PS.ref ds).weak fun S h => h.1) ((PS.ref ds).weak fun S h => h.2) hl hall
  have h4 := eq_lists (S := ⟨S.objs ++ [.lst []] ++ [.lst []], []⟩) (a := S.objs.length) (b := S.objs.length + 1) (xs := []) (ps := []) (by simp [initE, List.replicate, retS, retN, seqS, asgS, exprS, ifS, parS, skipS, setAll, varE, cstE, nilL, consL, tupE, mkL, un1, bin2, andE, orE, ifE, chainE, boolT, truthT, notT, andT, orT, yesT, callE, nameG, tupG, consG, nilG, itemsD, opNot, opAdd, opSub, opDiv, opMod, opNeg, opLt, opLe, opGt, opGe, opIsNot, opIs, ltD, leD, truth, at_nat, at_0, at_1, at_2, at_3, at_4, opIx, fLen, coreE, coreL, opIsi, isTy, opAbs, opMin, opInt, opMul, is_nn, is_nt, is_nr, is_nb, is_ni, is_ntm, is_nst, eq_ii, ne_ii, eq_bb, ne_bb]) (by simp [initE, List.replicate, retS, retN, seqS, asgS, exprS, ifS, parS, skipS, setAll, varE, cstE, nilL, consL, tupE, mkL, un1, bin2, andE, orE, ifE, chainE, boolT, truthT, notT, andT, orT, yesT, callE, nameG, tupG, consG, nilG, itemsD, opNot, opAdd, opSub, opDiv, opMod, opNeg, opLt, opLe, opGt, opGe, opIsNot, opIs, ltD, leD, truth, at_nat, at_0, at_1, at_2, at_3, at_4, opIx, fLen, coreE, coreL, opIsi, isTy, opAbs, opMin, opInt, opMul, is_nn, is_nt, is_nr, is_nb, is_ni, is_ntm, is_nst, eq_ii, ne_ii, eq_bb, ne_bb]) rfl
  refine Wp.of (a := .rt (.bl true)) (S := ⟨S.objs ++ [.lst []] ++ [.lst []], []⟩) ?_ ⟨rfl, ((Nw.refl _).alloc _).alloc _⟩
  have h4' : opEq (.ref S.objs.length) (.ref (S.objs ++ [O.lst []]).length) ⟨S.objs ++ [.lst []] ++ [.lst []], []⟩ = .ok (.bl true) ⟨S.objs ++ [.lst []] ++ [.lst []], []⟩ := by
    rw [List.length_append]; exact h4
  have s1 := sort_lst (n + k + 1) a ds ⟨S.objs, []⟩ ha
  have s2 := sort_lst (n + k + 1) b ds ⟨S.objs, []⟩ hb
  unfold b__law_like
  simp -implicitDefEqProofs [initE, List.replicate, retS, retN, seqS, asgS, exprS, ifS, parS, skipS, setAll, varE, cstE, nilL, consL, tupE, mkL, un1, bin2, andE, orE, ifE, chainE, boolT, truthT, notT, andT, orT, yesT, callE, nameG, tupG, consG, nilG, itemsD, opNot, opAdd, opSub, opDiv, opMod, opNeg, opLt, opLe, opGt, opGe, opIsNot, opIs, ltD, leD, truth, at_nat, at_0, at_1, at_2, at_3, at_4, opIx, fLen, coreE, coreL, opIsi, isTy, opAbs, opMin, opInt, opMul, is_nn, is_nt, is_nr, is_nb, is_ni, is_ntm, is_nst, eq_ii, ne_ii, eq_bb, ne_bb, -List.append_assoc, -List.length_append, s1, s2, opIn, inD, memD, memI, h3, h4', ha, hb]
theorem mk_nil_eq (l : LF) (env : Ev.Env) (B : List O) (xs : List D) (ps : List PyData) (h : l env ⟨B, []⟩ = .ok xs ⟨B, []⟩) (hx : pyOfs xs = some ps) : bin2 opEq (mkL l) (mkL nilL) env ⟨B, []⟩ = .ok (.bl ps.isEmpty) ⟨B ++ [.lst xs] ++ [.lst []], []⟩ := by
  have h4 := eq_lists (S := ⟨B ++ [.lst xs] ++ [.lst []], []⟩) (a := B.length) (b := B.length + 1) (xs := xs) (ps := ps) (by simp [initE, List.replicate, retS, retN, seqS, asgS, exprS, ifS, parS, skipS, setAll, varE, cstE, nilL, consL, tupE, mkL, un1, bin2, andE, orE, ifE, chainE, boolT, truthT, notT, andT, orT, yesT, callE, nameG, tupG, consG, nilG, itemsD, opNot, opAdd, opSub, opDiv, opMod, opNeg, opLt, opLe, opGt, opGe, opIsNot, opIs, ltD, leD, truth, at_nat, at_0, at_1, at_2, at_3, at_4, opIx, fLen, coreE, coreL, opIsi, isTy, opAbs, opMin, opInt, opMul, is_nn, is_nt, is_nr, is_nb, is_ni, is_ntm, is_nst, eq_ii, ne_ii, eq_bb, ne_bb]) (by simp [initE, List.replicate, retS, retN, seqS, asgS, exprS, ifS, parS, skipS, setAll, varE, cstE, nilL, consL, tupE, mkL, un1, bin2, andE, orE, ifE, chainE, boolT, truthT, notT, andT, orT, yesT, callE, nameG, tupG, consG, nilG, itemsD, opNot, opAdd, opSub, opDiv, opMod, opNeg, opLt, opLe, opGt, opGe, opIsNot, opIs, ltD, leD, truth, at_nat, at_0, at_1, at_2, at_3, at_4, opIx, fLen, coreE, coreL, opIsi, isTy, opAbs, opMin, opInt, opMul, is_nn, is_nt, is_nr, is_nb, is_ni, is_ntm, is_nst, eq_ii, ne_ii, eq_bb, ne_bb]) hx
  have h4' : opEq (.ref B.length) (.ref (B ++ [O.lst xs]).length) ⟨B ++ [.lst xs] ++ [.lst []], []⟩ = .ok (.bl ps.isEmpty) ⟨B ++ [.lst xs] ++ [.lst []], []⟩ := by
    rw [List.length_append]; exact h4
  simp -implicitDefEqProofs [initE, List.replicate, retS, retN, seqS, asgS, exprS, ifS, parS, skipS, setAll, varE, cstE, nilL, consL, tupE, mkL, un1, bin2, andE, orE, ifE, chainE, boolT, truthT, notT, andT, orT, yesT, callE, nameG, tupG, consG, nilG, itemsD, opNot, opAdd, opSub, opDiv, opMod, opNeg, opLt, opLe, opGt, opGe, opIsNot, opIs, ltD, leD, truth, at_nat, at_0, at_1, at_2, at_3, at_4, opIx, fLen, coreE, coreL, opIsi, isTy, opAbs, opMin, opInt, opMul, is_nn, is_nt, is_nr, is_nb, is_ni, is_ntm, is_nst, eq_ii, ne_ii, eq_bb, ne_bb, -List.append_assoc, -List.length_append, h, h4']
theorem ones (l : List Nat) (f : Nat → Bool) : pyOfs ((l.filter f).map fun _ => D.int 1) = some ((l.filter f).map fun _ => PyData.int 1) := by
  induction l.filter f with
  | nil => rfl
  | cons x l ih =>
    show (match pyOf (D.int 1), pyOfs (l.map fun _ => D.int 1) with | some x, some xs => some (x :: xs) | _, _ => none) = _
    rw [ih]; rfl
theorem waitsP_src {m : Mc} {p : Nat} {ts : List Rat} {e : Nat} (h : (waitsP m p ts e).isSome = true) : (m.edge e).s = p := by
  unfold waitsP at h
  split at h
  · rename_i q; exact q.1
  · cases h
theorem lstuck_t (n : Nat) (m : Mc) (p : Nat) (ts : List Rat) (S : Store) (hm : McOk m) (hs : StS m p ts) : ev (n + 6) j__law_is_stuck [m.d, std p ts] S = .ok (.bl (isStuck m p ts)) S := by
  rw [u__law_is_stuck]
  refine run_pure rfl (by simp [initE, List.replicate, retS, retN, seqS, asgS, exprS, ifS, parS, skipS, setAll, varE, cstE, nilL, consL, tupE, mkL, un1, bin2, andE, orE, ifE, chainE, boolT, truthT, notT, andT, orT, yesT, callE, nameG, tupG, consG, nilG, itemsD, opNot, opAdd, opSub, opDiv, opMod, opNeg, opLt, opLe, opGt, opGe, opIsNot, opIs, ltD, leD, truth, at_nat, at_0, at_1, at_2, at_3, at_4, opIx, fLen, coreE, coreL, opIsi, isTy, opAbs, opMin, opInt, opMul, is_nn, is_nt, is_nr, is_nb, is_ni, is_ntm, is_nst, eq_ii, ne_ii, eq_bb, ne_bb]) ?_
  have h1 : lc__law_is_stuck_1 (ev (n + 5)) [some m.d, some (std p ts), none] ⟨S.objs, []⟩ = .ok (((List.range m.es.length).filter fun e => (waitsP m p ts e).isSome).map fun _ => .int 1) ⟨S.objs, []⟩ := by
    unfold lc__law_is_stuck_1
    rw [lcL_src (rng_len m hm _ _)]
    rw [lc_filt (I := fun _ => True) (onI fun e => if (waitsP m p ts e).isSome then some (.int 1) else none) trivial _ FU _ [] (PS.rng _ _ _) (by rw [intsFrom_len, FU_eq]; have := hm.el; omega) ?_]
    · rw [fm_ints, List.reverse_nil, List.nil_append]
      congr 1
      induction List.range m.es.length with
      | nil => rfl
      | cons x l ih =>
        rw [List.filterMap_cons, List.filter_cons]
        cases (waitsP m p ts x).isSome <;> simp [initE, List.replicate, retS, retN, seqS, asgS, exprS, ifS, parS, skipS, setAll, varE, cstE, nilL, consL, tupE, mkL, un1, bin2, andE, orE, ifE, chainE, boolT, truthT, notT, andT, orT, yesT, callE, nameG, tupG, consG, nilG, itemsD, opNot, opAdd, opSub, opDiv, opMod, opNeg, opLt, opLe, opGt, opGe, opIsNot, opIs, ltD, leD, truth, at_nat, at_0, at_1, at_2, at_3, at_4, opIx, fLen, coreE, coreL, opIsi, isTy, opAbs, opMin, opInt, opMul, is_nn, is_nt, is_nr, is_nb, is_ni, is_ntm, is_nst, eq_ii, ne_ii, eq_bb, ne_bb, ih]
    · intro d hd
      obtain ⟨e, rfl, he⟩ := mem_ints hd
      refine ⟨_, rfl, ?_⟩
      have h3 := opens_t n m p ts e ⟨S.objs, []⟩ hm hs he
      have h2 := edge_get m e he
      have hsrc := fun h => waitsP_src (m := m) (p := p) (ts := ts) (e := e) h
      generalize hE : m.edge e = x at *
      have hd : x.d = .tup [.int x.s, .int x.t, .int x.l, dms x.g, nts x.rs] := rfl
      have hp : atD [D.int p, tms ts] 0 = some (.int p) := rfl
      simp only [Mc.d, std] at h3
      cases hq : waitsP m p ts e with
      | none =>
        rw [hq] at h3
        refine .inl ⟨by simp [initE, List.replicate, retS, retN, seqS, asgS, exprS, ifS, parS, skipS, setAll, varE, cstE, nilL, consL, tupE, mkL, un1, bin2, andE, orE, ifE, chainE, boolT, truthT, notT, andT, orT, yesT, callE, nameG, tupG, consG, nilG, itemsD, opNot, opAdd, opSub, opDiv, opMod, opNeg, opLt, opLe, opGt, opGe, opIsNot, opIs, ltD, leD, truth, at_nat, at_0, at_1, at_2, at_3, at_4, opIx, fLen, coreE, coreL, opIsi, isTy, opAbs, opMin, opInt, opMul, is_nn, is_nt, is_nr, is_nb, is_ni, is_ntm, is_nst, eq_ii, ne_ii, eq_bb, ne_bb, onI, hq], ?_⟩
        by_cases a : x.s = p
        · simp -implicitDefEqProofs [initE, List.replicate, retS, retN, seqS, asgS, exprS, ifS, parS, skipS, setAll, varE, cstE, nilL, consL, tupE, mkL, un1, bin2, andE, orE, ifE, chainE, boolT, truthT, notT, andT, orT, yesT, callE, nameG, tupG, consG, nilG, itemsD, opNot, opAdd, opSub, opDiv, opMod, opNeg, opLt, opLe, opGt, opGe, opIsNot, opIs, ltD, leD, truth, at_nat, at_0, at_1, at_2, at_3, at_4, opIx, fLen, coreE, coreL, opIsi, isTy, opAbs, opMin, opInt, opMul, is_nn, is_nt, is_nr, is_nb, is_ni, is_ntm, is_nst, eq_ii, ne_ii, eq_bb, ne_bb, wipeE, Mc.d, std, h2, hd, hp, a, h3, waitD]
        · have a' : ¬ (x.s : Int) = (p : Int) := by omega
          simp -implicitDefEqProofs [initE, List.replicate, retS, retN, seqS, asgS, exprS, ifS, parS, skipS, setAll, varE, cstE, nilL, consL, tupE, mkL, un1, bin2, andE, orE, ifE, chainE, boolT, truthT, notT, andT, orT, yesT, callE, nameG, tupG, consG, nilG, itemsD, opNot, opAdd, opSub, opDiv, opMod, opNeg, opLt, opLe, opGt, opGe, opIsNot, opIs, ltD, leD, truth, at_nat, at_0, at_1, at_2, at_3, at_4, opIx, fLen, coreE, coreL, opIsi, isTy, opAbs, opMin, opInt, opMul, is_nn, is_nt, is_nr, is_nb, is_ni, is_ntm, is_nst, eq_ii, ne_ii, eq_bb, ne_bb, wipeE, Mc.d, std, h2, hd, hp, a, a']
      | some I =>
        rw [hq] at h3
        have a := hsrc (by rw [hq]; rfl)
        refine .inr ⟨.int 1, by simp [initE, List.replicate, retS, retN, seqS, asgS, exprS, ifS, parS, skipS, setAll, varE, cstE, nilL, consL, tupE, mkL, un1, bin2, andE, orE, ifE, chainE, boolT, truthT, notT, andT, orT, yesT, callE, nameG, tupG, consG, nilG, itemsD, opNot, opAdd, opSub, opDiv, opMod, opNeg, opLt, opLe, opGt, opGe, opIsNot, opIs, ltD, leD, truth, at_nat, at_0, at_1, at_2, at_3, at_4, opIx, fLen, coreE, coreL, opIsi, isTy, opAbs, opMin, opInt, opMul, is_nn, is_nt, is_nr, is_nb, is_ni, is_ntm, is_nst, eq_ii, ne_ii, eq_bb, ne_bb, onI, hq], ?_, rfl⟩
        simp -implicitDefEqProofs [initE, List.replicate, retS, retN, seqS, asgS, exprS, ifS, parS, skipS, setAll, varE, cstE, nilL, consL, tupE, mkL, un1, bin2, andE, orE, ifE, chainE, boolT, truthT, notT, andT, orT, yesT, callE, nameG, tupG, consG, nilG, itemsD, opNot, opAdd, opSub, opDiv, opMod, opNeg, opLt, opLe, opGt, opGe, opIsNot, opIs, ltD, leD, truth, at_nat, at_0, at_1, at_2, at_3, at_4, opIx, fLen, coreE, coreL, opIsi, isTy, opAbs, opMin, opInt, opMul, is_nn, is_nt, is_nr, is_nb, is_ni, is_ntm, is_nst, eq_ii, ne_ii, eq_bb, ne_bb, wipeE, Mc.d, std, h2, hd, hp, a, h3, waitD]
  have h2 := mk_nil_eq _ _ S.objs _ _ h1 (ones _ _)
  have hb : ∀ l : List Nat, (((l.filter fun e => (waitsP m p ts e).isSome).map fun _ => PyData.int 1).isEmpty) = (l.all fun e => (waitsP m p ts e).isNone) := by
    intro l
    induction l with
    | nil => rfl
    | cons x l ih =>
      rw [List.filter_cons, List.all_cons, ← ih]
      cases waitsP m p ts x <;> rfl
  rw [hb] at h2
  refine Wp.of (a := .rt (.bl (isStuck m p ts))) (S := ⟨S.objs ++ [.lst (((List.range m.es.length).filter fun e => (waitsP m p ts e).isSome).map fun _ => D.int 1)] ++ [.lst []], []⟩) ?_ ⟨rfl, ((Nw.refl _).alloc _).alloc _⟩
  have e0 : initE 3 [m.d, std p ts] = [some m.d, some (std p ts), none] := rfl
  unfold b__law_is_stuck
  unfold Ev.retS
  rw [e0, h2]
  rfl
def dp (x : Dm) : PyData := .tuple [.int x.c, .str x.r.s, .int x.n]
theorem pys_dm : ∀ l : List Dm, pyOfs (l.map Dm.d) = some (l.map dp)
  | [] => rfl
  | x :: l => by
    show (match pyOf x.d, pyOfs (l.map Dm.d) with | some x, some xs => some (x :: xs) | _, _ => none) = _
    rw [pys_dm l]; rfl
theorem ne_dms (l : List Dm) (S : Store) : opNe (dms l) (.tup []) S = .ok (.bl (!l.isEmpty)) S := by
  have e : eqD S (dms l) (.tup []) = some l.isEmpty := by
    show eqPy (pyOf (dms l)) (some (.tuple [])) = _
    have h1 : pyOf (dms l) = some (.tuple (l.map dp)) := by
      show (pyOfs (l.map Dm.d)).map PyData.tuple = _
      rw [pys_dm]; rfl
    rw [h1]
    unfold eqPy
    have h3 : shallow (.tuple (l.map dp)) (.tuple []) = true := by
      unfold shallow
      rw [Nat.ble_eq]
      exact Nat.le_trans (Nat.min_le_right _ _) (by decide)
    simp only [h3, if_true]
    cases l <;> rfl
  unfold opNe; rw [e]
theorem lstopped_t (n : Nat) (m : Mc) (p : Nat) (ts : List Rat) (S : Store) (hm : McOk m) (hs : StS m p ts) : ev (n + 7) j__law_is_stopped [m.d, std p ts] S = .ok (.bl (isStuck m p ts && !(m.stay p).isEmpty)) S := by
  rw [u__law_is_stopped]
  refine run_val rfl (by simp [initE, List.replicate, retS, retN, seqS, asgS, exprS, ifS, parS, skipS, setAll, varE, cstE, nilL, consL, tupE, mkL, un1, bin2, andE, orE, ifE, chainE, boolT, truthT, notT, andT, orT, yesT, callE, nameG, tupG, consG, nilG, itemsD, opNot, opAdd, opSub, opDiv, opMod, opNeg, opLt, opLe, opGt, opGe, opIsNot, opIs, ltD, leD, truth, at_nat, at_0, at_1, at_2, at_3, at_4, opIx, fLen, coreE, coreL, opIsi, isTy, opAbs, opMin, opInt, opMul, is_nn, is_nt, is_nr, is_nb, is_ni, is_ntm, is_nst, eq_ii, ne_ii, eq_bb, ne_bb]) ?_
  have h1 := lstuck_t n m p ts ⟨S.objs, []⟩ hm hs
  have h2 := stay_get m p hm hs.p
  have h3 := ne_dms (m.stay p) ⟨S.objs, []⟩
  simp only [Mc.d, std] at h1 ⊢
  cases h : (m.stay p).isEmpty <;> rw [h] at h3
  · simp -implicitDefEqProofs [initE, List.replicate, retS, retN, seqS, asgS, exprS, ifS, parS, skipS, setAll, varE, cstE, nilL, consL, tupE, mkL, un1, bin2, andE, orE, ifE, chainE, boolT, truthT, notT, andT, orT, yesT, callE, nameG, tupG, consG, nilG, itemsD, opNot, opAdd, opSub, opDiv, opMod, opNeg, opLt, opLe, opGt, opGe, opIsNot, opIs, ltD, leD, truth, at_nat, at_0, at_1, at_2, at_3, at_4, opIx, fLen, coreE, coreL, opIsi, isTy, opAbs, opMin, opInt, opMul, is_nn, is_nt, is_nr, is_nb, is_ni, is_ntm, is_nst, eq_ii, ne_ii, eq_bb, ne_bb, b__law_is_stopped, h2, h3, h1]
  · simp -implicitDefEqProofs [initE, List.replicate, retS, retN, seqS, asgS, exprS, ifS, parS, skipS, setAll, varE, cstE, nilL, consL, tupE, mkL, un1, bin2, andE, orE, ifE, chainE, boolT, truthT, notT, andT, orT, yesT, callE, nameG, tupG, consG, nilG, itemsD, opNot, opAdd, opSub, opDiv, opMod, opNeg, opLt, opLe, opGt, opGe, opIsNot, opIs, ltD, leD, truth, at_nat, at_0, at_1, at_2, at_3, at_4, opIx, fLen, coreE, coreL, opIsi, isTy, opAbs, opMin, opInt, opMul, is_nn, is_nt, is_nr, is_nb, is_ni, is_ntm, is_nst, eq_ii, ne_ii, eq_bb, ne_bb, b__law_is_stopped, h2, h3]
theorem edgeTo_spot {m : Mc} {p : Nat} {ts : List Rat} {e : Nat} {w : Rat} (h : letIn m p (ts.map (· + w)) = true) : (edgeTo m p (ts.map (· + w)) e).isSome = spotOk m p ts e w := by
  unfold edgeTo spotOk edgedL
  rw [h]
  by_cases a : (m.edge e).s = p
  · cases b : allH (ts.map (· + w)) (m.edge e).g <;> cases c : letIn m (m.edge e).t (rst (m.edge e).rs 0 (ts.map (· + w))) <;> simp [initE, List.replicate, retS, retN, seqS, asgS, exprS, ifS, parS, skipS, setAll, varE, cstE, nilL, consL, tupE, mkL, un1, bin2, andE, orE, ifE, chainE, boolT, truthT, notT, andT, orT, yesT, callE, nameG, tupG, consG, nilG, itemsD, opNot, opAdd, opSub, opDiv, opMod, opNeg, opLt, opLe, opGt, opGe, opIsNot, opIs, ltD, leD, truth, at_nat, at_0, at_1, at_2, at_3, at_4, opIx, fLen, coreE, coreL, opIsi, isTy, opAbs, opMin, opInt, opMul, is_nn, is_nt, is_nr, is_nb, is_ni, is_ntm, is_nst, eq_ii, ne_ii, eq_bb, ne_bb, a, b, c]
  · simp [initE, List.replicate, retS, retN, seqS, asgS, exprS, ifS, parS, skipS, setAll, varE, cstE, nilL, consL, tupE, mkL, un1, bin2, andE, orE, ifE, chainE, boolT, truthT, notT, andT, orT, yesT, callE, nameG, tupG, consG, nilG, itemsD, opNot, opAdd, opSub, opDiv, opMod, opNeg, opLt, opLe, opGt, opGe, opIsNot, opIs, ltD, leD, truth, at_nat, at_0, at_1, at_2, at_3, at_4, opIx, fLen, coreE, coreL, opIsi, isTy, opAbs, opMin, opInt, opMul, is_nn, is_nt, is_nr, is_nb, is_ni, is_ntm, is_nst, eq_ii, ne_ii, eq_bb, ne_bb, a]
theorem map_add_zero (ts : List Rat) : ts.map (· + 0) = ts := by
  induction ts with
  | nil => rfl
  | cons t ts ih => rw [List.map_cons, ih]; congr 1; grind
theorem waits_no_edge {m : Mc} {p : Nat} {ts : List Rat} {e : Nat} (hm : McOk m) (hs : StS m p ts) (he : e < m.es.length) (hl : letIn m p ts = true) (hw : waitsP m p ts e = none) : edgeTo m p ts e = none := by
  have h1 := spot_eq (w := 0) hm hs he (by decide)
  have h2 := edgeTo_spot (m := m) (p := p) (ts := ts) (e := e) (w := 0) (by rw [map_add_zero]; exact hl)
  rw [map_add_zero, h1] at h2
  unfold waitsP at hw
  split at hw
  · cases hw
  · rename_i q
    cases hE : edgeTo m p ts e with
    | none => rfl
    | some x =>
      rw [hE] at h2
      have h2 := h2.symm
      simp only [Option.isSome_some, Bool.and_eq_true, decide_eq_true_eq] at h2
      obtain ⟨⟨a, b⟩, c⟩ := h2
      exfalso
      refine q ⟨a, b, ?_⟩
      cases hno : (span m ts (m.edge e)).no
      · rfl
      · rw [no_mem hno] at c; cases c
theorem waitsP_mem {m : Mc} {p : Nat} {ts : List Rat} {e : Nat} {I : Iv} (hm : McOk m) (hs : StS m p ts) (he : e < m.es.length) (hw : waitsP m p ts e = some I) : (m.edge e).s = p ∧ I = span m ts (m.edge e) ∧ I.no = false ∧ ∀ w, 0 ≤ w → spotOk m p ts e w = I.mem w := by
  unfold waitsP at hw
  split at hw
  · rename_i q
    cases hw
    refine ⟨q.1, rfl, q.2.2, fun w h0 => ?_⟩
    rw [spot_eq hm hs he h0, q.2.1, decide_eq_true q.1]; rfl
  · cases hw
theorem tried (n : Nat) (m : Mc) (p : Nat) (ts : List Rat) (e : Nat) (w : Rat) (N D : Nat) (S : Store) (hm : McOk m) (hs : StS m p ts) (he : e < m.es.length) (hl : letIn m p ts = true) (h0 : 0 ≤ w) (hw : Sm N D w) (b1 : 11 * D + N * 4 ≤ 2 ^ 40) (b2 : 4 * D ≤ 900) :
    (letIn m p (ts.map (· + w)) = false ∧ ev (n + 9) j_waited [m.d, std p ts, tm w] S = .ok .non S ∧ spotOk m p ts e w = false) ∨ (ev (n + 9) j_waited [m.d, std p ts, tm w] S = .ok (std p (ts.map (· + w))) S ∧ ∃ d, ev (n + 9) j_edged [m.d, std p (ts.map (· + w)), .int e] S = .ok d S ∧ isC .non d = !spotOk m p ts e w) := by
  have hw64 : ok64 w := hw.mono (by omega) (by omega)
  have h1 := waited_t n m p ts w S hm hs.ok hw64 h0
  rw [hl] at h1
  cases h2 : letIn m p (ts.map (· + w)) <;> rw [h2] at h1
  · exact .inl ⟨rfl, h1, by unfold spotOk; rw [h2]; rfl⟩
  · have hst : StOk m p (ts.map (· + w)) := ⟨hs.p, by rw [List.length_map]; exact hs.l, fun q hq => by
      obtain ⟨y, hy, rfl⟩ := List.mem_map.mp hq
      obtain ⟨y1, y2⟩ := hs.t y hy
      exact ⟨by show 0 ≤ y + w; grind, (y2.add hw).mono b1 b2⟩⟩
    refine .inr ⟨h1, _, edged_t n m p (ts.map (· + w)) e S hm hst he, ?_⟩
    rw [← edgeTo_spot h2]
    cases edgeTo m p (ts.map (· + w)) e <;> rfl
end K81
set_option Elab.async false
set_option linter.all false
set_option maxRecDepth 100000
set_option maxHeartbeats 4000000
namespace K81
open PySem Ev
def fifth : Rat := ⟨1, 5, by decide, by decide⟩
theorem fifth_pos : 0 < fifth := by decide
theorem lk_waitD (o : Option Iv) : lkD 3 (waitD o) = true := by
  cases o with
  | none => rfl
  | some I =>
    obtain ⟨b, bc, e, ec⟩ := I
    cases e <;> rfl
def wD (x : Option Rat × Bool) : D := .tup [otm x.1, .bl x.2]
theorem wloop (n : Nat) (m : Mc) (p : Nat) (ts : List Rat) (e : Nat) (S : Store) (c x4 x5 x6 x7 x8 x9 x10 x11 x12 x13 : Option D) (hm : McOk m) (hs : StS m p ts) (he : e < m.es.length) (hl : letIn m p ts = true) (L : List (Option Rat × Bool)) (hn : L.length ≤ 100)
    (hL : ∀ x ∈ L, ∀ w, x.1 = some w → 0 ≤ w ∧ Sm 5000 200 w ∧ spotOk m p ts e w = x.2)
    (hst : tupE (consL (tupE (consL (varE 7) (consL (varE 8) nilL))) (consL (tupE (consL (varE 12) (consL (varE 13) nilL))) (consL (tupE (consL (ifE (boolT (un1 (opIsNot .non) (varE 12))) (callE (ev (n + 9)) j__law_halfway (consL (varE 7) (consL (varE 12) nilL))) (callE (ev (n + 9)) j__law_sum (consL (varE 7) (consL (tupE (consL (cstE (.int (9))) (consL (cstE (.int (1))) nilL))) nilL)))) (consL (orE (bin2 opNe (varE 7) (varE 12)) (varE 8)) nilL))) nilL))) [c, some m.d, some (std p ts), some (.int e), x4, x5, x6, x7, x8, x9, x10, x11, x12, x13] S = .ok (.tup (L.map wD)) S) :
    Wp (fo__law_waits_right_1 (ev (n + 9)) [c, some m.d, some (std p ts), some (.int e), x4, x5, x6, x7, x8, x9, x10, x11, x12, x13] S) fun f S' => S' = S ∧ ∃ x9 x10 x11, f = .nx [c, some m.d, some (std p ts), some (.int e), x4, x5, x6, x7, x8, x9, x10, x11, x12, x13] := by
  unfold fo__law_waits_right_1
  rw [forS_val hst]
  refine for_inv (I := fun _ => True) (P := fun ds env S' => ∃ (r : List (Option Rat × Bool)) (x9 x10 x11 : Option D), ds = r.map wD ∧ (∀ x ∈ r, ∀ w, x.1 = some w → 0 ≤ w ∧ Sm 5000 200 w ∧ spotOk m p ts e w = x.2) ∧ env = [c, some m.d, some (std p ts), some (.int e), x4, x5, x6, x7, x8, x9, x10, x11, x12, x13] ∧ S' = S) ?_ ?_ _ FU _ _ S (PS.fix _ _) (by rw [FU_eq, List.length_map]; omega) ⟨L, _, _, _, rfl, hL, rfl, rfl⟩
  · rintro d r env S' ⟨r', a9, a10, a11, e1, e2, rfl, rfl⟩
    cases r' with
    | nil => simp [initE, List.replicate, retS, retN, seqS, asgS, exprS, ifS, parS, skipS, setAll, varE, cstE, nilL, consL, tupE, mkL, un1, bin2, andE, orE, ifE, chainE, boolT, truthT, notT, andT, orT, yesT, callE, nameG, tupG, consG, nilG, itemsD, opNot, opAdd, opSub, opDiv, opMod, opNeg, opLt, opLe, opGt, opGe, opIsNot, opIs, ltD, leD, truth, at_nat, at_0, at_1, at_2, at_3, at_4, opIx, fLen, coreE, coreL, opIsi, isTy, opAbs, opMin, opInt, opMul, is_nn, is_nt, is_nr, is_nb, is_ni, is_ntm, is_nst, eq_ii, ne_ii, eq_bb, ne_bb] at e1
    | cons x r' =>
      simp only [List.map_cons, List.cons.injEq] at e1
      obtain ⟨rfl, rfl⟩ := e1
      refine ⟨trivial, _, _, rfl, ?_⟩
      have hx := e2 x List.mem_cons_self
      obtain ⟨o, g⟩ := x
      have fin : ∀ a11, ∃ (r : List (Option Rat × Bool)) (x9 x10 x11 : Option D), r'.map wD = r.map wD ∧ (∀ x ∈ r, ∀ w, x.1 = some w → 0 ≤ w ∧ Sm 5000 200 w ∧ spotOk m p ts e w = x.2) ∧ [c, some m.d, some (std p ts), some (.int e), x4, x5, x6, x7, x8, some (otm o), some (.bl g), a11, x12, x13] = [c, some m.d, some (std p ts), some (.int e), x4, x5, x6, x7, x8, x9, x10, x11, x12, x13] ∧ S' = S' := fun a11 => ⟨r', _, _, _, rfl, fun y hy => e2 y (List.mem_cons_of_mem _ hy), rfl, rfl⟩
      unfold fb__law_waits_right_1
      cases o with
      | none =>
        refine Wp.of (a := .nx [c, some m.d, some (std p ts), some (.int e), x4, x5, x6, x7, x8, some (otm none), some (.bl g), some .non, x12, x13]) (S := S') ?_ (fin _)
        simp -implicitDefEqProofs [initE, List.replicate, retS, retN, seqS, asgS, exprS, ifS, parS, skipS, setAll, varE, cstE, nilL, consL, tupE, mkL, un1, bin2, andE, orE, ifE, chainE, boolT, truthT, notT, andT, orT, yesT, callE, nameG, tupG, consG, nilG, itemsD, opNot, opAdd, opSub, opDiv, opMod, opNeg, opLt, opLe, opGt, opGe, opIsNot, opIs, ltD, leD, truth, at_nat, at_0, at_1, at_2, at_3, at_4, opIx, fLen, coreE, coreL, opIsi, isTy, opAbs, opMin, opInt, opMul, is_nn, is_nt, is_nr, is_nb, is_ni, is_ntm, is_nst, eq_ii, ne_ii, eq_bb, ne_bb, otm]
      | some w =>
        obtain ⟨w0, ws, wg⟩ := hx w rfl
        rcases tried n m p ts e w 5000 200 S' hm hs he hl w0 ws (by decide) (by decide) with ⟨t1, t2, t3⟩ | ⟨t1, d, t2, t3⟩
        · rw [t3] at wg
          simp only at wg
          subst wg
          refine Wp.of (a := .nx [c, some m.d, some (std p ts), some (.int e), x4, x5, x6, x7, x8, some (otm (some w)), some (.bl false), some .non, x12, x13]) (S := S') ?_ (fin _)
          simp -implicitDefEqProofs [initE, List.replicate, retS, retN, seqS, asgS, exprS, ifS, parS, skipS, setAll, varE, cstE, nilL, consL, tupE, mkL, un1, bin2, andE, orE, ifE, chainE, boolT, truthT, notT, andT, orT, yesT, callE, nameG, tupG, consG, nilG, itemsD, opNot, opAdd, opSub, opDiv, opMod, opNeg, opLt, opLe, opGt, opGe, opIsNot, opIs, ltD, leD, truth, at_nat, at_0, at_1, at_2, at_3, at_4, opIx, fLen, coreE, coreL, opIsi, isTy, opAbs, opMin, opInt, opMul, is_nn, is_nt, is_nr, is_nb, is_ni, is_ntm, is_nst, eq_ii, ne_ii, eq_bb, ne_bb, otm, t2]
        · rw [wg] at t3
          simp only at t3
          refine Wp.of (a := .nx [c, some m.d, some (std p ts), some (.int e), x4, x5, x6, x7, x8, some (otm (some w)), some (.bl g), some (std p (ts.map (· + w))), x12, x13]) (S := S') ?_ (fin _)
          simp -implicitDefEqProofs [initE, List.replicate, retS, retN, seqS, asgS, exprS, ifS, parS, skipS, setAll, varE, cstE, nilL, consL, tupE, mkL, un1, bin2, andE, orE, ifE, chainE, boolT, truthT, notT, andT, orT, yesT, callE, nameG, tupG, consG, nilG, itemsD, opNot, opAdd, opSub, opDiv, opMod, opNeg, opLt, opLe, opGt, opGe, opIsNot, opIs, ltD, leD, truth, at_nat, at_0, at_1, at_2, at_3, at_4, opIx, fLen, coreE, coreL, opIsi, isTy, opAbs, opMin, opInt, opMul, is_nn, is_nt, is_nr, is_nb, is_ni, is_ntm, is_nst, eq_ii, ne_ii, eq_bb, ne_bb, otm, t1, t2, t3]
  · rintro env S' ⟨r', a9, a10, a11, e1, e2, rfl, rfl⟩
    exact ⟨trivial, rfl, _, _, _, rfl⟩
theorem wright_t (n : Nat) (m : Mc) (p : Nat) (ts : List Rat) (e : Nat) (c : D) (S : Store) (hm : McOk m) (hs : StS m p ts) (he : e < m.es.length) (hl : letIn m p ts = true) : ev (n + 10) j__law_waits_right [c, m.d, std p ts, .int e] S = .ok (.bl true) S := by
  rw [u__law_waits_right]
  refine run_val rfl (by simp [initE, List.replicate, retS, retN, seqS, asgS, exprS, ifS, parS, skipS, setAll, varE, cstE, nilL, consL, tupE, mkL, un1, bin2, andE, orE, ifE, chainE, boolT, truthT, notT, andT, orT, yesT, callE, nameG, tupG, consG, nilG, itemsD, opNot, opAdd, opSub, opDiv, opMod, opNeg, opLt, opLe, opGt, opGe, opIsNot, opIs, ltD, leD, truth, at_nat, at_0, at_1, at_2, at_3, at_4, opIx, fLen, coreE, coreL, opIsi, isTy, opAbs, opMin, opInt, opMul, is_nn, is_nt, is_nr, is_nb, is_ni, is_ntm, is_nst, eq_ii, ne_ii, eq_bb, ne_bb]) ?_
  have h1 := opens_t (n + 4) m p ts e ⟨S.objs, []⟩ hm hs he
  have h2 := waits_to_edge_t n m p ts e ⟨S.objs, []⟩ hm hs hl he
  have h3 := edges_open_t n m p ts ⟨S.objs, []⟩ hm hs.ok
  have h4 := like_same 3 (n + 4) (waitD (waitsP m p ts e)) ⟨S.objs, []⟩ (lk_waitD _)
  have h5 := edge_get m e he
  have e0 : initE 14 [c, m.d, std p ts, .int e] = [some c, some m.d, some (std p ts), some (.int e), none, none, none, none, none, none, none, none, none, none] := rfl
  rw [e0]
  unfold b__law_waits_right
  have hd : (m.edge e).d = .tup [.int (m.edge e).s, .int (m.edge e).t, .int (m.edge e).l, dms (m.edge e).g, nts (m.edge e).rs] := rfl
  have hp : atD [D.int p, tms ts] 0 = some (.int p) := rfl
  have hix : ∀ S env, bin2 opNe (bin2 opIx (bin2 opIx (bin2 opIx (varE 1) (cstE (.int (3)))) (varE 3)) (cstE (.int (0)))) (bin2 opIx (varE 2) (cstE (.int (0)))) (some c :: some m.d :: some (std p ts) :: some (.int e) :: env) S = .ok (.bl (!decide ((m.edge e).s = p))) S := fun S env => by
    have : decide (((m.edge e).s : Int) = (p : Int)) = decide ((m.edge e).s = p) := by rw [decide_eq_decide]; omega
    simp -implicitDefEqProofs [initE, List.replicate, retS, retN, seqS, asgS, exprS, ifS, parS, skipS, setAll, varE, cstE, nilL, consL, tupE, mkL, un1, bin2, andE, orE, ifE, chainE, boolT, truthT, notT, andT, orT, yesT, callE, nameG, tupG, consG, nilG, itemsD, opNot, opAdd, opSub, opDiv, opMod, opNeg, opLt, opLe, opGt, opGe, opIsNot, opIs, ltD, leD, truth, at_nat, at_0, at_1, at_2, at_3, at_4, opIx, fLen, coreE, coreL, opIsi, isTy, opAbs, opMin, opInt, opMul, is_nn, is_nt, is_nr, is_nb, is_ni, is_ntm, is_nst, eq_ii, ne_ii, eq_bb, ne_bb, Mc.d, std, h5, hd, hp, this]
  rw [seq_nx (env1 := [some c, some m.d, some (std p ts), some (.int e), none, some (waitD (waitsP m p ts e)), some (waitD (waitsP m p ts e)), none, none, none, none, none, none, none]) (S1 := ⟨S.objs, []⟩) (by
    simp -implicitDefEqProofs [initE, List.replicate, retS, retN, seqS, asgS, exprS, ifS, parS, skipS, setAll, varE, cstE, nilL, consL, tupE, mkL, un1, bin2, andE, orE, ifE, chainE, boolT, truthT, notT, andT, orT, yesT, callE, nameG, tupG, consG, nilG, itemsD, opNot, opAdd, opSub, opDiv, opMod, opNeg, opLt, opLe, opGt, opGe, opIsNot, opIs, ltD, leD, truth, at_nat, at_0, at_1, at_2, at_3, at_4, opIx, fLen, coreE, coreL, opIsi, isTy, opAbs, opMin, opInt, opMul, is_nn, is_nt, is_nr, is_nb, is_ni, is_ntm, is_nst, eq_ii, ne_ii, eq_bb, ne_bb, h1, h2])]
  by_cases a : (m.edge e).s = p
  · rw [seq_nx (env1 := [some c, some m.d, some (std p ts), some (.int e), none, some (waitD (waitsP m p ts e)), some (waitD (waitsP m p ts e)), none, none, none, none, none, none, none]) (S1 := ⟨S.objs, []⟩) (by
      have := hix ⟨S.objs, []⟩ [none, some (waitD (waitsP m p ts e)), some (waitD (waitsP m p ts e)), none, none, none, none, none, none, none]
      unfold Ev.ifS Ev.boolT
      rw [this, decide_eq_true a]
      rfl)]
    rw [seq_nx (env1 := [some c, some m.d, some (std p ts), some (.int e), none, some (waitD (waitsP m p ts e)), some (waitD (waitsP m p ts e)), none, none, none, none, none, none, none]) (S1 := ⟨S.objs, []⟩) (by
      simp -implicitDefEqProofs [initE, List.replicate, retS, retN, seqS, asgS, exprS, ifS, parS, skipS, setAll, varE, cstE, nilL, consL, tupE, mkL, un1, bin2, andE, orE, ifE, chainE, boolT, truthT, notT, andT, orT, yesT, callE, nameG, tupG, consG, nilG, itemsD, opNot, opAdd, opSub, opDiv, opMod, opNeg, opLt, opLe, opGt, opGe, opIsNot, opIs, ltD, leD, truth, at_nat, at_0, at_1, at_2, at_3, at_4, opIx, fLen, coreE, coreL, opIsi, isTy, opAbs, opMin, opInt, opMul, is_nn, is_nt, is_nr, is_nb, is_ni, is_ntm, is_nst, eq_ii, ne_ii, eq_bb, ne_bb, h4])]
    cases hw : waitsP m p ts e with
    | none =>
      have h6 := waits_no_edge hm hs he hl hw
      have h7 : memD (.int e) (((List.range m.es.length).filter fun e => (edgeTo m p ts e).isSome).map nt) = some false := by
        have := memD_nat e ((List.range m.es.length).filter fun e => (edgeTo m p ts e).isSome)
        rw [show ((List.range m.es.length).filter fun e => (edgeTo m p ts e).isSome).map nt = ((List.range m.es.length).filter fun e => (edgeTo m p ts e).isSome).map (fun (c : Nat) => D.int (c : Int)) from rfl, this]
        congr 1
        rw [Bool.eq_false_iff]
        intro z
        rw [List.contains_iff_mem, List.mem_filter, h6] at z
        cases z.2
      simp -implicitDefEqProofs [initE, List.replicate, retS, retN, seqS, asgS, exprS, ifS, parS, skipS, setAll, varE, cstE, nilL, consL, tupE, mkL, un1, bin2, andE, orE, ifE, chainE, boolT, truthT, notT, andT, orT, yesT, callE, nameG, tupG, consG, nilG, itemsD, opNot, opAdd, opSub, opDiv, opMod, opNeg, opLt, opLe, opGt, opGe, opIsNot, opIs, ltD, leD, truth, at_nat, at_0, at_1, at_2, at_3, at_4, opIx, fLen, coreE, coreL, opIsi, isTy, opAbs, opMin, opInt, opMul, is_nn, is_nt, is_nr, is_nb, is_ni, is_ntm, is_nst, eq_ii, ne_ii, eq_bb, ne_bb, waitD, h3, opNotIn, inD, nts, h7]
    | some I =>
      obtain ⟨_, i1, i2, i3⟩ := waitsP_mem hm hs he hw
      have hx := edge_ok m e hm he
      have ok := span_ok m ts (m.edge e)
      have hL := conE_sm hm hs hx
      rw [← i1] at ok
      have hb := Ok_b ok hL
      have heS := Ok_e ok hL
      have b0 := ok.b0
      have hn := not_no i2
      have hbeg := mem_beg hn
      cases hE : I.e with
      | none =>
        have k1 := lsum_t (n + 6) I.b 9 ⟨S.objs, []⟩ (sm_ok hb (by decide) (by decide)) ⟨by decide, by decide⟩ b0 (by decide)
        have k1 : ev (n + 9) j__law_sum [tm I.b, .tup [.int 9, .int 1]] ⟨S.objs, []⟩ = .ok (tm (I.b + 9)) ⟨S.objs, []⟩ := k1
        have hlo := wloop n m p ts e ⟨S.objs, []⟩ (some c) none (some (waitD (some I))) (some (waitD (some I))) (some (tm I.b)) (some (.bl I.bc)) none none none (some .non) (some (.bl I.ec)) hm hs he hl [(some I.b, I.bc), (none, I.ec), (some (I.b + 9), true)] (by simp [initE, List.replicate, retS, retN, seqS, asgS, exprS, ifS, parS, skipS, setAll, varE, cstE, nilL, consL, tupE, mkL, un1, bin2, andE, orE, ifE, chainE, boolT, truthT, notT, andT, orT, yesT, callE, nameG, tupG, consG, nilG, itemsD, opNot, opAdd, opSub, opDiv, opMod, opNeg, opLt, opLe, opGt, opGe, opIsNot, opIs, ltD, leD, truth, at_nat, at_0, at_1, at_2, at_3, at_4, opIx, fLen, coreE, coreL, opIsi, isTy, opAbs, opMin, opInt, opMul, is_nn, is_nt, is_nr, is_nb, is_ni, is_ntm, is_nst, eq_ii, ne_ii, eq_bb, ne_bb]) (fun x hx w hxw => by
          simp only [List.mem_cons, List.not_mem_nil, or_false] at hx
          rcases hx with rfl | rfl | rfl
          · cases hxw
            exact ⟨b0, hb.mono (by decide) (by decide), by rw [i3 _ b0]; exact hbeg⟩
          · cases hxw
          · cases hxw
            have w0 : 0 ≤ I.b + 9 := by grind
            exact ⟨w0, (hb.add (show Sm 9 1 9 from ⟨by decide, by decide⟩)).mono (by decide) (by decide), by rw [i3 _ w0]; exact mem_in (by grind) (fun x hx => by rw [hE] at hx; cases hx)⟩) (by
          have : opNe (tm I.b) .non ⟨S.objs, []⟩ = .ok (.bl true) ⟨S.objs, []⟩ := rfl
          simp -implicitDefEqProofs [initE, List.replicate, retS, retN, seqS, asgS, exprS, ifS, parS, skipS, setAll, varE, cstE, nilL, consL, tupE, mkL, un1, bin2, andE, orE, ifE, chainE, boolT, truthT, notT, andT, orT, yesT, callE, nameG, tupG, consG, nilG, itemsD, opNot, opAdd, opSub, opDiv, opMod, opNeg, opLt, opLe, opGt, opGe, opIsNot, opIs, ltD, leD, truth, at_nat, at_0, at_1, at_2, at_3, at_4, opIx, fLen, coreE, coreL, opIsi, isTy, opAbs, opMin, opInt, opMul, is_nn, is_nt, is_nr, is_nb, is_ni, is_ntm, is_nst, eq_ii, ne_ii, eq_bb, ne_bb, k1, this, wD, otm])
        refine Wp.elim hlo ?_
        rintro f S' r1 ⟨rfl, x9, x10, x11, rfl⟩
        simp -implicitDefEqProofs [initE, List.replicate, retS, retN, seqS, asgS, exprS, ifS, parS, skipS, setAll, varE, cstE, nilL, consL, tupE, mkL, un1, bin2, andE, orE, ifE, chainE, boolT, truthT, notT, andT, orT, yesT, callE, nameG, tupG, consG, nilG, itemsD, opNot, opAdd, opSub, opDiv, opMod, opNeg, opLt, opLe, opGt, opGe, opIsNot, opIs, ltD, leD, truth, at_nat, at_0, at_1, at_2, at_3, at_4, opIx, fLen, coreE, coreL, opIsi, isTy, opAbs, opMin, opInt, opMul, is_nn, is_nt, is_nr, is_nb, is_ni, is_ntm, is_nst, eq_ii, ne_ii, eq_bb, ne_bb, waitD, endD, otm, hE]
        simp only [waitD, endD, otm, hE] at r1
        simp -implicitDefEqProofs [initE, List.replicate, retS, retN, seqS, asgS, exprS, ifS, parS, skipS, setAll, varE, cstE, nilL, consL, tupE, mkL, un1, bin2, andE, orE, ifE, chainE, boolT, truthT, notT, andT, orT, yesT, callE, nameG, tupG, consG, nilG, itemsD, opNot, opAdd, opSub, opDiv, opMod, opNeg, opLt, opLe, opGt, opGe, opIsNot, opIs, ltD, leD, truth, at_nat, at_0, at_1, at_2, at_3, at_4, opIx, fLen, coreE, coreL, opIsi, isTy, opAbs, opMin, opInt, opMul, is_nn, is_nt, is_nr, is_nb, is_ni, is_ntm, is_nst, eq_ii, ne_ii, eq_bb, ne_bb, r1]
      | some x =>
        have hxs := heS x hE
        have bx : I.b ≤ x := by rcases hn x hE with h | ⟨h, _⟩ <;> grind
        have x0 : 0 ≤ x := by grind
        have k1 := lhalf_t (n + 6) I.b x ⟨S.objs, []⟩ (hb.mono (by decide) (by decide)) (hxs.mono (by decide) (by decide)) b0 x0
        have m0 : 0 ≤ (I.b + x) / 2 := by grind
        have hmid : I.mem ((I.b + x) / 2) = (!decide (I.b = x) || I.bc) := by
          by_cases hbx : I.b = x
          · rcases hn x hE with h | ⟨h, hb1, hb2⟩
            · grind
            · have : (I.b + x) / 2 = I.b := by grind
              rw [this, hbeg, hb1]; simp [initE, List.replicate, retS, retN, seqS, asgS, exprS, ifS, parS, skipS, setAll, varE, cstE, nilL, consL, tupE, mkL, un1, bin2, andE, orE, ifE, chainE, boolT, truthT, notT, andT, orT, yesT, callE, nameG, tupG, consG, nilG, itemsD, opNot, opAdd, opSub, opDiv, opMod, opNeg, opLt, opLe, opGt, opGe, opIsNot, opIs, ltD, leD, truth, at_nat, at_0, at_1, at_2, at_3, at_4, opIx, fLen, coreE, coreL, opIsi, isTy, opAbs, opMin, opInt, opMul, is_nn, is_nt, is_nr, is_nb, is_ni, is_ntm, is_nst, eq_ii, ne_ii, eq_bb, ne_bb]
          · rw [mem_in (by grind) (fun y hy => by rw [hE] at hy; cases hy; grind), decide_eq_false hbx]; rfl
        have hend : I.mem x = I.ec := by
          rcases hn x hE with h | ⟨h, hb1, hb2⟩
          · exact mem_end hE h
          · rw [← h, hbeg, hb1, hb2]
        have hlo := wloop n m p ts e ⟨S.objs, []⟩ (some c) none (some (waitD (some I))) (some (waitD (some I))) (some (tm I.b)) (some (.bl I.bc)) none none none (some (tm x)) (some (.bl I.ec)) hm hs he hl [(some I.b, I.bc), (some x, I.ec), (some ((I.b + x) / 2), (!decide (I.b = x) || I.bc))] (by simp [initE, List.replicate, retS, retN, seqS, asgS, exprS, ifS, parS, skipS, setAll, varE, cstE, nilL, consL, tupE, mkL, un1, bin2, andE, orE, ifE, chainE, boolT, truthT, notT, andT, orT, yesT, callE, nameG, tupG, consG, nilG, itemsD, opNot, opAdd, opSub, opDiv, opMod, opNeg, opLt, opLe, opGt, opGe, opIsNot, opIs, ltD, leD, truth, at_nat, at_0, at_1, at_2, at_3, at_4, opIx, fLen, coreE, coreL, opIsi, isTy, opAbs, opMin, opInt, opMul, is_nn, is_nt, is_nr, is_nb, is_ni, is_ntm, is_nst, eq_ii, ne_ii, eq_bb, ne_bb]) (fun y hy w hyw => by
          simp only [List.mem_cons, List.not_mem_nil, or_false] at hy
          rcases hy with rfl | rfl | rfl
          · cases hyw
            exact ⟨b0, hb.mono (by decide) (by decide), by rw [i3 _ b0]; exact hbeg⟩
          · cases hyw
            exact ⟨x0, hxs.mono (by decide) (by decide), by rw [i3 _ x0]; exact hend⟩
          · cases hyw
            exact ⟨m0, (hb.half hxs).mono (by decide) (by decide), by rw [i3 _ m0]; exact hmid⟩) (by
          have := opNe_tm I.b x ⟨S.objs, []⟩
          by_cases hbx : I.b = x
          · subst hbx
            rw [decide_eq_true rfl] at this
            simp -implicitDefEqProofs [initE, List.replicate, retS, retN, seqS, asgS, exprS, ifS, parS, skipS, setAll, varE, cstE, nilL, consL, tupE, mkL, un1, bin2, andE, orE, ifE, chainE, boolT, truthT, notT, andT, orT, yesT, callE, nameG, tupG, consG, nilG, itemsD, opNot, opAdd, opSub, opDiv, opMod, opNeg, opLt, opLe, opGt, opGe, opIsNot, opIs, ltD, leD, truth, at_nat, at_0, at_1, at_2, at_3, at_4, opIx, fLen, coreE, coreL, opIsi, isTy, opAbs, opMin, opInt, opMul, is_nn, is_nt, is_nr, is_nb, is_ni, is_ntm, is_nst, eq_ii, ne_ii, eq_bb, ne_bb, k1, this, wD, otm]
          · rw [decide_eq_false hbx] at this
            simp -implicitDefEqProofs [initE, List.replicate, retS, retN, seqS, asgS, exprS, ifS, parS, skipS, setAll, varE, cstE, nilL, consL, tupE, mkL, un1, bin2, andE, orE, ifE, chainE, boolT, truthT, notT, andT, orT, yesT, callE, nameG, tupG, consG, nilG, itemsD, opNot, opAdd, opSub, opDiv, opMod, opNeg, opLt, opLe, opGt, opGe, opIsNot, opIs, ltD, leD, truth, at_nat, at_0, at_1, at_2, at_3, at_4, opIx, fLen, coreE, coreL, opIsi, isTy, opAbs, opMin, opInt, opMul, is_nn, is_nt, is_nr, is_nb, is_ni, is_ntm, is_nst, eq_ii, ne_ii, eq_bb, ne_bb, k1, this, wD, otm, hbx])
        refine Wp.elim hlo ?_
        rintro f S' r1 ⟨rfl, x9, x10, x11, rfl⟩
        have hf := fifth_pos
        have y0 : (0 : Rat) ≤ x + fifth := by grind
        have k2 := lsum_t (n + 6) x fifth ⟨S.objs, []⟩ (sm_ok hxs (by decide) (by decide)) ⟨by decide, by decide⟩ x0 (by decide)
        have k2 : ev (n + 9) j__law_sum [tm x, .tup [.int 1, .int 5]] ⟨S.objs, []⟩ = .ok (tm (x + fifth)) ⟨S.objs, []⟩ := k2
        have hno : spotOk m p ts e (x + fifth) = false := by
          rw [i3 _ y0]
          exact mem_above hE (by grind)
        simp only [waitD, endD, otm, hE] at r1
        rcases tried n m p ts e (x + fifth) 459 20 ⟨S.objs, []⟩ hm hs he hl y0 ((hxs.add (show Sm 1 5 fifth from ⟨by decide, by decide⟩)).mono (by decide) (by decide)) (by decide) (by decide) with ⟨t1, t2, t3⟩ | ⟨t1, d, t2, t3⟩
        · simp -implicitDefEqProofs [initE, List.replicate, retS, retN, seqS, asgS, exprS, ifS, parS, skipS, setAll, varE, cstE, nilL, consL, tupE, mkL, un1, bin2, andE, orE, ifE, chainE, boolT, truthT, notT, andT, orT, yesT, callE, nameG, tupG, consG, nilG, itemsD, opNot, opAdd, opSub, opDiv, opMod, opNeg, opLt, opLe, opGt, opGe, opIsNot, opIs, ltD, leD, truth, at_nat, at_0, at_1, at_2, at_3, at_4, opIx, fLen, coreE, coreL, opIsi, isTy, opAbs, opMin, opInt, opMul, is_nn, is_nt, is_nr, is_nb, is_ni, is_ntm, is_nst, eq_ii, ne_ii, eq_bb, ne_bb, waitD, endD, otm, hE, r1, k2, t2]
        · rw [hno] at t3
          simp -implicitDefEqProofs [initE, List.replicate, retS, retN, seqS, asgS, exprS, ifS, parS, skipS, setAll, varE, cstE, nilL, consL, tupE, mkL, un1, bin2, andE, orE, ifE, chainE, boolT, truthT, notT, andT, orT, yesT, callE, nameG, tupG, consG, nilG, itemsD, opNot, opAdd, opSub, opDiv, opMod, opNeg, opLt, opLe, opGt, opGe, opIsNot, opIs, ltD, leD, truth, at_nat, at_0, at_1, at_2, at_3, at_4, opIx, fLen, coreE, coreL, opIsi, isTy, opAbs, opMin, opInt, opMul, is_nn, is_nt, is_nr, is_nb, is_ni, is_ntm, is_nst, eq_ii, ne_ii, eq_bb, ne_bb, waitD, endD, otm, hE, r1, k2, t1, t2, t3]
  · have hw : waitsP m p ts e = none := by
      cases hq : waitsP m p ts e with
      | none => rfl
      | some I => exact absurd (waitsP_src (by rw [hq]; rfl)) a
    have := hix ⟨S.objs, []⟩ [none, some (waitD (waitsP m p ts e)), some (waitD (waitsP m p ts e)), none, none, none, none, none, none, none]
    rw [decide_eq_false a] at this
    unfold Ev.seqS Ev.ifS Ev.boolT
    rw [this, hw]
    rfl
end K81
set_option Elab.async false
set_option linter.all false
set_option maxRecDepth 100000
set_option maxHeartbeats 4000000
namespace K81
open PySem Ev
theorem ix2_0 : ixD 2 0 = some 0 := rfl
theorem ix2_1 : ixD 2 1 = some 1 := rfl
theorem roll_w (n c a b many : Nat) (S : Store) (hS : S.objs[c]? = some (cupO a b)) (hm : 0 < many) (hm2 : many < 2 ^ 64) : Wp (ev (n + 1) j__law_roll [.ref c, .int many] S) fun d S' => (∃ v : Nat, v < many ∧ d = .int v) ∧ CuStep c S S' := by
  rw [u__law_roll]
  have hc : c < S.objs.length := (List.getElem?_eq_some_iff.mp hS).1
  have hs : ∀ o, (S.objs.set c o)[c]? = some o := fun o => by rw [List.getElem?_set_self hc]
  refine run_cup rfl hc ?_
  have hd : divOk (many : Int) = true := divOk_s (by omega) (by rw [Int.natAbs_natCast]; exact hm2)
  have hN : ∀ x y : Nat, NwC c S.objs ⟨S.objs.set c (cupO x y), [c]⟩ := fun x y => ⟨x, y, [], by simp [initE, List.replicate, retS, retN, seqS, asgS, exprS, ifS, parS, skipS, setAll, varE, cstE, nilL, consL, tupE, mkL, un1, bin2, andE, orE, ifE, chainE, boolT, truthT, notT, andT, orT, yesT, callE, nameG, tupG, consG, nilG, itemsD, opNot, opAdd, opSub, opDiv, opMod, opNeg, opLt, opLe, opGt, opGe, opIsNot, opIs, ltD, leD, truth, at_nat, at_0, at_1, at_2, at_3, at_4, opIx, fLen, coreE, coreL, opIsi, isTy, opAbs, opMin, opInt, opMul, is_nn, is_nt, is_nr, is_nb, is_ni, is_ntm, is_nst, eq_ii, ne_ii, eq_bb, ne_bb], fun k hk => .inr (by simpa using hk)⟩
  have e0 : initE 4 [D.ref c, .int many] = [some (.ref c), some (.int many), none, none] := rfl
  rw [e0]
  have hm' : (0 : Int) < (many : Int) := by omega
  by_cases h : 0 < a
  · have h' : (0 : Int) < (a : Int) := by omega
    refine Wp.of (a := .rt (.int ((a % many : Nat) : Int))) (S := ⟨S.objs.set c (cupO (a / many) b), [c]⟩) ?_ ⟨_, rfl, by simp [initE, List.replicate, retS, retN, seqS, asgS, exprS, ifS, parS, skipS, setAll, varE, cstE, nilL, consL, tupE, mkL, un1, bin2, andE, orE, ifE, chainE, boolT, truthT, notT, andT, orT, yesT, callE, nameG, tupG, consG, nilG, itemsD, opNot, opAdd, opSub, opDiv, opMod, opNeg, opLt, opLe, opGt, opGe, opIsNot, opIs, ltD, leD, truth, at_nat, at_0, at_1, at_2, at_3, at_4, opIx, fLen, coreE, coreL, opIsi, isTy, opAbs, opMin, opInt, opMul, is_nn, is_nt, is_nr, is_nb, is_ni, is_ntm, is_nst, eq_ii, ne_ii, eq_bb, ne_bb], ⟨a % many, Nat.mod_lt _ hm, rfl⟩, hN _ _⟩
    simp -implicitDefEqProofs [initE, List.replicate, retS, retN, seqS, asgS, exprS, ifS, parS, skipS, setAll, varE, cstE, nilL, consL, tupE, mkL, un1, bin2, andE, orE, ifE, chainE, boolT, truthT, notT, andT, orT, yesT, callE, nameG, tupG, consG, nilG, itemsD, opNot, opAdd, opSub, opDiv, opMod, opNeg, opLt, opLe, opGt, opGe, opIsNot, opIs, ltD, leD, truth, at_nat, at_0, at_1, at_2, at_3, at_4, opIx, fLen, coreE, coreL, opIsi, isTy, opAbs, opMin, opInt, opMul, is_nn, is_nt, is_nr, is_nb, is_ni, is_ntm, is_nst, eq_ii, ne_ii, eq_bb, ne_bb, b__law_roll, hS, h, hm, subG, hd, ix2_0, Store.set, addD_nil]
    rfl
  · have h0 : a = 0 := by omega
    subst h0
    have k1 : mulOk (b : Int) 31051 = true := mulOk_r (by decide)
    have k2 : ((b : Int) * 31051 + 7993) % 2147483543 = (((b * 31051 + 7993) % 2147483543 : Nat) : Int) := by
      rw [Int.natCast_emod, Int.natCast_add, Int.natCast_mul]; rfl
    have k3 : (b * 31051 + 7993) % 2147483543 < 2147483543 := Nat.mod_lt _ (by decide)
    generalize (b * 31051 + 7993) % 2147483543 = b1 at k2 k3
    have k4 : mulOk (b1 : Int) ((b1 : Int) + 229) = true := mulOk_l (by rw [Int.natAbs_natCast]; omega)
    have k5 : ((b1 : Int) * ((b1 : Int) + 229)) % 2147483587 / 821 % (many : Int) = (((b1 * (b1 + 229)) % 2147483587 / 821 % many : Nat) : Int) := by
      rw [Int.natCast_emod, Int.natCast_ediv, Int.natCast_emod, Int.natCast_mul, Int.natCast_add]; rfl
    have k6 : divOk 821 = true := divOk_s (by decide) (by decide)
    refine Wp.of (a := .rt (.int (((b1 * (b1 + 229)) % 2147483587 / 821 % many : Nat) : Int))) (S := ⟨S.objs.set c (cupO 0 b1), [c]⟩) ?_ ⟨_, rfl, by simp [initE, List.replicate, retS, retN, seqS, asgS, exprS, ifS, parS, skipS, setAll, varE, cstE, nilL, consL, tupE, mkL, un1, bin2, andE, orE, ifE, chainE, boolT, truthT, notT, andT, orT, yesT, callE, nameG, tupG, consG, nilG, itemsD, opNot, opAdd, opSub, opDiv, opMod, opNeg, opLt, opLe, opGt, opGe, opIsNot, opIs, ltD, leD, truth, at_nat, at_0, at_1, at_2, at_3, at_4, opIx, fLen, coreE, coreL, opIsi, isTy, opAbs, opMin, opInt, opMul, is_nn, is_nt, is_nr, is_nb, is_ni, is_ntm, is_nst, eq_ii, ne_ii, eq_bb, ne_bb], ⟨_, Nat.mod_lt _ hm, rfl⟩, hN _ _⟩
    rw [← k5]
    simp -implicitDefEqProofs [initE, List.replicate, retS, retN, seqS, asgS, exprS, ifS, parS, skipS, setAll, varE, cstE, nilL, consL, tupE, mkL, un1, bin2, andE, orE, ifE, chainE, boolT, truthT, notT, andT, orT, yesT, callE, nameG, tupG, consG, nilG, itemsD, opNot, opAdd, opSub, opDiv, opMod, opNeg, opLt, opLe, opGt, opGe, opIsNot, opIs, ltD, leD, truth, at_nat, at_0, at_1, at_2, at_3, at_4, opIx, fLen, coreE, coreL, opIsi, isTy, opAbs, opMin, opInt, opMul, is_nn, is_nt, is_nr, is_nb, is_ni, is_ntm, is_nst, eq_ii, ne_ii, eq_bb, ne_bb, b__law_roll, hS, hm, subG, ix2_1, Store.set, addD_nil, k1, k2, hs, k4, k6]
    rfl
theorem some_w (n c l : Nat) (xs : List D) (S : Store) (hS : ∃ a b, S.objs[c]? = some (cupO a b)) (hl : S.objs[l]? = some (.lst xs)) (hne : l ≠ c) (hx : 0 < xs.length) (hx2 : xs.length < 2 ^ 64) (hf : ∀ x ∈ xs, flat x = true) : Wp (ev (n + 2) j__law_some [.ref c, .ref l] S) fun d S' => d ∈ xs ∧ CuStep c S S' := by
  rw [u__law_some]
  obtain ⟨a, b, hS⟩ := hS
  have hc : c < S.objs.length := (List.getElem?_eq_some_iff.mp hS).1
  refine run_cup rfl hc ?_
  refine Wp.elim (roll_w n c a b xs.length ⟨S.objs, []⟩ hS hx hx2) ?_
  rintro d S1 e1 ⟨⟨v, hv, rfl⟩, st⟩
  have h2 : S1.objs[l]? = some (.lst xs) := by rw [st.other hne]; exact hl
  have h3 : xs[v]? = some xs[v] := List.getElem?_eq_getElem hv
  refine Wp.of (a := .rt xs[v]) (S := S1) ?_ ⟨_, rfl, hf _ (List.getElem_mem hv), List.getElem_mem hv, (NwC.refl hS).step hc st⟩
  simp -implicitDefEqProofs [initE, List.replicate, retS, retN, seqS, asgS, exprS, ifS, parS, skipS, setAll, varE, cstE, nilL, consL, tupE, mkL, un1, bin2, andE, orE, ifE, chainE, boolT, truthT, notT, andT, orT, yesT, callE, nameG, tupG, consG, nilG, itemsD, opNot, opAdd, opSub, opDiv, opMod, opNeg, opLt, opLe, opGt, opGe, opIsNot, opIs, ltD, leD, truth, at_nat, at_0, at_1, at_2, at_3, at_4, opIx, fLen, coreE, coreL, opIsi, isTy, opAbs, opMin, opInt, opMul, is_nn, is_nt, is_nr, is_nb, is_ni, is_ntm, is_nst, eq_ii, ne_ii, eq_bb, ne_bb, b__law_some, hl, e1, h2, h3]
def ky (x : Dm) : KyL := [.inl x.c, .inr x.r.s, .inl x.n]
theorem str_rl (a b : Rl) : strEq a.s b.s = decide (a = b) := by cases a <;> cases b <;> rfl
theorem Dm_eq {a b : Dm} : (decide ((a.c : Int) = b.c) && (decide (a.r = b.r) && (decide ((a.n : Int) = b.n) && true))) = true ↔ a = b := by
  obtain ⟨ac, ar, an⟩ := a
  obtain ⟨bc, br, bn⟩ := b
  simp only [Bool.and_true, Bool.and_eq_true, decide_eq_true_eq, Dm.mk.injEq]
  constructor
  · rintro ⟨h1, h2, h3⟩; exact ⟨by omega, h2, by omega⟩
  · rintro ⟨rfl, rfl, rfl⟩; exact ⟨rfl, rfl, rfl⟩
theorem ky_eq (a b : Dm) : kyEq (ky a) (ky b) = true ↔ a = b := by
  have e : kyEq (ky a) (ky b) = (decide ((a.c : Int) = b.c) && (strEq a.r.s b.r.s && (decide ((a.n : Int) = b.n) && true))) := rfl
  rw [e, str_rl, Dm_eq]
theorem eqv_str (x y : Rl) : PyData.eqv (.str x.s) (.str y.s) = decide (x = y) := by cases x <;> cases y <;> rfl
theorem eqv_dp (a b : Dm) : PyData.eqv (dp a) (dp b) = true ↔ a = b := by
  have e : PyData.eqv (dp a) (dp b) = (decide ((a.c : Int) = b.c) && (PyData.eqv (.str a.r.s) (.str b.r.s) && (decide ((a.n : Int) = b.n) && true))) := rfl
  rw [e, eqv_str, Dm_eq]
def kvO (L : List Dm) : List (KyL × D) := L.map fun x => (ky x, .bl true)
theorem hasKy_iff (x : Dm) : ∀ L : List Dm, hasKy (ky x) (kvO L) = true ↔ x ∈ L
  | [] => by simp [initE, List.replicate, retS, retN, seqS, asgS, exprS, ifS, parS, skipS, setAll, varE, cstE, nilL, consL, tupE, mkL, un1, bin2, andE, orE, ifE, chainE, boolT, truthT, notT, andT, orT, yesT, callE, nameG, tupG, consG, nilG, itemsD, opNot, opAdd, opSub, opDiv, opMod, opNeg, opLt, opLe, opGt, opGe, opIsNot, opIs, ltD, leD, truth, at_nat, at_0, at_1, at_2, at_3, at_4, opIx, fLen, coreE, coreL, opIsi, isTy, opAbs, opMin, opInt, opMul, is_nn, is_nt, is_nr, is_nb, is_ni, is_ntm, is_nst, eq_ii, ne_ii, eq_bb, ne_bb, kvO, hasKy]
  | y :: L => by
    have e : hasKy (ky x) (kvO (y :: L)) = (kyEq (ky y) (ky x) || hasKy (ky x) (kvO L)) := rfl
    rw [e, Bool.or_eq_true, ky_eq, hasKy_iff x L, List.mem_cons]
    constructor
    · rintro (rfl | h)
      · exact .inl rfl
      · exact .inr h
    · rintro (rfl | h)
      · exact .inl rfl
      · exact .inr h
theorem repl_same (x : Dm) : ∀ L : List Dm, replKy (ky x) (.bl true) (kvO L) = kvO L
  | [] => rfl
  | y :: L => by
    have e : replKy (ky x) (.bl true) (kvO (y :: L)) = (if kyEq (ky y) (ky x) then (ky y, .bl true) else (ky y, .bl true)) :: replKy (ky x) (.bl true) (kvO L) := rfl
    rw [e, repl_same x L]
    split <;> rfl
theorem putKy_dm (x : Dm) (L : List Dm) [Decidable (x ∈ L)] : putKy (ky x) (.bl true) (kvO L) = kvO (if x ∈ L then L else L ++ [x]) := by
  unfold putKy
  by_cases h : x ∈ L
  · rw [if_pos ((hasKy_iff x L).mpr h), if_pos h, repl_same]
  · rw [if_neg (fun z => h ((hasKy_iff x L).mp z)), if_neg h]
    simp [initE, List.replicate, retS, retN, seqS, asgS, exprS, ifS, parS, skipS, setAll, varE, cstE, nilL, consL, tupE, mkL, un1, bin2, andE, orE, ifE, chainE, boolT, truthT, notT, andT, orT, yesT, callE, nameG, tupG, consG, nilG, itemsD, opNot, opAdd, opSub, opDiv, opMod, opNeg, opLt, opLe, opGt, opGe, opIsNot, opIs, ltD, leD, truth, at_nat, at_0, at_1, at_2, at_3, at_4, opIx, fLen, coreE, coreL, opIsi, isTy, opAbs, opMin, opInt, opMul, is_nn, is_nt, is_nr, is_nb, is_ni, is_ntm, is_nst, eq_ii, ne_ii, eq_bb, ne_bb, kvO]
end K81
set_option Elab.async false
set_option linter.all false
set_option maxRecDepth 100000
set_option maxHeartbeats 4000000
namespace K81
open PySem Ev
def rlD (r : Rl) : D := .str r.s
theorem keys_kvO (L : List Dm) : keysOf (kvO L) = L.map Dm.d := by
  unfold keysOf kvO
  rw [List.map_map]; rfl
theorem sort_dms (L : List Dm) (hd : L.Nodup) (hl : L.length ≤ 1000) : ∃ Z : List Dm, sortC (L.map Dm.d) = some (Z.map Dm.d) ∧ Z.Perm L ∧ risD (Z.map Dm.d) = true := by
  refine sort_enc Dm.d dp (fun a => rfl) (fun a => ⟨_, rfl⟩) (fun a => rfl) L (fun a _ b _ => rfl) (fun a _ => by show 1 ≤ 64; decide) ?_ (by omega)
  refine List.Pairwise.imp (fun {a b} h => ?_) hd
  constructor
  · rw [Bool.eq_false_iff]; intro z; exact h ((eqv_dp a b).mp z)
  · rw [Bool.eq_false_iff]; intro z; exact h ((eqv_dp b a).mp z).symm
theorem demands_w (n c l clocks most greatest : Nat) (rl : List Rl) (S : Store) (hS : ∃ a b, S.objs[c]? = some (cupO a b)) (hl : S.objs[l]? = some (.lst (rl.map rlD))) (hne : l ≠ c) (hr : 0 < rl.length) (hr2 : rl.length ≤ 100) (hk : clocks ≤ 3) (hm : most ≤ 10) (hg : greatest ≤ 20) :
    Wp (ev (n + 3) j__law_demands [.ref c, .int clocks, .int most, .ref l, .int greatest] S) fun d S' => (∃ L, d = dms L ∧ DmsOk clocks L ∧ L.length ≤ most ∧ ∀ x ∈ L, x.r ∈ rl) ∧ CuStep c S S' := by
  rw [u__law_demands]
  obtain ⟨a, b, hS⟩ := hS
  have hc : c < S.objs.length := (List.getElem?_eq_some_iff.mp hS).1
  have hll : l < S.objs.length := (List.getElem?_eq_some_iff.mp hl).1
  refine run_cup rfl hc ?_
  have e0 : initE 7 [D.ref c, .int clocks, .int most, .ref l, .int greatest] = [some (.ref c), some (.int clocks), some (.int most), some (.ref l), some (.int greatest), none, none] := rfl
  rw [e0]
  unfold b__law_demands
  rw [seq_nx (env1 := [some (.ref c), some (.int clocks), some (.int most), some (.ref l), some (.int greatest), some (.ref S.objs.length), none]) (S1 := ⟨S.objs ++ [.dct []], []⟩) rfl]
  have hN1 : NwC c S.objs ⟨S.objs ++ [.dct []], []⟩ := (NwC.refl hS).alloc _
  have hturn : Wp (ifE (boolT (bin2 opGt (varE 1) (cstE (.int (0))))) (callE (ev (n + 2)) j__law_roll (consL (varE 0) (consL (bin2 opAdd (varE 2) (cstE (.int (1)))) nilL))) (cstE (.int (0))) [some (.ref c), some (.int clocks), some (.int most), some (.ref l), some (.int greatest), some (.ref S.objs.length), none] ⟨S.objs ++ [.dct []], []⟩) fun d S' => ∃ v : Nat, d = .int v ∧ v ≤ most ∧ (0 < v → 0 < clocks) ∧ CuStep c ⟨S.objs ++ [.dct []], []⟩ S' := by
    by_cases h0 : 0 < clocks
    · obtain ⟨a', b', h⟩ := hN1.cup hc
      refine Wp.elim (roll_w (n + 1) c a' b' (most + 1) ⟨S.objs ++ [.dct []], []⟩ h (by omega) (by omega)) ?_
      rintro d S' e1 ⟨⟨v, hv, rfl⟩, st⟩
      refine Wp.of (a := .int v) (S := S') ?_ ⟨v, rfl, by omega, fun _ => h0, st⟩
      rw [Int.natCast_add] at e1
      have h0' : (0 : Int) < (clocks : Int) := by omega
      have e1 : ev (n + 2) j__law_roll [.ref c, .int ((most : Int) + 1)] ⟨S.objs ++ [.dct []], []⟩ = .ok (.int v) S' := e1
      simp -implicitDefEqProofs [initE, List.replicate, retS, retN, seqS, asgS, exprS, ifS, parS, skipS, setAll, varE, cstE, nilL, consL, tupE, mkL, un1, bin2, andE, orE, ifE, chainE, boolT, truthT, notT, andT, orT, yesT, callE, nameG, tupG, consG, nilG, itemsD, opNot, opAdd, opSub, opDiv, opMod, opNeg, opLt, opLe, opGt, opGe, opIsNot, opIs, ltD, leD, truth, at_nat, at_0, at_1, at_2, at_3, at_4, opIx, fLen, coreE, coreL, opIsi, isTy, opAbs, opMin, opInt, opMul, is_nn, is_nt, is_nr, is_nb, is_ni, is_ntm, is_nst, eq_ii, ne_ii, eq_bb, ne_bb, h0, e1]
    · refine Wp.of (a := .int ((0 : Nat) : Int)) (S := ⟨S.objs ++ [.dct []], []⟩) ?_ ⟨0, rfl, by omega, fun z => absurd z (by omega), ⟨a, b, ?_⟩, fun k hk => .inl hk⟩
      · have h0' : clocks = 0 := by omega
        subst h0'
        simp -implicitDefEqProofs [initE, List.replicate, retS, retN, seqS, asgS, exprS, ifS, parS, skipS, setAll, varE, cstE, nilL, consL, tupE, mkL, un1, bin2, andE, orE, ifE, chainE, boolT, truthT, notT, andT, orT, yesT, callE, nameG, tupG, consG, nilG, itemsD, opNot, opAdd, opSub, opDiv, opMod, opNeg, opLt, opLe, opGt, opGe, opIsNot, opIs, ltD, leD, truth, at_nat, at_0, at_1, at_2, at_3, at_4, opIx, fLen, coreE, coreL, opIsi, isTy, opAbs, opMin, opInt, opMul, is_nn, is_nt, is_nr, is_nb, is_ni, is_ntm, is_nst, eq_ii, ne_ii, eq_bb, ne_bb]
      · show S.objs ++ [O.dct []] = (S.objs ++ [O.dct []]).set c (cupO a b)
        rw [List.set_append_left _ _ hc]
        obtain ⟨hc', e⟩ := List.getElem?_eq_some_iff.mp hS
        rw [← e, List.set_getElem_self]
  have hloop : Wp (fo__law_demands_1 (ev (n + 2)) [some (.ref c), some (.int clocks), some (.int most), some (.ref l), some (.int greatest), some (.ref S.objs.length), none] ⟨S.objs ++ [.dct []], []⟩) fun f S' => ∃ (L : List Dm) (t : Option D), f = .nx [some (.ref c), some (.int clocks), some (.int most), some (.ref l), some (.int greatest), some (.ref S.objs.length), t] ∧ S'.objs[S.objs.length]? = some (.dct (kvO L)) ∧ NwC c S.objs S' ∧ (∀ x ∈ L, DmOk clocks x ∧ x.r ∈ rl) ∧ L.Nodup ∧ L.length ≤ most := by
    refine Wp.elim hturn ?_
    rintro d S2 e2 ⟨v, rfl, hv, hv0, st⟩
    unfold fo__law_demands_1
    rw [forS_src (rng_nat e2 (by omega))]
    refine for_inv (I := fun _ => True) (P := fun ds env S' => ∃ (L : List Dm) (t : Option D), env = [some (.ref c), some (.int clocks), some (.int most), some (.ref l), some (.int greatest), some (.ref S.objs.length), t] ∧ S'.objs[S.objs.length]? = some (.dct (kvO L)) ∧ S'.objs[l]? = some (.lst (rl.map rlD)) ∧ NwC c S.objs S' ∧ (∀ x ∈ L, DmOk clocks x ∧ x.r ∈ rl) ∧ L.Nodup ∧ L.length + ds.length ≤ most ∧ (0 < ds.length → 0 < clocks)) ?_ ?_ _ FU _ _ S2 (PS.rng _ _ _) (by rw [intsFrom_len, FU_eq]; omega) ⟨[], none, rfl, ?_, ?_, hN1.step hc st, (fun x hx => by cases hx), .nil, by rw [intsFrom_len]; simpa using hv, by rw [intsFrom_len]; exact hv0⟩
    · rintro d r env S' ⟨L, t, rfl, p1, p2, p3, p4, p5, p6, p7⟩
      refine ⟨trivial, _, _, rfl, ?_⟩
      have h0 : 0 < clocks := p7 (by simp [initE, List.replicate, retS, retN, seqS, asgS, exprS, ifS, parS, skipS, setAll, varE, cstE, nilL, consL, tupE, mkL, un1, bin2, andE, orE, ifE, chainE, boolT, truthT, notT, andT, orT, yesT, callE, nameG, tupG, consG, nilG, itemsD, opNot, opAdd, opSub, opDiv, opMod, opNeg, opLt, opLe, opGt, opGe, opIsNot, opIs, ltD, leD, truth, at_nat, at_0, at_1, at_2, at_3, at_4, opIx, fLen, coreE, coreL, opIsi, isTy, opAbs, opMin, opInt, opMul, is_nn, is_nt, is_nr, is_nb, is_ni, is_ntm, is_nst, eq_ii, ne_ii, eq_bb, ne_bb])
      obtain ⟨a1, b1, q1⟩ := p3.cup hc
      refine Wp.elim (roll_w (n + 1) c a1 b1 clocks S' q1 h0 (by omega)) ?_
      rintro _ T1 f1 ⟨⟨v1, hv1, rfl⟩, s1⟩
      have N1 := p3.step hc s1
      have l1 : T1.objs[l]? = some (.lst (rl.map rlD)) := by rw [s1.other hne]; exact p2
      refine Wp.elim (some_w n c l (rl.map rlD) T1 (N1.cup hc) l1 hne (by rw [List.length_map]; exact hr) (by rw [List.length_map]; omega) (fun x hx => by
        obtain ⟨y, _, rfl⟩ := List.mem_map.mp hx
        simp [initE, List.replicate, retS, retN, seqS, asgS, exprS, ifS, parS, skipS, setAll, varE, cstE, nilL, consL, tupE, mkL, un1, bin2, andE, orE, ifE, chainE, boolT, truthT, notT, andT, orT, yesT, callE, nameG, tupG, consG, nilG, itemsD, opNot, opAdd, opSub, opDiv, opMod, opNeg, opLt, opLe, opGt, opGe, opIsNot, opIs, ltD, leD, truth, at_nat, at_0, at_1, at_2, at_3, at_4, opIx, fLen, coreE, coreL, opIsi, isTy, opAbs, opMin, opInt, opMul, is_nn, is_nt, is_nr, is_nb, is_ni, is_ntm, is_nst, eq_ii, ne_ii, eq_bb, ne_bb, rlD])) ?_
      rintro _ T2 f2 ⟨hmem, s2⟩
      obtain ⟨r0, hr0, rfl⟩ := List.mem_map.mp hmem
      have N2 := N1.step hc s2
      obtain ⟨a2, b2, q2⟩ := N2.cup hc
      refine Wp.elim (roll_w (n + 1) c a2 b2 (greatest + 1) T2 q2 (by omega) (by omega)) ?_
      rintro _ T3 f3 ⟨⟨v2, hv2, rfl⟩, s3⟩
      have N3 := N2.step hc s3
      rw [Int.natCast_add] at f3
      have f3 : ev (n + 2) j__law_roll [.ref c, .int ((greatest : Int) + 1)] T2 = .ok (.int v2) T3 := f3
      have hne5 : S.objs.length ≠ c := by omega
      have d3 : T3.objs[S.objs.length]? = some (.dct (kvO L)) := by rw [s3.other hne5, s2.other hne5, s1.other hne5]; exact p1
      have hkd : keysD [.int v1, rlD r0, .int v2] = some (ky ⟨v1, r0, v2⟩) := rfl
      have hlen : (kvO L).length < 1000000 := by
        unfold kvO
        rw [List.length_map]; omega
      have hi : S.objs.length < T3.objs.length := (List.getElem?_eq_some_iff.mp d3).1
      have hput := @putKy_dm ⟨v1, r0, v2⟩ L (Classical.propDecidable _)
      refine Wp.of (a := .nx [some (.ref c), some (.int clocks), some (.int most), some (.ref l), some (.int greatest), some (.ref S.objs.length), some d]) (S := T3.set S.objs.length (.dct (putKy (ky ⟨v1, r0, v2⟩) (.bl true) (kvO L)))) ?_ ?_
      · unfold fb__law_demands_1
        simp -implicitDefEqProofs [initE, List.replicate, retS, retN, seqS, asgS, exprS, ifS, parS, skipS, setAll, varE, cstE, nilL, consL, tupE, mkL, un1, bin2, andE, orE, ifE, chainE, boolT, truthT, notT, andT, orT, yesT, callE, nameG, tupG, consG, nilG, itemsD, opNot, opAdd, opSub, opDiv, opMod, opNeg, opLt, opLe, opGt, opGe, opIsNot, opIs, ltD, leD, truth, at_nat, at_0, at_1, at_2, at_3, at_4, opIx, fLen, coreE, coreL, opIsi, isTy, opAbs, opMin, opInt, opMul, is_nn, is_nt, is_nr, is_nb, is_ni, is_ntm, is_nst, eq_ii, ne_ii, eq_bb, ne_bb, dputG, f1, f2, f3, d3, hkd, hlen]
      · rw [hput]
        refine ⟨@ite (List Dm) ((⟨v1, r0, v2⟩ : Dm) ∈ L) (Classical.propDecidable _) L (L ++ [⟨v1, r0, v2⟩]), some d, rfl, ?_, ?_, N3.set (Nat.le_refl _) hi _, ?_, ?_, ?_, fun _ => h0⟩
        · show (T3.objs.set S.objs.length _)[S.objs.length]? = _
          rw [List.getElem?_set_self hi]
        · show (T3.objs.set S.objs.length _)[l]? = _
          rw [List.getElem?_set_ne (by omega), s3.other hne, s2.other hne]; exact l1
        · split
          · exact p4
          · intro x hx
            rcases List.mem_append.mp hx with hx | hx
            · exact p4 x hx
            · rw [List.mem_singleton.mp hx]
              exact ⟨⟨hv1, by show v2 ≤ 20; omega⟩, hr0⟩
        · split
          · exact p5
          · rename_i hno
            rw [List.nodup_append]
            refine ⟨p5, by simp [initE, List.replicate, retS, retN, seqS, asgS, exprS, ifS, parS, skipS, setAll, varE, cstE, nilL, consL, tupE, mkL, un1, bin2, andE, orE, ifE, chainE, boolT, truthT, notT, andT, orT, yesT, callE, nameG, tupG, consG, nilG, itemsD, opNot, opAdd, opSub, opDiv, opMod, opNeg, opLt, opLe, opGt, opGe, opIsNot, opIs, ltD, leD, truth, at_nat, at_0, at_1, at_2, at_3, at_4, opIx, fLen, coreE, coreL, opIsi, isTy, opAbs, opMin, opInt, opMul, is_nn, is_nt, is_nr, is_nb, is_ni, is_ntm, is_nst, eq_ii, ne_ii, eq_bb, ne_bb], fun a ha b hb => ?_⟩
            rw [List.mem_singleton.mp hb]
            exact fun z => hno (z ▸ ha)
        · simp only [List.length_cons] at p6
          split
          · omega
          · rw [List.length_append]; simp only [List.length_cons, List.length_nil]; omega
    · rintro env S' ⟨L, t, rfl, p1, p2, p3, p4, p5, p6, p7⟩
      exact ⟨trivial, L, t, rfl, p1, p3, p4, p5, by simpa using p6⟩
    · rw [st.other (by omega)]; simp [initE, List.replicate, retS, retN, seqS, asgS, exprS, ifS, parS, skipS, setAll, varE, cstE, nilL, consL, tupE, mkL, un1, bin2, andE, orE, ifE, chainE, boolT, truthT, notT, andT, orT, yesT, callE, nameG, tupG, consG, nilG, itemsD, opNot, opAdd, opSub, opDiv, opMod, opNeg, opLt, opLe, opGt, opGe, opIsNot, opIs, ltD, leD, truth, at_nat, at_0, at_1, at_2, at_3, at_4, opIx, fLen, coreE, coreL, opIsi, isTy, opAbs, opMin, opInt, opMul, is_nn, is_nt, is_nr, is_nb, is_ni, is_ntm, is_nst, eq_ii, ne_ii, eq_bb, ne_bb, kvO]
    · rw [st.other hne]
      show (S.objs ++ [O.dct []])[l]? = _
      rw [List.getElem?_append_left hll]; exact hl
  refine Wp.elim hloop ?_
  rintro f S3 e3 ⟨L, t, rfl, p1, p2, p3, p4, p5⟩
  rw [seq_nx e3]
  obtain ⟨Z, z1, z2, z3⟩ := sort_dms L p4 (by omega)
  have zl := z2.length_eq
  refine Wp.of (a := .rt (dms Z)) (S := S3) ?_ ⟨_, rfl, flat_dms Z, ⟨Z, rfl, ⟨fun x hx => (p3 x (z2.mem_iff.mp hx)).1, z3⟩, by omega, fun x hx => (p3 x (z2.mem_iff.mp hx)).2⟩, p2⟩
  have hT : fTup (Z.map Dm.d) = some (dms Z) := fTup_le (by rw [List.length_map]; omega)
  rw [← keys_kvO] at z1
  simp -implicitDefEqProofs [initE, List.replicate, retS, retN, seqS, asgS, exprS, ifS, parS, skipS, setAll, varE, cstE, nilL, consL, tupE, mkL, un1, bin2, andE, orE, ifE, chainE, boolT, truthT, notT, andT, orT, yesT, callE, nameG, tupG, consG, nilG, itemsD, opNot, opAdd, opSub, opDiv, opMod, opNeg, opLt, opLe, opGt, opGe, opIsNot, opIs, ltD, leD, truth, at_nat, at_0, at_1, at_2, at_3, at_4, opIx, fLen, coreE, coreL, opIsi, isTy, opAbs, opMin, opInt, opMul, is_nn, is_nt, is_nr, is_nb, is_ni, is_ntm, is_nst, eq_ii, ne_ii, eq_bb, ne_bb, sortvL, p1, z1, hT]
end K81
set_option Elab.async false
set_option linter.all false
set_option maxRecDepth 100000
set_option maxHeartbeats 4000000
namespace K81
open PySem Ev
def ip (c : Nat) : PyData := .int c
def ep (x : Ed) : PyData := .tuple [.int x.s, .int x.t, .int x.l, .tuple (x.g.map dp), .tuple (x.rs.map ip)]
theorem pys_nt : ∀ l : List Nat, pyOfs (l.map nt) = some (l.map ip)
  | [] => rfl
  | x :: l => by
    show (match pyOf (nt x), pyOfs (l.map nt) with | some x, some xs => some (x :: xs) | _, _ => none) = _
    rw [pys_nt l]; rfl
theorem py_dms (l : List Dm) : pyOf (dms l) = some (.tuple (l.map dp)) := by
  show (pyOfs (l.map Dm.d)).map PyData.tuple = _
  rw [pys_dm]; rfl
theorem py_nts (l : List Nat) : pyOf (nts l) = some (.tuple (l.map ip)) := by
  show (pyOfs (l.map nt)).map PyData.tuple = _
  rw [pys_nt]; rfl
theorem py_ed (x : Ed) : pyOf x.d = some (ep x) := by
  show (pyOfs [.int x.s, .int x.t, .int x.l, dms x.g, nts x.rs]).map PyData.tuple = _
  simp only [pyOfs, py_dms, py_nts]
  rfl
theorem pys_ed : ∀ l : List Ed, pyOfs (l.map Ed.d) = some (l.map ep)
  | [] => rfl
  | x :: l => by
    show (match pyOf x.d, pyOfs (l.map Ed.d) with | some x, some xs => some (x :: xs) | _, _ => none) = _
    rw [py_ed, pys_ed l]; rfl
theorem eqvs_dp : ∀ a b : List Dm, PyData.eqvAll (a.map dp) (b.map dp) = true ↔ a = b
  | [], [] => by simp [PyData.eqvAll]
  | [], y :: b => by simp [PyData.eqvAll]
  | x :: a, [] => by simp [PyData.eqvAll]
  | x :: a, y :: b => by
    rw [List.map_cons, List.map_cons, W.eqv_all_cons, Bool.and_eq_true, eqv_dp, eqvs_dp a b, List.cons.injEq]
theorem eqvs_ip : ∀ a b : List Nat, PyData.eqvAll (a.map ip) (b.map ip) = true ↔ a = b
  | [], [] => by simp [PyData.eqvAll]
  | [], y :: b => by simp [PyData.eqvAll]
  | x :: a, [] => by simp [PyData.eqvAll]
  | x :: a, y :: b => by
    have e : PyData.eqv (ip x) (ip y) = decide ((x : Int) = y) := rfl
    rw [List.map_cons, List.map_cons, W.eqv_all_cons, Bool.and_eq_true, e, decide_eq_true_eq, eqvs_ip a b, List.cons.injEq]
    constructor
    · rintro ⟨h, h'⟩; exact ⟨by omega, h'⟩
    · rintro ⟨h, h'⟩; exact ⟨by omega, h'⟩
theorem eqv_ep (a b : Ed) : PyData.eqv (ep a) (ep b) = true ↔ a = b := by
  have e : PyData.eqv (ep a) (ep b) = (decide ((a.s : Int) = b.s) && (decide ((a.t : Int) = b.t) && (decide ((a.l : Int) = b.l) && (PyData.eqvAll (a.g.map dp) (b.g.map dp) && (PyData.eqvAll (a.rs.map ip) (b.rs.map ip) && true))))) := rfl
  rw [e]
  simp only [Bool.and_true, Bool.and_eq_true, decide_eq_true_eq, eqvs_dp, eqvs_ip]
  obtain ⟨s, t, l, g, r⟩ := a
  obtain ⟨s', t', l', g', r'⟩ := b
  simp only [Ed.mk.injEq]
  constructor
  · rintro ⟨h1, h2, h3, h4, h5⟩; exact ⟨by omega, by omega, by omega, h4, h5⟩
  · rintro ⟨h1, h2, h3, h4, h5⟩; exact ⟨by omega, by omega, by omega, h4, h5⟩
theorem alikes_dp : ∀ a b : List Dm, W.alikeAll (a.map dp) (b.map dp) = true
  | [], _ => by simp [W.alikeAll]
  | x :: a, [] => by simp [W.alikeAll]
  | x :: a, y :: b => by
    show (W.alike (dp x) (dp y) && W.alikeAll (a.map dp) (b.map dp)) = true
    rw [alikes_dp a b]; rfl
theorem alikes_ip : ∀ a b : List Nat, W.alikeAll (a.map ip) (b.map ip) = true
  | [], _ => by simp [W.alikeAll]
  | x :: a, [] => by simp [W.alikeAll]
  | x :: a, y :: b => by
    show (W.alike (ip x) (ip y) && W.alikeAll (a.map ip) (b.map ip)) = true
    rw [alikes_ip a b]; rfl
theorem alike_ep (a b : Ed) : W.alike (ep a) (ep b) = true := by
  have e : W.alike (ep a) (ep b) = (W.alikeAll (a.g.map dp) (b.g.map dp) && (W.alikeAll (a.rs.map ip) (b.rs.map ip) && true)) := by
    simp [ep, W.alike, W.alikeAll]
  rw [e, alikes_dp, alikes_ip]; rfl
theorem depth_dps : ∀ l : List Dm, PyData.depthAll (l.map dp) ≤ 1
  | [] => by simp [PyData.depthAll]
  | x :: l => by
    have h := depth_dps l
    have e : PyData.depthAll ((x :: l).map dp) = max (dp x).depth (PyData.depthAll (l.map dp)) := by rw [List.map_cons, PyData.depthAll]
    have e2 : (dp x).depth = 1 := rfl
    rw [e, e2]; omega
theorem depth_ips : ∀ l : List Nat, PyData.depthAll (l.map ip) ≤ 1
  | [] => by simp [PyData.depthAll]
  | x :: l => by
    have h := depth_ips l
    have e : PyData.depthAll ((x :: l).map ip) = max (ip x).depth (PyData.depthAll (l.map ip)) := by rw [List.map_cons, PyData.depthAll]
    have e2 : (ip x).depth = 0 := rfl
    rw [e, e2]; omega
theorem depth_ep (x : Ed) : (ep x).depth ≤ 64 := by
  have h1 := depth_dps x.g
  have h2 := depth_ips x.rs
  have e : (ep x).depth = max 0 (max 0 (max 0 (max (PyData.depthAll (x.g.map dp) + 1) (max (PyData.depthAll (x.rs.map ip) + 1) 0)))) + 1 := rfl
  rw [e]; omega
open Classical in
theorem mem_ed (x : Ed) (F : List Ed) : memD x.d (F.map Ed.d) = some (decide (x ∈ F)) := by
  show memPy (pyOf x.d) (pyOfs (F.map Ed.d)) = _
  rw [py_ed, pys_ed]
  unfold memPy
  simp only
  rw [if_pos (Nat.ble_eq.mpr (Nat.le_trans (Nat.min_le_right _ _) (depth_ep x)))]
  congr 1
  rw [Bool.eq_iff_iff, List.any_eq_true, decide_eq_true_eq]
  constructor
  · rintro ⟨y, hy, he⟩
    obtain ⟨z, hz, rfl⟩ := List.mem_map.mp hy
    rw [← (eqv_ep z x).mp he]; exact hz
  · intro h
    exact ⟨ep x, List.mem_map.mpr ⟨x, h, rfl⟩, (eqv_ep x x).mpr rfl⟩
theorem sort_eds (L : List Ed) (hd : L.Nodup) (hl : L.length ≤ 1000) : ∃ Z : List Ed, sortC (L.map Ed.d) = some (Z.map Ed.d) ∧ Z.Perm L ∧ risD (Z.map Ed.d) = true := by
  refine sort_enc Ed.d ep py_ed (fun a => ⟨_, rfl⟩) (fun a => rfl) L (fun a _ b _ => alike_ep a b) (fun a _ => depth_ep a) ?_ (by omega)
  refine List.Pairwise.imp (fun {a b} h => ?_) hd
  constructor
  · rw [Bool.eq_false_iff]; intro z; exact h ((eqv_ep a b).mp z)
  · rw [Bool.eq_false_iff]; intro z; exact h ((eqv_ep b a).mp z).symm
theorem ris_nts : ∀ l : List Nat, l.Pairwise (· < ·) → risD (l.map nt) = true
  | [], _ => rfl
  | [_], _ => rfl
  | a :: b :: r, h => by
    obtain ⟨h1, h2⟩ := List.pairwise_cons.mp h
    have hab := h1 b List.mem_cons_self
    show (ltP (nt a) (nt b) && risD ((b :: r).map nt)) = true
    rw [ris_nts (b :: r) h2, Bool.and_true]
    have e : ltP (nt a) (nt b) = (some (decide ((a : Int) < b)) == some true) := rfl
    rw [e, decide_eq_true (by omega)]
    rfl
end K81
set_option Elab.async false
set_option linter.all false
set_option maxRecDepth 100000
set_option maxHeartbeats 4000000
namespace K81
open PySem Ev
structure SyOk (K : Nat) (l : List Dm) : Prop where
  d : DmsOk K l
  n : l.length ≤ 1
  r : ∀ x ∈ l, x.r.stay = true
theorem SyOk.nil (K : Nat) : SyOk K [] := ⟨⟨fun x h => (by cases h), rfl⟩, Nat.zero_le _, fun x h => (by cases h)⟩
def mE (c most greatest : Nat) (x3 x4 x5 : Option D) (P K : Nat) (x8 x9 x10 x11 x12 : Option D) : Ev.Env :=
  [some (.ref c), some (.int most), some (.int greatest), x3, x4, x5, some (.int P), some (.int K), x8, x9, x10, x11, x12]
theorem stays_w (n c most greatest P K : Nat) (B : List O) (x3 x4 x5 x8 x9 x10 x11 x12 : Option D) (S : Store) (hc : c < B.length) (hN : NwC c B S) (hg : greatest ≤ 20) (hK : K ≤ 3) (hP : P ≤ 8) :
    Wp (lc__law_machine_1 (ev (n + 3)) (mE c most greatest x3 x4 x5 P K x8 x9 x10 x11 x12) S) fun l S' => ∃ L : List (List Dm), l = L.map dms ∧ L.length = P ∧ (∀ x ∈ L, SyOk K x) ∧ NwC c B S' := by
  unfold lc__law_machine_1
  rw [lcL_src (rng_nat (k := P) (S1 := S) rfl (by omega))]
  refine (lc_inv (I := fun _ => True) (P := fun ds acc S' => NwC c B S' ∧ ∃ L : List (List Dm), acc.reverse = L.map dms ∧ L.length + ds.length = P ∧ ∀ x ∈ L, SyOk K x) ?_ _ FU _ [] S (PS.rng _ _ _) (by rw [intsFrom_len, FU_eq]; omega) ⟨hN, [], rfl, by rw [intsFrom_len]; simp [initE, List.replicate, retS, retN, seqS, asgS, exprS, ifS, parS, skipS, setAll, varE, cstE, nilL, consL, tupE, mkL, un1, bin2, andE, orE, ifE, chainE, boolT, truthT, notT, andT, orT, yesT, callE, nameG, tupG, consG, nilG, itemsD, opNot, opAdd, opSub, opDiv, opMod, opNeg, opLt, opLe, opGt, opGe, opIsNot, opIs, ltD, leD, truth, at_nat, at_0, at_1, at_2, at_3, at_4, opIx, fLen, coreE, coreL, opIsi, isTy, opAbs, opMin, opInt, opMul, is_nn, is_nt, is_nr, is_nb, is_ni, is_ntm, is_nst, eq_ii, ne_ii, eq_bb, ne_bb], fun x h => by cases h⟩ (fun _ _ _ => trivial)).mono ?_
  · rintro d r acc S1 ⟨hN1, L, h1, h2, h3⟩
    refine ⟨trivial, _, rfl, Wp.of (a := true) (S := S1) rfl ?_⟩
    rw [if_pos rfl]
    have hN2 := hN1.alloc (.lst ([Rl.most, .most, .less].map rlD))
    have hl := hN1.len
    refine Wp.elim (demands_w n c S1.objs.length K 1 greatest [.most, .most, .less] ⟨S1.objs ++ [.lst ([Rl.most, .most, .less].map rlD)], S1.dirty⟩ (hN2.cup hc) (by simp [initE, List.replicate, retS, retN, seqS, asgS, exprS, ifS, parS, skipS, setAll, varE, cstE, nilL, consL, tupE, mkL, un1, bin2, andE, orE, ifE, chainE, boolT, truthT, notT, andT, orT, yesT, callE, nameG, tupG, consG, nilG, itemsD, opNot, opAdd, opSub, opDiv, opMod, opNeg, opLt, opLe, opGt, opGe, opIsNot, opIs, ltD, leD, truth, at_nat, at_0, at_1, at_2, at_3, at_4, opIx, fLen, coreE, coreL, opIsi, isTy, opAbs, opMin, opInt, opMul, is_nn, is_nt, is_nr, is_nb, is_ni, is_ntm, is_nst, eq_ii, ne_ii, eq_bb, ne_bb]) (by omega) (by decide) (by decide) hK (by decide) hg) ?_
    rintro _ S2 e2 ⟨⟨l, rfl, q1, q2, q3⟩, st⟩
    have e2 : ev (n + 3) j__law_demands [.ref c, .int K, .int 1, .ref S1.objs.length, .int greatest] ⟨S1.objs ++ [.lst [.str s_most, .str s_most, .str s_less]], S1.dirty⟩ = .ok (dms l) S2 := e2
    refine Wp.of (a := dms l) (S := S2) ?_ ⟨hN2.step hc st, L ++ [l], by rw [List.reverse_cons, h1, List.map_append]; rfl, by rw [List.length_append]; simp only [List.length_cons, List.length_nil] at h2 ⊢; omega, fun x hx => ?_⟩
    · simp -implicitDefEqProofs [initE, List.replicate, retS, retN, seqS, asgS, exprS, ifS, parS, skipS, setAll, varE, cstE, nilL, consL, tupE, mkL, un1, bin2, andE, orE, ifE, chainE, boolT, truthT, notT, andT, orT, yesT, callE, nameG, tupG, consG, nilG, itemsD, opNot, opAdd, opSub, opDiv, opMod, opNeg, opLt, opLe, opGt, opGe, opIsNot, opIs, ltD, leD, truth, at_nat, at_0, at_1, at_2, at_3, at_4, opIx, fLen, coreE, coreL, opIsi, isTy, opAbs, opMin, opInt, opMul, is_nn, is_nt, is_nr, is_nb, is_ni, is_ntm, is_nst, eq_ii, ne_ii, eq_bb, ne_bb, mE, wipeE, e2]
    · rcases List.mem_append.mp hx with hx | hx
      · exact h3 x hx
      · rw [List.mem_singleton.mp hx]
        refine ⟨q1, q2, fun y hy => ?_⟩
        have := q3 y hy
        simp only [List.mem_cons, List.not_mem_nil, or_false] at this
        rcases this with h | h | h <;> rw [h] <;> rfl
  · rintro l S' ⟨acc, rfl, hN', L, h1, h2, h3⟩
    exact ⟨L, h1, by simpa using h2, h3, hN'⟩
theorem resets_w (n c most greatest P K : Nat) (B : List O) (x3 x4 x5 x8 x9 x10 x11 x12 : Option D) (S : Store) (hc : c < B.length) (hN : NwC c B S) (hK : K ≤ 3) :
    Wp (lc__law_machine_2 (ev (n + 1)) (mE c most greatest x3 x4 x5 P K x8 x9 x10 x11 x12) S) fun l S' => ∃ L : List Nat, l = L.map nt ∧ L.length ≤ K ∧ (∀ x ∈ L, x < K) ∧ L.Pairwise (· < ·) ∧ NwC c B S' ∧ (∀ k, k ≠ c → S'.objs[k]? = S.objs[k]?) := by
  unfold lc__law_machine_2
  rw [lcL_src (rng_nat (k := K) (S1 := S) rfl (by omega))]
  refine (lc_inv (I := fun _ => True) (P := fun ds acc S' => NwC c B S' ∧ (∀ k, k ≠ c → S'.objs[k]? = S.objs[k]?) ∧ ∃ (L : List Nat) (j : Nat), acc.reverse = L.map nt ∧ ds = Ev.intsFrom (j : Int) (K - j) ∧ j ≤ K ∧ L.length ≤ j ∧ (∀ x ∈ L, x < j) ∧ L.Pairwise (· < ·)) ?_ _ FU _ [] S (PS.rng _ _ _) (by rw [intsFrom_len, FU_eq]; omega) ⟨hN, fun _ _ => rfl, [], 0, rfl, rfl, Nat.zero_le _, Nat.zero_le _, (fun x h => by cases h), .nil⟩ (fun _ _ _ => trivial)).mono ?_
  · rintro d r acc S1 ⟨hN1, hk1, L, j, h1, h2, h3, h4, h5, h6⟩
    cases hj : K - j with
    | zero => rw [hj] at h2; simp [initE, List.replicate, retS, retN, seqS, asgS, exprS, ifS, parS, skipS, setAll, varE, cstE, nilL, consL, tupE, mkL, un1, bin2, andE, orE, ifE, chainE, boolT, truthT, notT, andT, orT, yesT, callE, nameG, tupG, consG, nilG, itemsD, opNot, opAdd, opSub, opDiv, opMod, opNeg, opLt, opLe, opGt, opGe, opIsNot, opIs, ltD, leD, truth, at_nat, at_0, at_1, at_2, at_3, at_4, opIx, fLen, coreE, coreL, opIsi, isTy, opAbs, opMin, opInt, opMul, is_nn, is_nt, is_nr, is_nb, is_ni, is_ntm, is_nst, eq_ii, ne_ii, eq_bb, ne_bb, Ev.intsFrom] at h2
    | succ i =>
      rw [hj] at h2
      simp only [Ev.intsFrom, List.cons.injEq] at h2
      obtain ⟨rfl, rfl⟩ := h2
      obtain ⟨a, b, hcup⟩ := hN1.cup hc
      refine ⟨trivial, _, rfl, ?_⟩
      refine Wp.elim (roll_w n c a b 3 S1 hcup (by decide) (by decide)) ?_
      rintro _ S2 e2 ⟨⟨v, hv, rfl⟩, st⟩
      have e2 : ev (n + 1) j__law_roll [.ref c, .int 3] S1 = .ok (.int v) S2 := e2
      have hk2 : ∀ k, k ≠ c → S2.objs[k]? = S.objs[k]? := fun k hk => by rw [st.other hk]; exact hk1 k hk
      have hr : Ev.intsFrom ((j : Int) + 1) i = Ev.intsFrom ((j + 1 : Nat) : Int) (K - (j + 1)) := by
        rw [show K - (j + 1) = i by omega]; rfl
      refine Wp.of (a := decide (v = 0)) (S := S2) ?_ ?_
      · have : decide ((v : Int) = 0) = decide (v = 0) := by rw [decide_eq_decide]; omega
        simp -implicitDefEqProofs [initE, List.replicate, retS, retN, seqS, asgS, exprS, ifS, parS, skipS, setAll, varE, cstE, nilL, consL, tupE, mkL, un1, bin2, andE, orE, ifE, chainE, boolT, truthT, notT, andT, orT, yesT, callE, nameG, tupG, consG, nilG, itemsD, opNot, opAdd, opSub, opDiv, opMod, opNeg, opLt, opLe, opGt, opGe, opIsNot, opIs, ltD, leD, truth, at_nat, at_0, at_1, at_2, at_3, at_4, opIx, fLen, coreE, coreL, opIsi, isTy, opAbs, opMin, opInt, opMul, is_nn, is_nt, is_nr, is_nb, is_ni, is_ntm, is_nst, eq_ii, ne_ii, eq_bb, ne_bb, mE, wipeE, e2, this]
      · by_cases h0 : v = 0
        · rw [if_pos (decide_eq_true h0)]
          refine Wp.of (a := nt j) (S := S2) ?_ ⟨hN1.step hc st, hk2, L ++ [j], j + 1, by rw [List.reverse_cons, h1, List.map_append]; rfl, hr, by omega, by rw [List.length_append]; simp only [List.length_cons, List.length_nil]; omega, fun x hx => ?_, ?_⟩
          · simp -implicitDefEqProofs [initE, List.replicate, retS, retN, seqS, asgS, exprS, ifS, parS, skipS, setAll, varE, cstE, nilL, consL, tupE, mkL, un1, bin2, andE, orE, ifE, chainE, boolT, truthT, notT, andT, orT, yesT, callE, nameG, tupG, consG, nilG, itemsD, opNot, opAdd, opSub, opDiv, opMod, opNeg, opLt, opLe, opGt, opGe, opIsNot, opIs, ltD, leD, truth, at_nat, at_0, at_1, at_2, at_3, at_4, opIx, fLen, coreE, coreL, opIsi, isTy, opAbs, opMin, opInt, opMul, is_nn, is_nt, is_nr, is_nb, is_ni, is_ntm, is_nst, eq_ii, ne_ii, eq_bb, ne_bb, mE, wipeE, nt]
          · rcases List.mem_append.mp hx with hx | hx
            · have := h5 x hx; omega
            · rw [List.mem_singleton.mp hx]; omega
          · rw [List.pairwise_append]
            refine ⟨h6, by simp [initE, List.replicate, retS, retN, seqS, asgS, exprS, ifS, parS, skipS, setAll, varE, cstE, nilL, consL, tupE, mkL, un1, bin2, andE, orE, ifE, chainE, boolT, truthT, notT, andT, orT, yesT, callE, nameG, tupG, consG, nilG, itemsD, opNot, opAdd, opSub, opDiv, opMod, opNeg, opLt, opLe, opGt, opGe, opIsNot, opIs, ltD, leD, truth, at_nat, at_0, at_1, at_2, at_3, at_4, opIx, fLen, coreE, coreL, opIsi, isTy, opAbs, opMin, opInt, opMul, is_nn, is_nt, is_nr, is_nb, is_ni, is_ntm, is_nst, eq_ii, ne_ii, eq_bb, ne_bb], fun x hx y hy => ?_⟩
            rw [List.mem_singleton.mp hy]; exact h5 x hx
        · rw [if_neg (by simpa using h0)]
          exact ⟨hN1.step hc st, hk2, L, j + 1, h1, hr, by omega, by omega, fun x hx => by have := h5 x hx; omega, h6⟩
  · rintro l S' ⟨acc, rfl, hN', hk', L, j, h1, h2, h3, h4, h5, h6⟩
    have : K - j = 0 := by
      cases hj : K - j with
      | zero => rfl
      | succ i => rw [hj] at h2; simp [initE, List.replicate, retS, retN, seqS, asgS, exprS, ifS, parS, skipS, setAll, varE, cstE, nilL, consL, tupE, mkL, un1, bin2, andE, orE, ifE, chainE, boolT, truthT, notT, andT, orT, yesT, callE, nameG, tupG, consG, nilG, itemsD, opNot, opAdd, opSub, opDiv, opMod, opNeg, opLt, opLe, opGt, opGe, opIsNot, opIs, ltD, leD, truth, at_nat, at_0, at_1, at_2, at_3, at_4, opIx, fLen, coreE, coreL, opIsi, isTy, opAbs, opMin, opInt, opMul, is_nn, is_nt, is_nr, is_nb, is_ni, is_ntm, is_nst, eq_ii, ne_ii, eq_bb, ne_bb, Ev.intsFrom] at h2
    exact ⟨L, h1, by omega, fun x hx => by have := h5 x hx; omega, h6, hN', hk'⟩
theorem edges_w (n c most greatest P K : Nat) (B : List O) (k3 : Nat) (X : List D) (x5 x8 x9 x10 x11 x12 : Option D) (k4 : Nat) (S : Store) (hc : c < B.length) (hN : NwC c B S) (hg : greatest ≤ 20) (hK : K ≤ 3) (hP : P ≤ 8) (hP1 : 1 ≤ P) (h3 : S.objs[k3]? = some (.lst X)) (n3 : k3 ≠ c) (h4 : S.objs[k4]? = some (.lst [])) (n4 : k4 ≠ c) :
    Wp (fo__law_machine_1 (ev (n + 3)) (mE c most greatest (some (.ref k3)) (some (.ref k4)) x5 P K x8 x9 x10 x11 x12) S) fun f S' => ∃ (F : List Ed) (k4 : Nat) (x5 x8 x9 x10 x11 x12 : Option D), f = .nx (mE c most greatest (some (.ref k3)) (some (.ref k4)) x5 P K x8 x9 x10 x11 x12) ∧ NwC c B S' ∧ S'.objs[k3]? = some (.lst X) ∧ S'.objs[k4]? = some (.lst (F.map Ed.d)) ∧ F.Nodup ∧ (∀ e ∈ F, EdOk P K e) ∧ F.length ≤ 18 := by
  obtain ⟨a, b, hcup⟩ := hN.cup hc
  have hturn : Wp (bin2 opAdd (cstE (.int (1))) (callE (ev (n + 3)) j__law_roll (consL (varE 0) (consL (bin2 opAdd (bin2 opMul (cstE (.int (2))) (varE 6)) (cstE (.int (2)))) nilL))) (mE c most greatest (some (.ref k3)) (some (.ref k4)) x5 P K x8 x9 x10 x11 x12) S) fun d S' => ∃ v : Nat, d = .int v ∧ v ≤ 18 ∧ CuStep c S S' := by
    refine Wp.elim (roll_w (n + 2) c a b (2 * P + 2) S hcup (by omega) (by omega)) ?_
    rintro d S' e1 ⟨⟨v, hv, rfl⟩, st⟩
    have e1 : ev (n + 3) j__law_roll [.ref c, .int (2 * (P : Int) + 2)] S = .ok (.int v) S' := by
      rw [Int.natCast_add, Int.natCast_mul] at e1; exact e1
    have hm : mulOk 2 (P : Int) = true := mulOk_l (by decide)
    refine Wp.of (a := .int ((v + 1 : Nat) : Int)) (S := S') ?_ ⟨v + 1, rfl, by omega, st⟩
    rw [show ((v + 1 : Nat) : Int) = 1 + (v : Int) by omega]
    simp -implicitDefEqProofs [initE, List.replicate, retS, retN, seqS, asgS, exprS, ifS, parS, skipS, setAll, varE, cstE, nilL, consL, tupE, mkL, un1, bin2, andE, orE, ifE, chainE, boolT, truthT, notT, andT, orT, yesT, callE, nameG, tupG, consG, nilG, itemsD, opNot, opAdd, opSub, opDiv, opMod, opNeg, opLt, opLe, opGt, opGe, opIsNot, opIs, ltD, leD, truth, at_nat, at_0, at_1, at_2, at_3, at_4, opIx, fLen, coreE, coreL, opIsi, isTy, opAbs, opMin, opInt, opMul, is_nn, is_nt, is_nr, is_nb, is_ni, is_ntm, is_nst, eq_ii, ne_ii, eq_bb, ne_bb, mE, hm, e1]
  refine Wp.elim hturn ?_
  rintro d S2 e2 ⟨v, rfl, hv, st⟩
  unfold fo__law_machine_1
  rw [forS_src (rng_nat e2 (by omega))]
  refine for_inv (I := fun _ => True) (P := fun ds env S' => ∃ (F : List Ed) (k4 : Nat) (x5 x8 x9 x10 x11 x12 : Option D), env = mE c most greatest (some (.ref k3)) (some (.ref k4)) x5 P K x8 x9 x10 x11 x12 ∧ k4 ≠ c ∧ NwC c B S' ∧ S'.objs[k3]? = some (.lst X) ∧ S'.objs[k4]? = some (.lst (F.map Ed.d)) ∧ F.Nodup ∧ (∀ e ∈ F, EdOk P K e) ∧ F.length + ds.length ≤ 18) ?_ ?_ _ FU _ _ S2 (PS.rng _ _ _) (by rw [intsFrom_len, FU_eq]; omega) ⟨[], k4, x5, x8, x9, x10, x11, x12, rfl, n4, hN.step hc st, by rw [st.other n3]; exact h3, by rw [st.other n4]; exact h4, .nil, (fun e h => by cases h), by rw [intsFrom_len]; simpa using hv⟩
  · rintro d r env S1 ⟨F, k4, a5, a8, a9, a10, a11, a12, rfl, p0, p1, p2, p3, p4, p5, p6⟩
    refine ⟨trivial, _, _, rfl, ?_⟩
    have hl := p1.len
    have hN2 := p1.alloc (.lst ([Rl.less, .most, .same, .least, .more, .least].map rlD))
    refine Wp.elim (demands_w n c S1.objs.length K 2 greatest [.less, .most, .same, .least, .more, .least] ⟨S1.objs ++ [.lst ([Rl.less, .most, .same, .least, .more, .least].map rlD)], S1.dirty⟩ (hN2.cup hc) (by simp [initE, List.replicate, retS, retN, seqS, asgS, exprS, ifS, parS, skipS, setAll, varE, cstE, nilL, consL, tupE, mkL, un1, bin2, andE, orE, ifE, chainE, boolT, truthT, notT, andT, orT, yesT, callE, nameG, tupG, consG, nilG, itemsD, opNot, opAdd, opSub, opDiv, opMod, opNeg, opLt, opLe, opGt, opGe, opIsNot, opIs, ltD, leD, truth, at_nat, at_0, at_1, at_2, at_3, at_4, opIx, fLen, coreE, coreL, opIsi, isTy, opAbs, opMin, opInt, opMul, is_nn, is_nt, is_nr, is_nb, is_ni, is_ntm, is_nst, eq_ii, ne_ii, eq_bb, ne_bb]) (by omega) (by decide) (by decide) hK (by decide) hg) ?_
    rintro _ T1 f1 ⟨⟨g, rfl, g1, g2, _⟩, s1⟩
    have f1 : ev (n + 3) j__law_demands [.ref c, .int K, .int 2, .ref S1.objs.length, .int greatest] ⟨S1.objs ++ [.lst [.str s_less, .str s_most, .str s_same, .str s_least, .str s_more, .str s_least]], S1.dirty⟩ = .ok (dms g) T1 := f1
    have N1 := hN2.step hc s1
    refine Wp.elim (resets_w (n + 2) c most greatest P K B (some (.ref k3)) (some (.ref k4)) (some d) (some (dms g)) a9 a10 a11 a12 T1 hc N1 hK) ?_
    rintro _ T2 f2 ⟨rs, rfl, r1, r2, r3, N2, ke⟩
    obtain ⟨a1, b1, c1⟩ := N2.cup hc
    refine Wp.elim (roll_w (n + 2) c a1 b1 P T2 c1 (by omega) (by omega)) ?_
    rintro _ T3 f3 ⟨⟨v1, hv1, rfl⟩, s3⟩
    have N3 := N2.step hc s3
    obtain ⟨a2, b2, c2⟩ := N3.cup hc
    refine Wp.elim (roll_w (n + 2) c a2 b2 P T3 c2 (by omega) (by omega)) ?_
    rintro _ T4 f4 ⟨⟨v2, hv2, rfl⟩, s4⟩
    have N4 := N3.step hc s4
    obtain ⟨a3, b3, c3⟩ := N4.cup hc
    refine Wp.elim (roll_w (n + 2) c a3 b3 3 T4 c3 (by decide) (by decide)) ?_
    rintro _ T5 f5 ⟨⟨v3, hv3, rfl⟩, s5⟩
    have f5 : ev (n + 3) j__law_roll [.ref c, .int 3] T4 = .ok (.int v3) T5 := f5
    have N5 := N4.step hc s5
    have keep : ∀ k, k ≠ c → k < S1.objs.length → T5.objs[k]? = S1.objs[k]? := fun k hk hlt => by
      rw [s5.other hk, s4.other hk, s3.other hk, ke k hk, s1.other hk]
      show (S1.objs ++ _)[k]? = _
      rw [List.getElem?_append_left hlt]
    have l3 := (List.getElem?_eq_some_iff.mp p2).1
    have l4 := (List.getElem?_eq_some_iff.mp p3).1
    have q3 : T5.objs[k3]? = some (.lst X) := by rw [keep k3 n3 l3]; exact p2
    have q4 : T5.objs[k4]? = some (.lst (F.map Ed.d)) := by rw [keep k4 p0 l4]; exact p3
    have hT : fTup (rs.map nt) = some (nts rs) := fTup_le (by rw [List.length_map]; omega)
    have hx : EdOk P K ⟨v1, v2, v3, g, rs⟩ := ⟨hv1, hv2, by show v3 ≤ 9; omega, g1, by show g.length ≤ 6; omega, r2, r1, ris_nts rs r3⟩
    have hm := mem_ed ⟨v1, v2, v3, g, rs⟩ F
    have hd : Ed.d ⟨v1, v2, v3, g, rs⟩ = .tup [.int v1, .int v2, .int v3, dms g, nts rs] := rfl
    have hsz : ∀ j, j ≤ 20 → Ev.sizeOk j = true := fun j hj => by unfold Ev.sizeOk; rw [Nat.ble_eq]; omega
    simp only [List.length_cons] at p6
    unfold fb__law_machine_1
    by_cases hin : (⟨v1, v2, v3, g, rs⟩ : Ed) ∈ F
    · have hm : memD (.tup [.int v1, .int v2, .int v3, dms g, nts rs]) (F.map Ed.d) = some true := by
        rw [← hd, hm]; simp [initE, List.replicate, retS, retN, seqS, asgS, exprS, ifS, parS, skipS, setAll, varE, cstE, nilL, consL, tupE, mkL, un1, bin2, andE, orE, ifE, chainE, boolT, truthT, notT, andT, orT, yesT, callE, nameG, tupG, consG, nilG, itemsD, opNot, opAdd, opSub, opDiv, opMod, opNeg, opLt, opLe, opGt, opGe, opIsNot, opIs, ltD, leD, truth, at_nat, at_0, at_1, at_2, at_3, at_4, opIx, fLen, coreE, coreL, opIsi, isTy, opAbs, opMin, opInt, opMul, is_nn, is_nt, is_nr, is_nb, is_ni, is_ntm, is_nst, eq_ii, ne_ii, eq_bb, ne_bb, hin]
      refine Wp.of (a := .nx (mE c most greatest (some (.ref k3)) (some (.ref T5.objs.length)) (some d) P K (some (dms g)) (some (nts rs)) (some (.tup [.int v1, .int v2, .int v3, dms g, nts rs])) a11 a12)) (S := ⟨T5.objs ++ [.lst (F.map Ed.d)], T5.dirty⟩) ?_ ⟨F, T5.objs.length, _, _, _, _, _, _, rfl, by have := N5.len; omega, N5.alloc _, ?_, by simp [initE, List.replicate, retS, retN, seqS, asgS, exprS, ifS, parS, skipS, setAll, varE, cstE, nilL, consL, tupE, mkL, un1, bin2, andE, orE, ifE, chainE, boolT, truthT, notT, andT, orT, yesT, callE, nameG, tupG, consG, nilG, itemsD, opNot, opAdd, opSub, opDiv, opMod, opNeg, opLt, opLe, opGt, opGe, opIsNot, opIs, ltD, leD, truth, at_nat, at_0, at_1, at_2, at_3, at_4, opIx, fLen, coreE, coreL, opIsi, isTy, opAbs, opMin, opInt, opMul, is_nn, is_nt, is_nr, is_nb, is_ni, is_ntm, is_nst, eq_ii, ne_ii, eq_bb, ne_bb], p4, p5, by omega⟩
      · simp only [mE] at f2
        simp -implicitDefEqProofs [initE, List.replicate, retS, retN, seqS, asgS, exprS, ifS, parS, skipS, setAll, varE, cstE, nilL, consL, tupE, mkL, un1, bin2, andE, orE, ifE, chainE, boolT, truthT, notT, andT, orT, yesT, callE, nameG, tupG, consG, nilG, itemsD, opNot, opAdd, opSub, opDiv, opMod, opNeg, opLt, opLe, opGt, opGe, opIsNot, opIs, ltD, leD, truth, at_nat, at_0, at_1, at_2, at_3, at_4, opIx, fLen, coreE, coreL, opIsi, isTy, opAbs, opMin, opInt, opMul, is_nn, is_nt, is_nr, is_nb, is_ni, is_ntm, is_nst, eq_ii, ne_ii, eq_bb, ne_bb, mE, f1, f2, f3, f4, f5, hT, catVL, ifL, opNotIn, inD, q4, hm, hsz F.length (by omega)]
      · show (T5.objs ++ _)[k3]? = _
        rw [List.getElem?_append_left (List.getElem?_eq_some_iff.mp q3).1]; exact q3
    · have hm : memD (.tup [.int v1, .int v2, .int v3, dms g, nts rs]) (F.map Ed.d) = some false := by
        rw [← hd, hm]; simp [initE, List.replicate, retS, retN, seqS, asgS, exprS, ifS, parS, skipS, setAll, varE, cstE, nilL, consL, tupE, mkL, un1, bin2, andE, orE, ifE, chainE, boolT, truthT, notT, andT, orT, yesT, callE, nameG, tupG, consG, nilG, itemsD, opNot, opAdd, opSub, opDiv, opMod, opNeg, opLt, opLe, opGt, opGe, opIsNot, opIs, ltD, leD, truth, at_nat, at_0, at_1, at_2, at_3, at_4, opIx, fLen, coreE, coreL, opIsi, isTy, opAbs, opMin, opInt, opMul, is_nn, is_nt, is_nr, is_nb, is_ni, is_ntm, is_nst, eq_ii, ne_ii, eq_bb, ne_bb, hin]
      refine Wp.of (a := .nx (mE c most greatest (some (.ref k3)) (some (.ref T5.objs.length)) (some d) P K (some (dms g)) (some (nts rs)) (some (.tup [.int v1, .int v2, .int v3, dms g, nts rs])) a11 a12)) (S := ⟨T5.objs ++ [.lst (F.map Ed.d ++ [.tup [.int v1, .int v2, .int v3, dms g, nts rs]])], T5.dirty⟩) ?_ ⟨F ++ [⟨v1, v2, v3, g, rs⟩], T5.objs.length, _, _, _, _, _, _, rfl, by have := N5.len; omega, N5.alloc _, ?_, by simp [initE, List.replicate, retS, retN, seqS, asgS, exprS, ifS, parS, skipS, setAll, varE, cstE, nilL, consL, tupE, mkL, un1, bin2, andE, orE, ifE, chainE, boolT, truthT, notT, andT, orT, yesT, callE, nameG, tupG, consG, nilG, itemsD, opNot, opAdd, opSub, opDiv, opMod, opNeg, opLt, opLe, opGt, opGe, opIsNot, opIs, ltD, leD, truth, at_nat, at_0, at_1, at_2, at_3, at_4, opIx, fLen, coreE, coreL, opIsi, isTy, opAbs, opMin, opInt, opMul, is_nn, is_nt, is_nr, is_nb, is_ni, is_ntm, is_nst, eq_ii, ne_ii, eq_bb, ne_bb, hd], ?_, ?_, by rw [List.length_append]; simp only [List.length_cons, List.length_nil]; omega⟩
      · simp only [mE] at f2
        simp -implicitDefEqProofs [initE, List.replicate, retS, retN, seqS, asgS, exprS, ifS, parS, skipS, setAll, varE, cstE, nilL, consL, tupE, mkL, un1, bin2, andE, orE, ifE, chainE, boolT, truthT, notT, andT, orT, yesT, callE, nameG, tupG, consG, nilG, itemsD, opNot, opAdd, opSub, opDiv, opMod, opNeg, opLt, opLe, opGt, opGe, opIsNot, opIs, ltD, leD, truth, at_nat, at_0, at_1, at_2, at_3, at_4, opIx, fLen, coreE, coreL, opIsi, isTy, opAbs, opMin, opInt, opMul, is_nn, is_nt, is_nr, is_nb, is_ni, is_ntm, is_nst, eq_ii, ne_ii, eq_bb, ne_bb, mE, f1, f2, f3, f4, f5, hT, catVL, ifL, opNotIn, inD, q4, hm, hsz (F.length + 1) (by omega)]
      · show (T5.objs ++ _)[k3]? = _
        rw [List.getElem?_append_left (List.getElem?_eq_some_iff.mp q3).1]; exact q3
      · rw [List.nodup_append]
        refine ⟨p4, by simp [initE, List.replicate, retS, retN, seqS, asgS, exprS, ifS, parS, skipS, setAll, varE, cstE, nilL, consL, tupE, mkL, un1, bin2, andE, orE, ifE, chainE, boolT, truthT, notT, andT, orT, yesT, callE, nameG, tupG, consG, nilG, itemsD, opNot, opAdd, opSub, opDiv, opMod, opNeg, opLt, opLe, opGt, opGe, opIsNot, opIs, ltD, leD, truth, at_nat, at_0, at_1, at_2, at_3, at_4, opIx, fLen, coreE, coreL, opIsi, isTy, opAbs, opMin, opInt, opMul, is_nn, is_nt, is_nr, is_nb, is_ni, is_ntm, is_nst, eq_ii, ne_ii, eq_bb, ne_bb], fun a ha b hb => ?_⟩
        rw [List.mem_singleton.mp hb]
        exact fun z => hin (z ▸ ha)
      · intro e he
        rcases List.mem_append.mp he with he | he
        · exact p5 e he
        · rw [List.mem_singleton.mp he]; exact hx
  · rintro env S1 ⟨F, k4, a5, a8, a9, a10, a11, a12, rfl, p0, p1, p2, p3, p4, p5, p6⟩
    exact ⟨trivial, F, k4, a5, a8, a9, a10, a11, a12, rfl, p1, p2, p3, p4, p5, by simpa using p6⟩
theorem machine_w (n c most greatest : Nat) (S : Store) (hS : ∃ a b, S.objs[c]? = some (cupO a b)) (hm : 1 ≤ most ∧ most ≤ 8) (hg : greatest ≤ 20) :
    Wp (ev (n + 4) j__law_machine [.ref c, .int most, .int greatest] S) fun d S' => (∃ m, d = m.d ∧ McOk m) ∧ CuStep c S S' := by
  rw [u__law_machine]
  obtain ⟨a, b, hS⟩ := hS
  have hc : c < S.objs.length := (List.getElem?_eq_some_iff.mp hS).1
  refine run_cup (P := fun d => ∃ m, d = m.d ∧ McOk m) rfl hc ?_
  have e0 : initE 13 [D.ref c, .int most, .int greatest] = [some (.ref c), some (.int most), some (.int greatest), none, none, none, none, none, none, none, none, none, none] := rfl
  rw [e0]
  have N0 := NwC.refl hS
  unfold b__law_machine
  refine Wp.elim (roll_w (n + 2) c a b most ⟨S.objs, []⟩ hS (by omega) (by omega)) ?_
  rintro _ T1 f1 ⟨⟨v1, hv1, rfl⟩, s1⟩
  have N1 := N0.step hc s1
  obtain ⟨a1, b1, c1⟩ := N1.cup hc
  refine Wp.elim (roll_w (n + 2) c a1 b1 3 T1 c1 (by decide) (by decide)) ?_
  rintro _ T2 f2 ⟨⟨K, hK, rfl⟩, s2⟩
  have f2 : ev (n + 3) j__law_roll [.ref c, .int 3] T1 = .ok (.int K) T2 := f2
  have N2 := N1.step hc s2
  have hPi : (1 : Int) + (v1 : Int) = ((v1 + 1 : Nat) : Int) := by omega
  rw [seq_nx (env1 := mE c most greatest none none none (v1 + 1) K none none none none none) (S1 := T2) (by
    rw [mE, ← hPi]
    simp -implicitDefEqProofs [initE, List.replicate, retS, retN, seqS, asgS, exprS, ifS, parS, skipS, setAll, varE, cstE, nilL, consL, tupE, mkL, un1, bin2, andE, orE, ifE, chainE, boolT, truthT, notT, andT, orT, yesT, callE, nameG, tupG, consG, nilG, itemsD, opNot, opAdd, opSub, opDiv, opMod, opNeg, opLt, opLe, opGt, opGe, opIsNot, opIs, ltD, leD, truth, at_nat, at_0, at_1, at_2, at_3, at_4, opIx, fLen, coreE, coreL, opIsi, isTy, opAbs, opMin, opInt, opMul, is_nn, is_nt, is_nr, is_nb, is_ni, is_ntm, is_nst, eq_ii, ne_ii, eq_bb, ne_bb, f1, f2])]
  generalize hP : v1 + 1 = P at *
  refine Wp.elim (stays_w n c most greatest P K S.objs none none none none none none none none T2 hc N2 hg (by omega) (by omega)) ?_
  rintro _ T3 f3 ⟨L, rfl, L1, L2, N3⟩
  rw [seq_nx (env1 := mE c most greatest (some (.ref T3.objs.length)) none none P K none none none none none) (S1 := ⟨T3.objs ++ [.lst (L.map dms)], T3.dirty⟩) (by
    simp only [mE] at f3
    simp -implicitDefEqProofs [initE, List.replicate, retS, retN, seqS, asgS, exprS, ifS, parS, skipS, setAll, varE, cstE, nilL, consL, tupE, mkL, un1, bin2, andE, orE, ifE, chainE, boolT, truthT, notT, andT, orT, yesT, callE, nameG, tupG, consG, nilG, itemsD, opNot, opAdd, opSub, opDiv, opMod, opNeg, opLt, opLe, opGt, opGe, opIsNot, opIs, ltD, leD, truth, at_nat, at_0, at_1, at_2, at_3, at_4, opIx, fLen, coreE, coreL, opIsi, isTy, opAbs, opMin, opInt, opMul, is_nn, is_nt, is_nr, is_nb, is_ni, is_ntm, is_nst, eq_ii, ne_ii, eq_bb, ne_bb, mE, f3])]
  have N4 := N3.alloc (.lst (L.map dms))
  have l3 := N3.len
  obtain ⟨a2, b2, c2⟩ := N4.cup hc
  refine Wp.elim (roll_w (n + 2) c a2 b2 3 _ c2 (by decide) (by decide)) ?_
  rintro _ T5 f5 ⟨⟨v5, hv5, rfl⟩, s5⟩
  have f5 : ev (n + 3) j__law_roll [.ref c, .int 3] ⟨T3.objs ++ [.lst (L.map dms)], T3.dirty⟩ = .ok (.int v5) T5 := f5
  have N5 := N4.step hc s5
  have q5 : T5.objs[T3.objs.length]? = some (.lst (L.map dms)) := by
    rw [s5.other (by omega)]; simp [initE, List.replicate, retS, retN, seqS, asgS, exprS, ifS, parS, skipS, setAll, varE, cstE, nilL, consL, tupE, mkL, un1, bin2, andE, orE, ifE, chainE, boolT, truthT, notT, andT, orT, yesT, callE, nameG, tupG, consG, nilG, itemsD, opNot, opAdd, opSub, opDiv, opMod, opNeg, opLt, opLe, opGt, opGe, opIsNot, opIs, ltD, leD, truth, at_nat, at_0, at_1, at_2, at_3, at_4, opIx, fLen, coreE, coreL, opIsi, isTy, opAbs, opMin, opInt, opMul, is_nn, is_nt, is_nr, is_nb, is_ni, is_ntm, is_nst, eq_ii, ne_ii, eq_bb, ne_bb]
  have hi5 : T3.objs.length < T5.objs.length := (List.getElem?_eq_some_iff.mp q5).1
  have hstep : Wp (ifS (boolT (bin2 opGt (callE (ev (n + 3)) j__law_roll (consL (varE 0) (consL (cstE (.int (3))) nilL))) (cstE (.int (0))))) (asgS (subG (varE 3) (cstE (.int (0)))) (tupE nilL)) skipS (mE c most greatest (some (.ref T3.objs.length)) none none P K none none none none none) ⟨T3.objs ++ [.lst (L.map dms)], T3.dirty⟩) fun f S' => f = .nx (mE c most greatest (some (.ref T3.objs.length)) none none P K none none none none none) ∧ NwC c S.objs S' ∧ ∃ L' : List (List Dm), S'.objs[T3.objs.length]? = some (.lst (L'.map dms)) ∧ L'.length = P ∧ ∀ x ∈ L', SyOk K x := by
    by_cases h : 0 < v5
    · refine Wp.of (a := .nx (mE c most greatest (some (.ref T3.objs.length)) none none P K none none none none none)) (S := T5.set T3.objs.length (.lst ((L.set 0 []).map dms))) ?_ ⟨rfl, N5.set l3 hi5 _, L.set 0 [], ?_, by rw [List.length_set]; exact L1, fun x hx => ?_⟩
      · have hix : ixD (L.map dms).length 0 = some 0 := by
          unfold ixD
          rw [if_pos (by decide), if_pos (by rw [List.length_map]; omega)]; rfl
        have hset : (L.map dms).set 0 (.tup []) = (L.set 0 []).map dms := by
          rw [List.map_set]; rfl
        generalize L.map dms = XX at *
        simp -implicitDefEqProofs [initE, List.replicate, retS, retN, seqS, asgS, exprS, ifS, parS, skipS, setAll, varE, cstE, nilL, consL, tupE, mkL, un1, bin2, andE, orE, ifE, chainE, boolT, truthT, notT, andT, orT, yesT, callE, nameG, tupG, consG, nilG, itemsD, opNot, opAdd, opSub, opDiv, opMod, opNeg, opLt, opLe, opGt, opGe, opIsNot, opIs, ltD, leD, truth, at_nat, at_0, at_1, at_2, at_3, at_4, opIx, fLen, coreE, coreL, opIsi, isTy, opAbs, opMin, opInt, opMul, is_nn, is_nt, is_nr, is_nb, is_ni, is_ntm, is_nst, eq_ii, ne_ii, eq_bb, ne_bb, mE, f5, h, subG, q5, hix, hset]
      · show (T5.objs.set T3.objs.length _)[T3.objs.length]? = _
        rw [List.getElem?_set_self hi5]
      · rcases List.mem_or_eq_of_mem_set hx with hx | hx
        · exact L2 x hx
        · rw [hx]; exact SyOk.nil K
    · refine Wp.of (a := .nx (mE c most greatest (some (.ref T3.objs.length)) none none P K none none none none none)) (S := T5) ?_ ⟨rfl, N5, L, q5, L1, L2⟩
      simp -implicitDefEqProofs [initE, List.replicate, retS, retN, seqS, asgS, exprS, ifS, parS, skipS, setAll, varE, cstE, nilL, consL, tupE, mkL, un1, bin2, andE, orE, ifE, chainE, boolT, truthT, notT, andT, orT, yesT, callE, nameG, tupG, consG, nilG, itemsD, opNot, opAdd, opSub, opDiv, opMod, opNeg, opLt, opLe, opGt, opGe, opIsNot, opIs, ltD, leD, truth, at_nat, at_0, at_1, at_2, at_3, at_4, opIx, fLen, coreE, coreL, opIsi, isTy, opAbs, opMin, opInt, opMul, is_nn, is_nt, is_nr, is_nb, is_ni, is_ntm, is_nst, eq_ii, ne_ii, eq_bb, ne_bb, mE, f5, h]
  refine Wp.elim hstep ?_
  rintro _ T6 f6 ⟨rfl, N6, L', q6, L1', L2'⟩
  rw [seq_nx f6]
  rw [seq_nx (env1 := mE c most greatest (some (.ref T3.objs.length)) (some (.ref T6.objs.length)) none P K none none none none none) (S1 := ⟨T6.objs ++ [.lst []], T6.dirty⟩) (by
    simp -implicitDefEqProofs [initE, List.replicate, retS, retN, seqS, asgS, exprS, ifS, parS, skipS, setAll, varE, cstE, nilL, consL, tupE, mkL, un1, bin2, andE, orE, ifE, chainE, boolT, truthT, notT, andT, orT, yesT, callE, nameG, tupG, consG, nilG, itemsD, opNot, opAdd, opSub, opDiv, opMod, opNeg, opLt, opLe, opGt, opGe, opIsNot, opIs, ltD, leD, truth, at_nat, at_0, at_1, at_2, at_3, at_4, opIx, fLen, coreE, coreL, opIsi, isTy, opAbs, opMin, opInt, opMul, is_nn, is_nt, is_nr, is_nb, is_ni, is_ntm, is_nst, eq_ii, ne_ii, eq_bb, ne_bb, mE])]
  have hi6 : T3.objs.length < T6.objs.length := (List.getElem?_eq_some_iff.mp q6).1
  refine Wp.elim (edges_w n c most greatest P K S.objs T3.objs.length (L'.map dms) none none none none none none T6.objs.length ⟨T6.objs ++ [.lst []], T6.dirty⟩ hc (N6.alloc _) hg (by omega) (by omega) (by omega) (by show (T6.objs ++ _)[T3.objs.length]? = _; rw [List.getElem?_append_left hi6]; exact q6) (by omega) (by simp [initE, List.replicate, retS, retN, seqS, asgS, exprS, ifS, parS, skipS, setAll, varE, cstE, nilL, consL, tupE, mkL, un1, bin2, andE, orE, ifE, chainE, boolT, truthT, notT, andT, orT, yesT, callE, nameG, tupG, consG, nilG, itemsD, opNot, opAdd, opSub, opDiv, opMod, opNeg, opLt, opLe, opGt, opGe, opIsNot, opIs, ltD, leD, truth, at_nat, at_0, at_1, at_2, at_3, at_4, opIx, fLen, coreE, coreL, opIsi, isTy, opAbs, opMin, opInt, opMul, is_nn, is_nt, is_nr, is_nb, is_ni, is_ntm, is_nst, eq_ii, ne_ii, eq_bb, ne_bb]) (by omega)) ?_
  rintro _ T7 f7 ⟨F, k4, x5, x8, x9, x10, x11, x12, rfl, N7, q7, q8, F1, F2, F3⟩
  rw [seq_nx f7]
  obtain ⟨Z, z1, z2, z3⟩ := sort_eds F F1 (by omega)
  have zl := z2.length_eq
  have hT1 : fTup (L'.map dms) = some (.tup (L'.map dms)) := fTup_le (by rw [List.length_map]; omega)
  have hT2 : fTup (Z.map Ed.d) = some (.tup (Z.map Ed.d)) := fTup_le (by rw [List.length_map]; omega)
  refine Wp.of (a := .rt (Mc.d ⟨P, K, L', Z⟩)) (S := T7) ?_ ⟨_, rfl, flat_Mc _, ⟨⟨P, K, L', Z⟩, rfl, ?_⟩, N7⟩
  · generalize hX : L'.map dms = X1 at *
    generalize hF : F.map Ed.d = X2 at *
    simp -implicitDefEqProofs [initE, List.replicate, retS, retN, seqS, asgS, exprS, ifS, parS, skipS, setAll, varE, cstE, nilL, consL, tupE, mkL, un1, bin2, andE, orE, ifE, chainE, boolT, truthT, notT, andT, orT, yesT, callE, nameG, tupG, consG, nilG, itemsD, opNot, opAdd, opSub, opDiv, opMod, opNeg, opLt, opLe, opGt, opGe, opIsNot, opIs, ltD, leD, truth, at_nat, at_0, at_1, at_2, at_3, at_4, opIx, fLen, coreE, coreL, opIsi, isTy, opAbs, opMin, opInt, opMul, is_nn, is_nt, is_nr, is_nb, is_ni, is_ntm, is_nst, eq_ii, ne_ii, eq_bb, ne_bb, mE, q7, q8, sortvL, z1, hT1, hT2, Mc.d]
    exact hX.symm
  · exact ⟨by show 1 ≤ P; omega, by show P ≤ 8; omega, by show K ≤ 3; omega, L1', fun l hl => ⟨(L2' l hl).d, by have := (L2' l hl).n; omega, (L2' l hl).r⟩, by show Z.length ≤ 30; omega, fun e he => F2 e (z2.mem_iff.mp he), z3⟩
end K81
set_option Elab.async false
set_option linter.all false
set_option maxRecDepth 100000
set_option maxHeartbeats 4000000
namespace K81
open PySem Ev
def oneD (i : Nat) : D := .int i
theorem times_w (n c : Nat) (B : List O) (m : Mc) (x2 x3 x4 x5 : Option D) (S : Store) (hc : c < B.length) (hN : NwC c B S) (hm : McOk m) :
    Wp (lc__law_right_1 (ev (n + 2)) [some (.ref c), some m.d, x2, x3, x4, x5] S) fun l S' => ∃ ts : List Rat, l = ts.map tm ∧ ts.length = m.k ∧ (∀ q ∈ ts, 0 ≤ q ∧ Sm 11 4 q) ∧ NwC c B S' := by
  unfold lc__law_right_1
  have e0 : rngI1 (bin2 opIx (varE 1) (cstE (.int (1)))) [some (.ref c), some m.d, x2, x3, x4, x5] S = .ok (.rng 0 m.k) S := rng_nat (by simp -implicitDefEqProofs [initE, List.replicate, retS, retN, seqS, asgS, exprS, ifS, parS, skipS, setAll, varE, cstE, nilL, consL, tupE, mkL, un1, bin2, andE, orE, ifE, chainE, boolT, truthT, notT, andT, orT, yesT, callE, nameG, tupG, consG, nilG, itemsD, opNot, opAdd, opSub, opDiv, opMod, opNeg, opLt, opLe, opGt, opGe, opIsNot, opIs, ltD, leD, truth, at_nat, at_0, at_1, at_2, at_3, at_4, opIx, fLen, coreE, coreL, opIsi, isTy, opAbs, opMin, opInt, opMul, is_nn, is_nt, is_nr, is_nb, is_ni, is_ntm, is_nst, eq_ii, ne_ii, eq_bb, ne_bb, Mc.d]) (by have := hm.k; omega)
  rw [lcL_src e0]
  refine (lc_inv (I := fun _ => True) (P := fun ds acc S' => NwC c B S' ∧ ∃ ts : List Rat, acc.reverse = ts.map tm ∧ ts.length + ds.length = m.k ∧ ∀ q ∈ ts, 0 ≤ q ∧ Sm 11 4 q) ?_ _ FU _ [] S (PS.rng _ _ _) (by rw [intsFrom_len, FU_eq]; have := hm.k; omega) ⟨hN, [], rfl, by rw [intsFrom_len]; simp [initE, List.replicate, retS, retN, seqS, asgS, exprS, ifS, parS, skipS, setAll, varE, cstE, nilL, consL, tupE, mkL, un1, bin2, andE, orE, ifE, chainE, boolT, truthT, notT, andT, orT, yesT, callE, nameG, tupG, consG, nilG, itemsD, opNot, opAdd, opSub, opDiv, opMod, opNeg, opLt, opLe, opGt, opGe, opIsNot, opIs, ltD, leD, truth, at_nat, at_0, at_1, at_2, at_3, at_4, opIx, fLen, coreE, coreL, opIsi, isTy, opAbs, opMin, opInt, opMul, is_nn, is_nt, is_nr, is_nb, is_ni, is_ntm, is_nst, eq_ii, ne_ii, eq_bb, ne_bb], fun x h => by cases h⟩ (fun _ _ _ => trivial)).mono ?_
  · rintro d r acc S1 ⟨hN1, ts, h1, h2, h3⟩
    refine ⟨trivial, _, rfl, Wp.of (a := true) (S := S1) rfl ?_⟩
    rw [if_pos rfl]
    obtain ⟨a, b, hcup⟩ := hN1.cup hc
    refine Wp.elim (roll_w (n + 1) c a b 12 S1 hcup (by decide) (by decide)) ?_
    rintro _ T1 f1 ⟨⟨v, hv, rfl⟩, s1⟩
    have f1 : ev (n + 2) j__law_roll [.ref c, .int 12] S1 = .ok (.int v) T1 := f1
    have N1 := hN1.step hc s1
    have N2 := N1.alloc (.lst ([1, 2, 3, 4].map oneD))
    have hl := N1.len
    refine Wp.elim (some_w n c T1.objs.length ([1, 2, 3, 4].map oneD) ⟨T1.objs ++ [.lst ([1, 2, 3, 4].map oneD)], T1.dirty⟩ (N2.cup hc) (by simp [initE, List.replicate, retS, retN, seqS, asgS, exprS, ifS, parS, skipS, setAll, varE, cstE, nilL, consL, tupE, mkL, un1, bin2, andE, orE, ifE, chainE, boolT, truthT, notT, andT, orT, yesT, callE, nameG, tupG, consG, nilG, itemsD, opNot, opAdd, opSub, opDiv, opMod, opNeg, opLt, opLe, opGt, opGe, opIsNot, opIs, ltD, leD, truth, at_nat, at_0, at_1, at_2, at_3, at_4, opIx, fLen, coreE, coreL, opIsi, isTy, opAbs, opMin, opInt, opMul, is_nn, is_nt, is_nr, is_nb, is_ni, is_ntm, is_nst, eq_ii, ne_ii, eq_bb, ne_bb]) (by omega) (by simp [initE, List.replicate, retS, retN, seqS, asgS, exprS, ifS, parS, skipS, setAll, varE, cstE, nilL, consL, tupE, mkL, un1, bin2, andE, orE, ifE, chainE, boolT, truthT, notT, andT, orT, yesT, callE, nameG, tupG, consG, nilG, itemsD, opNot, opAdd, opSub, opDiv, opMod, opNeg, opLt, opLe, opGt, opGe, opIsNot, opIs, ltD, leD, truth, at_nat, at_0, at_1, at_2, at_3, at_4, opIx, fLen, coreE, coreL, opIsi, isTy, opAbs, opMin, opInt, opMul, is_nn, is_nt, is_nr, is_nb, is_ni, is_ntm, is_nst, eq_ii, ne_ii, eq_bb, ne_bb]) (by simp [initE, List.replicate, retS, retN, seqS, asgS, exprS, ifS, parS, skipS, setAll, varE, cstE, nilL, consL, tupE, mkL, un1, bin2, andE, orE, ifE, chainE, boolT, truthT, notT, andT, orT, yesT, callE, nameG, tupG, consG, nilG, itemsD, opNot, opAdd, opSub, opDiv, opMod, opNeg, opLt, opLe, opGt, opGe, opIsNot, opIs, ltD, leD, truth, at_nat, at_0, at_1, at_2, at_3, at_4, opIx, fLen, coreE, coreL, opIsi, isTy, opAbs, opMin, opInt, opMul, is_nn, is_nt, is_nr, is_nb, is_ni, is_ntm, is_nst, eq_ii, ne_ii, eq_bb, ne_bb]) (fun x hx => by
      obtain ⟨y, _, rfl⟩ := List.mem_map.mp hx
      simp [initE, List.replicate, retS, retN, seqS, asgS, exprS, ifS, parS, skipS, setAll, varE, cstE, nilL, consL, tupE, mkL, un1, bin2, andE, orE, ifE, chainE, boolT, truthT, notT, andT, orT, yesT, callE, nameG, tupG, consG, nilG, itemsD, opNot, opAdd, opSub, opDiv, opMod, opNeg, opLt, opLe, opGt, opGe, opIsNot, opIs, ltD, leD, truth, at_nat, at_0, at_1, at_2, at_3, at_4, opIx, fLen, coreE, coreL, opIsi, isTy, opAbs, opMin, opInt, opMul, is_nn, is_nt, is_nr, is_nb, is_ni, is_ntm, is_nst, eq_ii, ne_ii, eq_bb, ne_bb, oneD])) ?_
    rintro _ T2 f2 ⟨hmem, s2⟩
    obtain ⟨w, hw, rfl⟩ := List.mem_map.mp hmem
    have f2 : ev (n + 2) j__law_some [.ref c, .ref T1.objs.length] ⟨T1.objs ++ [.lst [.int 1, .int 2, .int 3, .int 4]], T1.dirty⟩ = .ok (.int w) T2 := f2
    have hw4 : 0 < w ∧ w ≤ 4 := by
      simp only [List.mem_cons, List.not_mem_nil, or_false] at hw
      omega
    have f3 := ltime_t n v w T2 hw4.1 (by omega)
    refine Wp.of (a := tm (mkRat v w)) (S := T2) ?_ ⟨N2.step hc s2, ts ++ [mkRat v w], by rw [List.reverse_cons, h1, List.map_append]; rfl, by rw [List.length_append]; simp only [List.length_cons, List.length_nil] at h2 ⊢; omega, fun q hq => ?_⟩
    · simp -implicitDefEqProofs [initE, List.replicate, retS, retN, seqS, asgS, exprS, ifS, parS, skipS, setAll, varE, cstE, nilL, consL, tupE, mkL, un1, bin2, andE, orE, ifE, chainE, boolT, truthT, notT, andT, orT, yesT, callE, nameG, tupG, consG, nilG, itemsD, opNot, opAdd, opSub, opDiv, opMod, opNeg, opLt, opLe, opGt, opGe, opIsNot, opIs, ltD, leD, truth, at_nat, at_0, at_1, at_2, at_3, at_4, opIx, fLen, coreE, coreL, opIsi, isTy, opAbs, opMin, opInt, opMul, is_nn, is_nt, is_nr, is_nb, is_ni, is_ntm, is_nst, eq_ii, ne_ii, eq_bb, ne_bb, wipeE, f1, f2, f3]
    · rcases List.mem_append.mp hq with hq | hq
      · exact h3 q hq
      · rw [List.mem_singleton.mp hq]
        refine ⟨?_, Sm.mk (by omega) (by rw [Int.natAbs_natCast]; omega) hw4.2⟩
        have hnn : 0 ≤ (mkRat (v : Int) w).num := by
          rw [Rat.num_mkRat, if_neg (by omega)]
          exact Int.ediv_nonneg (by omega) (by omega)
        exact Rat.num_nonneg.mp hnn
  · rintro l S' ⟨acc, rfl, hN', ts, h1, h2, h3⟩
    exact ⟨ts, h1, by simpa using h2, h3, hN'⟩
theorem ne_nils (l : LF) (env : Ev.Env) (S : Store) (h : l env S = .ok [] S) : bin2 opNe (mkL l) (mkL nilL) env S = .ok (.bl false) ⟨S.objs ++ [.lst []] ++ [.lst []], S.dirty⟩ := by
  have h4 := eq_lists (S := ⟨S.objs ++ [.lst []] ++ [.lst []], S.dirty⟩) (a := S.objs.length) (b := S.objs.length + 1) (xs := []) (ps := []) (by simp [initE, List.replicate, retS, retN, seqS, asgS, exprS, ifS, parS, skipS, setAll, varE, cstE, nilL, consL, tupE, mkL, un1, bin2, andE, orE, ifE, chainE, boolT, truthT, notT, andT, orT, yesT, callE, nameG, tupG, consG, nilG, itemsD, opNot, opAdd, opSub, opDiv, opMod, opNeg, opLt, opLe, opGt, opGe, opIsNot, opIs, ltD, leD, truth, at_nat, at_0, at_1, at_2, at_3, at_4, opIx, fLen, coreE, coreL, opIsi, isTy, opAbs, opMin, opInt, opMul, is_nn, is_nt, is_nr, is_nb, is_ni, is_ntm, is_nst, eq_ii, ne_ii, eq_bb, ne_bb]) (by simp [initE, List.replicate, retS, retN, seqS, asgS, exprS, ifS, parS, skipS, setAll, varE, cstE, nilL, consL, tupE, mkL, un1, bin2, andE, orE, ifE, chainE, boolT, truthT, notT, andT, orT, yesT, callE, nameG, tupG, consG, nilG, itemsD, opNot, opAdd, opSub, opDiv, opMod, opNeg, opLt, opLe, opGt, opGe, opIsNot, opIs, ltD, leD, truth, at_nat, at_0, at_1, at_2, at_3, at_4, opIx, fLen, coreE, coreL, opIsi, isTy, opAbs, opMin, opInt, opMul, is_nn, is_nt, is_nr, is_nb, is_ni, is_ntm, is_nst, eq_ii, ne_ii, eq_bb, ne_bb]) rfl
  have h4' : opNe (.ref S.objs.length) (.ref (S.objs ++ [O.lst []]).length) ⟨S.objs ++ [.lst []] ++ [.lst []], S.dirty⟩ = .ok (.bl false) ⟨S.objs ++ [.lst []] ++ [.lst []], S.dirty⟩ := by
    rw [List.length_append]
    unfold opEq at h4
    unfold opNe
    split at h4
    · rename_i b hb
      have hb' : eqD ⟨S.objs ++ [.lst []] ++ [.lst []], S.dirty⟩ (.ref S.objs.length) (.ref (S.objs.length + [O.lst []].length)) = some b := hb
      injection h4 with h4
      injection h4 with h4
      rw [hb', h4]; rfl
    · cases h4
  simp -implicitDefEqProofs [initE, List.replicate, retS, retN, seqS, asgS, exprS, ifS, parS, skipS, setAll, varE, cstE, nilL, consL, tupE, mkL, un1, bin2, andE, orE, ifE, chainE, boolT, truthT, notT, andT, orT, yesT, callE, nameG, tupG, consG, nilG, itemsD, opNot, opAdd, opSub, opDiv, opMod, opNeg, opLt, opLe, opGt, opGe, opIsNot, opIs, ltD, leD, truth, at_nat, at_0, at_1, at_2, at_3, at_4, opIx, fLen, coreE, coreL, opIsi, isTy, opAbs, opMin, opInt, opMul, is_nn, is_nt, is_nr, is_nb, is_ni, is_ntm, is_nst, eq_ii, ne_ii, eq_bb, ne_bb, -List.append_assoc, -List.length_append, h, h4']
theorem fm_none (l : List D) : l.filterMap (fun _ => (none : Option D)) = [] := by
  induction l with
  | nil => rfl
  | cons d l ih => rw [List.filterMap_cons]; exact ih
theorem rights_none (n c : Nat) (m : Mc) (p : Nat) (ts : List Rat) (x2 x4 x5 : Option D) (S : Store) (hm : McOk m) (hs : StS m p ts) (hl : letIn m p ts = true) : lc__law_right_2 (ev (n + 10)) [some (.ref c), some m.d, x2, some (std p ts), x4, x5] S = .ok [] S := by
  unfold lc__law_right_2
  have e0 : rngI1 (coreE fLen (bin2 opIx (varE 1) (cstE (.int (3))))) [some (.ref c), some m.d, x2, some (std p ts), x4, x5] S = .ok (.rng 0 m.es.length) S := rng_nat (by simp -implicitDefEqProofs [initE, List.replicate, retS, retN, seqS, asgS, exprS, ifS, parS, skipS, setAll, varE, cstE, nilL, consL, tupE, mkL, un1, bin2, andE, orE, ifE, chainE, boolT, truthT, notT, andT, orT, yesT, callE, nameG, tupG, consG, nilG, itemsD, opNot, opAdd, opSub, opDiv, opMod, opNeg, opLt, opLe, opGt, opGe, opIsNot, opIs, ltD, leD, truth, at_nat, at_0, at_1, at_2, at_3, at_4, opIx, fLen, coreE, coreL, opIsi, isTy, opAbs, opMin, opInt, opMul, is_nn, is_nt, is_nr, is_nb, is_ni, is_ntm, is_nst, eq_ii, ne_ii, eq_bb, ne_bb, Mc.d]) (by have := hm.el; omega)
  rw [lcL_src e0]
  rw [lc_filt (I := fun _ => True) (fun _ => none) trivial _ FU _ [] (PS.rng _ _ _) (by rw [intsFrom_len, FU_eq]; have := hm.el; omega) ?_]
  · rw [fm_none, List.reverse_nil, List.nil_append]
  · intro d hd
    obtain ⟨e, rfl, he⟩ := mem_ints hd
    refine ⟨_, rfl, .inl ⟨rfl, ?_⟩⟩
    have h := wright_t n m p ts e (.ref c) S hm hs he hl
    simp -implicitDefEqProofs [initE, List.replicate, retS, retN, seqS, asgS, exprS, ifS, parS, skipS, setAll, varE, cstE, nilL, consL, tupE, mkL, un1, bin2, andE, orE, ifE, chainE, boolT, truthT, notT, andT, orT, yesT, callE, nameG, tupG, consG, nilG, itemsD, opNot, opAdd, opSub, opDiv, opMod, opNeg, opLt, opLe, opGt, opGe, opIsNot, opIs, ltD, leD, truth, at_nat, at_0, at_1, at_2, at_3, at_4, opIx, fLen, coreE, coreL, opIsi, isTy, opAbs, opMin, opInt, opMul, is_nn, is_nt, is_nr, is_nb, is_ni, is_ntm, is_nst, eq_ii, ne_ii, eq_bb, ne_bb, wipeE, h]
theorem stuck_none {m : Mc} {p : Nat} {ts : List Rat} (hm : McOk m) (hs : StS m p ts) (hl : letIn m p ts = true) (h : isStuck m p ts = true) : ((List.range m.es.length).filter fun e => (edgeTo m p ts e).isSome) = [] := by
  rw [List.filter_eq_nil_iff]
  intro e he
  have he := List.mem_range.mp he
  have h1 := List.all_eq_true.mp h e (List.mem_range.mpr he)
  rw [waits_no_edge hm hs he hl (Option.isNone_iff_eq_none.mp h1)]
  simp [initE, List.replicate, retS, retN, seqS, asgS, exprS, ifS, parS, skipS, setAll, varE, cstE, nilL, consL, tupE, mkL, un1, bin2, andE, orE, ifE, chainE, boolT, truthT, notT, andT, orT, yesT, callE, nameG, tupG, consG, nilG, itemsD, opNot, opAdd, opSub, opDiv, opMod, opNeg, opLt, opLe, opGt, opGe, opIsNot, opIs, ltD, leD, truth, at_nat, at_0, at_1, at_2, at_3, at_4, opIx, fLen, coreE, coreL, opIsi, isTy, opAbs, opMin, opInt, opMul, is_nn, is_nt, is_nr, is_nb, is_ni, is_ntm, is_nst, eq_ii, ne_ii, eq_bb, ne_bb]
theorem ne_nts (S : Store) : opNe (nts []) (.tup []) S = .ok (.bl false) S := rfl
theorem right_w (n c : Nat) (m : Mc) (S : Store) (hS : ∃ a b, S.objs[c]? = some (cupO a b)) (hm : McOk m) :
    Wp (ev (n + 11) j__law_right [.ref c, m.d] S) fun d S' => d = .bl true ∧ CuStep c S S' := by
  rw [u__law_right]
  obtain ⟨a, b, hS⟩ := hS
  have hc : c < S.objs.length := (List.getElem?_eq_some_iff.mp hS).1
  refine run_cup (P := fun d => d = .bl true) rfl hc ?_
  have e0 : initE 6 [D.ref c, m.d] = [some (.ref c), some m.d, none, none, none, none] := rfl
  rw [e0]
  unfold b__law_right
  have hloop : Wp (fo__law_right_1 (ev (n + 10)) [some (.ref c), some m.d, none, none, none, none] ⟨S.objs, []⟩) fun f S' => (∃ env, f = .nx env) ∧ NwC c S.objs S' := by
    unfold fo__law_right_1
    rw [forS_src (rng_nat (k := 5) (S1 := ⟨S.objs, []⟩) rfl (by decide))]
    refine for_inv (I := fun _ => True) (P := fun ds env S' => (∃ x2 x3 x4 x5, env = [some (.ref c), some m.d, x2, x3, x4, x5]) ∧ NwC c S.objs S') ?_ ?_ _ FU _ _ _ (PS.rng _ _ _) (by rw [intsFrom_len, FU_eq]; decide) ⟨⟨_, _, _, _, rfl⟩, NwC.refl hS⟩
    · rintro d r env S1 ⟨⟨x2, x3, x4, x5, rfl⟩, N1⟩
      refine ⟨trivial, _, _, rfl, ?_⟩
      obtain ⟨a1, b1, hcup⟩ := N1.cup hc
      refine Wp.elim (roll_w (n + 9) c a1 b1 m.p S1 hcup (by have := hm.p1; omega) (by have := hm.p8; omega)) ?_
      rintro _ T1 f1 ⟨⟨p, hp, rfl⟩, s1⟩
      have N2 := N1.step hc s1
      refine Wp.elim (times_w (n + 8) c S.objs m (some d) x3 x4 x5 T1 hc N2 hm) ?_
      rintro _ T2 f2 ⟨ts, rfl, t1, t2, N3⟩
      have hs : StS m p ts := ⟨hp, t1, t2⟩
      have hT : fTup (ts.map tm) = some (tms ts) := fTup_le (by rw [List.length_map, t1]; have := hm.k; omega)
      unfold fb__law_right_1
      have hmd : atD [D.int m.p, .int m.k, .tup (m.st.map dms), .tup (m.es.map Ed.d)] 0 = some (.int m.p) := rfl
      rw [seq_nx (env1 := [some (.ref c), some m.d, some d, some (std p ts), x4, x5]) (S1 := T2) (by
        simp only [Mc.d] at f2 ⊢
        simp -implicitDefEqProofs [initE, List.replicate, retS, retN, seqS, asgS, exprS, ifS, parS, skipS, setAll, varE, cstE, nilL, consL, tupE, mkL, un1, bin2, andE, orE, ifE, chainE, boolT, truthT, notT, andT, orT, yesT, callE, nameG, tupG, consG, nilG, itemsD, opNot, opAdd, opSub, opDiv, opMod, opNeg, opLt, opLe, opGt, opGe, opIsNot, opIs, ltD, leD, truth, at_nat, at_0, at_1, at_2, at_3, at_4, opIx, fLen, coreE, coreL, opIsi, isTy, opAbs, opMin, opInt, opMul, is_nn, is_nt, is_nr, is_nb, is_ni, is_ntm, is_nst, eq_ii, ne_ii, eq_bb, ne_bb, hmd, f1, f2, hT, std])]
      have g1 := is_let_t (n + 1) m p ts T2 hm hs.ok
      have g2 : ev (n + 10) j__law_keeps [tms ts, dms (m.stay p)] T2 = .ok (.bl (letIn m p ts)) T2 := by
        obtain ⟨a, b, _⟩ := stay_ok m p hm hp
        exact lkeeps_t (n + 9) m.k ts (m.stay p) T2 a t1 (by omega) (fun q hq => (hs.ok.t q hq).2)
      have g3 := stay_get m p hm hp
      rw [seq_nx (env1 := [some (.ref c), some m.d, some d, some (std p ts), x4, x5]) (S1 := T2) (by
        simp only [Mc.d, std] at g1 ⊢
        simp -implicitDefEqProofs [initE, List.replicate, retS, retN, seqS, asgS, exprS, ifS, parS, skipS, setAll, varE, cstE, nilL, consL, tupE, mkL, un1, bin2, andE, orE, ifE, chainE, boolT, truthT, notT, andT, orT, yesT, callE, nameG, tupG, consG, nilG, itemsD, opNot, opAdd, opSub, opDiv, opMod, opNeg, opLt, opLe, opGt, opGe, opIsNot, opIs, ltD, leD, truth, at_nat, at_0, at_1, at_2, at_3, at_4, opIx, fLen, coreE, coreL, opIsi, isTy, opAbs, opMin, opInt, opMul, is_nn, is_nt, is_nr, is_nb, is_ni, is_ntm, is_nst, eq_ii, ne_ii, eq_bb, ne_bb, g1, g2, g3])]
      cases hl : letIn m p ts
      · rw [hl] at g1
        refine Wp.of (a := .nx [some (.ref c), some m.d, some d, some (std p ts), x4, x5]) (S := T2) ?_ ⟨⟨_, _, _, _, rfl⟩, N3⟩
        simp -implicitDefEqProofs [initE, List.replicate, retS, retN, seqS, asgS, exprS, ifS, parS, skipS, setAll, varE, cstE, nilL, consL, tupE, mkL, un1, bin2, andE, orE, ifE, chainE, boolT, truthT, notT, andT, orT, yesT, callE, nameG, tupG, consG, nilG, itemsD, opNot, opAdd, opSub, opDiv, opMod, opNeg, opLt, opLe, opGt, opGe, opIsNot, opIs, ltD, leD, truth, at_nat, at_0, at_1, at_2, at_3, at_4, opIx, fLen, coreE, coreL, opIsi, isTy, opAbs, opMin, opInt, opMul, is_nn, is_nt, is_nr, is_nb, is_ni, is_ntm, is_nst, eq_ii, ne_ii, eq_bb, ne_bb, g1]
      · rw [hl] at g1
        have k1 := fun S => is_stuck_t (n + 1) m p ts S hm hs hl
        have k2 := fun S => is_stopped_t (n + 1) m p ts S hm hs hl
        have k3 := fun S => lstuck_t (n + 4) m p ts S hm hs
        have k4 := fun S => lstopped_t (n + 3) m p ts S hm hs
        have k5 := like_lists 0 (n + 7) T2.objs.length (T2.objs.length + 1) [.bl (isStuck m p ts), .bl (isStuck m p ts && !(m.stay p).isEmpty)] ⟨T2.objs ++ [.lst [.bl (isStuck m p ts), .bl (isStuck m p ts && !(m.stay p).isEmpty)]] ++ [.lst [.bl (isStuck m p ts), .bl (isStuck m p ts && !(m.stay p).isEmpty)]], T2.dirty⟩ (by simp [initE, List.replicate, retS, retN, seqS, asgS, exprS, ifS, parS, skipS, setAll, varE, cstE, nilL, consL, tupE, mkL, un1, bin2, andE, orE, ifE, chainE, boolT, truthT, notT, andT, orT, yesT, callE, nameG, tupG, consG, nilG, itemsD, opNot, opAdd, opSub, opDiv, opMod, opNeg, opLt, opLe, opGt, opGe, opIsNot, opIs, ltD, leD, truth, at_nat, at_0, at_1, at_2, at_3, at_4, opIx, fLen, coreE, coreL, opIsi, isTy, opAbs, opMin, opInt, opMul, is_nn, is_nt, is_nr, is_nb, is_ni, is_ntm, is_nst, eq_ii, ne_ii, eq_bb, ne_bb]) (by simp [initE, List.replicate, retS, retN, seqS, asgS, exprS, ifS, parS, skipS, setAll, varE, cstE, nilL, consL, tupE, mkL, un1, bin2, andE, orE, ifE, chainE, boolT, truthT, notT, andT, orT, yesT, callE, nameG, tupG, consG, nilG, itemsD, opNot, opAdd, opSub, opDiv, opMod, opNeg, opLt, opLe, opGt, opGe, opIsNot, opIs, ltD, leD, truth, at_nat, at_0, at_1, at_2, at_3, at_4, opIx, fLen, coreE, coreL, opIsi, isTy, opAbs, opMin, opInt, opMul, is_nn, is_nt, is_nr, is_nb, is_ni, is_ntm, is_nst, eq_ii, ne_ii, eq_bb, ne_bb]) rfl (by simp [initE, List.replicate, retS, retN, seqS, asgS, exprS, ifS, parS, skipS, setAll, varE, cstE, nilL, consL, tupE, mkL, un1, bin2, andE, orE, ifE, chainE, boolT, truthT, notT, andT, orT, yesT, callE, nameG, tupG, consG, nilG, itemsD, opNot, opAdd, opSub, opDiv, opMod, opNeg, opLt, opLe, opGt, opGe, opIsNot, opIs, ltD, leD, truth, at_nat, at_0, at_1, at_2, at_3, at_4, opIx, fLen, coreE, coreL, opIsi, isTy, opAbs, opMin, opInt, opMul, is_nn, is_nt, is_nr, is_nb, is_ni, is_ntm, is_nst, eq_ii, ne_ii, eq_bb, ne_bb])
        have k5' : ev (n + 10) j__law_like [.ref T2.objs.length, .ref (T2.objs ++ [O.lst [.bl (isStuck m p ts), .bl (isStuck m p ts && !(m.stay p).isEmpty)]]).length] ⟨T2.objs ++ [.lst [.bl (isStuck m p ts), .bl (isStuck m p ts && !(m.stay p).isEmpty)]] ++ [.lst [.bl (isStuck m p ts), .bl (isStuck m p ts && !(m.stay p).isEmpty)]], T2.dirty⟩ = .ok (.bl true) ⟨T2.objs ++ [.lst [.bl (isStuck m p ts), .bl (isStuck m p ts && !(m.stay p).isEmpty)]] ++ [.lst [.bl (isStuck m p ts), .bl (isStuck m p ts && !(m.stay p).isEmpty)]], T2.dirty⟩ := by
          rw [List.length_append]; exact k5
        have N4 := (N3.alloc (.lst [.bl (isStuck m p ts), .bl (isStuck m p ts && !(m.stay p).isEmpty)])).alloc (.lst [.bl (isStuck m p ts), .bl (isStuck m p ts && !(m.stay p).isEmpty)])
        generalize hT4 : (⟨T2.objs ++ [.lst [.bl (isStuck m p ts), .bl (isStuck m p ts && !(m.stay p).isEmpty)]] ++ [.lst [.bl (isStuck m p ts), .bl (isStuck m p ts && !(m.stay p).isEmpty)]], T2.dirty⟩ : Store) = T4 at *
        have stepA : ifS (notT (truthT (callE (ev (n + 10)) j__law_like (consL (mkL (consL (callE (ev (n + 10)) j_is_stuck (consL (varE 1) (consL (varE 3) nilL))) (consL (callE (ev (n + 10)) j_is_stopped (consL (varE 1) (consL (varE 3) nilL))) nilL))) (consL (mkL (consL (callE (ev (n + 10)) j__law_is_stuck (consL (varE 1) (consL (varE 3) nilL))) (consL (callE (ev (n + 10)) j__law_is_stopped (consL (varE 1) (consL (varE 3) nilL))) nilL))) nilL))))) (retS (cstE (.bl false))) skipS [some (.ref c), some m.d, some d, some (std p ts), x4, x5] T2 = .ok (.nx [some (.ref c), some m.d, some d, some (std p ts), x4, x5]) T4 := by
          simp -implicitDefEqProofs [initE, List.replicate, retS, retN, seqS, asgS, exprS, ifS, parS, skipS, setAll, varE, cstE, nilL, consL, tupE, mkL, un1, bin2, andE, orE, ifE, chainE, boolT, truthT, notT, andT, orT, yesT, callE, nameG, tupG, consG, nilG, itemsD, opNot, opAdd, opSub, opDiv, opMod, opNeg, opLt, opLe, opGt, opGe, opIsNot, opIs, ltD, leD, truth, at_nat, at_0, at_1, at_2, at_3, at_4, opIx, fLen, coreE, coreL, opIsi, isTy, opAbs, opMin, opInt, opMul, is_nn, is_nt, is_nr, is_nb, is_ni, is_ntm, is_nst, eq_ii, ne_ii, eq_bb, ne_bb, -List.append_assoc, -List.length_append, k1, k2, k3, k4, hT4, k5']
        have stepB : ifS (boolT (bin2 opNe (mkL (lc__law_right_2 (ev (n + 10)))) (mkL nilL))) (retS (cstE (.bl false))) skipS [some (.ref c), some m.d, some d, some (std p ts), x4, x5] T4 = .ok (.nx [some (.ref c), some m.d, some d, some (std p ts), x4, x5]) ⟨T4.objs ++ [.lst []] ++ [.lst []], T4.dirty⟩ := by
          have h := ne_nils _ _ _ (rights_none n c m p ts (some d) x4 x5 T4 hm hs hl)
          unfold Ev.ifS Ev.boolT
          rw [h]; rfl
        have N5 := (N4.alloc (.lst [])).alloc (.lst [])
        generalize hT5 : (⟨T4.objs ++ [.lst []] ++ [.lst []], T4.dirty⟩ : Store) = T5 at *
        refine Wp.of (a := .nx [some (.ref c), some m.d, some d, some (std p ts), x4, x5]) (S := T5) ?_ ⟨⟨_, _, _, _, rfl⟩, N5⟩
        obtain ⟨dl, w1, w2⟩ := longest_wait_t (n + 1) m p ts T5 hm hs hl
        have w3 := edges_open_t (n + 1) m p ts T5 hm hs.ok
        have hif : ∀ (a b : SF), ifS (truthT (callE (ev (n + 10)) j_is_let (consL (varE 1) (consL (varE 3) nilL)))) a b [some (.ref c), some m.d, some d, some (std p ts), x4, x5] T2 = a [some (.ref c), some m.d, some d, some (std p ts), x4, x5] T2 := fun a b => by
          simp -implicitDefEqProofs [initE, List.replicate, retS, retN, seqS, asgS, exprS, ifS, parS, skipS, setAll, varE, cstE, nilL, consL, tupE, mkL, un1, bin2, andE, orE, ifE, chainE, boolT, truthT, notT, andT, orT, yesT, callE, nameG, tupG, consG, nilG, itemsD, opNot, opAdd, opSub, opDiv, opMod, opNeg, opLt, opLe, opGt, opGe, opIsNot, opIs, ltD, leD, truth, at_nat, at_0, at_1, at_2, at_3, at_4, opIx, fLen, coreE, coreL, opIsi, isTy, opAbs, opMin, opInt, opMul, is_nn, is_nt, is_nr, is_nb, is_ni, is_ntm, is_nst, eq_ii, ne_ii, eq_bb, ne_bb, g1]
        rw [hif, seq_nx stepA, seq_nx stepB]
        have k1' := k1 T5
        have k2' := k2 T5
        cases hst : isStuck m p ts <;> rw [hst] at k1' k2'
        · simp -implicitDefEqProofs [initE, List.replicate, retS, retN, seqS, asgS, exprS, ifS, parS, skipS, setAll, varE, cstE, nilL, consL, tupE, mkL, un1, bin2, andE, orE, ifE, chainE, boolT, truthT, notT, andT, orT, yesT, callE, nameG, tupG, consG, nilG, itemsD, opNot, opAdd, opSub, opDiv, opMod, opNeg, opLt, opLe, opGt, opGe, opIsNot, opIs, ltD, leD, truth, at_nat, at_0, at_1, at_2, at_3, at_4, opIx, fLen, coreE, coreL, opIsi, isTy, opAbs, opMin, opInt, opMul, is_nn, is_nt, is_nr, is_nb, is_ni, is_ntm, is_nst, eq_ii, ne_ii, eq_bb, ne_bb, k1', k2']
        · rw [stuck_none hm hs hl hst] at w3
          cases hy : (m.stay p).isEmpty <;> rw [hy] at k2' w2
          · simp -implicitDefEqProofs [initE, List.replicate, retS, retN, seqS, asgS, exprS, ifS, parS, skipS, setAll, varE, cstE, nilL, consL, tupE, mkL, un1, bin2, andE, orE, ifE, chainE, boolT, truthT, notT, andT, orT, yesT, callE, nameG, tupG, consG, nilG, itemsD, opNot, opAdd, opSub, opDiv, opMod, opNeg, opLt, opLe, opGt, opGe, opIsNot, opIs, ltD, leD, truth, at_nat, at_0, at_1, at_2, at_3, at_4, opIx, fLen, coreE, coreL, opIsi, isTy, opAbs, opMin, opInt, opMul, is_nn, is_nt, is_nr, is_nb, is_ni, is_ntm, is_nst, eq_ii, ne_ii, eq_bb, ne_bb, k1', k2', w1, w2, w3, ne_nts]
          · simp -implicitDefEqProofs [initE, List.replicate, retS, retN, seqS, asgS, exprS, ifS, parS, skipS, setAll, varE, cstE, nilL, consL, tupE, mkL, un1, bin2, andE, orE, ifE, chainE, boolT, truthT, notT, andT, orT, yesT, callE, nameG, tupG, consG, nilG, itemsD, opNot, opAdd, opSub, opDiv, opMod, opNeg, opLt, opLe, opGt, opGe, opIsNot, opIs, ltD, leD, truth, at_nat, at_0, at_1, at_2, at_3, at_4, opIx, fLen, coreE, coreL, opIsi, isTy, opAbs, opMin, opInt, opMul, is_nn, is_nt, is_nr, is_nb, is_ni, is_ntm, is_nst, eq_ii, ne_ii, eq_bb, ne_bb, k1', k2', w1, w2, w3, ne_nts]
    · rintro env S1 ⟨⟨x2, x3, x4, x5, rfl⟩, N1⟩
      exact ⟨trivial, ⟨_, rfl⟩, N1⟩
  refine Wp.elim hloop ?_
  rintro f S1 e1 ⟨⟨env, rfl⟩, N1⟩
  refine Wp.of (a := .rt (.bl true)) (S := S1) ?_ ⟨_, rfl, rfl, rfl, N1⟩
  rw [seq_nx e1]; rfl
end K81
set_option Elab.async false
set_option linter.all false
set_option maxRecDepth 100000
set_option maxHeartbeats 4000000
namespace K81
open PySem Ev
def dmB (k : Nat) (x : Dm) : Bool := decide (x.c < k) && decide (x.n ≤ 20)
def dmsB (k : Nat) (l : List Dm) : Bool := l.all (dmB k) && risD (l.map Dm.d)
def edB (p k : Nat) (x : Ed) : Bool := decide (x.s < p) && decide (x.t < p) && decide (x.l ≤ 9) && dmsB k x.g && decide (x.g.length ≤ 6) && x.rs.all (fun c => decide (c < k)) && decide (x.rs.length ≤ k) && risD (x.rs.map nt)
def mcB (m : Mc) : Bool := decide (1 ≤ m.p) && decide (m.p ≤ 8) && decide (m.k ≤ 3) && decide (m.st.length = m.p) && m.st.all (fun l => dmsB m.k l && decide (l.length ≤ 4) && l.all fun x => x.r.stay) && decide (m.es.length ≤ 30) && m.es.all (edB m.p m.k) && risD (m.es.map Ed.d)
theorem dmB_ok {k : Nat} {x : Dm} (h : dmB k x = true) : DmOk k x := by
  unfold dmB at h
  simp only [Bool.and_eq_true, decide_eq_true_eq] at h
  exact ⟨h.1, h.2⟩
theorem dmsB_ok {k : Nat} {l : List Dm} (h : dmsB k l = true) : DmsOk k l := by
  unfold dmsB at h
  rw [Bool.and_eq_true] at h
  exact ⟨fun x hx => dmB_ok (List.all_eq_true.mp h.1 x hx), h.2⟩
theorem edB_ok {p k : Nat} {x : Ed} (h : edB p k x = true) : EdOk p k x := by
  unfold edB at h
  simp only [Bool.and_eq_true, decide_eq_true_eq] at h
  obtain ⟨⟨⟨⟨⟨⟨⟨h1, h2⟩, h3⟩, h4⟩, h5⟩, h6⟩, h7⟩, h8⟩ := h
  exact ⟨h1, h2, h3, dmsB_ok h4, h5, fun c hc => of_decide_eq_true (List.all_eq_true.mp h6 c hc), h7, h8⟩
theorem mcB_ok {m : Mc} (h : mcB m = true) : McOk m := by
  unfold mcB at h
  simp only [Bool.and_eq_true, decide_eq_true_eq] at h
  obtain ⟨⟨⟨⟨⟨⟨⟨h1, h2⟩, h3⟩, h4⟩, h5⟩, h6⟩, h7⟩, h8⟩ := h
  refine ⟨h1, h2, h3, h4, fun l hl => ?_, h6, fun e he => edB_ok (List.all_eq_true.mp h7 e he), h8⟩
  have := List.all_eq_true.mp h5 l hl
  simp only [Bool.and_eq_true, decide_eq_true_eq] at this
  exact ⟨dmsB_ok this.1.1, this.1.2, fun x hx => List.all_eq_true.mp this.2 x hx⟩
def stB (m : Mc) (p : Nat) (ts : List Rat) : Bool := decide (p < m.p) && decide (ts.length = m.k) && ts.all fun q => decide (0 ≤ q) && decide (q.num.natAbs ≤ 11) && decide (q.den ≤ 4)
theorem stB_ok {m : Mc} {p : Nat} {ts : List Rat} (h : stB m p ts = true) : StS m p ts := by
  unfold stB at h
  simp only [Bool.and_eq_true, decide_eq_true_eq] at h
  refine ⟨h.1.1, h.1.2, fun q hq => ?_⟩
  have := List.all_eq_true.mp h.2 q hq
  simp only [Bool.and_eq_true, decide_eq_true_eq] at this
  exact ⟨this.1.1, this.1.2, this.2⟩
def allB (m : Mc) (p : Nat) (ts : List Rat) : Bool := mcB m && stB m p ts && letIn m p ts
theorem c_stuck (n : Nat) (m : Mc) (p : Nat) (ts : List Rat) (b : Bool) (h : allB m p ts = true) (hb : isStuck m p ts = b) (S : Store) : ev (n + 11) j_is_stuck [m.d, std p ts] S = .ok (.bl b) S := by
  unfold allB at h
  simp only [Bool.and_eq_true] at h
  rw [← hb]
  exact is_stuck_t (n + 2) m p ts S (mcB_ok h.1.1) (stB_ok h.1.2) h.2
theorem c_stopped (n : Nat) (m : Mc) (p : Nat) (ts : List Rat) (b : Bool) (h : allB m p ts = true) (hb : (isStuck m p ts && !(m.stay p).isEmpty) = b) (S : Store) : ev (n + 11) j_is_stopped [m.d, std p ts] S = .ok (.bl b) S := by
  unfold allB at h
  simp only [Bool.and_eq_true] at h
  rw [← hb]
  exact is_stopped_t (n + 2) m p ts S (mcB_ok h.1.1) (stB_ok h.1.2) h.2
theorem c_waits (n : Nat) (m : Mc) (p : Nat) (ts : List Rat) (e : Nat) (o : Option Iv) (h : (allB m p ts && decide (e < m.es.length)) = true) (hb : waitsP m p ts e = o) (S : Store) : ev (n + 11) j_waits_to_edge [m.d, std p ts, .int e] S = .ok (waitD o) S := by
  unfold allB at h
  simp only [Bool.and_eq_true, decide_eq_true_eq] at h
  rw [← hb]
  exact waits_to_edge_t (n + 2) m p ts e S (mcB_ok h.1.1.1) (stB_ok h.1.1.2) h.1.2 h.2
def q (a : Int) (b : Nat) (h1 : b ≠ 0 := by decide) (h2 : a.natAbs.Coprime b := by decide) : Rat := ⟨a, b, h1, h2⟩
def eM : Mc := ⟨1, 1, [[⟨0, .most, 2⟩]], []⟩
def zM : Mc := ⟨1, 1, [[⟨0, .most, 1⟩]], [⟨0, 0, 0, [], []⟩]⟩
def sM : Mc := ⟨2, 1, [[], [⟨0, .most, 3⟩]], [⟨0, 1, 0, [], [0]⟩, ⟨1, 0, 1, [⟨0, .more, 3⟩], []⟩]⟩
def rM : Mc := ⟨1, 1, [[⟨0, .most, 1⟩]], [⟨0, 0, 0, [⟨0, .same, 1⟩], [0]⟩]⟩
def bM : Mc := ⟨1, 0, [[]], []⟩
def twM : Mc := ⟨2, 2, [[], [⟨0, .less, 1⟩, ⟨1, .less, 5⟩]], [⟨0, 1, 0, [⟨0, .more, 2⟩], [0]⟩, ⟨0, 1, 1, [⟨0, .least, 2⟩], []⟩, ⟨0, 1, 2, [], [1]⟩]⟩
def meM : Mc := ⟨1, 2, [[]], [⟨0, 0, 0, [⟨0, .most, 2⟩, ⟨1, .least, 3⟩], []⟩, ⟨0, 0, 1, [⟨0, .less, 2⟩, ⟨1, .least, 3⟩], []⟩]⟩
def shM : Mc := ⟨2, 1, [[], [⟨0, .less, 0⟩]], [⟨0, 1, 0, [], [0]⟩, ⟨0, 1, 1, [], []⟩]⟩
def thM : Mc := ⟨1, 3, [[⟨2, .most, 5⟩]], [⟨0, 0, 0, [⟨2, .least, 3⟩], [2]⟩]⟩
def eD : D := .tup [.int 1, .int 1, .tup [.tup [.tup [.int 0, .str s_most, .int 2]]], .tup []]
theorem eD_eq : eM.d = eD := rfl
def zD : D := .tup [.int 1, .int 1, .tup [.tup [.tup [.int 0, .str s_most, .int 1]]], .tup [.tup [.int 0, .int 0, .int 0, .tup [], .tup []]]]
theorem zD_eq : zM.d = zD := rfl
def sD : D := .tup [.int 2, .int 1, .tup [.tup [], .tup [.tup [.int 0, .str s_most, .int 3]]], .tup [.tup [.int 0, .int 1, .int 0, .tup [], .tup [.int 0]], .tup [.int 1, .int 0, .int 1, .tup [.tup [.int 0, .str s_more, .int 3]], .tup []]]]
theorem sD_eq : sM.d = sD := rfl
def rD : D := .tup [.int 1, .int 1, .tup [.tup [.tup [.int 0, .str s_most, .int 1]]], .tup [.tup [.int 0, .int 0, .int 0, .tup [.tup [.int 0, .str s_same, .int 1]], .tup [.int 0]]]]
theorem rD_eq : rM.d = rD := rfl
def bD : D := .tup [.int 1, .int 0, .tup [.tup []], .tup []]
theorem bD_eq : bM.d = bD := rfl
def twD : D := .tup [.int 2, .int 2, .tup [.tup [], .tup [.tup [.int 0, .str s_less, .int 1], .tup [.int 1, .str s_less, .int 5]]], .tup [.tup [.int 0, .int 1, .int 0, .tup [.tup [.int 0, .str s_more, .int 2]], .tup [.int 0]], .tup [.int 0, .int 1, .int 1, .tup [.tup [.int 0, .str s_least, .int 2]], .tup []], .tup [.int 0, .int 1, .int 2, .tup [], .tup [.int 1]]]]
theorem twD_eq : twM.d = twD := rfl
def meD : D := .tup [.int 1, .int 2, .tup [.tup []], .tup [.tup [.int 0, .int 0, .int 0, .tup [.tup [.int 0, .str s_most, .int 2], .tup [.int 1, .str s_least, .int 3]], .tup []], .tup [.int 0, .int 0, .int 1, .tup [.tup [.int 0, .str s_less, .int 2], .tup [.int 1, .str s_least, .int 3]], .tup []]]]
theorem meD_eq : meM.d = meD := rfl
def shD : D := .tup [.int 2, .int 1, .tup [.tup [], .tup [.tup [.int 0, .str s_less, .int 0]]], .tup [.tup [.int 0, .int 1, .int 0, .tup [], .tup [.int 0]], .tup [.int 0, .int 1, .int 1, .tup [], .tup []]]]
theorem shD_eq : shM.d = shD := rfl
def thD : D := .tup [.int 1, .int 3, .tup [.tup [.tup [.int 2, .str s_most, .int 5]]], .tup [.tup [.int 0, .int 0, .int 0, .tup [.tup [.int 2, .str s_least, .int 3]], .tup [.int 2]]]]
theorem thD_eq : thM.d = thD := rfl
theorem k_e1 (n : Nat) (S : Store) : ev (n + 11) j_is_stuck [eD, .tup [.int 0, .tup [.tup [.int 1, .int 2]]]] S = .ok (.bl true) S :=
  c_stuck n eM 0 [q 1 2] true (by decide +kernel) (by decide +kernel) S
theorem k_e2 (n : Nat) (S : Store) : ev (n + 11) j_is_stopped [eD, .tup [.int 0, .tup [.tup [.int 1, .int 2]]]] S = .ok (.bl true) S :=
  c_stopped n eM 0 [q 1 2] true (by decide +kernel) (by decide +kernel) S
theorem k_z1 (n : Nat) (S : Store) : ev (n + 11) j_is_stuck [zD, .tup [.int 0, .tup [.tup [.int 1, .int 1]]]] S = .ok (.bl false) S :=
  c_stuck n zM 0 [q 1 1] false (by decide +kernel) (by decide +kernel) S
theorem k_s1 (n : Nat) (S : Store) : ev (n + 11) j_is_stuck [sD, .tup [.int 1, .tup [.tup [.int 2, .int 1]]]] S = .ok (.bl true) S :=
  c_stuck n sM 1 [q 2 1] true (by decide +kernel) (by decide +kernel) S
theorem k_b1 (n : Nat) (S : Store) : ev (n + 11) j_is_stopped [bD, .tup [.int 0, .tup []]] S = .ok (.bl false) S :=
  c_stopped n bM 0 [] false (by decide +kernel) (by decide +kernel) S
theorem k_b2 (n : Nat) (S : Store) : ev (n + 11) j_is_stuck [bD, .tup [.int 0, .tup []]] S = .ok (.bl true) S :=
  c_stuck n bM 0 [] true (by decide +kernel) (by decide +kernel) S
theorem k_s2 (n : Nat) (S : Store) : ev (n + 11) j_waits_to_edge [sD, .tup [.int 0, .tup [.tup [.int 2, .int 1]]], .int 0] S = .ok (.tup [.tup [.int 0, .int 1], .bl true, .tup [.non, .bl false]]) S :=
  c_waits n sM 0 [q 2 1] 0 (some ⟨0, true, none, false⟩) (by decide +kernel) (by decide +kernel) S
theorem k_s3 (n : Nat) (S : Store) : ev (n + 11) j_waits_to_edge [sD, .tup [.int 1, .tup [.tup [.int 2, .int 1]]], .int 1] S = .ok (.non) S :=
  c_waits n sM 1 [q 2 1] 1 none (by decide +kernel) (by decide +kernel) S
theorem k_r1 (n : Nat) (S : Store) : ev (n + 11) j_waits_to_edge [rD, .tup [.int 0, .tup [.tup [.int 1, .int 3]]], .int 0] S = .ok (.tup [.tup [.int 2, .int 3], .bl true, .tup [.tup [.int 2, .int 3], .bl true]]) S :=
  c_waits n rM 0 [q 1 3] 0 (some ⟨q 2 3, true, some (q 2 3), true⟩) (by decide +kernel) (by decide +kernel) S
theorem k_z2 (n : Nat) (S : Store) : ev (n + 11) j_waits_to_edge [zD, .tup [.int 0, .tup [.tup [.int 1, .int 3]]], .int 0] S = .ok (.tup [.tup [.int 0, .int 1], .bl true, .tup [.tup [.int 2, .int 3], .bl true]]) S :=
  c_waits n zM 0 [q 1 3] 0 (some ⟨0, true, some (q 2 3), true⟩) (by decide +kernel) (by decide +kernel) S
theorem k_t0 (n : Nat) (S : Store) : ev (n + 11) j_waits_to_edge [twD, .tup [.int 0, .tup [.tup [.int 1, .int 2], .tup [.int 0, .int 1]]], .int 0] S = .ok (.tup [.tup [.int 3, .int 2], .bl false, .tup [.tup [.int 5, .int 1], .bl false]]) S :=
  c_waits n twM 0 [q 1 2, 0] 0 (some ⟨q 3 2, false, some (q 5 1), false⟩) (by decide +kernel) (by decide +kernel) S
theorem k_t1 (n : Nat) (S : Store) : ev (n + 11) j_waits_to_edge [twD, .tup [.int 0, .tup [.tup [.int 1, .int 2], .tup [.int 0, .int 1]]], .int 1] S = .ok (.non) S :=
  c_waits n twM 0 [q 1 2, 0] 1 none (by decide +kernel) (by decide +kernel) S
theorem k_t2 (n : Nat) (S : Store) : ev (n + 11) j_waits_to_edge [twD, .tup [.int 0, .tup [.tup [.int 1, .int 2], .tup [.int 0, .int 1]]], .int 2] S = .ok (.tup [.tup [.int 0, .int 1], .bl true, .tup [.tup [.int 1, .int 2], .bl false]]) S :=
  c_waits n twM 0 [q 1 2, 0] 2 (some ⟨0, true, some (q 1 2), false⟩) (by decide +kernel) (by decide +kernel) S
theorem k_m0 (n : Nat) (S : Store) : ev (n + 11) j_waits_to_edge [meD, .tup [.int 0, .tup [.tup [.int 1, .int 1], .tup [.int 2, .int 1]]], .int 0] S = .ok (.tup [.tup [.int 1, .int 1], .bl true, .tup [.tup [.int 1, .int 1], .bl true]]) S :=
  c_waits n meM 0 [q 1 1, q 2 1] 0 (some ⟨q 1 1, true, some (q 1 1), true⟩) (by decide +kernel) (by decide +kernel) S
theorem k_m1 (n : Nat) (S : Store) : ev (n + 11) j_waits_to_edge [meD, .tup [.int 0, .tup [.tup [.int 1, .int 1], .tup [.int 2, .int 1]]], .int 1] S = .ok (.non) S :=
  c_waits n meM 0 [q 1 1, q 2 1] 1 none (by decide +kernel) (by decide +kernel) S
theorem k_h0 (n : Nat) (S : Store) : ev (n + 11) j_waits_to_edge [shD, .tup [.int 0, .tup [.tup [.int 0, .int 1]]], .int 0] S = .ok (.non) S :=
  c_waits n shM 0 [0] 0 none (by decide +kernel) (by decide +kernel) S
theorem k_h1 (n : Nat) (S : Store) : ev (n + 11) j_waits_to_edge [shD, .tup [.int 0, .tup [.tup [.int 0, .int 1]]], .int 1] S = .ok (.non) S :=
  c_waits n shM 0 [0] 1 none (by decide +kernel) (by decide +kernel) S
theorem k_h2 (n : Nat) (S : Store) : ev (n + 11) j_is_stuck [shD, .tup [.int 0, .tup [.tup [.int 5, .int 1]]]] S = .ok (.bl true) S :=
  c_stuck n shM 0 [q 5 1] true (by decide +kernel) (by decide +kernel) S
theorem k_h3 (n : Nat) (S : Store) : ev (n + 11) j_is_stopped [shD, .tup [.int 0, .tup [.tup [.int 5, .int 1]]]] S = .ok (.bl false) S :=
  c_stopped n shM 0 [q 5 1] false (by decide +kernel) (by decide +kernel) S
theorem k_th (n : Nat) (S : Store) : ev (n + 11) j_waits_to_edge [thD, .tup [.int 0, .tup [.tup [.int 9, .int 1], .tup [.int 0, .int 1], .tup [.int 1, .int 2]]], .int 0] S = .ok (.tup [.tup [.int 5, .int 2], .bl true, .tup [.tup [.int 9, .int 2], .bl true]]) S :=
  c_waits n thM 0 [q 9 1, 0, q 1 2] 0 (some ⟨q 5 2, true, some (q 9 2), true⟩) (by decide +kernel) (by decide +kernel) S
end K81
set_option Elab.async false
set_option linter.all false
set_option maxRecDepth 100000
set_option maxHeartbeats 4000000
namespace K81
open PySem Ev
theorem cup_t (n : Nat) (ns : List Int) (hn : ns.length ≤ 63) : ∃ (xs : List D) (a b : Nat), ev (n + 1) j__law_cup [scr ns] ⟨[], []⟩ = .ok (.ref 1) ⟨[.lst xs, cupO a b], []⟩ := by
  rw [u__law_cup]
  have hsz : Ev.sizeOk ((ns.map D.int).length + 1) = true := by unfold Ev.sizeOk; rw [Nat.ble_eq, List.length_map]; omega
  have hx : ∃ x : Int, (ns.map D.int ++ [.int 0])[0]? = some (.int x) := by
    cases ns with
    | nil => exact ⟨0, rfl⟩
    | cons y ns => exact ⟨y, rfl⟩
  obtain ⟨x, hx⟩ := hx
  have habs : (if x < 0 then -x else x) = (x.natAbs : Int) := by split <;> omega
  generalize hc : x.natAbs = c at habs
  have k1 : mulOk (c : Int) 283 = true := mulOk_r (by decide)
  have k2 : ((c : Int) * 283 + 3907) % 2077503167 + 167 = (((c * 283 + 3907) % 2077503167 + 167 : Nat) : Int) := by
    rw [Int.natCast_add, Int.natCast_emod, Int.natCast_add, Int.natCast_mul]; rfl
  have k3 : divOk 73 = true := divOk_s (by decide) (by decide)
  have k4 : ∀ S, opPow (.int 10) (.int 18) S = .ok (.int 1000000000000000000) S := fun S => rfl
  have k5 : (c : Int) / 73 = ((c / 73 : Nat) : Int) := by rw [Int.natCast_ediv]; rfl
  refine ⟨ns.map D.int ++ [.int 0], if (1000000000000000000 : Int) ≤ c then c / 73 else 0, (c * 283 + 3907) % 2077503167 + 167, ?_⟩
  have e0 : initE 2 [scr ns] = [some (.rol (ns.map D.int)), none] := rfl
  have hbody : b__law_cup (ev n) (initE 2 [scr ns]) ⟨[], []⟩ = .ok (.rt (.ref 1)) ⟨[.lst (ns.map D.int ++ [.int 0]), cupO (if (1000000000000000000 : Int) ≤ c then c / 73 else 0) ((c * 283 + 3907) % 2077503167 + 167)], []⟩ := by
    rw [e0]
    unfold cupO
    rw [← k2]
    generalize ns.map D.int = xs at *
    have hx' : ∀ h : 0 < (xs ++ [D.int 0]).length, (xs ++ [D.int 0])[0] = .int x := fun h => by
      have := List.getElem?_eq_getElem h
      rw [hx] at this
      exact (Option.some.inj this).symm
    by_cases h : (1000000000000000000 : Int) ≤ c
    · rw [if_pos h, ← k5]
      simp -implicitDefEqProofs [initE, List.replicate, retS, retN, seqS, asgS, exprS, ifS, parS, skipS, setAll, varE, cstE, nilL, consL, tupE, mkL, un1, bin2, andE, orE, ifE, chainE, boolT, truthT, notT, andT, orT, yesT, callE, nameG, tupG, consG, nilG, itemsD, opNot, opAdd, opSub, opDiv, opMod, opNeg, opLt, opLe, opGt, opGe, opIsNot, opIs, ltD, leD, truth, at_nat, at_0, at_1, at_2, at_3, at_4, opIx, fLen, coreE, coreL, opIsi, isTy, opAbs, opMin, opInt, opMul, is_nn, is_nt, is_nr, is_nb, is_ni, is_ntm, is_nst, eq_ii, ne_ii, eq_bb, ne_bb, b__law_cup, listL, catL, hsz, hx, hx', habs, k1, k3, k4, h]
    · rw [if_neg h]
      simp -implicitDefEqProofs [initE, List.replicate, retS, retN, seqS, asgS, exprS, ifS, parS, skipS, setAll, varE, cstE, nilL, consL, tupE, mkL, un1, bin2, andE, orE, ifE, chainE, boolT, truthT, notT, andT, orT, yesT, callE, nameG, tupG, consG, nilG, itemsD, opNot, opAdd, opSub, opDiv, opMod, opNeg, opLt, opLe, opGt, opGe, opIsNot, opIs, ltD, leD, truth, at_nat, at_0, at_1, at_2, at_3, at_4, opIx, fLen, coreE, coreL, opIsi, isTy, opAbs, opMin, opInt, opMul, is_nn, is_nt, is_nr, is_nb, is_ni, is_ntm, is_nst, eq_ii, ne_ii, eq_bb, ne_bb, b__law_cup, listL, catL, hsz, hx, hx', habs, k1, k3, k4, h]
  unfold runF
  rw [if_pos (show [scr ns].length = 1 from rfl), hbody]
  rfl
def lE (s c : D) (x2 x3 x4 x5 x6 x7 x8 x9 x10 x11 x12 x13 x14 x15 : Option D) : Ev.Env := [some s, some c, x2, x3, x4, x5, x6, x7, x8, x9, x10, x11, x12, x13, x14, x15]
theorem five_w (n : Nat) (s : D) (B : List O) (x2 x3 x4 x5 x6 x7 x8 x9 x10 x11 x12 x13 x14 x15 : Option D) (S : Store) (hc : 1 < B.length) (hN : NwC 1 B S) :
    Wp (fo_law_1 (ev (n + 11)) (lE s (.ref 1) x2 x3 x4 x5 x6 x7 x8 x9 x10 x11 x12 x13 x14 x15) S) fun f S' => (∃ x9 x10, f = .nx (lE s (.ref 1) x2 x3 x4 x5 x6 x7 x8 x9 x10 x11 x12 x13 x14 x15)) ∧ NwC 1 B S' := by
  unfold fo_law_1
  rw [forS_val (ds := [(1, 2), (2, 3), (3, 4), (4, 2), (3, 3)].map fun x : Nat × Nat => .tup [.int x.1, .int x.2]) rfl]
  refine for_inv (I := fun _ => True) (P := fun ds env S' => (∃ (r : List (Nat × Nat)) (x9 x10 : Option D), ds = r.map (fun x : Nat × Nat => .tup [.int x.1, .int x.2]) ∧ (∀ x ∈ r, 1 ≤ x.1 ∧ x.1 ≤ 8 ∧ x.2 ≤ 20) ∧ env = lE s (.ref 1) x2 x3 x4 x5 x6 x7 x8 x9 x10 x11 x12 x13 x14 x15) ∧ NwC 1 B S') ?_ ?_ _ FU _ _ _ (PS.fix _ _) (by rw [FU_eq]; decide) ⟨⟨_, _, _, rfl, by decide, rfl⟩, hN⟩
  · rintro d r env S1 ⟨⟨r', y9, y10, e1, e2, rfl⟩, N1⟩
    cases r' with
    | nil => simp [initE, List.replicate, retS, retN, seqS, asgS, exprS, ifS, parS, skipS, setAll, varE, cstE, nilL, consL, tupE, mkL, un1, bin2, andE, orE, ifE, chainE, boolT, truthT, notT, andT, orT, yesT, callE, nameG, tupG, consG, nilG, itemsD, opNot, opAdd, opSub, opDiv, opMod, opNeg, opLt, opLe, opGt, opGe, opIsNot, opIs, ltD, leD, truth, at_nat, at_0, at_1, at_2, at_3, at_4, opIx, fLen, coreE, coreL, opIsi, isTy, opAbs, opMin, opInt, opMul, is_nn, is_nt, is_nr, is_nb, is_ni, is_ntm, is_nst, eq_ii, ne_ii, eq_bb, ne_bb] at e1
    | cons x r' =>
      simp only [List.map_cons, List.cons.injEq] at e1
      obtain ⟨rfl, rfl⟩ := e1
      obtain ⟨h1, h2, h3⟩ := e2 x List.mem_cons_self
      refine ⟨trivial, _, _, rfl, ?_⟩
      refine Wp.elim (machine_w (n + 7) 1 x.1 x.2 S1 (N1.cup hc) ⟨h1, h2⟩ h3) ?_
      rintro _ T1 f1 ⟨⟨m, rfl, hm⟩, s1⟩
      have N2 := N1.step hc s1
      refine Wp.elim (right_w n 1 m T1 (N2.cup hc) hm) ?_
      rintro _ T2 f2 ⟨rfl, s2⟩
      refine Wp.of (a := .nx (lE s (.ref 1) x2 x3 x4 x5 x6 x7 x8 (some (.int x.1)) (some (.int x.2)) x11 x12 x13 x14 x15)) (S := T2) ?_ ⟨⟨r', _, _, rfl, fun y hy => e2 y (List.mem_cons_of_mem _ hy), rfl⟩, N2.step hc s2⟩
      simp -implicitDefEqProofs [initE, List.replicate, retS, retN, seqS, asgS, exprS, ifS, parS, skipS, setAll, varE, cstE, nilL, consL, tupE, mkL, un1, bin2, andE, orE, ifE, chainE, boolT, truthT, notT, andT, orT, yesT, callE, nameG, tupG, consG, nilG, itemsD, opNot, opAdd, opSub, opDiv, opMod, opNeg, opLt, opLe, opGt, opGe, opIsNot, opIs, ltD, leD, truth, at_nat, at_0, at_1, at_2, at_3, at_4, opIx, fLen, coreE, coreL, opIsi, isTy, opAbs, opMin, opInt, opMul, is_nn, is_nt, is_nr, is_nb, is_ni, is_ntm, is_nst, eq_ii, ne_ii, eq_bb, ne_bb, fb_law_1, lE, f1, f2]
  · rintro env S1 ⟨⟨r', y9, y10, e1, e2, rfl⟩, N1⟩
    exact ⟨trivial, ⟨_, _, rfl⟩, N1⟩
theorem get_new (xs : List O) (o : O) : (xs ++ [o])[xs.length]? = some o := by simp [initE, List.replicate, retS, retN, seqS, asgS, exprS, ifS, parS, skipS, setAll, varE, cstE, nilL, consL, tupE, mkL, un1, bin2, andE, orE, ifE, chainE, boolT, truthT, notT, andT, orT, yesT, callE, nameG, tupG, consG, nilG, itemsD, opNot, opAdd, opSub, opDiv, opMod, opNeg, opLt, opLe, opGt, opGe, opIsNot, opIs, ltD, leD, truth, at_nat, at_0, at_1, at_2, at_3, at_4, opIx, fLen, coreE, coreL, opIsi, isTy, opAbs, opMin, opInt, opMul, is_nn, is_nt, is_nr, is_nb, is_ni, is_ntm, is_nst, eq_ii, ne_ii, eq_bb, ne_bb]
def pick (a b c : D) : D → D
  | .int i => if i = 0 then a else if i = 1 then b else c
  | d => d
theorem lc1_t (n : Nat) (s c : D) (x2 x3 x4 x6 x7 x8 x9 x10 x11 x12 x13 x14 x15 : Option D) (S : Store) : lc_law_1 (ev (n + 11)) (lE s c x2 x3 x4 (some twD) x6 x7 x8 x9 x10 x11 x12 x13 x14 x15) S = .ok [.tup [.tup [.int 3, .int 2], .bl false, .tup [.tup [.int 5, .int 1], .bl false]], .non, .tup [.tup [.int 0, .int 1], .bl true, .tup [.tup [.int 1, .int 2], .bl false]]] S := by
  unfold lc_law_1
  rw [lcL_src (rng_nat (k := 3) (S1 := S) rfl (by decide))]
  have h0 := k_t0 n S
  have h1 := k_t1 n S
  have h2 := k_t2 n S
  rw [lc_map (I := fun _ => True) (pick (.tup [.tup [.int 3, .int 2], .bl false, .tup [.tup [.int 5, .int 1], .bl false]]) (.non) (.tup [.tup [.int 0, .int 1], .bl true, .tup [.tup [.int 1, .int 2], .bl false]])) trivial _ FU _ (PS.rng _ _ _) (by rw [intsFrom_len, FU_eq]; decide) ?_]
  · rfl
  · intro d hd
    simp only [Ev.intsFrom, List.mem_cons, List.not_mem_nil, or_false] at hd
    rcases hd with rfl | rfl | rfl
    · exact ⟨_, rfl, rfl, h0⟩
    · exact ⟨_, rfl, rfl, h1⟩
    · exact ⟨_, rfl, rfl, h2⟩
theorem lc2_t (n : Nat) (s c : D) (x2 x3 x4 x5 x7 x8 x9 x10 x11 x12 x13 x14 x15 : Option D) (S : Store) : lc_law_2 (ev (n + 11)) (lE s c x2 x3 x4 x5 (some meD) x7 x8 x9 x10 x11 x12 x13 x14 x15) S = .ok [.tup [.tup [.int 1, .int 1], .bl true, .tup [.tup [.int 1, .int 1], .bl true]], .non] S := by
  unfold lc_law_2
  rw [lcL_src (rng_nat (k := 2) (S1 := S) rfl (by decide))]
  have h0 := k_m0 n S
  have h1 := k_m1 n S
  rw [lc_map (I := fun _ => True) (pick (.tup [.tup [.int 1, .int 1], .bl true, .tup [.tup [.int 1, .int 1], .bl true]]) (.non) (.non)) trivial _ FU _ (PS.rng _ _ _) (by rw [intsFrom_len, FU_eq]; decide) ?_]
  · rfl
  · intro d hd
    simp only [Ev.intsFrom, List.mem_cons, List.not_mem_nil, or_false] at hd
    rcases hd with rfl | rfl
    · exact ⟨_, rfl, rfl, h0⟩
    · exact ⟨_, rfl, rfl, h1⟩
theorem lc3_t (n : Nat) (s c : D) (x2 x3 x4 x5 x6 x8 x9 x10 x11 x12 x13 x14 x15 : Option D) (S : Store) : lc_law_3 (ev (n + 11)) (lE s c x2 x3 x4 x5 x6 (some shD) x8 x9 x10 x11 x12 x13 x14 x15) S = .ok [.non, .non] S := by
  unfold lc_law_3
  rw [lcL_src (rng_nat (k := 2) (S1 := S) rfl (by decide))]
  have h0 := k_h0 n S
  have h1 := k_h1 n S
  rw [lc_map (I := fun _ => True) (pick (.non) (.non) (.non)) trivial _ FU _ (PS.rng _ _ _) (by rw [intsFrom_len, FU_eq]; decide) ?_]
  · rfl
  · intro d hd
    simp only [Ev.intsFrom, List.mem_cons, List.not_mem_nil, or_false] at hd
    rcases hd with rfl | rfl
    · exact ⟨_, rfl, rfl, h0⟩
    · exact ⟨_, rfl, rfl, h1⟩
end K81
set_option Elab.async false
set_option linter.all false
set_option maxRecDepth 100000
set_option maxHeartbeats 4000000
namespace K81
open PySem Ev
theorem asg_mk {i : Nat} {l : LF} {env : Ev.Env} {S : Store} {ds : List D} (h : l env S = .ok ds S) : asgS (nameG i) (mkL l) env S = .ok (.nx (env.set i (some (.ref S.objs.length)))) ⟨S.objs ++ [.lst ds], S.dirty⟩ := by
  unfold Ev.asgS Ev.mkL Ev.nameG
  rw [h]; rfl
theorem asg_v {i : Nat} {e : EF} {env : Ev.Env} {S : Store} {d : D} (h : e env S = .ok d S) : asgS (nameG i) e env S = .ok (.nx (env.set i (some d))) S := by
  unfold Ev.asgS Ev.nameG
  rw [h]; rfl
theorem cat_v {e : EF} {l : LF} {env : Ev.Env} {S : Store} {k : Nat} {xs ys : List D} (h : e env S = .ok (.ref k) S) (hl : l env S = .ok ys S) (hk : S.objs[k]? = some (.lst xs)) (hn : xs.length + ys.length ≤ 1000) : catVL e l env S = .ok (xs ++ ys) S := by
  unfold catVL
  rw [h, bind_ok, hl, bind_ok]
  simp only [hk]
  rw [if_pos (by unfold Ev.sizeOk; rw [Nat.ble_eq]; omega)]
theorem cat_l {l l' : LF} {env : Ev.Env} {S : Store} {xs ys : List D} (h : l env S = .ok xs S) (hl : l' env S = .ok ys S) (hn : xs.length + ys.length ≤ 1000) : catL l l' env S = .ok (xs ++ ys) S := by
  unfold catL
  rw [h, bind_ok, hl, bind_ok]
  rw [if_pos (by unfold Ev.sizeOk; rw [Nat.ble_eq]; omega)]
theorem app_v {e e' : EF} {env : Ev.Env} {S : Store} {k : Nat} {xs : List D} {d : D} (h : e env S = .ok (.ref k) S) (h' : e' env S = .ok d S) (hk : S.objs[k]? = some (.lst xs)) (hn : xs.length ≤ 1000) : exprS (appE e e') env S = .ok (.nx env) (S.set k (.lst (xs ++ [d]))) := by
  unfold Ev.exprS appE
  rw [h, bind_ok]
  simp only [hk]
  rw [h', bind_ok]
  unfold opAppend
  simp only [hk]
  rw [if_pos (by unfold Ev.sizeOk; rw [Nat.ble_eq]; omega)]
  rfl
theorem mk_ok {l : LF} {env : Ev.Env} {S : Store} {ds : List D} (h : l env S = .ok ds S) : mkL l env S = .ok (.ref S.objs.length) ⟨S.objs ++ [.lst ds], S.dirty⟩ := by
  unfold Ev.mkL
  rw [h]; rfl
theorem cons2 {e e' : EF} {env : Ev.Env} {S S' : Store} {x y : D} (h : e env S = .ok x S) (h' : e' env S = .ok y S') : consL e (consL e' nilL) env S = .ok [x, y] S' := by
  simp only [consL, h, h', bind_ok, nilL]
theorem new_old {xs : List O} {k : Nat} {o o' : O} (h : xs[k]? = some o) : (xs ++ [o'])[k]? = some o := by
  rw [List.getElem?_append_left (List.getElem?_eq_some_iff.mp h).1]; exact h
theorem set_at {S : Store} {k : Nat} {o o' : O} (h : S.objs[k]? = some o) : (S.set k o').objs[k]? = some o' := by
  show (S.objs.set k o')[k]? = _
  rw [List.getElem?_set_self (List.getElem?_eq_some_iff.mp h).1]
theorem set_off {S : Store} {k j : Nat} {o o' : O} (h : S.objs[j]? = some o) (n : k ≠ j) : (S.set k o').objs[j]? = some o := by
  show (S.objs.set k o')[j]? = _
  rw [List.getElem?_set_ne n]; exact h
def l1 : List D := [.bl true, .bl true, .bl false, .bl true, .bl false]
def l2 : List D := [.bl true, .tup [.tup [.int 0, .int 1], .bl true, .tup [.non, .bl false]], .non, .tup [.tup [.int 2, .int 3], .bl true, .tup [.tup [.int 2, .int 3], .bl true]]]
def l3 : List D := [.tup [.tup [.int 3, .int 2], .bl false, .tup [.tup [.int 5, .int 1], .bl false]], .non, .tup [.tup [.int 0, .int 1], .bl true, .tup [.tup [.int 1, .int 2], .bl false]]]
def l4 : List D := [.tup [.tup [.int 1, .int 1], .bl true, .tup [.tup [.int 1, .int 1], .bl true]], .non]
def l5 : List D := [.non, .non]
def l6 : List D := [.bl true, .bl false]
def d1 : List D := [.bl true, .bl true, .bl false, .bl true, .bl false, .bl true, .tup [.tup [.int 0, .int 1], .bl true, .tup [.non, .bl false]], .non, .tup [.tup [.int 2, .int 3], .bl true, .tup [.tup [.int 2, .int 3], .bl true]], .tup [.tup [.int 0, .int 1], .bl true, .tup [.tup [.int 2, .int 3], .bl true]]]
def d2 : List D := [.tup [.tup [.int 3, .int 2], .bl false, .tup [.tup [.int 5, .int 1], .bl false]], .non, .tup [.tup [.int 0, .int 1], .bl true, .tup [.tup [.int 1, .int 2], .bl false]], .tup [.tup [.int 1, .int 1], .bl true, .tup [.tup [.int 1, .int 1], .bl true]], .non]
def d3 : List D := [.non, .non, .bl true, .bl false, .tup [.tup [.int 5, .int 2], .bl true, .tup [.tup [.int 9, .int 2], .bl true]]]
def vz : D := .tup [.tup [.int 0, .int 1], .bl true, .tup [.tup [.int 2, .int 3], .bl true]]
def vt : D := .tup [.tup [.int 5, .int 2], .bl true, .tup [.tup [.int 9, .int 2], .bl true]]
theorem law_t (n : Nat) (ns : List Int) (hn : ns.length ≤ 63) : ∃ S', ev (n + 12) j_law [scr ns] ⟨[], []⟩ = .ok (.bl true) S' := by
  have main : Wp (b_law (ev (n + 11)) (initE 16 [scr ns]) ⟨[], []⟩) fun f S' => f = .rt (.bl true) := by
    obtain ⟨xs, a, b, hcup⟩ := cup_t (n + 10) ns hn
    have e0 : initE 16 [scr ns] = [some (scr ns), none, none, none, none, none, none, none, none, none, none, none, none, none, none, none] := rfl
    rw [e0]
    unfold b_law
    rw [seq_nx (env1 := lE (scr ns) (.ref 1) none none none none none none none none none none none none none none) (S1 := ⟨[.lst xs, cupO a b], []⟩) (by
      simp -implicitDefEqProofs [initE, List.replicate, retS, retN, seqS, asgS, exprS, ifS, parS, skipS, setAll, varE, cstE, nilL, consL, tupE, mkL, un1, bin2, andE, orE, ifE, chainE, boolT, truthT, notT, andT, orT, yesT, callE, nameG, tupG, consG, nilG, itemsD, opNot, opAdd, opSub, opDiv, opMod, opNeg, opLt, opLe, opGt, opGe, opIsNot, opIs, ltD, leD, truth, at_nat, at_0, at_1, at_2, at_3, at_4, opIx, fLen, coreE, coreL, opIsi, isTy, opAbs, opMin, opInt, opMul, is_nn, is_nt, is_nr, is_nb, is_ni, is_ntm, is_nst, eq_ii, ne_ii, eq_bb, ne_bb, hcup, lE])]
    refine Wp.elim (five_w n (scr ns) [.lst xs, cupO a b] none none none none none none none none none none none none none none ⟨[.lst xs, cupO a b], []⟩ (by simp [initE, List.replicate, retS, retN, seqS, asgS, exprS, ifS, parS, skipS, setAll, varE, cstE, nilL, consL, tupE, mkL, un1, bin2, andE, orE, ifE, chainE, boolT, truthT, notT, andT, orT, yesT, callE, nameG, tupG, consG, nilG, itemsD, opNot, opAdd, opSub, opDiv, opMod, opNeg, opLt, opLe, opGt, opGe, opIsNot, opIs, ltD, leD, truth, at_nat, at_0, at_1, at_2, at_3, at_4, opIx, fLen, coreE, coreL, opIsi, isTy, opAbs, opMin, opInt, opMul, is_nn, is_nt, is_nr, is_nb, is_ni, is_ntm, is_nst, eq_ii, ne_ii, eq_bb, ne_bb]) (NwC.refl rfl)) ?_
    rintro f T f1 ⟨⟨x9, x10, rfl⟩, N1⟩
    clear N1 hcup
    rw [seq_nx f1]
    clear f1
    rw [seq_nx (env1 := lE (scr ns) (.ref 1) none none none none none none none x9 x10 (some eD) (some zD) none none none) (S1 := T) rfl]
    rw [seq_nx (env1 := lE (scr ns) (.ref 1) (some sD) none none none none none none x9 x10 (some eD) (some zD) none none none) (S1 := T) rfl]
    rw [seq_nx (env1 := lE (scr ns) (.ref 1) (some sD) none none none none none none x9 x10 (some eD) (some zD) (some rD) (some bD) none) (S1 := T) rfl]
    rw [seq_nx (env1 := lE (scr ns) (.ref 1) (some sD) (some (.ref T.objs.length)) none none none none none x9 x10 (some eD) (some zD) (some rD) (some bD) none) (S1 := ⟨T.objs ++ [.lst l1], T.dirty⟩) (asg_mk (ds := l1) (by
      simp -implicitDefEqProofs [initE, List.replicate, retS, retN, seqS, asgS, exprS, ifS, parS, skipS, setAll, varE, cstE, nilL, consL, tupE, mkL, un1, bin2, andE, orE, ifE, chainE, boolT, truthT, notT, andT, orT, yesT, callE, nameG, tupG, consG, nilG, itemsD, opNot, opAdd, opSub, opDiv, opMod, opNeg, opLt, opLe, opGt, opGe, opIsNot, opIs, ltD, leD, truth, at_nat, at_0, at_1, at_2, at_3, at_4, opIx, fLen, coreE, coreL, opIsi, isTy, opAbs, opMin, opInt, opMul, is_nn, is_nt, is_nr, is_nb, is_ni, is_ntm, is_nst, eq_ii, ne_ii, eq_bb, ne_bb, lE, k_e1 n, k_e2 n, k_z1 n, k_s1 n, k_b1 n, l1]))]
    have g1 : (⟨T.objs ++ [.lst l1], T.dirty⟩ : Store).objs[T.objs.length]? = some (.lst l1) := get_new _ _
    generalize (⟨T.objs ++ [.lst l1], T.dirty⟩ : Store) = T1 at *
    generalize T.objs.length = k1 at *
    rw [seq_nx (env1 := lE (scr ns) (.ref 1) (some sD) (some (.ref T1.objs.length)) none none none none none x9 x10 (some eD) (some zD) (some rD) (some bD) none) (S1 := ⟨T1.objs ++ [.lst (l1 ++ l2)], T1.dirty⟩) (asg_mk (ds := l1 ++ l2) (cat_v rfl (by
      simp -implicitDefEqProofs [initE, List.replicate, retS, retN, seqS, asgS, exprS, ifS, parS, skipS, setAll, varE, cstE, nilL, consL, tupE, mkL, un1, bin2, andE, orE, ifE, chainE, boolT, truthT, notT, andT, orT, yesT, callE, nameG, tupG, consG, nilG, itemsD, opNot, opAdd, opSub, opDiv, opMod, opNeg, opLt, opLe, opGt, opGe, opIsNot, opIs, ltD, leD, truth, at_nat, at_0, at_1, at_2, at_3, at_4, opIx, fLen, coreE, coreL, opIsi, isTy, opAbs, opMin, opInt, opMul, is_nn, is_nt, is_nr, is_nb, is_ni, is_ntm, is_nst, eq_ii, ne_ii, eq_bb, ne_bb, lE, k_b2 n, k_s2 n, k_s3 n, k_r1 n, l2]) g1 (by decide)))]
    have g2 : (⟨T1.objs ++ [.lst (l1 ++ l2)], T1.dirty⟩ : Store).objs[T1.objs.length]? = some (.lst (l1 ++ l2)) := get_new _ _
    generalize (⟨T1.objs ++ [.lst (l1 ++ l2)], T1.dirty⟩ : Store) = T2 at *
    generalize T1.objs.length = k2 at *
    rw [seq_nx (env1 := lE (scr ns) (.ref 1) (some sD) (some (.ref k2)) none none none none none x9 x10 (some eD) (some zD) (some rD) (some bD) none) (S1 := T2.set k2 (.lst (l1 ++ l2 ++ [vz]))) (app_v rfl (by
      simp -implicitDefEqProofs [initE, List.replicate, retS, retN, seqS, asgS, exprS, ifS, parS, skipS, setAll, varE, cstE, nilL, consL, tupE, mkL, un1, bin2, andE, orE, ifE, chainE, boolT, truthT, notT, andT, orT, yesT, callE, nameG, tupG, consG, nilG, itemsD, opNot, opAdd, opSub, opDiv, opMod, opNeg, opLt, opLe, opGt, opGe, opIsNot, opIs, ltD, leD, truth, at_nat, at_0, at_1, at_2, at_3, at_4, opIx, fLen, coreE, coreL, opIsi, isTy, opAbs, opMin, opInt, opMul, is_nn, is_nt, is_nr, is_nb, is_ni, is_ntm, is_nst, eq_ii, ne_ii, eq_bb, ne_bb, lE, k_z2 n, vz]) g2 (by decide))]
    have g3 := set_at (o' := .lst (l1 ++ l2 ++ [vz])) g2
    generalize T2.set k2 (.lst (l1 ++ l2 ++ [vz])) = T3 at *
    have b3 := (List.getElem?_eq_some_iff.mp g3).1
    rw [seq_nx (env1 := lE (scr ns) (.ref 1) (some sD) (some (.ref k2)) (some (.ref T3.objs.length)) none none none none x9 x10 (some eD) (some zD) (some rD) (some bD) none) (S1 := ⟨T3.objs ++ [.lst d1], T3.dirty⟩) rfl]
    have g4 : (⟨T3.objs ++ [.lst d1], T3.dirty⟩ : Store).objs[k2]? = some (.lst (l1 ++ l2 ++ [vz])) := new_old g3
    have h4 : (⟨T3.objs ++ [.lst d1], T3.dirty⟩ : Store).objs[T3.objs.length]? = some (.lst d1) := get_new _ _
    generalize (⟨T3.objs ++ [.lst d1], T3.dirty⟩ : Store) = T4 at *
    generalize hj : T3.objs.length = j1 at *
    rw [seq_nx (env1 := lE (scr ns) (.ref 1) (some sD) (some (.ref k2)) (some (.ref j1)) (some twD) none none none x9 x10 (some eD) (some zD) (some rD) (some bD) none) (S1 := T4) rfl]
    rw [seq_nx (env1 := lE (scr ns) (.ref 1) (some sD) (some (.ref k2)) (some (.ref j1)) (some twD) (some meD) none none x9 x10 (some eD) (some zD) (some rD) (some bD) none) (S1 := T4) rfl]
    rw [seq_nx (env1 := lE (scr ns) (.ref 1) (some sD) (some (.ref k2)) (some (.ref j1)) (some twD) (some meD) (some shD) none x9 x10 (some eD) (some zD) (some rD) (some bD) none) (S1 := T4) rfl]
    have m1 := lc1_t n (scr ns) (.ref 1) (some sD) (some (.ref k2)) (some (.ref j1)) (some meD) (some shD) none x9 x10 (some eD) (some zD) (some rD) (some bD) none T4
    have m2 := lc2_t n (scr ns) (.ref 1) (some sD) (some (.ref k2)) (some (.ref j1)) (some twD) (some shD) none x9 x10 (some eD) (some zD) (some rD) (some bD) none T4
    rw [seq_nx (env1 := lE (scr ns) (.ref 1) (some sD) (some (.ref T4.objs.length)) (some (.ref j1)) (some twD) (some meD) (some shD) none x9 x10 (some eD) (some zD) (some rD) (some bD) none) (S1 := ⟨T4.objs ++ [.lst (l1 ++ l2 ++ [vz] ++ l3 ++ l4)], T4.dirty⟩) (asg_mk (cat_l (cat_v rfl m1 g4 (by decide)) m2 (by decide)))]
    have g5 : (⟨T4.objs ++ [.lst (l1 ++ l2 ++ [vz] ++ l3 ++ l4)], T4.dirty⟩ : Store).objs[T4.objs.length]? = some (.lst (l1 ++ l2 ++ [vz] ++ l3 ++ l4)) := get_new _ _
    have h5 : (⟨T4.objs ++ [.lst (l1 ++ l2 ++ [vz] ++ l3 ++ l4)], T4.dirty⟩ : Store).objs[j1]? = some (.lst d1) := new_old h4
    generalize (⟨T4.objs ++ [.lst (l1 ++ l2 ++ [vz] ++ l3 ++ l4)], T4.dirty⟩ : Store) = T5 at *
    generalize T4.objs.length = k3 at *
    have m3 := lc3_t n (scr ns) (.ref 1) (some sD) (some (.ref k3)) (some (.ref j1)) (some twD) (some meD) none x9 x10 (some eD) (some zD) (some rD) (some bD) none T5
    rw [seq_nx (env1 := lE (scr ns) (.ref 1) (some sD) (some (.ref T5.objs.length)) (some (.ref j1)) (some twD) (some meD) (some shD) none x9 x10 (some eD) (some zD) (some rD) (some bD) none) (S1 := ⟨T5.objs ++ [.lst (l1 ++ l2 ++ [vz] ++ l3 ++ l4 ++ l5 ++ l6)], T5.dirty⟩) (asg_mk (cat_l (cat_v rfl m3 g5 (by decide)) (ys := l6) (by
      simp -implicitDefEqProofs [initE, List.replicate, retS, retN, seqS, asgS, exprS, ifS, parS, skipS, setAll, varE, cstE, nilL, consL, tupE, mkL, un1, bin2, andE, orE, ifE, chainE, boolT, truthT, notT, andT, orT, yesT, callE, nameG, tupG, consG, nilG, itemsD, opNot, opAdd, opSub, opDiv, opMod, opNeg, opLt, opLe, opGt, opGe, opIsNot, opIs, ltD, leD, truth, at_nat, at_0, at_1, at_2, at_3, at_4, opIx, fLen, coreE, coreL, opIsi, isTy, opAbs, opMin, opInt, opMul, is_nn, is_nt, is_nr, is_nb, is_ni, is_ntm, is_nst, eq_ii, ne_ii, eq_bb, ne_bb, lE, k_h2 n, k_h3 n, l6]) (by decide)))]
    have g6 : (⟨T5.objs ++ [.lst (l1 ++ l2 ++ [vz] ++ l3 ++ l4 ++ l5 ++ l6)], T5.dirty⟩ : Store).objs[T5.objs.length]? = some (.lst (l1 ++ l2 ++ [vz] ++ l3 ++ l4 ++ l5 ++ l6)) := get_new _ _
    have h6 : (⟨T5.objs ++ [.lst (l1 ++ l2 ++ [vz] ++ l3 ++ l4 ++ l5 ++ l6)], T5.dirty⟩ : Store).objs[j1]? = some (.lst d1) := new_old h5
    generalize (⟨T5.objs ++ [.lst (l1 ++ l2 ++ [vz] ++ l3 ++ l4 ++ l5 ++ l6)], T5.dirty⟩ : Store) = T6 at *
    generalize T5.objs.length = k4 at *
    have b6 := (List.getElem?_eq_some_iff.mp g6).1
    rw [seq_nx (env1 := lE (scr ns) (.ref 1) (some sD) (some (.ref k4)) (some (.ref T6.objs.length)) (some twD) (some meD) (some shD) none x9 x10 (some eD) (some zD) (some rD) (some bD) none) (S1 := ⟨T6.objs ++ [.lst (d1 ++ d2)], T6.dirty⟩) (asg_mk (cat_v rfl rfl h6 (by decide)))]
    have g7 : (⟨T6.objs ++ [.lst (d1 ++ d2)], T6.dirty⟩ : Store).objs[k4]? = some (.lst (l1 ++ l2 ++ [vz] ++ l3 ++ l4 ++ l5 ++ l6)) := new_old g6
    have h7 : (⟨T6.objs ++ [.lst (d1 ++ d2)], T6.dirty⟩ : Store).objs[T6.objs.length]? = some (.lst (d1 ++ d2)) := get_new _ _
    have n7 : k4 ≠ T6.objs.length := by omega
    generalize (⟨T6.objs ++ [.lst (d1 ++ d2)], T6.dirty⟩ : Store) = T7 at *
    generalize T6.objs.length = j2 at *
    rw [seq_nx (env1 := lE (scr ns) (.ref 1) (some sD) (some (.ref k4)) (some (.ref j2)) (some twD) (some meD) (some shD) (some thD) x9 x10 (some eD) (some zD) (some rD) (some bD) none) (S1 := T7) rfl]
    rw [seq_nx (env1 := lE (scr ns) (.ref 1) (some sD) (some (.ref k4)) (some (.ref j2)) (some twD) (some meD) (some shD) (some thD) x9 x10 (some eD) (some zD) (some rD) (some bD) none) (S1 := T7.set k4 (.lst ((l1 ++ l2 ++ [vz] ++ l3 ++ l4 ++ l5 ++ l6) ++ [vt]))) (app_v rfl (by
      simp -implicitDefEqProofs [initE, List.replicate, retS, retN, seqS, asgS, exprS, ifS, parS, skipS, setAll, varE, cstE, nilL, consL, tupE, mkL, un1, bin2, andE, orE, ifE, chainE, boolT, truthT, notT, andT, orT, yesT, callE, nameG, tupG, consG, nilG, itemsD, opNot, opAdd, opSub, opDiv, opMod, opNeg, opLt, opLe, opGt, opGe, opIsNot, opIs, ltD, leD, truth, at_nat, at_0, at_1, at_2, at_3, at_4, opIx, fLen, coreE, coreL, opIsi, isTy, opAbs, opMin, opInt, opMul, is_nn, is_nt, is_nr, is_nb, is_ni, is_ntm, is_nst, eq_ii, ne_ii, eq_bb, ne_bb, lE, k_th n, vt]) g7 (by decide))]
    have g8 := set_at (o' := .lst ((l1 ++ l2 ++ [vz] ++ l3 ++ l4 ++ l5 ++ l6) ++ [vt])) g7
    have h8 := set_off (o' := .lst ((l1 ++ l2 ++ [vz] ++ l3 ++ l4 ++ l5 ++ l6) ++ [vt])) h7 n7
    generalize T7.set k4 (.lst ((l1 ++ l2 ++ [vz] ++ l3 ++ l4 ++ l5 ++ l6) ++ [vt])) = T8 at *
    have g9 : (⟨T8.objs ++ [.lst (d1 ++ d2 ++ d3)], T8.dirty⟩ : Store).objs[k4]? = some (.lst (d1 ++ d2 ++ d3)) := new_old g8
    have h9 : (⟨T8.objs ++ [.lst (d1 ++ d2 ++ d3)], T8.dirty⟩ : Store).objs[T8.objs.length]? = some (.lst (d1 ++ d2 ++ d3)) := get_new _ _
    have lk := like_lists 3 (n + 5) k4 T8.objs.length (d1 ++ d2 ++ d3) ⟨T8.objs ++ [.lst (d1 ++ d2 ++ d3)], T8.dirty⟩ g9 h9 (by decide) (by decide)
    refine Wp.of (a := .rt (.bl true)) (S := ⟨T8.objs ++ [.lst (d1 ++ d2 ++ d3)], T8.dirty⟩) ?_ rfl
    have hc : catVL (varE 4) _ (lE (scr ns) (.ref 1) (some sD) (some (.ref k4)) (some (.ref j2)) (some twD) (some meD) (some shD) (some thD) x9 x10 (some eD) (some zD) (some rD) (some bD) none) T8 = .ok (d1 ++ d2 ++ d3) T8 := cat_v (ys := d3) (l := (consL (cstE .non) (consL (cstE .non) (consL (cstE (.bl true)) (consL (cstE (.bl false)) (consL (tupE (consL (tupE (consL (cstE (.int (5))) (consL (cstE (.int (2))) nilL))) (consL (cstE (.bl true)) (consL (tupE (consL (tupE (consL (cstE (.int (9))) (consL (cstE (.int (2))) nilL))) (consL (cstE (.bl true)) nilL))) nilL)))) nilL)))))) rfl rfl h8 (by decide)
    unfold Ev.retS Ev.callE
    have h3 : consL (varE 3) (consL (mkL (catVL (varE 4) (consL (cstE .non) (consL (cstE .non) (consL (cstE (.bl true)) (consL (cstE (.bl false)) (consL (tupE (consL (tupE (consL (cstE (.int (5))) (consL (cstE (.int (2))) nilL))) (consL (cstE (.bl true)) (consL (tupE (consL (tupE (consL (cstE (.int (9))) (consL (cstE (.int (2))) nilL))) (consL (cstE (.bl true)) nilL))) nilL)))) nilL))))))) nilL) (lE (scr ns) (.ref 1) (some sD) (some (.ref k4)) (some (.ref j2)) (some twD) (some meD) (some shD) (some thD) x9 x10 (some eD) (some zD) (some rD) (some bD) none) T8 = .ok [.ref k4, .ref T8.objs.length] ⟨T8.objs ++ [.lst (d1 ++ d2 ++ d3)], T8.dirty⟩ := by
      exact cons2 rfl (mk_ok hc)
    rw [h3, bind_ok, lk]
    rfl
  refine Wp.elim main ?_
  rintro f S' e rfl
  refine ⟨leave ⟨[], []⟩ S' (.bl true), ?_⟩
  rw [u_law]
  unfold runF
  rw [if_pos (show [scr ns].length = 1 from rfl), e]
end K81
set_option Elab.async false
set_option linter.all false
set_option maxRecDepth 100000
set_option maxHeartbeats 0
namespace K81
open PySem PySem.Spec PyProof.Rows L2 Ev
theorem bind_law (K : PySem.W.Frag) (f : Addr) (fd : FuncData) (F : FunI K i_law f fd) (s : Shared) (u : Value) : BindsTo s fd ⟨[u], []⟩ [(scriptS, u)] :=
  FunD.bindsA (ps := [scriptS]) F (fun _ _ _ _ _ _ us hl => match us, hl with | [_], _ => rfl) s [u] rfl
theorem hlaw (ns : List Int) (hn : ns.length ≤ 63) : ∃ S', callF ld.tbl 12 j_law [scr ns] ⟨[], []⟩ = .ok (.bl true) S' := by
  show ∃ S', callF tbl 12 j_law [scr ns] ⟨[], []⟩ = .ok (.bl true) S'
  rw [callF_ev]
  exact law_t 0 ns hn
end K81
open PySem PySem.W PySem.Calls PyProof.Rows
set_option maxRecDepth 100000 in
set_option maxHeartbeats 0 in
theorem PySem.Challenge.cw_clockstold_k81_whole_stuck_states_holds : PySem.Challenge.rw_clockstold_k81_whole_stuck_states.Holds := by
  w_on; o_law
  refine HandSHeadRun.head_any (r := OpenLaw.row PySem.Challenge.rw_clockstold_k81_whole_stuck_states) (q := view (OpenLaw.row PySem.Challenge.rw_clockstold_k81_whole_stuck_states).prog [90]) (H := K81.hk) (ob := K81.ob) (M := 20000) (loose := K81.names) (d := HandSHeadRun.topDef (OpenLaw.row PySem.Challenge.rw_clockstold_k81_whole_stuck_states).prog 90) (kwd := []) K81.ob_eq
    (by kernel_rfl) (fun s => by kernel_rfl) K81.run (by kernel_rfl) (by kernel_rfl) (by kernel_rfl) (by rfl) (by first | assumption | decide +kernel) (by decide +kernel) ⟨rfl, rfl, rfl, rfl, rfl, by decide +kernel⟩ ?hw ?hc
  case hw => w_witness2
  case hc =>
    exact Ev.law_end (L := K81.ld) (l := PySem.Challenge.rw_clockstold_k81_whole_stuck_states) (n := 12) (j := K81.j_law) (i := K81.i_law) rfl (by kernel_rfl) ⟨rfl, by decide, by decide⟩ (by kernel_rfl) K81.chk K81.each (by kernel_rfl) rfl (by rfl) K81.bind_law K81.hlaw
