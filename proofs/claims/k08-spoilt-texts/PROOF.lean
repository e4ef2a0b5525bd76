import PyProof.Rows.All
import Wide.All
import OpenK.AllK
import Wide.FinOn
import HandS.EndBits
import HandS.Deep
import PyProof.ReprRoads
import HandS.ForMost
import HandS.Wide
import KE.KeyNested
import HandS.TryOnly
import HandS.ExcOwn
import HandS.WordsExc
import HandS.Flow
import HandS.TupAny
import HandS.Rev
import HandS.Zip
import HandS.IsInst
import HandS.Conv
import HandS.CallSlots
import HandS.StrMore
import KE.GoesMore
import KE.GoesEnum
import HandS.HeadHook2
import HandS.ExcIs
import HandS.HeadHook1
import KE.KStateDown
import HandS.Head0
import HandS.Head1
import HandS.Head2
import HandS.HeadEnd
import HandS.Replace
import HandS.WrittenGet
import HandS.More
import HandS.TupLe
import HandS.Dict
import KE.GoesZip
import HandS.DictComp
import HandS.WordsDict
import PyProof.StrLawsIn
import PyProof.Rows.StrFirst
import PyProof.Rows.RegReprOcc
import PySem.Challenge.RW_stripehall_k08_spoilt_texts
set_option Elab.async false
section
set_option linter.all false
set_option autoImplicit false
namespace D2
open PySem L2 PyProof.Rows

inductive D where
  | non | bl (b : Bool) | int (i : Int) | str (x : Str) | tup (xs : List D) | rol (xs : List D) | ref (i : Nat)
  deriving Inhabited
inductive O where
  | lst (xs : List D) | dic (kvs : List (D × D)) | dit (kvs : List (D × D)) | ins (c : Nat) (fs : List (Str × D))
  deriving Inhabited
abbrev Hd := List O
abbrev Sd := List (Option D)
inductive R (α : Type) where
  | ok (a : α) | exc (c : Nat)
abbrev M (α : Type) := Hd → Option (R α × Hd)
abbrev Fn := List D → M D
abbrev Env := Nat → Fn

def bnd {α β : Type} (x : Option (R α × Hd)) (k : α → M β) : Option (R β × Hd) :=
  match x with
  | none => none
  | some (.exc c, G) => some (.exc c, G)
  | some (.ok a, G) => k a G
def ret {α : Type} (a : α) : M α := fun G => some (.ok a, G)
def opt {α : Type} (x : Option α) : M α := fun G => match x with
  | some a => some (.ok a, G)
  | none => none
def new (o : O) : M D := fun G => some (.ok (.ref G.length), G ++ [o])
def newL (xs : List D) : M D := fun G => if xs.length ≤ sizeLine then some (.ok (.ref G.length), G ++ [.lst xs]) else none
def mkT (xs : List D) : M D := fun G => if xs.length ≤ sizeLine then some (.ok (.tup xs), G) else none
abbrev E := Sd → M D
abbrev T := Sd → M Bool
abbrev As := Sd → M (List D)

def listOf (G : Hd) (d : D) : Option (List D) := match d with
  | .ref i => match G[i]? with
    | some (.lst xs) => some xs
    | _ => none
  | .rol xs => some xs
  | _ => none
def mlist (G : Hd) (i : Nat) : Option (List D) := match G[i]? with
  | some (.lst xs) => some xs
  | _ => none
def seqOf (G : Hd) (d : D) : Option (List D) := match d with
  | .tup xs => some xs
  | _ => listOf G d
def flD : D → Option V
  | .non => some .non
  | .bl b => some (.bl b)
  | .int i => some (.int i)
  | .str x => some (.str x)
  | _ => none
def flDs : List D → Option (List V)
  | [] => some []
  | d :: ds => match flD d, flDs ds with
    | some v, some vs => some (v :: vs)
    | _, _ => none
def pyL (f : D → Option PyData) : List D → Option (List PyData)
  | [] => some []
  | d :: ds => match f d, pyL f ds with
    | some p, some ps => some (p :: ps)
    | _, _ => none
def pyD : Nat → Hd → D → Option PyData
  | 0, _, _ => none
  | n + 1, G, d => match d with
    | .non => some .none
    | .bl b => some (.bool b)
    | .int i => some (.int i)
    | .str x => if PyData.strOk x = true then some (.str x) else none
    | .tup xs => (pyL (pyD n G) xs).map .tuple
    | .rol xs => (pyL (pyD n G) xs).map .list
    | .ref i => match listOf G (.ref i) with
      | some xs => (pyL (pyD n G) xs).map .list
      | none => none
def tru (G : Hd) (d : D) : Option Bool := match d with
  | .non => some false
  | .bl b => some b
  | .int i => some (i != 0)
  | .str y => if y.length ≤ sizeLine then some ((y.length : Int) != 0) else none
  | .tup xs => some (!xs.isEmpty)
  | .rol xs => some (!xs.isEmpty)
  | .ref i => match G[i]? with
    | some (.lst xs) => some (!xs.isEmpty)
    | _ => none

mutual
def nk : D → Option NestedKey
  | .non => some .none
  | .bl b => some (.num (if b = true then 1 else 0))
  | .int i => some (.num i)
  | .str x => some (.text x)
  | .tup xs => match nks xs with
    | some ks => some (.tup ks)
    | none => none
  | .rol _ => none
  | .ref _ => none
def nks : List D → Option (List NestedKey)
  | [] => some []
  | d :: ds => match nk d, nks ds with
    | some k, some ks => some (k :: ks)
    | _, _ => none
end
def tk (d : D) : Option NestedKey := match d with
  | .tup xs => match nks xs with
    | some ks => if NestedKey.depth (.tup ks) ≤ 8 then some (.tup ks) else none
    | none => none
  | _ => none
def dkAt (kvs : List (D × D)) (k : NestedKey) : Option D := (kvs.find? fun kv => decide (tk kv.1 = some k)).map (·.2)
def dkPut (kvs : List (D × D)) (k : NestedKey) (d v : D) : List (D × D) :=
  if (dkAt kvs k).isSome = true then kvs.map (fun kv => if tk kv.1 = some k then (kv.1, v) else kv) else kvs ++ [(d, v)]
def dits (G : Hd) (i : Nat) : Option (List (D × D)) := match G[i]? with
  | some (.dit kvs) => some kvs
  | _ => none
def opAdd (x y : D) : M D := fun G => match x, y with
  | .int i, .int j => some (.ok (.int (i + j)), G)
  | .int i, .bl k => some (.ok (.int (i + b2i k)), G)
  | .str i, .str j => if i.length + j.length ≤ sizeLine then some (.ok (.str (i ++ j)), G) else none
  | .tup a, .tup b => if a.length + b.length ≤ sizeLine then some (.ok (.tup (a ++ b)), G) else none
  | .ref a, .ref b => match mlist G a, mlist G b with
    | some xs, some ys => if xs.length + ys.length ≤ sizeLine then some (.ok (.ref G.length), G ++ [.lst (xs ++ ys)]) else none
    | _, _ => none
  | _, _ => none
def opSub (x y : D) : M D := fun G => match x, y with
  | .int i, .int j => some (.ok (.int (i - j)), G)
  | _, _ => none
instance (i j : Int) : Decidable (CMul i j) := by unfold CMul; infer_instance
instance (i j : Int) : Decidable (CPow i j) := by unfold CPow; infer_instance
instance (i j : Int) : Decidable (CDivW i j) := by unfold CDivW; infer_instance
def opMul (x y : D) : M D := fun G => match x, y with
  | .int i, .int j => if CMul i j then some (.ok (.int (i * j)), G) else none
  | .str i, .int k => if i.length * k.toNat ≤ 65536 ∧ -(2 ^ 63) ≤ k ∧ k < 2 ^ 63 then some (.ok (.str (Txt.mul i k)), G) else none
  | .ref a, .int k => match mlist G a with
    | some xs => if -(2 ^ 63) ≤ k ∧ k < 2 ^ 63 ∧ xs.length * k.toNat ≤ sizeLine then some (.ok (.ref G.length), G ++ [.lst (List.replicate k.toNat xs).flatten]) else none
    | _ => none
  | _, _ => none
def opInt (C : Int → Int → Bool) (g : Int → Int → Int) (x y : D) : M D := fun G => match x, y with
  | .int i, .int j => if C i j = true then some (.ok (.int (g i j)), G) else none
  | _, _ => none
def opNeg (x : D) : M D := fun G => match x with
  | .int i => some (.ok (.int (-i)), G)
  | _ => none
def opFdiv : D → D → M D := opInt (fun i j => decide (CDivW i j)) fun i j => i / j
def opMod : D → D → M D := opInt (fun _ j => decide (0 < j)) fun i j => i % j
def opIAdd (x y : D) : M D := fun G => match x, y with
  | .int i, .int j => some (.ok (.int (i + j)), G)
  | .str i, .str j => if i.length + j.length ≤ sizeLine then some (.ok (.str (i ++ j)), G) else none
  | _, _ => none
def cEq (x y : D) : M D := fun G => match pyD 64 G x, pyD 64 G y with
  | some a, some b => some (.ok (.bl (PyData.eqv a b)), G)
  | _, _ => none
def cNe (x y : D) : M D := fun G => match pyD 64 G x, pyD 64 G y with
  | some a, some b => some (.ok (.bl (!PyData.eqv a b)), G)
  | _, _ => none
def cOrd (f : Int → Int → Bool) (g : Str → Str → Bool) (x y : D) : M D := fun G => match x, y with
  | .int i, .int j => some (.ok (.bl (f i j)), G)
  | .str i, .str j => some (.ok (.bl (g i j)), G)
  | .bl i, .bl j => some (.ok (.bl (f (b2i i) (b2i j))), G)
  | _, _ => none
def cLt : D → D → M D := cOrd (fun i j => decide (i < j)) fun i j => decide (i.cps.toList < j.cps.toList)
def cLe : D → D → M D := cOrd (fun i j => decide (i ≤ j)) fun i j => !decide (j.cps.toList < i.cps.toList)
def cGt : D → D → M D := cOrd (fun i j => decide (j < i)) fun i j => decide (j.cps.toList < i.cps.toList)
def cGe : D → D → M D := cOrd (fun i j => decide (j ≤ i)) fun i j => !decide (i.cps.toList < j.cps.toList)
def inS (x y : Str) : Bool := !(Builtin.Str.occurrences y x 0 y.length 1).isEmpty
def cInB (x y : D) : Hd → Option Bool := fun G => match y with
  | .str s => match x with
    | .str t => some (inS t s)
    | _ => none
  | _ => match seqOf G y with
    | none => none
    | some ys => match flD x, flDs ys with
      | some v, some vs => some (inV v vs)
      | _, _ => match y with
        | .ref _ => match pyD 64 G x, pyL (pyD 63 G) ys with
          | some a, some bs => some (bs.any fun z => PyData.eqv z a)
          | _, _ => none
        | _ => none
def cIn (x y : D) : M D := fun G => match cInB x y G with
  | some b => some (.ok (.bl b), G)
  | none => none
def cNotIn (x y : D) : M D := fun G => match cInB x y G with
  | some b => some (.ok (.bl (!b)), G)
  | none => none
def isNon : D → Bool
  | .non => true
  | _ => false
def cIs (x y : D) : M D := fun G => match y with
  | .non => some (.ok (.bl (isNon x)), G)
  | _ => none
def cIsNot (x y : D) : M D := fun G => match y with
  | .non => some (.ok (.bl (!isNon x)), G)
  | _ => none

def atD (x i : D) : M D := fun G => match i with
  | .int k => match x with
    | .str z => if z.length ≤ sizeLine then match atI z.cps.toList k with
        | some c => some (.ok (.str ⟨#[c]⟩), G)
        | none => none
      else none
    | _ => match seqOf G x with
      | some xs => match atI xs k with
        | some v => some (.ok v, G)
        | none => none
      | none => none
  | _ => none
def cutD (xs : List D) (lo hi : Option Int) : List D := (xs.drop (HT.sIx xs.length 0 lo)).take (HT.sIx xs.length xs.length hi - HT.sIx xs.length 0 lo)
def slD (x : D) (lo hi : Option Int) : M D := fun G => match x with
  | .str z => if z.length ≤ sizeLine then some (.ok (.str (cutS z lo hi)), G) else none
  | .tup xs => some (.ok (.tup (cutD xs lo hi)), G)
  | .ref i => match mlist G i with
    | some xs => some (.ok (.ref G.length), G ++ [.lst (cutD xs lo hi)])
    | none => none
  | _ => none
def putD (o i v : D) : M Unit := fun G => match o, i with
  | .ref r, .int k => match mlist G r with
    | some xs => match ixN xs.length k with
      | some j => some (.ok (), G.set r (.lst (xs.set j v)))
      | none => none
    | none => none
  | _, _ => none

def putA (o i v : D) : M Unit := fun G => match o with
  | .ref r => match dits G r with
    | some kvs => match tk i with
      | some k => if kvs.length < sizeLine then some (.ok (), G.set r (.dit (dkPut kvs k i v))) else none
      | none => none
    | none => putD o i v G
  | _ => none
def fLen (d : D) : M D := fun G => match d with
  | .str z => if z.length ≤ sizeLine then some (.ok (.int z.length), G) else none
  | _ => match seqOf G d with
    | some xs => some (.ok (.int xs.length), G)
    | none => none
def fInt (d : D) : M D := fun G => match d with
  | .int i => some (.ok (.int i), G)
  | .bl k => some (.ok (.int (if k then 1 else 0)), G)
  | _ => none
def fAbs (d : D) : M D := fun G => match d with
  | .int i => some (.ok (.int (if i < 0 then -i else i)), G)
  | _ => none
def fMax (x y : D) : M D := fun G => match x, y with
  | .int i, .int j => some (.ok (.int (if j > i then j else i)), G)
  | _, _ => none
def fMin (x y : D) : M D := fun G => match x, y with
  | .int i, .int j => some (.ok (.int (if j < i then j else i)), G)
  | _, _ => none
def fList (d : D) : M D := fun G => match seqOf G d with
  | some xs => some (.ok (.ref G.length), G ++ [.lst xs])
  | none => none
def fTuple (d : D) : M D := fun G => match seqOf G d with
  | some xs => some (.ok (.tup xs), G)
  | none => none
def bls : List D → Option (List Bool)
  | [] => some []
  | .bl b :: ds => (bls ds).map (b :: ·)
  | _ :: _ => none
def fAll (d : D) : M D := fun G => match (listOf G d).bind bls with
  | some bs => some (.ok (.bl (bs.all id)), G)
  | none => none
inductive Ty where
  | int | bool | str | tuple | list | dict
  deriving DecidableEq
def isTy (G : Hd) (d : D) (t : Ty) : Option Bool := match d with
  | .non => some false
  | .bl _ => some (t = .bool ∨ t = .int)
  | .int _ => some (t = .int)
  | .str _ => some (t = .str)
  | .tup _ => some (t = .tuple)
  | .rol _ => some (t = .list)
  | .ref i => match G[i]? with
    | some (.lst _) => some (t = .list)
    | _ => none
def fIsTy (t : Ty) (d : D) : M D := fun G => match isTy G d t with
  | some b => some (.ok (.bl b), G)
  | none => none
def rng (lo : Int) (n : Nat) : List D := (List.range n).map fun i => .int (lo + (i : Nat))

def mAppend (o x : D) : M D := fun G => match o with
  | .ref r => match mlist G r with
    | some xs => if xs.length < sizeLine then some (.ok .non, G.set r (.lst (xs ++ [x]))) else none
    | none => none
  | _ => none
def mExtend (o x : D) : M D := fun G => match o, x with
  | .ref r, .ref s => match mlist G r, mlist G s with
    | some xs, some ys => if xs.length + ys.length ≤ sizeLine then some (.ok .non, G.set r (.lst (xs ++ ys))) else none
    | _, _ => none
  | _, _ => none
def mPop (o : D) : M D := fun G => match o with
  | .ref r => match mlist G r with
    | some xs => match xs[xs.length - 1]? with
      | some y => some (.ok y, G.set r (.lst xs.dropLast))
      | none => none
    | none => none
  | _ => none
def strsD : List D → Option (List Str)
  | [] => some []
  | .str b :: ds => (strsD ds).map (b :: ·)
  | _ :: _ => none
def mJoin (o x : D) : M D := fun G => match o with
  | .str a => match (seqOf G x).bind strsD with
    | some ys => if (ys.map (·.length)).sum + ys.length * a.length ≤ 16777216 then some (.ok (.str (Txt.join a ys)), G) else none
    | none => none
  | _ => none
def mFind (o x : D) : M D := fun G => match o, x with
  | .str a, .str b => some (.ok (.int (Txt.find a b)), G)
  | _, _ => none
def mCountS (o x : D) : M D := fun G => match o, x with
  | .str a, .str b => some (.ok (.int (Txt.count a b)), G)
  | _, _ => none
def mIndex (o y : D) : M D := fun G => match listOf G o with
  | some ys => match flD y, flDs ys with
    | some v, some vs => match vs.findIdx? fun z => eqV z v with
      | some j => some (.ok (.int j), G)
      | none => none
    | _, _ => none
  | none => none

def eVar (i : Nat) : E := fun σ G => match σ[i]? with
  | some (some v) => some (.ok v, G)
  | _ => none
def eC (d : D) : E := fun _ G => some (.ok d, G)
def eOp1 (f : D → M D) (a : E) : E := fun σ G => bnd (a σ G) f
def eOp2 (f : D → D → M D) (a b : E) : E := fun σ G => bnd (a σ G) fun x G1 => bnd (b σ G1) fun y => f x y
def aNil : As := fun _ => ret []
def aCons (a : E) (r : As) : As := fun σ G => bnd (a σ G) fun x G1 => bnd (r σ G1) fun xs => ret (x :: xs)
def eTup (a : As) : E := fun σ G => bnd (a σ G) mkT
def eLst (a : As) : E := fun σ G => bnd (a σ G) newL
def isL (G : Hd) (x : D) : Bool := (listOf G x).isSome
def isS (x : D) : Bool := match x with
  | .str _ => true
  | _ => false
def eMl (f : D → D → M D) (o a : E) : E := fun σ G => bnd (o σ G) fun x G1 => if isL G1 x = true then bnd (a σ G1) fun y => f x y else none
def eMs (f : D → D → M D) (o a : E) : E := fun σ G => bnd (o σ G) fun x G1 => if isS x = true then bnd (a σ G1) fun y => f x y else none
def eCall (f : Fn) (a : As) : E := fun σ G => bnd (a σ G) f
def oNone : Sd → M (Option Int) := fun _ => ret none
def oSome (a : E) : Sd → M (Option Int) := fun σ G => bnd (a σ G) fun x => match x with
  | .int i => ret (some i)
  | _ => fun _ => none
def eSl (a : E) (lo hi : Sd → M (Option Int)) : E := fun σ G => bnd (a σ G) fun x G1 => bnd (lo σ G1) fun l G2 => bnd (hi σ G2) fun h => slD x l h
def asB (x : D) : M Bool := match x with
  | .bl b => ret b
  | _ => fun _ => none
def eAnd (a b : E) : E := fun σ G => bnd (a σ G) fun x G1 => match tru G1 x with
  | some true => b σ G1
  | some false => some (.ok x, G1)
  | none => none
def eOr (a b : E) : E := fun σ G => bnd (a σ G) fun x G1 => match tru G1 x with
  | some false => b σ G1
  | some true => some (.ok x, G1)
  | none => none
def eNot (a : E) : E := fun σ G => bnd (a σ G) fun x G1 => match tru G1 x with
  | some k => some (.ok (.bl (!k)), G1)
  | none => none
def eChain (f g : D → D → M D) (a b c : E) : E := fun σ G => bnd (a σ G) fun x G1 => bnd (b σ G1) fun y G2 => bnd (f x y G2) fun z G3 => match z with
  | .bl true => bnd (c σ G3) fun w => g y w
  | .bl false => some (.ok (.bl false), G3)
  | _ => none
def tTru (a : E) : T := fun σ G => bnd (a σ G) fun x G1 => match tru G1 x with
  | some k => some (.ok k, G1)
  | none => none
def tBl (a : E) : T := fun σ G => bnd (a σ G) asB
def tAnd (a b : T) : T := fun σ G => bnd (a σ G) fun k G1 => if k = true then b σ G1 else some (.ok false, G1)
def tOr (a b : T) : T := fun σ G => bnd (a σ G) fun k G1 => if k = true then some (.ok true, G1) else b σ G1
def tNot (a : T) : T := fun σ G => bnd (a σ G) fun k => ret (!k)
def eIf (t : T) (a b : E) : E := fun σ G => bnd (t σ G) fun k G1 => if k = true then a σ G1 else b σ G1

abbrev Tg := D → Sd → Hd → Option (Sd × Hd)
abbrev Tgs := List D → Sd → Hd → Option (Sd × Hd)
def gName (i : Nat) : Tg := fun v σ G => some (σ.set i (some v), G)
def gNil : Tgs := fun vs σ G => match vs with
  | [] => some (σ, G)
  | _ => none
def gCons (t : Tg) (u : Tgs) : Tgs := fun vs σ G => match vs with
  | v :: r => match t v σ G with
    | some (σ1, G1) => u r σ1 G1
    | none => none
  | [] => none
def gTup (n : Nat) (t : Tgs) : Tg := fun v σ G => match v with
  | .tup xs => if xs.length = n then t xs σ G else none
  | _ => none

abbrev ItD := Nat → Hd → Option (Option D)
def jSeq (xs : List D) : ItD := fun i _ => some xs[i]?
def jList (r : Nat) : ItD := fun i G => match listOf G (.ref r) with
  | some xs => some xs[i]?
  | none => none
def pairI (j : ItD) : ItD := fun i G => match j i G with
  | some (some v) => some (some (.tup [.int (i : Nat), v]))
  | some none => some none
  | none => none
def strSeq (x : Str) : List D := x.cps.toList.map fun c => .str ⟨#[c]⟩
def itOf (d : D) : M ItD := fun G => match d with
  | .tup xs => some (.ok (jSeq xs), G)
  | .str x => some (.ok (jSeq (strSeq x)), G)
  | .rol xs => some (.ok (jSeq xs), G)
  | .ref r => match listOf G (.ref r) with
    | some _ => some (.ok (jList r), G)
    | none => none
  | _ => none
def jRevT (xs : List D) : ItD := fun i _ => if i < xs.length then some xs[xs.length - 1 - i]? else some none
def jRevL (r n : Nat) : ItD := fun i G => if i < n then match listOf G (.ref r) with
    | some xs => match xs[n - 1 - i]? with
      | some v => some (some v)
      | none => none
    | none => none
  else some none
def jRng (lo : Int) (n : Nat) : ItD := fun i _ => if i < n then some (some (.int (lo + (i : Nat)))) else some none
abbrev IE := Sd → M ItD
def iOf (a : E) : IE := fun σ G => bnd (a σ G) itOf
def enumT (xs : List D) : ItD := fun i G => if i ≤ xs.length then pairI (jSeq xs) i G else none
def itEn (d : D) : M ItD := fun G => match d with
  | .tup xs => some (.ok (enumT xs), G)
  | .rol xs => some (.ok (pairI (jSeq xs)), G)
  | .ref r => match listOf G (.ref r) with
    | some _ => some (.ok (pairI (jList r)), G)
    | none => none
  | _ => none
def iEnum (a : E) : IE := fun σ G => bnd (a σ G) fun x => itEn x
def itRev (d : D) : M ItD := fun G => match d with
  | .tup xs => some (.ok (jRevT xs), G)
  | .rol xs => some (.ok (jRevT xs), G)
  | .ref r => match listOf G (.ref r) with
    | some xs => some (.ok (jRevL r xs.length), G)
    | none => none
  | _ => none
def iRev (a : E) : IE := fun σ G => bnd (a σ G) fun x => itRev x
def iRng1 (a : E) : IE := fun σ G => bnd (a σ G) fun x G1 => match x with
  | .int n => if -(2 ^ 62) ≤ n ∧ n < 2 ^ 62 then some (.ok (jRng 0 n.toNat), G1) else none
  | _ => none
def fTupRng (a : E) : E := fun σ G => bnd (a σ G) fun x G1 => match x with
  | .int n => if n ≤ 16777216 ∧ 0 ≤ n then some (.ok (.tup (rng 0 n.toNat)), G1) else none
  | _ => none

inductive Fl where
  | nx | bk | ct | rt (v : D) | exc (c : Nat)
abbrev SR := Option (Fl × Sd × Hd)
abbrev S := Sd → Hd → SR
def bndS {α : Type} (σ : Sd) (x : Option (R α × Hd)) (k : α → Hd → SR) : SR :=
  match x with
  | none => none
  | some (.exc c, G) => some (.exc c, σ, G)
  | some (.ok a, G) => k a G
def thenS (x : SR) (k : S) : SR :=
  match x with
  | some (.nx, σ, G) => k σ G
  | y => y
def sNil : S := fun σ G => some (.nx, σ, G)
def sSeq (a b : S) : S := fun σ G => thenS (a σ G) b
def sBreak : S := fun σ G => some (.bk, σ, G)
def sCont : S := fun σ G => some (.ct, σ, G)
def sAsg (a : E) (g : Tg) : S := fun σ G => bndS σ (a σ G) fun v G1 => match g v σ G1 with
  | some (σ2, G2) => some (.nx, σ2, G2)
  | none => none
def sSet (i : Nat) (a : E) : S := sAsg a (gName i)
def sPut (o i a : E) : S := fun σ G => bndS σ (a σ G) fun v G1 => bndS σ (o σ G1) fun x G2 => bndS σ (i σ G2) fun k G3 => bndS σ (putD x k v G3) fun _ G4 => some (.nx, σ, G4)
def sPutA (o i a : E) : S := fun σ G => bndS σ (a σ G) fun v G1 => bndS σ (o σ G1) fun x G2 => bndS σ (i σ G2) fun k G3 => bndS σ (putA x k v G3) fun _ G4 => some (.nx, σ, G4)
def sAug (i : Nat) (f : D → D → M D) (a : E) : S := fun σ G => match σ[i]? with
  | some (some v) => bndS σ (a σ G) fun w G1 => bndS σ (f v w G1) fun z G2 => some (.nx, σ.set i (some z), G2)
  | _ => none
def sExpr (a : E) : S := fun σ G => bndS σ (a σ G) fun _ G1 => some (.nx, σ, G1)
def sRet (a : E) : S := fun σ G => bndS σ (a σ G) fun v G1 => some (.rt v, σ, G1)
def sRetN : S := fun σ G => some (.rt .non, σ, G)
def sIf (t : T) (a b : S) : S := fun σ G => bndS σ (t σ G) fun k G1 => if k = true then a σ G1 else b σ G1
def sRaise (c : Nat) : S := fun σ G => some (.exc c, σ, G)
def loopF (j : ItD) (g : Tg) (b : S) (i : Nat) (σ : Sd) (G : Hd) : SR :=
  match j i G with
  | none => none
  | some none => some (.nx, σ, G)
  | some (some v) => match g v σ G with
    | none => none
    | some (σ1, G1) => match b σ1 G1 with
      | some (.nx, σ2, G2) => loopF j g b (i + 1) σ2 G2
      | some (.ct, σ2, G2) => loopF j g b (i + 1) σ2 G2
      | some (.bk, σ2, G2) => some (.nx, σ2, G2)
      | y => y
partial_fixpoint
def loopW (t : T) (b : S) (σ : Sd) (G : Hd) : SR :=
  match t σ G with
  | none => none
  | some (.exc c, G1) => some (.exc c, σ, G1)
  | some (.ok false, G1) => some (.nx, σ, G1)
  | some (.ok true, G1) => match b σ G1 with
    | some (.nx, σ2, G2) => loopW t b σ2 G2
    | some (.ct, σ2, G2) => loopW t b σ2 G2
    | some (.bk, σ2, G2) => some (.nx, σ2, G2)
    | y => y
partial_fixpoint
def sFor (it : IE) (g : Tg) (b : S) : S := fun σ G => bndS σ (it σ G) fun j G1 => loopF j g b 0 σ G1
def sWhile (t : T) (b : S) : S := loopW t b
def wipeD (σ : Sd) : List Nat → Sd
  | [] => σ
  | v :: vs => (wipeD σ vs).set v none
def loopC (j : ItD) (g : Tg) (t : T) (e : E) (σ0 : Sd) (D : Nat) (i : Nat) (G : Hd) : Option (R Unit × Hd) :=
  match j i G with
  | none => none
  | some none => some (.ok (), G)
  | some (some v) => match g v σ0 G with
    | none => none
    | some (σ1, G1) => match t σ1 G1 with
      | some (.ok true, G2) => match e σ1 G2 with
        | some (.ok y, G3) => match mlist G3 D with
          | some xs => if xs.length < sizeLine then loopC j g t e σ0 D (i + 1) (G3.set D (.lst (xs ++ [y]))) else none
          | none => none
        | _ => none
      | some (.ok false, G2) => loopC j g t e σ0 D (i + 1) G2
      | _ => none
partial_fixpoint
def tYes : T := fun _ => ret true
def eLc (own : List Nat) (it : IE) (g : Tg) (t : T) (e : E) : E := fun σ G => bnd (it σ G) fun j G1 =>
  bnd (loopC j g t e (wipeD σ own) G1.length 0 (G1 ++ [.lst []])) fun _ => ret (.ref G1.length)

def runFn (n k : Nat) (b : S) : Fn := fun vs G => if vs.length = k then match b (vs.map some ++ List.replicate (n - k) none) G with
    | some (.nx, _, G1) => some (.ok .non, G1)
    | some (.rt v, _, G1) => some (.ok v, G1)
    | some (.exc c, _, G1) => some (.exc c, G1)
    | _ => none
  else none
end D2
end
section
set_option linter.all false
set_option autoImplicit false
set_option maxRecDepth 100000
namespace D2
open PySem PySem.Spec PyProof.Rows L2

def SqR (K : PySem.W.Frag) (H : Hp) (a : Addr) (xs : List V) : Prop :=
  (∃ o, H a = some (.frz o (.lst xs))) ∨
    ∃ (o : Obj) (its : Array Value) (n : Nat), K.lookup a = some o ∧ o.cls = .type "list" ∧ o.dict = none ∧ o.data = .seq its n ∧ its.size ≤ sizeLine ∧ Vals xs its.toList
theorem SqR.sq {K : PySem.W.Frag} {H : Hp} {a : Addr} {xs : List V} (h : SqR K H a xs) : SqL K H a xs := by
  rcases h with ⟨o, h⟩ | h
  · exact .inl (.inr ⟨o, h⟩)
  · exact .inr h

mutual
inductive RD (K : PySem.W.Frag) (m : List Addr) (H : Hp) : D → V → Prop
  | non : RD K m H .non .non
  | bl (b : Bool) : RD K m H (.bl b) (.bl b)
  | int (i : Int) : RD K m H (.int i) (.int i)
  | str (x : Str) : RD K m H (.str x) (.str x)
  | ref {i : Nat} {a : Addr} : m[i]? = some a → RD K m H (.ref i) (.ref a)
  | tup {xs : List D} {ys : List V} {a : Addr} : SqT K H a ys → RDs K m H xs ys → RD K m H (.tup xs) (.ref a)
  | rol {xs : List D} {ys : List V} {a : Addr} : SqR K H a ys → RDs K m H xs ys → RD K m H (.rol xs) (.ref a)
inductive RDs (K : PySem.W.Frag) (m : List Addr) (H : Hp) : List D → List V → Prop
  | nil : RDs K m H [] []
  | cons {d : D} {v : V} {ds : List D} {vs : List V} : RD K m H d v → RDs K m H ds vs → RDs K m H (d :: ds) (v :: vs)
end

structure Ext (m : List Addr) (H : Hp) (m' : List Addr) (H' : Hp) : Prop where
  pre : ∃ t, m' = m ++ t
  tup : ∀ a xs, H a = some (.tup xs) → H' a = some (.tup xs)
  frz : ∀ a o u, H a = some (.frz o u) → H' a = some (.frz o u)
section
variable {K : PySem.W.Frag} {m m1 m2 : List Addr} {H H1 H2 : Hp}
theorem Ext.refl : Ext m H m H := ⟨⟨[], by simp⟩, fun _ _ h => h, fun _ _ _ h => h⟩
theorem Ext.trans (a : Ext m H m1 H1) (b : Ext m1 H1 m2 H2) : Ext m H m2 H2 := by
  obtain ⟨t, rfl⟩ := a.pre
  obtain ⟨u, rfl⟩ := b.pre
  exact ⟨⟨t ++ u, by simp⟩, fun x xs h => b.tup _ _ (a.tup _ _ h), fun x o u h => b.frz _ _ _ (a.frz _ _ _ h)⟩
theorem Ext.get (e : Ext m H m1 H1) {i : Nat} {a : Addr} (h : m[i]? = some a) : m1[i]? = some a := by
  obtain ⟨t, rfl⟩ := e.pre
  rw [List.getElem?_append_left (List.getElem?_eq_some_iff.mp h).1]
  exact h
theorem Ext.sqt (e : Ext m H m1 H1) {a : Addr} {xs : List V} (h : SqT K H a xs) : SqT K H1 a xs := by
  rcases h with (h | ⟨o, h⟩) | h
  · exact .inl (.inl (e.tup _ _ h))
  · exact .inl (.inr ⟨o, e.frz _ _ _ h⟩)
  · exact .inr h
theorem Ext.sqr (e : Ext m H m1 H1) {a : Addr} {xs : List V} (h : SqR K H a xs) : SqR K H1 a xs := by
  rcases h with ⟨o, h⟩ | h
  · exact .inl ⟨o, e.frz _ _ _ h⟩
  · exact .inr h
theorem Ext.same (s : Same H H1) : Ext m H m H1 := ⟨⟨[], by simp⟩, fun _ _ h => s _ _ h, fun _ _ _ h => s _ _ h⟩
mutual
theorem RD.ext (e : Ext m H m1 H1) : ∀ {d : D} {v : V}, RD K m H d v → RD K m1 H1 d v
  | _, _, .non => .non
  | _, _, .bl b => .bl b
  | _, _, .int i => .int i
  | _, _, .str x => .str x
  | _, _, .ref h => .ref (e.get h)
  | _, _, .tup h r => .tup (e.sqt h) (RDs.ext e r)
  | _, _, .rol h r => .rol (e.sqr h) (RDs.ext e r)
theorem RDs.ext (e : Ext m H m1 H1) : ∀ {ds : List D} {vs : List V}, RDs K m H ds vs → RDs K m1 H1 ds vs
  | _, _, .nil => .nil
  | _, _, .cons h r => .cons (RD.ext e h) (RDs.ext e r)
end
theorem RDs.length : ∀ {ds : List D} {vs : List V}, RDs K m H ds vs → ds.length = vs.length
  | _, _, .nil => rfl
  | _, _, .cons _ r => by rw [List.length_cons, List.length_cons, RDs.length r]
theorem RDs.get : ∀ {ds : List D} {vs : List V} {i : Nat} {d : D}, RDs K m H ds vs → ds[i]? = some d → ∃ v, vs[i]? = some v ∧ RD K m H d v
  | _, _, _, _, .nil, h => by simp at h
  | _, _, 0, d, .cons (d := d') (v := v) h r, e => by simp at e; subst e; exact ⟨v, by simp, h⟩
  | _, _, i + 1, d, .cons h r, e => by
    obtain ⟨v, h1, h2⟩ := RDs.get (i := i) (d := d) r (by simpa using e)
    exact ⟨v, by simpa using h1, h2⟩
theorem RDs.getV : ∀ {ds : List D} {vs : List V} {i : Nat} {v : V}, RDs K m H ds vs → vs[i]? = some v → ∃ d, ds[i]? = some d ∧ RD K m H d v
  | _, _, _, _, .nil, h => by simp at h
  | _, _, 0, d, .cons (d := d') (v := v) h r, e => by simp at e; subst e; exact ⟨d', by simp, h⟩
  | _, _, i + 1, d, .cons h r, e => by
    obtain ⟨v, h1, h2⟩ := RDs.getV (i := i) (v := d) r (by simpa using e)
    exact ⟨v, by simpa using h1, h2⟩
theorem RDs.append : ∀ {ds es : List D} {vs us : List V}, RDs K m H ds vs → RDs K m H es us → RDs K m H (ds ++ es) (vs ++ us)
  | _, _, _, _, .nil, s => s
  | _, _, _, _, .cons h r, s => .cons h (RDs.append r s)
theorem RDs.one {d : D} {v : V} (h : RD K m H d v) : RDs K m H [d] [v] := .cons h .nil
theorem RDs.take : ∀ {ds : List D} {vs : List V} (n : Nat), RDs K m H ds vs → RDs K m H (ds.take n) (vs.take n)
  | _, _, 0, _ => .nil
  | _, _, _ + 1, .nil => .nil
  | _, _, n + 1, .cons h r => .cons h (RDs.take n r)
theorem RDs.drop : ∀ {ds : List D} {vs : List V} (n : Nat), RDs K m H ds vs → RDs K m H (ds.drop n) (vs.drop n)
  | _, _, 0, r => r
  | _, _, _ + 1, .nil => .nil
  | _, _, n + 1, .cons _ r => RDs.drop n r
theorem RDs.set {d : D} {v : V} (h : RD K m H d v) : ∀ {ds : List D} {vs : List V} (i : Nat), RDs K m H ds vs → RDs K m H (ds.set i d) (vs.set i v)
  | _, _, _, .nil => .nil
  | _, _, 0, .cons _ r => .cons h r
  | _, _, i + 1, .cons g r => .cons g (RDs.set h i r)
theorem RDs.dropLast {ds : List D} {vs : List V} (r : RDs K m H ds vs) : RDs K m H ds.dropLast vs.dropLast := by
  rw [List.dropLast_eq_take, List.dropLast_eq_take, r.length]
  exact r.take _
theorem RDs.rep {ds : List D} {vs : List V} (h : RDs K m H ds vs) : ∀ k : Nat, RDs K m H (List.replicate k ds).flatten (List.replicate k vs).flatten
  | 0 => .nil
  | k + 1 => by
    rw [List.replicate_succ, List.replicate_succ, List.flatten_cons, List.flatten_cons]
    exact h.append (RDs.rep h k)
end

structure Kit where
  K : PySem.W.Frag
  cl : Nat → Option Addr
  P : Program
  w : World
def DitO (P : Program) (w : World) (a : Addr) (xs : List (NestedKey × Addr × V)) : Heap → Prop := fun h =>
  ∃ (ys : List (NestedKey × Addr × Value)) (o : Obj) (es : Array DictEntry) (ep : Nat), Paired (fun p q => p.1 = q.1 ∧ p.2.1 = q.2.1 ∧ RelV p.2.2 q.2.2) xs ys ∧
    h.get? a = some o ∧ o.ExactDict ∧ o.data = .dict es ep ∧ es.toList = ys.map (entryOfKey (nestedKind P w))
inductive RF (K : PySem.W.Frag) (m : List Addr) (H : Hp) : List (Str × D) → List (Str × V) → Prop
  | nil : RF K m H [] []
  | cons {f : Str} {d : D} {v : V} {ds : List (Str × D)} {vs : List (Str × V)} : RD K m H d v → RF K m H ds vs → RF K m H ((f, d) :: ds) ((f, v) :: vs)
theorem RF.ext {K : PySem.W.Frag} {m m1 : List Addr} {H H1 : Hp} (e : Ext m H m1 H1) : ∀ {ds : List (Str × D)} {vs : List (Str × V)}, RF K m H ds vs → RF K m1 H1 ds vs
  | _, _, .nil => .nil
  | _, _, .cons h r => .cons (h.ext e) (RF.ext e r)
def ofO (k : Kit) (m : List Addr) (H : Hp) (a : Addr) : O → HO → Prop
  | .lst ds, u => ∃ xs, u = .lst xs ∧ RDs k.K m H ds xs
  | .dic kvs, u => ∃ ys : List (Key × V), u = .dK ys ∧ Paired (fun (p : D × D) (q : Key × V) => RD k.K m H p.1 (kV q.1) ∧ RD k.K m H p.2 q.2) kvs ys
  | .dit kvs, u => ∃ xs : List (NestedKey × Addr × V), u = .ext (DitO k.P k.w a xs) ∧ (a == sysModules) = false ∧ kvs.length ≤ sizeLine ∧ (xs.map (·.1)).Nodup ∧
    Paired (fun (p : D × D) (q : NestedKey × Addr × V) => tk p.1 = some q.1 ∧ RD k.K m H p.1 (.ref q.2.1) ∧ RD k.K m H p.2 q.2.2) kvs xs
  | .ins c fs, u => ∃ C dx gs, k.cl c = some C ∧ u = .ins C dx gs ∧ RF k.K m H fs gs
theorem ofO.ext {k : Kit} {m m1 : List Addr} {H H1 : Hp} {a : Addr} (e : Ext m H m1 H1) : ∀ {o : O} {u : HO}, ofO k m H a o u → ofO k m1 H1 a o u
  | .lst ds, _, ⟨xs, e1, r⟩ => ⟨xs, e1, r.ext e⟩
  | .dic _, _, ⟨ys, e1, r⟩ => ⟨ys, e1, Paired.mapP r fun _ _ z => ⟨z.1.ext e, z.2.ext e⟩⟩
  | .dit _, _, ⟨xs, e1, e2, e3, e4, r⟩ => ⟨xs, e1, e2, e3, e4, Paired.mapP r fun _ _ z => ⟨z.1, z.2.1.ext e, z.2.2.ext e⟩⟩
  | .ins c fs, _, ⟨C, dx, gs, e0, e1, r⟩ => ⟨C, dx, gs, e0, e1, r.ext e⟩
structure RG (k : Kit) (m : List Addr) (G : Hd) (H : Hp) : Prop where
  len : m.length = G.length
  nd : m.Nodup
  at_ : ∀ (i : Nat) (o : O) (a : Addr), G[i]? = some o → m[i]? = some a → ∃ u, H a = some u ∧ ofO k m H a o u
section
variable {k : Kit} {m m1 : List Addr} {H H1 : Hp} {G : Hd}
theorem RG.get (g : RG k m G H) {i : Nat} {o : O} (h : G[i]? = some o) : ∃ a u, m[i]? = some a ∧ H a = some u ∧ ofO k m H a o u := by
  have hi := (List.getElem?_eq_some_iff.mp h).1
  have hm : i < m.length := by rw [g.len]; exact hi
  have e : m[i]? = some m[i] := List.getElem?_eq_getElem hm
  obtain ⟨u, h1, h2⟩ := g.at_ i o _ h e
  exact ⟨_, u, e, h1, h2⟩
theorem RG.some_of (g : RG k m G H) {a : Addr} (h : a ∈ m) : H a ≠ none := by
  obtain ⟨i, hi, e⟩ := List.getElem_of_mem h
  have hg : i < G.length := by rw [← g.len]; exact hi
  obtain ⟨u, h1, _⟩ := g.at_ i _ a (List.getElem?_eq_getElem hg) (by rw [List.getElem?_eq_getElem hi, e])
  rw [h1]
  simp
theorem RG.same (g : RG k m G H) (s : Same H H1) : RG k m G H1 :=
  ⟨g.len, g.nd, fun i o a h1 h2 => by
    obtain ⟨u, h3, h4⟩ := g.at_ i o a h1 h2
    exact ⟨u, s _ _ h3, h4.ext (.same s)⟩⟩
theorem same_upd {p : Addr} {u : HO} (h : H p = none) : Same H (upd H p u) := fun b o e => by
  rw [upd_ne (ne_of_none e h)]
  exact e
theorem RG.lay (g : RG k m G H) {p : Addr} {u : HO} (h : H p = none) : RG k m G (upd H p u) := g.same (same_upd h)
theorem Ext.lay {p : Addr} {u : HO} (h : H p = none) : Ext m H m (upd H p u) := .same (same_upd h)
theorem Ext.more {p : Addr} {u : HO} (h : H p = none) : Ext m H (m ++ [p]) (upd H p u) :=
  ⟨⟨[p], rfl⟩, fun _ _ e => same_upd h _ _ e, fun _ _ _ e => same_upd h _ _ e⟩
theorem RG.more (g : RG k m G H) {p : Addr} {u : HO} {o : O} (h : H p = none) (ho : ofO k m H p o u) : RG k (m ++ [p]) (G ++ [o]) (upd H p u) := by
  have hp : p ∉ m := fun q => g.some_of q h
  refine ⟨by simp [g.len], ?_, fun i o' a h1 h2 => ?_⟩
  · rw [List.nodup_append]
    exact ⟨g.nd, by simp, fun a ha b hb => by
      have : b = p := by simpa using hb
      subst this
      intro e; subst e; exact hp ha⟩
  · by_cases hi : i < m.length
    · rw [List.getElem?_append_left (by rw [← g.len]; exact hi)] at h1
      rw [List.getElem?_append_left hi] at h2
      obtain ⟨u', h3, h4⟩ := g.at_ i o' a h1 h2
      exact ⟨u', same_upd h _ _ h3, h4.ext (.more h)⟩
    · have hl : i = m.length := by
        have := (List.getElem?_eq_some_iff.mp h2).1
        rw [List.length_append] at this
        simp at this
        omega
      subst hl
      rw [List.getElem?_append_right (Nat.le_refl _)] at h2
      rw [List.getElem?_append_right (by rw [g.len]; exact Nat.le_refl _)] at h1
      simp [g.len] at h1 h2
      subst h1
      subst h2
      exact ⟨u, upd_same, ho.ext (.more h)⟩
theorem RG.put (g : RG k m G H) {i : Nat} {a : Addr} {u : HO} {o : O} (hm : m[i]? = some a) (hx : Ext m H m (upd H a u)) (ho : ofO k m H a o u) : RG k m (G.set i o) (upd H a u) := by
  have hi := (List.getElem?_eq_some_iff.mp hm).1
  refine ⟨by simp [g.len], g.nd, fun j o' b h1 h2 => ?_⟩
  by_cases hj : j = i
  · subst hj
    rw [hm] at h2
    cases h2
    rw [List.getElem?_set_self (by rw [← g.len]; exact hi)] at h1
    cases h1
    exact ⟨u, upd_same, ho.ext hx⟩
  · rw [List.getElem?_set_ne (Ne.symm hj)] at h1
    obtain ⟨u', h3, h4⟩ := g.at_ j o' b h1 h2
    have hb : b ≠ a := by
      rintro rfl
      obtain ⟨hj1, ej⟩ := List.getElem?_eq_some_iff.mp h2
      obtain ⟨hi1, ei⟩ := List.getElem?_eq_some_iff.mp hm
      exact hj ((List.getElem_inj g.nd).mp (ej.trans ei.symm))
    exact ⟨u', by rw [upd_ne hb]; exact h3, h4.ext hx⟩
theorem Ext.put {a : Addr} {u u0 : HO} (h : H a = some u0) (h1 : ∀ xs, u0 ≠ .tup xs) (h2 : ∀ o v, u0 ≠ .frz o v) : Ext m H m (upd H a u) := by
  refine ⟨⟨[], by simp⟩, fun b xs e => ?_, fun b o v e => ?_⟩
  · have : b ≠ a := by rintro rfl; rw [h] at e; cases e; exact h1 _ rfl
    rw [upd_ne this]; exact e
  · have : b ≠ a := by rintro rfl; rw [h] at e; cases e; exact h2 _ _ rfl
    rw [upd_ne this]; exact e
theorem RG.lst (g : RG k m G H) {i : Nat} {ds : List D} (h : mlist G i = some ds) : ∃ a xs, m[i]? = some a ∧ H a = some (.lst xs) ∧ RDs k.K m H ds xs := by
  unfold mlist at h
  split at h
  · rename_i xs e
    cases h
    obtain ⟨a, u, h1, h2, ys, rfl, h4⟩ := g.get e
    exact ⟨a, ys, h1, h2, h4⟩
  · cases h
theorem RG.putL (g : RG k m G H) {i : Nat} {a : Addr} {xs ys : List V} {ds : List D} (hm : m[i]? = some a) (hx : H a = some (.lst xs)) (r : RDs k.K m H ds ys) :
    RG k m (G.set i (.lst ds)) (upd H a (.lst ys)) ∧ Ext m H m (upd H a (.lst ys)) := by
  have e : Ext m H m (upd H a (.lst ys)) := .put hx (fun _ q => nomatch q) fun _ _ q => nomatch q
  exact ⟨g.put hm e ⟨ys, rfl, r⟩, e⟩
theorem RG.moreL (g : RG k m G H) {p : Addr} {ys : List V} {ds : List D} (h : H p = none) (r : RDs k.K m H ds ys) : RG k (m ++ [p]) (G ++ [.lst ds]) (upd H p (.lst ys)) ∧ RD k.K (m ++ [p]) (upd H p (.lst ys)) (.ref G.length) (.ref p) :=
  ⟨g.more h ⟨ys, rfl, r⟩, .ref (by rw [← g.len]; simp)⟩
theorem RD.listOf {d : D} {v : V} {ds : List D} (r : RD k.K m H d v) (g : RG k m G H) (h : D2.listOf G d = some ds) : ∃ a xs, v = .ref a ∧ SqL k.K H a xs ∧ RDs k.K m H ds xs := by
  cases r with
  | ref hm =>
    rename_i i a
    unfold D2.listOf at h
    obtain ⟨a', xs, h1, h2, h3⟩ := g.lst (i := i) (ds := ds) h
    rw [hm] at h1
    cases h1
    exact ⟨_, xs, rfl, SqL.of h2, h3⟩
  | rol hq hr =>
    cases h
    exact ⟨_, _, rfl, hq.sq, hr⟩
  | _ => cases h
theorem RD.seqOf {d : D} {v : V} {ds : List D} (r : RD k.K m H d v) (g : RG k m G H) (h : D2.seqOf G d = some ds) : ∃ a xs, v = .ref a ∧ (SqL k.K H a xs ∨ SqT k.K H a xs) ∧ RDs k.K m H ds xs := by
  cases r with
  | tup hq hr =>
    cases h
    exact ⟨_, _, rfl, .inr hq, hr⟩
  | ref hm =>
    obtain ⟨a, xs, h1, h2, h3⟩ := (RD.ref (K := k.K) (H := H) hm).listOf g (ds := ds) h
    exact ⟨a, xs, h1, .inl h2, h3⟩
  | rol hq hr =>
    obtain ⟨a, xs, h1, h2, h3⟩ := (RD.rol hq hr).listOf g (ds := ds) h
    exact ⟨a, xs, h1, .inl h2, h3⟩
  | _ => cases h
end

inductive RS (K : PySem.W.Frag) (m : List Addr) (H : Hp) : Sd → L2.St → Prop
  | nil : RS K m H [] []
  | some {d : D} {v : V} {σ : Sd} {τ : L2.St} : RD K m H d v → RS K m H σ τ → RS K m H (some d :: σ) (some v :: τ)
  | none {v : Option V} {σ : Sd} {τ : L2.St} : RS K m H σ τ → RS K m H (none :: σ) (v :: τ)
section
variable {K : PySem.W.Frag} {m m1 : List Addr} {H H1 : Hp}
theorem RS.ext (e : Ext m H m1 H1) : ∀ {σ : Sd} {τ : L2.St}, RS K m H σ τ → RS K m1 H1 σ τ
  | _, _, .nil => .nil
  | _, _, .some h r => .some (h.ext e) (RS.ext e r)
  | _, _, .none r => .none (RS.ext e r)
theorem RS.get : ∀ {σ : Sd} {τ : L2.St} {i : Nat} {d : D}, RS K m H σ τ → σ[i]? = Option.some (Option.some d) → ∃ v, τ[i]? = Option.some (Option.some v) ∧ RD K m H d v
  | _, _, _, _, .nil, h => by simp at h
  | _, _, 0, d, .some (v := v) h r, e => by simp at e; subst e; exact ⟨v, by simp, h⟩
  | _, _, 0, d, .none r, e => by simp at e
  | _, _, i + 1, d, .some h r, e => by
    obtain ⟨v, h1, h2⟩ := RS.get (i := i) (d := d) r (by simpa using e)
    exact ⟨v, by simpa using h1, h2⟩
  | _, _, i + 1, d, .none r, e => by
    obtain ⟨v, h1, h2⟩ := RS.get (i := i) (d := d) r (by simpa using e)
    exact ⟨v, by simpa using h1, h2⟩
theorem RS.set {d : D} {v : V} (h : RD K m H d v) : ∀ {σ : Sd} {τ : L2.St} (i : Nat), RS K m H σ τ → RS K m H (σ.set i (Option.some d)) (τ.set i (Option.some v))
  | _, _, _, .nil => .nil
  | _, _, 0, .some _ r => .some h r
  | _, _, 0, .none r => .some h r
  | _, _, i + 1, .some g r => .some g (RS.set h i r)
  | _, _, i + 1, .none r => .none (RS.set h i r)
theorem RS.forget : ∀ {σ : Sd} {τ : L2.St} (i : Nat) (w : Option V), RS K m H σ τ → RS K m H (σ.set i Option.none) (τ.set i w)
  | _, _, _, _, .nil => .nil
  | _, _, 0, w, .some _ r => .none r
  | _, _, 0, w, .none r => .none r
  | _, _, i + 1, w, .some g r => .some g (RS.forget i w r)
  | _, _, i + 1, w, .none r => .none (RS.forget i w r)
theorem RS.wipe {σ : Sd} {τ : L2.St} (r : RS K m H σ τ) : ∀ vs : List Nat, RS K m H (wipeD σ vs) (L2.wipe τ vs)
  | [] => r
  | v :: vs => by
    unfold wipeD L2.wipe
    exact (RS.wipe r vs).forget v _
theorem RS.length : ∀ {σ : Sd} {τ : L2.St}, RS K m H σ τ → σ.length = τ.length
  | _, _, .nil => rfl
  | _, _, .some _ r => by rw [List.length_cons, List.length_cons, RS.length r]
  | _, _, .none r => by rw [List.length_cons, List.length_cons, RS.length r]
theorem RS.start : ∀ {ds : List D} {vs : List V} (n : Nat), RDs K m H ds vs → RS K m H (ds.map Option.some ++ List.replicate n Option.none) (vs.map Option.some ++ List.replicate n Option.none)
  | _, _, 0, .nil => .nil
  | _, _, n + 1, .nil => .none (RS.start n .nil)
  | _, _, n, .cons h r => .some h (RS.start n r)
end

def Post {α β : Type} (k : Kit) (Rel : List Addr → Hp → α → β → Prop) (W : WX) (σ : L2.St) (m : List Addr) (H : Hp) (x : Option (R α × Hd)) (Q : β → Hp → Prop) : Prop :=
  match x with
  | none => False
  | some (.ok v, G') => ∀ m' y H', Ext m H m' H' → RG k m' G' H' → Rel m' H' v y → Q y H'
  | some (.exc c, G') => ∃ C, k.cl c = some C ∧ ∀ m' H', Ext m H m' H' → RG k m' G' H' → W (.ref C) none σ H'
abbrev relT : List Addr → Hp → Bool → Bool → Prop := fun _ _ a b => a = b
section
variable {α β γ δ : Type} {k : Kit} {Rel : List Addr → Hp → α → β → Prop} {Rel' : List Addr → Hp → γ → δ → Prop} {W : WX} {σ : L2.St} {m m1 : List Addr} {H H1 : Hp}
theorem Post.mono {x : Option (R α × Hd)} {Q Q' : β → Hp → Prop} (h : Post k Rel W σ m H x Q) (hq : ∀ y H', Q y H' → Q' y H') : Post k Rel W σ m H x Q' := by
  unfold Post at h ⊢
  split at h
  · exact h
  · exact fun m' y H' e g r => hq _ _ (h m' y H' e g r)
  · exact h
theorem Post.ext {x : Option (R α × Hd)} {Q : β → Hp → Prop} (e : Ext m H m1 H1) (h : Post k Rel W σ m H x Q) : Post k Rel W σ m1 H1 x Q := by
  unfold Post at h ⊢
  split at h
  · exact h
  · exact fun m' y H' e' g r => h m' y H' (e.trans e') g r
  · obtain ⟨C, hc, h⟩ := h
    exact ⟨C, hc, fun m' H' e' g => h m' H' (e.trans e') g⟩
theorem Post.bnd {x : Option (R α × Hd)} {f : α → M γ} {Q : δ → Hp → Prop} (h : Post k Rel' W σ m H (D2.bnd x f) Q) :
    Post k Rel W σ m H x (fun y H1 => ∃ (v : α) (G1 : Hd) (m1 : List Addr), Ext m H m1 H1 ∧ RG k m1 G1 H1 ∧ Rel m1 H1 v y ∧ Post k Rel' W σ m1 H1 (f v G1) Q) := by
  cases x with
  | none => exact h
  | some p =>
    obtain ⟨r, G1⟩ := p
    cases r with
    | exc c => exact h
    | ok v => exact fun m1 y H1 e g r => ⟨v, G1, m1, e, g, r, Post.ext e h⟩
end

def up {α β : Type} (k : Kit) (Rel : List Addr → Hp → α → β → Prop) (W : WX) (d : Sd → M α) : L2.St → Hp → (β → Hp → Prop) → Prop := fun σ H Q =>
  ∃ (τ : Sd) (G : Hd) (m : List Addr), RS k.K m H τ σ ∧ RG k m G H ∧ Post k Rel W σ m H (d τ G) Q
abbrev upE (k : Kit) (W : WX) (d : E) : TE := up k (RD k.K) W d
abbrev upT (k : Kit) (W : WX) (d : T) : TT := up k relT W d
abbrev upA (k : Kit) (W : WX) (d : As) : TA := up k (RDs k.K) W d
theorem up.mono {α β : Type} {k : Kit} {Rel : List Addr → Hp → α → β → Prop} {W : WX} {d : Sd → M α} {σ : L2.St} {H : Hp} {Q Q' : β → Hp → Prop} (h : up k Rel W d σ H Q) (hq : ∀ y H', Q y H' → Q' y H') : up k Rel W d σ H Q' := by
  obtain ⟨τ, G, m, h1, h2, h3⟩ := h
  exact ⟨τ, G, m, h1, h2, h3.mono hq⟩
theorem up.first {α β γ δ : Type} {k : Kit} {Rel : List Addr → Hp → α → β → Prop} {Rel' : List Addr → Hp → γ → δ → Prop} {W : WX} {d : Sd → M α} {f : Sd → α → M γ} {σ : L2.St} {H : Hp} {Q : δ → Hp → Prop}
    {Q1 : β → Hp → Prop} (h : up k Rel' W (fun τ G => D2.bnd (d τ G) (f τ)) σ H Q)
    (hq : ∀ (y : β) (H1 : Hp) (v : α) (G1 : Hd) (m1 : List Addr) (τ : Sd), RS k.K m1 H1 τ σ → RG k m1 G1 H1 → Rel m1 H1 v y → Post k Rel' W σ m1 H1 (f τ v G1) Q → Q1 y H1) : up k Rel W d σ H Q1 := by
  obtain ⟨τ, G, m, h1, h2, h3⟩ := h
  exact ⟨τ, G, m, h1, h2, (Post.bnd (Rel := Rel) h3).mono fun y H1 ⟨v, G1, m1, e, g, r, p⟩ => hq y H1 v G1 m1 τ (h1.ext e) g r p⟩
theorem PE.imp {X : Cx} {e : Expr} {t t' : TE} (h : PE X e t) (i : ∀ σ H Q, t' σ H Q → t σ H Q) : PE X e t' := ⟨fun pins s σ H Q I hw => h.run pins s σ H Q I (i σ H Q hw)⟩
theorem PT.imp {X : Cx} {e : Expr} {t t' : TT} (h : PT X e t) (i : ∀ σ H Q, t' σ H Q → t σ H Q) : PT X e t' := ⟨fun pins s σ H Q I hw => h.run pins s σ H Q I (i σ H Q hw)⟩
theorem PW.imp {X : Cx} {e : Expr} {t t' : TT} (h : PW X e t) (i : ∀ σ H Q, t' σ H Q → t σ H Q) : PW X e t' := ⟨fun wh pins s σ H Q I hw => h.run wh pins s σ H Q I (i σ H Q hw)⟩
theorem PA.imp {X : Cx} {e : List Expr} {t t' : TA} (h : PA X e t) (i : ∀ σ H Q, t' σ H Q → t σ H Q) : PA X e t' := ⟨fun p pins s σ H Q I hw => h.run p pins s σ H Q I (i σ H Q hw)⟩
theorem PS.imp {X : Cx} {e : Stmt} {t t' : TS} (h : PS X e t) (i : ∀ D σ H, t' D σ H → t D σ H) : PS X e t' := ⟨fun pins s σ H D I hw => h.run pins s σ H D I (i D σ H hw)⟩
theorem PSs.imp {X : Cx} {e : List Stmt} {t t' : TS} (h : PSs X e t) (i : ∀ D σ H, t' D σ H → t D σ H) : PSs X e t' := ⟨fun pins s σ H D I hw => h.run pins s σ H D I (i D σ H hw)⟩
theorem PE.or {X : Cx} {e : Expr} {t t' : TE} (h : PE X e t) (h' : PE X e t') : PE X e fun σ H Q => t σ H Q ∨ t' σ H Q := ⟨fun pins s σ H Q I hw => hw.elim (h.run pins s σ H Q I) (h'.run pins s σ H Q I)⟩
end D2
end
section
set_option linter.all false
set_option autoImplicit false
set_option maxRecDepth 100000
namespace D2
open PySem PySem.Spec PyProof.Rows L2

abbrev kt (X : Cx) (cl : Nat → Option Addr) : Kit := ⟨X.K, cl, X.prog, X.w⟩
abbrev JE (X : Cx) (cl : Nat → Option Addr) (W : WX) (e : Expr) (d : E) : Prop := PE X e (upE (kt X cl) W d)
abbrev JT (X : Cx) (cl : Nat → Option Addr) (W : WX) (e : Expr) (d : T) : Prop := PT X e (upT (kt X cl) W d)
abbrev JW (X : Cx) (cl : Nat → Option Addr) (W : WX) (e : Expr) (d : T) : Prop := PW X e (upT (kt X cl) W d)
abbrev JA (X : Cx) (cl : Nat → Option Addr) (W : WX) (e : List Expr) (d : As) : Prop := PA X e (upA (kt X cl) W d)
section
variable {X : Cx} {cl : Nat → Option Addr} {W : WX} {a b c : Expr} {da db dc : E} {pos : Pos}
theorem Post.out {α β : Type} {k : Kit} {Rel : List Addr → Hp → α → β → Prop} {σ : L2.St} {m : List Addr} {H : Hp} {G : Hd} {v : α} {y : β} {Q : β → Hp → Prop} (p : Post k Rel W σ m H (some (.ok v, G)) Q) (g : RG k m G H) (r : Rel m H v y) : Q y H :=
  p m y H .refl g r
theorem je_var {i : Nat} {x : Str} (h : PE X (.Name x pos) (tVar i)) : JE X cl W (.Name x pos) (eVar i) := by
  refine PE.imp h fun σ H Q ⟨τ, G, m, s, g, p⟩ => ?_
  unfold eVar at p
  split at p
  · rename_i v e
    obtain ⟨u, h1, h2⟩ := s.get e
    exact ⟨u, h1, p.out g h2⟩
  · exact p.elim
theorem je_const {e : Expr} {v : V} {d : D} (h : PE X e (tC v)) (r : ∀ m H, RD X.K m H d v) : JE X cl W e (eC d) :=
  PE.imp h fun σ H Q ⟨τ, G, m, s, g, p⟩ => p.out g (r m H)
theorem je_int {i : Int} {j : Nat} : JE X cl W (.Constant (.int i) j pos) (eC (.int i)) := je_const pe_int fun _ _ => .int i
theorem je_bl {i : Bool} {j : Nat} : JE X cl W (.Constant (.bool i) j pos) (eC (.bl i)) := je_const pe_bl fun _ _ => .bl i
theorem je_non {j : Nat} : JE X cl W (.Constant .none j pos) (eC .non) := je_const pe_non fun _ _ => .non
theorem je_str {x : Str} {j : Nat} : JE X cl W (.Constant (.str x) j pos) (eC (.str x)) := je_const pe_str fun _ _ => .str x
theorem je_glob {x : Str} {v : V} {u : Value} {d : D} (hg : Gl X x) (hm : X.mg x = some u) (r : RelV v u) (h : ∀ m H, RD X.K m H d v) (hd : (x == ("__debug__" : Str)) = false := by decide) : JE X cl W (.Name x pos) (eC d) :=
  je_const (pe_glob hg hm r hd) h

def Sem2 (X : Cx) (cl : Nat → Option Addr) (f : D → D → M D) (r : R2) : Prop :=
  ∀ (W : WX) (σ : L2.St) (m : List Addr) (H : Hp) (G : Hd) (x y : D) (v w : V) (Q : VK), RG (kt X cl) m G H → RD X.K m H x v → RD X.K m H y w → Post (kt X cl) (RD X.K) W σ m H (f x y G) Q → r v w H Q
theorem up_op2 {f : D → D → M D} {r : R2} (hs : Sem2 X cl f r) {σ : L2.St} {H : Hp} {Q : VK} (h : upE (kt X cl) W (eOp2 f da db) σ H Q) : tOp r (upE (kt X cl) W da) (upE (kt X cl) W db) σ H Q := by
  refine up.first (d := da) (f := fun τ x G1 => bnd (db τ G1) fun y => f x y) h fun y H1 v G1 m1 τ s1 g1 r1 p1 => ?_
  exact ⟨τ, G1, m1, s1, g1, (Post.bnd (Rel := RD X.K) p1).mono fun z H2 ⟨w, G2, m2, e2, g2, r2, p2⟩ => hs W σ m2 H2 G2 v w y z Q g2 (r1.ext e2) r2 p2⟩
theorem je_op {op : Operator} {f : D → D → M D} {r : R2} (ho : OpR X (binaryOp op) r) (hs : Sem2 X cl f r) (ha : JE X cl W a da) (hb : JE X cl W b db) : JE X cl W (.BinOp a op b pos) (eOp2 f da db) :=
  PE.imp (pe_op ho ha hb) fun _ _ _ h => up_op2 hs h
theorem je_cmp {op : CmpOp} {f : D → D → M D} {r : R2} (ho : OpR X (compareOp op) r) (hs : Sem2 X cl f r) (ha : JE X cl W a da) (hb : JE X cl W b db) (hm : behindInMarks op b = false) : JE X cl W (.Compare a [op] [b] pos) (eOp2 f da db) :=
  PE.imp (pe_cmpR ho ha hb hm) fun _ _ _ h => up_op2 hs h
theorem Post.asB {k : Kit} {σ : L2.St} {m : List Addr} {H : Hp} {G : Hd} {d : D} {v : V} {Q : Bool → Hp → Prop} (p : Post k relT W σ m H (asB d G) Q) (g : RG k m G H) (r : RD k.K m H d v) : ∃ c, v = .bl c ∧ Q c H := by
  cases r with
  | bl c => exact ⟨c, rfl, p.out g rfl⟩
  | _ => exact p.elim
theorem jt_cmp {op : CmpOp} {f : D → D → M D} {r : R2} (ho : OpR X (compareOp op) r) (hs : Sem2 X cl f r) (ha : JE X cl W a da) (hb : JE X cl W b db) (hm : behindInMarks op b = false) : JT X cl W (.Compare a [op] [b] pos) (tBl (eOp2 f da db)) := by
  refine PT.imp (pt_cmpR ho ha hb hm) fun σ H Q h => ?_
  have h2 : upE (kt X cl) W (eOp2 f da db) σ H (fun x H' => ∃ k, x = .bl k ∧ Q k H') :=
    up.first (d := eOp2 f da db) (f := fun τ x => D2.asB x) h fun y H1 v G1 m1 τ s1 g1 r1 p1 => p1.asB g1 r1
  exact up_op2 hs h2
theorem RG.kvs {k : Kit} {m : List Addr} {H : Hp} {G : Hd} (g : RG k m G H) {i : Nat} {a : Addr} (h : m[i]? = some a) : i < G.length := by
  rw [← g.len]; exact (List.getElem?_eq_some_iff.mp h).1
theorem Post.tru {k : Kit} {m : List Addr} {H : Hp} {G : Hd} {d : D} {v : V} {c : Bool} (e : tru G d = some c) (g : RG k m G H) (r : RD k.K m H d v) : TruV k.K v H c := by
  cases r with
  | non => cases e; rfl
  | bl b => cases e; rfl
  | int i => cases e; rfl
  | str x =>
    unfold D2.tru at e
    split at e <;> first | (rename_i q; cases q) | skip
    split at e
    · rename_i hl
      cases e
      exact ⟨hl, rfl⟩
    · cases e
  | ref hm =>
    rename_i i a
    unfold D2.tru at e
    dsimp only at e
    split at e
    · rename_i xs eg
      cases e
      obtain ⟨a', u, h1, h2, ys, rfl, h4⟩ := g.get eg
      rw [hm] at h1
      cases h1
      refine .inl ⟨ys, SqL.of h2, ?_⟩
      cases h4 <;> rfl
    · cases e
  | tup hq hr =>
    cases e
    refine .inr (.inl ⟨_, hq, ?_⟩)
    cases hr <;> rfl
  | rol hq hr =>
    cases e
    refine .inl ⟨_, hq.sq, ?_⟩
    cases hr <;> rfl
theorem jt_tru {e : Expr} {d : E} (h : JE X cl W e d) (he : ∀ whole, isTrue e X.env whole = (do let v ← whole; standAt e.pos; holding [v] (truthy v)) := by intro _; rfl) : JT X cl W e (tTru d) := by
  refine PT.imp (pt_truth h he) fun σ H Q h => ?_
  refine up.first (d := d) (f := fun τ x G1 => match tru G1 x with | some k => some (.ok k, G1) | none => none) h fun y H1 v G1 m1 τ s1 g1 r1 p1 => ?_
  split at p1
  · rename_i c e
    exact ⟨c, Post.tru e g1 r1, p1.out g1 rfl⟩
  · exact p1.elim
section
variable {ta tb : T} {rest : List Expr}
theorem jw_and1 (ha : JT X cl W a ta) : JW X cl W (.BoolOp .And [a] pos) ta := pw_and1 ha
theorem jw_or1 (ha : JT X cl W a ta) : JW X cl W (.BoolOp .Or [a] pos) ta := pw_or1 ha
theorem jw_and (ha : JT X cl W a ta) (hb : JW X cl W (.BoolOp .And (b :: rest) pos) tb) : JW X cl W (.BoolOp .And (a :: b :: rest) pos) (D2.tAnd ta tb) := by
  refine PW.imp (pw_and ha hb) fun σ H Q h => ?_
  refine up.first (d := ta) (f := fun τ k G1 => if k = true then tb τ G1 else some (.ok false, G1)) h fun y H1 v G1 m1 τ s1 g1 r1 p1 => ?_
  obtain rfl : v = y := r1
  cases v with
  | true => exact ⟨τ, G1, m1, s1, g1, p1⟩
  | false => exact p1.out g1 rfl
theorem jw_or (ha : JT X cl W a ta) (hb : JW X cl W (.BoolOp .Or (b :: rest) pos) tb) : JW X cl W (.BoolOp .Or (a :: b :: rest) pos) (D2.tOr ta tb) := by
  refine PW.imp (pw_or ha hb) fun σ H Q h => ?_
  refine up.first (d := ta) (f := fun τ k G1 => if k = true then some (.ok true, G1) else tb τ G1) h fun y H1 v G1 m1 τ s1 g1 r1 p1 => ?_
  obtain rfl : v = y := r1
  cases v with
  | true => exact p1.out g1 rfl
  | false => exact ⟨τ, G1, m1, s1, g1, p1⟩
theorem jt_w {t : T} {e : Expr} (h : JW X cl W e t) : JT X cl W e t := h.pt
theorem jt_not (ha : JT X cl W a ta) : JT X cl W (.UnaryOp .Not a pos) (D2.tNot ta) := by
  refine PT.imp (pt_not ha) fun σ H Q h => ?_
  refine up.first (d := ta) (f := fun τ k => ret (!k)) h fun y H1 v G1 m1 τ s1 g1 r1 p1 => ?_
  obtain rfl : v = y := r1
  exact p1.out g1 rfl
theorem je_if {t : T} (ht : JT X cl W c t) (ha : JE X cl W a da) (hb : JE X cl W b db) : JE X cl W (.IfExp c a b pos) (eIf t da db) := by
  refine PE.imp (pe_ifExp ht ha hb) fun σ H Q h => ?_
  refine up.first (d := t) (f := fun τ k G1 => if k = true then da τ G1 else db τ G1) h fun y H1 v G1 m1 τ s1 g1 r1 p1 => ?_
  obtain rfl : v = y := r1
  cases v with
  | true => exact ⟨τ, G1, m1, s1, g1, p1⟩
  | false => exact ⟨τ, G1, m1, s1, g1, p1⟩
end
section
variable {rest : List Expr}
theorem je_one {op : BoolOp} (h : JE X cl W a da) : JE X cl W (.BoolOp op [a] pos) da := pe_one h
theorem je_and (ha : JE X cl W a da) (hb : JE X cl W (.BoolOp .And (b :: rest) pos) db) : JE X cl W (.BoolOp .And (a :: b :: rest) pos) (eAnd da db) := by
  refine PE.imp (pe_andT ha hb) fun σ H Q h => ?_
  refine up.first (d := da) (f := fun τ x G1 => match tru G1 x with | some true => db τ G1 | some false => some (.ok x, G1) | none => none) h fun y H1 v G1 m1 τ s1 g1 r1 p1 => ?_
  split at p1
  · rename_i e
    exact ⟨true, Post.tru e g1 r1, iteT ⟨τ, G1, m1, s1, g1, p1⟩⟩
  · rename_i e
    exact ⟨false, Post.tru e g1 r1, iteF (p1.out g1 r1)⟩
  · exact p1.elim
theorem je_not (ha : JE X cl W a da) : JE X cl W (.UnaryOp .Not a pos) (eNot da) := by
  refine PE.imp (pe_notT ha) fun σ H Q h => ?_
  refine up.first (d := da) (f := fun τ x G1 => match tru G1 x with | some k => some (.ok (D.bl (!k)), G1) | none => none) h fun y H1 v G1 m1 τ s1 g1 r1 p1 => ?_
  split at p1
  · rename_i c e
    exact ⟨c, Post.tru e g1 r1, p1.out g1 (.bl _)⟩
  · exact p1.elim
end
section
variable {es : List Expr} {ds : As}
theorem ja_nil : JA X cl W [] aNil := PA.imp pa_nil fun σ H Q ⟨τ, G, m, s, g, p⟩ => p.out g .nil
theorem ja_cons (ha : JE X cl W a da) (hr : JA X cl W es ds) (hs : starEach (a :: es) X.env = (false, eval a X.env) :: starEach es X.env := by rfl) : JA X cl W (a :: es) (aCons da ds) := by
  refine PA.imp (pa_cons ha hr hs) fun σ H Q h => ?_
  refine up.first (d := da) (f := fun τ x G1 => bnd (ds τ G1) fun xs => ret (x :: xs)) h fun y H1 v G1 m1 τ s1 g1 r1 p1 => ?_
  exact ⟨τ, G1, m1, s1, g1, (Post.bnd (Rel := RDs X.K) p1).mono fun z H2 ⟨w, G2, m2, e2, g2, r2, p2⟩ => p2.out g2 (.cons (r1.ext e2) r2)⟩
theorem je_tup {x1 : Nat} (h : JA X cl W es ds) : JE X cl W (.Tuple es x1 pos) (eTup ds) := by
  refine PE.imp (pe_tup h) fun σ H Q h => ?_
  refine up.first (d := ds) (f := fun τ => mkT) h fun y H1 v G1 m1 τ s1 g1 r1 p1 => ?_
  unfold mkT at p1
  split at p1
  · rename_i hl
    refine ⟨by rw [← r1.length]; exact hl, fun q hq => ?_⟩
    exact p1 m1 _ _ (.lay hq) (g1.lay hq) (.tup (SqT.of upd_same) (r1.ext (.lay hq)))
  · exact p1.elim
theorem je_lst (h : JA X cl W es ds) : JE X cl W (.List es pos) (eLst ds) := by
  refine PE.imp (pe_lst h) fun σ H Q h => ?_
  refine up.first (d := ds) (f := fun τ => newL) h fun y H1 v G1 m1 τ s1 g1 r1 p1 => ?_
  unfold newL at p1
  split at p1
  · rename_i hl
    refine ⟨by rw [← r1.length]; exact hl, fun q hq => ?_⟩
    obtain ⟨g2, r2⟩ := g1.moreL (ds := v) hq r1
    exact p1 (m1 ++ [q]) _ _ (.more hq) g2 r2
  · exact p1.elim
end
end
end D2
end
section
set_option linter.all false
set_option autoImplicit false
set_option maxRecDepth 100000
namespace D2
open PySem PySem.Spec PyProof.Rows L2
section
variable {X : Cx} {cl : Nat → Option Addr} {W : WX} {a b c : Expr} {da db dc : E} {pos : Pos}
def rAddU (K : PySem.W.Frag) : R2 := fun x y H Q =>
  rI0 (fun i j => .int (i + j)) x y H Q ∨ (∃ i k, x = .int i ∧ y = .bl k ∧ Q (.int (i + b2i k)) H) ∨ (∃ i j, x = .str i ∧ y = .str j ∧ i.length + j.length ≤ sizeLine ∧ Q (.str (i ++ j)) H) ∨ rCatA K x y H Q ∨ rCat x y H Q
theorem op_addU : OpR X (binaryOp .Add) (rAddU X.K) := op_add.or (op_add_ib.or (op_add_str.or (op_catA.or op_cat)))
theorem sem_add : Sem2 X cl opAdd (rAddU X.K) := by
  intro W σ m H G x y v w Q g r1 r2 p
  cases r1 with
  | int i =>
    cases r2 with
    | int j => exact .inl ⟨i, j, rfl, rfl, p.out g (.int _)⟩
    | bl k => exact .inr (.inl ⟨i, k, rfl, rfl, p.out g (.int _)⟩)
    | _ => exact p.elim
  | str i =>
    cases r2 with
    | str j =>
      unfold opAdd at p
      dsimp only at p
      split at p
      · rename_i hl
        exact .inr (.inr (.inl ⟨i, j, rfl, rfl, hl, p.out g (.str _)⟩))
      · exact p.elim
    | _ => exact p.elim
  | @tup xs vs _ hq hr =>
    cases r2 with
    | @tup ys ws _ hq2 hr2 =>
      unfold opAdd at p
      dsimp only at p
      split at p
      · rename_i hl
        refine .inr (.inr (.inr (.inl ⟨_, _, vs, ws, rfl, rfl, hq, hq2, by rw [← hr.length, ← hr2.length]; exact hl, fun e => ?_, fun _ e => ?_, fun _ _ q hp => ?_⟩)))
        · subst e
          cases hr
          exact p.out g (.tup hq2 hr2)
        · subst e
          cases hr2
          rw [List.append_nil] at p
          exact p.out g (.tup hq hr)
        · exact p m _ _ (.lay hp) (g.lay hp) (.tup (SqT.of upd_same) ((hr.append hr2).ext (.lay hp)))
      · exact p.elim
    | _ => exact p.elim
  | @ref i a hm =>
    cases r2 with
    | @ref j b hm2 =>
      unfold opAdd at p
      dsimp only at p
      split at p
      · rename_i xs ys e1 e2
        obtain ⟨a', vs, h1, h2, h3⟩ := g.lst e1
        obtain ⟨b', ws, h4, h5, h6⟩ := g.lst e2
        rw [hm] at h1
        rw [hm2] at h4
        cases h1
        cases h4
        split at p
        · rename_i hl
          refine .inr (.inr (.inr (.inr ⟨_, _, vs, ws, rfl, rfl, h2, h5, by rw [← h3.length, ← h6.length]; exact hl, fun q hp => ?_⟩)))
          obtain ⟨g2, r2⟩ := g.moreL (ds := xs ++ ys) hp (h3.append h6)
          exact p (m ++ [q]) _ _ (.more hp) g2 r2
        · exact p.elim
      · exact p.elim
    | _ => exact p.elim
  | _ => exact p.elim
theorem je_add (ha : JE X cl W a da) (hb : JE X cl W b db) : JE X cl W (.BinOp a .Add b pos) (eOp2 opAdd da db) := je_op op_addU sem_add ha hb
theorem sem_sub : Sem2 X cl opSub (rI0 fun i j => .int (i - j)) := by
  intro W σ m H G x y v w Q g r1 r2 p
  cases r1 with
  | int i =>
    cases r2 with
    | int j => exact ⟨i, j, rfl, rfl, p.out g (.int _)⟩
    | _ => exact p.elim
  | _ => exact p.elim
theorem je_sub (ha : JE X cl W a da) (hb : JE X cl W b db) : JE X cl W (.BinOp a .Sub b pos) (eOp2 opSub da db) := je_op op_sub sem_sub ha hb
def rMulS : R2 := fun x y H Q => ∃ i k, x = .str i ∧ y = .int k ∧ MulOk i k ∧ Q (.str (Txt.mul i k)) H
theorem op_mulS : OpR X (binaryOp .Mult) rMulS := by
  intro pins s σ H x y v u Q I rx ry h
  obtain ⟨i, k, rfl, rfl, hk, q⟩ := h
  obtain ⟨t, rfl⟩ := rx
  obtain ⟨t', rfl⟩ := ry
  exact PySem.SB.mul hk fun t' n => ⟨.str _, H, I.tok n, ⟨t', rfl⟩, q⟩
theorem mulOk_of {i : Str} {k : Int} (h : i.length * k.toNat ≤ 65536) (h1 : -(2 ^ 63) ≤ k) (h2 : k < 2 ^ 63) : MulOk i k := by
  have ne : ∀ {P : Prop}, (k == 1 || i.length == 0) = false → (0 < i.length → P) → P := fun e f => by
    rw [Bool.or_eq_false_iff] at e
    have := e.2
    simp at this
    exact f (by omega)
  refine ⟨?_, fun h3 e => ne e fun hl q => ?_, fun h3 e => ne e fun hl => ?_⟩
  · rw [decide_eq_false (by omega), decide_eq_false (by omega)]; rfl
  · have hk : k.toNat ≤ i.length * k.toNat := Nat.le_mul_of_pos_left _ hl
    have hl2 : i.length ≤ i.length * k.toNat := Nat.le_mul_of_pos_right _ (by omega)
    have hk2 : k ≤ 65536 := by omega
    have h4 : (65536 : Int) ≤ (2 ^ 63 - 1) / k := by
      apply Int.le_ediv_of_mul_le (by omega)
      have : (65536 : Int) * k ≤ 65536 * 65536 := Int.mul_le_mul_of_nonneg_left hk2 (by decide)
      have h5 : (65536 : Int) * 65536 = 4294967296 := by decide
      omega
    omega
  · unfold Builtin.Str.tooLong
    have := sizeLine_eq
    rw [decide_eq_false_iff_not]
    omega
def rMulU : R2 := fun x y H Q => rI CMul (fun i j => .int (i * j)) x y H Q ∨ rMulS x y H Q ∨ rRep x y H Q
theorem op_mulU : OpR X (binaryOp .Mult) rMulU := op_mul.or (op_mulS.or op_rep)
theorem sem_mul : Sem2 X cl opMul rMulU := by
  intro W σ m H G x y v w Q g r1 r2 p
  cases r1 with
  | int i =>
    cases r2 with
    | int j =>
      unfold opMul at p
      dsimp only at p
      split at p
      · rename_i hl
        exact .inl ⟨i, j, rfl, rfl, hl, p.out g (.int _)⟩
      · exact p.elim
    | _ => exact p.elim
  | str i =>
    cases r2 with
    | int k =>
      unfold opMul at p
      dsimp only at p
      split at p
      · rename_i hl
        exact .inr (.inl ⟨i, k, rfl, rfl, mulOk_of hl.1 hl.2.1 hl.2.2, p.out g (.str _)⟩)
      · exact p.elim
    | _ => exact p.elim
  | @ref i a hm =>
    cases r2 with
    | int k =>
      unfold opMul at p
      dsimp only at p
      split at p
      · rename_i xs e1
        obtain ⟨a', vs, h1, h2, h3⟩ := g.lst e1
        rw [hm] at h1
        cases h1
        split at p
        · rename_i hl
          refine .inr (.inr ⟨_, k, vs, rfl, rfl, h2, hl.1, hl.2.1, by rw [← h3.length]; exact hl.2.2, fun q hp => ?_⟩)
          obtain ⟨g2, r2⟩ := g.moreL (ds := (List.replicate k.toNat xs).flatten) hp (h3.rep _)
          exact p (m ++ [q]) _ _ (.more hp) g2 r2
        · exact p.elim
      · exact p.elim
    | _ => exact p.elim
  | _ => exact p.elim
theorem je_mul (ha : JE X cl W a da) (hb : JE X cl W b db) : JE X cl W (.BinOp a .Mult b pos) (eOp2 opMul da db) := je_op op_mulU sem_mul ha hb
theorem sem_int {C : Int → Int → Prop} {B : Int → Int → Bool} {f : Int → Int → Int} (h : ∀ i j, B i j = true → C i j) : Sem2 X cl (opInt B f) (rI C fun i j => .int (f i j)) := by
  intro W σ m H G x y v w Q g r1 r2 p
  cases r1 with
  | int i =>
    cases r2 with
    | int j =>
      unfold opInt at p
      dsimp only at p
      split at p
      · rename_i hl
        exact ⟨i, j, rfl, rfl, h _ _ hl, p.out g (.int _)⟩
      · exact p.elim
    | _ => exact p.elim
  | _ => exact p.elim
theorem je_fdiv (ha : JE X cl W a da) (hb : JE X cl W b db) : JE X cl W (.BinOp a .FloorDiv b pos) (eOp2 opFdiv da db) := je_op op_fdivW (sem_int fun _ _ h => of_decide_eq_true h) ha hb
theorem je_mod (ha : JE X cl W a da) (hb : JE X cl W b db) : JE X cl W (.BinOp a .Mod b pos) (eOp2 opMod da db) := je_op op_mod (sem_int fun _ _ h => of_decide_eq_true h) ha hb
theorem je_neg (ha : JE X cl W a da) : JE X cl W (.UnaryOp .USub a pos) (eOp1 opNeg da) := by
  refine PE.imp (pe_un un_neg ha) fun σ H Q h => ?_
  refine up.first (d := da) (f := fun τ => opNeg) h fun y H1 v G1 m1 τ s1 g1 r1 p1 => ?_
  cases r1 with
  | int i => exact ⟨i, rfl, p1.out g1 (.int _)⟩
  | _ => exact p1.elim
theorem pyD_shape : ∀ {n : Nat} {G : Hd} {d : D} {p : PyData}, pyD n G d = some p → p.canLay0 = true ∧ p.depth ≤ n := by
  intro n
  induction n with
  | zero => intro G d p h; cases h
  | succ n ih =>
    have all : ∀ {G : Hd} {ds : List D} {ps : List PyData}, pyL (pyD n G) ds = some ps → PyData.canLayAll0 ps = true ∧ PyData.depthAll ps ≤ n := by
      intro G ds
      induction ds with
      | nil => intro ps h; cases h; exact ⟨rfl, Nat.zero_le _⟩
      | cons d ds ih2 =>
        intro ps h
        unfold pyL at h
        split at h
        · rename_i p qs e1 e2
          cases h
          obtain ⟨a1, a2⟩ := ih e1
          obtain ⟨b1, b2⟩ := ih2 e2
          exact ⟨by unfold PyData.canLayAll0; rw [a1, b1]; rfl, by unfold PyData.depthAll; omega⟩
        · cases h
    have wrap : ∀ {G : Hd} {ds : List D} {f : List PyData → PyData} {p : PyData}, (∀ ps, (f ps).canLay0 = PyData.canLayAll0 ps ∧ (f ps).depth = PyData.depthAll ps + 1) →
        (pyL (pyD n G) ds).map f = some p → p.canLay0 = true ∧ p.depth ≤ n + 1 := by
      intro G ds f p hf h
      cases e : pyL (pyD n G) ds with
      | none => rw [e] at h; cases h
      | some ps =>
        rw [e] at h
        cases h
        obtain ⟨a1, a2⟩ := all e
        obtain ⟨h1, h2⟩ := hf ps
        exact ⟨h1.trans a1, by rw [h2]; omega⟩
    intro G d p h
    unfold pyD at h
    cases d with
    | non => cases h; exact ⟨rfl, Nat.zero_le _⟩
    | bl b => cases h; exact ⟨rfl, Nat.zero_le _⟩
    | int i => cases h; exact ⟨rfl, Nat.zero_le _⟩
    | str x =>
      dsimp only at h
      split at h
      · rename_i e
        cases h
        exact ⟨e, Nat.zero_le _⟩
      · cases h
    | tup xs => exact wrap (f := .tuple) (fun ps => ⟨by simp only [PyData.canLay0], by simp only [PyData.depth]⟩) h
    | rol xs => exact wrap (f := .list) (fun ps => ⟨by simp only [PyData.canLay0], by simp only [PyData.depth]⟩) h
    | ref i =>
      dsimp only at h
      split at h
      · exact wrap (f := .list) (fun ps => ⟨by simp only [PyData.canLay0], by simp only [PyData.depth]⟩) h
      · cases h
theorem pyD_ok {G : Hd} {d : D} {p : PyData} (h : pyD 64 G d = some p) : SeqAt.shaped p = true := by
  obtain ⟨h1, h2⟩ := pyD_shape h
  unfold SeqAt.shaped
  rw [h1, decide_eq_true h2]
  rfl
theorem RD.py {k : Kit} {m : List Addr} {G : Hd} {H : Hp} (g : RG k m G H) : ∀ {n : Nat} {d : D} {v : V} {p : PyData}, RD k.K m H d v → pyD n G d = some p → Dp k.K H v p := by
  intro n
  induction n with
  | zero => intro d v p _ h; cases h
  | succ n ih =>
    have all : ∀ {ds : List D} {vs : List V} {ps : List PyData}, RDs k.K m H ds vs → pyL (pyD n G) ds = some ps → DpAll k.K H vs ps := by
      intro ds
      induction ds with
      | nil => intro vs ps r h; cases h; cases r; exact .nil
      | cons d ds ih2 =>
        intro vs ps r h
        unfold pyL at h
        split at h
        · rename_i p qs e1 e2
          cases h
          cases r with
          | cons r1 r2 => exact .cons (ih r1 e1) (ih2 r2 e2)
        · cases h
    intro d v p r h
    unfold pyD at h
    cases r with
    | non => cases h; exact .non
    | bl b => cases h; exact .bl b
    | int i => cases h; exact .int i
    | str x =>
      dsimp only at h
      split at h
      · cases h; exact .str x
      · cases h
    | tup hq hr =>
      dsimp only at h
      rename_i xs ys a
      cases e : pyL (pyD n G) xs with
      | none => rw [e] at h; cases h
      | some ps => rw [e] at h; cases h; exact .tup hq (all hr e)
    | rol hq hr =>
      dsimp only at h
      rename_i xs ys a
      cases e : pyL (pyD n G) xs with
      | none => rw [e] at h; cases h
      | some ps => rw [e] at h; cases h; exact .lst hq.sq (all hr e)
    | @ref i a hm =>
      dsimp only at h
      split at h
      · rename_i xs e0
        obtain ⟨a', ys, h1, h2, h3⟩ := (RD.ref (K := k.K) (H := H) hm).listOf g e0
        cases h1
        cases e : pyL (pyD n G) xs with
        | none => rw [e] at h; cases h
        | some ps => rw [e] at h; cases h; exact .lst h2 (all h3 e)
      · cases h
theorem sem_eq : Sem2 X cl cEq (rEqD X.K) := by
  intro W σ m H G x y v w Q g r1 r2 p
  unfold cEq at p
  split at p
  · rename_i a b e1 e2
    exact ⟨a, b, r1.py g e1, r2.py g e2, pyD_ok e1, pyD_ok e2, p.out g (.bl _)⟩
  · exact p.elim
theorem sem_ne : Sem2 X cl cNe (rNeD X.K) := by
  intro W σ m H G x y v w Q g r1 r2 p
  unfold cNe at p
  split at p
  · rename_i a b e1 e2
    exact ⟨a, b, r1.py g e1, r2.py g e2, pyD_ok e1, pyD_ok e2, p.out g (.bl _)⟩
  · exact p.elim
section
variable {kk : Nat} (hr : Room kk X.A)
include hr
theorem je_eq (ha : JE X cl W a da) (hb : JE X cl W b db) : JE X cl W (.Compare a [.Eq] [b] pos) (eOp2 cEq da db) := je_cmp (op_eqD hr.units) sem_eq ha hb (nomark _)
theorem jt_eq (ha : JE X cl W a da) (hb : JE X cl W b db) : JT X cl W (.Compare a [.Eq] [b] pos) (tBl (eOp2 cEq da db)) := jt_cmp (op_eqD hr.units) sem_eq ha hb (nomark _)
theorem jt_ne (ha : JE X cl W a da) (hb : JE X cl W b db) : JT X cl W (.Compare a [.NotEq] [b] pos) (tBl (eOp2 cNe da db)) := jt_cmp (op_neD hr.units) sem_ne ha hb (nomark _)
end
def rOrd (f : Int → Int → Bool) (g : Str → Str → Bool) : R2 := fun x y H Q => rI0 (fun i j => .bl (f i j)) x y H Q ∨ (∃ i j, x = .str i ∧ y = .str j ∧ Q (.bl (g i j)) H) ∨ (∃ i j, x = .bl i ∧ y = .bl j ∧ Q (.bl (f (b2i i) (b2i j))) H)
theorem sem_ord {f : Int → Int → Bool} {h : Str → Str → Bool} : Sem2 X cl (cOrd f h) (rOrd f h) := by
  intro W σ m H G x y v w Q g r1 r2 p
  cases r1 with
  | int i =>
    cases r2 with
    | int j => exact .inl ⟨i, j, rfl, rfl, p.out g (.bl _)⟩
    | _ => exact p.elim
  | str i =>
    cases r2 with
    | str j => exact .inr (.inl ⟨i, j, rfl, rfl, p.out g (.bl _)⟩)
    | _ => exact p.elim
  | bl i =>
    cases r2 with
    | bl j => exact .inr (.inr ⟨i, j, rfl, rfl, p.out g (.bl _)⟩)
    | _ => exact p.elim
  | _ => exact p.elim
theorem op_lt_bl : OpR X (compareOp .Lt) (fun x y H Q => ∃ i j, x = .bl i ∧ y = .bl j ∧ Q (.bl (decide (b2i i < b2i j))) H) := by
  intro pins s σ H x y v u Q I rx ry h
  obtain ⟨i, j, rfl, rfl, q⟩ := h
  cases rx
  cases ry
  exact lt_bool (fin_bl I q rfl)
theorem op_le_bl : OpR X (compareOp .LtE) (fun x y H Q => ∃ i j, x = .bl i ∧ y = .bl j ∧ Q (.bl (decide (b2i i ≤ b2i j))) H) := by
  intro pins s σ H x y v u Q I rx ry h
  obtain ⟨i, j, rfl, rfl, q⟩ := h
  cases rx
  cases ry
  exact le_bool (fin_bl I q rfl)
theorem op_gt_bl : OpR X (compareOp .Gt) (fun x y H Q => ∃ i j, x = .bl i ∧ y = .bl j ∧ Q (.bl (decide (b2i j < b2i i))) H) := by
  intro pins s σ H x y v u Q I rx ry h
  obtain ⟨i, j, rfl, rfl, q⟩ := h
  cases rx
  cases ry
  exact gt_bool (fin_bl I q rfl)
theorem op_ltU : OpR X (compareOp .Lt) (rOrd (fun i j => decide (i < j)) fun i j => decide (i.cps.toList < j.cps.toList)) := op_lt.or (op_lt_str.or op_lt_bl)
theorem op_leU : OpR X (compareOp .LtE) (rOrd (fun i j => decide (i ≤ j)) fun i j => !decide (j.cps.toList < i.cps.toList)) := op_le.or (op_le_str.or op_le_bl)
theorem op_gtU : OpR X (compareOp .Gt) (rOrd (fun i j => decide (j < i)) fun i j => decide (j.cps.toList < i.cps.toList)) := op_gt.or (op_gt_str.or op_gt_bl)
theorem jt_lt (ha : JE X cl W a da) (hb : JE X cl W b db) : JT X cl W (.Compare a [.Lt] [b] pos) (tBl (eOp2 cLt da db)) := jt_cmp op_ltU sem_ord ha hb (nomark _)
theorem je_le (ha : JE X cl W a da) (hb : JE X cl W b db) : JE X cl W (.Compare a [.LtE] [b] pos) (eOp2 cLe da db) := je_cmp op_leU sem_ord ha hb (nomark _)
theorem jt_gt (ha : JE X cl W a da) (hb : JE X cl W b db) : JT X cl W (.Compare a [.Gt] [b] pos) (tBl (eOp2 cGt da db)) := jt_cmp op_gtU sem_ord ha hb (nomark _)
theorem up_chain {f h : D → D → M D} {r r' : R2} (hs : Sem2 X cl f r) (hs' : Sem2 X cl h r') {σ : L2.St} {H : Hp} {Q : VK} (h0 : upE (kt X cl) W (eChain f h da db dc) σ H Q) :
    tChain r r' (upE (kt X cl) W da) (upE (kt X cl) W db) (upE (kt X cl) W dc) σ H Q := by
  refine up.first (d := da) (f := fun τ x G1 => bnd (db τ G1) fun y G2 => bnd (f x y G2) fun z G3 => match z with | .bl true => bnd (dc τ G3) fun w => h y w | .bl false => some (.ok (D.bl false), G3) | _ => none) h0 fun y H1 v G1 m1 τ s1 g1 r1 p1 => ?_
  refine ⟨τ, G1, m1, s1, g1, (Post.bnd (Rel := RD X.K) p1).mono fun z H2 ⟨w, G2, m2, e2, g2, r2, p2⟩ => ?_⟩
  have s2 := s1.ext e2
  refine hs W σ m2 H2 G2 v w y z _ g2 (r1.ext e2) r2 ((Post.bnd (Rel := RD X.K) p2).mono fun u H3 ⟨q, G3, m3, e3, g3, r3, p3⟩ => ?_)
  cases r3 with
  | bl k =>
    refine ⟨k, rfl, ?_⟩
    cases k with
    | true => exact iteT ⟨τ, G3, m3, s2.ext e3, g3, (Post.bnd (Rel := RD X.K) p3).mono fun u4 H4 ⟨q4, G4, m4, e4, g4, r4, p4⟩ => hs' W σ m4 H4 G4 w q4 z u4 Q g4 (r2.ext (e3.trans e4)) r4 p4⟩
    | false => exact iteF (p3.out g3 (.bl _))
  | _ => exact p3.elim
theorem jt_chain {op op' : CmpOp} {f h : D → D → M D} {r r' : R2} (ho : OpR X (compareOp op) r) (ho' : OpR X (compareOp op') r') (hs : Sem2 X cl f r) (hs' : Sem2 X cl h r') (ha : JE X cl W a da) (hb : JE X cl W b db) (hc : JE X cl W c dc)
    (hm : lastMarks [op, op'] [b, c] = false := by with_unfolding_all rfl) : JT X cl W (.Compare a [op, op'] [b, c] pos) (tBl (eChain f h da db dc)) := by
  refine PT.imp (pt_chain ho ho' ha hb hc hm) fun σ H Q q => ?_
  have h2 : upE (kt X cl) W (eChain f h da db dc) σ H (fun x H' => ∃ k, x = .bl k ∧ Q k H') :=
    up.first (d := eChain f h da db dc) (f := fun τ x => D2.asB x) q fun y H1 v G1 m1 τ s1 g1 r1 p1 => p1.asB g1 r1
  exact up_chain hs hs' h2
end
end D2
end
section
set_option linter.all false
set_option autoImplicit false
set_option maxRecDepth 100000
namespace D2
open PySem PySem.Spec PyProof.Rows L2
section
variable {X : Cx} {cl : Nat → Option Addr} {W : WX} {a b c : Expr} {da db dc : E} {pos : Pos}
theorem RD.fl {K : PySem.W.Frag} {m : List Addr} {H : Hp} {d : D} {v w : V} (r : RD K m H d v) (h : flD d = some w) : v = w ∧ flatV w = true := by
  cases r <;> cases h <;> exact ⟨rfl, rfl⟩
theorem RDs.fl {K : PySem.W.Frag} {m : List Addr} {H : Hp} : ∀ {ds : List D} {vs ws : List V}, RDs K m H ds vs → flDs ds = some ws → vs = ws ∧ ws.all flatV = true
  | _, _, _, .nil, h => by cases h; exact ⟨rfl, rfl⟩
  | d :: ds, _, ws, .cons r rr, h => by
    unfold flDs at h
    split at h
    · rename_i v vs e1 e2
      cases h
      obtain ⟨h1, h2⟩ := r.fl e1
      obtain ⟨h3, h4⟩ := RDs.fl rr e2
      subst h1 h3
      exact ⟨rfl, by rw [List.all_cons, h2, h4]; rfl⟩
    · cases h
def rInU (K : PySem.W.Frag) : R2 := fun x y H Q => (∃ i j, x = .str i ∧ y = .str j ∧ Q (.bl (!(Builtin.Str.occurrences j i 0 j.length 1).isEmpty)) H) ∨ rIn K false x y H Q ∨ rInD K x y H Q
def rNotInU (K : PySem.W.Frag) : R2 := fun x y H Q => (∃ i j, x = .str i ∧ y = .str j ∧ Q (.bl (!(!(Builtin.Str.occurrences j i 0 j.length 1).isEmpty))) H) ∨ rIn K true x y H Q ∨ rNotInD K x y H Q
theorem in_cases {m : List Addr} {H : Hp} {G : Hd} {x y : D} {v w : V} {k : Bool} (g : RG (kt X cl) m G H) (r1 : RD X.K m H x v) (r2 : RD X.K m H y w) (h : cInB x y G = some k) :
    (∃ i j, v = .str i ∧ w = .str j ∧ k = !(Builtin.Str.occurrences j i 0 j.length 1).isEmpty) ∨
      (∃ p xs, w = .ref p ∧ (SqL X.K H p xs ∨ SqT X.K H p xs) ∧ flatV v = true ∧ xs.all flatV = true ∧ k = inV v xs) ∨
      ∃ d ds, Dp X.K H v d ∧ Dp X.K H w (.list ds) ∧ SeqAt.shaped d = true ∧ SeqAt.shaped (.list ds) = true ∧ k = ds.any fun z => PyData.eqv z d := by
  have flat : ∀ {ys : List D} {v' : V} {vs : List V}, D2.seqOf G y = some ys → flD x = some v' → flDs ys = some vs →
      ∃ p xs, w = .ref p ∧ (SqL X.K H p xs ∨ SqT X.K H p xs) ∧ flatV v = true ∧ xs.all flatV = true ∧ inV v' vs = inV v xs := by
    intro ys v' vs e e1 e2
    obtain ⟨p, xs, rfl, hq, hr⟩ := r2.seqOf g e
    obtain ⟨rfl, h2⟩ := r1.fl e1
    obtain ⟨rfl, h4⟩ := hr.fl e2
    exact ⟨p, _, rfl, hq, h2, h4, rfl⟩
  unfold cInB at h
  cases r2 with
  | str s =>
    cases r1 with
    | str t => cases h; exact .inl ⟨t, s, rfl, rfl, rfl⟩
    | _ => cases h
  | @tup xs vs q hq hr =>
    dsimp only [D2.seqOf] at h
    split at h
    · rename_i e1 e2
      cases h
      obtain ⟨p, xs, h1, h2, h3, h4, h5⟩ := flat rfl e1 e2
      exact .inr (.inl ⟨p, xs, h1, h2, h3, h4, h5⟩)
    · cases h
  | @rol xs vs q hq hr =>
    dsimp only [D2.seqOf, D2.listOf] at h
    split at h
    · rename_i e1 e2
      cases h
      obtain ⟨p, xs, h1, h2, h3, h4, h5⟩ := flat rfl e1 e2
      exact .inr (.inl ⟨p, xs, h1, h2, h3, h4, h5⟩)
    · cases h
  | @ref i q hm =>
    dsimp only at h
    split at h
    · cases h
    · rename_i ys e
      split at h
      · rename_i e1 e2
        cases h
        obtain ⟨p, xs, h1, h2, h3, h4, h5⟩ := flat e e1 e2
        exact .inr (.inl ⟨p, xs, h1, h2, h3, h4, h5⟩)
      · split at h
        · rename_i p ps e1 e2
          cases h
          have e3 : pyD 64 G (.ref i) = some (.list ps) := by
            unfold pyD
            have e4 : D2.listOf G (.ref i) = some ys := e
            dsimp only
            rw [e4]
            dsimp only
            rw [e2]
            rfl
          exact .inr (.inr ⟨p, ps, r1.py g e1, (RD.ref (K := X.K) (H := H) hm).py (k := kt X cl) g e3, pyD_ok e1, pyD_ok e3, rfl⟩)
        · cases h
  | _ => cases h
theorem sem_in : Sem2 X cl cIn (rInU X.K) := by
  intro W σ m H G x y v w Q g r1 r2 p
  unfold cIn at p
  split at p
  · rename_i k e
    have q := p.out g (.bl k)
    rcases in_cases (X := X) g r1 r2 e with ⟨i, j, h1, h2, h3⟩ | ⟨q1, xs, h1, h2, h3, h4, h5⟩ | ⟨d, ds, h1, h2, h3, h4, h5⟩
    · exact .inl ⟨i, j, h1, h2, by rw [← h3]; exact q⟩
    · exact .inr (.inl ⟨q1, xs, h1, h2, h3, h4, by rw [if_neg Bool.false_ne_true, ← h5]; exact q⟩)
    · exact .inr (.inr ⟨d, ds, h1, h2, h3, h4, by rw [← h5]; exact q⟩)
  · exact p.elim
theorem sem_notIn : Sem2 X cl cNotIn (rNotInU X.K) := by
  intro W σ m H G x y v w Q g r1 r2 p
  unfold cNotIn at p
  split at p
  · rename_i k e
    have q := p.out g (.bl (!k))
    rcases in_cases (X := X) g r1 r2 e with ⟨i, j, h1, h2, h3⟩ | ⟨q1, xs, h1, h2, h3, h4, h5⟩ | ⟨d, ds, h1, h2, h3, h4, h5⟩
    · exact .inl ⟨i, j, h1, h2, by rw [← h3]; exact q⟩
    · exact .inr (.inl ⟨q1, xs, h1, h2, h3, h4, by rw [if_pos rfl, ← h5]; exact q⟩)
    · exact .inr (.inr ⟨d, ds, h1, h2, h3, h4, by rw [← h5]; exact q⟩)
  · exact p.elim
section
variable {kk : Nat} (hr : Room kk X.A)
include hr
theorem op_inU : OpR X (compareOp .In) (rInU X.K) := op_in_str.or (op_in_seq.or (op_inD (Nat.lt_of_le_of_lt (by omega) (show X.A.units + 200 < cLine by have := hr.un; omega))))
theorem op_notInU : OpR X (compareOp .NotIn) (rNotInU X.K) := op_notin_str.or (op_notIn_seq.or (op_notInD (Nat.lt_of_le_of_lt (by omega) (show X.A.units + 200 < cLine by have := hr.un; omega))))
theorem je_in (ha : JE X cl W a da) (hb : JE X cl W b db) (hm : behindInMarks .In b = false := by rfl) : JE X cl W (.Compare a [.In] [b] pos) (eOp2 cIn da db) := je_cmp (op_inU hr) sem_in ha hb hm
theorem jt_in (ha : JE X cl W a da) (hb : JE X cl W b db) (hm : behindInMarks .In b = false := by rfl) : JT X cl W (.Compare a [.In] [b] pos) (tBl (eOp2 cIn da db)) := jt_cmp (op_inU hr) sem_in ha hb hm
theorem jt_notIn (ha : JE X cl W a da) (hb : JE X cl W b db) (hm : behindInMarks .NotIn b = false := by rfl) : JT X cl W (.Compare a [.NotIn] [b] pos) (tBl (eOp2 cNotIn da db)) := jt_cmp (op_notInU hr) sem_notIn ha hb hm
end
theorem RD.isNon {K : PySem.W.Frag} {m : List Addr} {H : Hp} {d : D} {v : V} (r : RD K m H d v) : decide (v = .non) = D2.isNon d := by
  cases r <;> simp [D2.isNon]
theorem sem_is : Sem2 X cl cIs (fun x y H Q => y = .non ∧ Q (.bl (decide (x = .non))) H) := by
  intro W σ m H G x y v w Q g r1 r2 p
  cases r2 with
  | non =>
    refine ⟨rfl, ?_⟩
    rw [r1.isNon]
    exact p.out g (.bl _)
  | _ => exact p.elim
theorem sem_isNot : Sem2 X cl cIsNot (fun x y H Q => y = .non ∧ Q (.bl (!decide (x = .non))) H) := by
  intro W σ m H G x y v w Q g r1 r2 p
  cases r2 with
  | non =>
    refine ⟨rfl, ?_⟩
    rw [r1.isNon]
    exact p.out g (.bl _)
  | _ => exact p.elim
theorem je_is (ha : JE X cl W a da) (hb : JE X cl W b db) : JE X cl W (.Compare a [.Is] [b] pos) (eOp2 cIs da db) := je_cmp op_isN sem_is ha hb (nomark _)
theorem jt_is (ha : JE X cl W a da) (hb : JE X cl W b db) : JT X cl W (.Compare a [.Is] [b] pos) (tBl (eOp2 cIs da db)) := jt_cmp op_isN sem_is ha hb (nomark _)
theorem je_isNot (ha : JE X cl W a da) (hb : JE X cl W b db) : JE X cl W (.Compare a [.IsNot] [b] pos) (eOp2 cIsNot da db) := je_cmp op_notN sem_isNot ha hb (nomark _)
theorem atI_rd {K : PySem.W.Frag} {m : List Addr} {H : Hp} {ds : List D} {vs : List V} {k : Int} {d : D} (r : RDs K m H ds vs) (h : atI ds k = some d) : ∃ v, atI vs k = some v ∧ RD K m H d v := by
  unfold atI at h ⊢
  rw [← r.length]
  cases e : ixN ds.length k with
  | none => rw [e] at h; cases h
  | some j =>
    rw [e] at h
    exact r.get h
theorem sem_at : Sem2 X cl atD (rIx X.K) := by
  intro W σ m H G x y v w Q g r1 r2 p
  cases r2 with
  | int k =>
    have seq : ∀ {xs : List D}, D2.seqOf G x = some xs → Post (kt X cl) (RD X.K) W σ m H (match D2.seqOf G x with
        | some xs => match atI xs k with
          | some v => some (R.ok v, G)
          | none => none
        | none => none) Q → rIx X.K v (.int k) H Q := fun {xs} e p => by
      rw [e] at p
      dsimp only at p
      split at p
      · rename_i d e2
        obtain ⟨q, vs, rfl, hq, hr⟩ := r1.seqOf g e
        obtain ⟨z, h1, h2⟩ := atI_rd hr e2
        rcases hq with hq | hq
        · exact .inl ⟨q, vs, k, z, rfl, rfl, hq, h1, p.out g h2⟩
        · exact .inr (.inl ⟨q, vs, k, z, rfl, rfl, hq, h1, p.out g h2⟩)
      · exact p.elim
    unfold atD at p
    dsimp only at p
    cases r1 with
    | str z =>
      dsimp only at p
      split at p
      · rename_i hl
        split at p
        · rename_i c e
          exact .inr (.inr ⟨z, k, c, rfl, rfl, hl, e, p.out g (.str _)⟩)
        · exact p.elim
      · exact p.elim
    | tup hq hr => exact seq rfl p
    | rol hq hr => exact seq rfl p
    | @ref i a hm =>
      dsimp only at p
      cases e : D2.seqOf G (.ref i) with
      | none => rw [e] at p; exact p.elim
      | some xs => exact seq e p
    | _ => exact p.elim
  | _ =>
    unfold atD at p
    exact p.elim
theorem je_ix (ha : JE X cl W a da) (hb : JE X cl W b db) (hs : PlainIx b := by exact fun _ _ => rfl) : JE X cl W (.Subscript a b pos) (eOp2 atD da db) := PE.imp (pe_ix ix_seq ha hb hs) fun _ _ _ h => up_op2 sem_at h
abbrev JO (X : Cx) (cl : Nat → Option Addr) (W : WX) (e : Option Expr) (d : Sd → M (Option Int)) : Prop := PO X e (up (kt X cl) (fun _ _ a b => a = b) W d)
theorem PO.imp {X : Cx} {e : Option Expr} {t t' : TO} (h : PO X e t) (i : ∀ σ H Q, t' σ H Q → t σ H Q) : PO X e t' := ⟨fun pins s σ H Q I hw => h.run pins s σ H Q I (i σ H Q hw)⟩
theorem jo_none : JO X cl W none oNone := PO.imp po_none fun σ H Q ⟨τ, G, m, s, g, p⟩ => p.out g rfl
theorem jo_some (h : JE X cl W a da) : JO X cl W (some a) (oSome da) := by
  refine PO.imp (po_some h) fun σ H Q h => ?_
  refine up.first (d := da) (f := fun τ x => match x with | .int i => ret (some i) | _ => fun _ => none) h fun y H1 v G1 m1 τ s1 g1 r1 p1 => ?_
  cases r1 with
  | int i => exact ⟨i, rfl, p1.out g1 rfl⟩
  | _ => exact p1.elim
theorem cut_rd {K : PySem.W.Frag} {m : List Addr} {H : Hp} {ds : List D} {vs : List V} {lo hi : Option Int} (r : RDs K m H ds vs) : RDs K m H (cutD ds lo hi) (cutV vs lo hi) := by
  unfold cutD cutV
  rw [← r.length]
  exact (r.drop _).take _
theorem cutD_whole {ds : List D} {lo hi : Option Int} (h : HT.sIx ds.length 0 lo = 0 ∧ HT.sIx ds.length ds.length hi = ds.length) : cutD ds lo hi = ds := by
  unfold cutD
  rw [h.1, h.2]
  simp
def rSlU (K : PySem.W.Frag) : V → Option Int → Option Int → Hp → VK → Prop := fun x lo hi H Q => rSlL K x lo hi H Q ∨ rSlA K x lo hi H Q ∨ rSlS x lo hi H Q
theorem sl_U : SlR X (rSlU X.K) := sl_list.or (sl_tupA.or sl_str)
theorem sem_sl {σ : L2.St} {m : List Addr} {H : Hp} {G : Hd} {x : D} {v : V} {lo hi : Option Int} {Q : VK} (g : RG (kt X cl) m G H) (r1 : RD X.K m H x v) (p : Post (kt X cl) (RD X.K) W σ m H (slD x lo hi G) Q) : rSlU X.K v lo hi H Q := by
  unfold slD at p
  cases r1 with
  | str z =>
    dsimp only at p
    split at p
    · rename_i hl
      exact .inr (.inr ⟨z, rfl, hl, p.out g (.str _)⟩)
    · exact p.elim
  | @tup xs vs q hq hr =>
    refine .inr (.inl ⟨q, vs, rfl, hq, fun hw => ?_, fun hw q2 hp => ?_⟩)
    · rw [← hr.length] at hw
      dsimp only at p
      rw [cutD_whole hw] at p
      exact p.out g (.tup hq hr)
    · exact p m _ _ (.lay hp) (g.lay hp) (.tup (SqT.of upd_same) ((cut_rd hr).ext (.lay hp)))
  | @ref i q hm =>
    dsimp only at p
    split at p
    · rename_i xs e
      obtain ⟨q', vs, h1, h2, h3⟩ := g.lst e
      rw [hm] at h1
      cases h1
      refine .inl ⟨_, vs, rfl, SqL.of h2, fun q2 hp => ?_⟩
      obtain ⟨g2, r2⟩ := g.moreL (ds := cutD xs lo hi) hp (cut_rd h3)
      exact p (m ++ [q2]) _ _ (.more hp) g2 r2
    · exact p.elim
  | _ => exact p.elim
theorem je_slice {lo hi : Option Expr} {dl dh : Sd → M (Option Int)} {p2 : Pos} (ha : JE X cl W a da) (hl : JO X cl W lo dl) (hh : JO X cl W hi dh) : JE X cl W (.Subscript a (.Slice lo hi none p2) pos) (eSl da dl dh) := by
  refine PE.imp (pe_slice sl_U ha hl hh) fun σ H Q h => ?_
  refine up.first (d := da) (f := fun τ x G1 => bnd (dl τ G1) fun l G2 => bnd (dh τ G2) fun h => slD x l h) h fun y H1 v G1 m1 τ s1 g1 r1 p1 => ?_
  refine ⟨τ, G1, m1, s1, g1, (Post.bnd (Rel := fun _ _ a b => a = b) p1).mono fun z H2 ⟨w, G2, m2, e2, g2, r2, p2⟩ => ?_⟩
  refine ⟨τ, G2, m2, s1.ext e2, g2, (Post.bnd (Rel := fun _ _ a b => a = b) p2).mono fun u H3 ⟨q, G3, m3, e3, g3, r3, p3⟩ => ?_⟩
  obtain rfl : w = z := r2
  obtain rfl : q = u := r3
  exact sem_sl g3 (r1.ext (e2.trans e3)) p3
def Sem1 (X : Cx) (cl : Nat → Option Addr) (f : D → M D) (r : V → Hp → VK → Prop) : Prop :=
  ∀ (W : WX) (σ : L2.St) (m : List Addr) (H : Hp) (G : Hd) (x : D) (v : V) (Q : VK), RG (kt X cl) m G H → RD X.K m H x v → Post (kt X cl) (RD X.K) W σ m H (f x G) Q → r v H Q
theorem up_args1 {f : D → M D} {r : List V → Hp → VK → Prop} (hs : Sem1 X cl f fun v => r [v]) {σ : L2.St} {H : Hp} {Q : VK} (h : upE (kt X cl) W (eOp1 f da) σ H Q) : tCB r (tCons (upE (kt X cl) W da) tNil) σ H Q :=
  up.first (d := da) (f := fun τ => f) h fun y H1 v G1 m1 τ s1 g1 r1 p1 => hs W σ m1 H1 G1 v y Q g1 r1 p1
theorem up_args2 {f : D → D → M D} {r : List V → Hp → VK → Prop} (hs : Sem2 X cl f fun v w => r [v, w]) {σ : L2.St} {H : Hp} {Q : VK} (h : upE (kt X cl) W (eOp2 f da db) σ H Q) : tCB r (tCons (upE (kt X cl) W da) (tCons (upE (kt X cl) W db) tNil)) σ H Q := up_op2 (r := fun v w => r [v, w]) hs h
section
variable {x : Str} {p : Pos} {id T : String} {r : List V → Hp → VK → Prop} {f1 : D → M D} {f2 : D → D → M D}
theorem je_b1 (hc : CallR X (.builtin id) r) (hs : Sem1 X cl f1 fun v => r [v]) (hg : Gl X x) (hm : X.mg x = none) (hv : bootBuiltins x = some (.builtin id)) (ha : JE X cl W a da) (hn : x ≠ "__name__" := by decide) (hdb : (x == ("__debug__" : Str)) = false := by decide)
    (hs1 : starEach [a] X.env = (false, eval a X.env) :: starEach [] X.env := by rfl) (hpl : (backTo pos (starEach [] X.env)).any (·.1) = false := by rfl) : JE X cl W (.Call (.Name x p) [a] [] pos) (eOp1 f1 da) :=
  PE.imp (pe_callB hc hg hm hv (pa_cons ha pa_nil hs1) hn hdb hs1 hpl) fun _ _ _ h => up_args1 hs h
theorem je_t1 (hc : CallR X (.type T) r) (hs : Sem1 X cl f1 fun v => r [v]) (hg : Gl X x) (hm : X.mg x = none) (hv : bootBuiltins x = some (.type T)) (ha : JE X cl W a da) (hn : x ≠ "__name__" := by decide) (hdb : (x == ("__debug__" : Str)) = false := by decide)
    (hs1 : starEach [a] X.env = (false, eval a X.env) :: starEach [] X.env := by rfl) (hpl : (backTo pos (starEach [] X.env)).any (·.1) = false := by rfl) : JE X cl W (.Call (.Name x p) [a] [] pos) (eOp1 f1 da) :=
  PE.imp (pe_callTy hc hg hm hv (pa_cons ha pa_nil hs1) hn hdb hs1 hpl) fun _ _ _ h => up_args1 hs h
theorem je_b2 (hc : CallR X (.builtin id) r) (hs : Sem2 X cl f2 fun v w => r [v, w]) (hg : Gl X x) (hm : X.mg x = none) (hv : bootBuiltins x = some (.builtin id)) (ha : JE X cl W a da) (hb : JE X cl W b db) (hn : x ≠ "__name__" := by decide) (hdb : (x == ("__debug__" : Str)) = false := by decide)
    (hs2 : starEach [a, b] X.env = (false, eval a X.env) :: starEach [b] X.env := by rfl) (hs1 : starEach [b] X.env = (false, eval b X.env) :: starEach [] X.env := by rfl) (hpl : (backTo pos (starEach [b] X.env)).any (·.1) = false := by rfl) : JE X cl W (.Call (.Name x p) [a, b] [] pos) (eOp2 f2 da db) :=
  PE.imp (pe_callB hc hg hm hv (pa_cons ha (pa_cons hb pa_nil hs1) hs2) hn hdb hs2 hpl) fun _ _ _ h => up_args2 hs h
end
end
end D2
end
section
set_option linter.all false
set_option autoImplicit false
set_option maxRecDepth 100000
namespace D2
open PySem PySem.Spec PyProof.Rows L2
section
variable {X : Cx} {cl : Nat → Option Addr} {W : WX} {a b c : Expr} {da db dc : E} {pos p : Pos}
theorem sem_len : Sem1 X cl fLen fun v H Q => ∃ x n, [v] = [x] ∧ LenV X.K x H n ∧ Q (.int n) H := by
  intro W σ m H G x v Q g r1 p
  unfold fLen at p
  cases r1 with
  | str z =>
    dsimp only at p
    split at p
    · rename_i hl
      exact ⟨_, _, rfl, ⟨hl, rfl⟩, p.out g (.int _)⟩
    · exact p.elim
  | @tup xs vs q hq hr => exact ⟨_, vs.length, rfl, .inr ⟨_, hq, rfl⟩, by rw [← hr.length]; exact p.out g (.int _)⟩
  | @rol xs vs q hq hr => exact ⟨_, vs.length, rfl, .inl ⟨_, hq.sq, rfl⟩, by rw [← hr.length]; exact p.out g (.int _)⟩
  | @ref i q hm =>
    dsimp only at p
    split at p
    · rename_i xs e
      obtain ⟨q', vs, h1, h2, h3⟩ := (RD.ref (K := X.K) (H := H) hm).listOf (k := kt X cl) g e
      cases h1
      exact ⟨_, vs.length, rfl, .inl ⟨_, h2, rfl⟩, by rw [← h3.length]; exact p.out g (.int _)⟩
    · exact p.elim
  | _ => exact p.elim
theorem je_len (hg : Gl X "len") (hm : X.mg "len" = none) (ha : JE X cl W a da) (hs1 : starEach [a] X.env = (false, eval a X.env) :: starEach [] X.env := by rfl) : JE X cl W (.Call (.Name "len" p) [a] [] pos) (eOp1 fLen da) :=
  je_b1 call_len sem_len hg hm PySem.boot_len ha (hs1 := hs1)
theorem sem_fint : Sem1 X cl fInt fun v H Q => (∃ i, [v] = [.int i] ∧ Q (.int i) H) ∨ ∃ k, [v] = [.bl k] ∧ Q (.int (if k then 1 else 0)) H := by
  intro W σ m H G x v Q g r1 p
  cases r1 with
  | int i => exact .inl ⟨i, rfl, p.out g (.int _)⟩
  | bl k => exact .inr ⟨k, rfl, p.out g (.int _)⟩
  | _ => exact p.elim
theorem je_fint (hg : Gl X "int") (hm : X.mg "int" = none) (ha : JE X cl W a da) (hs1 : starEach [a] X.env = (false, eval a X.env) :: starEach [] X.env := by rfl) : JE X cl W (.Call (.Name "int" p) [a] [] pos) (eOp1 fInt da) :=
  je_t1 call_int1 sem_fint hg hm (by decide +kernel) ha (hs1 := hs1)
theorem sem_abs : Sem1 X cl fAbs fun v H Q => ∃ i, [v] = [.int i] ∧ Q (.int (if i < 0 then -i else i)) H := by
  intro W σ m H G x v Q g r1 p
  cases r1 with
  | int i => exact ⟨i, rfl, p.out g (.int _)⟩
  | _ => exact p.elim
theorem je_abs (hg : Gl X "abs") (hm : X.mg "abs" = none) (ha : JE X cl W a da) (hs1 : starEach [a] X.env = (false, eval a X.env) :: starEach [] X.env := by rfl) : JE X cl W (.Call (.Name "abs" p) [a] [] pos) (eOp1 fAbs da) :=
  je_b1 call_abs sem_abs hg hm (by decide +kernel) ha (hs1 := hs1)
theorem sem_min : Sem2 X cl fMin fun v w H Q => ∃ i j, [v, w] = [.int i, .int j] ∧ Q (.int (if j < i then j else i)) H := by
  intro W σ m H G x y v w Q g r1 r2 p
  cases r1 with
  | int i =>
    cases r2 with
    | int j => exact ⟨i, j, rfl, p.out g (.int _)⟩
    | _ => exact p.elim
  | _ => exact p.elim
theorem je_min (hc : X.calm = true) (hg : Gl X "min") (hm : X.mg "min" = none) (ha : JE X cl W a da) (hb : JE X cl W b db)
    (hs2 : starEach [a, b] X.env = (false, eval a X.env) :: starEach [b] X.env := by rfl) (hs1 : starEach [b] X.env = (false, eval b X.env) :: starEach [] X.env := by rfl) (hpl : (backTo pos (starEach [b] X.env)).any (·.1) = false := by rfl) :
    JE X cl W (.Call (.Name "min" p) [a, b] [] pos) (eOp2 fMin da db) := je_b2 (call_min2 hc) sem_min hg hm (by decide +kernel) ha hb (hs2 := hs2) (hs1 := hs1) (hpl := hpl)
theorem sem_list : Sem1 X cl fList fun v H Q => ∃ p ys, [v] = [.ref p] ∧ (SqL X.K H p ys ∨ SqT X.K H p ys) ∧ ∀ l, H l = none → Q (.ref l) (upd H l (.lst ys)) := by
  intro W σ m H G x v Q g r1 p
  unfold fList at p
  split at p
  · rename_i xs e
    obtain ⟨q, vs, rfl, hq, hr⟩ := r1.seqOf (k := kt X cl) g e
    refine ⟨q, vs, rfl, hq, fun l hl => ?_⟩
    obtain ⟨g2, r2⟩ := g.moreL (ds := xs) hl hr
    exact p (m ++ [l]) _ _ (.more hl) g2 r2
  · exact p.elim
theorem je_list (hg : Gl X "list") (hm : X.mg "list" = none) (ha : JE X cl W a da) (hs1 : starEach [a] X.env = (false, eval a X.env) :: starEach [] X.env := by rfl) : JE X cl W (.Call (.Name "list" p) [a] [] pos) (eOp1 fList da) :=
  je_t1 call_list_of sem_list hg hm (by decide +kernel) ha (hs1 := hs1)
theorem sem_tuple : Sem1 X cl fTuple fun v H Q => ∃ p ys, [v] = [.ref p] ∧ ((SqL X.K H p ys ∧ ∀ l, H l = none → Q (.ref l) (upd H l (.tup ys))) ∨ (SqT X.K H p ys ∧ Q (.ref p) H)) := by
  intro W σ m H G x v Q g r1 p
  have lay : ∀ {q : Addr} {vs : List V} {xs : List D}, SqL X.K H q vs → RDs X.K m H xs vs → Post (kt X cl) (RD X.K) W σ m H (some (.ok (.tup xs), G)) Q → ∀ l, H l = none → Q (.ref l) (upd H l (.tup vs)) :=
    fun hq hr p l hl => p m _ _ (.lay hl) (g.lay hl) (.tup (SqT.of upd_same) (hr.ext (.lay hl)))
  unfold fTuple at p
  cases r1 with
  | @tup xs vs q hq hr => exact ⟨_, vs, rfl, .inr ⟨hq, p.out g (.tup hq hr)⟩⟩
  | @rol xs vs q hq hr => exact ⟨_, vs, rfl, .inl ⟨hq.sq, lay hq.sq hr p⟩⟩
  | @ref i q hm =>
    split at p
    · rename_i xs e
      obtain ⟨q', vs, h1, h2, h3⟩ := (RD.ref (K := X.K) (H := H) hm).listOf (k := kt X cl) g e
      cases h1
      exact ⟨_, vs, rfl, .inl ⟨h2, lay h2 h3 p⟩⟩
    · exact p.elim
  | _ => exact p.elim
theorem je_tuple (hg : Gl X "tuple") (hm : X.mg "tuple" = none) (ha : JE X cl W a da) (hs1 : starEach [a] X.env = (false, eval a X.env) :: starEach [] X.env := by rfl) : JE X cl W (.Call (.Name "tuple" p) [a] [] pos) (eOp1 fTuple da) :=
  je_t1 call_tuple_of sem_tuple hg hm (by decide +kernel) ha (hs1 := hs1)
theorem bls_rd {K : PySem.W.Frag} {m : List Addr} {H : Hp} : ∀ {ds : List D} {vs : List V} {bs : List Bool}, RDs K m H ds vs → bls ds = some bs → vs = bs.map V.bl
  | _, _, _, .nil, h => by cases h; rfl
  | d :: ds, _, bs, .cons r rr, h => by
    cases r with
    | bl b =>
      unfold bls at h
      cases e : bls ds with
      | none => rw [e] at h; cases h
      | some cs =>
        rw [e] at h
        cases h
        rw [bls_rd rr e]
        rfl
    | _ => cases h
theorem sem_all : Sem1 X cl fAll fun v => rAll X.K [v] := by
  intro W σ m H G x v Q g r1 p
  unfold fAll at p
  split at p
  · rename_i bs e
    obtain ⟨xs, e1, e2⟩ := Option.bind_eq_some_iff.mp e
    obtain ⟨q, vs, rfl, hq, hr⟩ := r1.listOf (k := kt X cl) g e1
    have := bls_rd hr e2
    subst this
    exact ⟨q, bs, rfl, hq, p.out g (.bl _)⟩
  · exact p.elim
theorem je_all (hc : X.calm = true) (hg : Gl X "all") (hm : X.mg "all" = none) (ha : JE X cl W a da) (hs1 : starEach [a] X.env = (false, eval a X.env) :: starEach [] X.env := by rfl) : JE X cl W (.Call (.Name "all" p) [a] [] pos) (eOp1 fAll da) :=
  je_b1 (cr_all hc) sem_all hg hm (by decide +kernel) ha (hs1 := hs1)
def tyName : Ty → String
  | .int => "int"
  | .bool => "bool"
  | .str => "str"
  | .tuple => "tuple"
  | .list => "list"
  | .dict => "dict"
theorem kits : ∀ t : Ty, PySem.W.kitMeta (tyName t) = true ∧ kitB "NoneType" (tyName t) = some false ∧ kitB "bool" (tyName t) = some (decide (t = .bool ∨ t = .int)) ∧ kitB "int" (tyName t) = some (decide (t = .int)) ∧
    kitB "str" (tyName t) = some (decide (t = .str)) ∧ kitB "tuple" (tyName t) = some (decide (t = .tuple)) ∧ kitB "list" (tyName t) = some (decide (t = .list)) := by
  intro t
  cases t <;> decide +kernel
theorem sem_isTy (t : Ty) : Sem1 X cl (fIsTy t) fun v H Q => rIsi X.K [v, .ty (tyName t)] H Q := by
  intro W σ m H G x v Q g r1 p
  obtain ⟨k0, k1, k2, k3, k4, k5, k6⟩ := kits t
  unfold fIsTy at p
  split at p
  · rename_i bb e
    have q := p.out g (.bl bb)
    have fin : ∀ {T : String}, TyX X.K H v (.type T) → kitB T (tyName t) = some bb → rIsi X.K [v, .ty (tyName t)] H Q := fun ty k => ⟨v, _, _, _, bb, rfl, .ty _, ty, kit_ty k, q⟩
    unfold isTy at e
    cases r1 with
    | non => cases e; exact fin (.base .non) k1
    | bl b => cases e; exact fin (.base (.bl _)) k2
    | int i => cases e; exact fin (.base (.int _)) k3
    | str y => cases e; exact fin (.base (.str _)) k4
    | tup hq hr =>
      cases e
      rcases hq with (hq | ⟨o, hq⟩) | ⟨o, its, n, h1, h2, _⟩
      · exact fin (.base (.tup hq)) k5
      · exact fin (.fTuple hq) k5
      · exact fin (.kTuple h1 h2) k5
    | rol hq hr =>
      cases e
      rcases hq with ⟨o, hq⟩ | ⟨o, its, n, h1, h2, _⟩
      · exact fin (.base (.frz hq)) k6
      · exact fin (.kList h1 h2) k6
    | @ref i q' hm =>
      dsimp only at e
      split at e
      · rename_i xs eg
        cases e
        obtain ⟨q2, vs, h1, h2, h3⟩ := g.lst (i := i) (ds := xs) (by unfold mlist; rw [eg])
        rw [hm] at h1
        cases h1
        exact fin (.base (.lst h2)) k6
      · cases e
  · exact p.elim
theorem je_isTy (t : Ty) {x : Str} {p2 : Pos} (hx : x = Str.ofString (tyName t)) (hg : Gl X "isinstance") (hm : X.mg "isinstance" = none) (hg2 : Gl X x) (hm2 : X.mg x = none) (ha : JE X cl W a da)
    (hs2 : starEach [a, .Name x p2] X.env = (false, eval a X.env) :: starEach [.Name x p2] X.env := by rfl) (hs1 : starEach [.Name x p2] X.env = (false, eval (.Name x p2) X.env) :: starEach [] X.env := by rfl)
    (hpl : (backTo pos (starEach [.Name x p2] X.env)).any (·.1) = false := by rfl) : JE X cl W (.Call (.Name "isinstance" p) [a, .Name x p2] [] pos) (eOp1 (fIsTy t) da) := by
  have hb : bootBuiltins x = some (.type (tyName t)) := by subst hx; cases t <;> decide +kernel
  have hn : x ≠ "__name__" := by subst hx; cases t <;> decide +kernel
  have hd : (x == ("__debug__" : Str)) = false := by subst hx; cases t <;> decide +kernel
  have h2 : PE X (.Name x p2) (tC (.ty (tyName t))) := pe_bltn hg2 hm2 hb rfl hn hd
  refine PE.imp (pe_callB call_isi hg hm (by decide +kernel) (pa_cons ha (pa_cons h2 pa_nil hs1) hs2) (he := hs2) (hpl := hpl)) fun σ H Q h => ?_
  exact up.first (d := da) (f := fun τ => fIsTy t) h fun y H1 v G1 m1 τ s1 g1 r1 p1 => sem_isTy t W σ m1 H1 G1 v y Q g1 r1 p1
end
end D2
end
section
set_option linter.all false
set_option autoImplicit false
set_option maxRecDepth 100000
namespace D2
open PySem PySem.Spec PyProof.Rows L2
section
variable {X : Cx} {cl : Nat → Option Addr} {W : WX} {a b c o : Expr} {da db dc dO : E} {pos p apos cpos : Pos}
section
variable {name : Str} {id : String} {r : V → List V → Hp → VK → Prop} {f : D → D → M D} {f0 : D → M D}
theorem tyL {m : List Addr} {H : Hp} {G : Hd} {x : D} {v : V} (g : RG (kt X cl) m G H) (r1 : RD X.K m H x v) (h : isL G x = true) : tyV X.K "list" v H := by
  unfold isL at h
  obtain ⟨xs, e⟩ := Option.isSome_iff_exists.mp h
  obtain ⟨q, vs, rfl, hq, hr⟩ := r1.listOf (k := kt X cl) g e
  exact .inl ⟨rfl, vs, hq⟩
theorem tyS {m : List Addr} {H : Hp} {x : D} {v : V} (r1 : RD X.K m H x v) (h : isS x = true) : tyV X.K "str" v H := by
  cases r1 with
  | str z => rfl
  | _ => cases h
theorem je_ml (pa : PlainAttrs "list") (slot : Slot "list" name id) (hty : typeOf (.builtin id) = pure (.type "method_descriptor")) (hm : MtR X id r) (hs : Sem2 X cl f fun v w => r v [w]) (ho : JE X cl W o dO) (ha : JE X cl W a da)
    (hbase : attributeBase o name X.env (eval o X.env) = eval o X.env := by rfl)
    (hfew : ((backTo cpos (starEach (a :: []) X.env)).all (fun x => !x.1) && (backToKw cpos (keywordEach [] X.env)).all (fun x => x.1.isSome)
      && decide ((a :: []).length + ([] : List Keyword).length + (if ([] : List Keyword).isEmpty then 0 else 1) < 30)) = true := by rfl)
    (hline : (apos.endLine == cpos.line) = true := by rfl) (hst : starEach (a :: []) X.env = (false, eval a X.env) :: starEach [] X.env := by rfl) (hpl : (backTo cpos (starEach [] X.env)).any (·.1) = false := by rfl) :
    JE X cl W (.Call (.Attribute o name apos) [a] [] cpos) (eMl f dO da) := by
  refine PE.imp (pe_bm pa slot hty hm ho (pa_cons ha pa_nil hst) hbase hfew hline hst hpl) fun σ H Q h => ?_
  refine up.first (d := dO) (f := fun τ x G1 => if isL G1 x = true then bnd (da τ G1) fun y => f x y else none) h fun y H1 v G1 m1 τ s1 g1 r1 p1 => ?_
  split at p1
  · rename_i hl
    refine ⟨tyL g1 r1 hl, ?_⟩
    exact ⟨τ, G1, m1, s1, g1, (Post.bnd (Rel := RD X.K) p1).mono fun z H2 ⟨w, G2, m2, e2, g2, r2, p2⟩ => hs W σ m2 H2 G2 v w y z Q g2 (r1.ext e2) r2 p2⟩
  · exact p1.elim
theorem je_ms (pa : PlainAttrs "str") (slot : Slot "str" name id) (hty : typeOf (.builtin id) = pure (.type "method_descriptor")) (hm : MtR X id r) (hs : Sem2 X cl f fun v w => r v [w]) (ho : JE X cl W o dO) (ha : JE X cl W a da)
    (hbase : attributeBase o name X.env (eval o X.env) = eval o X.env := by rfl)
    (hfew : ((backTo cpos (starEach (a :: []) X.env)).all (fun x => !x.1) && (backToKw cpos (keywordEach [] X.env)).all (fun x => x.1.isSome)
      && decide ((a :: []).length + ([] : List Keyword).length + (if ([] : List Keyword).isEmpty then 0 else 1) < 30)) = true := by rfl)
    (hline : (apos.endLine == cpos.line) = true := by rfl) (hst : starEach (a :: []) X.env = (false, eval a X.env) :: starEach [] X.env := by rfl) (hpl : (backTo cpos (starEach [] X.env)).any (·.1) = false := by rfl) :
    JE X cl W (.Call (.Attribute o name apos) [a] [] cpos) (eMs f dO da) := by
  refine PE.imp (pe_bm pa slot hty hm ho (pa_cons ha pa_nil hst) hbase hfew hline hst hpl) fun σ H Q h => ?_
  refine up.first (d := dO) (f := fun τ x G1 => if isS x = true then bnd (da τ G1) fun y => f x y else none) h fun y H1 v G1 m1 τ s1 g1 r1 p1 => ?_
  split at p1
  · rename_i hl
    refine ⟨tyS r1 hl, ?_⟩
    exact ⟨τ, G1, m1, s1, g1, (Post.bnd (Rel := RD X.K) p1).mono fun z H2 ⟨w, G2, m2, e2, g2, r2, p2⟩ => hs W σ m2 H2 G2 v w y z Q g2 (r1.ext e2) r2 p2⟩
  · exact p1.elim
end
theorem sem_append : Sem2 X cl mAppend fun v w => rAppend v [w] := by
  intro W σ m H G x y v w Q g r1 r2 p
  unfold mAppend at p
  cases r1 with
  | @ref i q hm =>
    dsimp only at p
    split at p
    · rename_i xs e
      obtain ⟨q', vs, h1, h2, h3⟩ := g.lst e
      rw [hm] at h1
      cases h1
      split at p
      · rename_i hl
        obtain ⟨g2, e2⟩ := g.putL hm h2 (h3.append (.one r2))
        exact ⟨_, vs, w, rfl, rfl, h2, by rw [← h3.length]; exact hl, p m _ _ e2 g2 .non⟩
      · exact p.elim
    · exact p.elim
  | _ => exact p.elim
theorem je_append (ho : JE X cl W o dO) (ha : JE X cl W a da) (hbase : attributeBase o "append" X.env (eval o X.env) = eval o X.env := by rfl)
    (hfew : ((backTo cpos (starEach (a :: []) X.env)).all (fun x => !x.1) && (backToKw cpos (keywordEach [] X.env)).all (fun x => x.1.isSome)
      && decide ((a :: []).length + ([] : List Keyword).length + (if ([] : List Keyword).isEmpty then 0 else 1) < 30)) = true := by rfl)
    (hline : (apos.endLine == cpos.line) = true := by rfl) (hst : starEach (a :: []) X.env = (false, eval a X.env) :: starEach [] X.env := by rfl) (hpl : (backTo cpos (starEach [] X.env)).any (·.1) = false := by rfl) :
    JE X cl W (.Call (.Attribute o "append" apos) [a] [] cpos) (eMl mAppend dO da) :=
  je_ml PySem.F.plainAttrs_list PySem.F.slot_list_append PySem.F.type_list_append mt_append sem_append ho ha hbase hfew hline hst hpl
theorem sem_extend : Sem2 X cl mExtend fun v w => rExtend v [w] := by
  intro W σ m H G x y v w Q g r1 r2 p
  unfold mExtend at p
  cases r1 with
  | @ref i q hm =>
    cases r2 with
    | @ref j q2 hm2 =>
      dsimp only at p
      split at p
      · rename_i xs ys e e2
        obtain ⟨q', vs, h1, h2, h3⟩ := g.lst e
        obtain ⟨q2', ws, h4, h5, h6⟩ := g.lst e2
        rw [hm] at h1
        rw [hm2] at h4
        cases h1
        cases h4
        split at p
        · rename_i hl
          obtain ⟨g2, e2⟩ := g.putL hm h2 (h3.append h6)
          exact ⟨_, _, vs, ws, rfl, rfl, h2, h5, by rw [← h3.length, ← h6.length]; exact hl, p m _ _ e2 g2 .non⟩
        · exact p.elim
      · exact p.elim
    | _ => exact p.elim
  | _ => exact p.elim
theorem je_extend (ho : JE X cl W o dO) (ha : JE X cl W a da) (hbase : attributeBase o "extend" X.env (eval o X.env) = eval o X.env := by rfl)
    (hfew : ((backTo cpos (starEach (a :: []) X.env)).all (fun x => !x.1) && (backToKw cpos (keywordEach [] X.env)).all (fun x => x.1.isSome)
      && decide ((a :: []).length + ([] : List Keyword).length + (if ([] : List Keyword).isEmpty then 0 else 1) < 30)) = true := by rfl)
    (hline : (apos.endLine == cpos.line) = true := by rfl) (hst : starEach (a :: []) X.env = (false, eval a X.env) :: starEach [] X.env := by rfl) (hpl : (backTo cpos (starEach [] X.env)).any (·.1) = false := by rfl) :
    JE X cl W (.Call (.Attribute o "extend" apos) [a] [] cpos) (eMl mExtend dO da) :=
  je_ml PySem.F.plainAttrs_list PySem.F.slot_list_extend PySem.F.type_list_extend mt_extend sem_extend ho ha hbase hfew hline hst hpl
theorem je_pop (ho : JE X cl W o dO) (hbase : attributeBase o "pop" X.env (eval o X.env) = eval o X.env := by rfl) (hline : (apos.endLine == cpos.line) = true := by rfl) :
    JE X cl W (.Call (.Attribute o "pop" apos) [] [] cpos) (eOp1 mPop dO) := by
  refine PE.imp (pe_bm0 PySem.F.plainAttrs_list PySem.F.slot_list_pop PySem.F.type_list_pop mt_pop ho hbase hline) fun σ H Q h => ?_
  refine up.first (d := dO) (f := fun τ => mPop) h fun y H1 v G1 m1 τ s1 g1 r1 p1 => ?_
  unfold mPop at p1
  cases r1 with
  | @ref i q hm =>
    dsimp only at p1
    split at p1
    · rename_i xs e
      obtain ⟨q', vs, h1, h2, h3⟩ := g1.lst e
      rw [hm] at h1
      cases h1
      split at p1
      · rename_i z ez
        obtain ⟨u, h4, h5⟩ := h3.get ez
        obtain ⟨g2, e2⟩ := g1.putL hm h2 h3.dropLast
        exact ⟨.inl ⟨rfl, vs, SqL.of h2⟩, _, vs, u, rfl, rfl, h2, by rw [← h3.length]; exact h4, p1 m1 _ _ e2 g2 (h5.ext e2)⟩
      · exact p1.elim
    · exact p1.elim
  | _ => exact p1.elim
theorem strs_rd {K : PySem.W.Frag} {m : List Addr} {H : Hp} : ∀ {ds : List D} {vs : List V} {bs : List Str}, RDs K m H ds vs → strsD ds = some bs → vs = bs.map V.str
  | _, _, _, .nil, h => by cases h; rfl
  | d :: ds, _, bs, .cons r rr, h => by
    cases r with
    | str b =>
      unfold strsD at h
      cases e : strsD ds with
      | none => rw [e] at h; cases h
      | some cs =>
        rw [e] at h
        cases h
        rw [strs_rd rr e]
        rfl
    | _ => cases h
theorem sem_join : Sem2 X cl mJoin fun v w H Q => ∃ a p, ∃ ys : List Str, v = .str a ∧ [w] = [.ref p] ∧ (SqL X.K H p (ys.map V.str) ∨ SqT X.K H p (ys.map V.str)) ∧
    (ys.map (·.length)).sum + ys.length * a.length ≤ 16777216 ∧ Q (.str (Txt.join a ys)) H := by
  intro W σ m H G x y v w Q g r1 r2 p
  unfold mJoin at p
  cases r1 with
  | str z =>
    dsimp only at p
    split at p
    · rename_i ys e
      obtain ⟨xs, e1, e2⟩ := Option.bind_eq_some_iff.mp e
      obtain ⟨q, vs, rfl, hq, hr⟩ := r2.seqOf (k := kt X cl) g e1
      have := strs_rd hr e2
      subst this
      split at p
      · rename_i hl
        exact ⟨z, q, ys, rfl, rfl, hq, hl, p.out g (.str _)⟩
      · exact p.elim
    · exact p.elim
  | _ => exact p.elim
theorem je_join (ho : JE X cl W o dO) (ha : JE X cl W a da) (hbase : attributeBase o "join" X.env (eval o X.env) = eval o X.env := by rfl)
    (hfew : ((backTo cpos (starEach (a :: []) X.env)).all (fun x => !x.1) && (backToKw cpos (keywordEach [] X.env)).all (fun x => x.1.isSome)
      && decide ((a :: []).length + ([] : List Keyword).length + (if ([] : List Keyword).isEmpty then 0 else 1) < 30)) = true := by rfl)
    (hline : (apos.endLine == cpos.line) = true := by rfl) (hst : starEach (a :: []) X.env = (false, eval a X.env) :: starEach [] X.env := by rfl) (hpl : (backTo cpos (starEach [] X.env)).any (·.1) = false := by rfl) :
    JE X cl W (.Call (.Attribute o "join" apos) [a] [] cpos) (eMs mJoin dO da) :=
  je_ms PySem.F.plainAttrs_str PySem.F.slot_str_join PySem.F.type_str_join mt_join sem_join ho ha hbase hfew hline hst hpl
theorem findIdx_flat {p : V → Bool} : ∀ {vs : List V} {j : Nat}, vs.findIdx? p = some j → ∃ z, vs[j]? = some z ∧ p z = true ∧ ∀ i, i < j → ∀ y, vs[i]? = some y → p y = false := by
  intro vs j h
  obtain ⟨hj, h1, h2⟩ := List.findIdx?_eq_some_iff_getElem.mp h
  refine ⟨vs[j], List.getElem?_eq_getElem hj, h1, fun i hi y hy => ?_⟩
  obtain ⟨hi2, e⟩ := List.getElem?_eq_some_iff.mp hy
  have := h2 i hi
  rw [e] at this
  simpa using this
def spD (k : Kit) (f : Fn) : Sp := fun vs H Q E => ∃ (ds : List D) (G : Hd) (m : List Addr), RDs k.K m H ds vs ∧ RG k m G H ∧ Post k (RD k.K) (fun cls d _ H => E cls d H) [] m H (f ds G) Q
theorem spD_call {k : Kit} {f : Fn} {σ : L2.St} {m : List Addr} {H : Hp} {G : Hd} {ds : List D} {vs : List V} {Q : VK} (r : RDs k.K m H ds vs) (g : RG k m G H) (p : Post k (RD k.K) W σ m H (f ds G) Q) : spD k f vs H Q (WE W σ) :=
  ⟨ds, G, m, r, g, p⟩
section
variable {kk : Nat} {fa : Addr} {fd : FuncData} {ps : List Str} {f : Fn} {x : Str} {es : List Expr} {ds : As}
theorem je_call (F : FnOk X.prog X.w X.K X.mg X.base (L2.CX X.prog X.w) kk fa fd ps (spD (kt X cl) f)) (hr : Room kk X.A) (tk : Takes X W) (hg : Gl X x) (hm : X.mg x = some (.ref fa)) (hk : PySem.W.keepIn X.K (.ref fa) = true) (hb : Binds X.K fd ps [])
    (ha : JA X cl W (a :: es) ds) (hdb : (x == ("__debug__" : Str)) = false := by decide) (he : starEach (a :: es) X.env = (false, eval a X.env) :: starEach es X.env := by rfl) (hpl : (backTo pos (starEach es X.env)).any (·.1) = false := by rfl) :
    JE X cl W (.Call (.Name x p) (a :: es) [] pos) (eCall f ds) := by
  refine PE.imp (pe_callSD (dvs := []) (E := fun σ => WE W σ) F hr hg hm hk hb .nil (fun σ => passAt tk σ) ha hdb he hpl) fun σ H Q h => ?_
  refine up.first (d := ds) (f := fun τ => f) h fun y H1 v G1 m1 τ s1 g1 r1 p1 => ?_
  rw [List.append_nil]
  exact spD_call r1 g1 p1
end
end
end D2
end
section
set_option linter.all false
set_option autoImplicit false
set_option maxRecDepth 100000
namespace D2
open PySem PySem.Spec PyProof.Rows L2

def PostS (k : Kit) (W : WX) (m : List Addr) (H : Hp) (x : SR) (D : Ends) : Prop :=
  match x with
  | none => False
  | some (.nx, τ, G) => ∀ m' σ' H', Ext m H m' H' → RS k.K m' H' τ σ' → RG k m' G H' → D.nx σ' H'
  | some (.bk, τ, G) => ∀ m' σ' H', Ext m H m' H' → RS k.K m' H' τ σ' → RG k m' G H' → D.bk σ' H'
  | some (.ct, τ, G) => ∀ m' σ' H', Ext m H m' H' → RS k.K m' H' τ σ' → RG k m' G H' → D.ct σ' H'
  | some (.rt v, τ, G) => ∀ m' y H', Ext m H m' H' → RG k m' G H' → RD k.K m' H' v y → D.rt y H'
  | some (.exc c, τ, G) => ∃ C, k.cl c = some C ∧ ∀ m' σ' H', Ext m H m' H' → RS k.K m' H' τ σ' → RG k m' G H' → W (.ref C) none σ' H'
section
variable {k : Kit} {W : WX} {m m1 : List Addr} {H H1 : Hp} {D D' : Ends}
theorem PostS.ext {x : SR} (e : Ext m H m1 H1) (h : PostS k W m H x D) : PostS k W m1 H1 x D := by
  unfold PostS at h ⊢
  split at h
  · exact h
  · exact fun m' σ' H' e' => h m' σ' H' (e.trans e')
  · exact fun m' σ' H' e' => h m' σ' H' (e.trans e')
  · exact fun m' σ' H' e' => h m' σ' H' (e.trans e')
  · exact fun m' σ' H' e' => h m' σ' H' (e.trans e')
  · obtain ⟨C, hc, h⟩ := h
    exact ⟨C, hc, fun m' σ' H' e' => h m' σ' H' (e.trans e')⟩
theorem PostS.mono {x : SR} (h : PostS k W m H x D) (h1 : ∀ σ H, D.nx σ H → D'.nx σ H) (h2 : ∀ v H, D.rt v H → D'.rt v H) (h3 : ∀ σ H, D.bk σ H → D'.bk σ H) (h4 : ∀ σ H, D.ct σ H → D'.ct σ H) : PostS k W m H x D' := by
  unfold PostS at h ⊢
  split at h
  · exact h
  · exact fun m' σ' H' e' r g => h1 _ _ (h m' σ' H' e' r g)
  · exact fun m' σ' H' e' r g => h3 _ _ (h m' σ' H' e' r g)
  · exact fun m' σ' H' e' r g => h4 _ _ (h m' σ' H' e' r g)
  · exact fun m' σ' H' e' r g => h2 _ _ (h m' σ' H' e' r g)
  · exact h
theorem PostS.bnd {α β : Type} {Rel : List Addr → Hp → α → β → Prop} {τ : Sd} {σ : L2.St} {x : Option (R α × Hd)} {f : α → Hd → SR} (s : RS k.K m H τ σ) (h : PostS k W m H (bndS τ x f) D) :
    Post k Rel W σ m H x (fun y H1 => ∃ (v : α) (G1 : Hd) (m1 : List Addr), Ext m H m1 H1 ∧ RG k m1 G1 H1 ∧ Rel m1 H1 v y ∧ PostS k W m1 H1 (f v G1) D) := by
  cases x with
  | none => exact h
  | some p =>
    obtain ⟨r, G1⟩ := p
    cases r with
    | exc c =>
      obtain ⟨C, hc, h⟩ := h
      exact ⟨C, hc, fun m' H' e g => h m' σ H' e (s.ext e) g⟩
    | ok v => exact fun m1 y H1 e g r => ⟨v, G1, m1, e, g, r, PostS.ext e h⟩
theorem PostS.nx_out {τ : Sd} {σ : L2.St} {G : Hd} (p : PostS k W m H (some (.nx, τ, G)) D) (s : RS k.K m H τ σ) (g : RG k m G H) : D.nx σ H := p m σ H .refl s g
end
def upS (k : Kit) (W : WX) (s : S) : TS := fun D σ H => ∃ (τ : Sd) (G : Hd) (m : List Addr), RS k.K m H τ σ ∧ RG k m G H ∧ PostS k W m H (s τ G) D
abbrev JS (X : Cx) (cl : Nat → Option Addr) (W : WX) (st : Stmt) (s : S) : Prop := PS X st (upS (kt X cl) W s)
abbrev JSs (X : Cx) (cl : Nat → Option Addr) (W : WX) (st : List Stmt) (s : S) : Prop := PSs X st (upS (kt X cl) W s)
theorem upS.first {α β : Type} {k : Kit} {Rel : List Addr → Hp → α → β → Prop} {W : WX} {d : Sd → M α} {f : Sd → α → Hd → SR} {D : Ends} {σ : L2.St} {H : Hp} {Q1 : β → Hp → Prop}
    (h : upS k W (fun τ G => bndS τ (d τ G) (f τ)) D σ H)
    (hq : ∀ (y : β) (H1 : Hp) (v : α) (G1 : Hd) (m1 : List Addr) (τ : Sd), RS k.K m1 H1 τ σ → RG k m1 G1 H1 → Rel m1 H1 v y → PostS k W m1 H1 (f τ v G1) D → Q1 y H1) : up k Rel W d σ H Q1 := by
  obtain ⟨τ, G, m, h1, h2, h3⟩ := h
  exact ⟨τ, G, m, h1, h2, (PostS.bnd (Rel := Rel) h1 h3).mono fun y H1 ⟨v, G1, m1, e, g, r, p⟩ => hq y H1 v G1 m1 τ (h1.ext e) g r p⟩

section
variable {X : Cx} {cl : Nat → Option Addr} {W : WX} {a b c o : Expr} {da db dc dO : E} {pos : Pos} {st : Stmt} {sts : List Stmt} {s s1 s2 : S}
theorem jss_nil : JSs X cl W [] sNil := PSs.imp pss_nil fun D σ H ⟨τ, G, m, s, g, p⟩ => p.nx_out s g
theorem jss_cons (h1 : JS X cl W st s1) (h2 : JSs X cl W sts s2) : JSs X cl W (st :: sts) (sSeq s1 s2) := by
  refine PSs.imp (pss_cons h1 h2) fun D σ H ⟨τ, G, m, s, g, p⟩ => ⟨τ, G, m, s, g, ?_⟩
  unfold sSeq thenS at p
  split at p
  · rename_i τ1 G1 e
    rw [e]
    exact fun m' σ' H' e' r' g' => ⟨τ1, G1, m', r', g', p.ext e'⟩
  · rename_i hne
    generalize s1 τ G = x at p hne
    unfold PostS at p ⊢
    split at p
    · exact p
    · exact absurd rfl (hne _ _)
    · exact p
    · exact p
    · exact p
    · exact p
theorem jss_one (h1 : JS X cl W st s1) : JSs X cl W [st] s1 := pss_one h1
theorem js_expr (h : JE X cl W a da) (hs : swapsWith a none pos.line X.env = pure false := by rfl) : JS X cl W (.Expr a pos) (sExpr da) := by
  refine PS.imp (ps_expr h hs) fun D σ H h => ?_
  exact upS.first (d := da) (f := fun τ _ G1 => some (.nx, τ, G1)) h fun y H1 v G1 m1 τ s1 g1 r1 p1 => p1.nx_out s1 g1
theorem js_ret (h : JE X cl W a da) : JS X cl W (.Return (some a) pos) (sRet da) := by
  refine PS.imp (ps_ret h) fun D σ H h => ?_
  exact upS.first (d := da) (f := fun τ v G1 => some (.rt v, τ, G1)) h fun y H1 v G1 m1 τ s1 g1 r1 p1 => p1 m1 y H1 .refl g1 r1
theorem js_if {t : T} {ys ns : List Stmt} (ht : JT X cl W c t) (hy : JSs X cl W ys s1) (hn : JSs X cl W ns s2) : JS X cl W (.If c ys ns pos) (sIf t s1 s2) := by
  refine PS.imp (ps_if ht hy hn) fun D σ H h => ?_
  refine upS.first (d := t) (f := fun τ k G1 => if k = true then s1 τ G1 else s2 τ G1) h fun y H1 v G1 m1 τ r1 g1 e1 p1 => ?_
  obtain rfl : v = y := e1
  cases v with
  | true => exact ⟨τ, G1, m1, r1, g1, p1⟩
  | false => exact ⟨τ, G1, m1, r1, g1, p1⟩
def Kept (vs : List Nat) (σ σ' : L2.St) : Prop := σ'.length = σ.length ∧ ∀ i, i ∉ vs → σ'[i]? = σ[i]?
def upG (k : Kit) (vs : List Nat) (t : Tg) : TG := fun v σ H Q => ∃ (τ : Sd) (G : Hd) (m : List Addr) (d : D), RS k.K m H τ σ ∧ RG k m G H ∧ RD k.K m H d v ∧
  match t d τ G with
  | none => False
  | some (τ1, G1) => ∀ m' σ' H', Ext m H m' H' → RS k.K m' H' τ1 σ' → RG k m' G1 H' → Kept vs σ σ' → Q σ' H'
def upGs (k : Kit) (vs : List Nat) (t : Tgs) : TGs := fun us σ H Q => ∃ (τ : Sd) (G : Hd) (m : List Addr) (ds : List D), RS k.K m H τ σ ∧ RG k m G H ∧ RDs k.K m H ds us ∧
  match t ds τ G with
  | none => False
  | some (τ1, G1) => ∀ m' σ' H', Ext m H m' H' → RS k.K m' H' τ1 σ' → RG k m' G1 H' → Kept vs σ σ' → Q σ' H'
theorem PG.imp {X : Cx} {e : Expr} {t t' : TG} (h : PG X e t) (i : ∀ v σ H Q, t' v σ H Q → t v σ H Q) : PG X e t' := ⟨fun pins s σ H v u Q I r hw => h.run pins s σ H v u Q I r (i v σ H Q hw)⟩
theorem PGs.imp {X : Cx} {e : List Expr} {t t' : TGs} (h : PGs X e t) (i : ∀ v σ H Q, t' v σ H Q → t v σ H Q) : PGs X e t' := ⟨fun pins s σ H v u Q I r hw => h.run pins s σ H v u Q I r (i v σ H Q hw)⟩
abbrev JG (X : Cx) (cl : Nat → Option Addr) (vs : List Nat) (e : Expr) (t : Tg) : Prop := PG X e (upG (kt X cl) vs t)
abbrev JGs (X : Cx) (cl : Nat → Option Addr) (vs : List Nat) (e : List Expr) (t : Tgs) : Prop := PGs X e (upGs (kt X cl) vs t)
theorem jg_name {i : Nat} {x : Str} (h : PG X (.Name x pos) (L2.gName i)) : JG X cl [i] (.Name x pos) (D2.gName i) := by
  refine PG.imp h fun v σ H Q ⟨τ, G, m, d, s, g, r, p⟩ => ?_
  refine p m _ H .refl (s.set r i) g ⟨List.length_set, fun j hj => ?_⟩
  have : j ≠ i := by simpa using hj
  rw [List.getElem?_set_ne (Ne.symm this)]
theorem jgs_nil : JGs X cl [] [] D2.gNil := by
  refine PGs.imp pgs_nil fun v σ H Q ⟨τ, G, m, ds, s, g, r, p⟩ => ?_
  cases r with
  | nil => exact ⟨rfl, p m σ H .refl s g ⟨rfl, fun _ _ => rfl⟩⟩
  | cons _ _ => exact p.elim
theorem jgs_cons {e : Expr} {es : List Expr} {t : Tg} {u : Tgs} {vs ws : List Nat} (h1 : JG X cl vs e t) (h2 : JGs X cl ws es u)
    (hs : (assignEach (e :: es) X.env).map (·.2) = assign e X.env :: (assignEach es X.env).map (·.2) := by rfl) : JGs X cl (vs ++ ws) (e :: es) (D2.gCons t u) := by
  refine PGs.imp (pgs_cons h1 h2 hs) fun v σ H Q ⟨τ, G, m, ds, s, g, r, p⟩ => ?_
  cases r with
  | nil => exact p.elim
  | @cons d dv dds dvs r1 rr =>
    refine ⟨_, _, rfl, τ, G, m, d, s, g, r1, ?_⟩
    unfold D2.gCons at p
    dsimp only at p
    cases e1 : t d τ G with
    | none => rw [e1] at p; exact p.elim
    | some q =>
      obtain ⟨τ1, G1⟩ := q
      rw [e1] at p
      dsimp only at p ⊢
      intro m' σ' H' e' s' g' k'
      refine ⟨τ1, G1, m', dds, s', g', rr.ext e', ?_⟩
      split at p
      · exact p.elim
      · rename_i τ2 G2 e2
        exact fun m2 σ2 H2 e3 s3 g3 k3 => p m2 σ2 H2 (e'.trans e3) s3 g3 ⟨k3.1.trans k'.1, fun i hi => by
          rw [List.mem_append, not_or] at hi
          rw [k3.2 i hi.2, k'.2 i hi.1]⟩
theorem jg_tup {es : List Expr} {k n : Nat} {t : Tgs} {vs : List Nat} (hc : X.calm = true) (h : JGs X cl vs es t) (hn : (assignEach es X.env).length = n := by rfl) (hst : (assignEach es X.env).findIdx? (·.1) = none := by rfl) :
    JG X cl vs (.Tuple es k pos) (D2.gTup n t) := by
  refine PG.imp (pg_tup hc h hn hst) fun v σ H Q ⟨τ, G, m, d, s, g, r, p⟩ => ?_
  unfold D2.gTup at p
  cases r with
  | @tup xs ys a hq hr =>
    dsimp only at p
    split at p
    · exact p.elim
    · rename_i e
      split at e
      · rename_i hl
        refine ⟨a, ys, rfl, hq, by rw [← hr.length]; exact hl, τ, G, m, xs, s, g, hr, ?_⟩
        rw [e]
        exact p
      · cases e
  | _ => exact p.elim
theorem js_asg {tg : Expr} {g : Tg} {vs : List Nat} (he : JE X cl W a da) (hg : JG X cl vs tg g) (hs : swapsWithSole [tg] a pos.line X.env = pure false := by rfl) (hw : swappedStores [tg] a X.env = pure none := by rfl)
    (h1 : (assignEach [tg] X.env).map (·.2) = [assign tg X.env] := by rfl) : JS X cl W (.Assign [tg] a pos) (sAsg da g) := by
  refine PS.imp (ps_asg he hg hs hw h1) fun D σ H h => ?_
  refine upS.first (d := da) (f := fun τ v G1 => match g v τ G1 with | some (σ2, G2) => some (.nx, σ2, G2) | none => none) h fun y H1 v G1 m1 τ s1 g1 r1 p1 => ?_
  refine ⟨τ, G1, m1, v, s1, g1, r1, ?_⟩
  cases e : g v τ G1 with
  | none => rw [e] at p1; exact p1.elim
  | some q =>
    obtain ⟨τ2, G2⟩ := q
    rw [e] at p1
    exact fun m' σ' H' e' s' g' _ => p1 m' σ' H' e' s' g'
theorem js_set {i : Nat} {x : Str} {pos' : Pos} (he : JE X cl W a da) (h : ∀ {te : TE}, PE X a te → PS X (.Assign [.Name x pos'] a pos) (tAsg te (L2.gName i))) : JS X cl W (.Assign [.Name x pos'] a pos) (sSet i da) := by
  refine PS.imp (h he) fun D σ H h => ?_
  refine upS.first (d := da) (f := fun τ v G1 => match D2.gName i v τ G1 with | some (σ2, G2) => some (.nx, σ2, G2) | none => none) h fun y H1 v G1 m1 τ s1 g1 r1 p1 => ?_
  exact p1.nx_out (s1.set r1 i) g1
theorem js_put {tpos : Pos} (ho : JE X cl W o dO) (hb : JE X cl W b db) (he : JE X cl W a da)
    (ha : ∀ v, assign (.Subscript o b tpos) X.env v = (do
      let ov ← holding [v] (eval o X.env)
      let iv ← holding [v, ov] (eval b X.env)
      standAt tpos
      holding [v, ov, iv] (setItem ov iv v)
      release [v, ov, iv] []) := by intro _; rfl)
    (hs : swapsWithSole [.Subscript o b tpos] a pos.line X.env = pure false := by rfl) (hw : swappedStores [.Subscript o b tpos] a X.env = pure none := by rfl)
    (h1 : (assignEach [.Subscript o b tpos] X.env).map (·.2) = [assign (.Subscript o b tpos) X.env] := by rfl) : JS X cl W (.Assign [.Subscript o b tpos] a pos) (sPut dO db da) := by
  refine PS.imp (ps_asg he (pg_sub ho hb set_list ha) hs hw h1) fun D σ H h => ?_
  refine upS.first (d := da) (f := fun τ v G1 => bndS τ (dO τ G1) fun x G2 => bndS τ (db τ G2) fun k G3 => bndS τ (putD x k v G3) fun _ G4 => some (.nx, τ, G4)) h fun y H1 v G1 m1 τ s1 g1 r1 p1 => ?_
  refine ⟨τ, G1, m1, s1, g1, (PostS.bnd (Rel := RD X.K) s1 p1).mono fun z H2 ⟨w, G2, m2, e2, g2, r2, p2⟩ => ?_⟩
  refine ⟨τ, G2, m2, s1.ext e2, g2, (PostS.bnd (Rel := RD X.K) (s1.ext e2) p2).mono fun u H3 ⟨q, G3, m3, e3, g3, r3, p3⟩ => ?_⟩
  have s3 := (s1.ext e2).ext e3
  have r2' := r2.ext e3
  have r1' := (r1.ext e2).ext e3
  unfold putD at p3
  cases r2' with
  | @ref i a hm =>
    cases r3 with
    | int kk =>
      dsimp only at p3
      cases e4 : mlist G3 i with
      | none => rw [e4] at p3; exact p3.elim
      | some xs =>
        rw [e4] at p3
        dsimp only at p3
        obtain ⟨a', vs, h1, h2, h3⟩ := g3.lst e4
        rw [hm] at h1
        cases h1
        cases e5 : ixN xs.length kk with
        | none => rw [e5] at p3; exact p3.elim
        | some j =>
          rw [e5] at p3
          obtain ⟨g4, e6⟩ := g3.putL hm h2 (h3.set r1' j)
          exact ⟨_, vs, kk, j, rfl, rfl, h2, by rw [← h3.length]; exact e5, p3 m3 σ _ e6 (s3.ext e6) g4⟩
    | _ => exact p3.elim
  | _ => exact p3.elim
theorem js_aug {i : Nat} {x : Str} {op : Operator} {f : D → D → M D} {r : R2} {pos' : Pos} (hN : X.N.Nodup) (hi : X.N[i]? = some x) (hx : Loc X.env.scope x) (hf : X.fn x = true ∨ X.env.scope.names.lookup x = some .local) (ho : OpR X (inplaceOp op) r) (hs : Sem2 X cl f r) (ha : JE X cl W a da) :
    JS X cl W (.AugAssign (.Name x pos') op a pos) (sAug i f da) := by
  refine PS.imp (ps_aug hN hi hx ha ho hf) fun D σ H ⟨τ, G, m, s, g, p⟩ => ?_
  unfold sAug at p
  split at p
  · rename_i v e
    obtain ⟨u, h1, h2⟩ := s.get e
    refine ⟨u, h1, τ, G, m, s, g, (PostS.bnd (Rel := RD X.K) s p).mono fun z H2 ⟨w, G2, m2, e2, g2, r2, p2⟩ => ?_⟩
    refine hs W σ m2 H2 G2 v w u z _ g2 (h2.ext e2) r2 ((PostS.bnd (Rel := RD X.K) (s.ext e2) p2).mono fun q H3 ⟨y, G3, m3, e3, g3, r3, p3⟩ => ?_)
    exact p3.nx_out (((s.ext e2).ext e3).set r3 i) g3
  · exact p.elim
def rIAdd : R2 := fun x y H Q => rI0 (fun i j => .int (i + j)) x y H Q ∨ (∃ i j, x = .str i ∧ y = .str j ∧ i.length + j.length ≤ sizeLine ∧ Q (.str (i ++ j)) H)
theorem op_iaddU : OpR X (inplaceOp .Add) rIAdd := iop_add.or iop_add_str
theorem sem_iadd : Sem2 X cl opIAdd rIAdd := by
  intro W σ m H G x y v w Q g r1 r2 p
  cases r1 with
  | int i =>
    cases r2 with
    | int j => exact .inl ⟨i, j, rfl, rfl, p.out g (.int _)⟩
    | _ => exact p.elim
  | str i =>
    cases r2 with
    | str j =>
      unfold opIAdd at p
      dsimp only at p
      split at p
      · rename_i hl
        exact .inr ⟨i, j, rfl, rfl, hl, p.out g (.str _)⟩
      · exact p.elim
    | _ => exact p.elim
  | _ => exact p.elim
theorem js_raise {C : Addr} {n : Nat} {e : Expr} (hc : X.calm = true) (tk : Takes X W) (hn : cl n = some C) (hm : PMk X e (fun _ H Q => Q (.ref C) none H)) : JS X cl W (.Raise (some e) none pos) (sRaise n) := by
  refine PS.imp (ps_raise hc tk hm) fun D σ H ⟨τ, G, m, s, g, p⟩ => ?_
  obtain ⟨C', h1, h2⟩ := p
  have h1' : cl n = some C' := h1
  rw [hn] at h1'
  cases h1'
  exact h2 m σ H .refl s g
end
def RIt (k : Kit) (m : List Addr) (H : Hp) (j : ItD) (J : It) : Prop := ∀ (i : Nat) (m' : List Addr) (G' : Hd) (H' : Hp), Ext m H m' H' → RG k m' G' H' →
  match j i G' with
  | none => True
  | some none => J.stop i H'
  | some (some v) => J.go i H' ∧ ∀ x H2, J.yld i H' x H2 → Ext m' H' m' H2 ∧ RG k m' G' H2 ∧ RD k.K m' H2 v x
abbrev JI (X : Cx) (cl : Nat → Option Addr) (W : WX) (tg e : Expr) (i : IE) : Prop := PI X tg e (up (kt X cl) (RIt (kt X cl)) W i)
theorem PI.imp {X : Cx} {tg e : Expr} {t t' : TI} (h : PI X tg e t) (i : ∀ σ H R, t' σ H R → t σ H R) : PI X tg e t' := ⟨fun pins s σ H R I hw => h.run pins s σ H R I (i σ H R hw)⟩
def loopFN (j : ItD) (g : Tg) (b : S) : Nat → Nat → S
  | 0, _ => fun _ _ => none
  | n + 1, i => fun σ G => match j i G with
    | none => none
    | some none => some (.nx, σ, G)
    | some (some v) => match g v σ G with
      | none => none
      | some (σ1, G1) => match b σ1 G1 with
        | some (.nx, σ2, G2) => loopFN j g b n (i + 1) σ2 G2
        | some (.ct, σ2, G2) => loopFN j g b n (i + 1) σ2 G2
        | some (.bk, σ2, G2) => some (.nx, σ2, G2)
        | y => y
theorem loopF_N (j : ItD) (g : Tg) (b : S) : ∀ (i : Nat) (σ : Sd) (G : Hd) (r : Fl × Sd × Hd), loopF j g b i σ G = some r → ∃ n, loopFN j g b n i σ G = some r := by
  refine loopF.partial_correctness j g b (fun i σ G r => ∃ n, loopFN j g b n i σ G = some r) fun lp ih i σ G r h => ?_
  split at h
  · cases h
  · rename_i e
    exact ⟨1, by unfold loopFN; rw [e]; exact h⟩
  · rename_i v e
    split at h
    · cases h
    · rename_i σ1 G1 e1
      split at h
      · rename_i σ2 G2 e2
        obtain ⟨n, hn⟩ := ih _ _ _ _ h
        exact ⟨n + 1, by unfold loopFN; rw [e]; dsimp only; rw [e1]; dsimp only; rw [e2]; exact hn⟩
      · rename_i σ2 G2 e2
        obtain ⟨n, hn⟩ := ih _ _ _ _ h
        exact ⟨n + 1, by unfold loopFN; rw [e]; dsimp only; rw [e1]; dsimp only; rw [e2]; exact hn⟩
      · rename_i σ2 G2 e2
        exact ⟨1, by unfold loopFN; rw [e]; dsimp only; rw [e1]; dsimp only; rw [e2]; exact h⟩
      · rename_i h1 h2 h3
        refine ⟨1, ?_⟩
        unfold loopFN
        rw [e]
        dsimp only
        rw [e1]
        dsimp only
        generalize b σ1 G1 = z at h h1 h2 h3
        split
        · exact absurd rfl (h1 _ _)
        · exact absurd rfl (h2 _ _)
        · exact absurd rfl (h3 _ _)
        · exact h
def loopWN (t : T) (b : S) : Nat → S
  | 0 => fun _ _ => none
  | n + 1 => fun σ G => match t σ G with
    | none => none
    | some (.exc c, G1) => some (.exc c, σ, G1)
    | some (.ok false, G1) => some (.nx, σ, G1)
    | some (.ok true, G1) => match b σ G1 with
      | some (.nx, σ2, G2) => loopWN t b n σ2 G2
      | some (.ct, σ2, G2) => loopWN t b n σ2 G2
      | some (.bk, σ2, G2) => some (.nx, σ2, G2)
      | y => y
theorem loopW_N (t : T) (b : S) : ∀ (σ : Sd) (G : Hd) (r : Fl × Sd × Hd), loopW t b σ G = some r → ∃ n, loopWN t b n σ G = some r := by
  refine loopW.partial_correctness t b (fun σ G r => ∃ n, loopWN t b n σ G = some r) fun lp ih σ G r h => ?_
  split at h
  · cases h
  · rename_i e
    exact ⟨1, by unfold loopWN; rw [e]; exact h⟩
  · rename_i e
    exact ⟨1, by unfold loopWN; rw [e]; exact h⟩
  · rename_i G1 e1
    split at h
    · rename_i σ2 G2 e2
      obtain ⟨n, hn⟩ := ih _ _ _ h
      exact ⟨n + 1, by unfold loopWN; rw [e1]; dsimp only; rw [e2]; exact hn⟩
    · rename_i σ2 G2 e2
      obtain ⟨n, hn⟩ := ih _ _ _ h
      exact ⟨n + 1, by unfold loopWN; rw [e1]; dsimp only; rw [e2]; exact hn⟩
    · rename_i σ2 G2 e2
      exact ⟨1, by unfold loopWN; rw [e1]; dsimp only; rw [e2]; exact h⟩
    · rename_i h1 h2 h3
      refine ⟨1, ?_⟩
      unfold loopWN
      rw [e1]
      dsimp only
      generalize b σ G1 = z at h h1 h2 h3
      split
      · exact absurd rfl (h1 _ _)
      · exact absurd rfl (h2 _ _)
      · exact absurd rfl (h3 _ _)
      · exact h
theorem turn_post {k : Kit} {W : WX} {m : List Addr} {H : Hp} {D : Ends} {x : SR} {again : S} {N : L2.St → Hp → Prop}
    (h : PostS k W m H (match x with
      | some (.nx, σ2, G2) => again σ2 G2
      | some (.ct, σ2, G2) => again σ2 G2
      | some (.bk, σ2, G2) => some (.nx, σ2, G2)
      | y => y) D)
    (hN : ∀ m' σ' H' τ G, Ext m H m' H' → RS k.K m' H' τ σ' → RG k m' G H' → PostS k W m' H' (again τ G) D → N σ' H') : PostS k W m H x { nx := N, ct := N, bk := D.nx, rt := D.rt } := by
  split at h
  · rename_i τ G
    exact fun m' σ' H' e r g => hN m' σ' H' τ G e r g (h.ext e)
  · rename_i τ G
    exact fun m' σ' H' e r g => hN m' σ' H' τ G e r g (h.ext e)
  · exact h
  · rename_i h1 h2 h3
    unfold PostS at h ⊢
    split at h
    · exact h
    · exact absurd rfl (h1 _ _)
    · exact absurd rfl (h3 _ _)
    · exact absurd rfl (h2 _ _)
    · exact h
    · exact h
section
variable {X : Cx} {cl : Nat → Option Addr} {W : WX} {a b c o : Expr} {da db dc dO : E} {pos : Pos} {st : Stmt} {sts : List Stmt} {s s1 s2 : S}
theorem js_for {tg iter : Expr} {body : List Stmt} {it : IE} {g : Tg} {vs : List Nat} (hp : PassesOwn (model X.prog X.w) X.A X.env X.xe) (hc : X.calm = true) (hi : JI X cl W tg iter it) (hg : JG X cl vs tg g) (hb : JSs X cl W body s)
    (hs : ∀ x, foldedSetIterable iter X.env x = pure x := by intro _; rfl) : JS X cl W (.For tg iter body [] pos) (sFor it g s) := by
  refine PS.imp (ps_for hp hc hi hg hb hs) fun D σ H h => ?_
  refine upS.first (Rel := RIt (kt X cl)) (d := it) (f := fun τ j G1 => loopF j g s 0 τ G1) h fun J H1 j G1 m1 τ1 s1 g1 r1 p1 => ?_
  obtain ⟨n0, hn0⟩ : ∃ n, PostS (kt X cl) W m1 H1 (loopFN j g s n 0 τ1 G1) D := by
    cases e : loopF j g s 0 τ1 G1 with
    | none => rw [e] at p1; exact p1.elim
    | some r =>
      obtain ⟨n, hn⟩ := loopF_N j g s _ _ _ _ e
      exact ⟨n, by rw [hn, ← e]; exact p1⟩
  refine ⟨fun i n σ H => ∃ (τ : Sd) (G : Hd) (m : List Addr), Ext m1 H1 m H ∧ RS X.K m H τ σ ∧ RG (kt X cl) m G H ∧ PostS (kt X cl) W m H (loopFN j g s n i τ G) D, ⟨n0, τ1, G1, m1, .refl, s1, g1, hn0⟩, ?_⟩
  rintro i n σ H ⟨τ, G, m, e, r, gg, p⟩
  cases n with
  | zero => exact p.elim
  | succ n =>
    have rj := r1 i m G H e gg
    unfold loopFN at p
    split at p
    · exact p.elim
    · rename_i ej
      rw [ej] at rj
      exact .inl ⟨rj, p.nx_out r gg⟩
    · rename_i v ej
      rw [ej] at rj
      obtain ⟨go, yl⟩ := rj
      refine .inr ⟨go, fun σ' H' => ∃ n', n' < n + 1 ∧ ∃ (τ : Sd) (G : Hd) (m : List Addr), Ext m1 H1 m H' ∧ RS X.K m H' τ σ' ∧ RG (kt X cl) m G H' ∧ PostS (kt X cl) W m H' (loopFN j g s n' (i + 1) τ G) D, fun σ' H' q => q, fun x H2 hy => ?_⟩
      obtain ⟨e2, g2, r2⟩ := yl x H2 hy
      refine ⟨τ, G, m, v, r.ext e2, g2, r2, ?_⟩
      cases eg : g v τ G with
      | none => rw [eg] at p; exact p.elim
      | some q =>
        obtain ⟨τ3, G3⟩ := q
        rw [eg] at p
        intro m4 σ4 H4 e4 s4 g4 _
        refine ⟨τ3, G3, m4, s4, g4, ?_⟩
        exact turn_post (p.ext (e2.trans e4)) fun m5 σ5 H5 τ5 G5 e5 s5 g5 p5 => ⟨n, Nat.lt_succ_self n, τ5, G5, m5, ((e.trans e2).trans e4).trans e5, s5, g5, p5⟩
theorem js_while {body : List Stmt} {t : T} (hp : PassesOwn (model X.prog X.w) X.A X.env X.xe) (ht : JT X cl W c t) (hb : JSs X cl W body s) : JS X cl W (.While c body [] pos) (sWhile t s) := by
  refine PS.imp (ps_while hp ht hb) fun D σ H ⟨τ0, G0, m0, r0, g0, p0⟩ => ?_
  obtain ⟨n0, hn0⟩ : ∃ n, PostS (kt X cl) W m0 H (loopWN t s n τ0 G0) D := by
    cases e : loopW t s τ0 G0 with
    | none => unfold sWhile at p0; rw [e] at p0; exact p0.elim
    | some r =>
      obtain ⟨n, hn⟩ := loopW_N t s _ _ _ e
      exact ⟨n, by rw [hn, ← e]; exact p0⟩
  refine ⟨fun n σ H => ∃ (τ : Sd) (G : Hd) (m : List Addr), RS X.K m H τ σ ∧ RG (kt X cl) m G H ∧ PostS (kt X cl) W m H (loopWN t s n τ G) D, ⟨n0, τ0, G0, m0, r0, g0, hn0⟩, ?_⟩
  rintro n σ1 H1 ⟨τ, G, m, r, gg, p⟩
  cases n with
  | zero => exact p.elim
  | succ n =>
    refine ⟨τ, G, m, r, gg, ?_⟩
    unfold loopWN at p
    cases e : t τ G with
    | none => rw [e] at p; exact p.elim
    | some q =>
      obtain ⟨rr, G2⟩ := q
      rw [e] at p
      cases rr with
      | exc c =>
        obtain ⟨C, hc, h⟩ := p
        exact ⟨C, hc, fun m' H' e' g' => h m' σ1 H' e' (r.ext e') g'⟩
      | ok bb =>
        intro m2 y H2 e2 g2 ry
        obtain rfl : bb = y := ry
        cases bb with
        | false => exact iteF (by exact p m2 σ1 H2 e2 (r.ext e2) g2)
        | true =>
          refine iteT ⟨fun σ' H' => ∃ n', n' < n + 1 ∧ ∃ (τ : Sd) (G : Hd) (m : List Addr), RS X.K m H' τ σ' ∧ RG (kt X cl) m G H' ∧ PostS (kt X cl) W m H' (loopWN t s n' τ G) D, fun σ' H' q => q, ?_⟩
          refine ⟨τ, G2, m2, r.ext e2, g2, ?_⟩
          exact turn_post (PostS.ext e2 p) fun m5 σ5 H5 τ5 G5 e5 s5 g5 p5 => ⟨n, Nat.lt_succ_self n, τ5, G5, m5, s5, g5, p5⟩
end
end D2
end
section
set_option linter.all false
set_option autoImplicit false
set_option maxRecDepth 100000
namespace D2
open PySem PySem.Spec PyProof.Rows L2
end D2
end
section
set_option linter.all false
set_option autoImplicit false
set_option maxRecDepth 100000
namespace D2
open PySem PySem.Spec PyProof.Rows L2 RZ RT
section
variable {k : Kit} {m : List Addr} {H : Hp} {G : Hd}
theorem rit_tup {xs : List D} {ys : List V} {a : Addr} (hq : SqT k.K H a ys) (hr : RDs k.K m H xs ys) : RIt k m H (jSeq xs) (Itt k.K a) := by
  intro i m' G' H' e g
  have hq' := e.sqt hq
  unfold jSeq
  cases ex : xs[i]? with
  | none =>
    refine ⟨ys, hq', ?_⟩
    have := List.getElem?_eq_none_iff.mp ex
    rw [hr.length] at this
    exact this
  | some d =>
    obtain ⟨v, h1, h2⟩ := hr.get ex
    refine ⟨⟨ys, v, hq', h1⟩, fun x H2 hy => ?_⟩
    obtain ⟨rfl, hy⟩ := hy
    have := hy ys hq'
    rw [h1] at this
    cases this
    exact ⟨.refl, g, h2.ext e⟩
theorem rit_rol {xs : List D} {ys : List V} {a : Addr} (hq : SqR k.K H a ys) (hr : RDs k.K m H xs ys) : RIt k m H (jSeq xs) (Itl k.K a) := by
  intro i m' G' H' e g
  have hq' := (e.sqr hq).sq
  unfold jSeq
  cases ex : xs[i]? with
  | none =>
    refine ⟨ys, hq', ?_⟩
    have := List.getElem?_eq_none_iff.mp ex
    rw [hr.length] at this
    exact this
  | some d =>
    obtain ⟨v, h1, h2⟩ := hr.get ex
    refine ⟨⟨ys, v, hq', h1⟩, fun x H2 hy => ?_⟩
    obtain ⟨rfl, hy⟩ := hy
    have := hy ys hq'
    rw [h1] at this
    cases this
    exact ⟨.refl, g, h2.ext e⟩
theorem rit_list {r : Nat} {a : Addr} (hm : m[r]? = some a) : RIt k m H (jList r) (Itl k.K a) := by
  intro i m' G' H' e g
  unfold jList
  cases ex : D2.listOf G' (.ref r) with
  | none => exact True.intro
  | some xs =>
    obtain ⟨a', ys, h1, h2, h3⟩ := (RD.ref (K := k.K) (H := H') (e.get hm)).listOf g ex
    cases h1
    dsimp only
    cases ex2 : xs[i]? with
    | none =>
      refine ⟨ys, h2, ?_⟩
      have := List.getElem?_eq_none_iff.mp ex2
      rw [h3.length] at this
      exact this
    | some d =>
      obtain ⟨v, h4, h5⟩ := h3.get ex2
      refine ⟨⟨ys, v, h2, h4⟩, fun x H2 hy => ?_⟩
      obtain ⟨rfl, hy⟩ := hy
      have := hy ys h2
      rw [h4] at this
      cases this
      exact ⟨.refl, g, h5⟩
theorem rit_str {x : Str} : RIt k m H (jSeq (strSeq x)) (Its x) := by
  intro i m' G' H' e g
  unfold jSeq strSeq
  rw [List.getElem?_map, Array.getElem?_toList]
  cases ex : x.cps[i]? with
  | none => exact Array.getElem?_eq_none_iff.mp ex
  | some c =>
    refine ⟨(Array.getElem?_eq_some_iff.mp ex).1, fun y H2 hy => ?_⟩
    obtain ⟨rfl, c', h1, rfl⟩ := hy
    rw [ex] at h1
    cases h1
    exact ⟨.refl, g, .str _⟩
theorem rit_rng {lo : Int} {n : Nat} : RIt k m H (jRng lo n) (Itr lo n) := by
  intro i m' G' H' e g
  unfold jRng
  by_cases hi : i < n
  · simp only [if_pos hi]
    refine ⟨hi, fun x H2 hy => ?_⟩
    obtain ⟨rfl, rfl⟩ := hy
    exact ⟨.refl, g, .int _⟩
  · simp only [if_neg hi]
    exact Nat.le_of_not_lt hi
end
theorem PI.or {X : Cx} {tg e : Expr} {t t' : TI} (h : PI X tg e t) (h' : PI X tg e t') : PI X tg e fun σ H R => t σ H R ∨ t' σ H R := ⟨fun pins s σ H R I hw => hw.elim (h.run pins s σ H R I) (h'.run pins s σ H R I)⟩
section
variable {X : Cx} {cl : Nat → Option Addr} {W : WX} {a b c o tg : Expr} {da db dc dO : E} {pos p tpos : Pos}
theorem ji_of (he : JE X cl W a da) : JI X cl W tg a (iOf da) := by
  refine PI.imp (PI.or (pi_list he) (PI.or (pi_tup he) (pi_str he))) fun σ H R ⟨τ, G, m, s, g, p⟩ => ?_
  unfold iOf at p
  cases e : da τ G with
  | none => rw [e] at p; exact p.elim
  | some q =>
    obtain ⟨r, G1⟩ := q
    rw [e] at p
    cases r with
    | exc c => exact .inl ⟨τ, G, m, s, g, by rw [e]; exact p⟩
    | ok v =>
      have p' : Post (kt X cl) (RIt (kt X cl)) W σ m H (itOf v G1) R := p
      unfold itOf at p'
      cases v with
      | tup xs =>
        refine .inr (.inl ⟨τ, G, m, s, g, ?_⟩)
        rw [e]
        intro m1 y H1 e1 g1 r1
        cases r1 with
        | @tup _ ys q hq hr => exact ⟨q, rfl, ⟨ys, hq⟩, p' m1 _ H1 e1 g1 (rit_tup (k := kt X cl) hq hr)⟩
      | rol xs =>
        refine .inl ⟨τ, G, m, s, g, ?_⟩
        rw [e]
        intro m1 y H1 e1 g1 r1
        cases r1 with
        | @rol _ ys q hq hr => exact ⟨q, rfl, ⟨ys, hq.sq⟩, p' m1 _ H1 e1 g1 (rit_rol (k := kt X cl) hq hr)⟩
      | str x =>
        refine .inr (.inr ⟨τ, G, m, s, g, ?_⟩)
        rw [e]
        intro m1 y H1 e1 g1 r1
        cases r1 with
        | str => exact ⟨x, rfl, p' m1 _ H1 e1 g1 (rit_str (k := kt X cl))⟩
      | ref r =>
        refine .inl ⟨τ, G, m, s, g, ?_⟩
        rw [e]
        intro m1 y H1 e1 g1 r1
        cases r1 with
        | @ref _ q hm =>
          dsimp only at p'
          split at p'
          · rename_i xs e2
            obtain ⟨q', ys, h1, h2, h3⟩ := (RD.ref (K := X.K) (H := H1) hm).listOf (k := kt X cl) g1 e2
            cases h1
            exact ⟨q, rfl, ⟨ys, h2⟩, p' m1 _ H1 e1 g1 (rit_list (k := kt X cl) hm)⟩
          · exact p'.elim
      | _ => exact p'.elim
theorem ji_rng1 (hg : Gl X "range") (hm : X.mg "range" = none) (ha : JE X cl W a da) (hs1 : starEach [a] X.env = (false, eval a X.env) :: starEach [] X.env := by rfl) (hs : starEach [a] X.env = [(false, eval a X.env)] := by rfl) :
    JI X cl W tg (.Call (.Name "range" p) [a] [] pos) (D2.iRng1 da) := by
  refine PI.imp (pi_range1 hg hm (pa_cons ha pa_nil hs1) hs) fun σ H R h => ?_
  refine up.first (d := da) (f := fun τ x G1 => match x with
    | .int n => if -(2 ^ 62) ≤ n ∧ n < 2 ^ 62 then some (.ok (jRng 0 n.toNat), G1) else none
    | _ => none) h fun y H1 v G1 m1 τ s1 g1 r1 p1 => ?_
  cases r1 with
  | int n =>
    dsimp only at p1
    split at p1
    · rename_i hl
      exact ⟨n, rfl, hl.1, hl.2, p1.out g1 rit_rng⟩
    · exact p1.elim
  | _ => exact p1.elim
end
end D2
end
section
set_option linter.all false
set_option autoImplicit false
set_option maxRecDepth 100000
namespace D2
open PySem PySem.Spec PyProof.Rows L2 RZ RT
theorem Ext.lst {m m' : List Addr} {H H' : Hp} (e : Ext m H m' H') : True := True.intro
def loopCN (j : ItD) (g : Tg) (t : T) (e : E) (σ0 : Sd) (D : Nat) : Nat → Nat → M Unit
  | 0, _ => fun _ => none
  | n + 1, i => fun G => match j i G with
    | none => none
    | some none => some (.ok (), G)
    | some (some v) => match g v σ0 G with
      | none => none
      | some (σ1, G1) => match t σ1 G1 with
        | some (.ok true, G2) => match e σ1 G2 with
          | some (.ok y, G3) => match mlist G3 D with
            | some xs => if xs.length < sizeLine then loopCN j g t e σ0 D n (i + 1) (G3.set D (.lst (xs ++ [y]))) else none
            | none => none
          | _ => none
        | some (.ok false, G2) => loopCN j g t e σ0 D n (i + 1) G2
        | _ => none
theorem loopC_N (j : ItD) (g : Tg) (t : T) (e : E) (σ0 : Sd) (D : Nat) : ∀ (i : Nat) (G : Hd) (r : R Unit × Hd), loopC j g t e σ0 D i G = some r → ∃ n, loopCN j g t e σ0 D n i G = some r := by
  refine loopC.partial_correctness j g t e σ0 D (fun i G r => ∃ n, loopCN j g t e σ0 D n i G = some r) fun lp ih i G r h => ?_
  split at h
  · cases h
  · rename_i e0
    exact ⟨1, by unfold loopCN; rw [e0]; exact h⟩
  · rename_i v e0
    split at h
    · cases h
    · rename_i σ1 G1 e1
      split at h
      · rename_i G2 e2
        split at h
        · rename_i y G3 e3
          split at h
          · rename_i xs e4
            split at h
            · rename_i hl
              obtain ⟨n, hn⟩ := ih _ _ _ h
              exact ⟨n + 1, by unfold loopCN; rw [e0]; dsimp only; rw [e1]; dsimp only; rw [e2]; dsimp only; rw [e3]; dsimp only; rw [e4]; dsimp only; rw [if_pos hl]; exact hn⟩
            · cases h
          · cases h
        · cases h
      · rename_i G2 e2
        obtain ⟨n, hn⟩ := ih _ _ _ h
        exact ⟨n + 1, by unfold loopCN; rw [e0]; dsimp only; rw [e1]; dsimp only; rw [e2]; exact hn⟩
      · cases h
abbrev W0 : WX := fun _ _ _ _ => False
theorem wipe_eq {σ σ' : L2.St} {vs : List Nat} (h : Kept vs (L2.wipe σ vs) σ') : L2.wipe σ' vs = L2.wipe σ vs := by
  apply List.ext_getElem?
  intro i
  have wn : ∀ (τ : L2.St) (ws : List Nat), i ∉ ws → (L2.wipe τ ws)[i]? = τ[i]? := by
    intro τ ws
    induction ws with
    | nil => intro _; rfl
    | cons w ws ih =>
      intro hi
      rw [List.mem_cons, not_or] at hi
      unfold L2.wipe
      rw [List.getElem?_set_ne (Ne.symm hi.1)]
      exact ih hi.2
  have wy : ∀ (τ τ' : L2.St) (ws : List Nat), τ.length = τ'.length → i ∈ ws → (L2.wipe τ ws)[i]? = (L2.wipe τ' ws)[i]? := by
    intro τ τ' ws hl
    induction ws with
    | nil => intro hi; cases hi
    | cons w ws ih =>
      intro hi
      unfold L2.wipe
      by_cases hw : w = i
      · subst hw
        rw [List.getElem?_set, List.getElem?_set, L2.wipe_length, L2.wipe_length, hl, if_pos rfl, if_pos rfl]
      · rw [List.getElem?_set_ne hw, List.getElem?_set_ne hw]
        rcases List.mem_cons.mp hi with q | q
        · exact absurd q.symm hw
        · exact ih q
  by_cases hi : i ∈ vs
  · exact wy _ _ _ (h.1.trans (L2.wipe_length _ _)) hi
  · rw [wn _ _ hi, h.2 i hi]
section
variable {X : Cx} {cl : Nat → Option Addr} {W : WX} {a b c o tg : Expr} {da db dc dO : E} {pos p tpos : Pos}
abbrev JTs (X : Cx) (cl : Nat → Option Addr) (W : WX) (ifs : List Expr) (d : T) : Prop := PTs X ifs (upT (kt X cl) W d)
theorem jts_nil : JTs X cl W [] D2.tYes := ⟨fun pins s σ H Q I h => by
  obtain ⟨τ, G, m, s', g, p⟩ := h
  exact (pts_nil (X := X)).run pins s σ H Q I (p.out g rfl)⟩
theorem lc_read {it : IE} {g : Tg} {t : T} {e : E} {vs ws : List Nat} {σ : L2.St} {H : Hp} {Q : VK} (hv : ∀ i ∈ ws, i ∈ vs) (h : upE (kt X cl) W (eLc vs it g t e) σ H Q) :
    tLc (up (kt X cl) (RIt (kt X cl)) W it) (upG (kt X cl) ws g) (upT (kt X cl) W0 t) (upE (kt X cl) W0 e) vs σ H Q := by
  refine up.first (Rel := RIt (kt X cl)) (d := it) (f := fun τ j G1 => bnd (loopC j g t e (wipeD τ vs) G1.length 0 (G1 ++ [.lst []])) fun _ => ret (D.ref G1.length)) h fun J H1 j G1 m1 τ1 s1 g1 r1 p1 => ?_
  intro Da hD
  obtain ⟨g2, rD⟩ := g1.moreL (ds := []) (ys := []) hD .nil
  -- the loop ends
  obtain ⟨n0, hn0⟩ : ∃ n, Post (kt X cl) (RD X.K) W σ m1 H1 (bnd (loopCN j g t e (wipeD τ1 vs) G1.length n 0 (G1 ++ [.lst []])) fun _ => ret (D.ref G1.length)) Q := by
    cases el : loopC j g t e (wipeD τ1 vs) G1.length 0 (G1 ++ [.lst []]) with
    | none => rw [el] at p1; exact p1.elim
    | some r =>
      obtain ⟨n, hn⟩ := loopC_N j g t e _ _ _ _ _ el
      exact ⟨n, by rw [hn, ← el]; exact p1⟩
  have hDm : (m1 ++ [Da])[G1.length]? = some Da := by rw [← g1.len]; simp
  refine ⟨fun i n H' => ∃ (G : Hd) (m : List Addr), Ext (m1 ++ [Da]) (upd H1 Da (.lst [])) m H' ∧ RG (kt X cl) m G H' ∧ Post (kt X cl) (RD X.K) W σ m H' (bnd (loopCN j g t e (wipeD τ1 vs) G1.length n i G) fun _ => ret (D.ref G1.length)) Q,
    ⟨n0, _, _, .refl, g2, Post.ext (.more hD) hn0⟩, ?_⟩
  rintro i n H' ⟨G, m, ex, gg, p⟩
  have ex1 : Ext m1 H1 m H' := (Ext.more (m := m1) hD).trans ex
  cases n with
  | zero => exact p.elim
  | succ n =>
    have rj := r1 i m G H' ex1 gg
    unfold loopCN at p
    cases ej : j i G with
    | none => rw [ej] at p; exact p.elim
    | some oj =>
      rw [ej] at rj p
      cases oj with
      | none =>
        refine .inl ⟨rj, ?_⟩
        have p' : Post (kt X cl) (RD X.K) W σ m H' (some (.ok (D.ref G1.length), G)) Q := p
        exact p'.out gg (.ref (ex.get hDm))
      | some v =>
        obtain ⟨go, yl⟩ := rj
        refine .inr ⟨go, fun H'' => ∃ n', n' < n + 1 ∧ ∃ (G : Hd) (m : List Addr), Ext (m1 ++ [Da]) (upd H1 Da (.lst [])) m H'' ∧ RG (kt X cl) m G H'' ∧ Post (kt X cl) (RD X.K) W σ m H'' (bnd (loopCN j g t e (wipeD τ1 vs) G1.length n' (i + 1) G) fun _ => ret (D.ref G1.length)) Q, fun H' q => q, fun x H2 hy => ?_⟩
        obtain ⟨e2, g3, r2⟩ := yl x H2 hy
        dsimp only at p
        refine ⟨wipeD τ1 vs, G, m, v, (s1.wipe vs).ext (ex1.trans e2), g3, r2, ?_⟩
        cases eg : g v (wipeD τ1 vs) G with
        | none => rw [eg] at p; exact p.elim
        | some q =>
          obtain ⟨τ3, G3⟩ := q
          rw [eg] at p
          dsimp only at p ⊢
          intro m4 σ4 H4 e4 s4 g4 k4
          refine ⟨wipe_eq ⟨k4.1, fun i hi => k4.2 i fun z => hi (hv i z)⟩, ?_⟩
          have ex4 := (ex.trans e2).trans e4
          have p4 := Post.ext (e2.trans e4) p
          clear p
          refine ⟨τ3, G3, m4, s4, g4, ?_⟩
          cases et : t τ3 G3 with
          | none => rw [et] at p4; exact p4.elim
          | some q =>
            obtain ⟨rr, G5⟩ := q
            rw [et] at p4
            cases rr with
            | exc c => exact p4.elim
            | ok bb =>
              intro m5 y5 H5 e5 g5 r5
              obtain rfl : bb = y5 := r5
              have p5 := Post.ext e5 p4
              clear p4
              cases bb with
              | false => exact iteF ⟨n, Nat.lt_succ_self n, G5, m5, ex4.trans e5, g5, p5⟩
              | true =>
                refine iteT ⟨τ3, G5, m5, s4.ext e5, g5, ?_⟩
                dsimp only at p5
                cases ee : e τ3 G5 with
                | none => rw [ee] at p5; exact p5.elim
                | some q =>
                  obtain ⟨rr, G6⟩ := q
                  rw [ee] at p5
                  cases rr with
                  | exc c => exact p5.elim
                  | ok yv =>
                    intro m6 y6 H6 e6 g6 r6
                    have p6 := Post.ext e6 p5
                    clear p5
                    dsimp only at p6
                    cases el : mlist G6 G1.length with
                    | none => rw [el] at p6; exact p6.elim
                    | some xs =>
                      rw [el] at p6
                      dsimp only at p6
                      obtain ⟨a', ys, h1, h2, h3⟩ := g6.lst el
                      have hD6 : m6[G1.length]? = some Da := ((ex4.trans e5).trans e6).get hDm
                      rw [hD6] at h1
                      cases h1
                      by_cases hl : xs.length < sizeLine
                      · rw [if_pos hl] at p6
                        obtain ⟨g7, e7⟩ := g6.putL hD6 h2 (h3.append (.one r6))
                        exact ⟨ys, h2, by rw [← h3.length]; exact hl, n, Nat.lt_succ_self n, _, m6, ((ex4.trans e5).trans e6).trans e7, g7, Post.ext e7 p6⟩
                      · rw [if_neg hl] at p6
                        exact p6.elim
theorem je_lc {elt iter : Expr} {ifs : List Expr} {scope : Scope} {own : List (Str × Nat)} {it : IE} {g : Tg} {t : T} {e : E} {ws : List Nat} (hc : X.calm = true) (hN : X.N.Nodup) (hi : JI X cl W tg iter it) (ok : BlkOk X.N X.env.scope scope own) (hv : ∀ i ∈ ws, i ∈ own.map (·.2))
    (hg : ∀ (s : Shared) (H : Hp) (C : Addr) (cs : List (Str × Addr)) (fp : List Addr), JG (X.blk s H scope (compEnvC scope cs C X.env) fp) cl ws tg g) (ht : ∀ (s : Shared) (H : Hp) (C : Addr) (cs : List (Str × Addr)) (fp : List Addr), JTs (X.blk s H scope (compEnvC scope cs C X.env) fp) cl W0 ifs t)
    (he : ∀ (s : Shared) (H : Hp) (C : Addr) (cs : List (Str × Addr)) (fp : List Addr), JE (X.blk s H scope (compEnvC scope cs C X.env) fp) cl W0 elt e) (hs : ∀ x, foldedSetIterable iter X.env x = pure x := by intro _; rfl) :
    JE X cl W (.ListComp elt [⟨tg, iter, ifs, 0⟩] scope pos) (eLc (own.map (·.2)) it g t e) :=
  PE.imp (pe_lc (g := upG (kt X cl) ws g) (tt := upT (kt X cl) W0 t) (te := upE (kt X cl) W0 e) hc hN hi ok hg ht he hs) fun σ H Q h => lc_read hv h
end
section
variable {P : Program} {w : World} {K : PySem.W.Frag} {mg : Str → Option Value} {base : Heap} {cl : Nat → Option Addr}
abbrev cxD (P : Program) (w : World) (K : PySem.W.Frag) (mg : Str → Option Value) (base : Heap) (N : List Str) (qual : Str) (st : Stmt) (f : Addr) (cdv : Value) (A : Around) (outer : List PySem.Env) (s : Shared) (H : Hp) (E : XK) : Cx :=
  cxOf (L2.CX P w) P w K mg base N qual (defScope st) f cdv A outer s H E
theorem def_ok {x qual : Str} {st : Stmt} {f : Addr} {fd : FuncData} {N ps : List Str} {n : Nat} {b : D2.S} (F : L2.Fun K x qual st f fd) (S : FnScope N ps (defScope st)) (hn : ps.length = n)
    (k : Nat) (hb : ∀ (cdv : Value) (A : Around) (outer : List PySem.Env) (s : Shared) (H : Hp) (E : XK), Room k (A.deeper (envOfC qual (defScope st) s.heap.objs.size f cdv)) →
      JSs (cxD P w K mg base N qual st f cdv A outer s H E) cl (fun cls d _ H => E cls d H) (defBody st) b) :
    FnOk P w K mg base (L2.CX P w) (k + 1) f fd ps (spD ⟨K, cl, P, w⟩ (runFn N.length n b)) := by
  have len : ∀ {m : List Addr} {H : Hp} {G : Hd} {ds : List D} {vs : List V} {Q : VK} {E : XK}, RDs K m H ds vs → Post ⟨K, cl, P, w⟩ (RD K) (fun cls d _ H => E cls d H) [] m H (runFn N.length n b ds G) Q → ds.length = n ∧ vs.length = ps.length := by
    intro m H G ds vs Q E r p
    unfold runFn at p
    split at p
    · rename_i hl
      exact ⟨hl, by rw [← r.length, hl, hn]⟩
    · exact p.elim
  refine F.okX S (fun vs H Q E ⟨ds, G, m, r, g, p⟩ => (len r p).2) (fun cdv A outer s H vs Q E hr ⟨ds, G, m, r, g, p⟩ => ?_)
  refine ⟨_, hb cdv A outer s H E hr, ?_⟩
  obtain ⟨hl, hl2⟩ := len r p
  refine ⟨ds.map some ++ List.replicate (N.length - n) none, G, m, ?_, g, ?_⟩
  · unfold L2.start
    rw [hl2, hn]
    exact RS.start _ r
  · unfold runFn at p
    rw [if_pos hl] at p
    generalize b (ds.map some ++ List.replicate (N.length - n) none) G = x at p
    cases x with
    | none => exact p.elim
    | some q =>
      obtain ⟨fl, τ, G1⟩ := q
      cases fl with
      | nx => exact fun m' σ' H' e _ g' => p m' _ H' e g' .non
      | rt v => exact fun m' y H' e g' r' => p m' y H' e g' r'
      | exc c =>
        obtain ⟨C, hc, h⟩ := p
        exact ⟨C, hc, fun m' σ' H' e _ g' => h m' H' e g'⟩
      | bk => exact p.elim
      | ct => exact p.elim
end
end D2
end
section
set_option linter.all false
set_option autoImplicit false
set_option maxRecDepth 100000
namespace D2
open PySem PySem.Spec PyProof.Rows L2 RZ RT
def fdOf (K : PySem.W.Frag) (a : Addr) : FuncData := match K.lookup a with
  | some ⟨_, _, .func fd, _⟩ => fd
  | _ => default
section
variable {P : Program} {w : World} {K : PySem.W.Frag} {mg : Str → Option Value} {base : Heap} {N : List Str} {qual : Str} {st : Stmt} {f : Addr} {cdv : Value} {A : Around} {outer : List PySem.Env} {s : Shared} {H : Hp} {E : XK}
theorem takes_def : Takes (cxD P w K mg base N qual st f cdv A outer s H E) (fun cls d _ H => E cls d H) := takes_of rfl rfl rfl rfl
theorem passes_def : PassesOwn (model P w) (cxD P w K mg base N qual st f cdv A outer s H E).A (cxD P w K mg base N qual st f cdv A outer s H E).env (cxD P w K mg base N qual st f cdv A outer s H E).xe := PassesOwn.leaving
end
section
variable {X : Cx} {cl : Nat → Option Addr} {W : WX} {a b c o tg : Expr} {da db dc dO : E} {pos p tpos apos cpos : Pos}
theorem sem_index : Sem2 X cl mIndex fun v w => L2.rIndex X.K v [w] := by
  intro W σ m H G x y v w Q g r1 r2 p
  unfold mIndex at p
  split at p
  · rename_i ys e
    obtain ⟨q, vs, rfl, hq, hr⟩ := r1.listOf (k := kt X cl) g e
    split at p
    · rename_i v' vs' e1 e2
      obtain ⟨rfl, f1⟩ := r2.fl e1
      obtain ⟨rfl, f2⟩ := hr.fl e2
      split at p
      · rename_i j ej
        obtain ⟨z, h1, h2, h3⟩ := findIdx_flat ej
        exact ⟨q, _, _, j, z, rfl, rfl, hq, f1, f2, h1, h2, fun i z' hi hz => h3 i hi z' hz, p.out g (.int _)⟩
      · exact p.elim
    · exact p.elim
  · exact p.elim
theorem je_index (ho : JE X cl W o dO) (ha : JE X cl W a da) (hbase : attributeBase o "index" X.env (eval o X.env) = eval o X.env := by rfl)
    (hfew : ((backTo cpos (starEach (a :: []) X.env)).all (fun x => !x.1) && (backToKw cpos (keywordEach [] X.env)).all (fun x => x.1.isSome)
      && decide ((a :: []).length + ([] : List Keyword).length + (if ([] : List Keyword).isEmpty then 0 else 1) < 30)) = true := by rfl)
    (hline : (apos.endLine == cpos.line) = true := by rfl) (hst : starEach (a :: []) X.env = (false, eval a X.env) :: starEach [] X.env := by rfl) (hpl : (backTo cpos (starEach [] X.env)).any (·.1) = false := by rfl) :
    JE X cl W (.Call (.Attribute o "index" apos) [a] [] cpos) (eMl mIndex dO da) :=
  je_ml PySem.F.plainAttrs_list PySem.F.slot_list_index PySem.F.type_list_index mt_index sem_index ho ha hbase hfew hline hst hpl
section
variable {k : Kit} {m : List Addr} {H : Hp}
end
end
end D2
end
section
set_option linter.all false
set_option autoImplicit false
set_option maxRecDepth 100000
namespace D2
open PySem PySem.Spec PyProof.Rows L2

def TK (K : PySem.W.Frag) (H : Hp) (k : NestedKey) (a : Addr) : Prop := ∃ (m : List Addr) (d : D), RD K m H d (.ref a) ∧ tk d = some k
structure DitAt (X : Cx) (H : Hp) (p : Addr) (xs : List (NestedKey × Addr × V)) : Prop where
  at_ : H p = some (.ext (DitO X.prog X.w p xs))
  hd : (p == sysModules) = false
  le : xs.length ≤ sizeLine
  nd : (xs.map (·.1)).Nodup
  ks : ∀ q ∈ xs, TK X.K H q.1 q.2.1
section
variable {X : Cx} {cl : Nat → Option Addr} {W : WX} {pins : List (Addr × Obj)} {σ : L2.St} {H : Hp} {s : Shared} {m : List Addr} {p : Addr} {xs : List (NestedKey × Addr × V)}
mutual
theorem nk_is (I : Inv X pins σ H s) : ∀ {d : D} {v : V} {u : Value} {k : NestedKey}, RD X.K m H d v → RelV v u → nk d = some k → NestedIs s.heap k u
  | _, _, _, _, .non, r, h => by
    unfold nk at h
    cases h
    obtain rfl := (show _ = Value.none from r)
    exact .none
  | _, _, _, _, .bl b, r, h => by
    unfold nk at h
    cases h
    obtain rfl := (show _ = Value.bool b from r)
    exact .bool rfl
  | _, _, _, _, .int i, r, h => by
    unfold nk at h
    cases h
    obtain ⟨t, rfl⟩ := (show ∃ t, _ = Value.int i t from r)
    exact .int i t
  | _, _, _, _, .str x, r, h => by
    unfold nk at h
    cases h
    obtain ⟨t, rfl⟩ := (show ∃ t, _ = Value.str x t from r)
    exact .text x t
  | _, _, _, _, .ref _, r, h => by
    unfold nk at h
    cases h
  | _, _, _, _, .rol _ _, r, h => by
    unfold nk at h
    cases h
  | _, _, _, _, .tup (a := a) hq hr, r, h => by
    unfold nk at h
    split at h
    · rename_i ks e
      cases h
      obtain rfl := (show _ = Value.ref a from r)
      obtain ⟨its, rv, ⟨o, ho, hc, n, hd⟩, _⟩ := I.tuple hq
      exact .tup ho hc hd (by simpa using nks_is I hr rv e)
    · cases h
theorem nks_is (I : Inv X pins σ H s) : ∀ {ds : List D} {vs : List V} {us : List Value} {ks : List NestedKey}, RDs X.K m H ds vs → Vals vs us → nks ds = some ks → NestedAll s.heap ks us
  | _, _, _, _, .nil, r, h => by
    unfold nks at h
    cases h
    cases r
    exact .nil
  | _, _, _, _, .cons a b, r, h => by
    unfold nks at h
    split at h
    · rename_i k ks e1 e2
      cases h
      cases r with
      | cons r1 r2 => exact .cons (nk_is I a r1 e1) (nks_is I b r2 e2)
    · cases h
end
theorem tk_nk {d : D} {k : NestedKey} (h : tk d = some k) : nk d = some k ∧ k.depth ≤ 8 := by
  unfold tk at h
  split at h
  · split at h
    · rename_i ks e
      split at h
      · cases h
        refine ⟨?_, by assumption⟩
        unfold nk
        rw [e]
      · cases h
    · cases h
  · cases h
theorem TK.is (I : Inv X pins σ H s) {k : NestedKey} {a : Addr} (h : TK X.K H k a) : (nestedKind X.prog X.w).is s.heap k a := by
  obtain ⟨m, d, r, e⟩ := h
  obtain ⟨e1, e2⟩ := tk_nk e
  exact ⟨nk_is (m := m) I r (show Value.ref a = Value.ref a from rfl) e1, e2⟩
theorem DitAt.dict (d : DitAt X H p xs) (I : Inv X pins σ H s) : ∃ ys : List (NestedKey × Addr × Value), Paired (fun p q => p.1 = q.1 ∧ p.2.1 = q.2.1 ∧ RelV p.2.2 q.2.2) xs ys ∧ s.heap.DictOfH (nestedKind X.prog X.w) p ys := by
  obtain ⟨⟨ys, o, es, ep, r, h1, h2, h3, h4⟩, _⟩ := (show ObjOk X.prog X.w H s.heap p (.ext (DitO X.prog X.w p xs)) from I.hok p _ d.at_)
  have ks : ∀ {l : List (NestedKey × Addr × V)} {l' : List (NestedKey × Addr × Value)}, Paired (fun p q => p.1 = q.1 ∧ p.2.1 = q.2.1 ∧ RelV p.2.2 q.2.2) l l' → (∀ q ∈ l, TK X.K H q.1 q.2.1) → (∀ x ∈ l', TK X.K H x.1 x.2.1) ∧ l.map (·.1) = l'.map (·.1) := by
    intro l l' q
    induction q with
    | nil => exact fun _ => ⟨fun x hx => (nomatch hx), rfl⟩
    | @cons p q ps qs hq t ih =>
      intro z
      obtain ⟨i1, i2⟩ := ih fun x hx => z x (List.mem_cons_of_mem _ hx)
      refine ⟨fun x hx => ?_, by rw [List.map_cons, List.map_cons, i2, hq.1]⟩
      rcases List.mem_cons.mp hx with e | hx
      · subst e
        have := z p (List.mem_cons_self ..)
        rw [hq.1, hq.2.1] at this
        exact this
      · exact i1 x hx
  obtain ⟨k1, k2⟩ := ks r d.ks
  exact ⟨ys, r, o, es, ep, h1, h2, h3, h4, fun x hx => (k1 x hx).is I, by rw [← k2]; exact d.nd⟩
abbrev PR (xs : List (NestedKey × Addr × V)) (ys : List (NestedKey × Addr × Value)) : Prop := Paired (fun p q => p.1 = q.1 ∧ p.2.1 = q.2.1 ∧ RelV p.2.2 q.2.2) xs ys
def atV (xs : List (NestedKey × Addr × V)) (k : NestedKey) : Option V := (xs.find? fun x => decide (x.1 = k)).map (·.2.2)
theorem PR.val {xs : List (NestedKey × Addr × V)} {ys : List (NestedKey × Addr × Value)} (r : PR xs ys) (k : NestedKey) : RelO (atV xs k) ((atKey ys k).map (·.2)) := by
  induction r with
  | nil => exact True.intro
  | @cons p q ps qs h t ih =>
    obtain ⟨h1, _, h2⟩ := h
    by_cases e : p.1 = k
    · have e' : q.1 = k := h1.symm.trans e
      have a : atV (p :: ps) k = some p.2.2 := by simp [atV, List.find?_cons, e]
      have b : atKey (q :: qs) k = some q.2 := by simp [atKey, List.find?_cons, e']
      rw [a, b]; exact h2
    · have e' : ¬ q.1 = k := fun z => e (h1.trans z)
      have a : atV (p :: ps) k = atV ps k := by simp [atV, List.find?_cons, e]
      have b : atKey (q :: qs) k = atKey qs k := by simp [atKey, List.find?_cons, e']
      rw [a, b]; exact ih
def putX (xs : List (NestedKey × Addr × V)) (k : NestedKey) (a : Addr) (v : V) : List (NestedKey × Addr × V) :=
  if (atV xs k).isSome = true then xs.map (fun x => if x.1 = k then (x.1, x.2.1, v) else x) else xs ++ [(k, a, v)]
theorem PR.put {xs : List (NestedKey × Addr × V)} {ys : List (NestedKey × Addr × Value)} (r : PR xs ys) (k : NestedKey) (a : Addr) {v : V} {u : Value} (h : RelV v u) : PR (putX xs k a v) (storedH ys k a u) := by
  have e : (atV xs k).isSome = (atKey ys k).isSome := by rw [(r.val k).isSome_eq, Option.isSome_map]
  unfold putX storedH
  rw [e]
  by_cases q : (atKey ys k).isSome = true
  · rw [if_pos q, if_pos q]
    clear e q
    induction r with
    | nil => exact .nil
    | @cons p q ps qs h' t ih =>
      rw [List.map_cons, List.map_cons]
      refine .cons ?_ ih
      obtain ⟨h1, h2, h3⟩ := h'
      unfold putAt
      by_cases e : p.1 = k
      · rw [if_pos e, if_pos (h1.symm.trans e)]; exact ⟨h1, h2, h⟩
      · rw [if_neg e, if_neg (fun z => e (h1.trans z))]; exact ⟨h1, h2, h3⟩
  · rw [if_neg q, if_neg q]
    exact Paired.snoc r ⟨rfl, rfl, h⟩

end
section
variable {X : Cx} {cl : Nat → Option Addr} {W : WX} {m : List Addr} {G : Hd} {H : Hp}
theorem RG.dit (g : RG (kt X cl) m G H) {i : Nat} {kvs : List (D × D)} (h : dits G i = some kvs) : ∃ p xs, m[i]? = some p ∧ DitAt X H p xs ∧ kvs.length = xs.length ∧
    Paired (fun (p : D × D) (q : NestedKey × Addr × V) => tk p.1 = some q.1 ∧ RD X.K m H p.1 (.ref q.2.1) ∧ RD X.K m H p.2 q.2.2) kvs xs := by
  unfold dits at h
  split at h
  · rename_i xs e
    cases h
    obtain ⟨a, u, h1, h2, ys, rfl, h3, h4, h5, h6⟩ := g.get e
    have h7 := Paired.length h6
    refine ⟨a, ys, h1, ⟨h2, h3, by omega, h5, ?_⟩, h7, h6⟩
    clear h2 h4 h5 h7 e g
    induction h6 with
    | nil => exact fun _ h => nomatch h
    | cons h t ih =>
      intro q hq
      rcases List.mem_cons.mp hq with e | hq
      · subst e
        exact ⟨m, _, h.2.1, h.1⟩
      · exact ih q hq
  · cases h
section
variable {kk : Nat} (hr : Room kk X.A) {a b : Expr} {da db : E} {pos : Pos}
include hr
end
theorem PSet.or {t t' : TSet} (h : PSet X t) (h' : PSet X t') : PSet X (fun o i v H Q => t o i v H Q ∨ t' o i v H Q) := fun pins s σ H o i v ov iv u Q I r1 r2 r3 q =>
  q.elim (h pins s σ H o i v ov iv u Q I r1 r2 r3) (h' pins s σ H o i v ov iv u Q I r1 r2 r3)
end
end D2
end
section
set_option linter.all false
set_option autoImplicit false
namespace D2
open PySem L2 PyProof.Rows
def calmS (x : SR) : SR := match x with
  | some (.exc _, _, _) => none
  | y => y
def wipeS (i : Nat) (x : SR) : SR := match x with
  | some (.exc _, _, _) => none
  | some (f, σ, G) => some (f, σ.set i none, G)
  | none => none
def sTryAs (b : S) (is : Nat → Option Bool) (i : Nat) (h : Nat → S) : S := fun σ G => match b σ G with
  | some (.exc c, σ1, G1) => match is c with
    | some true => if i < σ1.length then wipeS i (h c (σ1.set i none) G1) else none
    | some false => some (.exc c, σ1, G1)
    | none => none
  | y => y
def mIndexA (o y : D) : M D := fun G => match o with
  | .str a => match y with
    | .str b => match Builtin.Str.occurrences a b 0 a.length 1 with
      | i :: _ => some (.ok (.int (i : Nat)), G)
      | [] => none
    | _ => none
  | _ => mIndex o y G
def eMa (f : D → D → M D) (o a : E) : E := fun σ G => bnd (o σ G) fun x G1 => if (isL G1 x || isS x) = true then bnd (a σ G1) fun y => f x y else none
end D2
end
section
set_option linter.all false
set_option autoImplicit false
set_option maxRecDepth 100000
namespace D2
open PySem PySem.Spec PyProof.Rows L2
theorem PSs.ex {ι : Type} {X : Cx} {e : List Stmt} {P : ι → Prop} {t : ι → TS} (h : ∀ i, P i → PSs X e (t i)) : PSs X e (fun D σ H => ∃ i, P i ∧ t i D σ H) :=
  ⟨fun pins s σ H D I ⟨i, p, q⟩ => (h i p).run pins s σ H D I q⟩
section
variable {k : Kit} {W : WX} {m : List Addr} {H : Hp} {D : Ends}
theorem PostS.calm {x : SR} (p : PostS k W m H (calmS x) D) : PostS k W0 m H x D := by
  unfold calmS at p
  cases x with
  | none => exact p
  | some q =>
    obtain ⟨f, σ, G⟩ := q
    cases f with
    | exc c => exact p.elim
    | _ => exact p
theorem PostS.wiped {x : SR} {i : Nat} (p : PostS k W m H (wipeS i x) D) : PostS k W0 m H x { nx := fun σ' H' => D.nx (σ'.set i none) H', rt := D.rt, bk := fun σ' H' => D.bk (σ'.set i none) H', ct := fun σ' H' => D.ct (σ'.set i none) H' } := by
  unfold wipeS at p
  cases x with
  | none => exact p
  | some q =>
    obtain ⟨f, σ, G⟩ := q
    cases f with
    | exc c => exact p.elim
    | nx => exact fun m' σ' H' e r g => p m' _ H' e (r.forget i none) g
    | bk => exact fun m' σ' H' e r g => p m' _ H' e (r.forget i none) g
    | ct => exact fun m' σ' H' e r g => p m' _ H' e (r.forget i none) g
    | rt v => exact p
end
section
variable {X : Cx} {cl : Nat → Option Addr} {W : WX} {x n : Str} {c : Value} {i : Nat} {body suite : List Stmt} {b₀ : Stmt} {np pos pos' : Pos} {sb : S} {is : Nat → Option Bool} {h : Nat → S}
def IsOk (K : PySem.W.Frag) (cl : Nat → Option Addr) (c : Value) (is : Nat → Option Bool) : Prop := ∀ (n : Nat) (b : Bool), is n = some b → ∃ C, cl n = some C ∧ PySem.W.exmOne K (.ref C) c = some b
abbrev tsE (X : Cx) (cl : Nat → Option Addr) (is : Nat → Option Bool) (t : Nat → Addr → TS) : Addr → Value → Option Addr → TS := fun a cls d D σ H => ∃ p : Nat × Addr, (cl p.1 = some p.2 ∧ is p.1 = some true ∧ cls = .ref p.2 ∧ d = none) ∧ t p.1 a D σ H
abbrev Held (i : Nat) (a : Addr) : L2.St → Prop := fun σ => σ[i]? = some (some (.ref a))
theorem js_tryAs (hst : X.stack = X.env :: X.outer) (hf : X.env.frame = some X.env.locals) (hN : X.N.Nodup) (hi : X.N[i]? = some n) (hln : X.env.kindOf n = some .local) (hc : Names X x c) (tk : Takes X W) (hx : IsOk X.K cl c is)
    (hb : ∀ (W' : WX) (pn : List (Addr × Obj)) (xe : Value → Shared → Prop), Takes (X.tr pn xe) W' → PassesOwn (model X.prog X.w) X.A X.env xe → JSs (X.tr pn xe) cl W' body sb)
    (hsu : ∀ (n : Nat) (C a : Addr) (oe : Obj) (pn : List (Addr × Obj)), cl n = some C → is n = some true → Zc (.ref C) none oe → (∃ vs, oe.data = .fields vs) → PSs (X.suite a ((a, oe) :: pn)) (b₀ :: suite) fun D σ H => Held i a σ ∧ upS (kt X cl) W0 (h n) D σ H) :
    JS X cl W (.Try body [.ExceptHandler (some (.Name x np)) (some n) (b₀ :: suite) pos'] [] [] pos) (sTryAs sb is i h) := by
  refine PS.imp (ps_try_as (tb := fun W' => upS (kt X cl) W' sb) (ts := tsE X cl is fun n a D σ H => Held i a σ ∧ upS (kt X cl) W0 (h n) D σ H) (Wout := W) hst hf hN hi hln hc tk hb fun a oe cls d pn hz hv => ?_) fun D σ H ⟨τ, G, m, s, g, p⟩ => ?_
  · refine PSs.ex fun p ⟨h1, h2, h3, h4⟩ => ?_
    subst h3 h4
    exact hsu p.1 p.2 a oe pn h1 h2 hz hv
  · refine ⟨τ, G, m, s, g, ?_⟩
    unfold sTryAs at p
    cases e : sb τ G with
    | none => rw [e] at p; exact p.elim
    | some q =>
      obtain ⟨f, τ1, G1⟩ := q
      rw [e] at p
      cases f with
      | exc n =>
        dsimp only at p
        cases ei : is n with
        | none => rw [ei] at p; exact p.elim
        | some b =>
          rw [ei] at p
          obtain ⟨C, h1, h2⟩ := hx n b ei
          refine ⟨C, h1, fun m' σ' H' ex r' g' => ⟨b, h2, fun hb a ha => ?_, fun hb => ?_⟩⟩
          · subst hb
            dsimp only at p
            by_cases hl : i < τ1.length
            · rw [if_pos hl] at p
              refine ⟨(n, C), ⟨h1, ei, rfl, rfl⟩, ?_, τ1.set i none, G1, m', r'.forget i _, g', (PostS.ext ex p).wiped⟩
              show (σ'.set i (some (.ref a)))[i]? = some (some (.ref a))
              rw [List.getElem?_set_self (by rw [← r'.length]; exact hl)]
            · rw [if_neg hl] at p
              exact p.elim
          · subst hb
            obtain ⟨C', h3, h4⟩ := p
            have h3' : cl n = some C' := h3
            rw [h1] at h3'
            cases h3'
            exact h4 m' σ' H' ex r' g'
      | nx => exact p
      | bk => exact p
      | ct => exact p
      | rt v => exact p
end
section
variable {X : Cx} {cl : Nat → Option Addr} {φ : L2.St → Prop} {a b c : Expr} {da db dc : E} {pos : Pos}
abbrev GE (X : Cx) (cl : Nat → Option Addr) (φ : L2.St → Prop) (e : Expr) (d : E) : Prop := PE X e fun σ H Q => φ σ ∧ upE (kt X cl) W0 d σ H Q
abbrev GS (X : Cx) (cl : Nat → Option Addr) (φ : L2.St → Prop) (e : Stmt) (s : S) : Prop := PS X e fun D σ H => φ σ ∧ upS (kt X cl) W0 s D σ H
abbrev GSs (X : Cx) (cl : Nat → Option Addr) (φ : L2.St → Prop) (e : List Stmt) (s : S) : Prop := PSs X e fun D σ H => φ σ ∧ upS (kt X cl) W0 s D σ H
theorem ge_of (h : JE X cl W0 a da) : GE X cl φ a da := PE.imp h fun _ _ _ h => h.2
variable {rest : List Expr}
theorem ge_one {op : BoolOp} (h : GE X cl φ a da) : GE X cl φ (.BoolOp op [a] pos) da := pe_one h
theorem ge_and (ha : GE X cl φ a da) (hb : GE X cl φ (.BoolOp .And (b :: rest) pos) db) : GE X cl φ (.BoolOp .And (a :: b :: rest) pos) (eAnd da db) := by
  refine PE.imp (pe_andT ha hb) fun σ H Q ⟨f, h⟩ => ⟨f, ?_⟩
  refine up.first (d := da) (f := fun τ x G1 => match tru G1 x with | some true => db τ G1 | some false => some (.ok x, G1) | none => none) h fun y H1 v G1 m1 τ s1 g1 r1 p1 => ?_
  split at p1
  · rename_i e
    exact ⟨true, Post.tru e g1 r1, iteT ⟨f, τ, G1, m1, s1, g1, p1⟩⟩
  · rename_i e
    exact ⟨false, Post.tru e g1 r1, iteF (p1.out g1 r1)⟩
  · exact p1.elim
theorem ge_not (ha : GE X cl φ a da) : GE X cl φ (.UnaryOp .Not a pos) (eNot da) := by
  refine PE.imp (pe_notT ha) fun σ H Q ⟨f, h⟩ => ⟨f, ?_⟩
  refine up.first (d := da) (f := fun τ x G1 => match tru G1 x with | some k => some (.ok (D.bl (!k)), G1) | none => none) h fun y H1 v G1 m1 τ s1 g1 r1 p1 => ?_
  split at p1
  · rename_i c e
    exact ⟨c, Post.tru e g1 r1, p1.out g1 (.bl _)⟩
  · exact p1.elim
variable {ta tb : T}
theorem gs_ret (h : GE X cl φ a da) : GS X cl φ (.Return (some a) pos) (sRet da) := by
  refine PS.imp (ps_ret h) fun D σ H ⟨f, h⟩ => ⟨f, ?_⟩
  exact upS.first (d := da) (f := fun τ v G1 => some (.rt v, τ, G1)) h fun y H1 v G1 m1 τ s1 g1 r1 p1 => p1 m1 y H1 .refl g1 r1
theorem gss_one {st : Stmt} {s : S} (h1 : GS X cl φ st s) : GSs X cl φ [st] s := pss_one h1
theorem ge_isE {C q : Addr} {oe : Obj} {pn : List (Addr × Obj)} {i : Nat} {y z : Str} {v : V} {cv : Value} {r : Bool} {p p2 p3 : Pos} (he : ExcC X.K C) (hz : Zc (.ref C) none oe) (hv : ∃ vs, oe.data = .fields vs) (hg : Gl (X.suite q ((q, oe) :: pn)) "isinstance") (hm : X.mg "isinstance" = none)
    (vy : PE (X.suite q ((q, oe) :: pn)) (.Name y p2) (tVar i)) (vz : PE (X.suite q ((q, oe) :: pn)) (.Name z p3) (tC v)) (hcv : ∀ u, RelV v u → u = cv) (hk : PySem.W.kitOne X.K (.ref C) cv = some r)
    (hs2 : starEach [.Name y p2, .Name z p3] (X.suite q ((q, oe) :: pn)).env = (false, eval (.Name y p2) (X.suite q ((q, oe) :: pn)).env) :: starEach [.Name z p3] (X.suite q ((q, oe) :: pn)).env := by rfl)
    (hs1 : starEach [.Name z p3] (X.suite q ((q, oe) :: pn)).env = (false, eval (.Name z p3) (X.suite q ((q, oe) :: pn)).env) :: starEach [] (X.suite q ((q, oe) :: pn)).env := by rfl)
    (hpl : (backTo pos (starEach [.Name z p3] (X.suite q ((q, oe) :: pn)).env)).any (·.1) = false := by rfl) :
    GE (X.suite q ((q, oe) :: pn)) cl (Held i q) (.Call (.Name "isinstance" p) [.Name y p2, .Name z p3] [] pos) (eC (.bl r)) := by
  refine PE.imp (pe_callB (X := X.suite q ((q, oe) :: pn)) (call_isE he hz hv) hg hm (by decide +kernel) (pa_cons vy (pa_cons vz pa_nil hs1) hs2) (he := hs2) (hpl := hpl)) fun σ H Q ⟨f, τ, G, m, s, g, p⟩ => ?_
  exact ⟨.ref q, f, v, cv, r, rfl, hcv, hk, p.out g (.bl _)⟩
theorem js_raiseC {W : WX} {x m : Str} {C : Addr} {n j : Nat} {p p2 pos' : Pos} (q : PySem.W.excIn X.K C He.veBase "ValueError.__new__" = true ∧ PySem.W.keepIn X.K (.ref C) = true ∧ PySem.W.subIn X.K (.ref C) (.type "BaseException") = some true ∧ PySem.W.typeIn X.K (.ref C) = some (.type "type"))
    (gC : X.mg x = some (.ref C)) (hn : cl n = some C) (hc : X.calm = true) (tk : Takes X W) (hg : Gl X x) (hdb : (x == ("__debug__" : Str)) = false := by decide) :
    JS X cl W (.Raise (some (.Call (.Name x p) [.Constant (.str m) j p2] [] pos)) none pos') (sRaise n) :=
  js_raise hc tk hn (pmk_own PySem.F.excBase_ValueError q.1 gC q.2.1 (raises_own q.2.2.1 q.2.2.2) hg hdb)
end
end D2
end
section
set_option linter.all false
set_option autoImplicit false
set_option maxRecDepth 100000
namespace D2
open PySem PySem.Spec PyProof.Rows L2
mutual
def cB (K : PySem.W.Frag) : D → Value → Bool
  | .non, .none => true
  | .bl b, .bool c => b == c
  | .int i, .int j _ => decide (i = j)
  | .str x, .str y _ => decide (x = y)
  | .tup ds, .ref a => match K.lookup a with
    | some ⟨.type c, _, .seq its _, _⟩ => decide (c = "tuple") && (decide (its.size ≤ sizeLine) && cBs K ds its.toList)
    | _ => false
  | _, _ => false
def cBs (K : PySem.W.Frag) : List D → List Value → Bool
  | [], [] => true
  | d :: ds, u :: us => cB K d u && cBs K ds us
  | _, _ => false
end
mutual
theorem cB_ok {K : PySem.W.Frag} : ∀ {d : D} {u : Value}, cB K d u = true → ∃ v, RelV v u ∧ ∀ m H, RD K m H d v
  | .non, u, h => by
    unfold cB at h
    cases u <;> try cases h
    exact ⟨.non, rfl, fun _ _ => .non⟩
  | .bl b, u, h => by
    unfold cB at h
    cases u <;> try cases h
    rename_i c
    have e : b = c := eq_of_beq h
    subst e
    exact ⟨.bl b, rfl, fun _ _ => .bl b⟩
  | .int i, u, h => by
    unfold cB at h
    cases u <;> try cases h
    rename_i j t
    have e : i = j := of_decide_eq_true h
    subst e
    exact ⟨.int i, ⟨t, rfl⟩, fun _ _ => .int i⟩
  | .str x, u, h => by
    unfold cB at h
    cases u <;> try cases h
    rename_i y t
    have e : x = y := of_decide_eq_true h
    subst e
    exact ⟨.str x, ⟨t, rfl⟩, fun _ _ => .str x⟩
  | .rol _, u, h => by
    unfold cB at h
    cases u <;> cases h
  | .ref _, u, h => by
    unfold cB at h
    cases u <;> cases h
  | .tup ds, u, h => by
    unfold cB at h
    cases u <;> try cases h
    rename_i a
    dsimp only at h
    split at h
    · rename_i c od its n sl e
      obtain ⟨h1, h2⟩ := He.ba h
      obtain ⟨h3, h4⟩ := He.ba h2
      obtain ⟨vs, r1, r2⟩ := cBs_ok h4
      exact ⟨.ref a, rfl, fun m H => .tup (.inr ⟨_, its, n, e, congrArg Value.type (of_decide_eq_true h1), rfl, of_decide_eq_true h3, r1⟩) (r2 m H)⟩
    · cases h
theorem cBs_ok {K : PySem.W.Frag} : ∀ {ds : List D} {us : List Value}, cBs K ds us = true → ∃ vs, Vals vs us ∧ ∀ m H, RDs K m H ds vs
  | [], us, h => by
    unfold cBs at h
    cases us <;> try cases h
    exact ⟨[], .nil, fun _ _ => .nil⟩
  | d :: ds, us, h => by
    unfold cBs at h
    cases us <;> try cases h
    obtain ⟨h1, h2⟩ := He.ba h
    obtain ⟨v, r1, r2⟩ := cB_ok h1
    obtain ⟨vs, r3, r4⟩ := cBs_ok h2
    exact ⟨v :: vs, .cons r1 r3, fun m H => .cons (r2 m H) (r4 m H)⟩
end
def cbG (K : PySem.W.Frag) (p : Str × D) : Bool := match PySem.W.nsIn K mainGlobals p.1 with
  | some (some u) => cB K p.2 u
  | _ => false
section
variable {K : PySem.W.Frag} {h : Heap} {mg : Str → Option Value}
theorem cbG_tup (X : K.In h) (G : h.Ns mainGlobals mg) {x : Str} {ds : List D} (c : cbG K (x, .tup ds) = true) : mg x = some (.ref (He.ga K x)) ∧ ∀ m H, RD K m H (.tup ds) (.ref (He.ga K x)) := by
  unfold cbG at c
  dsimp only at c
  split at c
  · rename_i u e
    obtain ⟨v, r1, r2⟩ := cB_ok c
    have q := PySem.W.mg_of X G e
    cases r2 [] (fun _ => none) with
    | tup hq hr =>
      rename_i ys a
      obtain rfl := (show u = Value.ref a from r1)
      have ea : He.ga K x = a := by
        unfold He.ga
        rw [e]
      rw [ea]
      exact ⟨q, r2⟩
  · cases c
theorem cbG_int (X : K.In h) (G : h.Ns mainGlobals mg) {x : Str} {i : Int} (c : cbG K (x, .int i) = true) : ∃ t, mg x = some (.int i t) := by
  unfold cbG at c
  dsimp only at c
  split at c
  · rename_i u e
    unfold cB at c
    cases u <;> try cases c
    rename_i j t
    have e' : i = j := of_decide_eq_true c
    subst e'
    exact ⟨t, PySem.W.mg_of X G e⟩
  · cases c
theorem cbG_str (X : K.In h) (G : h.Ns mainGlobals mg) {x y : Str} (c : cbG K (x, .str y) = true) : ∃ t, mg x = some (.str y t) := by
  unfold cbG at c
  dsimp only at c
  split at c
  · rename_i u e
    unfold cB at c
    cases u <;> try cases c
    rename_i j t
    have e' : y = j := of_decide_eq_true c
    subst e'
    exact ⟨t, PySem.W.mg_of X G e⟩
  · cases c
end
abbrev TbD : Type := Bool × He.AlD
theorem cs_get {K : PySem.W.Frag} {cs : List (Str × D)} (c : cs.all (cbG K) = true) (i : Nat) {p : Str × D} (h : cs[i]? = some p := by rfl) : cbG K p = true :=
  List.all_eq_true.mp c p (List.mem_of_getElem? h)
def dOf (x : Str) (st : Stmt) : He.DefD := ⟨(x, none), x, x, defArgs st, defBody st, defScope st, [], []⟩
theorem fun_of {K : PySem.W.Frag} {x : Str} {st : Stmt} {f : Addr} {fd : FuncData} (F : FunD K x x (defArgs st) (defBody st) (defScope st) [] [] f fd) : fd = fdOf K f ∧ L2.Fun K x x st f (fdOf K f) := by
  obtain ⟨⟨oc, od, dV, kV, doc, pm, an, cdv, ct, osl, rfl, lk, hcd, hD, hK⟩, kp⟩ := F
  have e : fdOf K f = PySem.W.fnOf x x (defArgs st) (defBody st) (defScope st) dV kV doc pm an cdv ct := by
    unfold fdOf
    rw [lk]
  rcases hD with ⟨_, rfl⟩ | ⟨e', _⟩
  · exact ⟨e.symm, ⟨⟨oc, od, kV, doc, pm, an, cdv, ct, osl, e, by rw [e]; exact lk, hcd⟩, kp⟩⟩
  · exact absurd rfl e'
theorem says_fun {fa : List He.Fa} {fn : List He.DefD} {K : PySem.W.Frag} (c : He.SaysD fa fn K) (i : Nat) {x : Str} {st : Stmt} (h : fn[i]? = some (dOf x st)) : FunD K x x (defArgs st) (defBody st) (defScope st) [] [] (He.ga K x) (fdOf K (He.ga K x)) ∧ L2.Fun K x x st (He.ga K x) (fdOf K (He.ga K x)) := by
  obtain ⟨fd, F⟩ := c.def_ i h
  have F' : FunD K x x (defArgs st) (defBody st) (defScope st) [] [] (He.ga K x) fd := F
  obtain ⟨e, q⟩ := fun_of F'
  rw [e] at F'
  exact ⟨F', q⟩
theorem fnOk_none {P : Program} {w : World} {K : PySem.W.Frag} {mg : Str → Option Value} {base : Heap} {CX : CXT} {k : Nat} {f : Addr} {fd : FuncData} {ps : List Str} {kt : Kit} {g : Fn} (h : ∀ ds G, g ds G = none) : FnOk P w K mg base CX k f fd ps (spD kt g) := by
  refine ⟨fun vs H Q E ⟨ds, G, m, _, _, p⟩ => ?_, fun A outer s H args us vs Q E _ _ _ _ ⟨ds, G, m, _, _, p⟩ => ?_⟩ <;>
  · rw [h] at p
    exact p.elim
theorem ints_rd {K : PySem.W.Frag} {m : List Addr} {H : Hp} : ∀ ns : List Int, RDs K m H (ns.map D.int) (ns.map V.int)
  | [] => .nil
  | n :: ns => .cons (.int n) (ints_rd ns)
theorem law_end {l : PySem.W.OpenLaw} {n k : Nat} {q : Program} {loose : List Str} {XP : (Str → Option Value) → Heap → Prop} {YP : World → Heap → Prop} {d : DefRec} {x : Str} {g : Fn}
    (hn : l.most = some n) (hn2 : n ≤ sizeLine) (hdf : d.params.defaults = []) (hr : Room k callerA)
    (F : ∀ (w : World) (mg : Str → Option Value) (fa : Addr) (h : Heap), YP w h → h.Ns mainGlobals mg → mg d.name = some (.ref fa) →
      ∃ (K : PySem.W.Frag) (fd : FuncData) (cl : Nat → Option Addr), K.In h ∧ (∀ (s : Shared) (u : Value), BindsTo s fd ⟨[u], []⟩ [(x, u)]) ∧
        ∀ base : Heap, K.In base → base.Ns mainGlobals mg → FnOk l.prog w K mg base (L2.CX l.prog w) k fa fd [x] (spD ⟨K, cl, l.prog, w⟩ g))
    (hg : ∀ ns : List Int, ns.length ≤ n → (∀ i ∈ ns, Builtin.Int.intBits i ≤ 1048576) → ∃ G', g [.rol (ns.map D.int)] [] = some (.ok (.bl true), G')) :
    PySem.W.WalkO q loose XP YP l.row.toRowW d [] (fun f vs => PySem.call f vs) := by
  refine Att.attach_callB hn hdf fun w s₀ s₁ mg mb fa o pm cd doc a vs ns G Y ho hd hcd hmg hobj hints hlen hbits hgen => ?_
  obtain ⟨K, fd, cl, KX, hb, hF⟩ := F w mg fa _ Y G.T.g hmg
  refine law_call KX G.T.g G.T.b G.T.builtins G.T.nolimit hgen hobj hints (Nat.le_trans hlen hn2) hr hF hb (fun H hO hS => ?_) fun H e s' => ?_
  · obtain ⟨G', e⟩ := hg ns hlen hbits
    have sq : SqR K H a (ns.map V.int) := by
      rcases hS with (hS | ⟨o, hS⟩) | hS
      · rcases hO a with q | ⟨o, xs, q⟩ <;> rw [q] at hS <;> cases hS
      · exact .inl ⟨o, hS⟩
      · exact .inr hS
    refine ⟨[.rol (ns.map D.int)], [], [], .cons (.rol sq (ints_rd ns)) .nil, ⟨rfl, List.nodup_nil, fun i o a h => by simp at h⟩, ?_⟩
    rw [e]
    intro m' y H' _ _ r
    cases r
    rfl
  · rintro ⟨a, B, H', cls, d, _, _, _, _, _, _, _, hE⟩
    exact hE
end D2
end
section
set_option linter.all false
set_option autoImplicit false
set_option maxRecDepth 100000
namespace D2
open PySem PySem.Spec PyProof.Rows L2
section
variable {P : Program} {w : World} {K : PySem.W.Frag} {mg : Str → Option Value} {base : Heap} {cl : Nat → Option Addr}
end
def H1 (a : Addr) (b : Bool) (o : HO) : Hp := fun c => if b = true ∧ c = a then some o else none
end D2
end
section
set_option linter.all false
set_option autoImplicit false
set_option maxRecDepth 100000
namespace D2
open PySem PySem.Spec PyProof.Rows L2
def obsX (fa : List He.Fa) (fn : List He.DefD) (xb : PySem.W.Frag → Bool) (K : PySem.W.Frag) : TbD := (xb K, He.obsD fa fn K)
def obsXG (n : Nat) (fa : List He.Fa) (fn : List He.DefD) (xb : PySem.W.Frag → Bool) (g : Addr → Option Obj) : TbD := obsX fa fn xb (He.frG g (He.asD g n))
def hookX (n : Nat) (fa : List He.Fa) (fn : List He.DefD) (xb : PySem.W.Frag → Bool) : PySem.W.Hook where
  α := TbD
  obs := fun s => obsXG n fa fn xb s.heap.get?
  val := fun _ => (true, He.valD fn)
  says := fun _ h => ∃ K : PySem.W.Frag, K.In h ∧ xb K = true ∧ He.SaysD fa fn K
  of := fun _ _ e => ⟨_, He.frG_in, congrArg Prod.fst e, congrArg Prod.snd e⟩
  keeps := fun _ _ _ ⟨K, hK, c⟩ k => ⟨K, PySem.W.Frag.In.keeps hK k, c⟩
theorem obsXG_eq {n : Nat} {fa : List He.Fa} {fn : List He.DefD} {xb : PySem.W.Frag → Bool} {g : Addr → Option Obj} {s : Shared} (h : ∀ a, g a = s.heap.get? a) : obsXG n fa fn xb g = (hookX n fa fn xb).obs s := by
  have e : g = s.heap.get? := funext h
  rw [e] <;> rfl
def excCB (K : PySem.W.Frag) (C : Addr) : Bool := decide (PySem.W.findIn K (.ref C) "__getattribute__" = some (some (.builtin "BaseException.__getattribute__"))) && (decide (PySem.W.findIn K (.ref C) "__getattr__" = some none) &&
  (decide (PySem.W.subIn K (.ref C) (.type "BaseException") = some true) && (PySem.W.hasDictIn K C && (decide (PySem.W.findIn K (.ref C) "__class__" = some (some (.builtin "object.__class__"))) &&
  (decide (PySem.W.specialIn K (.builtin "object.__class__") "__get__" = some (some (.builtin "getset_descriptor.__get__"))) && (decide (PySem.W.takesIn K (.builtin "object.__class__") = some true) && decide (PySem.W.mroIn K C (.type "object") = some true)))))))
theorem excCB_ok {K : PySem.W.Frag} {C : Addr} (h : excCB K C = true) : ExcC K C := by
  obtain ⟨h1, h⟩ := He.ba h
  obtain ⟨h2, h⟩ := He.ba h
  obtain ⟨h3, h⟩ := He.ba h
  obtain ⟨h4, h⟩ := He.ba h
  obtain ⟨h5, h⟩ := He.ba h
  obtain ⟨h6, h⟩ := He.ba h
  obtain ⟨h7, h8⟩ := He.ba h
  exact ⟨of_decide_eq_true h1, of_decide_eq_true h2, of_decide_eq_true h3, h4, of_decide_eq_true h5, of_decide_eq_true h6, of_decide_eq_true h7, of_decide_eq_true h8⟩
end D2
end
section
set_option linter.all false
set_option autoImplicit false
set_option maxRecDepth 100000
namespace D2
open PySem PySem.Spec PyProof.Rows L2
section
variable {X : Cx} {cl : Nat → Option Addr} {W : WX} {a o : Expr} {da dO : E} {pos p : Pos}
def rSIndex : V → List V → Hp → VK → Prop := fun x xs H Q => ∃ a b i rest, x = .str a ∧ xs = [.str b] ∧ Builtin.Str.occurrences a b 0 a.length 1 = i :: rest ∧ Q (.int (i : Nat)) H
def mSIndex (o y : D) : M D := fun G => match o, y with
  | .str a, .str b => match Builtin.Str.occurrences a b 0 a.length 1 with
    | i :: _ => some (.ok (.int (i : Nat)), G)
    | [] => none
  | _, _ => none
theorem sem_sindex : Sem2 X cl mSIndex fun v w => rSIndex v [w] := by
  intro W σ m H G x y v w Q g r1 r2 p
  unfold mSIndex at p
  split at p
  · split at p
    · rename_i e
      cases r1
      cases r2
      exact ⟨_, _, _, _, rfl, rfl, e, p.out g (.int _)⟩
    · exact p.elim
  · exact p.elim
theorem je_indexA {apos cpos : Pos} (ho : JE X cl W o dO) (ha : JE X cl W a da) (hbase : attributeBase o "index" X.env (eval o X.env) = eval o X.env := by rfl)
    (hfew : ((backTo cpos (starEach (a :: []) X.env)).all (fun x => !x.1) && (backToKw cpos (keywordEach [] X.env)).all (fun x => x.1.isSome)
      && decide ((a :: []).length + ([] : List Keyword).length + (if ([] : List Keyword).isEmpty then 0 else 1) < 30)) = true := by rfl)
    (hline : (apos.endLine == cpos.line) = true := by rfl) (hst : starEach (a :: []) X.env = (false, eval a X.env) :: starEach [] X.env := by rfl) (hpl : (backTo cpos (starEach [] X.env)).any (·.1) = false := by rfl) :
    JE X cl W (.Call (.Attribute o "index" apos) [a] [] cpos) (eMa mIndexA dO da) := by
  have j1 : JE X cl W (.Call (.Attribute o "index" apos) [a] [] cpos) (eMl mIndex dO da) := je_index ho ha hbase hfew hline hst hpl
  have j2 : JE X cl W (.Call (.Attribute o "index" apos) [a] [] cpos) (eMs mSIndex dO da) := je_ms PySem.F.plainAttrs_str PySem.F.slot_str_index PySem.F.type_str_index mt_sindex sem_sindex ho ha hbase hfew hline hst hpl
  refine PE.imp (D2.PE.or j1 j2) fun σ H Q ⟨τ, G, m, s, g, p⟩ => ?_
  unfold eMa at p
  cases e : dO τ G with
  | none => rw [e] at p; exact p.elim
  | some q =>
    obtain ⟨r, G1⟩ := q
    rw [e] at p
    cases r with
    | exc c => exact .inl ⟨τ, G, m, s, g, by unfold eMl; rw [e]; exact p⟩
    | ok v =>
      have p' : Post (kt X cl) (RD X.K) W σ m H (if (isL G1 v || isS v) = true then bnd (da τ G1) fun y => mIndexA v y else none) Q := p
      by_cases hs : isS v = true
      · refine .inr ⟨τ, G, m, s, g, ?_⟩
        unfold eMs
        rw [e]
        show Post (kt X cl) (RD X.K) W σ m H (if isS v = true then bnd (da τ G1) fun y => mSIndex v y else none) Q
        rw [if_pos (by rw [hs, Bool.or_true])] at p'
        rw [if_pos hs]
        cases v with
        | str z =>
          have : (fun y => mSIndex (.str z) y) = fun y => mIndexA (.str z) y := by
            funext y G
            cases y <;> rfl
          rw [this]
          exact p'
        | _ => cases hs
      · have hs' : isS v = false := by simpa using hs
        by_cases hl : isL G1 v = true
        · refine .inl ⟨τ, G, m, s, g, ?_⟩
          unfold eMl
          rw [e]
          show Post (kt X cl) (RD X.K) W σ m H (if isL G1 v = true then bnd (da τ G1) fun y => mIndex v y else none) Q
          rw [if_pos (by rw [hl, Bool.true_or])] at p'
          rw [if_pos hl]
          have : (fun y => mIndex v y) = fun y => mIndexA v y := by
            funext y G
            cases v <;> first | rfl | cases hs'
          rw [this]
          exact p'
        · rw [if_neg (by rw [hs', Bool.or_false]; exact hl)] at p'
          exact p'.elim
end
end D2
end
section
set_option linter.all false
set_option autoImplicit false
namespace D2
open PySem L2
end D2
end
section
set_option linter.all false
set_option autoImplicit false
set_option maxRecDepth 100000
namespace D2
open PySem PySem.Spec PyProof.Rows L2
section
variable {X : Cx} {cl : Nat → Option Addr} {W : WX} {b : Expr} {db : E} {pos p : Pos}
end
section
variable {X : Cx} {cl : Nat → Option Addr} {W : WX} {a b : Expr} {da db : E} {pos : Pos}
end
end D2
end
section
set_option linter.all false
set_option autoImplicit false
set_option maxRecDepth 100000
namespace D2
open PySem PySem.Spec PyProof.Rows L2
end D2
end
section
set_option linter.all false
set_option autoImplicit false
set_option maxRecDepth 100000
namespace D2
open PySem PySem.Spec PyProof.Rows L2
def dOfM (c m q : Str) (st : Stmt) : He.DefD := ⟨(c, some m), m, q, defArgs st, defBody st, defScope st, [], []⟩
theorem fun_ofQ {K : PySem.W.Frag} {x q : Str} {st : Stmt} {f : Addr} {fd : FuncData} (F : FunD K x q (defArgs st) (defBody st) (defScope st) [] [] f fd) : fd = fdOf K f ∧ L2.Fun K x q st f (fdOf K f) := by
  obtain ⟨⟨oc, od, dV, kV, doc, pm, an, cdv, ct, osl, rfl, lk, hcd, hD, hK⟩, kp⟩ := F
  have e : fdOf K f = PySem.W.fnOf x q (defArgs st) (defBody st) (defScope st) dV kV doc pm an cdv ct := by
    unfold fdOf
    rw [lk]
  rcases hD with ⟨_, rfl⟩ | ⟨e', _⟩
  · exact ⟨e.symm, ⟨⟨oc, od, kV, doc, pm, an, cdv, ct, osl, e, by rw [e]; exact lk, hcd⟩, kp⟩⟩
  · exact absurd rfl e'
theorem says_funM {fa : List He.Fa} {fn : List He.DefD} {K : PySem.W.Frag} (c : He.SaysD fa fn K) (i : Nat) {x m q : Str} {st : Stmt} (h : fn[i]? = some (dOfM x m q st)) : FunD K m q (defArgs st) (defBody st) (defScope st) [] [] (He.ma K (He.ga K x) m) (fdOf K (He.ma K (He.ga K x) m)) ∧ L2.Fun K m q st (He.ma K (He.ga K x) m) (fdOf K (He.ma K (He.ga K x) m)) := by
  obtain ⟨fd, F⟩ := c.def_ i h
  have F' : FunD K m q (defArgs st) (defBody st) (defScope st) [] [] (He.ma K (He.ga K x) m) fd := F
  obtain ⟨e, q⟩ := fun_ofQ F'
  rw [e] at F'
  exact ⟨F', q⟩
end D2
end
section
set_option linter.all false
set_option autoImplicit false
namespace D2
open PySem L2
end D2
end
section
set_option linter.all false
set_option autoImplicit false
namespace D2
open PySem L2
def insOf (c : Nat) (G : Hd) (x : D) : Option (Nat × List (Str × D)) := match x with
  | .ref i => match G[i]? with
    | some (.ins c' fs) => if c' = c then some (i, fs) else none
    | _ => none
  | _ => none
def fldD (c : Nat) (f : Str) (x : D) : M D := fun G => match insOf c G x with
  | some (_, fs) => match fs.lookup f with
    | some v => some (.ok v, G)
    | none => none
  | none => none
def eFld (c : Nat) (o : E) (f : Str) : E := fun σ G => bnd (o σ G) fun x => fldD c f x
def putFD (f : Str) (v : D) : List (Str × D) → List (Str × D)
  | [] => [(f, v)]
  | (g, x) :: r => if g = f then (g, v) :: r else (g, x) :: putFD f v r
def setFD (c : Nat) (f : Str) (v x : D) : M Unit := fun G => match insOf c G x with
  | some (i, fs) => if fs.length < 1000 then some (.ok (), G.set i (.ins c (putFD f v fs))) else none
  | none => none
def sFldD (c : Nat) (o : E) (f : Str) (a : E) : S := fun σ G => bndS σ (a σ G) fun v G1 => bndS σ (o σ G1) fun x G2 => bndS σ (setFD c f v x G2) fun _ G3 => some (.nx, σ, G3)
def sFldAugD (c : Nat) (o : E) (f : Str) (op : D → D → M D) (a : E) : S := fun σ G => bndS σ (o σ G) fun x G1 => bndS σ (fldD c f x G1) fun v G2 => bndS σ (a σ G2) fun w G3 => bndS σ (op v w G3) fun z G4 => bndS σ (setFD c f z x G4) fun _ G5 => some (.nx, σ, G5)
def makeD (c : Nat) (init : Fn) (vs : List D) : M D := fun G => match init (.ref G.length :: vs) (G ++ [.ins c []]) with
  | some (.ok .non, G2) => some (.ok (.ref G.length), G2)
  | _ => none
def eMake (c : Nat) (init : Fn) (a : As) : E := fun σ G => bnd (a σ G) fun vs => makeD c init vs
def eMethD (c : Nat) (m : Str) (f : Fn) (o : E) (a : As) : E := fun σ G => bnd (o σ G) fun x G1 => match insOf c G1 x with
  | some (_, fs) => if fs.lookup m = none then bnd (a σ G1) fun vs => f (x :: vs) else none
  | none => none
def dkey : D → Option Key
  | .int i => some (.inl i)
  | .str x => some (.inr x)
  | _ => none
def dput (kvs : List (D × D)) (k : Key) (d v : D) : List (D × D) :=
  if (kvs.any fun kv => decide (dkey kv.1 = some k)) = true then kvs.map (fun kv => if dkey kv.1 = some k then (kv.1, v) else kv) else kvs ++ [(d, v)]
def dcGo (g : Tg) (ek ev : E) (σ0 : Sd) (A : Nat) : List D → M Unit
  | [] => ret ()
  | x :: xs => fun G => match g x σ0 G with
    | none => none
    | some (σ1, G1) => match ek σ1 G1 with
      | some (.ok d, G2) => match dkey d with
        | some k => match ev σ1 G2 with
          | some (.ok v, G3) => match G3[A]? with
            | some (.dic kvs) => if kvs.length < sizeLine then dcGo g ek ev σ0 A xs (G3.set A (.dic (dput kvs k d v))) else none
            | _ => none
          | _ => none
        | none => none
      | _ => none
def dcOf (own : List Nat) (g : Tg) (ek ev : E) (σ : Sd) (x : D) : M D := match x with
  | .tup xs => fun G => bnd (dcGo g ek ev (wipeD σ own) G.length xs (G ++ [.dic []])) fun _ => ret (.ref G.length)
  | _ => fun _ => none
def eDc (own : List Nat) (a : E) (g : Tg) (ek ev : E) : E := fun σ G => bnd (a σ G) fun x => dcOf own g ek ev σ x
def fLenK (x : D) : M D := fun G => match x with
  | .ref i => match G[i]? with
    | some (.dic kvs) => some (.ok (.int kvs.length), G)
    | _ => none
  | _ => none
end D2
end
section
set_option linter.all false
set_option autoImplicit false
set_option maxRecDepth 100000
namespace D2
open PySem PySem.Spec PyProof.Rows L2
end D2
end
section
set_option linter.all false
set_option autoImplicit false
set_option maxRecDepth 100000
namespace D2
open PySem PySem.Spec PyProof.Rows L2
section
variable {M : Model} {A : Around} {E : Value → Shared → Prop} {s : Shared} {Z : Obj → Prop} {base : Heap} {env : PySem.Env} {outer : List PySem.Env} {L e : Addr} {Q : Unit → Shared → Prop}
end
end D2
end
section
set_option linter.all false
set_option autoImplicit false
set_option maxRecDepth 100000
namespace D2
open PySem PySem.Spec PyProof.Rows L2
section
variable {X : Cx} {pins : List (Addr × Obj)} {σ : L2.St} {H0 : Hp} {s0 : Shared} {scope : Scope} {cenv : PySem.Env} {fp : List Addr} {xe : Value → Shared → Prop}
end
section
variable {X : Cx} {W : WX} {pins : List (Addr × Obj)} {σ : L2.St} {H0 : Hp} {s0 : Shared} {scope : Scope} {cenv : PySem.Env} {fp : List Addr}
end
end D2
end
section
set_option linter.all false
set_option autoImplicit false
set_option maxRecDepth 100000
namespace D2
open PySem PySem.Spec PyProof.Rows L2
end D2
end
section
set_option linter.all false
set_option autoImplicit false
set_option maxRecDepth 100000
namespace D2
open PySem PySem.Spec PyProof.Rows L2 RZ RT
section
variable {X : Cx} {cl : Nat → Option Addr} {W : WX} {a b c o tg : Expr} {da db dc dO : E} {pos p tpos : Pos}
end
end D2
end
section
set_option linter.all false
set_option autoImplicit false
set_option maxRecDepth 100000
namespace D2
open PySem PySem.Spec PyProof.Rows L2
section
variable {X : Cx} {cl : Nat → Option Addr} {W : WX} {e : Expr} {t : TE} {pos : Pos}
end
end D2
end
section
set_option linter.all false
set_option autoImplicit false
set_option maxRecDepth 100000
namespace D2
open PySem PySem.Spec PyProof.Rows L2
section
variable {X : Cx} {cl : Nat → Option Addr} {W : WX} {a b tg : Expr} {da db : E} {pos p cp np : Pos} {k : Nat}
end
end D2
end
section
set_option linter.all false
set_option autoImplicit false
set_option maxRecDepth 100000
namespace D2
open PySem PySem.Spec PyProof.Rows L2
section
variable {X : Cx} {cl : Nat → Option Addr} {W : WX} {a b c : Expr} {da db dc : E} {pos : Pos}
section
variable {kk : Nat} (hr : Room kk X.A)
include hr
end
end
end D2
end
section
set_option linter.all false
set_option autoImplicit false
set_option maxRecDepth 100000
namespace D2
open PySem PySem.Spec PyProof.Rows L2
end D2
end
section
set_option linter.all false
set_option autoImplicit false
set_option maxRecDepth 100000
namespace D2
open PySem PySem.Spec PyProof.Rows L2
section
variable {k : Kit} {m : List Addr} {H : Hp}
end
section
variable {X : Cx} {cl : Nat → Option Addr} {W : WX} {a b c o tg : Expr} {da db dc dO : E} {pos p tpos : Pos}
end
end D2
end
section
set_option linter.all false
set_option autoImplicit false
set_option maxRecDepth 100000
namespace D2
open PySem PySem.Spec PyProof.Rows L2
section
variable {K : PySem.W.Frag} {m : List Addr} {H : Hp}
theorem RF.lookup {f : Str} {d : D} : ∀ {fs : List (Str × D)} {gs : List (Str × V)}, RF K m H fs gs → fs.lookup f = some d → ∃ v, gs.lookup f = some v ∧ RD K m H d v
  | _, _, .nil, h => by cases h
  | _, _, .cons (f := g) r rr, h => by
    rw [List.lookup_cons] at h ⊢
    split at h
    · cases h
      exact ⟨_, rfl, r⟩
    · exact RF.lookup rr h
theorem RF.lookup_none {f : Str} : ∀ {fs : List (Str × D)} {gs : List (Str × V)}, RF K m H fs gs → fs.lookup f = none → gs.lookup f = none
  | _, _, .nil, _ => rfl
  | _, _, .cons (f := g) r rr, h => by
    rw [List.lookup_cons] at h ⊢
    split at h
    · cases h
    · exact RF.lookup_none rr h
theorem RF.len : ∀ {fs : List (Str × D)} {gs : List (Str × V)}, RF K m H fs gs → fs.length = gs.length
  | _, _, .nil => rfl
  | _, _, .cons r rr => by rw [List.length_cons, List.length_cons, RF.len rr]
theorem RF.put {f : Str} {d : D} {v : V} (h : RD K m H d v) : ∀ {fs : List (Str × D)} {gs : List (Str × V)}, RF K m H fs gs → RF K m H (putFD f d fs) (putF f v gs)
  | _, _, .nil => .cons h .nil
  | _, _, .cons (f := g) r rr => by
    unfold putFD putF
    split
    · exact .cons h rr
    · exact .cons r (RF.put h rr)
end
section
variable {k : Kit} {m : List Addr} {H : Hp} {G : Hd}
theorem insOf_at {c i : Nat} {x : D} {fs : List (Str × D)} (h : insOf c G x = some (i, fs)) : x = .ref i ∧ G[i]? = some (.ins c fs) := by
  unfold insOf at h
  split at h
  · split at h
    · split at h
      · rename_i e1 e2
        cases h
        subst e2
        exact ⟨rfl, e1⟩
      · cases h
    · cases h
  · cases h
theorem RG.ins (g : RG k m G H) {c i : Nat} {x : D} {v : V} {fs : List (Str × D)} {C : Addr} (hc : k.cl c = some C) (h : insOf c G x = some (i, fs)) (r : RD k.K m H x v) : ∃ a dx gs, v = .ref a ∧ m[i]? = some a ∧ H a = some (.ins C dx gs) ∧ RF k.K m H fs gs := by
  obtain ⟨rfl, e⟩ := insOf_at h
  obtain ⟨a, u, h1, h2, C', dx, gs, h3, rfl, h5⟩ := g.get e
  rw [hc] at h3
  cases h3
  cases r with
  | ref hm =>
    rw [hm] at h1
    cases h1
    exact ⟨_, dx, gs, rfl, hm, h2, h5⟩
theorem RG.putI (g : RG k m G H) {c i : Nat} {a C dx : Addr} {fs : List (Str × D)} {gs hs : List (Str × V)} (hc : k.cl c = some C) (hm : m[i]? = some a) (hx : H a = some (.ins C dx gs)) (r : RF k.K m H fs hs) :
    RG k m (G.set i (.ins c fs)) (upd H a (.ins C dx hs)) ∧ Ext m H m (upd H a (.ins C dx hs)) := by
  have e : Ext m H m (upd H a (.ins C dx hs)) := .put hx (fun _ q => nomatch q) fun _ _ q => nomatch q
  exact ⟨g.put hm e ⟨C, dx, hs, hc, rfl, r⟩, e⟩
end
section
variable {X : Cx} {cl : Nat → Option Addr} {W : WX} {a b o : Expr} {da db dO : E} {pos pos' apos : Pos} {c : Nat} {C : Addr} {f : Str}
theorem je_fld (ho : JE X cl W o dO) (hc : cl c = some C) (c1 : Cls X.K C) (n : NoAttr X.K C f) (hb : attributeBase o f X.env (eval o X.env) = eval o X.env := by rfl) : JE X cl W (.Attribute o f pos) (eFld c dO f) := by
  refine PE.imp (pe_fld ho hb) fun σ H Q h => ?_
  refine up.first (d := dO) (f := fun τ x G1 => fldD c f x G1) h fun y H1 v G1 m1 τ s1 g1 r1 p1 => ?_
  unfold fldD at p1
  split at p1
  · rename_i i fs e
    split at p1
    · rename_i d e2
      obtain ⟨p, dx, gs, h1, h2, h3, h4⟩ := g1.ins (k := kt X cl) hc e r1
      obtain ⟨w, h5, h6⟩ := h4.lookup e2
      exact ⟨p, C, dx, gs, w, h1, h3, c1, n, h5, p1.out g1 h6⟩
    · exact p1.elim
  · exact p1.elim
theorem js_fld (ho : JE X cl W o dO) (he : JE X cl W a da) (hc : cl c = some C) (c1 : Cls X.K C) (n : NoAttr X.K C f) (hs : swapsWith a (some (.Attribute o f pos')) pos.line X.env = pure false := by rfl) : JS X cl W (.Assign [.Attribute o f pos'] a pos) (sFldD c dO f da) := by
  refine PS.imp (ps_fld ho he hs) fun D σ H h => ?_
  refine upS.first (d := da) (f := fun τ v G1 => bndS τ (dO τ G1) fun x G2 => bndS τ (setFD c f v x G2) fun _ G3 => some (.nx, τ, G3)) h fun y H1 v G1 m1 τ s1 g1 r1 p1 => ?_
  refine ⟨τ, G1, m1, s1, g1, (PostS.bnd (Rel := RD X.K) s1 p1).mono fun z H2 ⟨w, G2, m2, e2, g2, r2, p2⟩ => ?_⟩
  unfold setFD at p2
  split at p2
  · rename_i i fs e
    split at p2
    · rename_i hl
      obtain ⟨p, dx, gs, h1, h2, h3, h4⟩ := g2.ins (k := kt X cl) hc e r2
      obtain ⟨g3, e3⟩ := g2.putI (k := kt X cl) hc h2 h3 (h4.put (r1.ext e2) (f := f))
      refine ⟨p, C, dx, gs, h1, h3, c1, n, by rw [← h4.len]; exact hl, ?_⟩
      have p3 : PostS (kt X cl) W m2 H2 (some (.nx, τ, G2.set i (.ins c (putFD f v fs)))) D := p2
      exact p3 m2 _ _ e3 ((s1.ext e2).ext e3) g3
    · exact p2.elim
  · exact p2.elim
theorem js_fldaug {op : Operator} {fo : D → D → M D} {r : R2} (ho : JE X cl W o dO) (he : JE X cl W a da) (hc : cl c = some C) (c1 : Cls X.K C) (n : NoAttr X.K C f) (hop : OpR X (inplaceOp op) r) (hsm : Sem2 X cl fo r) : JS X cl W (.AugAssign (.Attribute o f pos') op a pos) (sFldAugD c dO f fo da) := by
  refine PS.imp (ps_fldaug (rd := r) ho he hop) fun D σ H h => ?_
  refine upS.first (d := dO) (f := fun τ x G1 => bndS τ (fldD c f x G1) fun v G2 => bndS τ (da τ G2) fun w G3 => bndS τ (fo v w G3) fun z G4 => bndS τ (setFD c f z x G4) fun _ G5 => some (.nx, τ, G5)) h fun y H1 x G1 m1 τ s1 g1 r1 p1 => ?_
  unfold fldD at p1
  cases e : insOf c G1 x with
  | none => rw [e] at p1; exact p1.elim
  | some q =>
    obtain ⟨i, fs⟩ := q
    rw [e] at p1
    dsimp only at p1
    cases e2 : fs.lookup f with
    | none => rw [e2] at p1; exact p1.elim
    | some d =>
      rw [e2] at p1
      obtain ⟨p, dx, gs, h1, h2, h3, h4⟩ := g1.ins (k := kt X cl) hc e r1
      obtain ⟨w, h5, h6⟩ := h4.lookup e2
      refine ⟨p, C, dx, gs, w, h1, h3, c1, n, h5, τ, G1, m1, s1, g1, ?_⟩
      have p2 : PostS (kt X cl) W m1 H1 (bndS τ (da τ G1) fun w G3 => bndS τ (fo d w G3) fun z G4 => bndS τ (setFD c f z x G4) fun _ G5 => some (.nx, τ, G5)) D := p1
      refine (PostS.bnd (Rel := RD X.K) s1 p2).mono fun u H2 ⟨v2, G2, m2, e3, g2, r2, p3⟩ => ?_
      refine hsm W σ m2 H2 G2 d v2 w u _ g2 (h6.ext e3) r2 ((PostS.bnd (Rel := RD X.K) (s1.ext e3) p3).mono fun q H3 ⟨z, G3, m3, e4, g3, r3, p4⟩ => ?_)
      unfold setFD at p4
      split at p4
      · rename_i i' fs' e5
        split at p4
        · rename_i hl
          obtain ⟨p', dx', gs', k1, k2, k3, k4⟩ := g3.ins (k := kt X cl) hc e5 ((r1.ext e3).ext e4)
          rw [h1] at k1
          cases k1
          obtain ⟨g4, e6⟩ := g3.putI (k := kt X cl) hc k2 k3 (k4.put r3 (f := f))
          refine ⟨dx', gs', k3, by rw [← k4.len]; exact hl, ?_⟩
          have p5 : PostS (kt X cl) W m3 H3 (some (.nx, τ, G3.set i' (.ins c (putFD f z fs')))) D := p4
          exact p5 m3 _ _ e6 (((s1.ext e3).ext e4).ext e6) g4
        · exact p4.elim
      · exact p4.elim
end
end D2
end
section
set_option linter.all false
set_option autoImplicit false
set_option maxRecDepth 100000
namespace D2
open PySem PySem.Spec PyProof.Rows L2
def tMethD (C : Addr) (m : Str) (sp : Sp) (E : L2.St → XK) (ta : TE) (t : TA) : TE := fun σ H Q => ta σ H fun x H1 => ∃ a dx fs, x = .ref a ∧ H1 a = some (.ins C dx fs) ∧ fs.lookup m = none ∧ t σ H1 fun vs H2 => sp (x :: vs) H2 Q (E σ)
section
variable {X : Cx} {CX : CXT} {k : Nat} {g C : Addr} {fd : FuncData} {ps : List Str} {sp : Sp} {E : L2.St → XK} {x m : Str} {p pos apos : Pos} {e o : Expr} {es : List Expr} {ta : TE} {t : TA}
theorem pe_methD {pl : Sem Bool} (he : PE X o ta) (c : Cls X.K C) (hm : Meth X.K C m g) (F : FnOk X.prog X.w X.K X.mg X.base CX k g fd ps sp) (hr : Room k X.A) (hb : Binds X.K fd ps []) (hx : ∀ σ, PassesAt CX X σ (E σ)) (ha : PA X (e :: es) t)
    (hst : starEach (e :: es) X.env = (false, eval e X.env) :: starEach es X.env) (hpl : (backTo pos (starEach es X.env)).any (·.1) = false)
    (ht : eval (.Call (.Attribute o m apos) (e :: es) [] pos) X.env = (do let ov ← eval o X.env; standAt apos.atName; let (f, first) ← holding [ov] (getMethod ov m pl); callWith pos f first (backTo pos (starEach (e :: es) X.env)) (backToKw pos (keywordEach [] X.env)))) :
    PE X (.Call (.Attribute o m apos) (e :: es) [] pos) (tMethD C m sp E ta t) := by
  refine ⟨fun pins s σ H Q I h => PySem.W.methodCall_KW (pl := pl) (thn (he.run pins s σ H _ I h) fun u s1 ⟨y, H1, I1, ry, a, dx, fs, ey, ea, l, q⟩ => ?_) ht⟩
  subst ey
  obtain rfl : u = Value.ref a := ry
  refine getmeth_ok I1 ea c hm l (PySem.W.callWith_K (first := [.ref a]) (h₀ := X.base) I.ok.mod.kin hm.kp (thn (ha.run pos pins s1 σ H1 _ I1 q) fun us s2 ⟨vs, H2, I2, r, q2⟩ => ⟨I2.kIn, ?_⟩) hst hpl)
  exact run_fnSD (us := .ref a :: us) (vs := .ref a :: vs) (dvs := []) F hr hb .nil (hx σ) I2 (.cons rfl r) (by rw [List.append_nil]; exact q2)
theorem pe_methD0 {pl : Sem Bool} (he : PE X o ta) (c : Cls X.K C) (hm : Meth X.K C m g) (F : FnOk X.prog X.w X.K X.mg X.base CX k g fd ps sp) (hr : Room k X.A) (hb : Binds X.K fd ps []) (hx : ∀ σ, PassesAt CX X σ (E σ))
    (ht : eval (.Call (.Attribute o m apos) [] [] pos) X.env = (do let ov ← eval o X.env; standAt apos.atName; let (f, first) ← holding [ov] (getMethod ov m pl); callWith pos f first (backTo pos (starEach [] X.env)) (backToKw pos (keywordEach [] X.env)))) :
    PE X (.Call (.Attribute o m apos) [] [] pos) (tMethD C m sp E ta tNil) := by
  refine ⟨fun pins s σ H Q I h => PySem.W.methodCall_KW (pl := pl) (thn (he.run pins s σ H _ I h) fun u s1 ⟨y, H1, I1, ry, a, dx, fs, ey, ea, l, q⟩ => ?_) ht⟩
  subst ey
  obtain rfl : u = Value.ref a := ry
  exact getmeth_ok I1 ea c hm l (PySem.W.callWith_K0 (first := [.ref a]) I1.kIn hm.kp (run_fnSD (us := [.ref a]) (vs := [.ref a]) (dvs := []) F hr hb .nil (hx σ) I1 (.cons rfl .nil) q))
end
section
variable {X : Cx} {cl : Nat → Option Addr} {W : WX} {a b o : Expr} {da db dO : E} {pos pos' apos p : Pos} {c kk : Nat} {C g : Addr} {f m x : Str} {fd : FuncData} {ps : List Str} {fn : Fn} {es : List Expr} {ds : As}
theorem meth_read {tA : TA} {vsOf : As} (hc : cl c = some C) (hA : ∀ (σ : L2.St) (H : Hp) (Q : List V → Hp → Prop), upA (kt X cl) W vsOf σ H Q → tA σ H Q) {σ : L2.St} {H : Hp} {Q : VK} (h : upE (kt X cl) W (eMethD c m fn dO vsOf) σ H Q) :
    tMethD C m (spD (kt X cl) fn) (fun σ => WE W σ) (upE (kt X cl) W dO) tA σ H Q := by
  refine up.first (d := dO) (f := fun τ x G1 => match insOf c G1 x with
    | some (_, fs) => if fs.lookup m = none then bnd (vsOf τ G1) fun vs => fn (x :: vs) else none
    | none => none) h fun y H1 v G1 m1 τ s1 g1 r1 p1 => ?_
  cases e : insOf c G1 v with
  | none => rw [e] at p1; exact p1.elim
  | some q =>
    obtain ⟨i, fs⟩ := q
    rw [e] at p1
    dsimp only at p1
    split at p1
    · rename_i hl
      obtain ⟨pa, dx, gs, h1, h2, h3, h4⟩ := g1.ins (k := kt X cl) hc e r1
      refine ⟨pa, dx, gs, h1, h3, h4.lookup_none hl, hA _ _ _ ⟨τ, G1, m1, s1, g1, (Post.bnd (Rel := RDs X.K) p1).mono fun z H2 ⟨w, G2, m2, e2, g2, r2, p2⟩ => ?_⟩⟩
      exact spD_call (.cons (r1.ext e2) r2) g2 p2
    · exact p1.elim
theorem je_methD {pl : Sem Bool} (ho : JE X cl W o dO) (hc : cl c = some C) (c1 : Cls X.K C) (hm : Meth X.K C m g) (F : FnOk X.prog X.w X.K X.mg X.base (L2.CX X.prog X.w) kk g fd ps (spD (kt X cl) fn)) (hr : Room kk X.A) (tk : Takes X W) (hb : Binds X.K fd ps []) (ha : JA X cl W (a :: es) ds)
    (hst : starEach (a :: es) X.env = (false, eval a X.env) :: starEach es X.env := by rfl) (hpl : (backTo pos (starEach es X.env)).any (·.1) = false := by rfl)
    (ht : eval (.Call (.Attribute o m apos) (a :: es) [] pos) X.env = (do let ov ← eval o X.env; standAt apos.atName; let (f, first) ← holding [ov] (getMethod ov m pl); callWith pos f first (backTo pos (starEach (a :: es) X.env)) (backToKw pos (keywordEach [] X.env))) := by rfl) :
    JE X cl W (.Call (.Attribute o m apos) (a :: es) [] pos) (eMethD c m fn dO ds) :=
  PE.imp (pe_methD (E := fun σ => WE W σ) ho c1 hm F hr hb (fun σ => passAt tk σ) ha hst hpl ht) fun _ _ _ h => meth_read hc (fun _ _ _ z => z) h
theorem je_methD0 {pl : Sem Bool} (ho : JE X cl W o dO) (hc : cl c = some C) (c1 : Cls X.K C) (hm : Meth X.K C m g) (F : FnOk X.prog X.w X.K X.mg X.base (L2.CX X.prog X.w) kk g fd ps (spD (kt X cl) fn)) (hr : Room kk X.A) (tk : Takes X W) (hb : Binds X.K fd ps [])
    (ht : eval (.Call (.Attribute o m apos) [] [] pos) X.env = (do let ov ← eval o X.env; standAt apos.atName; let (f, first) ← holding [ov] (getMethod ov m pl); callWith pos f first (backTo pos (starEach [] X.env)) (backToKw pos (keywordEach [] X.env))) := by rfl) :
    JE X cl W (.Call (.Attribute o m apos) [] [] pos) (eMethD c m fn dO aNil) :=
  PE.imp (pe_methD0 (E := fun σ => WE W σ) ho c1 hm F hr hb (fun σ => passAt tk σ) ht) fun _ _ _ h => meth_read hc (fun σ H Q ⟨τ, G, m, s, g, z⟩ => z.out g .nil) h
theorem je_make (M : Mk X.K C g) (F : FnOk X.prog X.w X.K X.mg X.base (L2.CX X.prog X.w) kk g fd ps (spD (kt X cl) fn)) (hr : Room (kk + 1) X.A) (hg : Gl X x) (hm : X.mg x = some (.ref C)) (hc : cl c = some C) (hb : Binds X.K fd ps []) (ha : JA X cl W (a :: es) ds)
    (hdb : (x == ("__debug__" : Str)) = false := by decide) (he : starEach (a :: es) X.env = (false, eval a X.env) :: starEach es X.env := by rfl) (hpl : (backTo pos (starEach es X.env)).any (·.1) = false := by rfl) :
    JE X cl W (.Call (.Name x p) (a :: es) [] pos) (D2.eMake c fn ds) := by
  refine PE.imp (pe_make (E := fun _ _ _ => False) M F hr hg hm hb (ds := []) (dvs := []) .nil (fun pins σ H s e s' I ⟨_, _, _, _, _, _, _, _, _, _, _, _, z⟩ => z.elim) ha hdb he hpl) fun σ H Q h => ?_
  refine up.first (Rel := RDs X.K) (d := ds) (f := fun τ vs => makeD c fn vs) h fun ys H1 vs G1 m1 τ s1 g1 r1 p1 => ?_
  intro xa dx nx ndx nex
  rw [List.append_nil]
  unfold makeD at p1
  split at p1
  · rename_i G2 e
    have gl := g1.lay (u := .own xa) ndx
    have nx2 : upd H1 dx (.own xa) xa = none := by rw [upd_ne nex.symm]; exact nx
    have g2 := gl.more (o := .ins c []) (u := .ins C dx []) nx2 ⟨C, dx, [], hc, rfl, .nil⟩
    have e2 : Ext m1 H1 (m1 ++ [xa]) (upd (upd H1 dx (.own xa)) xa (.ins C dx [])) := (Ext.lay ndx).trans (.more nx2)
    have hm1 : (m1 ++ [xa])[G1.length]? = some xa := by rw [← g1.len]; simp
    refine ⟨.ref G1.length :: vs, _, _, .cons (.ref hm1) (r1.ext e2), g2, ?_⟩
    rw [e]
    intro m3 y H3 e3 g3 r3
    cases r3
    exact ⟨rfl, p1 m3 _ H3 (e2.trans e3) g3 (.ref (e3.get hm1))⟩
  · exact p1.elim
theorem sem_find : Sem2 X cl mFind (fun x y H Q => ∃ i j, x = .str i ∧ y = .str j ∧ Q (.int (Txt.find i j)) H) := by
  intro W σ m H G x y v w Q g r1 r2 p
  cases r1 with
  | str i =>
    cases r2 with
    | str j => exact ⟨i, j, rfl, rfl, p.out g (.int _)⟩
    | _ => exact p.elim
  | _ => exact p.elim
theorem sem_countS : Sem2 X cl mCountS (fun x y H Q => ∃ i j, x = .str i ∧ y = .str j ∧ Q (.int (Txt.count i j)) H) := by
  intro W σ m H G x y v w Q g r1 r2 p
  cases r1 with
  | str i =>
    cases r2 with
    | str j => exact ⟨i, j, rfl, rfl, p.out g (.int _)⟩
    | _ => exact p.elim
  | _ => exact p.elim
end
end D2
end
section
set_option linter.all false
set_option autoImplicit false
set_option maxRecDepth 100000
namespace D2
open PySem PySem.Spec PyProof.Rows L2
section
variable {X : Cx} {cl : Nat → Option Addr} {W : WX} {a o : Expr} {da dO : E} {cpos apos : Pos}
theorem sem_findM : Sem2 X cl mFind (fun v w H Q => ∃ a b, v = .str a ∧ [w] = [.str b] ∧ Q (.int (Txt.find a b)) H) := by
  intro W σ m H G x y v w Q g r1 r2 p
  obtain ⟨i, j, h1, h2, h3⟩ := sem_find W σ m H G x y v w Q g r1 r2 p
  exact ⟨i, j, h1, congrArg (fun z => [z]) h2, h3⟩
theorem sem_countM : Sem2 X cl mCountS (fun v w H Q => ∃ a b, v = .str a ∧ [w] = [.str b] ∧ Q (.int (Txt.count a b)) H) := by
  intro W σ m H G x y v w Q g r1 r2 p
  obtain ⟨i, j, h1, h2, h3⟩ := sem_countS W σ m H G x y v w Q g r1 r2 p
  exact ⟨i, j, h1, congrArg (fun z => [z]) h2, h3⟩
theorem je_find (ho : JE X cl W o dO) (ha : JE X cl W a da) (hbase : attributeBase o "find" X.env (eval o X.env) = eval o X.env := by rfl)
    (hfew : ((backTo cpos (starEach (a :: []) X.env)).all (fun x => !x.1) && (backToKw cpos (keywordEach [] X.env)).all (fun x => x.1.isSome)
      && decide ((a :: []).length + ([] : List Keyword).length + (if ([] : List Keyword).isEmpty then 0 else 1) < 30)) = true := by rfl)
    (hline : (apos.endLine == cpos.line) = true := by rfl) (hst : starEach (a :: []) X.env = (false, eval a X.env) :: starEach [] X.env := by rfl) (hpl : (backTo cpos (starEach [] X.env)).any (·.1) = false := by rfl) :
    JE X cl W (.Call (.Attribute o "find" apos) [a] [] cpos) (eMs mFind dO da) :=
  je_ms PySem.F.plainAttrs_str PySem.F.slot_str_find PySem.F.type_str_find mt_find sem_findM ho ha hbase hfew hline hst hpl
theorem je_countS (ho : JE X cl W o dO) (ha : JE X cl W a da) (hbase : attributeBase o "count" X.env (eval o X.env) = eval o X.env := by rfl)
    (hfew : ((backTo cpos (starEach (a :: []) X.env)).all (fun x => !x.1) && (backToKw cpos (keywordEach [] X.env)).all (fun x => x.1.isSome)
      && decide ((a :: []).length + ([] : List Keyword).length + (if ([] : List Keyword).isEmpty then 0 else 1) < 30)) = true := by rfl)
    (hline : (apos.endLine == cpos.line) = true := by rfl) (hst : starEach (a :: []) X.env = (false, eval a X.env) :: starEach [] X.env := by rfl) (hpl : (backTo cpos (starEach [] X.env)).any (·.1) = false := by rfl) :
    JE X cl W (.Call (.Attribute o "count" apos) [a] [] cpos) (eMs mCountS dO da) :=
  je_ms PySem.F.plainAttrs_str PySem.F.slot_str_count PySem.F.type_str_count mt_count sem_countM ho ha hbase hfew hline hst hpl
end
end D2
end
section
set_option linter.all false
set_option autoImplicit false
set_option maxRecDepth 100000
namespace D2
open PySem PySem.Spec PyProof.Rows L2
section
variable {K : PySem.W.Frag} {m : List Addr} {H : Hp}
theorem dkey_of {d : D} {k : Key} (r : RD K m H d (kV k)) : dkey d = some k := by
  cases k with
  | inl i => cases r; rfl
  | inr s => cases r; rfl
theorem kV_of {d : D} {k : Key} {v : V} (e : dkey d = some k) (r : RD K m H d v) : v = kV k := by
  unfold dkey at e
  split at e
  · cases e; cases r; rfl
  · cases e; cases r; rfl
  · cases e
abbrev PD (K : PySem.W.Frag) (m : List Addr) (H : Hp) (kvs : List (D × D)) (ys : List (Key × V)) : Prop := Paired (fun (p : D × D) (q : Key × V) => RD K m H p.1 (kV q.1) ∧ RD K m H p.2 q.2) kvs ys
theorem PD.any (k : Key) : ∀ {kvs : List (D × D)} {ys : List (Key × V)}, PD K m H kvs ys → (kvs.any fun kv => decide (dkey kv.1 = some k)) = ys.any fun kv => decide (kv.1 = k)
  | _, _, .nil => rfl
  | _, _, .cons h r => by
    rw [List.any_cons, List.any_cons, PD.any k r, dkey_of h.1]
    congr 1
    simp only [Option.some.injEq]
theorem PD.upd {d v : D} {k : Key} {z : V} (hv : RD K m H v z) : ∀ {kvs : List (D × D)} {ys : List (Key × V)}, PD K m H kvs ys → PD K m H (kvs.map fun kv => if dkey kv.1 = some k then (kv.1, v) else kv) (ys.map fun kv => if kv.1 = k then (kv.1, z) else kv)
  | _, _, .nil => .nil
  | p :: _, q :: _, .cons h r => by
    rw [List.map_cons, List.map_cons]
    refine .cons ?_ (PD.upd (d := d) hv r)
    rw [dkey_of h.1]
    by_cases e : q.1 = k
    · rw [if_pos (by rw [e]), if_pos e]
      exact ⟨h.1, hv⟩
    · rw [if_neg (fun q => e (Option.some.inj q)), if_neg e]
      exact h
theorem PD.put {d v : D} {k : Key} {z : V} {kvs : List (D × D)} {ys : List (Key × V)} (h : PD K m H kvs ys) (hd : RD K m H d (kV k)) (hv : RD K m H v z) : PD K m H (dput kvs k d v) (putK ys k z) := by
  unfold dput putK
  rw [h.any k]
  split
  · exact PD.upd (d := d) hv h
  · exact Paired.snoc h ⟨hd, hv⟩
end
section
variable {k : Kit} {m : List Addr} {H : Hp} {G : Hd}
theorem RG.dic (g : RG k m G H) {i : Nat} {kvs : List (D × D)} (h : G[i]? = some (.dic kvs)) : ∃ a ys, m[i]? = some a ∧ H a = some (.dK ys) ∧ PD k.K m H kvs ys := by
  obtain ⟨a, u, h1, h2, ys, rfl, h4⟩ := g.get h
  exact ⟨a, ys, h1, h2, h4⟩
theorem RG.putDk (g : RG k m G H) {i : Nat} {a : Addr} {ys zs : List (Key × V)} {kvs : List (D × D)} (hm : m[i]? = some a) (hx : H a = some (.dK ys)) (r : PD k.K m H kvs zs) :
    RG k m (G.set i (.dic kvs)) (upd H a (.dK zs)) ∧ Ext m H m (upd H a (.dK zs)) := by
  have e : Ext m H m (upd H a (.dK zs)) := .put hx (fun _ q => nomatch q) fun _ _ q => nomatch q
  exact ⟨g.put hm e ⟨zs, rfl, r⟩, e⟩
end
section
variable {X : Cx} {cl : Nat → Option Addr} {W : WX} {a b c o tg : Expr} {da db dc dO : E} {pos p tpos : Pos}
theorem dc_read {g : Tg} {ek ev : E} {vs ws : List Nat} {σ : L2.St} {H : Hp} {Q : VK} (hv : ∀ i ∈ ws, i ∈ vs) (h : upE (kt X cl) W (eDc vs da g ek ev) σ H Q) :
    tDc (iTup X.K (upE (kt X cl) W da)) (upG (kt X cl) ws g) (upT (kt X cl) W0 D2.tYes) (upE (kt X cl) W0 ek) (upE (kt X cl) W0 ev) vs σ H Q := by
  refine up.first (d := da) (f := fun τ x => dcOf vs g ek ev τ x) h fun y H1 x G1 m1 τ1 s1 g1 r1 p1 => ?_
  unfold dcOf at p1
  cases r1 with
  | @tup xs ys q hq hr =>
    dsimp only at p1
    refine ⟨q, rfl, ⟨ys, hq⟩, fun Da hD => ?_⟩
    have g2 := g1.more (o := .dic []) (u := .dK []) hD ⟨[], rfl, .nil⟩
    have hDm : (m1 ++ [Da])[G1.length]? = some Da := by rw [← g1.len]; simp
    refine dc_tup (K := X.K) (a := q) (xs := ys) (fun i H' => ∃ (G : Hd) (m : List Addr), Ext (m1 ++ [Da]) (upd H1 Da (.dK [])) m H' ∧ RG (kt X cl) m G H' ∧ Post (kt X cl) (RD X.K) W σ m H' (bnd (dcGo g ek ev (wipeD τ1 vs) G1.length (xs.drop i) G) fun _ => ret (D.ref G1.length)) Q)
      ⟨_, _, .refl, g2, Post.ext (.more hD) p1⟩ (fun i H' _ ⟨G, m, ex, _⟩ => ((Ext.more (m := m1) hD).trans ex).sqt hq) (fun i y H' hy ⟨G, m, ex, gg, p2⟩ => ?_) fun H' ⟨G, m, ex, gg, p2⟩ => ?_
    · have ex1 : Ext m1 H1 m H' := (Ext.more (m := m1) hD).trans ex
      obtain ⟨d, hd, rd⟩ := hr.getV hy
      have li := (List.getElem?_eq_some_iff.mp hd).1
      have dr : xs.drop i = d :: xs.drop (i + 1) := by
        rw [List.drop_eq_getElem_cons li]
        congr 1
        exact (List.getElem?_eq_some_iff.mp hd).2
      rw [dr] at p2
      unfold dcGo at p2
      refine ⟨wipeD τ1 vs, G, m, d, (s1.wipe vs).ext ex1, gg, rd.ext ex1, ?_⟩
      cases eg : g d (wipeD τ1 vs) G with
      | none => rw [eg] at p2; exact p2.elim
      | some q2 =>
        obtain ⟨τ3, G3⟩ := q2
        rw [eg] at p2
        dsimp only at p2 ⊢
        intro m4 σ4 H4 e4 s4 g4 k4
        refine ⟨wipe_eq ⟨k4.1, fun i hi => k4.2 i fun z => hi (hv i z)⟩, τ3, G3, m4, s4, g4, ?_⟩
        have p4 := Post.ext e4 p2
        clear p2
        intro m5 b5 H5 e5 g5 r5
        obtain rfl : true = b5 := r5
        rw [if_pos rfl]
        have p5 := Post.ext e5 p4
        clear p4
        refine ⟨τ3, G3, m5, s4.ext e5, g5, ?_⟩
        cases ee : ek τ3 G3 with
        | none => rw [ee] at p5; exact p5.elim
        | some q3 =>
          obtain ⟨rr, G6⟩ := q3
          rw [ee] at p5
          cases rr with
          | exc c => exact p5.elim
          | ok kd =>
            intro m6 y6 H6 e6 g6 r6
            have p6 := Post.ext e6 p5
            clear p5
            dsimp only at p6
            cases ekk : dkey kd with
            | none => rw [ekk] at p6; exact p6.elim
            | some kk =>
              rw [ekk] at p6
              dsimp only at p6
              refine ⟨τ3, G6, m6, (s4.ext e5).ext e6, g6, ?_⟩
              cases ev' : ev τ3 G6 with
              | none => rw [ev'] at p6; exact p6.elim
              | some q4 =>
                obtain ⟨r2, G7⟩ := q4
                rw [ev'] at p6
                cases r2 with
                | exc c => exact p6.elim
                | ok vd =>
                  intro m7 y7 H7 e7 g7 r7
                  have p7 := Post.ext e7 p6
                  clear p6
                  dsimp only at p7
                  have ex7 := (((ex.trans e4).trans e5).trans e6).trans e7
                  split at p7
                  · rename_i kvs ed
                    split at p7
                    · rename_i hl
                      obtain ⟨a', zs, h1, h2, h3⟩ := g7.dic ed
                      rw [ex7.get hDm] at h1
                      cases h1
                      have r6' := r6.ext e7
                      obtain rfl := kV_of ekk r6'
                      obtain ⟨g8, e8⟩ := g7.putDk (k := kt X cl) (ex7.get hDm) h2 (h3.put r6' r7)
                      exact ⟨zs, kk, rfl, h2, by rw [← Paired.length h3]; exact hl, _, _, ex7.trans e8, g8, Post.ext e8 p7⟩
                    · exact p7.elim
                  · exact p7.elim
    · rw [hr.length.symm, List.drop_length] at p2
      have p3 : Post (kt X cl) (RD X.K) W σ m H' (some (.ok (D.ref G1.length), G)) Q := p2
      exact p3.out gg (.ref (ex.get hDm))
  | _ => exact p1.elim
theorem je_dc {kx vx iter : Expr} {scope : Scope} {own : List (Str × Nat)} {g : Tg} {ek ev : E} {ws : List Nat} (hc : X.calm = true) (hN : X.N.Nodup) (hi : JE X cl W iter da) (ok : BlkOk X.N X.env.scope scope own) (hv : ∀ i ∈ ws, i ∈ own.map (·.2))
    (hg : ∀ (s : Shared) (H : Hp) (C : Addr) (cs : List (Str × Addr)) (fp : List Addr), JG (X.blk s H scope (compEnvC scope cs C X.env) fp) cl ws tg g)
    (hk : ∀ (s : Shared) (H : Hp) (C : Addr) (cs : List (Str × Addr)) (fp : List Addr), JE (X.blk s H scope (compEnvC scope cs C X.env) fp) cl W0 kx ek)
    (he : ∀ (s : Shared) (H : Hp) (C : Addr) (cs : List (Str × Addr)) (fp : List Addr), JE (X.blk s H scope (compEnvC scope cs C X.env) fp) cl W0 vx ev) (hs : ∀ x, foldedSetIterable iter X.env x = pure x := by intro _; rfl) :
    JE X cl W (.DictComp kx vx [⟨tg, iter, [], 0⟩] scope pos) (eDc (own.map (·.2)) da g ek ev) :=
  PE.imp (pe_dc (g := upG (kt X cl) ws g) (tt := upT (kt X cl) W0 D2.tYes) (tk := upE (kt X cl) W0 ek) (tv := upE (kt X cl) W0 ev) hc hN (pi_tup hi) ok hg (fun _ _ _ _ _ => jts_nil) hk he hs) fun σ H Q h => dc_read hv h
theorem sem_lenK : Sem1 X cl fLenK fun v => (fun xs H Q => ∃ a kvs, xs = [V.ref a] ∧ H a = some (.dK kvs) ∧ Q (.int kvs.length) H) [v] := by
  intro W σ m H G x v Q g r p
  unfold fLenK at p
  cases r with
  | @ref i a hm =>
    dsimp only at p
    split at p
    · rename_i kvs e
      obtain ⟨a', ys, h1, h2, h3⟩ := g.dic e
      rw [hm] at h1
      cases h1
      refine ⟨_, ys, rfl, h2, ?_⟩
      have := p.out g (.int kvs.length)
      rw [Paired.length h3] at this
      exact this
    · exact p.elim
  | _ => exact p.elim
theorem je_lenK (hg : Gl X "len") (hm : X.mg "len" = none) (ha : JE X cl W a da)
    (hs1 : starEach [a] X.env = (false, eval a X.env) :: starEach [] X.env := by rfl) (hpl : (backTo pos (starEach [] X.env)).any (·.1) = false := by rfl) : JE X cl W (.Call (.Name "len" p) [a] [] pos) (eOp1 fLenK da) := je_b1 call_lenD sem_lenK hg hm PySem.boot_len ha (by decide) (by decide) hs1 hpl
end
end D2
end
section
set_option linter.all false
set_option maxRecDepth 100000
namespace L08
open PySem D2
def c_LEAVES : D := (.tup [(.str (Str.ofString "int")), (.str (Str.ofString "text")), (.str (Str.ofString "bool"))])
def c_MOST_FIELDS : D := (.int 8)
def c_MOST_LEAVES : D := (.int 24)
def c_MOST_NESTED : D := (.int 8)
def c_SMALL : D := (.str (Str.ofString "abcdefghijklmnopqrstuvwxyz"))
def NC : Nat := 3
def NA : Nat := 4
def xs_BadFile : Nat → Bool := fun n => n ∈ ([1] : List Nat)
def xs_BadText : Nat → Bool := fun n => n ∈ ([2] : List Nat)
def xs_StripehallError : Nat → Bool := fun n => n ∈ ([0, 1, 2] : List Nat)
def xs_ValueError : Nat → Bool := fun n => n ∈ ([0, 1, 2] : List Nat)
def is_BadText : Nat → Option Bool := fun n => if n < NC then some (xs_BadText n) else none
def b_is_name (Γ : D2.Env) : S :=
  (sSeq (sIf (tOr (tNot (tTru (eOp1 (fIsTy .str) (eVar 0)))) (tNot (tBl (eChain cLe cLe (eC (.int 1)) (eOp1 fLen (eVar 0)) (eC (.int 12))))))
    (sRet (eC (.bl false)))
    sNil)
  (sRet (eOp1 fAll (eLc [1] (iOf (eVar 0)) (gName 1) tYes (eOp2 cIn (eVar 1) (eC c_SMALL))))))
def b_are_fields (Γ : D2.Env) : S :=
  (sSeq (sIf (tOr (tNot (tTru (eOp1 (fIsTy .tuple) (eVar 0)))) (tNot (tBl (eChain cLe cLe (eC (.int 1)) (eOp1 fLen (eVar 0)) (eC c_MOST_FIELDS)))))
    (sRet (eC (.bl false)))
    sNil)
  (sSeq (sIf (tNot (tTru (eOp1 fAll (eLc [1] (iOf (eVar 0)) (gName 1) tYes (eAnd (eOp1 (fIsTy .tuple) (eVar 1)) (eAnd (eOp2 cEq (eOp1 fLen (eVar 1)) (eC (.int 2))) (eCall (Γ 0) (aCons (eOp2 atD (eVar 1) (eC (.int 0))) aNil))))))))
    (sRet (eC (.bl false)))
    sNil)
  (sRet (eOp2 cEq (eOp1 fLenK (eDc [1] (eVar 0) (gName 1) (eOp2 atD (eVar 1) (eC (.int 0))) (eC (.bl true)))) (eOp1 fLen (eVar 0))))))
def b_parts_of (Γ : D2.Env) : S :=
  (sSeq (sIf (tOr (tNot (tTru (eOp1 (fIsTy .tuple) (eVar 0)))) (tOr (tNot (tTru (eVar 0))) (tNot (tTru (eOp1 (fIsTy .str) (eOp2 atD (eVar 0) (eC (.int 0))))))))
    (sRet (eC .non))
    sNil)
  (sSeq (sIf (tAnd (tBl (eOp2 cIn (eOp2 atD (eVar 0) (eC (.int 0))) (eC c_LEAVES))) (tBl (eOp2 cEq (eOp1 fLen (eVar 0)) (eC (.int 1)))))
    (sRet (eLst aNil))
    sNil)
  (sSeq (sIf (tBl (eOp2 cNe (eOp1 fLen (eVar 0)) (eC (.int 2))))
    (sRet (eC .non))
    sNil)
  (sSeq (sIf (tAnd (tBl (eOp2 cEq (eOp2 atD (eVar 0) (eC (.int 0))) (eC (.str (Str.ofString "rec"))))) (tTru (eCall (Γ 1) (aCons (eOp2 atD (eVar 0) (eC (.int 1))) aNil))))
    (sRet (eLc [1] (iOf (eOp2 atD (eVar 0) (eC (.int 1)))) (gName 1) tYes (eOp2 atD (eVar 1) (eC (.int 1)))))
    sNil)
  (sSeq (sIf (tBl (eOp2 cEq (eOp2 atD (eVar 0) (eC (.int 0))) (eC (.str (Str.ofString "list")))))
    (sRet (eLst (aCons (eOp2 atD (eVar 0) (eC (.int 1))) aNil)))
    sNil)
  (sSeq (sIf (tAnd (tBl (eOp2 cEq (eOp2 atD (eVar 0) (eC (.int 0))) (eC (.str (Str.ofString "opt"))))) (tAnd (tTru (eOp1 (fIsTy .tuple) (eOp2 atD (eVar 0) (eC (.int 1))))) (tBl (eOp2 cNe (eSl (eOp2 atD (eVar 0) (eC (.int 1))) oNone (oSome (eC (.int 1)))) (eTup (aCons (eC (.str (Str.ofString "opt"))) aNil))))))
    (sRet (eLst (aCons (eOp2 atD (eVar 0) (eC (.int 1))) aNil)))
    sNil)
  (sRet (eC .non))))))))
def b_is_schema (Γ : D2.Env) : S :=
  (sSeq (sIf (tOr (tNot (tTru (eOp1 (fIsTy .tuple) (eVar 0)))) (tBl (eOp2 cNe (eSl (eVar 0) oNone (oSome (eC (.int 1)))) (eTup (aCons (eC (.str (Str.ofString "rec"))) aNil)))))
    (sRet (eC (.bl false)))
    sNil)
  (sSeq (sSet 1 (eLst (aCons (eTup (aCons (eVar 0) (aCons (eC (.int 1)) aNil))) aNil)))
  (sSeq (sSet 2 (eC (.int 0)))
  (sSeq (sWhile (tTru (eVar 1))
    (sSeq (sAsg (eOp1 mPop (eVar 1)) (gTup 2 (gCons (gName 3) (gCons (gName 4) gNil))))
    (sSeq (sSet 5 (eCall (Γ 2) (aCons (eVar 3) aNil)))
    (sSeq (sIf (tOr (tBl (eOp2 cIs (eVar 5) (eC .non))) (tBl (eOp2 cGt (eVar 4) (eC c_MOST_NESTED))))
      (sRet (eC (.bl false)))
      sNil)
    (sSeq (sIf (tNot (tTru (eVar 5)))
      (sAug 2 opIAdd (eC (.int 1)))
      sNil)
    (sSeq (sIf (tBl (eOp2 cGt (eVar 2) (eC c_MOST_LEAVES)))
      (sRet (eC (.bl false)))
      sNil)
    (sExpr (eMl mExtend (eVar 1) (eLc [6] (iOf (eVar 5)) (gName 6) tYes (eTup (aCons (eVar 6) (aCons (eOp2 opAdd (eVar 4) (eC (.int 1))) aNil))))))))))))
  (sRet (eC (.bl true)))))))
def b_TextReader____init__ (Γ : D2.Env) : S :=
  (sSeq (sFldD 3 (eVar 0) (Str.ofString "text") (eVar 1))
  (sFldD 3 (eVar 0) (Str.ofString "at") (eC (.int 0))))
def b_TextReader__has (Γ : D2.Env) : S :=
  (sSeq (sIf (tBl (eOp2 cNe (eSl (eFld 3 (eVar 0) (Str.ofString "text")) (oSome (eFld 3 (eVar 0) (Str.ofString "at"))) (oSome (eOp2 opAdd (eFld 3 (eVar 0) (Str.ofString "at")) (eOp1 fLen (eVar 1))))) (eVar 1)))
    (sRet (eC (.bl false)))
    sNil)
  (sSeq (sFldAugD 3 (eVar 0) (Str.ofString "at") opIAdd (eOp1 fLen (eVar 1)))
  (sRet (eC (.bl true)))))
def b_TextReader__take (Γ : D2.Env) : S :=
  (sIf (tNot (tTru (eMethD 3 (Str.ofString "has") (Γ 5) (eVar 0) (aCons (eVar 1) aNil))))
    (sRaise 2)
    sNil)
def b_TextReader__name (Γ : D2.Env) : S :=
  (sSeq (sSet 1 (eFld 3 (eVar 0) (Str.ofString "at")))
  (sSeq (sWhile (tAnd (tBl (eOp2 cLt (eFld 3 (eVar 0) (Str.ofString "at")) (eOp1 fLen (eFld 3 (eVar 0) (Str.ofString "text"))))) (tBl (eOp2 cIn (eOp2 atD (eFld 3 (eVar 0) (Str.ofString "text")) (eFld 3 (eVar 0) (Str.ofString "at"))) (eC c_SMALL))))
    (sFldAugD 3 (eVar 0) (Str.ofString "at") opIAdd (eC (.int 1))))
  (sRet (eSl (eFld 3 (eVar 0) (Str.ofString "text")) (oSome (eVar 1)) (oSome (eFld 3 (eVar 0) (Str.ofString "at")))))))
def b_TextReader__field (Γ : D2.Env) : S :=
  (sSeq (sSet 1 (eMethD 3 (Str.ofString "name") (Γ 7) (eVar 0) aNil))
  (sSeq (sExpr (eMethD 3 (Str.ofString "take") (Γ 6) (eVar 0) (aCons (eC (.str (Str.ofString ": "))) aNil)))
  (sRet (eTup (aCons (eVar 1) (aCons (eMethD 3 (Str.ofString "kind") (Γ 10) (eVar 0) aNil) aNil))))))
def b_TextReader__bare (Γ : D2.Env) : S :=
  (sSeq (sIf (tTru (eMethD 3 (Str.ofString "has") (Γ 5) (eVar 0) (aCons (eC (.str (Str.ofString "["))) aNil)))
    (sSeq (sSet 1 (eTup (aCons (eC (.str (Str.ofString "list"))) (aCons (eMethD 3 (Str.ofString "kind") (Γ 10) (eVar 0) aNil) aNil))))
    (sSeq (sExpr (eMethD 3 (Str.ofString "take") (Γ 6) (eVar 0) (aCons (eC (.str (Str.ofString "]"))) aNil)))
    (sRet (eVar 1))))
    sNil)
  (sSeq (sIf (tTru (eMethD 3 (Str.ofString "has") (Γ 5) (eVar 0) (aCons (eC (.str (Str.ofString "{"))) aNil)))
    (sSeq (sSet 2 (eLst (aCons (eMethD 3 (Str.ofString "field") (Γ 8) (eVar 0) aNil) aNil)))
    (sSeq (sWhile (tTru (eMethD 3 (Str.ofString "has") (Γ 5) (eVar 0) (aCons (eC (.str (Str.ofString ", "))) aNil)))
      (sExpr (eMl mAppend (eVar 2) (eMethD 3 (Str.ofString "field") (Γ 8) (eVar 0) aNil))))
    (sSeq (sExpr (eMethD 3 (Str.ofString "take") (Γ 6) (eVar 0) (aCons (eC (.str (Str.ofString "}"))) aNil)))
    (sRet (eTup (aCons (eC (.str (Str.ofString "rec"))) (aCons (eOp1 fTuple (eVar 2)) aNil)))))))
    sNil)
  (sSeq (sSet 3 (eMethD 3 (Str.ofString "name") (Γ 7) (eVar 0) aNil))
  (sSeq (sIf (tBl (eOp2 cNotIn (eVar 3) (eC c_LEAVES)))
    (sRaise 2)
    sNil)
  (sRet (eTup (aCons (eVar 3) aNil)))))))
def b_TextReader__kind (Γ : D2.Env) : S :=
  (sSeq (sSet 1 (eMethD 3 (Str.ofString "bare") (Γ 9) (eVar 0) aNil))
  (sRet (eIf (tTru (eMethD 3 (Str.ofString "has") (Γ 5) (eVar 0) (aCons (eC (.str (Str.ofString "?"))) aNil))) (eTup (aCons (eC (.str (Str.ofString "opt"))) (aCons (eVar 1) aNil))) (eVar 1))))
def b_read_schema (Γ : D2.Env) : S :=
  (sSeq (sIf (tBl (eOp2 cGt (eOp2 opAdd (eMs mCountS (eVar 0) (eC (.str (Str.ofString "[")))) (eMs mCountS (eVar 0) (eC (.str (Str.ofString "{"))))) (eC c_MOST_NESTED)))
    (sSeq (sSet 1 (eC (.int 0)))
    (sFor (iOf (eVar 0)) (gName 2)
      (sSeq (sAug 1 opIAdd (eOp2 opSub (eOp1 fInt (eOp2 cIn (eVar 2) (eC (.str (Str.ofString "[{"))))) (eOp1 fInt (eOp2 cIn (eVar 2) (eC (.str (Str.ofString "]}")))))))
      (sIf (tBl (eOp2 cGt (eVar 1) (eC c_MOST_NESTED)))
        (sRaise 2)
        sNil))))
    sNil)
  (sSeq (sSet 3 (eMake 3 (runFn 2 2 (b_TextReader____init__ (fun _ _ _ => none))) (aCons (eVar 0) aNil)))
  (sSeq (sSet 4 (eMethD 3 (Str.ofString "kind") (Γ 10) (eVar 3) aNil))
  (sSeq (sIf (tOr (tBl (eOp2 cNe (eFld 3 (eVar 3) (Str.ofString "at")) (eOp1 fLen (eVar 0)))) (tNot (tTru (eCall (Γ 3) (aCons (eVar 4) aNil)))))
    (sRaise 2)
    sNil)
  (sRet (eVar 4))))))
def b__law_stream (Γ : D2.Env) : S :=
  (sSeq (sSet 1 (eC (.int 17)))
  (sSeq (sFor (iOf (eVar 0)) (gName 2)
    (sSet 1 (eOp2 opMod (eOp1 fInt (eOp2 opAdd (eOp2 opAdd (eOp2 opMul (eVar 1) (eC (.int 48271))) (eOp2 opMod (eOp1 fInt (eVar 2)) (eC (.int 65521)))) (eC (.int 1)))) (eC (.int 2147483647)))))
  (sRet (eLst (aCons (eOp1 fList (eVar 0)) (aCons (eC (.int 0)) (aCons (eC (.int 0)) (aCons (eVar 1) aNil))))))))
def b__law_draw (Γ : D2.Env) : S :=
  (sSeq (sIf (tAnd (tBl (eOp2 cEq (eOp2 atD (eVar 0) (eC (.int 1))) (eC (.int 0)))) (tBl (eOp2 cLt (eOp2 atD (eVar 0) (eC (.int 2))) (eOp1 fLen (eOp2 atD (eVar 0) (eC (.int 0)))))))
    (sSeq (sPut (eVar 0) (eC (.int 1)) (eOp1 fAbs (eOp1 fInt (eOp2 atD (eOp2 atD (eVar 0) (eC (.int 0))) (eOp2 atD (eVar 0) (eC (.int 2)))))))
    (sPut (eVar 0) (eC (.int 2)) (eOp2 opAdd (eOp2 atD (eVar 0) (eC (.int 2))) (eC (.int 1)))))
    sNil)
  (sSeq (sIf (tBl (eOp2 cEq (eOp2 atD (eVar 0) (eC (.int 1))) (eC (.int 0))))
    (sSeq (sPut (eVar 0) (eC (.int 3)) (eOp2 opMod (eOp1 fInt (eOp2 opAdd (eOp2 opMul (eOp2 atD (eVar 0) (eC (.int 3))) (eC (.int 48271))) (eC (.int 11)))) (eC (.int 2147483647))))
    (sRet (eOp2 opMod (eOp1 fInt (eOp2 opFdiv (eOp2 atD (eVar 0) (eC (.int 3))) (eC (.int 97)))) (eVar 1))))
    sNil)
  (sSeq (sSet 2 (eOp2 opMod (eOp1 fInt (eOp2 atD (eVar 0) (eC (.int 1)))) (eVar 1)))
  (sSeq (sPut (eVar 0) (eC (.int 1)) (eOp2 opFdiv (eOp2 atD (eVar 0) (eC (.int 1))) (eVar 1)))
  (sRet (eVar 2))))))
def b__law_pick (Γ : D2.Env) : S :=
  (sRet (eOp2 atD (eVar 1) (eCall (Γ 13) (aCons (eVar 0) (aCons (eOp1 fLen (eVar 1)) aNil)))))
def b__law_same (Γ : D2.Env) : S :=
  (sSeq (sIf (tTru (eOp1 (fIsTy .list) (eVar 1)))
    (sSeq (sIf (tOr (tNot (tTru (eOp1 (fIsTy .list) (eVar 0)))) (tBl (eOp2 cNe (eOp1 fLen (eVar 0)) (eOp1 fLen (eVar 1)))))
      (sRet (eC (.bl false)))
      sNil)
    (sRet (eOp1 fAll (eLc [2] (iRng1 (eOp1 fLen (eVar 1))) (gName 2) tYes (eCall (Γ 15) (aCons (eOp2 atD (eVar 0) (eVar 2)) (aCons (eOp2 atD (eVar 1) (eVar 2)) aNil)))))))
    sNil)
  (sSeq (sIf (tTru (eOp1 (fIsTy .tuple) (eVar 1)))
    (sSeq (sIf (tOr (tNot (tTru (eOp1 (fIsTy .tuple) (eVar 0)))) (tBl (eOp2 cNe (eOp1 fLen (eVar 0)) (eOp1 fLen (eVar 1)))))
      (sRet (eC (.bl false)))
      sNil)
    (sRet (eOp1 fAll (eLc [2] (iRng1 (eOp1 fLen (eVar 1))) (gName 2) tYes (eCall (Γ 15) (aCons (eOp2 atD (eVar 0) (eVar 2)) (aCons (eOp2 atD (eVar 1) (eVar 2)) aNil)))))))
    sNil)
  (sSeq (sIf (tBl (eOp2 cIs (eVar 1) (eC .non)))
    (sRet (eOp2 cIs (eVar 0) (eC .non)))
    sNil)
  (sSeq (sIf (tTru (eOp1 (fIsTy .bool) (eVar 1)))
    (sRet (eAnd (eOp1 (fIsTy .bool) (eVar 0)) (eOp2 cEq (eVar 0) (eVar 1))))
    sNil)
  (sSeq (sIf (tTru (eOp1 (fIsTy .str) (eVar 1)))
    (sRet (eAnd (eOp1 (fIsTy .str) (eVar 0)) (eOp2 cEq (eVar 0) (eVar 1))))
    sNil)
  (sRet (eAnd (eOp1 (fIsTy .int) (eVar 0)) (eAnd (eNot (eOp1 (fIsTy .bool) (eVar 0))) (eOp2 cEq (eVar 0) (eVar 1))))))))))
def b__law_name (Γ : D2.Env) : S :=
  (sSeq (sSet 2 (eC (.str (Str.ofString "abcdefghijklmnopqrstuvwxyz"))))
  (sSeq (sSet 3 (eOp2 atD (eLst (aCons (eC (.int 1)) (aCons (eC (.int 1)) (aCons (eC (.int 2)) (aCons (eC (.int 3)) (aCons (eC (.int 5)) (aCons (eC (.int 11)) (aCons (eC (.int 12)) aNil)))))))) (eCall (Γ 13) (aCons (eVar 0) (aCons (eC (.int 7)) aNil)))))
  (sSeq (sSet 4 (eMs mJoin (eC (.str (Str.ofString ""))) (eLc [5] (iRng1 (eVar 3)) (gName 5) tYes (eOp2 atD (eVar 2) (eCall (Γ 13) (aCons (eVar 0) (aCons (eC (.int 26)) aNil)))))))
  (sSeq (sIf (tAnd (tTru (eVar 1)) (tBl (eOp2 cEq (eCall (Γ 13) (aCons (eVar 0) (aCons (eC (.int 2)) aNil))) (eC (.int 0)))))
    (sSet 4 (eOp2 atD (eVar 1) (eCall (Γ 13) (aCons (eVar 0) (aCons (eOp1 fLen (eVar 1)) aNil)))))
    sNil)
  (sSeq (sSet 6 (eCall (Γ 13) (aCons (eVar 0) (aCons (eOp1 fLen (eVar 4)) aNil))))
  (sSeq (sFor (iRng1 (eC (.int 26))) (gName 5)
    (sSeq (sIf (tBl (eOp2 cNotIn (eVar 4) (eVar 1)))
      (sRet (eVar 4))
      sNil)
    (sSet 4 (eOp2 opAdd (eOp2 opAdd (eSl (eVar 4) oNone (oSome (eVar 6))) (eOp2 atD (eVar 2) (eOp2 opMod (eOp2 opAdd (eMa mIndexA (eVar 2) (eOp2 atD (eVar 4) (eVar 6))) (eC (.int 1))) (eC (.int 26))))) (eSl (eVar 4) (oSome (eOp2 opAdd (eVar 6) (eC (.int 1)))) oNone)))))
  (sRet (eVar 4))))))))
def b__law_record (Γ : D2.Env) : S :=
  (sSeq (sSet 3 (eOp2 opAdd (eC (.int 1)) (eCall (Γ 13) (aCons (eVar 0) (aCons (eOp2 fMin (eVar 2) (eOp2 atD (eLst (aCons (eC (.int 1)) (aCons (eC (.int 2)) (aCons (eC (.int 4)) (aCons (eC (.int 8)) aNil))))) (eCall (Γ 13) (aCons (eVar 0) (aCons (eC (.int 4)) aNil))))) aNil)))))
  (sSeq (sSet 4 (eLst aNil))
  (sSeq (sSet 5 (eLst aNil))
  (sSeq (sFor (iRng1 (eVar 3)) (gName 6)
    (sSeq (sSet 7 (eCall (Γ 16) (aCons (eVar 0) (aCons (eVar 4) aNil))))
    (sSeq (sExpr (eMl mAppend (eVar 4) (eVar 7)))
    (sExpr (eMl mAppend (eVar 5) (eTup (aCons (eVar 7) (aCons (eCall (Γ 18) (aCons (eVar 0) (aCons (eOp2 opSub (eVar 1) (eC (.int 1))) (aCons (eOp2 opFdiv (eVar 2) (eVar 3)) aNil)))) aNil))))))))
  (sRet (eTup (aCons (eC (.str (Str.ofString "rec"))) (aCons (eOp1 fTuple (eVar 5)) aNil))))))))
def b__law_kind (Γ : D2.Env) : S :=
  (sSeq (sSet 3 (eCall (Γ 13) (aCons (eVar 0) (aCons (eC (.int 7)) aNil))))
  (sSeq (sIf (tOr (tBl (eOp2 cLt (eVar 1) (eC (.int 2)))) (tBl (eOp2 cLt (eVar 3) (eC (.int 2)))))
    (sRet (eTup (aCons (eCall (Γ 14) (aCons (eVar 0) (aCons (eLst (aCons (eC (.str (Str.ofString "int"))) (aCons (eC (.str (Str.ofString "text"))) (aCons (eC (.str (Str.ofString "bool"))) aNil)))) aNil))) aNil)))
    sNil)
  (sSeq (sIf (tBl (eOp2 cLt (eVar 3) (eC (.int 4))))
    (sSeq (sSet 4 (eCall (Γ 18) (aCons (eVar 0) (aCons (eOp2 opSub (eVar 1) (eC (.int 1))) (aCons (eVar 2) aNil)))))
    (sSeq (sIf (tBl (eOp2 cEq (eOp2 atD (eVar 4) (eC (.int 0))) (eC (.str (Str.ofString "opt")))))
      (sRet (eVar 4))
      sNil)
    (sRet (eTup (aCons (eC (.str (Str.ofString "opt"))) (aCons (eVar 4) aNil))))))
    sNil)
  (sSeq (sIf (tBl (eOp2 cLt (eVar 3) (eC (.int 6))))
    (sRet (eTup (aCons (eC (.str (Str.ofString "list"))) (aCons (eCall (Γ 18) (aCons (eVar 0) (aCons (eOp2 opSub (eVar 1) (eC (.int 1))) (aCons (eVar 2) aNil)))) aNil))))
    sNil)
  (sRet (eCall (Γ 17) (aCons (eVar 0) (aCons (eVar 1) (aCons (eVar 2) aNil)))))))))
def b__law_is_name (Γ : D2.Env) : S :=
  (sSeq (sIf (tOr (tNot (tTru (eOp1 (fIsTy .str) (eVar 0)))) (tNot (tBl (eChain cLe cLe (eC (.int 1)) (eOp1 fLen (eVar 0)) (eC (.int 12))))))
    (sRet (eC (.bl false)))
    sNil)
  (sRet (eOp1 fAll (eLc [1] (iOf (eVar 0)) (gName 1) tYes (eOp2 cIn (eVar 1) (eC (.str (Str.ofString "abcdefghijklmnopqrstuvwxyz"))))))))
def b__law_count (Γ : D2.Env) : S :=
  (sSeq (sIf (tOr (tNot (tTru (eOp1 (fIsTy .tuple) (eVar 0)))) (tOr (tBl (eOp2 cLt (eOp1 fLen (eVar 0)) (eC (.int 1)))) (tOr (tNot (tTru (eOp1 (fIsTy .str) (eOp2 atD (eVar 0) (eC (.int 0)))))) (tBl (eOp2 cGt (eVar 1) (eC (.int 8)))))))
    (sRet (eC (.int 1000)))
    sNil)
  (sSeq (sIf (tBl (eOp2 cIn (eOp2 atD (eVar 0) (eC (.int 0))) (eTup (aCons (eC (.str (Str.ofString "int"))) (aCons (eC (.str (Str.ofString "text"))) (aCons (eC (.str (Str.ofString "bool"))) aNil))))))
    (sSeq (sIf (tBl (eOp2 cEq (eOp1 fLen (eVar 0)) (eC (.int 1))))
      (sRet (eC (.int 1)))
      sNil)
    (sRet (eC (.int 1000))))
    sNil)
  (sSeq (sIf (tOr (tBl (eOp2 cNe (eOp1 fLen (eVar 0)) (eC (.int 2)))) (tBl (eOp2 cNotIn (eOp2 atD (eVar 0) (eC (.int 0))) (eTup (aCons (eC (.str (Str.ofString "rec"))) (aCons (eC (.str (Str.ofString "opt"))) (aCons (eC (.str (Str.ofString "list"))) aNil)))))))
    (sRet (eC (.int 1000)))
    sNil)
  (sSeq (sIf (tBl (eOp2 cNe (eOp2 atD (eVar 0) (eC (.int 0))) (eC (.str (Str.ofString "rec")))))
    (sSeq (sIf (tAnd (tBl (eOp2 cEq (eOp2 atD (eVar 0) (eC (.int 0))) (eC (.str (Str.ofString "opt"))))) (tAnd (tTru (eOp1 (fIsTy .tuple) (eOp2 atD (eVar 0) (eC (.int 1))))) (tAnd (tBl (eOp2 cGt (eOp1 fLen (eOp2 atD (eVar 0) (eC (.int 1)))) (eC (.int 0)))) (tBl (eOp2 cEq (eOp2 atD (eOp2 atD (eVar 0) (eC (.int 1))) (eC (.int 0))) (eC (.str (Str.ofString "opt"))))))))
      (sRet (eC (.int 1000)))
      sNil)
    (sRet (eCall (Γ 20) (aCons (eOp2 atD (eVar 0) (eC (.int 1))) (aCons (eOp2 opAdd (eVar 1) (eC (.int 1))) aNil)))))
    sNil)
  (sSeq (sIf (tOr (tNot (tTru (eOp1 (fIsTy .tuple) (eOp2 atD (eVar 0) (eC (.int 1)))))) (tNot (tBl (eChain cLe cLe (eC (.int 1)) (eOp1 fLen (eOp2 atD (eVar 0) (eC (.int 1)))) (eC (.int 8))))))
    (sRet (eC (.int 1000)))
    sNil)
  (sSeq (sSet 2 (eC (.int 0)))
  (sSeq (sSet 3 (eLst aNil))
  (sSeq (sFor (iOf (eOp2 atD (eVar 0) (eC (.int 1)))) (gName 4)
    (sSeq (sIf (tOr (tNot (tTru (eOp1 (fIsTy .tuple) (eVar 4)))) (tOr (tBl (eOp2 cNe (eOp1 fLen (eVar 4)) (eC (.int 2)))) (tOr (tNot (tTru (eCall (Γ 19) (aCons (eOp2 atD (eVar 4) (eC (.int 0))) aNil)))) (tBl (eOp2 cIn (eOp2 atD (eVar 4) (eC (.int 0))) (eVar 3))))))
      (sRet (eC (.int 1000)))
      sNil)
    (sSeq (sExpr (eMl mAppend (eVar 3) (eOp2 atD (eVar 4) (eC (.int 0)))))
    (sSet 2 (eOp2 opAdd (eVar 2) (eCall (Γ 20) (aCons (eOp2 atD (eVar 4) (eC (.int 1))) (aCons (eOp2 opAdd (eVar 1) (eC (.int 1))) aNil))))))))
  (sRet (eVar 2))))))))))
def b__law_is_schema (Γ : D2.Env) : S :=
  (sSeq (sIf (tOr (tNot (tTru (eOp1 (fIsTy .tuple) (eVar 0)))) (tOr (tBl (eOp2 cNe (eOp1 fLen (eVar 0)) (eC (.int 2)))) (tBl (eOp2 cNe (eOp2 atD (eVar 0) (eC (.int 0))) (eC (.str (Str.ofString "rec")))))))
    (sRet (eC (.bl false)))
    sNil)
  (sRet (eOp2 cLe (eCall (Γ 20) (aCons (eVar 0) (aCons (eC (.int 1)) aNil))) (eC (.int 24)))))
def b__law_shown (Γ : D2.Env) : S :=
  (sSeq (sIf (tBl (eOp2 cEq (eOp2 atD (eVar 0) (eC (.int 0))) (eC (.str (Str.ofString "opt")))))
    (sRet (eOp2 opAdd (eCall (Γ 22) (aCons (eOp2 atD (eVar 0) (eC (.int 1))) aNil)) (eC (.str (Str.ofString "?")))))
    sNil)
  (sSeq (sIf (tBl (eOp2 cEq (eOp2 atD (eVar 0) (eC (.int 0))) (eC (.str (Str.ofString "list")))))
    (sRet (eOp2 opAdd (eOp2 opAdd (eC (.str (Str.ofString "["))) (eCall (Γ 22) (aCons (eOp2 atD (eVar 0) (eC (.int 1))) aNil))) (eC (.str (Str.ofString "]")))))
    sNil)
  (sSeq (sIf (tBl (eOp2 cNe (eOp2 atD (eVar 0) (eC (.int 0))) (eC (.str (Str.ofString "rec")))))
    (sRet (eOp2 atD (eVar 0) (eC (.int 0))))
    sNil)
  (sRet (eOp2 opAdd (eOp2 opAdd (eC (.str (Str.ofString "{"))) (eMs mJoin (eC (.str (Str.ofString ", "))) (eLc [1] (iOf (eOp2 atD (eVar 0) (eC (.int 1)))) (gName 1) tYes (eOp2 opAdd (eOp2 opAdd (eOp2 atD (eVar 1) (eC (.int 0))) (eC (.str (Str.ofString ": ")))) (eCall (Γ 22) (aCons (eOp2 atD (eVar 1) (eC (.int 1))) aNil)))))) (eC (.str (Str.ofString "}"))))))))
def b__law_fields_of (Γ : D2.Env) : S :=
  (sSeq (sSet 1 (eLst (aCons (eC (.str (Str.ofString ""))) aNil)))
  (sSeq (sSet 2 (eC (.int 0)))
  (sSeq (sFor (iRng1 (eOp1 fLen (eVar 0))) (gName 3)
    (sSeq (sIf (tBl (eOp2 cIn (eOp2 atD (eVar 0) (eVar 3)) (eC (.str (Str.ofString "[{")))))
      (sSet 2 (eOp2 opAdd (eVar 2) (eC (.int 1))))
      sNil)
    (sSeq (sIf (tBl (eOp2 cIn (eOp2 atD (eVar 0) (eVar 3)) (eC (.str (Str.ofString "]}")))))
      (sSet 2 (eOp2 opSub (eVar 2) (eC (.int 1))))
      sNil)
    (sIf (tAnd (tBl (eOp2 cEq (eVar 2) (eC (.int 0)))) (tBl (eOp2 cEq (eSl (eVar 0) (oSome (eVar 3)) (oSome (eOp2 opAdd (eVar 3) (eC (.int 2))))) (eC (.str (Str.ofString ", "))))))
      (sExpr (eMl mAppend (eVar 1) (eC (.str (Str.ofString "")))))
      (sIf (tOr (tBl (eOp2 cNe (eVar 2) (eC (.int 0)))) (tOr (tBl (eOp2 cEq (eVar 3) (eC (.int 0)))) (tBl (eOp2 cNe (eSl (eVar 0) (oSome (eOp2 opSub (eVar 3) (eC (.int 1)))) (oSome (eOp2 opAdd (eVar 3) (eC (.int 1))))) (eC (.str (Str.ofString ", ")))))))
        (sPut (eVar 1) (eOp2 opSub (eOp1 fLen (eVar 1)) (eC (.int 1))) (eOp2 opAdd (eOp2 atD (eVar 1) (eOp2 opSub (eOp1 fLen (eVar 1)) (eC (.int 1)))) (eOp2 atD (eVar 0) (eVar 3))))
        sNil)))))
  (sRet (eVar 1)))))
def b__law_kind_of (Γ : D2.Env) : S :=
  (sSeq (sIf (tBl (eOp2 cIn (eVar 0) (eTup (aCons (eC (.str (Str.ofString "int"))) (aCons (eC (.str (Str.ofString "text"))) (aCons (eC (.str (Str.ofString "bool"))) aNil))))))
    (sRet (eTup (aCons (eVar 0) aNil)))
    sNil)
  (sSeq (sIf (tBl (eOp2 cLt (eOp1 fLen (eVar 0)) (eC (.int 2))))
    (sRet (eC .non))
    sNil)
  (sSeq (sSet 1 (eOp2 opAdd (eOp2 atD (eVar 0) (eC (.int 0))) (eOp2 atD (eVar 0) (eOp1 opNeg (eC (.int 1))))))
  (sSeq (sIf (tBl (eOp2 cEq (eOp2 atD (eVar 0) (eOp1 opNeg (eC (.int 1)))) (eC (.str (Str.ofString "?")))))
    (sSeq (sSet 2 (eCall (Γ 24) (aCons (eSl (eVar 0) oNone (oSome (eOp1 opNeg (eC (.int 1))))) aNil)))
    (sSeq (sIf (tOr (tBl (eOp2 cIs (eVar 2) (eC .non))) (tBl (eOp2 cEq (eOp2 atD (eVar 2) (eC (.int 0))) (eC (.str (Str.ofString "opt"))))))
      (sRet (eC .non))
      sNil)
    (sRet (eTup (aCons (eC (.str (Str.ofString "opt"))) (aCons (eVar 2) aNil))))))
    sNil)
  (sSeq (sIf (tBl (eOp2 cEq (eVar 1) (eC (.str (Str.ofString "[]")))))
    (sSeq (sSet 2 (eCall (Γ 24) (aCons (eSl (eVar 0) (oSome (eC (.int 1))) (oSome (eOp1 opNeg (eC (.int 1))))) aNil)))
    (sSeq (sIf (tBl (eOp2 cIs (eVar 2) (eC .non)))
      (sRet (eC .non))
      sNil)
    (sRet (eTup (aCons (eC (.str (Str.ofString "list"))) (aCons (eVar 2) aNil))))))
    sNil)
  (sSeq (sIf (tBl (eOp2 cNe (eVar 1) (eC (.str (Str.ofString "{}")))))
    (sRet (eC .non))
    sNil)
  (sSeq (sSet 3 (eLst aNil))
  (sSeq (sFor (iOf (eCall (Γ 23) (aCons (eSl (eVar 0) (oSome (eC (.int 1))) (oSome (eOp1 opNeg (eC (.int 1))))) aNil))) (gName 4)
    (sSeq (sSet 5 (eMs mFind (eVar 4) (eC (.str (Str.ofString ": ")))))
    (sSeq (sIf (tBl (eOp2 cLt (eVar 5) (eC (.int 0))))
      (sRet (eC .non))
      sNil)
    (sSeq (sSet 2 (eCall (Γ 24) (aCons (eSl (eVar 4) (oSome (eOp2 opAdd (eVar 5) (eC (.int 2)))) oNone) aNil)))
    (sSeq (sIf (tBl (eOp2 cIs (eVar 2) (eC .non)))
      (sRet (eC .non))
      sNil)
    (sExpr (eMl mAppend (eVar 3) (eTup (aCons (eSl (eVar 4) oNone (oSome (eVar 5))) (aCons (eVar 2) aNil))))))))))
  (sRet (eTup (aCons (eC (.str (Str.ofString "rec"))) (aCons (eOp1 fTuple (eVar 3)) aNil))))))))))))
def b__law_due (Γ : D2.Env) : S :=
  (sSeq (sSet 1 (eCall (Γ 24) (aCons (eVar 0) aNil)))
  (sSeq (sIf (tOr (tBl (eOp2 cIs (eVar 1) (eC .non))) (tNot (tTru (eCall (Γ 21) (aCons (eVar 1) aNil)))))
    (sRet (eC .non))
    sNil)
  (sRet (eVar 1))))
def b__law_read_as (Γ : D2.Env) : S :=
  (sTryAs
    (sSeq (sSet 2 (eCall (Γ 11) (aCons (eVar 0) aNil)))
    (sRet (eAnd (eOp2 cIsNot (eVar 1) (eC .non)) (eCall (Γ 15) (aCons (eVar 2) (aCons (eVar 1) aNil))))))
    is_BadText 3 (fun nn =>
    (sRet (eAnd (eOp2 cIs (eVar 1) (eC .non)) (eAnd (eC (.bl (xs_StripehallError nn))) (eAnd (eC (.bl (xs_ValueError nn))) (eNot (eC (.bl (xs_BadFile nn))))))))))
def b__law_turned (Γ : D2.Env) : S :=
  (sSeq (sSet 2 (eCall (Γ 13) (aCons (eVar 0) (aCons (eOp2 opAdd (eOp1 fLen (eVar 1)) (eC (.int 1))) aNil))))
  (sSeq (sSet 3 (eOp2 fMin (eOp1 fLen (eVar 1)) (eOp2 opAdd (eVar 2) (eCall (Γ 13) (aCons (eVar 0) (aCons (eC (.int 9)) aNil))))))
  (sSeq (sSet 4 (eCall (Γ 13) (aCons (eVar 0) (aCons (eC (.int 6)) aNil))))
  (sSeq (sSet 5 (eC (.str (Str.ofString "{}[]?:, abint_A0"))))
  (sSeq (sSet 6 (eOp2 atD (eVar 5) (eCall (Γ 13) (aCons (eVar 0) (aCons (eOp1 fLen (eVar 5)) aNil)))))
  (sSeq (sIf (tBl (eOp2 cEq (eVar 4) (eC (.int 0))))
    (sRet (eOp2 opAdd (eOp2 opAdd (eSl (eVar 1) oNone (oSome (eVar 2))) (eVar 6)) (eSl (eVar 1) (oSome (eVar 2)) oNone)))
    sNil)
  (sSeq (sIf (tBl (eOp2 cEq (eVar 4) (eC (.int 1))))
    (sRet (eOp2 opAdd (eSl (eVar 1) oNone (oSome (eVar 2))) (eSl (eVar 1) (oSome (eOp2 opAdd (eVar 2) (eC (.int 1)))) oNone)))
    sNil)
  (sSeq (sIf (tBl (eOp2 cEq (eVar 4) (eC (.int 2))))
    (sRet (eOp2 opAdd (eOp2 opAdd (eSl (eVar 1) oNone (oSome (eVar 2))) (eVar 6)) (eSl (eVar 1) (oSome (eOp2 opAdd (eVar 2) (eC (.int 1)))) oNone)))
    sNil)
  (sSeq (sIf (tBl (eOp2 cEq (eVar 4) (eC (.int 3))))
    (sRet (eOp2 opAdd (eSl (eVar 1) oNone (oSome (eVar 2))) (eSl (eVar 1) (oSome (eVar 3)) oNone)))
    sNil)
  (sSeq (sIf (tBl (eOp2 cEq (eVar 4) (eC (.int 4))))
    (sRet (eOp2 opAdd (eOp2 opAdd (eSl (eVar 1) oNone (oSome (eVar 3))) (eSl (eVar 1) (oSome (eVar 2)) (oSome (eVar 3)))) (eSl (eVar 1) (oSome (eVar 3)) oNone)))
    sNil)
  (sSeq (sSet 7 (eOp2 opAdd (eSl (eVar 1) oNone (oSome (eVar 2))) (eSl (eVar 1) (oSome (eVar 3)) oNone)))
  (sSeq (sSet 8 (eCall (Γ 13) (aCons (eVar 0) (aCons (eOp2 opAdd (eOp1 fLen (eVar 7)) (eC (.int 1))) aNil))))
  (sRet (eOp2 opAdd (eOp2 opAdd (eSl (eVar 7) oNone (oSome (eVar 8))) (eSl (eVar 1) (oSome (eVar 2)) (oSome (eVar 3)))) (eSl (eVar 7) (oSome (eVar 8)) oNone)))))))))))))))
def b_law (Γ : D2.Env) : S :=
  (sSeq (sSet 1 (eCall (Γ 12) (aCons (eVar 0) aNil)))
  (sSeq (sSet 2 (eCall (Γ 17) (aCons (eVar 1) (aCons (eOp2 atD (eLst (aCons (eC (.int 2)) (aCons (eC (.int 3)) (aCons (eC (.int 5)) aNil)))) (eCall (Γ 13) (aCons (eVar 1) (aCons (eC (.int 3)) aNil)))) (aCons (eOp2 atD (eLst (aCons (eC (.int 1)) (aCons (eC (.int 2)) (aCons (eC (.int 4)) (aCons (eC (.int 9)) aNil))))) (eCall (Γ 13) (aCons (eVar 1) (aCons (eC (.int 4)) aNil)))) aNil)))))
  (sSeq (sSet 3 (eCall (Γ 22) (aCons (eVar 2) aNil)))
  (sSeq (sIf (tNot (tTru (eCall (Γ 26) (aCons (eVar 3) (aCons (eVar 2) aNil)))))
    (sRet (eC (.bl false)))
    sNil)
  (sSeq (sFor (iRng1 (eC (.int 6))) (gName 4)
    (sSeq (sSet 5 (eCall (Γ 27) (aCons (eVar 1) (aCons (eVar 3) aNil))))
    (sSeq (sIf (tBl (eOp2 cEq (eCall (Γ 13) (aCons (eVar 1) (aCons (eC (.int 3)) aNil))) (eC (.int 0))))
      (sSet 5 (eCall (Γ 27) (aCons (eVar 1) (aCons (eVar 5) aNil))))
      sNil)
    (sIf (tNot (tTru (eCall (Γ 26) (aCons (eVar 5) (aCons (eCall (Γ 25) (aCons (eVar 5) aNil)) aNil)))))
      (sRet (eC (.bl false)))
      sNil))))
  (sRet (eC (.bl true))))))))
def fn (Γ : D2.Env) : Nat → Fn
  | 0 => runFn 2 1 (b_is_name Γ)
  | 1 => runFn 2 1 (b_are_fields Γ)
  | 2 => runFn 2 1 (b_parts_of Γ)
  | 3 => runFn 7 1 (b_is_schema Γ)
  | 4 => runFn 2 2 (b_TextReader____init__ Γ)
  | 5 => runFn 2 2 (b_TextReader__has Γ)
  | 6 => runFn 2 2 (b_TextReader__take Γ)
  | 7 => runFn 2 1 (b_TextReader__name Γ)
  | 8 => runFn 2 1 (b_TextReader__field Γ)
  | 9 => runFn 4 1 (b_TextReader__bare Γ)
  | 10 => runFn 2 1 (b_TextReader__kind Γ)
  | 11 => runFn 5 1 (b_read_schema Γ)
  | 12 => runFn 3 1 (b__law_stream Γ)
  | 13 => runFn 3 2 (b__law_draw Γ)
  | 14 => runFn 2 2 (b__law_pick Γ)
  | 15 => runFn 3 2 (b__law_same Γ)
  | 16 => runFn 7 2 (b__law_name Γ)
  | 17 => runFn 8 3 (b__law_record Γ)
  | 18 => runFn 5 3 (b__law_kind Γ)
  | 19 => runFn 2 1 (b__law_is_name Γ)
  | 20 => runFn 5 2 (b__law_count Γ)
  | 21 => runFn 1 1 (b__law_is_schema Γ)
  | 22 => runFn 2 1 (b__law_shown Γ)
  | 23 => runFn 4 1 (b__law_fields_of Γ)
  | 24 => runFn 6 1 (b__law_kind_of Γ)
  | 25 => runFn 2 1 (b__law_due Γ)
  | 26 => runFn 4 2 (b__law_read_as Γ)
  | 27 => runFn 9 2 (b__law_turned Γ)
  | 28 => runFn 6 1 (b_law Γ)
  | _ => fun _ _ => none
def run : Nat → D2.Env
  | 0 => fun _ _ _ => none
  | k + 1 => fn (run k)
def lawRun (k : Nat) : Fn := runFn 6 1 (b_law (run k))
end L08
end
section
set_option linter.all false
set_option maxRecDepth 100000
set_option maxHeartbeats 4000000
namespace L08
open PySem PySem.Spec PyProof.Rows L2 D2
def top (i : Nat) : Stmt := PySem.Challenge.pw_stripehall_k08_spoilt_texts.main.body.getD i (.Pass ⟨0, 0, 0, 0⟩)
def cn : Nat → Str
  | 0 => Str.ofString "StripehallError"
  | 1 => Str.ofString "BadFile"
  | 2 => Str.ofString "BadText"
  | 3 => Str.ofString "TextReader"
  | _ => Str.ofString ""
def clK (K : PySem.W.Frag) : Nat → Option Addr := fun n => if n < NA then some (He.ga K (cn n)) else none
theorem clK_at {K : PySem.W.Frag} {n : Nat} (h : n < NA) : clK K n = some (He.ga K (cn n)) := if_pos h
theorem lt_is {n : Nat} {b : Bool} (h : (if n < NC then some b else none) = some true) : n < NC := by
  split at h
  · assumption
  · cases h
structure Txt (K : PySem.W.Frag) (mg : Str → Option Value) (w : World) : Prop where
  n_ValueError : mg (Str.ofString "ValueError") = none
  n_abs : mg (Str.ofString "abs") = none
  n_all : mg (Str.ofString "all") = none
  n_bool : mg (Str.ofString "bool") = none
  n_int : mg (Str.ofString "int") = none
  n_isinstance : mg (Str.ofString "isinstance") = none
  n_len : mg (Str.ofString "len") = none
  n_list : mg (Str.ofString "list") = none
  n_min : mg (Str.ofString "min") = none
  n_range : mg (Str.ofString "range") = none
  n_str : mg (Str.ofString "str") = none
  n_tuple : mg (Str.ofString "tuple") = none
  c_LEAVES : mg (Str.ofString "LEAVES") = some (.ref (He.ga K "LEAVES")) ∧ ∀ m H, RD K m H c_LEAVES (.ref (He.ga K "LEAVES"))
  c_MOST_FIELDS : ∃ t, mg (Str.ofString "MOST_FIELDS") = some (.int 8 t)
  c_MOST_LEAVES : ∃ t, mg (Str.ofString "MOST_LEAVES") = some (.int 24 t)
  c_MOST_NESTED : ∃ t, mg (Str.ofString "MOST_NESTED") = some (.int 8 t)
  c_SMALL : ∃ t, mg (Str.ofString "SMALL") = some (.str (Str.ofString "abcdefghijklmnopqrstuvwxyz") t)
  g_BadFile : mg (Str.ofString "BadFile") = some (.ref (He.ga K (Str.ofString "BadFile")))
  g_BadText : mg (Str.ofString "BadText") = some (.ref (He.ga K (Str.ofString "BadText")))
  g_StripehallError : mg (Str.ofString "StripehallError") = some (.ref (He.ga K (Str.ofString "StripehallError")))
  r_BadText : PySem.W.excIn K (He.ga K (Str.ofString "BadText")) He.veBase "ValueError.__new__" = true ∧ PySem.W.keepIn K (.ref (He.ga K (Str.ofString "BadText"))) = true ∧ PySem.W.subIn K (.ref (He.ga K (Str.ofString "BadText"))) (.type "BaseException") = some true ∧ PySem.W.typeIn K (.ref (He.ga K (Str.ofString "BadText"))) = some (.type "type")
  em_BadText : IsOk K (clK K) (.ref (He.ga K (Str.ofString "BadText"))) is_BadText
  ki_BadFile : ∀ (n : Nat) (C : Addr), n < NC → clK K n = some C → PySem.W.kitOne K (.ref C) (.ref (He.ga K (Str.ofString "BadFile"))) = some (xs_BadFile n)
  ki_StripehallError : ∀ (n : Nat) (C : Addr), n < NC → clK K n = some C → PySem.W.kitOne K (.ref C) (.ref (He.ga K (Str.ofString "StripehallError"))) = some (xs_StripehallError n)
  ki_ValueError : ∀ (n : Nat) (C : Addr), n < NC → clK K n = some C → PySem.W.kitOne K (.ref C) (.type "ValueError") = some (xs_ValueError n)
  ec : ∀ (n : Nat) (C : Addr), n < NC → clK K n = some C → ExcC K C
  cl_TextReader : Cls K (He.ga K (Str.ofString "TextReader"))
  na_TextReader_at : NoAttr K (He.ga K (Str.ofString "TextReader")) (Str.ofString "at")
  na_TextReader_text : NoAttr K (He.ga K (Str.ofString "TextReader")) (Str.ofString "text")
  mk_TextReader : Mk K (He.ga K (Str.ofString "TextReader")) (He.ma K (He.ga K (Str.ofString "TextReader")) (Str.ofString "__init__"))
  g_TextReader : mg (Str.ofString "TextReader") = some (.ref (He.ga K (Str.ofString "TextReader")))
  me_TextReader__bare : Meth K (He.ga K (Str.ofString "TextReader")) (Str.ofString "bare") (He.ma K (He.ga K (Str.ofString "TextReader")) (Str.ofString "bare"))
  me_TextReader__field : Meth K (He.ga K (Str.ofString "TextReader")) (Str.ofString "field") (He.ma K (He.ga K (Str.ofString "TextReader")) (Str.ofString "field"))
  me_TextReader__has : Meth K (He.ga K (Str.ofString "TextReader")) (Str.ofString "has") (He.ma K (He.ga K (Str.ofString "TextReader")) (Str.ofString "has"))
  me_TextReader__kind : Meth K (He.ga K (Str.ofString "TextReader")) (Str.ofString "kind") (He.ma K (He.ga K (Str.ofString "TextReader")) (Str.ofString "kind"))
  me_TextReader__name : Meth K (He.ga K (Str.ofString "TextReader")) (Str.ofString "name") (He.ma K (He.ga K (Str.ofString "TextReader")) (Str.ofString "name"))
  me_TextReader__take : Meth K (He.ga K (Str.ofString "TextReader")) (Str.ofString "take") (He.ma K (He.ga K (Str.ofString "TextReader")) (Str.ofString "take"))
  yes : True
theorem k_LEAVES {X : Cx} {cl : Nat → Option Addr} {W : WX} {pos : Pos} (hg : Gl X (Str.ofString "LEAVES")) (h : X.mg (Str.ofString "LEAVES") = some (.ref (He.ga X.K "LEAVES")) ∧ ∀ m H, RD X.K m H c_LEAVES (.ref (He.ga X.K "LEAVES"))) : JE X cl W (.Name (Str.ofString "LEAVES") pos) (eC c_LEAVES) := je_glob (v := .ref _) hg h.1 rfl h.2
theorem k_MOST_FIELDS {X : Cx} {cl : Nat → Option Addr} {W : WX} {pos : Pos} (hg : Gl X (Str.ofString "MOST_FIELDS")) (h : ∃ t, X.mg (Str.ofString "MOST_FIELDS") = some (.int 8 t)) : JE X cl W (.Name (Str.ofString "MOST_FIELDS") pos) (eC c_MOST_FIELDS) := h.elim fun t e => je_glob (v := .int 8) hg e ⟨t, rfl⟩ fun _ _ => .int _
theorem k_MOST_LEAVES {X : Cx} {cl : Nat → Option Addr} {W : WX} {pos : Pos} (hg : Gl X (Str.ofString "MOST_LEAVES")) (h : ∃ t, X.mg (Str.ofString "MOST_LEAVES") = some (.int 24 t)) : JE X cl W (.Name (Str.ofString "MOST_LEAVES") pos) (eC c_MOST_LEAVES) := h.elim fun t e => je_glob (v := .int 24) hg e ⟨t, rfl⟩ fun _ _ => .int _
theorem k_MOST_NESTED {X : Cx} {cl : Nat → Option Addr} {W : WX} {pos : Pos} (hg : Gl X (Str.ofString "MOST_NESTED")) (h : ∃ t, X.mg (Str.ofString "MOST_NESTED") = some (.int 8 t)) : JE X cl W (.Name (Str.ofString "MOST_NESTED") pos) (eC c_MOST_NESTED) := h.elim fun t e => je_glob (v := .int 8) hg e ⟨t, rfl⟩ fun _ _ => .int _
theorem k_SMALL {X : Cx} {cl : Nat → Option Addr} {W : WX} {pos : Pos} (hg : Gl X (Str.ofString "SMALL")) (h : ∃ t, X.mg (Str.ofString "SMALL") = some (.str (Str.ofString "abcdefghijklmnopqrstuvwxyz") t)) : JE X cl W (.Name (Str.ofString "SMALL") pos) (eC c_SMALL) := h.elim fun t e => je_glob (v := .str (Str.ofString "abcdefghijklmnopqrstuvwxyz")) hg e ⟨t, rfl⟩ fun _ _ => .str _
abbrev s_is_name : Stmt := top 10
abbrev s_are_fields : Stmt := top 11
abbrev s_parts_of : Stmt := top 12
abbrev s_is_schema : Stmt := top 13
abbrev s_TextReader____init__ : Stmt := inClass (top 14) 0
abbrev s_TextReader__has : Stmt := inClass (top 14) 1
abbrev s_TextReader__take : Stmt := inClass (top 14) 2
abbrev s_TextReader__name : Stmt := inClass (top 14) 3
abbrev s_TextReader__field : Stmt := inClass (top 14) 4
abbrev s_TextReader__bare : Stmt := inClass (top 14) 5
abbrev s_TextReader__kind : Stmt := inClass (top 14) 6
abbrev s_read_schema : Stmt := top 15
abbrev s__law_stream : Stmt := top 17
abbrev s__law_draw : Stmt := top 18
abbrev s__law_pick : Stmt := top 19
abbrev s__law_same : Stmt := top 20
abbrev s__law_name : Stmt := top 21
abbrev s__law_record : Stmt := top 22
abbrev s__law_kind : Stmt := top 23
abbrev s__law_is_name : Stmt := top 24
abbrev s__law_count : Stmt := top 25
abbrev s__law_is_schema : Stmt := top 26
abbrev s__law_shown : Stmt := top 27
abbrev s__law_fields_of : Stmt := top 28
abbrev s__law_kind_of : Stmt := top 29
abbrev s__law_due : Stmt := top 30
abbrev s__law_read_as : Stmt := top 31
abbrev s__law_turned : Stmt := top 32
abbrev s_law : Stmt := top 33
def qn : Nat → Str
  | 0 => Str.ofString "is_name"
  | 1 => Str.ofString "are_fields"
  | 2 => Str.ofString "parts_of"
  | 3 => Str.ofString "is_schema"
  | 4 => Str.ofString "TextReader.__init__"
  | 5 => Str.ofString "TextReader.has"
  | 6 => Str.ofString "TextReader.take"
  | 7 => Str.ofString "TextReader.name"
  | 8 => Str.ofString "TextReader.field"
  | 9 => Str.ofString "TextReader.bare"
  | 10 => Str.ofString "TextReader.kind"
  | 11 => Str.ofString "read_schema"
  | 12 => Str.ofString "_law_stream"
  | 13 => Str.ofString "_law_draw"
  | 14 => Str.ofString "_law_pick"
  | 15 => Str.ofString "_law_same"
  | 16 => Str.ofString "_law_name"
  | 17 => Str.ofString "_law_record"
  | 18 => Str.ofString "_law_kind"
  | 19 => Str.ofString "_law_is_name"
  | 20 => Str.ofString "_law_count"
  | 21 => Str.ofString "_law_is_schema"
  | 22 => Str.ofString "_law_shown"
  | 23 => Str.ofString "_law_fields_of"
  | 24 => Str.ofString "_law_kind_of"
  | 25 => Str.ofString "_law_due"
  | 26 => Str.ofString "_law_read_as"
  | 27 => Str.ofString "_law_turned"
  | 28 => Str.ofString "law"
  | _ => Str.ofString ""
def nm : Nat → Str
  | 0 => Str.ofString "is_name"
  | 1 => Str.ofString "are_fields"
  | 2 => Str.ofString "parts_of"
  | 3 => Str.ofString "is_schema"
  | 4 => Str.ofString "__init__"
  | 5 => Str.ofString "has"
  | 6 => Str.ofString "take"
  | 7 => Str.ofString "name"
  | 8 => Str.ofString "field"
  | 9 => Str.ofString "bare"
  | 10 => Str.ofString "kind"
  | 11 => Str.ofString "read_schema"
  | 12 => Str.ofString "_law_stream"
  | 13 => Str.ofString "_law_draw"
  | 14 => Str.ofString "_law_pick"
  | 15 => Str.ofString "_law_same"
  | 16 => Str.ofString "_law_name"
  | 17 => Str.ofString "_law_record"
  | 18 => Str.ofString "_law_kind"
  | 19 => Str.ofString "_law_is_name"
  | 20 => Str.ofString "_law_count"
  | 21 => Str.ofString "_law_is_schema"
  | 22 => Str.ofString "_law_shown"
  | 23 => Str.ofString "_law_fields_of"
  | 24 => Str.ofString "_law_kind_of"
  | 25 => Str.ofString "_law_due"
  | 26 => Str.ofString "_law_read_as"
  | 27 => Str.ofString "_law_turned"
  | 28 => Str.ofString "law"
  | _ => Str.ofString ""
def pm : Nat → List Str
  | 0 => [Str.ofString "value"]
  | 1 => [Str.ofString "value"]
  | 2 => [Str.ofString "value"]
  | 3 => [Str.ofString "value"]
  | 4 => [Str.ofString "self", Str.ofString "text"]
  | 5 => [Str.ofString "self", Str.ofString "word"]
  | 6 => [Str.ofString "self", Str.ofString "word"]
  | 7 => [Str.ofString "self"]
  | 8 => [Str.ofString "self"]
  | 9 => [Str.ofString "self"]
  | 10 => [Str.ofString "self"]
  | 11 => [Str.ofString "text"]
  | 12 => [Str.ofString "script"]
  | 13 => [Str.ofString "stream", Str.ofString "many"]
  | 14 => [Str.ofString "stream", Str.ofString "rows"]
  | 15 => [Str.ofString "told", Str.ofString "due"]
  | 16 => [Str.ofString "stream", Str.ofString "used"]
  | 17 => [Str.ofString "stream", Str.ofString "depth", Str.ofString "most"]
  | 18 => [Str.ofString "stream", Str.ofString "depth", Str.ofString "most"]
  | 19 => [Str.ofString "value"]
  | 20 => [Str.ofString "value", Str.ofString "depth"]
  | 21 => [Str.ofString "value"]
  | 22 => [Str.ofString "kind"]
  | 23 => [Str.ofString "text"]
  | 24 => [Str.ofString "text"]
  | 25 => [Str.ofString "text"]
  | 26 => [Str.ofString "text", Str.ofString "due"]
  | 27 => [Str.ofString "stream", Str.ofString "text"]
  | 28 => [Str.ofString "script"]
  | _ => []
def sm : Nat → Stmt
  | 0 => top 10
  | 1 => top 11
  | 2 => top 12
  | 3 => top 13
  | 4 => inClass (top 14) 0
  | 5 => inClass (top 14) 1
  | 6 => inClass (top 14) 2
  | 7 => inClass (top 14) 3
  | 8 => inClass (top 14) 4
  | 9 => inClass (top 14) 5
  | 10 => inClass (top 14) 6
  | 11 => top 15
  | 12 => top 17
  | 13 => top 18
  | 14 => top 19
  | 15 => top 20
  | 16 => top 21
  | 17 => top 22
  | 18 => top 23
  | 19 => top 24
  | 20 => top 25
  | 21 => top 26
  | 22 => top 27
  | 23 => top 28
  | 24 => top 29
  | 25 => top 30
  | 26 => top 31
  | 27 => top 32
  | 28 => top 33
  | _ => .Pass ⟨0, 0, 0, 0⟩
def ad (K : PySem.W.Frag) : Nat → Addr
  | 0 => He.ga K (Str.ofString "is_name")
  | 1 => He.ga K (Str.ofString "are_fields")
  | 2 => He.ga K (Str.ofString "parts_of")
  | 3 => He.ga K (Str.ofString "is_schema")
  | 4 => He.ma K (He.ga K (Str.ofString "TextReader")) (Str.ofString "__init__")
  | 5 => He.ma K (He.ga K (Str.ofString "TextReader")) (Str.ofString "has")
  | 6 => He.ma K (He.ga K (Str.ofString "TextReader")) (Str.ofString "take")
  | 7 => He.ma K (He.ga K (Str.ofString "TextReader")) (Str.ofString "name")
  | 8 => He.ma K (He.ga K (Str.ofString "TextReader")) (Str.ofString "field")
  | 9 => He.ma K (He.ga K (Str.ofString "TextReader")) (Str.ofString "bare")
  | 10 => He.ma K (He.ga K (Str.ofString "TextReader")) (Str.ofString "kind")
  | 11 => He.ga K (Str.ofString "read_schema")
  | 12 => He.ga K (Str.ofString "_law_stream")
  | 13 => He.ga K (Str.ofString "_law_draw")
  | 14 => He.ga K (Str.ofString "_law_pick")
  | 15 => He.ga K (Str.ofString "_law_same")
  | 16 => He.ga K (Str.ofString "_law_name")
  | 17 => He.ga K (Str.ofString "_law_record")
  | 18 => He.ga K (Str.ofString "_law_kind")
  | 19 => He.ga K (Str.ofString "_law_is_name")
  | 20 => He.ga K (Str.ofString "_law_count")
  | 21 => He.ga K (Str.ofString "_law_is_schema")
  | 22 => He.ga K (Str.ofString "_law_shown")
  | 23 => He.ga K (Str.ofString "_law_fields_of")
  | 24 => He.ga K (Str.ofString "_law_kind_of")
  | 25 => He.ga K (Str.ofString "_law_due")
  | 26 => He.ga K (Str.ofString "_law_read_as")
  | 27 => He.ga K (Str.ofString "_law_turned")
  | 28 => He.ga K (Str.ofString "law")
  | _ => 0
def isg : Nat → Bool
  | 0 => true
  | 1 => true
  | 2 => true
  | 3 => true
  | 4 => false
  | 5 => false
  | 6 => false
  | 7 => false
  | 8 => false
  | 9 => false
  | 10 => false
  | 11 => true
  | 12 => true
  | 13 => true
  | 14 => true
  | 15 => true
  | 16 => true
  | 17 => true
  | 18 => true
  | 19 => true
  | 20 => true
  | 21 => true
  | 22 => true
  | 23 => true
  | 24 => true
  | 25 => true
  | 26 => true
  | 27 => true
  | 28 => true
  | _ => true
def cnt : Nat := 29
def Sd (K : PySem.W.Frag) : Prop := ∀ j, j < cnt → L2.Fun K (nm j) (qn j) (sm j) (ad K j) (fdOf K (ad K j))
def Al (P : Program) (w : World) (K : PySem.W.Frag) (mg : Str → Option Value) (base : Heap) (Γ : D2.Env) (k : Nat) : Prop := ∀ j, j < cnt →
  FnOk P w K mg base (L2.CX P w) k (ad K j) (fdOf K (ad K j)) (pm j) (spD ⟨K, clK K, P, w⟩ (Γ j)) ∧ (isg j = true → mg (nm j) = some (.ref (ad K j))) ∧ PySem.W.keepIn K (.ref (ad K j)) = true ∧ Binds K (fdOf K (ad K j)) (pm j) []
section
variable {P : Program} {w : World} {K : PySem.W.Frag} {mg : Str → Option Value} {base : Heap} {Γ : D2.Env} {k : Nat}
theorem al0 (ih : Al P w K mg base Γ k) : Al P w K mg base (fun _ _ _ => none) 0 := fun j hj => ⟨fnOk_none fun _ _ => rfl, (ih j hj).2⟩
abbrev n_is_name : List Str := [Str.ofString "value", Str.ofString "sign"]
theorem sc_is_name : FnScope [Str.ofString "value", Str.ofString "sign"] [Str.ofString "value"] (defScope s_is_name) := ⟨rfl, rfl, rfl, by decide +kernel, rfl, by decide +kernel, by decide +kernel⟩
theorem d_is_name (T : Txt K mg w) (F : Sd K) (hk : 2 ≤ k) (ih : Al P w K mg base Γ k) : FnOk P w K mg base (L2.CX P w) (k + 1) (ad K 0) (fdOf K (ad K 0)) [Str.ofString "value"] (spD ⟨K, clK K, P, w⟩ (runFn 2 1 (b_is_name Γ))) := by
  have sc := sc_is_name
  refine def_ok (F 0 (by decide)) sc rfl k fun cdv A outer s H E hr => ?_
  have tk := takes_def (P := P) (w := w) (K := K) (mg := mg) (base := base) (N := [Str.ofString "value", Str.ofString "sign"]) (qual := qn 0) (st := s_is_name) (f := ad K 0) (cdv := cdv) (A := A) (outer := outer) (s := s) (H := H) (E := E)
  have po := passes_def (P := P) (w := w) (K := K) (mg := mg) (base := base) (N := [Str.ofString "value", Str.ofString "sign"]) (qual := qn 0) (st := s_is_name) (f := ad K 0) (cdv := cdv) (A := A) (outer := outer) (s := s) (H := H) (E := E)
  exact (jss_cons (js_if (jt_w (jw_or (jt_not (jt_tru (je_isTy .str rfl rfl T.n_isinstance rfl T.n_str (je_var (pv 0))))) (jw_or1 (jt_not (jt_chain op_leU op_leU sem_ord sem_ord je_int (je_len rfl T.n_len (je_var (pv 0))) je_int)))))
    (jss_one (js_ret je_bl))
    jss_nil)
  (jss_one (js_ret (je_all rfl rfl T.n_all (je_lc (own := [(Str.ofString "sign", 1)])  rfl sc.nd (ji_of (je_var (pv 0))) (blkOk_by (N := n_is_name) (sc := defScope s_is_name) (by decide +kernel)) (by decide) (fun _ _ _ _ _ => (jg_name (pg_name (i := 1) sc.nd rfl (by first | exact Or.inl rfl | exact Or.inr rfl)))) (fun _ _ _ _ _ => jts_nil) (fun _ _ _ _ _ => (je_in hr (je_var (pv 1)) (k_SMALL rfl T.c_SMALL))))))))
abbrev n_are_fields : List Str := [Str.ofString "value", Str.ofString "one"]
theorem sc_are_fields : FnScope [Str.ofString "value", Str.ofString "one"] [Str.ofString "value"] (defScope s_are_fields) := ⟨rfl, rfl, rfl, by decide +kernel, rfl, by decide +kernel, by decide +kernel⟩
theorem d_are_fields (T : Txt K mg w) (F : Sd K) (hk : 2 ≤ k) (ih : Al P w K mg base Γ k) : FnOk P w K mg base (L2.CX P w) (k + 1) (ad K 1) (fdOf K (ad K 1)) [Str.ofString "value"] (spD ⟨K, clK K, P, w⟩ (runFn 2 1 (b_are_fields Γ))) := by
  have sc := sc_are_fields
  refine def_ok (F 1 (by decide)) sc rfl k fun cdv A outer s H E hr => ?_
  have tk := takes_def (P := P) (w := w) (K := K) (mg := mg) (base := base) (N := [Str.ofString "value", Str.ofString "one"]) (qual := qn 1) (st := s_are_fields) (f := ad K 1) (cdv := cdv) (A := A) (outer := outer) (s := s) (H := H) (E := E)
  have po := passes_def (P := P) (w := w) (K := K) (mg := mg) (base := base) (N := [Str.ofString "value", Str.ofString "one"]) (qual := qn 1) (st := s_are_fields) (f := ad K 1) (cdv := cdv) (A := A) (outer := outer) (s := s) (H := H) (E := E)
  exact (jss_cons (js_if (jt_w (jw_or (jt_not (jt_tru (je_isTy .tuple rfl rfl T.n_isinstance rfl T.n_tuple (je_var (pv 0))))) (jw_or1 (jt_not (jt_chain op_leU op_leU sem_ord sem_ord je_int (je_len rfl T.n_len (je_var (pv 0))) (k_MOST_FIELDS rfl T.c_MOST_FIELDS))))))
    (jss_one (js_ret je_bl))
    jss_nil)
  (jss_cons (js_if (jt_not (jt_tru (je_all rfl rfl T.n_all (je_lc (own := [(Str.ofString "one", 1)])  rfl sc.nd (ji_of (je_var (pv 0))) (blkOk_by (N := n_are_fields) (sc := defScope s_are_fields) (by decide +kernel)) (by decide) (fun _ _ _ _ _ => (jg_name (pg_name (i := 1) sc.nd rfl (by first | exact Or.inl rfl | exact Or.inr rfl)))) (fun _ _ _ _ _ => jts_nil) (fun _ _ _ _ _ => (je_and (je_isTy .tuple rfl rfl T.n_isinstance rfl T.n_tuple (je_var (pv 1))) (je_and (je_eq hr (je_len rfl T.n_len (je_var (pv 1))) je_int) (je_one (je_call (f := Γ 0) (ih 0 (by decide)).1 hr takes0 rfl ((ih 0 (by decide)).2.1 rfl) (ih 0 (by decide)).2.2.1 (ih 0 (by decide)).2.2.2 (ja_cons (je_ix (je_var (pv 1)) je_int) ja_nil))))))))))
    (jss_one (js_ret je_bl))
    jss_nil)
  (jss_one (js_ret (je_eq hr (je_lenK rfl T.n_len (je_dc (own := [(Str.ofString "one", 1)]) rfl sc.nd (je_var (pv 0)) (blkOk_by (N := n_are_fields) (sc := defScope s_are_fields) (by decide +kernel)) (by decide) (fun _ _ _ _ _ => (jg_name (pg_name (i := 1) sc.nd rfl (by first | exact Or.inl rfl | exact Or.inr rfl)))) (fun _ _ _ _ _ => (je_ix (je_var (pv 1)) je_int)) (fun _ _ _ _ _ => je_bl))) (je_len rfl T.n_len (je_var (pv 0))))))))
abbrev n_parts_of : List Str := [Str.ofString "value", Str.ofString "one"]
theorem sc_parts_of : FnScope [Str.ofString "value", Str.ofString "one"] [Str.ofString "value"] (defScope s_parts_of) := ⟨rfl, rfl, rfl, by decide +kernel, rfl, by decide +kernel, by decide +kernel⟩
theorem d_parts_of (T : Txt K mg w) (F : Sd K) (hk : 2 ≤ k) (ih : Al P w K mg base Γ k) : FnOk P w K mg base (L2.CX P w) (k + 1) (ad K 2) (fdOf K (ad K 2)) [Str.ofString "value"] (spD ⟨K, clK K, P, w⟩ (runFn 2 1 (b_parts_of Γ))) := by
  have sc := sc_parts_of
  refine def_ok (F 2 (by decide)) sc rfl k fun cdv A outer s H E hr => ?_
  have tk := takes_def (P := P) (w := w) (K := K) (mg := mg) (base := base) (N := [Str.ofString "value", Str.ofString "one"]) (qual := qn 2) (st := s_parts_of) (f := ad K 2) (cdv := cdv) (A := A) (outer := outer) (s := s) (H := H) (E := E)
  have po := passes_def (P := P) (w := w) (K := K) (mg := mg) (base := base) (N := [Str.ofString "value", Str.ofString "one"]) (qual := qn 2) (st := s_parts_of) (f := ad K 2) (cdv := cdv) (A := A) (outer := outer) (s := s) (H := H) (E := E)
  exact (jss_cons (js_if (jt_w (jw_or (jt_not (jt_tru (je_isTy .tuple rfl rfl T.n_isinstance rfl T.n_tuple (je_var (pv 0))))) (jw_or (jt_not (jt_tru (je_var (pv 0)))) (jw_or1 (jt_not (jt_tru (je_isTy .str rfl rfl T.n_isinstance rfl T.n_str (je_ix (je_var (pv 0)) je_int))))))))
    (jss_one (js_ret je_non))
    jss_nil)
  (jss_cons (js_if (jt_w (jw_and (jt_in hr (je_ix (je_var (pv 0)) je_int) (k_LEAVES rfl T.c_LEAVES)) (jw_and1 (jt_eq hr (je_len rfl T.n_len (je_var (pv 0))) je_int))))
    (jss_one (js_ret (je_lst ja_nil)))
    jss_nil)
  (jss_cons (js_if (jt_ne hr (je_len rfl T.n_len (je_var (pv 0))) je_int)
    (jss_one (js_ret je_non))
    jss_nil)
  (jss_cons (js_if (jt_w (jw_and (jt_eq hr (je_ix (je_var (pv 0)) je_int) je_str) (jw_and1 (jt_tru (je_call (f := Γ 1) (ih 1 (by decide)).1 hr tk rfl ((ih 1 (by decide)).2.1 rfl) (ih 1 (by decide)).2.2.1 (ih 1 (by decide)).2.2.2 (ja_cons (je_ix (je_var (pv 0)) je_int) ja_nil))))))
    (jss_one (js_ret (je_lc (own := [(Str.ofString "one", 1)])  rfl sc.nd (ji_of (je_ix (je_var (pv 0)) je_int)) (blkOk_by (N := n_parts_of) (sc := defScope s_parts_of) (by decide +kernel)) (by decide) (fun _ _ _ _ _ => (jg_name (pg_name (i := 1) sc.nd rfl (by first | exact Or.inl rfl | exact Or.inr rfl)))) (fun _ _ _ _ _ => jts_nil) (fun _ _ _ _ _ => (je_ix (je_var (pv 1)) je_int)))))
    jss_nil)
  (jss_cons (js_if (jt_eq hr (je_ix (je_var (pv 0)) je_int) je_str)
    (jss_one (js_ret (je_lst (ja_cons (je_ix (je_var (pv 0)) je_int) ja_nil))))
    jss_nil)
  (jss_cons (js_if (jt_w (jw_and (jt_eq hr (je_ix (je_var (pv 0)) je_int) je_str) (jw_and (jt_tru (je_isTy .tuple rfl rfl T.n_isinstance rfl T.n_tuple (je_ix (je_var (pv 0)) je_int))) (jw_and1 (jt_ne hr (je_slice (je_ix (je_var (pv 0)) je_int) jo_none (jo_some je_int)) (je_tup (ja_cons je_str ja_nil)))))))
    (jss_one (js_ret (je_lst (ja_cons (je_ix (je_var (pv 0)) je_int) ja_nil))))
    jss_nil)
  (jss_one (js_ret je_non))))))))
abbrev n_is_schema : List Str := [Str.ofString "value", Str.ofString "waiting", Str.ofString "count", Str.ofString "one", Str.ofString "depth", Str.ofString "parts", Str.ofString "part"]
theorem sc_is_schema : FnScope [Str.ofString "value", Str.ofString "waiting", Str.ofString "count", Str.ofString "one", Str.ofString "depth", Str.ofString "parts", Str.ofString "part"] [Str.ofString "value"] (defScope s_is_schema) := ⟨rfl, rfl, rfl, by decide +kernel, rfl, by decide +kernel, by decide +kernel⟩
theorem d_is_schema (T : Txt K mg w) (F : Sd K) (hk : 2 ≤ k) (ih : Al P w K mg base Γ k) : FnOk P w K mg base (L2.CX P w) (k + 1) (ad K 3) (fdOf K (ad K 3)) [Str.ofString "value"] (spD ⟨K, clK K, P, w⟩ (runFn 7 1 (b_is_schema Γ))) := by
  have sc := sc_is_schema
  refine def_ok (F 3 (by decide)) sc rfl k fun cdv A outer s H E hr => ?_
  have tk := takes_def (P := P) (w := w) (K := K) (mg := mg) (base := base) (N := [Str.ofString "value", Str.ofString "waiting", Str.ofString "count", Str.ofString "one", Str.ofString "depth", Str.ofString "parts", Str.ofString "part"]) (qual := qn 3) (st := s_is_schema) (f := ad K 3) (cdv := cdv) (A := A) (outer := outer) (s := s) (H := H) (E := E)
  have po := passes_def (P := P) (w := w) (K := K) (mg := mg) (base := base) (N := [Str.ofString "value", Str.ofString "waiting", Str.ofString "count", Str.ofString "one", Str.ofString "depth", Str.ofString "parts", Str.ofString "part"]) (qual := qn 3) (st := s_is_schema) (f := ad K 3) (cdv := cdv) (A := A) (outer := outer) (s := s) (H := H) (E := E)
  exact (jss_cons (js_if (jt_w (jw_or (jt_not (jt_tru (je_isTy .tuple rfl rfl T.n_isinstance rfl T.n_tuple (je_var (pv 0))))) (jw_or1 (jt_ne hr (je_slice (je_var (pv 0)) jo_none (jo_some je_int)) (je_tup (ja_cons je_str ja_nil))))))
    (jss_one (js_ret je_bl))
    jss_nil)
  (jss_cons (js_set (je_lst (ja_cons (je_tup (ja_cons (je_var (pv 0)) (ja_cons je_int ja_nil))) ja_nil)) (fun h => ps_set (i := 1) sc.nd rfl (by first | exact Or.inl rfl | exact Or.inr rfl) h))
  (jss_cons (js_set je_int (fun h => ps_set (i := 2) sc.nd rfl (by first | exact Or.inl rfl | exact Or.inr rfl) h))
  (jss_cons (js_while po (jt_tru (je_var (pv 1)))
    (jss_cons (js_asg (je_pop (je_var (pv 1))) (jg_tup rfl (jgs_cons (jg_name (pg_name (i := 3) sc.nd rfl (by first | exact Or.inl rfl | exact Or.inr rfl))) (jgs_cons (jg_name (pg_name (i := 4) sc.nd rfl (by first | exact Or.inl rfl | exact Or.inr rfl))) jgs_nil))))
    (jss_cons (js_set (je_call (f := Γ 2) (ih 2 (by decide)).1 hr tk rfl ((ih 2 (by decide)).2.1 rfl) (ih 2 (by decide)).2.2.1 (ih 2 (by decide)).2.2.2 (ja_cons (je_var (pv 3)) ja_nil)) (fun h => ps_set (i := 5) sc.nd rfl (by first | exact Or.inl rfl | exact Or.inr rfl) h))
    (jss_cons (js_if (jt_w (jw_or (jt_is (je_var (pv 5)) je_non) (jw_or1 (jt_gt (je_var (pv 4)) (k_MOST_NESTED rfl T.c_MOST_NESTED)))))
      (jss_one (js_ret je_bl))
      jss_nil)
    (jss_cons (js_if (jt_not (jt_tru (je_var (pv 5))))
      (jss_one (js_aug (i := 2) sc.nd rfl (by first | exact Or.inl rfl | exact Or.inr rfl) (.inl rfl) op_iaddU sem_iadd je_int))
      jss_nil)
    (jss_cons (js_if (jt_gt (je_var (pv 2)) (k_MOST_LEAVES rfl T.c_MOST_LEAVES))
      (jss_one (js_ret je_bl))
      jss_nil)
    (jss_one (js_expr (je_extend (je_var (pv 1)) (je_lc (own := [(Str.ofString "part", 6)])  rfl sc.nd (ji_of (je_var (pv 5))) (blkOk_by (N := n_is_schema) (sc := defScope s_is_schema) (by decide +kernel)) (by decide) (fun _ _ _ _ _ => (jg_name (pg_name (i := 6) sc.nd rfl (by first | exact Or.inl rfl | exact Or.inr rfl)))) (fun _ _ _ _ _ => jts_nil) (fun _ _ _ _ _ => (je_tup (ja_cons (je_var (pv 6)) (ja_cons (je_add (je_var (pv 4)) je_int) ja_nil))))))))))))))
  (jss_one (js_ret je_bl))))))
theorem sc_TextReader____init__ : FnScope [Str.ofString "self", Str.ofString "text"] [Str.ofString "self", Str.ofString "text"] (defScope s_TextReader____init__) := ⟨rfl, rfl, rfl, by decide +kernel, rfl, by decide +kernel, by decide +kernel⟩
theorem d_TextReader____init__ (T : Txt K mg w) (F : Sd K) (ih : Al P w K mg base Γ k) : FnOk P w K mg base (L2.CX P w) (k + 1) (ad K 4) (fdOf K (ad K 4)) [Str.ofString "self", Str.ofString "text"] (spD ⟨K, clK K, P, w⟩ (runFn 2 2 (b_TextReader____init__ Γ))) := by
  have sc := sc_TextReader____init__
  refine def_ok (F 4 (by decide)) sc rfl k fun cdv A outer s H E hr => ?_
  have tk := takes_def (P := P) (w := w) (K := K) (mg := mg) (base := base) (N := [Str.ofString "self", Str.ofString "text"]) (qual := qn 4) (st := s_TextReader____init__) (f := ad K 4) (cdv := cdv) (A := A) (outer := outer) (s := s) (H := H) (E := E)
  have po := passes_def (P := P) (w := w) (K := K) (mg := mg) (base := base) (N := [Str.ofString "self", Str.ofString "text"]) (qual := qn 4) (st := s_TextReader____init__) (f := ad K 4) (cdv := cdv) (A := A) (outer := outer) (s := s) (H := H) (E := E)
  exact (jss_cons (js_fld (je_var (pv 0)) (je_var (pv 1)) (clK_at (n := 3) (by decide)) T.cl_TextReader T.na_TextReader_text)
  (jss_one (js_fld (je_var (pv 0)) je_int (clK_at (n := 3) (by decide)) T.cl_TextReader T.na_TextReader_at)))
theorem sc_TextReader__has : FnScope [Str.ofString "self", Str.ofString "word"] [Str.ofString "self", Str.ofString "word"] (defScope s_TextReader__has) := ⟨rfl, rfl, rfl, by decide +kernel, rfl, by decide +kernel, by decide +kernel⟩
theorem d_TextReader__has (T : Txt K mg w) (F : Sd K) (hk : 2 ≤ k) (ih : Al P w K mg base Γ k) : FnOk P w K mg base (L2.CX P w) (k + 1) (ad K 5) (fdOf K (ad K 5)) [Str.ofString "self", Str.ofString "word"] (spD ⟨K, clK K, P, w⟩ (runFn 2 2 (b_TextReader__has Γ))) := by
  have sc := sc_TextReader__has
  refine def_ok (F 5 (by decide)) sc rfl k fun cdv A outer s H E hr => ?_
  have tk := takes_def (P := P) (w := w) (K := K) (mg := mg) (base := base) (N := [Str.ofString "self", Str.ofString "word"]) (qual := qn 5) (st := s_TextReader__has) (f := ad K 5) (cdv := cdv) (A := A) (outer := outer) (s := s) (H := H) (E := E)
  have po := passes_def (P := P) (w := w) (K := K) (mg := mg) (base := base) (N := [Str.ofString "self", Str.ofString "word"]) (qual := qn 5) (st := s_TextReader__has) (f := ad K 5) (cdv := cdv) (A := A) (outer := outer) (s := s) (H := H) (E := E)
  exact (jss_cons (js_if (jt_ne hr (je_slice (je_fld (je_var (pv 0)) (clK_at (n := 3) (by decide)) T.cl_TextReader T.na_TextReader_text) (jo_some (je_fld (je_var (pv 0)) (clK_at (n := 3) (by decide)) T.cl_TextReader T.na_TextReader_at)) (jo_some (je_add (je_fld (je_var (pv 0)) (clK_at (n := 3) (by decide)) T.cl_TextReader T.na_TextReader_at) (je_len rfl T.n_len (je_var (pv 1)))))) (je_var (pv 1)))
    (jss_one (js_ret je_bl))
    jss_nil)
  (jss_cons (js_fldaug (je_var (pv 0)) (je_len rfl T.n_len (je_var (pv 1))) (clK_at (n := 3) (by decide)) T.cl_TextReader T.na_TextReader_at op_iaddU sem_iadd)
  (jss_one (js_ret je_bl))))
theorem sc_TextReader__take : FnScope [Str.ofString "self", Str.ofString "word"] [Str.ofString "self", Str.ofString "word"] (defScope s_TextReader__take) := ⟨rfl, rfl, rfl, by decide +kernel, rfl, by decide +kernel, by decide +kernel⟩
theorem d_TextReader__take (T : Txt K mg w) (F : Sd K) (hk : 2 ≤ k) (ih : Al P w K mg base Γ k) : FnOk P w K mg base (L2.CX P w) (k + 1) (ad K 6) (fdOf K (ad K 6)) [Str.ofString "self", Str.ofString "word"] (spD ⟨K, clK K, P, w⟩ (runFn 2 2 (b_TextReader__take Γ))) := by
  have sc := sc_TextReader__take
  refine def_ok (F 6 (by decide)) sc rfl k fun cdv A outer s H E hr => ?_
  have tk := takes_def (P := P) (w := w) (K := K) (mg := mg) (base := base) (N := [Str.ofString "self", Str.ofString "word"]) (qual := qn 6) (st := s_TextReader__take) (f := ad K 6) (cdv := cdv) (A := A) (outer := outer) (s := s) (H := H) (E := E)
  have po := passes_def (P := P) (w := w) (K := K) (mg := mg) (base := base) (N := [Str.ofString "self", Str.ofString "word"]) (qual := qn 6) (st := s_TextReader__take) (f := ad K 6) (cdv := cdv) (A := A) (outer := outer) (s := s) (H := H) (E := E)
  exact (jss_one (js_if (jt_not (jt_tru (je_methD (fn := Γ 5) (je_var (pv 0)) (clK_at (n := 3) (by decide)) T.cl_TextReader T.me_TextReader__has (ih 5 (by decide)).1 hr tk (ih 5 (by decide)).2.2.2 (ja_cons (je_var (pv 1)) ja_nil))))
    (jss_one (js_raiseC T.r_BadText T.g_BadText (clK_at (n := 2) (by decide)) rfl tk rfl))
    jss_nil))
theorem sc_TextReader__name : FnScope [Str.ofString "self", Str.ofString "first"] [Str.ofString "self"] (defScope s_TextReader__name) := ⟨rfl, rfl, rfl, by decide +kernel, rfl, by decide +kernel, by decide +kernel⟩
theorem d_TextReader__name (T : Txt K mg w) (F : Sd K) (hk : 2 ≤ k) (ih : Al P w K mg base Γ k) : FnOk P w K mg base (L2.CX P w) (k + 1) (ad K 7) (fdOf K (ad K 7)) [Str.ofString "self"] (spD ⟨K, clK K, P, w⟩ (runFn 2 1 (b_TextReader__name Γ))) := by
  have sc := sc_TextReader__name
  refine def_ok (F 7 (by decide)) sc rfl k fun cdv A outer s H E hr => ?_
  have tk := takes_def (P := P) (w := w) (K := K) (mg := mg) (base := base) (N := [Str.ofString "self", Str.ofString "first"]) (qual := qn 7) (st := s_TextReader__name) (f := ad K 7) (cdv := cdv) (A := A) (outer := outer) (s := s) (H := H) (E := E)
  have po := passes_def (P := P) (w := w) (K := K) (mg := mg) (base := base) (N := [Str.ofString "self", Str.ofString "first"]) (qual := qn 7) (st := s_TextReader__name) (f := ad K 7) (cdv := cdv) (A := A) (outer := outer) (s := s) (H := H) (E := E)
  exact (jss_cons (js_set (je_fld (je_var (pv 0)) (clK_at (n := 3) (by decide)) T.cl_TextReader T.na_TextReader_at) (fun h => ps_set (i := 1) sc.nd rfl (by first | exact Or.inl rfl | exact Or.inr rfl) h))
  (jss_cons (js_while po (jt_w (jw_and (jt_lt (je_fld (je_var (pv 0)) (clK_at (n := 3) (by decide)) T.cl_TextReader T.na_TextReader_at) (je_len rfl T.n_len (je_fld (je_var (pv 0)) (clK_at (n := 3) (by decide)) T.cl_TextReader T.na_TextReader_text))) (jw_and1 (jt_in hr (je_ix (je_fld (je_var (pv 0)) (clK_at (n := 3) (by decide)) T.cl_TextReader T.na_TextReader_text) (je_fld (je_var (pv 0)) (clK_at (n := 3) (by decide)) T.cl_TextReader T.na_TextReader_at)) (k_SMALL rfl T.c_SMALL)))))
    (jss_one (js_fldaug (je_var (pv 0)) je_int (clK_at (n := 3) (by decide)) T.cl_TextReader T.na_TextReader_at op_iaddU sem_iadd)))
  (jss_one (js_ret (je_slice (je_fld (je_var (pv 0)) (clK_at (n := 3) (by decide)) T.cl_TextReader T.na_TextReader_text) (jo_some (je_var (pv 1))) (jo_some (je_fld (je_var (pv 0)) (clK_at (n := 3) (by decide)) T.cl_TextReader T.na_TextReader_at)))))))
theorem sc_TextReader__field : FnScope [Str.ofString "self", Str.ofString "name"] [Str.ofString "self"] (defScope s_TextReader__field) := ⟨rfl, rfl, rfl, by decide +kernel, rfl, by decide +kernel, by decide +kernel⟩
theorem d_TextReader__field (T : Txt K mg w) (F : Sd K) (hk : 2 ≤ k) (ih : Al P w K mg base Γ k) : FnOk P w K mg base (L2.CX P w) (k + 1) (ad K 8) (fdOf K (ad K 8)) [Str.ofString "self"] (spD ⟨K, clK K, P, w⟩ (runFn 2 1 (b_TextReader__field Γ))) := by
  have sc := sc_TextReader__field
  refine def_ok (F 8 (by decide)) sc rfl k fun cdv A outer s H E hr => ?_
  have tk := takes_def (P := P) (w := w) (K := K) (mg := mg) (base := base) (N := [Str.ofString "self", Str.ofString "name"]) (qual := qn 8) (st := s_TextReader__field) (f := ad K 8) (cdv := cdv) (A := A) (outer := outer) (s := s) (H := H) (E := E)
  have po := passes_def (P := P) (w := w) (K := K) (mg := mg) (base := base) (N := [Str.ofString "self", Str.ofString "name"]) (qual := qn 8) (st := s_TextReader__field) (f := ad K 8) (cdv := cdv) (A := A) (outer := outer) (s := s) (H := H) (E := E)
  exact (jss_cons (js_set (je_methD0 (fn := Γ 7) (je_var (pv 0)) (clK_at (n := 3) (by decide)) T.cl_TextReader T.me_TextReader__name (ih 7 (by decide)).1 hr tk (ih 7 (by decide)).2.2.2) (fun h => ps_set (i := 1) sc.nd rfl (by first | exact Or.inl rfl | exact Or.inr rfl) h))
  (jss_cons (js_expr (je_methD (fn := Γ 6) (je_var (pv 0)) (clK_at (n := 3) (by decide)) T.cl_TextReader T.me_TextReader__take (ih 6 (by decide)).1 hr tk (ih 6 (by decide)).2.2.2 (ja_cons je_str ja_nil)))
  (jss_one (js_ret (je_tup (ja_cons (je_var (pv 1)) (ja_cons (je_methD0 (fn := Γ 10) (je_var (pv 0)) (clK_at (n := 3) (by decide)) T.cl_TextReader T.me_TextReader__kind (ih 10 (by decide)).1 hr tk (ih 10 (by decide)).2.2.2) ja_nil)))))))
theorem sc_TextReader__bare : FnScope [Str.ofString "self", Str.ofString "found", Str.ofString "fields", Str.ofString "word"] [Str.ofString "self"] (defScope s_TextReader__bare) := ⟨rfl, rfl, rfl, by decide +kernel, rfl, by decide +kernel, by decide +kernel⟩
theorem d_TextReader__bare (T : Txt K mg w) (F : Sd K) (hk : 2 ≤ k) (ih : Al P w K mg base Γ k) : FnOk P w K mg base (L2.CX P w) (k + 1) (ad K 9) (fdOf K (ad K 9)) [Str.ofString "self"] (spD ⟨K, clK K, P, w⟩ (runFn 4 1 (b_TextReader__bare Γ))) := by
  have sc := sc_TextReader__bare
  refine def_ok (F 9 (by decide)) sc rfl k fun cdv A outer s H E hr => ?_
  have tk := takes_def (P := P) (w := w) (K := K) (mg := mg) (base := base) (N := [Str.ofString "self", Str.ofString "found", Str.ofString "fields", Str.ofString "word"]) (qual := qn 9) (st := s_TextReader__bare) (f := ad K 9) (cdv := cdv) (A := A) (outer := outer) (s := s) (H := H) (E := E)
  have po := passes_def (P := P) (w := w) (K := K) (mg := mg) (base := base) (N := [Str.ofString "self", Str.ofString "found", Str.ofString "fields", Str.ofString "word"]) (qual := qn 9) (st := s_TextReader__bare) (f := ad K 9) (cdv := cdv) (A := A) (outer := outer) (s := s) (H := H) (E := E)
  exact (jss_cons (js_if (jt_tru (je_methD (fn := Γ 5) (je_var (pv 0)) (clK_at (n := 3) (by decide)) T.cl_TextReader T.me_TextReader__has (ih 5 (by decide)).1 hr tk (ih 5 (by decide)).2.2.2 (ja_cons je_str ja_nil)))
    (jss_cons (js_set (je_tup (ja_cons je_str (ja_cons (je_methD0 (fn := Γ 10) (je_var (pv 0)) (clK_at (n := 3) (by decide)) T.cl_TextReader T.me_TextReader__kind (ih 10 (by decide)).1 hr tk (ih 10 (by decide)).2.2.2) ja_nil))) (fun h => ps_set (i := 1) sc.nd rfl (by first | exact Or.inl rfl | exact Or.inr rfl) h))
    (jss_cons (js_expr (je_methD (fn := Γ 6) (je_var (pv 0)) (clK_at (n := 3) (by decide)) T.cl_TextReader T.me_TextReader__take (ih 6 (by decide)).1 hr tk (ih 6 (by decide)).2.2.2 (ja_cons je_str ja_nil)))
    (jss_one (js_ret (je_var (pv 1))))))
    jss_nil)
  (jss_cons (js_if (jt_tru (je_methD (fn := Γ 5) (je_var (pv 0)) (clK_at (n := 3) (by decide)) T.cl_TextReader T.me_TextReader__has (ih 5 (by decide)).1 hr tk (ih 5 (by decide)).2.2.2 (ja_cons je_str ja_nil)))
    (jss_cons (js_set (je_lst (ja_cons (je_methD0 (fn := Γ 8) (je_var (pv 0)) (clK_at (n := 3) (by decide)) T.cl_TextReader T.me_TextReader__field (ih 8 (by decide)).1 hr tk (ih 8 (by decide)).2.2.2) ja_nil)) (fun h => ps_set (i := 2) sc.nd rfl (by first | exact Or.inl rfl | exact Or.inr rfl) h))
    (jss_cons (js_while po (jt_tru (je_methD (fn := Γ 5) (je_var (pv 0)) (clK_at (n := 3) (by decide)) T.cl_TextReader T.me_TextReader__has (ih 5 (by decide)).1 hr tk (ih 5 (by decide)).2.2.2 (ja_cons je_str ja_nil)))
      (jss_one (js_expr (je_append (je_var (pv 2)) (je_methD0 (fn := Γ 8) (je_var (pv 0)) (clK_at (n := 3) (by decide)) T.cl_TextReader T.me_TextReader__field (ih 8 (by decide)).1 hr tk (ih 8 (by decide)).2.2.2)))))
    (jss_cons (js_expr (je_methD (fn := Γ 6) (je_var (pv 0)) (clK_at (n := 3) (by decide)) T.cl_TextReader T.me_TextReader__take (ih 6 (by decide)).1 hr tk (ih 6 (by decide)).2.2.2 (ja_cons je_str ja_nil)))
    (jss_one (js_ret (je_tup (ja_cons je_str (ja_cons (je_tuple rfl T.n_tuple (je_var (pv 2))) ja_nil))))))))
    jss_nil)
  (jss_cons (js_set (je_methD0 (fn := Γ 7) (je_var (pv 0)) (clK_at (n := 3) (by decide)) T.cl_TextReader T.me_TextReader__name (ih 7 (by decide)).1 hr tk (ih 7 (by decide)).2.2.2) (fun h => ps_set (i := 3) sc.nd rfl (by first | exact Or.inl rfl | exact Or.inr rfl) h))
  (jss_cons (js_if (jt_notIn hr (je_var (pv 3)) (k_LEAVES rfl T.c_LEAVES))
    (jss_one (js_raiseC T.r_BadText T.g_BadText (clK_at (n := 2) (by decide)) rfl tk rfl))
    jss_nil)
  (jss_one (js_ret (je_tup (ja_cons (je_var (pv 3)) ja_nil))))))))
theorem sc_TextReader__kind : FnScope [Str.ofString "self", Str.ofString "found"] [Str.ofString "self"] (defScope s_TextReader__kind) := ⟨rfl, rfl, rfl, by decide +kernel, rfl, by decide +kernel, by decide +kernel⟩
theorem d_TextReader__kind (T : Txt K mg w) (F : Sd K) (hk : 2 ≤ k) (ih : Al P w K mg base Γ k) : FnOk P w K mg base (L2.CX P w) (k + 1) (ad K 10) (fdOf K (ad K 10)) [Str.ofString "self"] (spD ⟨K, clK K, P, w⟩ (runFn 2 1 (b_TextReader__kind Γ))) := by
  have sc := sc_TextReader__kind
  refine def_ok (F 10 (by decide)) sc rfl k fun cdv A outer s H E hr => ?_
  have tk := takes_def (P := P) (w := w) (K := K) (mg := mg) (base := base) (N := [Str.ofString "self", Str.ofString "found"]) (qual := qn 10) (st := s_TextReader__kind) (f := ad K 10) (cdv := cdv) (A := A) (outer := outer) (s := s) (H := H) (E := E)
  have po := passes_def (P := P) (w := w) (K := K) (mg := mg) (base := base) (N := [Str.ofString "self", Str.ofString "found"]) (qual := qn 10) (st := s_TextReader__kind) (f := ad K 10) (cdv := cdv) (A := A) (outer := outer) (s := s) (H := H) (E := E)
  exact (jss_cons (js_set (je_methD0 (fn := Γ 9) (je_var (pv 0)) (clK_at (n := 3) (by decide)) T.cl_TextReader T.me_TextReader__bare (ih 9 (by decide)).1 hr tk (ih 9 (by decide)).2.2.2) (fun h => ps_set (i := 1) sc.nd rfl (by first | exact Or.inl rfl | exact Or.inr rfl) h))
  (jss_one (js_ret (je_if (jt_tru (je_methD (fn := Γ 5) (je_var (pv 0)) (clK_at (n := 3) (by decide)) T.cl_TextReader T.me_TextReader__has (ih 5 (by decide)).1 hr tk (ih 5 (by decide)).2.2.2 (ja_cons je_str ja_nil))) (je_tup (ja_cons je_str (ja_cons (je_var (pv 1)) ja_nil))) (je_var (pv 1))))))
theorem sc_read_schema : FnScope [Str.ofString "text", Str.ofString "depth", Str.ofString "sign", Str.ofString "reader", Str.ofString "found"] [Str.ofString "text"] (defScope s_read_schema) := ⟨rfl, rfl, rfl, by decide +kernel, rfl, by decide +kernel, by decide +kernel⟩
theorem d_read_schema (T : Txt K mg w) (F : Sd K) (hk : 2 ≤ k) (ih : Al P w K mg base Γ k) : FnOk P w K mg base (L2.CX P w) (k + 1) (ad K 11) (fdOf K (ad K 11)) [Str.ofString "text"] (spD ⟨K, clK K, P, w⟩ (runFn 5 1 (b_read_schema Γ))) := by
  have sc := sc_read_schema
  refine def_ok (F 11 (by decide)) sc rfl k fun cdv A outer s H E hr => ?_
  have tk := takes_def (P := P) (w := w) (K := K) (mg := mg) (base := base) (N := [Str.ofString "text", Str.ofString "depth", Str.ofString "sign", Str.ofString "reader", Str.ofString "found"]) (qual := qn 11) (st := s_read_schema) (f := ad K 11) (cdv := cdv) (A := A) (outer := outer) (s := s) (H := H) (E := E)
  have po := passes_def (P := P) (w := w) (K := K) (mg := mg) (base := base) (N := [Str.ofString "text", Str.ofString "depth", Str.ofString "sign", Str.ofString "reader", Str.ofString "found"]) (qual := qn 11) (st := s_read_schema) (f := ad K 11) (cdv := cdv) (A := A) (outer := outer) (s := s) (H := H) (E := E)
  exact (jss_cons (js_if (jt_gt (je_add (je_countS (je_var (pv 0)) je_str) (je_countS (je_var (pv 0)) je_str)) (k_MOST_NESTED rfl T.c_MOST_NESTED))
    (jss_cons (js_set je_int (fun h => ps_set (i := 1) sc.nd rfl (by first | exact Or.inl rfl | exact Or.inr rfl) h))
    (jss_one (js_for po rfl (ji_of (je_var (pv 0))) (jg_name (pg_name (i := 2) sc.nd rfl (by first | exact Or.inl rfl | exact Or.inr rfl)))
      (jss_cons (js_aug (i := 1) sc.nd rfl (by first | exact Or.inl rfl | exact Or.inr rfl) (.inl rfl) op_iaddU sem_iadd (je_sub (je_fint rfl T.n_int (je_in hr (je_var (pv 2)) je_str)) (je_fint rfl T.n_int (je_in hr (je_var (pv 2)) je_str))))
      (jss_one (js_if (jt_gt (je_var (pv 1)) (k_MOST_NESTED rfl T.c_MOST_NESTED))
        (jss_one (js_raiseC T.r_BadText T.g_BadText (clK_at (n := 2) (by decide)) rfl tk rfl))
        jss_nil))))))
    jss_nil)
  (jss_cons (js_set (je_make T.mk_TextReader (d_TextReader____init__ T F (al0 ih)) (hr.mono hk) rfl T.g_TextReader (clK_at (n := 3) (by decide)) (ih 4 (by decide)).2.2.2 (ja_cons (je_var (pv 0)) ja_nil)) (fun h => ps_set (i := 3) sc.nd rfl (by first | exact Or.inl rfl | exact Or.inr rfl) h))
  (jss_cons (js_set (je_methD0 (fn := Γ 10) (je_var (pv 3)) (clK_at (n := 3) (by decide)) T.cl_TextReader T.me_TextReader__kind (ih 10 (by decide)).1 hr tk (ih 10 (by decide)).2.2.2) (fun h => ps_set (i := 4) sc.nd rfl (by first | exact Or.inl rfl | exact Or.inr rfl) h))
  (jss_cons (js_if (jt_w (jw_or (jt_ne hr (je_fld (je_var (pv 3)) (clK_at (n := 3) (by decide)) T.cl_TextReader T.na_TextReader_at) (je_len rfl T.n_len (je_var (pv 0)))) (jw_or1 (jt_not (jt_tru (je_call (f := Γ 3) (ih 3 (by decide)).1 hr tk rfl ((ih 3 (by decide)).2.1 rfl) (ih 3 (by decide)).2.2.1 (ih 3 (by decide)).2.2.2 (ja_cons (je_var (pv 4)) ja_nil)))))))
    (jss_one (js_raiseC T.r_BadText T.g_BadText (clK_at (n := 2) (by decide)) rfl tk rfl))
    jss_nil)
  (jss_one (js_ret (je_var (pv 4))))))))
theorem sc__law_stream : FnScope [Str.ofString "script", Str.ofString "mixed", Str.ofString "cell"] [Str.ofString "script"] (defScope s__law_stream) := ⟨rfl, rfl, rfl, by decide +kernel, rfl, by decide +kernel, by decide +kernel⟩
theorem d__law_stream (T : Txt K mg w) (F : Sd K) (hk : 2 ≤ k) (ih : Al P w K mg base Γ k) : FnOk P w K mg base (L2.CX P w) (k + 1) (ad K 12) (fdOf K (ad K 12)) [Str.ofString "script"] (spD ⟨K, clK K, P, w⟩ (runFn 3 1 (b__law_stream Γ))) := by
  have sc := sc__law_stream
  refine def_ok (F 12 (by decide)) sc rfl k fun cdv A outer s H E hr => ?_
  have tk := takes_def (P := P) (w := w) (K := K) (mg := mg) (base := base) (N := [Str.ofString "script", Str.ofString "mixed", Str.ofString "cell"]) (qual := qn 12) (st := s__law_stream) (f := ad K 12) (cdv := cdv) (A := A) (outer := outer) (s := s) (H := H) (E := E)
  have po := passes_def (P := P) (w := w) (K := K) (mg := mg) (base := base) (N := [Str.ofString "script", Str.ofString "mixed", Str.ofString "cell"]) (qual := qn 12) (st := s__law_stream) (f := ad K 12) (cdv := cdv) (A := A) (outer := outer) (s := s) (H := H) (E := E)
  exact (jss_cons (js_set je_int (fun h => ps_set (i := 1) sc.nd rfl (by first | exact Or.inl rfl | exact Or.inr rfl) h))
  (jss_cons (js_for po rfl (ji_of (je_var (pv 0))) (jg_name (pg_name (i := 2) sc.nd rfl (by first | exact Or.inl rfl | exact Or.inr rfl)))
    (jss_one (js_set (je_mod (je_fint rfl T.n_int (je_add (je_add (je_mul (je_var (pv 1)) je_int) (je_mod (je_fint rfl T.n_int (je_var (pv 2))) je_int)) je_int)) je_int) (fun h => ps_set (i := 1) sc.nd rfl (by first | exact Or.inl rfl | exact Or.inr rfl) h))))
  (jss_one (js_ret (je_lst (ja_cons (je_list rfl T.n_list (je_var (pv 0))) (ja_cons je_int (ja_cons je_int (ja_cons (je_var (pv 1)) ja_nil)))))))))
theorem sc__law_draw : FnScope [Str.ofString "stream", Str.ofString "many", Str.ofString "value"] [Str.ofString "stream", Str.ofString "many"] (defScope s__law_draw) := ⟨rfl, rfl, rfl, by decide +kernel, rfl, by decide +kernel, by decide +kernel⟩
theorem d__law_draw (T : Txt K mg w) (F : Sd K) (hk : 2 ≤ k) (ih : Al P w K mg base Γ k) : FnOk P w K mg base (L2.CX P w) (k + 1) (ad K 13) (fdOf K (ad K 13)) [Str.ofString "stream", Str.ofString "many"] (spD ⟨K, clK K, P, w⟩ (runFn 3 2 (b__law_draw Γ))) := by
  have sc := sc__law_draw
  refine def_ok (F 13 (by decide)) sc rfl k fun cdv A outer s H E hr => ?_
  have tk := takes_def (P := P) (w := w) (K := K) (mg := mg) (base := base) (N := [Str.ofString "stream", Str.ofString "many", Str.ofString "value"]) (qual := qn 13) (st := s__law_draw) (f := ad K 13) (cdv := cdv) (A := A) (outer := outer) (s := s) (H := H) (E := E)
  have po := passes_def (P := P) (w := w) (K := K) (mg := mg) (base := base) (N := [Str.ofString "stream", Str.ofString "many", Str.ofString "value"]) (qual := qn 13) (st := s__law_draw) (f := ad K 13) (cdv := cdv) (A := A) (outer := outer) (s := s) (H := H) (E := E)
  exact (jss_cons (js_if (jt_w (jw_and (jt_eq hr (je_ix (je_var (pv 0)) je_int) je_int) (jw_and1 (jt_lt (je_ix (je_var (pv 0)) je_int) (je_len rfl T.n_len (je_ix (je_var (pv 0)) je_int))))))
    (jss_cons (js_put (je_var (pv 0)) je_int (je_abs rfl T.n_abs (je_fint rfl T.n_int (je_ix (je_ix (je_var (pv 0)) je_int) (je_ix (je_var (pv 0)) je_int)))))
    (jss_one (js_put (je_var (pv 0)) je_int (je_add (je_ix (je_var (pv 0)) je_int) je_int))))
    jss_nil)
  (jss_cons (js_if (jt_eq hr (je_ix (je_var (pv 0)) je_int) je_int)
    (jss_cons (js_put (je_var (pv 0)) je_int (je_mod (je_fint rfl T.n_int (je_add (je_mul (je_ix (je_var (pv 0)) je_int) je_int) je_int)) je_int))
    (jss_one (js_ret (je_mod (je_fint rfl T.n_int (je_fdiv (je_ix (je_var (pv 0)) je_int) je_int)) (je_var (pv 1))))))
    jss_nil)
  (jss_cons (js_set (je_mod (je_fint rfl T.n_int (je_ix (je_var (pv 0)) je_int)) (je_var (pv 1))) (fun h => ps_set (i := 2) sc.nd rfl (by first | exact Or.inl rfl | exact Or.inr rfl) h))
  (jss_cons (js_put (je_var (pv 0)) je_int (je_fdiv (je_ix (je_var (pv 0)) je_int) (je_var (pv 1))))
  (jss_one (js_ret (je_var (pv 2))))))))
theorem sc__law_pick : FnScope [Str.ofString "stream", Str.ofString "rows"] [Str.ofString "stream", Str.ofString "rows"] (defScope s__law_pick) := ⟨rfl, rfl, rfl, by decide +kernel, rfl, by decide +kernel, by decide +kernel⟩
theorem d__law_pick (T : Txt K mg w) (F : Sd K) (hk : 2 ≤ k) (ih : Al P w K mg base Γ k) : FnOk P w K mg base (L2.CX P w) (k + 1) (ad K 14) (fdOf K (ad K 14)) [Str.ofString "stream", Str.ofString "rows"] (spD ⟨K, clK K, P, w⟩ (runFn 2 2 (b__law_pick Γ))) := by
  have sc := sc__law_pick
  refine def_ok (F 14 (by decide)) sc rfl k fun cdv A outer s H E hr => ?_
  have tk := takes_def (P := P) (w := w) (K := K) (mg := mg) (base := base) (N := [Str.ofString "stream", Str.ofString "rows"]) (qual := qn 14) (st := s__law_pick) (f := ad K 14) (cdv := cdv) (A := A) (outer := outer) (s := s) (H := H) (E := E)
  have po := passes_def (P := P) (w := w) (K := K) (mg := mg) (base := base) (N := [Str.ofString "stream", Str.ofString "rows"]) (qual := qn 14) (st := s__law_pick) (f := ad K 14) (cdv := cdv) (A := A) (outer := outer) (s := s) (H := H) (E := E)
  exact (jss_one (js_ret (je_ix (je_var (pv 1)) (je_call (f := Γ 13) (ih 13 (by decide)).1 hr tk rfl ((ih 13 (by decide)).2.1 rfl) (ih 13 (by decide)).2.2.1 (ih 13 (by decide)).2.2.2 (ja_cons (je_var (pv 0)) (ja_cons (je_len rfl T.n_len (je_var (pv 1))) ja_nil))))))
abbrev n__law_same : List Str := [Str.ofString "told", Str.ofString "due", Str.ofString "k"]
theorem sc__law_same : FnScope [Str.ofString "told", Str.ofString "due", Str.ofString "k"] [Str.ofString "told", Str.ofString "due"] (defScope s__law_same) := ⟨rfl, rfl, rfl, by decide +kernel, rfl, by decide +kernel, by decide +kernel⟩
theorem d__law_same (T : Txt K mg w) (F : Sd K) (hk : 2 ≤ k) (ih : Al P w K mg base Γ k) : FnOk P w K mg base (L2.CX P w) (k + 1) (ad K 15) (fdOf K (ad K 15)) [Str.ofString "told", Str.ofString "due"] (spD ⟨K, clK K, P, w⟩ (runFn 3 2 (b__law_same Γ))) := by
  have sc := sc__law_same
  refine def_ok (F 15 (by decide)) sc rfl k fun cdv A outer s H E hr => ?_
  have tk := takes_def (P := P) (w := w) (K := K) (mg := mg) (base := base) (N := [Str.ofString "told", Str.ofString "due", Str.ofString "k"]) (qual := qn 15) (st := s__law_same) (f := ad K 15) (cdv := cdv) (A := A) (outer := outer) (s := s) (H := H) (E := E)
  have po := passes_def (P := P) (w := w) (K := K) (mg := mg) (base := base) (N := [Str.ofString "told", Str.ofString "due", Str.ofString "k"]) (qual := qn 15) (st := s__law_same) (f := ad K 15) (cdv := cdv) (A := A) (outer := outer) (s := s) (H := H) (E := E)
  exact (jss_cons (js_if (jt_tru (je_isTy .list rfl rfl T.n_isinstance rfl T.n_list (je_var (pv 1))))
    (jss_cons (js_if (jt_w (jw_or (jt_not (jt_tru (je_isTy .list rfl rfl T.n_isinstance rfl T.n_list (je_var (pv 0))))) (jw_or1 (jt_ne hr (je_len rfl T.n_len (je_var (pv 0))) (je_len rfl T.n_len (je_var (pv 1)))))))
      (jss_one (js_ret je_bl))
      jss_nil)
    (jss_one (js_ret (je_all rfl rfl T.n_all (je_lc (own := [(Str.ofString "k", 2)])  rfl sc.nd (ji_rng1 rfl T.n_range (je_len rfl T.n_len (je_var (pv 1)))) (blkOk_by (N := n__law_same) (sc := defScope s__law_same) (by decide +kernel)) (by decide) (fun _ _ _ _ _ => (jg_name (pg_name (i := 2) sc.nd rfl (by first | exact Or.inl rfl | exact Or.inr rfl)))) (fun _ _ _ _ _ => jts_nil) (fun _ _ _ _ _ => (je_call (f := Γ 15) (ih 15 (by decide)).1 hr takes0 rfl ((ih 15 (by decide)).2.1 rfl) (ih 15 (by decide)).2.2.1 (ih 15 (by decide)).2.2.2 (ja_cons (je_ix (je_var (pv 0)) (je_var (pv 2))) (ja_cons (je_ix (je_var (pv 1)) (je_var (pv 2))) ja_nil)))))))))
    jss_nil)
  (jss_cons (js_if (jt_tru (je_isTy .tuple rfl rfl T.n_isinstance rfl T.n_tuple (je_var (pv 1))))
    (jss_cons (js_if (jt_w (jw_or (jt_not (jt_tru (je_isTy .tuple rfl rfl T.n_isinstance rfl T.n_tuple (je_var (pv 0))))) (jw_or1 (jt_ne hr (je_len rfl T.n_len (je_var (pv 0))) (je_len rfl T.n_len (je_var (pv 1)))))))
      (jss_one (js_ret je_bl))
      jss_nil)
    (jss_one (js_ret (je_all rfl rfl T.n_all (je_lc (own := [(Str.ofString "k", 2)])  rfl sc.nd (ji_rng1 rfl T.n_range (je_len rfl T.n_len (je_var (pv 1)))) (blkOk_by (N := n__law_same) (sc := defScope s__law_same) (by decide +kernel)) (by decide) (fun _ _ _ _ _ => (jg_name (pg_name (i := 2) sc.nd rfl (by first | exact Or.inl rfl | exact Or.inr rfl)))) (fun _ _ _ _ _ => jts_nil) (fun _ _ _ _ _ => (je_call (f := Γ 15) (ih 15 (by decide)).1 hr takes0 rfl ((ih 15 (by decide)).2.1 rfl) (ih 15 (by decide)).2.2.1 (ih 15 (by decide)).2.2.2 (ja_cons (je_ix (je_var (pv 0)) (je_var (pv 2))) (ja_cons (je_ix (je_var (pv 1)) (je_var (pv 2))) ja_nil)))))))))
    jss_nil)
  (jss_cons (js_if (jt_is (je_var (pv 1)) je_non)
    (jss_one (js_ret (je_is (je_var (pv 0)) je_non)))
    jss_nil)
  (jss_cons (js_if (jt_tru (je_isTy .bool rfl rfl T.n_isinstance rfl T.n_bool (je_var (pv 1))))
    (jss_one (js_ret (je_and (je_isTy .bool rfl rfl T.n_isinstance rfl T.n_bool (je_var (pv 0))) (je_one (je_eq hr (je_var (pv 0)) (je_var (pv 1)))))))
    jss_nil)
  (jss_cons (js_if (jt_tru (je_isTy .str rfl rfl T.n_isinstance rfl T.n_str (je_var (pv 1))))
    (jss_one (js_ret (je_and (je_isTy .str rfl rfl T.n_isinstance rfl T.n_str (je_var (pv 0))) (je_one (je_eq hr (je_var (pv 0)) (je_var (pv 1)))))))
    jss_nil)
  (jss_one (js_ret (je_and (je_isTy .int rfl rfl T.n_isinstance rfl T.n_int (je_var (pv 0))) (je_and (je_not (je_isTy .bool rfl rfl T.n_isinstance rfl T.n_bool (je_var (pv 0)))) (je_one (je_eq hr (je_var (pv 0)) (je_var (pv 1)))))))))))))
abbrev n__law_name : List Str := [Str.ofString "stream", Str.ofString "used", Str.ofString "letters", Str.ofString "many", Str.ofString "name", Str.ofString "k", Str.ofString "at"]
theorem sc__law_name : FnScope [Str.ofString "stream", Str.ofString "used", Str.ofString "letters", Str.ofString "many", Str.ofString "name", Str.ofString "k", Str.ofString "at"] [Str.ofString "stream", Str.ofString "used"] (defScope s__law_name) := ⟨rfl, rfl, rfl, by decide +kernel, rfl, by decide +kernel, by decide +kernel⟩
theorem d__law_name (T : Txt K mg w) (F : Sd K) (hk : 2 ≤ k) (ih : Al P w K mg base Γ k) : FnOk P w K mg base (L2.CX P w) (k + 1) (ad K 16) (fdOf K (ad K 16)) [Str.ofString "stream", Str.ofString "used"] (spD ⟨K, clK K, P, w⟩ (runFn 7 2 (b__law_name Γ))) := by
  have sc := sc__law_name
  refine def_ok (F 16 (by decide)) sc rfl k fun cdv A outer s H E hr => ?_
  have tk := takes_def (P := P) (w := w) (K := K) (mg := mg) (base := base) (N := [Str.ofString "stream", Str.ofString "used", Str.ofString "letters", Str.ofString "many", Str.ofString "name", Str.ofString "k", Str.ofString "at"]) (qual := qn 16) (st := s__law_name) (f := ad K 16) (cdv := cdv) (A := A) (outer := outer) (s := s) (H := H) (E := E)
  have po := passes_def (P := P) (w := w) (K := K) (mg := mg) (base := base) (N := [Str.ofString "stream", Str.ofString "used", Str.ofString "letters", Str.ofString "many", Str.ofString "name", Str.ofString "k", Str.ofString "at"]) (qual := qn 16) (st := s__law_name) (f := ad K 16) (cdv := cdv) (A := A) (outer := outer) (s := s) (H := H) (E := E)
  exact (jss_cons (js_set je_str (fun h => ps_set (i := 2) sc.nd rfl (by first | exact Or.inl rfl | exact Or.inr rfl) h))
  (jss_cons (js_set (je_ix (je_lst (ja_cons je_int (ja_cons je_int (ja_cons je_int (ja_cons je_int (ja_cons je_int (ja_cons je_int (ja_cons je_int ja_nil)))))))) (je_call (f := Γ 13) (ih 13 (by decide)).1 hr tk rfl ((ih 13 (by decide)).2.1 rfl) (ih 13 (by decide)).2.2.1 (ih 13 (by decide)).2.2.2 (ja_cons (je_var (pv 0)) (ja_cons je_int ja_nil)))) (fun h => ps_set (i := 3) sc.nd rfl (by first | exact Or.inl rfl | exact Or.inr rfl) h))
  (jss_cons (js_set (je_join je_str (je_lc (own := [(Str.ofString "k", 5)])  rfl sc.nd (ji_rng1 rfl T.n_range (je_var (pv 3))) (blkOk_by (N := n__law_name) (sc := defScope s__law_name) (by decide +kernel)) (by decide) (fun _ _ _ _ _ => (jg_name (pg_name (i := 5) sc.nd rfl (by first | exact Or.inl rfl | exact Or.inr rfl)))) (fun _ _ _ _ _ => jts_nil) (fun _ _ _ _ _ => (je_ix (je_var (pv 2)) (je_call (f := Γ 13) (ih 13 (by decide)).1 hr takes0 rfl ((ih 13 (by decide)).2.1 rfl) (ih 13 (by decide)).2.2.1 (ih 13 (by decide)).2.2.2 (ja_cons (je_var (pv 0)) (ja_cons je_int ja_nil))))))) (fun h => ps_set (i := 4) sc.nd rfl (by first | exact Or.inl rfl | exact Or.inr rfl) h))
  (jss_cons (js_if (jt_w (jw_and (jt_tru (je_var (pv 1))) (jw_and1 (jt_eq hr (je_call (f := Γ 13) (ih 13 (by decide)).1 hr tk rfl ((ih 13 (by decide)).2.1 rfl) (ih 13 (by decide)).2.2.1 (ih 13 (by decide)).2.2.2 (ja_cons (je_var (pv 0)) (ja_cons je_int ja_nil))) je_int))))
    (jss_one (js_set (je_ix (je_var (pv 1)) (je_call (f := Γ 13) (ih 13 (by decide)).1 hr tk rfl ((ih 13 (by decide)).2.1 rfl) (ih 13 (by decide)).2.2.1 (ih 13 (by decide)).2.2.2 (ja_cons (je_var (pv 0)) (ja_cons (je_len rfl T.n_len (je_var (pv 1))) ja_nil)))) (fun h => ps_set (i := 4) sc.nd rfl (by first | exact Or.inl rfl | exact Or.inr rfl) h)))
    jss_nil)
  (jss_cons (js_set (je_call (f := Γ 13) (ih 13 (by decide)).1 hr tk rfl ((ih 13 (by decide)).2.1 rfl) (ih 13 (by decide)).2.2.1 (ih 13 (by decide)).2.2.2 (ja_cons (je_var (pv 0)) (ja_cons (je_len rfl T.n_len (je_var (pv 4))) ja_nil))) (fun h => ps_set (i := 6) sc.nd rfl (by first | exact Or.inl rfl | exact Or.inr rfl) h))
  (jss_cons (js_for po rfl (ji_rng1 rfl T.n_range je_int) (jg_name (pg_name (i := 5) sc.nd rfl (by first | exact Or.inl rfl | exact Or.inr rfl)))
    (jss_cons (js_if (jt_notIn hr (je_var (pv 4)) (je_var (pv 1)))
      (jss_one (js_ret (je_var (pv 4))))
      jss_nil)
    (jss_one (js_set (je_add (je_add (je_slice (je_var (pv 4)) jo_none (jo_some (je_var (pv 6)))) (je_ix (je_var (pv 2)) (je_mod (je_add (je_indexA (je_var (pv 2)) (je_ix (je_var (pv 4)) (je_var (pv 6)))) je_int) je_int))) (je_slice (je_var (pv 4)) (jo_some (je_add (je_var (pv 6)) je_int)) jo_none)) (fun h => ps_set (i := 4) sc.nd rfl (by first | exact Or.inl rfl | exact Or.inr rfl) h)))))
  (jss_one (js_ret (je_var (pv 4))))))))))
theorem sc__law_record : FnScope [Str.ofString "stream", Str.ofString "depth", Str.ofString "most", Str.ofString "many", Str.ofString "used", Str.ofString "fields", Str.ofString "k", Str.ofString "name"] [Str.ofString "stream", Str.ofString "depth", Str.ofString "most"] (defScope s__law_record) := ⟨rfl, rfl, rfl, by decide +kernel, rfl, by decide +kernel, by decide +kernel⟩
theorem d__law_record (T : Txt K mg w) (F : Sd K) (hk : 2 ≤ k) (ih : Al P w K mg base Γ k) : FnOk P w K mg base (L2.CX P w) (k + 1) (ad K 17) (fdOf K (ad K 17)) [Str.ofString "stream", Str.ofString "depth", Str.ofString "most"] (spD ⟨K, clK K, P, w⟩ (runFn 8 3 (b__law_record Γ))) := by
  have sc := sc__law_record
  refine def_ok (F 17 (by decide)) sc rfl k fun cdv A outer s H E hr => ?_
  have tk := takes_def (P := P) (w := w) (K := K) (mg := mg) (base := base) (N := [Str.ofString "stream", Str.ofString "depth", Str.ofString "most", Str.ofString "many", Str.ofString "used", Str.ofString "fields", Str.ofString "k", Str.ofString "name"]) (qual := qn 17) (st := s__law_record) (f := ad K 17) (cdv := cdv) (A := A) (outer := outer) (s := s) (H := H) (E := E)
  have po := passes_def (P := P) (w := w) (K := K) (mg := mg) (base := base) (N := [Str.ofString "stream", Str.ofString "depth", Str.ofString "most", Str.ofString "many", Str.ofString "used", Str.ofString "fields", Str.ofString "k", Str.ofString "name"]) (qual := qn 17) (st := s__law_record) (f := ad K 17) (cdv := cdv) (A := A) (outer := outer) (s := s) (H := H) (E := E)
  exact (jss_cons (js_set (je_add je_int (je_call (f := Γ 13) (ih 13 (by decide)).1 hr tk rfl ((ih 13 (by decide)).2.1 rfl) (ih 13 (by decide)).2.2.1 (ih 13 (by decide)).2.2.2 (ja_cons (je_var (pv 0)) (ja_cons (je_min rfl rfl T.n_min (je_var (pv 2)) (je_ix (je_lst (ja_cons je_int (ja_cons je_int (ja_cons je_int (ja_cons je_int ja_nil))))) (je_call (f := Γ 13) (ih 13 (by decide)).1 hr tk rfl ((ih 13 (by decide)).2.1 rfl) (ih 13 (by decide)).2.2.1 (ih 13 (by decide)).2.2.2 (ja_cons (je_var (pv 0)) (ja_cons je_int ja_nil))))) ja_nil)))) (fun h => ps_set (i := 3) sc.nd rfl (by first | exact Or.inl rfl | exact Or.inr rfl) h))
  (jss_cons (js_set (je_lst ja_nil) (fun h => ps_set (i := 4) sc.nd rfl (by first | exact Or.inl rfl | exact Or.inr rfl) h))
  (jss_cons (js_set (je_lst ja_nil) (fun h => ps_set (i := 5) sc.nd rfl (by first | exact Or.inl rfl | exact Or.inr rfl) h))
  (jss_cons (js_for po rfl (ji_rng1 rfl T.n_range (je_var (pv 3))) (jg_name (pg_name (i := 6) sc.nd rfl (by first | exact Or.inl rfl | exact Or.inr rfl)))
    (jss_cons (js_set (je_call (f := Γ 16) (ih 16 (by decide)).1 hr tk rfl ((ih 16 (by decide)).2.1 rfl) (ih 16 (by decide)).2.2.1 (ih 16 (by decide)).2.2.2 (ja_cons (je_var (pv 0)) (ja_cons (je_var (pv 4)) ja_nil))) (fun h => ps_set (i := 7) sc.nd rfl (by first | exact Or.inl rfl | exact Or.inr rfl) h))
    (jss_cons (js_expr (je_append (je_var (pv 4)) (je_var (pv 7))))
    (jss_one (js_expr (je_append (je_var (pv 5)) (je_tup (ja_cons (je_var (pv 7)) (ja_cons (je_call (f := Γ 18) (ih 18 (by decide)).1 hr tk rfl ((ih 18 (by decide)).2.1 rfl) (ih 18 (by decide)).2.2.1 (ih 18 (by decide)).2.2.2 (ja_cons (je_var (pv 0)) (ja_cons (je_sub (je_var (pv 1)) je_int) (ja_cons (je_fdiv (je_var (pv 2)) (je_var (pv 3))) ja_nil)))) ja_nil)))))))))
  (jss_one (js_ret (je_tup (ja_cons je_str (ja_cons (je_tuple rfl T.n_tuple (je_var (pv 5))) ja_nil)))))))))
theorem sc__law_kind : FnScope [Str.ofString "stream", Str.ofString "depth", Str.ofString "most", Str.ofString "pick", Str.ofString "inner"] [Str.ofString "stream", Str.ofString "depth", Str.ofString "most"] (defScope s__law_kind) := ⟨rfl, rfl, rfl, by decide +kernel, rfl, by decide +kernel, by decide +kernel⟩
theorem d__law_kind (T : Txt K mg w) (F : Sd K) (hk : 2 ≤ k) (ih : Al P w K mg base Γ k) : FnOk P w K mg base (L2.CX P w) (k + 1) (ad K 18) (fdOf K (ad K 18)) [Str.ofString "stream", Str.ofString "depth", Str.ofString "most"] (spD ⟨K, clK K, P, w⟩ (runFn 5 3 (b__law_kind Γ))) := by
  have sc := sc__law_kind
  refine def_ok (F 18 (by decide)) sc rfl k fun cdv A outer s H E hr => ?_
  have tk := takes_def (P := P) (w := w) (K := K) (mg := mg) (base := base) (N := [Str.ofString "stream", Str.ofString "depth", Str.ofString "most", Str.ofString "pick", Str.ofString "inner"]) (qual := qn 18) (st := s__law_kind) (f := ad K 18) (cdv := cdv) (A := A) (outer := outer) (s := s) (H := H) (E := E)
  have po := passes_def (P := P) (w := w) (K := K) (mg := mg) (base := base) (N := [Str.ofString "stream", Str.ofString "depth", Str.ofString "most", Str.ofString "pick", Str.ofString "inner"]) (qual := qn 18) (st := s__law_kind) (f := ad K 18) (cdv := cdv) (A := A) (outer := outer) (s := s) (H := H) (E := E)
  exact (jss_cons (js_set (je_call (f := Γ 13) (ih 13 (by decide)).1 hr tk rfl ((ih 13 (by decide)).2.1 rfl) (ih 13 (by decide)).2.2.1 (ih 13 (by decide)).2.2.2 (ja_cons (je_var (pv 0)) (ja_cons je_int ja_nil))) (fun h => ps_set (i := 3) sc.nd rfl (by first | exact Or.inl rfl | exact Or.inr rfl) h))
  (jss_cons (js_if (jt_w (jw_or (jt_lt (je_var (pv 1)) je_int) (jw_or1 (jt_lt (je_var (pv 3)) je_int))))
    (jss_one (js_ret (je_tup (ja_cons (je_call (f := Γ 14) (ih 14 (by decide)).1 hr tk rfl ((ih 14 (by decide)).2.1 rfl) (ih 14 (by decide)).2.2.1 (ih 14 (by decide)).2.2.2 (ja_cons (je_var (pv 0)) (ja_cons (je_lst (ja_cons je_str (ja_cons je_str (ja_cons je_str ja_nil)))) ja_nil))) ja_nil))))
    jss_nil)
  (jss_cons (js_if (jt_lt (je_var (pv 3)) je_int)
    (jss_cons (js_set (je_call (f := Γ 18) (ih 18 (by decide)).1 hr tk rfl ((ih 18 (by decide)).2.1 rfl) (ih 18 (by decide)).2.2.1 (ih 18 (by decide)).2.2.2 (ja_cons (je_var (pv 0)) (ja_cons (je_sub (je_var (pv 1)) je_int) (ja_cons (je_var (pv 2)) ja_nil)))) (fun h => ps_set (i := 4) sc.nd rfl (by first | exact Or.inl rfl | exact Or.inr rfl) h))
    (jss_cons (js_if (jt_eq hr (je_ix (je_var (pv 4)) je_int) je_str)
      (jss_one (js_ret (je_var (pv 4))))
      jss_nil)
    (jss_one (js_ret (je_tup (ja_cons je_str (ja_cons (je_var (pv 4)) ja_nil)))))))
    jss_nil)
  (jss_cons (js_if (jt_lt (je_var (pv 3)) je_int)
    (jss_one (js_ret (je_tup (ja_cons je_str (ja_cons (je_call (f := Γ 18) (ih 18 (by decide)).1 hr tk rfl ((ih 18 (by decide)).2.1 rfl) (ih 18 (by decide)).2.2.1 (ih 18 (by decide)).2.2.2 (ja_cons (je_var (pv 0)) (ja_cons (je_sub (je_var (pv 1)) je_int) (ja_cons (je_var (pv 2)) ja_nil)))) ja_nil)))))
    jss_nil)
  (jss_one (js_ret (je_call (f := Γ 17) (ih 17 (by decide)).1 hr tk rfl ((ih 17 (by decide)).2.1 rfl) (ih 17 (by decide)).2.2.1 (ih 17 (by decide)).2.2.2 (ja_cons (je_var (pv 0)) (ja_cons (je_var (pv 1)) (ja_cons (je_var (pv 2)) ja_nil))))))))))
abbrev n__law_is_name : List Str := [Str.ofString "value", Str.ofString "sign"]
theorem sc__law_is_name : FnScope [Str.ofString "value", Str.ofString "sign"] [Str.ofString "value"] (defScope s__law_is_name) := ⟨rfl, rfl, rfl, by decide +kernel, rfl, by decide +kernel, by decide +kernel⟩
theorem d__law_is_name (T : Txt K mg w) (F : Sd K) (hk : 2 ≤ k) (ih : Al P w K mg base Γ k) : FnOk P w K mg base (L2.CX P w) (k + 1) (ad K 19) (fdOf K (ad K 19)) [Str.ofString "value"] (spD ⟨K, clK K, P, w⟩ (runFn 2 1 (b__law_is_name Γ))) := by
  have sc := sc__law_is_name
  refine def_ok (F 19 (by decide)) sc rfl k fun cdv A outer s H E hr => ?_
  have tk := takes_def (P := P) (w := w) (K := K) (mg := mg) (base := base) (N := [Str.ofString "value", Str.ofString "sign"]) (qual := qn 19) (st := s__law_is_name) (f := ad K 19) (cdv := cdv) (A := A) (outer := outer) (s := s) (H := H) (E := E)
  have po := passes_def (P := P) (w := w) (K := K) (mg := mg) (base := base) (N := [Str.ofString "value", Str.ofString "sign"]) (qual := qn 19) (st := s__law_is_name) (f := ad K 19) (cdv := cdv) (A := A) (outer := outer) (s := s) (H := H) (E := E)
  exact (jss_cons (js_if (jt_w (jw_or (jt_not (jt_tru (je_isTy .str rfl rfl T.n_isinstance rfl T.n_str (je_var (pv 0))))) (jw_or1 (jt_not (jt_chain op_leU op_leU sem_ord sem_ord je_int (je_len rfl T.n_len (je_var (pv 0))) je_int)))))
    (jss_one (js_ret je_bl))
    jss_nil)
  (jss_one (js_ret (je_all rfl rfl T.n_all (je_lc (own := [(Str.ofString "sign", 1)])  rfl sc.nd (ji_of (je_var (pv 0))) (blkOk_by (N := n__law_is_name) (sc := defScope s__law_is_name) (by decide +kernel)) (by decide) (fun _ _ _ _ _ => (jg_name (pg_name (i := 1) sc.nd rfl (by first | exact Or.inl rfl | exact Or.inr rfl)))) (fun _ _ _ _ _ => jts_nil) (fun _ _ _ _ _ => (je_in hr (je_var (pv 1)) je_str)))))))
theorem sc__law_count : FnScope [Str.ofString "value", Str.ofString "depth", Str.ofString "found", Str.ofString "names", Str.ofString "field"] [Str.ofString "value", Str.ofString "depth"] (defScope s__law_count) := ⟨rfl, rfl, rfl, by decide +kernel, rfl, by decide +kernel, by decide +kernel⟩
theorem d__law_count (T : Txt K mg w) (F : Sd K) (hk : 2 ≤ k) (ih : Al P w K mg base Γ k) : FnOk P w K mg base (L2.CX P w) (k + 1) (ad K 20) (fdOf K (ad K 20)) [Str.ofString "value", Str.ofString "depth"] (spD ⟨K, clK K, P, w⟩ (runFn 5 2 (b__law_count Γ))) := by
  have sc := sc__law_count
  refine def_ok (F 20 (by decide)) sc rfl k fun cdv A outer s H E hr => ?_
  have tk := takes_def (P := P) (w := w) (K := K) (mg := mg) (base := base) (N := [Str.ofString "value", Str.ofString "depth", Str.ofString "found", Str.ofString "names", Str.ofString "field"]) (qual := qn 20) (st := s__law_count) (f := ad K 20) (cdv := cdv) (A := A) (outer := outer) (s := s) (H := H) (E := E)
  have po := passes_def (P := P) (w := w) (K := K) (mg := mg) (base := base) (N := [Str.ofString "value", Str.ofString "depth", Str.ofString "found", Str.ofString "names", Str.ofString "field"]) (qual := qn 20) (st := s__law_count) (f := ad K 20) (cdv := cdv) (A := A) (outer := outer) (s := s) (H := H) (E := E)
  exact (jss_cons (js_if (jt_w (jw_or (jt_not (jt_tru (je_isTy .tuple rfl rfl T.n_isinstance rfl T.n_tuple (je_var (pv 0))))) (jw_or (jt_lt (je_len rfl T.n_len (je_var (pv 0))) je_int) (jw_or (jt_not (jt_tru (je_isTy .str rfl rfl T.n_isinstance rfl T.n_str (je_ix (je_var (pv 0)) je_int)))) (jw_or1 (jt_gt (je_var (pv 1)) je_int))))))
    (jss_one (js_ret je_int))
    jss_nil)
  (jss_cons (js_if (jt_in hr (je_ix (je_var (pv 0)) je_int) (je_tup (ja_cons je_str (ja_cons je_str (ja_cons je_str ja_nil)))))
    (jss_cons (js_if (jt_eq hr (je_len rfl T.n_len (je_var (pv 0))) je_int)
      (jss_one (js_ret je_int))
      jss_nil)
    (jss_one (js_ret je_int)))
    jss_nil)
  (jss_cons (js_if (jt_w (jw_or (jt_ne hr (je_len rfl T.n_len (je_var (pv 0))) je_int) (jw_or1 (jt_notIn hr (je_ix (je_var (pv 0)) je_int) (je_tup (ja_cons je_str (ja_cons je_str (ja_cons je_str ja_nil))))))))
    (jss_one (js_ret je_int))
    jss_nil)
  (jss_cons (js_if (jt_ne hr (je_ix (je_var (pv 0)) je_int) je_str)
    (jss_cons (js_if (jt_w (jw_and (jt_eq hr (je_ix (je_var (pv 0)) je_int) je_str) (jw_and (jt_tru (je_isTy .tuple rfl rfl T.n_isinstance rfl T.n_tuple (je_ix (je_var (pv 0)) je_int))) (jw_and (jt_gt (je_len rfl T.n_len (je_ix (je_var (pv 0)) je_int)) je_int) (jw_and1 (jt_eq hr (je_ix (je_ix (je_var (pv 0)) je_int) je_int) je_str))))))
      (jss_one (js_ret je_int))
      jss_nil)
    (jss_one (js_ret (je_call (f := Γ 20) (ih 20 (by decide)).1 hr tk rfl ((ih 20 (by decide)).2.1 rfl) (ih 20 (by decide)).2.2.1 (ih 20 (by decide)).2.2.2 (ja_cons (je_ix (je_var (pv 0)) je_int) (ja_cons (je_add (je_var (pv 1)) je_int) ja_nil))))))
    jss_nil)
  (jss_cons (js_if (jt_w (jw_or (jt_not (jt_tru (je_isTy .tuple rfl rfl T.n_isinstance rfl T.n_tuple (je_ix (je_var (pv 0)) je_int)))) (jw_or1 (jt_not (jt_chain op_leU op_leU sem_ord sem_ord je_int (je_len rfl T.n_len (je_ix (je_var (pv 0)) je_int)) je_int)))))
    (jss_one (js_ret je_int))
    jss_nil)
  (jss_cons (js_set je_int (fun h => ps_set (i := 2) sc.nd rfl (by first | exact Or.inl rfl | exact Or.inr rfl) h))
  (jss_cons (js_set (je_lst ja_nil) (fun h => ps_set (i := 3) sc.nd rfl (by first | exact Or.inl rfl | exact Or.inr rfl) h))
  (jss_cons (js_for po rfl (ji_of (je_ix (je_var (pv 0)) je_int)) (jg_name (pg_name (i := 4) sc.nd rfl (by first | exact Or.inl rfl | exact Or.inr rfl)))
    (jss_cons (js_if (jt_w (jw_or (jt_not (jt_tru (je_isTy .tuple rfl rfl T.n_isinstance rfl T.n_tuple (je_var (pv 4))))) (jw_or (jt_ne hr (je_len rfl T.n_len (je_var (pv 4))) je_int) (jw_or (jt_not (jt_tru (je_call (f := Γ 19) (ih 19 (by decide)).1 hr tk rfl ((ih 19 (by decide)).2.1 rfl) (ih 19 (by decide)).2.2.1 (ih 19 (by decide)).2.2.2 (ja_cons (je_ix (je_var (pv 4)) je_int) ja_nil)))) (jw_or1 (jt_in hr (je_ix (je_var (pv 4)) je_int) (je_var (pv 3))))))))
      (jss_one (js_ret je_int))
      jss_nil)
    (jss_cons (js_expr (je_append (je_var (pv 3)) (je_ix (je_var (pv 4)) je_int)))
    (jss_one (js_set (je_add (je_var (pv 2)) (je_call (f := Γ 20) (ih 20 (by decide)).1 hr tk rfl ((ih 20 (by decide)).2.1 rfl) (ih 20 (by decide)).2.2.1 (ih 20 (by decide)).2.2.2 (ja_cons (je_ix (je_var (pv 4)) je_int) (ja_cons (je_add (je_var (pv 1)) je_int) ja_nil)))) (fun h => ps_set (i := 2) sc.nd rfl (by first | exact Or.inl rfl | exact Or.inr rfl) h))))))
  (jss_one (js_ret (je_var (pv 2))))))))))))
theorem sc__law_is_schema : FnScope [Str.ofString "value"] [Str.ofString "value"] (defScope s__law_is_schema) := ⟨rfl, rfl, rfl, by decide +kernel, rfl, by decide +kernel, by decide +kernel⟩
theorem d__law_is_schema (T : Txt K mg w) (F : Sd K) (hk : 2 ≤ k) (ih : Al P w K mg base Γ k) : FnOk P w K mg base (L2.CX P w) (k + 1) (ad K 21) (fdOf K (ad K 21)) [Str.ofString "value"] (spD ⟨K, clK K, P, w⟩ (runFn 1 1 (b__law_is_schema Γ))) := by
  have sc := sc__law_is_schema
  refine def_ok (F 21 (by decide)) sc rfl k fun cdv A outer s H E hr => ?_
  have tk := takes_def (P := P) (w := w) (K := K) (mg := mg) (base := base) (N := [Str.ofString "value"]) (qual := qn 21) (st := s__law_is_schema) (f := ad K 21) (cdv := cdv) (A := A) (outer := outer) (s := s) (H := H) (E := E)
  have po := passes_def (P := P) (w := w) (K := K) (mg := mg) (base := base) (N := [Str.ofString "value"]) (qual := qn 21) (st := s__law_is_schema) (f := ad K 21) (cdv := cdv) (A := A) (outer := outer) (s := s) (H := H) (E := E)
  exact (jss_cons (js_if (jt_w (jw_or (jt_not (jt_tru (je_isTy .tuple rfl rfl T.n_isinstance rfl T.n_tuple (je_var (pv 0))))) (jw_or (jt_ne hr (je_len rfl T.n_len (je_var (pv 0))) je_int) (jw_or1 (jt_ne hr (je_ix (je_var (pv 0)) je_int) je_str)))))
    (jss_one (js_ret je_bl))
    jss_nil)
  (jss_one (js_ret (je_le (je_call (f := Γ 20) (ih 20 (by decide)).1 hr tk rfl ((ih 20 (by decide)).2.1 rfl) (ih 20 (by decide)).2.2.1 (ih 20 (by decide)).2.2.2 (ja_cons (je_var (pv 0)) (ja_cons je_int ja_nil))) je_int))))
abbrev n__law_shown : List Str := [Str.ofString "kind", Str.ofString "field"]
theorem sc__law_shown : FnScope [Str.ofString "kind", Str.ofString "field"] [Str.ofString "kind"] (defScope s__law_shown) := ⟨rfl, rfl, rfl, by decide +kernel, rfl, by decide +kernel, by decide +kernel⟩
theorem d__law_shown (T : Txt K mg w) (F : Sd K) (hk : 2 ≤ k) (ih : Al P w K mg base Γ k) : FnOk P w K mg base (L2.CX P w) (k + 1) (ad K 22) (fdOf K (ad K 22)) [Str.ofString "kind"] (spD ⟨K, clK K, P, w⟩ (runFn 2 1 (b__law_shown Γ))) := by
  have sc := sc__law_shown
  refine def_ok (F 22 (by decide)) sc rfl k fun cdv A outer s H E hr => ?_
  have tk := takes_def (P := P) (w := w) (K := K) (mg := mg) (base := base) (N := [Str.ofString "kind", Str.ofString "field"]) (qual := qn 22) (st := s__law_shown) (f := ad K 22) (cdv := cdv) (A := A) (outer := outer) (s := s) (H := H) (E := E)
  have po := passes_def (P := P) (w := w) (K := K) (mg := mg) (base := base) (N := [Str.ofString "kind", Str.ofString "field"]) (qual := qn 22) (st := s__law_shown) (f := ad K 22) (cdv := cdv) (A := A) (outer := outer) (s := s) (H := H) (E := E)
  exact (jss_cons (js_if (jt_eq hr (je_ix (je_var (pv 0)) je_int) je_str)
    (jss_one (js_ret (je_add (je_call (f := Γ 22) (ih 22 (by decide)).1 hr tk rfl ((ih 22 (by decide)).2.1 rfl) (ih 22 (by decide)).2.2.1 (ih 22 (by decide)).2.2.2 (ja_cons (je_ix (je_var (pv 0)) je_int) ja_nil)) je_str)))
    jss_nil)
  (jss_cons (js_if (jt_eq hr (je_ix (je_var (pv 0)) je_int) je_str)
    (jss_one (js_ret (je_add (je_add je_str (je_call (f := Γ 22) (ih 22 (by decide)).1 hr tk rfl ((ih 22 (by decide)).2.1 rfl) (ih 22 (by decide)).2.2.1 (ih 22 (by decide)).2.2.2 (ja_cons (je_ix (je_var (pv 0)) je_int) ja_nil))) je_str)))
    jss_nil)
  (jss_cons (js_if (jt_ne hr (je_ix (je_var (pv 0)) je_int) je_str)
    (jss_one (js_ret (je_ix (je_var (pv 0)) je_int)))
    jss_nil)
  (jss_one (js_ret (je_add (je_add je_str (je_join je_str (je_lc (own := [(Str.ofString "field", 1)])  rfl sc.nd (ji_of (je_ix (je_var (pv 0)) je_int)) (blkOk_by (N := n__law_shown) (sc := defScope s__law_shown) (by decide +kernel)) (by decide) (fun _ _ _ _ _ => (jg_name (pg_name (i := 1) sc.nd rfl (by first | exact Or.inl rfl | exact Or.inr rfl)))) (fun _ _ _ _ _ => jts_nil) (fun _ _ _ _ _ => (je_add (je_add (je_ix (je_var (pv 1)) je_int) je_str) (je_call (f := Γ 22) (ih 22 (by decide)).1 hr takes0 rfl ((ih 22 (by decide)).2.1 rfl) (ih 22 (by decide)).2.2.1 (ih 22 (by decide)).2.2.2 (ja_cons (je_ix (je_var (pv 1)) je_int) ja_nil))))))) je_str))))))
theorem sc__law_fields_of : FnScope [Str.ofString "text", Str.ofString "found", Str.ofString "depth", Str.ofString "k"] [Str.ofString "text"] (defScope s__law_fields_of) := ⟨rfl, rfl, rfl, by decide +kernel, rfl, by decide +kernel, by decide +kernel⟩
theorem d__law_fields_of (T : Txt K mg w) (F : Sd K) (hk : 2 ≤ k) (ih : Al P w K mg base Γ k) : FnOk P w K mg base (L2.CX P w) (k + 1) (ad K 23) (fdOf K (ad K 23)) [Str.ofString "text"] (spD ⟨K, clK K, P, w⟩ (runFn 4 1 (b__law_fields_of Γ))) := by
  have sc := sc__law_fields_of
  refine def_ok (F 23 (by decide)) sc rfl k fun cdv A outer s H E hr => ?_
  have tk := takes_def (P := P) (w := w) (K := K) (mg := mg) (base := base) (N := [Str.ofString "text", Str.ofString "found", Str.ofString "depth", Str.ofString "k"]) (qual := qn 23) (st := s__law_fields_of) (f := ad K 23) (cdv := cdv) (A := A) (outer := outer) (s := s) (H := H) (E := E)
  have po := passes_def (P := P) (w := w) (K := K) (mg := mg) (base := base) (N := [Str.ofString "text", Str.ofString "found", Str.ofString "depth", Str.ofString "k"]) (qual := qn 23) (st := s__law_fields_of) (f := ad K 23) (cdv := cdv) (A := A) (outer := outer) (s := s) (H := H) (E := E)
  exact (jss_cons (js_set (je_lst (ja_cons je_str ja_nil)) (fun h => ps_set (i := 1) sc.nd rfl (by first | exact Or.inl rfl | exact Or.inr rfl) h))
  (jss_cons (js_set je_int (fun h => ps_set (i := 2) sc.nd rfl (by first | exact Or.inl rfl | exact Or.inr rfl) h))
  (jss_cons (js_for po rfl (ji_rng1 rfl T.n_range (je_len rfl T.n_len (je_var (pv 0)))) (jg_name (pg_name (i := 3) sc.nd rfl (by first | exact Or.inl rfl | exact Or.inr rfl)))
    (jss_cons (js_if (jt_in hr (je_ix (je_var (pv 0)) (je_var (pv 3))) je_str)
      (jss_one (js_set (je_add (je_var (pv 2)) je_int) (fun h => ps_set (i := 2) sc.nd rfl (by first | exact Or.inl rfl | exact Or.inr rfl) h)))
      jss_nil)
    (jss_cons (js_if (jt_in hr (je_ix (je_var (pv 0)) (je_var (pv 3))) je_str)
      (jss_one (js_set (je_sub (je_var (pv 2)) je_int) (fun h => ps_set (i := 2) sc.nd rfl (by first | exact Or.inl rfl | exact Or.inr rfl) h)))
      jss_nil)
    (jss_one (js_if (jt_w (jw_and (jt_eq hr (je_var (pv 2)) je_int) (jw_and1 (jt_eq hr (je_slice (je_var (pv 0)) (jo_some (je_var (pv 3))) (jo_some (je_add (je_var (pv 3)) je_int))) je_str))))
      (jss_one (js_expr (je_append (je_var (pv 1)) je_str)))
      (jss_one (js_if (jt_w (jw_or (jt_ne hr (je_var (pv 2)) je_int) (jw_or (jt_eq hr (je_var (pv 3)) je_int) (jw_or1 (jt_ne hr (je_slice (je_var (pv 0)) (jo_some (je_sub (je_var (pv 3)) je_int)) (jo_some (je_add (je_var (pv 3)) je_int))) je_str)))))
        (jss_one (js_put (je_var (pv 1)) (je_sub (je_len rfl T.n_len (je_var (pv 1))) je_int) (je_add (je_ix (je_var (pv 1)) (je_sub (je_len rfl T.n_len (je_var (pv 1))) je_int)) (je_ix (je_var (pv 0)) (je_var (pv 3))))))
        jss_nil)))))))
  (jss_one (js_ret (je_var (pv 1)))))))
theorem sc__law_kind_of : FnScope [Str.ofString "text", Str.ofString "ends", Str.ofString "inner", Str.ofString "fields", Str.ofString "part", Str.ofString "at"] [Str.ofString "text"] (defScope s__law_kind_of) := ⟨rfl, rfl, rfl, by decide +kernel, rfl, by decide +kernel, by decide +kernel⟩
theorem d__law_kind_of (T : Txt K mg w) (F : Sd K) (hk : 2 ≤ k) (ih : Al P w K mg base Γ k) : FnOk P w K mg base (L2.CX P w) (k + 1) (ad K 24) (fdOf K (ad K 24)) [Str.ofString "text"] (spD ⟨K, clK K, P, w⟩ (runFn 6 1 (b__law_kind_of Γ))) := by
  have sc := sc__law_kind_of
  refine def_ok (F 24 (by decide)) sc rfl k fun cdv A outer s H E hr => ?_
  have tk := takes_def (P := P) (w := w) (K := K) (mg := mg) (base := base) (N := [Str.ofString "text", Str.ofString "ends", Str.ofString "inner", Str.ofString "fields", Str.ofString "part", Str.ofString "at"]) (qual := qn 24) (st := s__law_kind_of) (f := ad K 24) (cdv := cdv) (A := A) (outer := outer) (s := s) (H := H) (E := E)
  have po := passes_def (P := P) (w := w) (K := K) (mg := mg) (base := base) (N := [Str.ofString "text", Str.ofString "ends", Str.ofString "inner", Str.ofString "fields", Str.ofString "part", Str.ofString "at"]) (qual := qn 24) (st := s__law_kind_of) (f := ad K 24) (cdv := cdv) (A := A) (outer := outer) (s := s) (H := H) (E := E)
  exact (jss_cons (js_if (jt_in hr (je_var (pv 0)) (je_tup (ja_cons je_str (ja_cons je_str (ja_cons je_str ja_nil)))))
    (jss_one (js_ret (je_tup (ja_cons (je_var (pv 0)) ja_nil))))
    jss_nil)
  (jss_cons (js_if (jt_lt (je_len rfl T.n_len (je_var (pv 0))) je_int)
    (jss_one (js_ret je_non))
    jss_nil)
  (jss_cons (js_set (je_add (je_ix (je_var (pv 0)) je_int) (je_ix (je_var (pv 0)) (je_neg je_int))) (fun h => ps_set (i := 1) sc.nd rfl (by first | exact Or.inl rfl | exact Or.inr rfl) h))
  (jss_cons (js_if (jt_eq hr (je_ix (je_var (pv 0)) (je_neg je_int)) je_str)
    (jss_cons (js_set (je_call (f := Γ 24) (ih 24 (by decide)).1 hr tk rfl ((ih 24 (by decide)).2.1 rfl) (ih 24 (by decide)).2.2.1 (ih 24 (by decide)).2.2.2 (ja_cons (je_slice (je_var (pv 0)) jo_none (jo_some (je_neg je_int))) ja_nil)) (fun h => ps_set (i := 2) sc.nd rfl (by first | exact Or.inl rfl | exact Or.inr rfl) h))
    (jss_cons (js_if (jt_w (jw_or (jt_is (je_var (pv 2)) je_non) (jw_or1 (jt_eq hr (je_ix (je_var (pv 2)) je_int) je_str))))
      (jss_one (js_ret je_non))
      jss_nil)
    (jss_one (js_ret (je_tup (ja_cons je_str (ja_cons (je_var (pv 2)) ja_nil)))))))
    jss_nil)
  (jss_cons (js_if (jt_eq hr (je_var (pv 1)) je_str)
    (jss_cons (js_set (je_call (f := Γ 24) (ih 24 (by decide)).1 hr tk rfl ((ih 24 (by decide)).2.1 rfl) (ih 24 (by decide)).2.2.1 (ih 24 (by decide)).2.2.2 (ja_cons (je_slice (je_var (pv 0)) (jo_some je_int) (jo_some (je_neg je_int))) ja_nil)) (fun h => ps_set (i := 2) sc.nd rfl (by first | exact Or.inl rfl | exact Or.inr rfl) h))
    (jss_cons (js_if (jt_is (je_var (pv 2)) je_non)
      (jss_one (js_ret je_non))
      jss_nil)
    (jss_one (js_ret (je_tup (ja_cons je_str (ja_cons (je_var (pv 2)) ja_nil)))))))
    jss_nil)
  (jss_cons (js_if (jt_ne hr (je_var (pv 1)) je_str)
    (jss_one (js_ret je_non))
    jss_nil)
  (jss_cons (js_set (je_lst ja_nil) (fun h => ps_set (i := 3) sc.nd rfl (by first | exact Or.inl rfl | exact Or.inr rfl) h))
  (jss_cons (js_for po rfl (ji_of (je_call (f := Γ 23) (ih 23 (by decide)).1 hr tk rfl ((ih 23 (by decide)).2.1 rfl) (ih 23 (by decide)).2.2.1 (ih 23 (by decide)).2.2.2 (ja_cons (je_slice (je_var (pv 0)) (jo_some je_int) (jo_some (je_neg je_int))) ja_nil))) (jg_name (pg_name (i := 4) sc.nd rfl (by first | exact Or.inl rfl | exact Or.inr rfl)))
    (jss_cons (js_set (je_find (je_var (pv 4)) je_str) (fun h => ps_set (i := 5) sc.nd rfl (by first | exact Or.inl rfl | exact Or.inr rfl) h))
    (jss_cons (js_if (jt_lt (je_var (pv 5)) je_int)
      (jss_one (js_ret je_non))
      jss_nil)
    (jss_cons (js_set (je_call (f := Γ 24) (ih 24 (by decide)).1 hr tk rfl ((ih 24 (by decide)).2.1 rfl) (ih 24 (by decide)).2.2.1 (ih 24 (by decide)).2.2.2 (ja_cons (je_slice (je_var (pv 4)) (jo_some (je_add (je_var (pv 5)) je_int)) jo_none) ja_nil)) (fun h => ps_set (i := 2) sc.nd rfl (by first | exact Or.inl rfl | exact Or.inr rfl) h))
    (jss_cons (js_if (jt_is (je_var (pv 2)) je_non)
      (jss_one (js_ret je_non))
      jss_nil)
    (jss_one (js_expr (je_append (je_var (pv 3)) (je_tup (ja_cons (je_slice (je_var (pv 4)) jo_none (jo_some (je_var (pv 5)))) (ja_cons (je_var (pv 2)) ja_nil)))))))))))
  (jss_one (js_ret (je_tup (ja_cons je_str (ja_cons (je_tuple rfl T.n_tuple (je_var (pv 3))) ja_nil)))))))))))))
theorem sc__law_due : FnScope [Str.ofString "text", Str.ofString "kind"] [Str.ofString "text"] (defScope s__law_due) := ⟨rfl, rfl, rfl, by decide +kernel, rfl, by decide +kernel, by decide +kernel⟩
theorem d__law_due (T : Txt K mg w) (F : Sd K) (hk : 2 ≤ k) (ih : Al P w K mg base Γ k) : FnOk P w K mg base (L2.CX P w) (k + 1) (ad K 25) (fdOf K (ad K 25)) [Str.ofString "text"] (spD ⟨K, clK K, P, w⟩ (runFn 2 1 (b__law_due Γ))) := by
  have sc := sc__law_due
  refine def_ok (F 25 (by decide)) sc rfl k fun cdv A outer s H E hr => ?_
  have tk := takes_def (P := P) (w := w) (K := K) (mg := mg) (base := base) (N := [Str.ofString "text", Str.ofString "kind"]) (qual := qn 25) (st := s__law_due) (f := ad K 25) (cdv := cdv) (A := A) (outer := outer) (s := s) (H := H) (E := E)
  have po := passes_def (P := P) (w := w) (K := K) (mg := mg) (base := base) (N := [Str.ofString "text", Str.ofString "kind"]) (qual := qn 25) (st := s__law_due) (f := ad K 25) (cdv := cdv) (A := A) (outer := outer) (s := s) (H := H) (E := E)
  exact (jss_cons (js_set (je_call (f := Γ 24) (ih 24 (by decide)).1 hr tk rfl ((ih 24 (by decide)).2.1 rfl) (ih 24 (by decide)).2.2.1 (ih 24 (by decide)).2.2.2 (ja_cons (je_var (pv 0)) ja_nil)) (fun h => ps_set (i := 1) sc.nd rfl (by first | exact Or.inl rfl | exact Or.inr rfl) h))
  (jss_cons (js_if (jt_w (jw_or (jt_is (je_var (pv 1)) je_non) (jw_or1 (jt_not (jt_tru (je_call (f := Γ 21) (ih 21 (by decide)).1 hr tk rfl ((ih 21 (by decide)).2.1 rfl) (ih 21 (by decide)).2.2.1 (ih 21 (by decide)).2.2.2 (ja_cons (je_var (pv 1)) ja_nil)))))))
    (jss_one (js_ret je_non))
    jss_nil)
  (jss_one (js_ret (je_var (pv 1))))))
theorem sc__law_read_as : FnScope [Str.ofString "text", Str.ofString "due", Str.ofString "told", Str.ofString "e"] [Str.ofString "text", Str.ofString "due"] (defScope s__law_read_as) := ⟨rfl, rfl, rfl, by decide +kernel, rfl, by decide +kernel, by decide +kernel⟩
theorem d__law_read_as (T : Txt K mg w) (F : Sd K) (hk : 2 ≤ k) (ih : Al P w K mg base Γ k) : FnOk P w K mg base (L2.CX P w) (k + 1) (ad K 26) (fdOf K (ad K 26)) [Str.ofString "text", Str.ofString "due"] (spD ⟨K, clK K, P, w⟩ (runFn 4 2 (b__law_read_as Γ))) := by
  have sc := sc__law_read_as
  refine def_ok (F 26 (by decide)) sc rfl k fun cdv A outer s H E hr => ?_
  have tk := takes_def (P := P) (w := w) (K := K) (mg := mg) (base := base) (N := [Str.ofString "text", Str.ofString "due", Str.ofString "told", Str.ofString "e"]) (qual := qn 26) (st := s__law_read_as) (f := ad K 26) (cdv := cdv) (A := A) (outer := outer) (s := s) (H := H) (E := E)
  have po := passes_def (P := P) (w := w) (K := K) (mg := mg) (base := base) (N := [Str.ofString "text", Str.ofString "due", Str.ofString "told", Str.ofString "e"]) (qual := qn 26) (st := s__law_read_as) (f := ad K 26) (cdv := cdv) (A := A) (outer := outer) (s := s) (H := H) (E := E)
  exact (jss_one (js_tryAs (i := 3) rfl rfl sc.nd rfl rfl ⟨rfl, by decide, .inl T.g_BadText⟩ tk T.em_BadText
    (fun W' pn xe tk po =>
    (jss_cons (js_set (je_call (f := Γ 11) (ih 11 (by decide)).1 hr tk rfl ((ih 11 (by decide)).2.1 rfl) (ih 11 (by decide)).2.2.1 (ih 11 (by decide)).2.2.2 (ja_cons (je_var (pv 0)) ja_nil)) (fun h => ps_set (i := 2) sc.nd rfl (by first | exact Or.inl rfl | exact Or.inr rfl) h))
    (jss_one (js_ret (je_and (je_isNot (je_var (pv 1)) je_non) (je_one (je_call (f := Γ 15) (ih 15 (by decide)).1 hr tk rfl ((ih 15 (by decide)).2.1 rfl) (ih 15 (by decide)).2.2.1 (ih 15 (by decide)).2.2.2 (ja_cons (je_var (pv 2)) (ja_cons (je_var (pv 1)) ja_nil)))))))))
    (fun nn C qa oe pn hcl hcs hz hv =>
    (gss_one (gs_ret (ge_and (ge_of (je_is (je_var (pv 1)) je_non)) (ge_and (ge_isE (i := 3) (T.ec nn C (lt_is hcs) hcl) hz hv rfl T.n_isinstance (pv 3) (pe_glob (v := .ref (He.ga K (Str.ofString "StripehallError"))) rfl T.g_StripehallError rfl) (fun _ r => r) (T.ki_StripehallError nn C (lt_is hcs) hcl)) (ge_and (ge_isE (i := 3) (T.ec nn C (lt_is hcs) hcl) hz hv rfl T.n_isinstance (pv 3) (pe_bltn (v := .ty "ValueError") rfl T.n_ValueError (by decide +kernel) rfl) (fun _ r => r) (T.ki_ValueError nn C (lt_is hcs) hcl)) (ge_one (ge_not (ge_isE (i := 3) (T.ec nn C (lt_is hcs) hcl) hz hv rfl T.n_isinstance (pv 3) (pe_glob (v := .ref (He.ga K (Str.ofString "BadFile"))) rfl T.g_BadFile rfl) (fun _ r => r) (T.ki_BadFile nn C (lt_is hcs) hcl))))))))))))
theorem sc__law_turned : FnScope [Str.ofString "stream", Str.ofString "text", Str.ofString "at", Str.ofString "to", Str.ofString "pick", Str.ofString "signs", Str.ofString "sign", Str.ofString "left", Str.ofString "place"] [Str.ofString "stream", Str.ofString "text"] (defScope s__law_turned) := ⟨rfl, rfl, rfl, by decide +kernel, rfl, by decide +kernel, by decide +kernel⟩
theorem d__law_turned (T : Txt K mg w) (F : Sd K) (hk : 2 ≤ k) (ih : Al P w K mg base Γ k) : FnOk P w K mg base (L2.CX P w) (k + 1) (ad K 27) (fdOf K (ad K 27)) [Str.ofString "stream", Str.ofString "text"] (spD ⟨K, clK K, P, w⟩ (runFn 9 2 (b__law_turned Γ))) := by
  have sc := sc__law_turned
  refine def_ok (F 27 (by decide)) sc rfl k fun cdv A outer s H E hr => ?_
  have tk := takes_def (P := P) (w := w) (K := K) (mg := mg) (base := base) (N := [Str.ofString "stream", Str.ofString "text", Str.ofString "at", Str.ofString "to", Str.ofString "pick", Str.ofString "signs", Str.ofString "sign", Str.ofString "left", Str.ofString "place"]) (qual := qn 27) (st := s__law_turned) (f := ad K 27) (cdv := cdv) (A := A) (outer := outer) (s := s) (H := H) (E := E)
  have po := passes_def (P := P) (w := w) (K := K) (mg := mg) (base := base) (N := [Str.ofString "stream", Str.ofString "text", Str.ofString "at", Str.ofString "to", Str.ofString "pick", Str.ofString "signs", Str.ofString "sign", Str.ofString "left", Str.ofString "place"]) (qual := qn 27) (st := s__law_turned) (f := ad K 27) (cdv := cdv) (A := A) (outer := outer) (s := s) (H := H) (E := E)
  exact (jss_cons (js_set (je_call (f := Γ 13) (ih 13 (by decide)).1 hr tk rfl ((ih 13 (by decide)).2.1 rfl) (ih 13 (by decide)).2.2.1 (ih 13 (by decide)).2.2.2 (ja_cons (je_var (pv 0)) (ja_cons (je_add (je_len rfl T.n_len (je_var (pv 1))) je_int) ja_nil))) (fun h => ps_set (i := 2) sc.nd rfl (by first | exact Or.inl rfl | exact Or.inr rfl) h))
  (jss_cons (js_set (je_min rfl rfl T.n_min (je_len rfl T.n_len (je_var (pv 1))) (je_add (je_var (pv 2)) (je_call (f := Γ 13) (ih 13 (by decide)).1 hr tk rfl ((ih 13 (by decide)).2.1 rfl) (ih 13 (by decide)).2.2.1 (ih 13 (by decide)).2.2.2 (ja_cons (je_var (pv 0)) (ja_cons je_int ja_nil))))) (fun h => ps_set (i := 3) sc.nd rfl (by first | exact Or.inl rfl | exact Or.inr rfl) h))
  (jss_cons (js_set (je_call (f := Γ 13) (ih 13 (by decide)).1 hr tk rfl ((ih 13 (by decide)).2.1 rfl) (ih 13 (by decide)).2.2.1 (ih 13 (by decide)).2.2.2 (ja_cons (je_var (pv 0)) (ja_cons je_int ja_nil))) (fun h => ps_set (i := 4) sc.nd rfl (by first | exact Or.inl rfl | exact Or.inr rfl) h))
  (jss_cons (js_set je_str (fun h => ps_set (i := 5) sc.nd rfl (by first | exact Or.inl rfl | exact Or.inr rfl) h))
  (jss_cons (js_set (je_ix (je_var (pv 5)) (je_call (f := Γ 13) (ih 13 (by decide)).1 hr tk rfl ((ih 13 (by decide)).2.1 rfl) (ih 13 (by decide)).2.2.1 (ih 13 (by decide)).2.2.2 (ja_cons (je_var (pv 0)) (ja_cons (je_len rfl T.n_len (je_var (pv 5))) ja_nil)))) (fun h => ps_set (i := 6) sc.nd rfl (by first | exact Or.inl rfl | exact Or.inr rfl) h))
  (jss_cons (js_if (jt_eq hr (je_var (pv 4)) je_int)
    (jss_one (js_ret (je_add (je_add (je_slice (je_var (pv 1)) jo_none (jo_some (je_var (pv 2)))) (je_var (pv 6))) (je_slice (je_var (pv 1)) (jo_some (je_var (pv 2))) jo_none))))
    jss_nil)
  (jss_cons (js_if (jt_eq hr (je_var (pv 4)) je_int)
    (jss_one (js_ret (je_add (je_slice (je_var (pv 1)) jo_none (jo_some (je_var (pv 2)))) (je_slice (je_var (pv 1)) (jo_some (je_add (je_var (pv 2)) je_int)) jo_none))))
    jss_nil)
  (jss_cons (js_if (jt_eq hr (je_var (pv 4)) je_int)
    (jss_one (js_ret (je_add (je_add (je_slice (je_var (pv 1)) jo_none (jo_some (je_var (pv 2)))) (je_var (pv 6))) (je_slice (je_var (pv 1)) (jo_some (je_add (je_var (pv 2)) je_int)) jo_none))))
    jss_nil)
  (jss_cons (js_if (jt_eq hr (je_var (pv 4)) je_int)
    (jss_one (js_ret (je_add (je_slice (je_var (pv 1)) jo_none (jo_some (je_var (pv 2)))) (je_slice (je_var (pv 1)) (jo_some (je_var (pv 3))) jo_none))))
    jss_nil)
  (jss_cons (js_if (jt_eq hr (je_var (pv 4)) je_int)
    (jss_one (js_ret (je_add (je_add (je_slice (je_var (pv 1)) jo_none (jo_some (je_var (pv 3)))) (je_slice (je_var (pv 1)) (jo_some (je_var (pv 2))) (jo_some (je_var (pv 3))))) (je_slice (je_var (pv 1)) (jo_some (je_var (pv 3))) jo_none))))
    jss_nil)
  (jss_cons (js_set (je_add (je_slice (je_var (pv 1)) jo_none (jo_some (je_var (pv 2)))) (je_slice (je_var (pv 1)) (jo_some (je_var (pv 3))) jo_none)) (fun h => ps_set (i := 7) sc.nd rfl (by first | exact Or.inl rfl | exact Or.inr rfl) h))
  (jss_cons (js_set (je_call (f := Γ 13) (ih 13 (by decide)).1 hr tk rfl ((ih 13 (by decide)).2.1 rfl) (ih 13 (by decide)).2.2.1 (ih 13 (by decide)).2.2.2 (ja_cons (je_var (pv 0)) (ja_cons (je_add (je_len rfl T.n_len (je_var (pv 7))) je_int) ja_nil))) (fun h => ps_set (i := 8) sc.nd rfl (by first | exact Or.inl rfl | exact Or.inr rfl) h))
  (jss_one (js_ret (je_add (je_add (je_slice (je_var (pv 7)) jo_none (jo_some (je_var (pv 8)))) (je_slice (je_var (pv 1)) (jo_some (je_var (pv 2))) (jo_some (je_var (pv 3))))) (je_slice (je_var (pv 7)) (jo_some (je_var (pv 8))) jo_none))))))))))))))))
theorem sc_law : FnScope [Str.ofString "script", Str.ofString "stream", Str.ofString "schema", Str.ofString "text", Str.ofString "turn", Str.ofString "found"] [Str.ofString "script"] (defScope s_law) := ⟨rfl, rfl, rfl, by decide +kernel, rfl, by decide +kernel, by decide +kernel⟩
theorem d_law (T : Txt K mg w) (F : Sd K) (hk : 2 ≤ k) (ih : Al P w K mg base Γ k) : FnOk P w K mg base (L2.CX P w) (k + 1) (ad K 28) (fdOf K (ad K 28)) [Str.ofString "script"] (spD ⟨K, clK K, P, w⟩ (runFn 6 1 (b_law Γ))) := by
  have sc := sc_law
  refine def_ok (F 28 (by decide)) sc rfl k fun cdv A outer s H E hr => ?_
  have tk := takes_def (P := P) (w := w) (K := K) (mg := mg) (base := base) (N := [Str.ofString "script", Str.ofString "stream", Str.ofString "schema", Str.ofString "text", Str.ofString "turn", Str.ofString "found"]) (qual := qn 28) (st := s_law) (f := ad K 28) (cdv := cdv) (A := A) (outer := outer) (s := s) (H := H) (E := E)
  have po := passes_def (P := P) (w := w) (K := K) (mg := mg) (base := base) (N := [Str.ofString "script", Str.ofString "stream", Str.ofString "schema", Str.ofString "text", Str.ofString "turn", Str.ofString "found"]) (qual := qn 28) (st := s_law) (f := ad K 28) (cdv := cdv) (A := A) (outer := outer) (s := s) (H := H) (E := E)
  exact (jss_cons (js_set (je_call (f := Γ 12) (ih 12 (by decide)).1 hr tk rfl ((ih 12 (by decide)).2.1 rfl) (ih 12 (by decide)).2.2.1 (ih 12 (by decide)).2.2.2 (ja_cons (je_var (pv 0)) ja_nil)) (fun h => ps_set (i := 1) sc.nd rfl (by first | exact Or.inl rfl | exact Or.inr rfl) h))
  (jss_cons (js_set (je_call (f := Γ 17) (ih 17 (by decide)).1 hr tk rfl ((ih 17 (by decide)).2.1 rfl) (ih 17 (by decide)).2.2.1 (ih 17 (by decide)).2.2.2 (ja_cons (je_var (pv 1)) (ja_cons (je_ix (je_lst (ja_cons je_int (ja_cons je_int (ja_cons je_int ja_nil)))) (je_call (f := Γ 13) (ih 13 (by decide)).1 hr tk rfl ((ih 13 (by decide)).2.1 rfl) (ih 13 (by decide)).2.2.1 (ih 13 (by decide)).2.2.2 (ja_cons (je_var (pv 1)) (ja_cons je_int ja_nil)))) (ja_cons (je_ix (je_lst (ja_cons je_int (ja_cons je_int (ja_cons je_int (ja_cons je_int ja_nil))))) (je_call (f := Γ 13) (ih 13 (by decide)).1 hr tk rfl ((ih 13 (by decide)).2.1 rfl) (ih 13 (by decide)).2.2.1 (ih 13 (by decide)).2.2.2 (ja_cons (je_var (pv 1)) (ja_cons je_int ja_nil)))) ja_nil)))) (fun h => ps_set (i := 2) sc.nd rfl (by first | exact Or.inl rfl | exact Or.inr rfl) h))
  (jss_cons (js_set (je_call (f := Γ 22) (ih 22 (by decide)).1 hr tk rfl ((ih 22 (by decide)).2.1 rfl) (ih 22 (by decide)).2.2.1 (ih 22 (by decide)).2.2.2 (ja_cons (je_var (pv 2)) ja_nil)) (fun h => ps_set (i := 3) sc.nd rfl (by first | exact Or.inl rfl | exact Or.inr rfl) h))
  (jss_cons (js_if (jt_not (jt_tru (je_call (f := Γ 26) (ih 26 (by decide)).1 hr tk rfl ((ih 26 (by decide)).2.1 rfl) (ih 26 (by decide)).2.2.1 (ih 26 (by decide)).2.2.2 (ja_cons (je_var (pv 3)) (ja_cons (je_var (pv 2)) ja_nil)))))
    (jss_one (js_ret je_bl))
    jss_nil)
  (jss_cons (js_for po rfl (ji_rng1 rfl T.n_range je_int) (jg_name (pg_name (i := 4) sc.nd rfl (by first | exact Or.inl rfl | exact Or.inr rfl)))
    (jss_cons (js_set (je_call (f := Γ 27) (ih 27 (by decide)).1 hr tk rfl ((ih 27 (by decide)).2.1 rfl) (ih 27 (by decide)).2.2.1 (ih 27 (by decide)).2.2.2 (ja_cons (je_var (pv 1)) (ja_cons (je_var (pv 3)) ja_nil))) (fun h => ps_set (i := 5) sc.nd rfl (by first | exact Or.inl rfl | exact Or.inr rfl) h))
    (jss_cons (js_if (jt_eq hr (je_call (f := Γ 13) (ih 13 (by decide)).1 hr tk rfl ((ih 13 (by decide)).2.1 rfl) (ih 13 (by decide)).2.2.1 (ih 13 (by decide)).2.2.2 (ja_cons (je_var (pv 1)) (ja_cons je_int ja_nil))) je_int)
      (jss_one (js_set (je_call (f := Γ 27) (ih 27 (by decide)).1 hr tk rfl ((ih 27 (by decide)).2.1 rfl) (ih 27 (by decide)).2.2.1 (ih 27 (by decide)).2.2.2 (ja_cons (je_var (pv 1)) (ja_cons (je_var (pv 5)) ja_nil))) (fun h => ps_set (i := 5) sc.nd rfl (by first | exact Or.inl rfl | exact Or.inr rfl) h)))
      jss_nil)
    (jss_one (js_if (jt_not (jt_tru (je_call (f := Γ 26) (ih 26 (by decide)).1 hr tk rfl ((ih 26 (by decide)).2.1 rfl) (ih 26 (by decide)).2.2.1 (ih 26 (by decide)).2.2.2 (ja_cons (je_var (pv 5)) (ja_cons (je_call (f := Γ 25) (ih 25 (by decide)).1 hr tk rfl ((ih 25 (by decide)).2.1 rfl) (ih 25 (by decide)).2.2.1 (ih 25 (by decide)).2.2.2 (ja_cons (je_var (pv 5)) ja_nil)) ja_nil)))))
      (jss_one (js_ret je_bl))
      jss_nil)))))
  (jss_one (js_ret je_bl)))))))
end
end L08
end
section
set_option linter.all false
set_option maxRecDepth 100000
set_option maxHeartbeats 0
namespace L08
open PySem PySem.Spec PyProof.Rows L2 D2
def fa : List He.Fa := [.glo (Str.ofString "is_name"), .glo (Str.ofString "are_fields"), .glo (Str.ofString "parts_of"), .glo (Str.ofString "is_schema"), .glo (Str.ofString "read_schema"), .glo (Str.ofString "_law_stream"), .glo (Str.ofString "_law_draw"), .glo (Str.ofString "_law_pick"), .glo (Str.ofString "_law_same"), .glo (Str.ofString "_law_name"), .glo (Str.ofString "_law_record"), .glo (Str.ofString "_law_kind"), .glo (Str.ofString "_law_is_name"), .glo (Str.ofString "_law_count"), .glo (Str.ofString "_law_is_schema"), .glo (Str.ofString "_law_shown"), .glo (Str.ofString "_law_fields_of"), .glo (Str.ofString "_law_kind_of"), .glo (Str.ofString "_law_due"), .glo (Str.ofString "_law_read_as"), .glo (Str.ofString "_law_turned"), .glo (Str.ofString "law"), .free (Str.ofString "ValueError"), .free (Str.ofString "abs"), .free (Str.ofString "all"), .free (Str.ofString "bool"), .free (Str.ofString "int"), .free (Str.ofString "isinstance"), .free (Str.ofString "len"), .free (Str.ofString "list"), .free (Str.ofString "min"), .free (Str.ofString "range"), .free (Str.ofString "str"), .free (Str.ofString "tuple"), .glo (Str.ofString "BadFile"), .glo (Str.ofString "BadText"), .glo (Str.ofString "StripehallError"), .exc (Str.ofString "BadText"), .cls (Str.ofString "TextReader"), .noat (Str.ofString "TextReader") (Str.ofString "at"), .noat (Str.ofString "TextReader") (Str.ofString "text"), .mkr (Str.ofString "TextReader"), .glo (Str.ofString "TextReader"), .meth (Str.ofString "TextReader") (Str.ofString "bare"), .meth (Str.ofString "TextReader") (Str.ofString "field"), .meth (Str.ofString "TextReader") (Str.ofString "has"), .meth (Str.ofString "TextReader") (Str.ofString "kind"), .meth (Str.ofString "TextReader") (Str.ofString "name"), .meth (Str.ofString "TextReader") (Str.ofString "take")]
def fnl : List He.DefD := [dOf (Str.ofString "is_name") (top 10), dOf (Str.ofString "are_fields") (top 11), dOf (Str.ofString "parts_of") (top 12), dOf (Str.ofString "is_schema") (top 13), dOfM (Str.ofString "TextReader") (Str.ofString "__init__") (Str.ofString "TextReader.__init__") (inClass (top 14) 0), dOfM (Str.ofString "TextReader") (Str.ofString "has") (Str.ofString "TextReader.has") (inClass (top 14) 1), dOfM (Str.ofString "TextReader") (Str.ofString "take") (Str.ofString "TextReader.take") (inClass (top 14) 2), dOfM (Str.ofString "TextReader") (Str.ofString "name") (Str.ofString "TextReader.name") (inClass (top 14) 3), dOfM (Str.ofString "TextReader") (Str.ofString "field") (Str.ofString "TextReader.field") (inClass (top 14) 4), dOfM (Str.ofString "TextReader") (Str.ofString "bare") (Str.ofString "TextReader.bare") (inClass (top 14) 5), dOfM (Str.ofString "TextReader") (Str.ofString "kind") (Str.ofString "TextReader.kind") (inClass (top 14) 6), dOf (Str.ofString "read_schema") (top 15), dOf (Str.ofString "_law_stream") (top 17), dOf (Str.ofString "_law_draw") (top 18), dOf (Str.ofString "_law_pick") (top 19), dOf (Str.ofString "_law_same") (top 20), dOf (Str.ofString "_law_name") (top 21), dOf (Str.ofString "_law_record") (top 22), dOf (Str.ofString "_law_kind") (top 23), dOf (Str.ofString "_law_is_name") (top 24), dOf (Str.ofString "_law_count") (top 25), dOf (Str.ofString "_law_is_schema") (top 26), dOf (Str.ofString "_law_shown") (top 27), dOf (Str.ofString "_law_fields_of") (top 28), dOf (Str.ofString "_law_kind_of") (top 29), dOf (Str.ofString "_law_due") (top 30), dOf (Str.ofString "_law_read_as") (top 31), dOf (Str.ofString "_law_turned") (top 32), dOf (Str.ofString "law") (top 33)]
def cs : List (Str × D) := [(Str.ofString "LEAVES", c_LEAVES), (Str.ofString "MOST_FIELDS", c_MOST_FIELDS), (Str.ofString "MOST_LEAVES", c_MOST_LEAVES), (Str.ofString "MOST_NESTED", c_MOST_NESTED), (Str.ofString "SMALL", c_SMALL)]
abbrev Rw : PySem.W.OpenRow := PySem.W.OpenLaw.row PySem.Challenge.rw_stripehall_k08_spoilt_texts
def xc (K : PySem.W.Frag) : Bool := (List.range NC).all (fun n => decide (PySem.W.exmOne K (.ref (He.ga K (cn n))) (.ref (He.ga K (Str.ofString "BadText"))) = some (xs_BadText n))) && (List.range NC).all (fun n => decide (PySem.W.kitOne K (.ref (He.ga K (cn n))) (.ref (He.ga K (Str.ofString "BadFile"))) = some (xs_BadFile n))) && (List.range NC).all (fun n => decide (PySem.W.kitOne K (.ref (He.ga K (cn n))) (.ref (He.ga K (Str.ofString "StripehallError"))) = some (xs_StripehallError n))) && (List.range NC).all (fun n => decide (PySem.W.kitOne K (.ref (He.ga K (cn n))) (.type "ValueError") = some (xs_ValueError n))) && (List.range NC).all (fun n => excCB K (He.ga K (cn n)))
def xb (K : PySem.W.Frag) : Bool := cs.all (cbG K) && xc K
abbrev hk : PySem.W.Hook := hookX 6 fa fnl xb
def ob (s : PySem.W.SharedT) : TbD := obsXG 6 fa fnl xb (HandSHeadRun.getT s)
theorem ob_eq (s : PySem.W.SharedT) : ob s = hk.obs s.abs := obsXG_eq (HandSHeadRun.getT_eq s)
def loose0 : List Str := [Str.ofString "StripehallError", Str.ofString "BadFile", Str.ofString "BadText", Str.ofString "LEAVES", Str.ofString "SMALL", Str.ofString "MOST_FIELDS", Str.ofString "MOST_NESTED", Str.ofString "MOST_LEAVES", Str.ofString "is_name", Str.ofString "are_fields", Str.ofString "parts_of", Str.ofString "is_schema", Str.ofString "TextReader", Str.ofString "read_schema", Str.ofString "_law_stream", Str.ofString "_law_draw", Str.ofString "_law_pick", Str.ofString "_law_same", Str.ofString "_law_name", Str.ofString "_law_record", Str.ofString "_law_kind", Str.ofString "_law_is_name", Str.ofString "_law_count", Str.ofString "_law_is_schema", Str.ofString "_law_shown", Str.ofString "_law_fields_of", Str.ofString "_law_kind_of", Str.ofString "_law_due", Str.ofString "_law_read_as", Str.ofString "_law_turned"]
def loose : List Str := loose0
theorem run_top (w : World) : HandSHeadRun.RunEq Rw (PySem.W.view Rw.prog [33]) hk ob 6000 loose w := by
  intro os
  kernel_rfl
section
variable {P : Program} {w : World} {K : PySem.W.Frag} {mg : Str → Option Value} {base : Heap} {k : Nat}
theorem step (T : Txt K mg w) (F : Sd K) (g : ∀ j, j < cnt → isg j = true → mg (nm j) = some (.ref (ad K j))) (b : ∀ j, j < cnt → Binds K (fdOf K (ad K j)) (pm j) []) (ih : Al P w K mg base (run k) (k + 2)) : Al P w K mg base (run (k + 1)) (k + 1 + 2) := fun j hj => ⟨(match j, hj with
  | 0, _ => d_is_name T F (by omega) ih
  | 1, _ => d_are_fields T F (by omega) ih
  | 2, _ => d_parts_of T F (by omega) ih
  | 3, _ => d_is_schema T F (by omega) ih
  | 4, _ => d_TextReader____init__ T F ih
  | 5, _ => d_TextReader__has T F (by omega) ih
  | 6, _ => d_TextReader__take T F (by omega) ih
  | 7, _ => d_TextReader__name T F (by omega) ih
  | 8, _ => d_TextReader__field T F (by omega) ih
  | 9, _ => d_TextReader__bare T F (by omega) ih
  | 10, _ => d_TextReader__kind T F (by omega) ih
  | 11, _ => d_read_schema T F (by omega) ih
  | 12, _ => d__law_stream T F (by omega) ih
  | 13, _ => d__law_draw T F (by omega) ih
  | 14, _ => d__law_pick T F (by omega) ih
  | 15, _ => d__law_same T F (by omega) ih
  | 16, _ => d__law_name T F (by omega) ih
  | 17, _ => d__law_record T F (by omega) ih
  | 18, _ => d__law_kind T F (by omega) ih
  | 19, _ => d__law_is_name T F (by omega) ih
  | 20, _ => d__law_count T F (by omega) ih
  | 21, _ => d__law_is_schema T F (by omega) ih
  | 22, _ => d__law_shown T F (by omega) ih
  | 23, _ => d__law_fields_of T F (by omega) ih
  | 24, _ => d__law_kind_of T F (by omega) ih
  | 25, _ => d__law_due T F (by omega) ih
  | 26, _ => d__law_read_as T F (by omega) ih
  | 27, _ => d__law_turned T F (by omega) ih
  | 28, _ => d_law T F (by omega) ih
  | n + 29, h => absurd h (by unfold cnt; omega)), g j hj, (F j hj).kp, b j hj⟩
theorem all (T : Txt K mg w) (F : Sd K) (g : ∀ j, j < cnt → isg j = true → mg (nm j) = some (.ref (ad K j))) (b : ∀ j, j < cnt → Binds K (fdOf K (ad K j)) (pm j) []) : ∀ k, Al P w K mg base (run k) (k + 2)
  | 0 => fun j hj => ⟨fnOk_none fun _ _ => rfl, g j hj, (F j hj).kp, b j hj⟩
  | k + 1 => step T F g b (all T F g b k)
theorem lt_na {n : Nat} (h : n < NC) : n < NA := Nat.lt_of_lt_of_le h (by decide)
theorem em_of {c : Value} {xs : Nat → Bool} (h : (List.range NC).all (fun n => decide (PySem.W.exmOne K (.ref (He.ga K (cn n))) c = some (xs n))) = true) : IsOk K (clK K) c fun n => if n < NC then some (xs n) else none := fun n b e => by
  dsimp only at e
  split at e
  · rename_i hn
    cases e
    exact ⟨_, clK_at (lt_na hn), of_decide_eq_true (List.all_eq_true.mp h n (List.mem_range.mpr hn))⟩
  · cases e
theorem clK_of {n : Nat} {C : Addr} (h : clK K n = some C) : n < NA ∧ C = He.ga K (cn n) := by
  unfold clK at h
  split at h
  · rename_i hn
    exact ⟨hn, (Option.some.inj h).symm⟩
  · cases h
theorem ki_of {c : Value} {xs : Nat → Bool} (h : (List.range NC).all (fun n => decide (PySem.W.kitOne K (.ref (He.ga K (cn n))) c = some (xs n))) = true) (n : Nat) (C : Addr) (hn : n < NC) (e : clK K n = some C) : PySem.W.kitOne K (.ref C) c = some (xs n) := by
  obtain ⟨_, rfl⟩ := clK_of e
  exact of_decide_eq_true (List.all_eq_true.mp h n (List.mem_range.mpr hn))
theorem ec_of (h : (List.range NC).all (fun n => excCB K (He.ga K (cn n))) = true) (n : Nat) (C : Addr) (hn : n < NC) (e : clK K n = some C) : ExcC K C := by
  obtain ⟨_, rfl⟩ := clK_of e
  exact excCB_ok (List.all_eq_true.mp h n (List.mem_range.mpr hn))
theorem txt {h : Heap} (X : K.In h) (G : h.Ns mainGlobals mg) (c0 : xb K = true) (c : He.SaysD fa fnl K) : Txt K mg w where
  n_ValueError := He.free_ok X G (c.fact 22 (f := .free (Str.ofString "ValueError")) rfl)
  n_abs := He.free_ok X G (c.fact 23 (f := .free (Str.ofString "abs")) rfl)
  n_all := He.free_ok X G (c.fact 24 (f := .free (Str.ofString "all")) rfl)
  n_bool := He.free_ok X G (c.fact 25 (f := .free (Str.ofString "bool")) rfl)
  n_int := He.free_ok X G (c.fact 26 (f := .free (Str.ofString "int")) rfl)
  n_isinstance := He.free_ok X G (c.fact 27 (f := .free (Str.ofString "isinstance")) rfl)
  n_len := He.free_ok X G (c.fact 28 (f := .free (Str.ofString "len")) rfl)
  n_list := He.free_ok X G (c.fact 29 (f := .free (Str.ofString "list")) rfl)
  n_min := He.free_ok X G (c.fact 30 (f := .free (Str.ofString "min")) rfl)
  n_range := He.free_ok X G (c.fact 31 (f := .free (Str.ofString "range")) rfl)
  n_str := He.free_ok X G (c.fact 32 (f := .free (Str.ofString "str")) rfl)
  n_tuple := He.free_ok X G (c.fact 33 (f := .free (Str.ofString "tuple")) rfl)
  c_LEAVES := cbG_tup X G (cs_get (He.ba c0).1 0 (p := (Str.ofString "LEAVES", c_LEAVES)) rfl)
  c_MOST_FIELDS := cbG_int X G (cs_get (He.ba c0).1 1 (p := (Str.ofString "MOST_FIELDS", c_MOST_FIELDS)) rfl)
  c_MOST_LEAVES := cbG_int X G (cs_get (He.ba c0).1 2 (p := (Str.ofString "MOST_LEAVES", c_MOST_LEAVES)) rfl)
  c_MOST_NESTED := cbG_int X G (cs_get (He.ba c0).1 3 (p := (Str.ofString "MOST_NESTED", c_MOST_NESTED)) rfl)
  c_SMALL := cbG_str X G (cs_get (He.ba c0).1 4 (p := (Str.ofString "SMALL", c_SMALL)) rfl)
  g_BadFile := He.glo_ok X G (c.fact 34 (f := .glo (Str.ofString "BadFile")) rfl)
  g_BadText := He.glo_ok X G (c.fact 35 (f := .glo (Str.ofString "BadText")) rfl)
  g_StripehallError := He.glo_ok X G (c.fact 36 (f := .glo (Str.ofString "StripehallError")) rfl)
  r_BadText := He.exc_ok (c.fact 37 (f := .exc (Str.ofString "BadText")) rfl)
  cl_TextReader := He.cls_ok (c.fact 38 (f := .cls (Str.ofString "TextReader")) rfl)
  na_TextReader_at := He.noat_ok (c.fact 39 (f := .noat (Str.ofString "TextReader") (Str.ofString "at")) rfl)
  na_TextReader_text := He.noat_ok (c.fact 40 (f := .noat (Str.ofString "TextReader") (Str.ofString "text")) rfl)
  mk_TextReader := He.mkr_ok (c.fact 41 (f := .mkr (Str.ofString "TextReader")) rfl)
  g_TextReader := He.glo_ok X G (c.fact 42 (f := .glo (Str.ofString "TextReader")) rfl)
  me_TextReader__bare := He.meth_ok (c.fact 43 (f := .meth (Str.ofString "TextReader") (Str.ofString "bare")) rfl)
  me_TextReader__field := He.meth_ok (c.fact 44 (f := .meth (Str.ofString "TextReader") (Str.ofString "field")) rfl)
  me_TextReader__has := He.meth_ok (c.fact 45 (f := .meth (Str.ofString "TextReader") (Str.ofString "has")) rfl)
  me_TextReader__kind := He.meth_ok (c.fact 46 (f := .meth (Str.ofString "TextReader") (Str.ofString "kind")) rfl)
  me_TextReader__name := He.meth_ok (c.fact 47 (f := .meth (Str.ofString "TextReader") (Str.ofString "name")) rfl)
  me_TextReader__take := He.meth_ok (c.fact 48 (f := .meth (Str.ofString "TextReader") (Str.ofString "take")) rfl)
  em_BadText := em_of (xs := xs_BadText) (He.ba (He.ba (He.ba (He.ba (He.ba c0).2).1).1).1).1
  ki_BadFile := ki_of (xs := xs_BadFile) (He.ba (He.ba (He.ba (He.ba (He.ba c0).2).1).1).1).2
  ki_StripehallError := ki_of (xs := xs_StripehallError) (He.ba (He.ba (He.ba (He.ba c0).2).1).1).2
  ki_ValueError := ki_of (xs := xs_ValueError) (He.ba (He.ba (He.ba c0).2).1).2
  ec := ec_of (He.ba (He.ba c0).2).2
  yes := trivial
theorem defs (c : He.SaysD fa fnl K) : ∀ j, j < cnt → FunD K (nm j) (qn j) (defArgs (sm j)) (defBody (sm j)) (defScope (sm j)) [] [] (ad K j) (fdOf K (ad K j)) ∧ L2.Fun K (nm j) (qn j) (sm j) (ad K j) (fdOf K (ad K j)) := fun j hj => (match j, hj with
  | 0, _ => says_fun c 0 rfl
  | 1, _ => says_fun c 1 rfl
  | 2, _ => says_fun c 2 rfl
  | 3, _ => says_fun c 3 rfl
  | 4, _ => says_funM c 4 rfl
  | 5, _ => says_funM c 5 rfl
  | 6, _ => says_funM c 6 rfl
  | 7, _ => says_funM c 7 rfl
  | 8, _ => says_funM c 8 rfl
  | 9, _ => says_funM c 9 rfl
  | 10, _ => says_funM c 10 rfl
  | 11, _ => says_fun c 11 rfl
  | 12, _ => says_fun c 12 rfl
  | 13, _ => says_fun c 13 rfl
  | 14, _ => says_fun c 14 rfl
  | 15, _ => says_fun c 15 rfl
  | 16, _ => says_fun c 16 rfl
  | 17, _ => says_fun c 17 rfl
  | 18, _ => says_fun c 18 rfl
  | 19, _ => says_fun c 19 rfl
  | 20, _ => says_fun c 20 rfl
  | 21, _ => says_fun c 21 rfl
  | 22, _ => says_fun c 22 rfl
  | 23, _ => says_fun c 23 rfl
  | 24, _ => says_fun c 24 rfl
  | 25, _ => says_fun c 25 rfl
  | 26, _ => says_fun c 26 rfl
  | 27, _ => says_fun c 27 rfl
  | 28, _ => says_fun c 28 rfl
  | n + 29, h => absurd h (by unfold cnt; omega))
theorem globs {h : Heap} (X : K.In h) (G : h.Ns mainGlobals mg) (c : He.SaysD fa fnl K) : ∀ j, j < cnt → isg j = true → mg (nm j) = some (.ref (ad K j)) := fun j hj hg => (match j, hj, hg with
  | 0, _, _ => He.glo_ok X G (c.fact 0 (f := .glo (Str.ofString "is_name")) rfl)
  | 1, _, _ => He.glo_ok X G (c.fact 1 (f := .glo (Str.ofString "are_fields")) rfl)
  | 2, _, _ => He.glo_ok X G (c.fact 2 (f := .glo (Str.ofString "parts_of")) rfl)
  | 3, _, _ => He.glo_ok X G (c.fact 3 (f := .glo (Str.ofString "is_schema")) rfl)
  | 4, _, h => (nomatch (show false = true from h))
  | 5, _, h => (nomatch (show false = true from h))
  | 6, _, h => (nomatch (show false = true from h))
  | 7, _, h => (nomatch (show false = true from h))
  | 8, _, h => (nomatch (show false = true from h))
  | 9, _, h => (nomatch (show false = true from h))
  | 10, _, h => (nomatch (show false = true from h))
  | 11, _, _ => He.glo_ok X G (c.fact 4 (f := .glo (Str.ofString "read_schema")) rfl)
  | 12, _, _ => He.glo_ok X G (c.fact 5 (f := .glo (Str.ofString "_law_stream")) rfl)
  | 13, _, _ => He.glo_ok X G (c.fact 6 (f := .glo (Str.ofString "_law_draw")) rfl)
  | 14, _, _ => He.glo_ok X G (c.fact 7 (f := .glo (Str.ofString "_law_pick")) rfl)
  | 15, _, _ => He.glo_ok X G (c.fact 8 (f := .glo (Str.ofString "_law_same")) rfl)
  | 16, _, _ => He.glo_ok X G (c.fact 9 (f := .glo (Str.ofString "_law_name")) rfl)
  | 17, _, _ => He.glo_ok X G (c.fact 10 (f := .glo (Str.ofString "_law_record")) rfl)
  | 18, _, _ => He.glo_ok X G (c.fact 11 (f := .glo (Str.ofString "_law_kind")) rfl)
  | 19, _, _ => He.glo_ok X G (c.fact 12 (f := .glo (Str.ofString "_law_is_name")) rfl)
  | 20, _, _ => He.glo_ok X G (c.fact 13 (f := .glo (Str.ofString "_law_count")) rfl)
  | 21, _, _ => He.glo_ok X G (c.fact 14 (f := .glo (Str.ofString "_law_is_schema")) rfl)
  | 22, _, _ => He.glo_ok X G (c.fact 15 (f := .glo (Str.ofString "_law_shown")) rfl)
  | 23, _, _ => He.glo_ok X G (c.fact 16 (f := .glo (Str.ofString "_law_fields_of")) rfl)
  | 24, _, _ => He.glo_ok X G (c.fact 17 (f := .glo (Str.ofString "_law_kind_of")) rfl)
  | 25, _, _ => He.glo_ok X G (c.fact 18 (f := .glo (Str.ofString "_law_due")) rfl)
  | 26, _, _ => He.glo_ok X G (c.fact 19 (f := .glo (Str.ofString "_law_read_as")) rfl)
  | 27, _, _ => He.glo_ok X G (c.fact 20 (f := .glo (Str.ofString "_law_turned")) rfl)
  | 28, _, _ => He.glo_ok X G (c.fact 21 (f := .glo (Str.ofString "law")) rfl)
  | n + 29, h, _ => absurd h (by unfold cnt; omega))
theorem bnds (D : ∀ j, j < cnt → FunD K (nm j) (qn j) (defArgs (sm j)) (defBody (sm j)) (defScope (sm j)) [] [] (ad K j) (fdOf K (ad K j))) : ∀ j, j < cnt → Binds K (fdOf K (ad K j)) (pm j) [] := fun j hj => (match j, hj with
  | 0, hj => FunD.bindsN (D 0 hj) fun _ _ _ _ _ _ us hl => match us, hl with | [_], _ => rfl
  | 1, hj => FunD.bindsN (D 1 hj) fun _ _ _ _ _ _ us hl => match us, hl with | [_], _ => rfl
  | 2, hj => FunD.bindsN (D 2 hj) fun _ _ _ _ _ _ us hl => match us, hl with | [_], _ => rfl
  | 3, hj => FunD.bindsN (D 3 hj) fun _ _ _ _ _ _ us hl => match us, hl with | [_], _ => rfl
  | 4, hj => FunD.bindsN (D 4 hj) fun _ _ _ _ _ _ us hl => match us, hl with | [_, _], _ => rfl
  | 5, hj => FunD.bindsN (D 5 hj) fun _ _ _ _ _ _ us hl => match us, hl with | [_, _], _ => rfl
  | 6, hj => FunD.bindsN (D 6 hj) fun _ _ _ _ _ _ us hl => match us, hl with | [_, _], _ => rfl
  | 7, hj => FunD.bindsN (D 7 hj) fun _ _ _ _ _ _ us hl => match us, hl with | [_], _ => rfl
  | 8, hj => FunD.bindsN (D 8 hj) fun _ _ _ _ _ _ us hl => match us, hl with | [_], _ => rfl
  | 9, hj => FunD.bindsN (D 9 hj) fun _ _ _ _ _ _ us hl => match us, hl with | [_], _ => rfl
  | 10, hj => FunD.bindsN (D 10 hj) fun _ _ _ _ _ _ us hl => match us, hl with | [_], _ => rfl
  | 11, hj => FunD.bindsN (D 11 hj) fun _ _ _ _ _ _ us hl => match us, hl with | [_], _ => rfl
  | 12, hj => FunD.bindsN (D 12 hj) fun _ _ _ _ _ _ us hl => match us, hl with | [_], _ => rfl
  | 13, hj => FunD.bindsN (D 13 hj) fun _ _ _ _ _ _ us hl => match us, hl with | [_, _], _ => rfl
  | 14, hj => FunD.bindsN (D 14 hj) fun _ _ _ _ _ _ us hl => match us, hl with | [_, _], _ => rfl
  | 15, hj => FunD.bindsN (D 15 hj) fun _ _ _ _ _ _ us hl => match us, hl with | [_, _], _ => rfl
  | 16, hj => FunD.bindsN (D 16 hj) fun _ _ _ _ _ _ us hl => match us, hl with | [_, _], _ => rfl
  | 17, hj => FunD.bindsN (D 17 hj) fun _ _ _ _ _ _ us hl => match us, hl with | [_, _, _], _ => rfl
  | 18, hj => FunD.bindsN (D 18 hj) fun _ _ _ _ _ _ us hl => match us, hl with | [_, _, _], _ => rfl
  | 19, hj => FunD.bindsN (D 19 hj) fun _ _ _ _ _ _ us hl => match us, hl with | [_], _ => rfl
  | 20, hj => FunD.bindsN (D 20 hj) fun _ _ _ _ _ _ us hl => match us, hl with | [_, _], _ => rfl
  | 21, hj => FunD.bindsN (D 21 hj) fun _ _ _ _ _ _ us hl => match us, hl with | [_], _ => rfl
  | 22, hj => FunD.bindsN (D 22 hj) fun _ _ _ _ _ _ us hl => match us, hl with | [_], _ => rfl
  | 23, hj => FunD.bindsN (D 23 hj) fun _ _ _ _ _ _ us hl => match us, hl with | [_], _ => rfl
  | 24, hj => FunD.bindsN (D 24 hj) fun _ _ _ _ _ _ us hl => match us, hl with | [_], _ => rfl
  | 25, hj => FunD.bindsN (D 25 hj) fun _ _ _ _ _ _ us hl => match us, hl with | [_], _ => rfl
  | 26, hj => FunD.bindsN (D 26 hj) fun _ _ _ _ _ _ us hl => match us, hl with | [_, _], _ => rfl
  | 27, hj => FunD.bindsN (D 27 hj) fun _ _ _ _ _ _ us hl => match us, hl with | [_, _], _ => rfl
  | 28, hj => FunD.bindsN (D 28 hj) fun _ _ _ _ _ _ us hl => match us, hl with | [_], _ => rfl
  | n + 29, h => absurd h (by unfold cnt; omega))
end
theorem ends (k : Nat) (hr : Room (k + 2 + 1) callerA) (hg : ∀ ns : List Int, ns.length ≤ 63 → (∀ i ∈ ns, Builtin.Int.intBits i ≤ 1048576) → ∃ G', lawRun k [.rol (ns.map D.int)] [] = some (.ok (.bl true), G')) : PySem.Challenge.rw_stripehall_k08_spoilt_texts.row.Holds := by
  refine HandSHeadRun.head_any (r := Rw) (q := PySem.W.view Rw.prog [33]) (H := hk) (ob := ob) (M := 6000) (loose := loose) (d := HandSHeadRun.topDef Rw.prog 33) (kwd := []) ob_eq
    (by kernel_rfl) (fun s => by kernel_rfl) run_top (by kernel_rfl) (by kernel_rfl) (by kernel_rfl) (by rfl) (by first | assumption | decide +kernel) (by decide +kernel) ⟨rfl, rfl, rfl, rfl, rfl, by decide +kernel⟩ ?hw ?hc
  case hw => w_witness2
  case hc =>
    refine law_end (l := PySem.Challenge.rw_stripehall_k08_spoilt_texts) (n := 63) (k := k + 2 + 1) (x := Str.ofString "script") (g := lawRun k) rfl (by decide) (by kernel_rfl) hr (fun w mg fa0 h Y G hmg0 => ?_) hg
    obtain ⟨K, KX, c1, c⟩ := Y
    have T : Txt K mg w := txt KX G c1 c
    have D := defs c
    have gl := globs KX G c
    have bn := bnds fun j hj => (D j hj).1
    have hmg : mg (nm 28) = some (.ref fa0) := by
      have e : (HandSHeadRun.topDef Rw.prog 33).name = nm 28 := by kernel_rfl
      rw [← e]
      exact hmg0
    have e := hmg.symm.trans (gl 28 (by decide) rfl)
    cases e
    exact ⟨K, _, clK K, KX, fun s u => FunD.bindsA (ps := pm 28) (D 28 (by decide)).1 (fun _ _ _ _ _ _ us hl => match us, hl with | [_], _ => rfl) s [u] rfl, fun base _ _ => d_law T (fun j hj => (D j hj).2) (by omega) (all T (fun j hj => (D j hj).2) gl bn k)⟩
end L08
end
section
set_option linter.all false
set_option autoImplicit false
namespace D2
open PySem L2

def Ok {α : Type} (x : Option (R α × Hd)) (Q : α → Hd → Prop) : Prop := match x with
  | some (.ok a, G) => Q a G
  | _ => False
def Sk (x : SR) (Q : Fl → Sd → Hd → Prop) : Prop := match x with
  | some (.exc _, _, _) => False
  | some (f, σ, G) => Q f σ G
  | none => False
def thn (k : Sd → Hd → Prop) (Z : Fl → Sd → Hd → Prop) : Fl → Sd → Hd → Prop
  | .nx => k
  | .bk => Z .bk
  | .ct => Z .ct
  | .rt v => Z (.rt v)
  | .exc c => Z (.exc c)
def lpn (k : Sd → Hd → Prop) (Z : Fl → Sd → Hd → Prop) : Fl → Sd → Hd → Prop
  | .nx => k
  | .ct => k
  | .bk => Z .nx
  | .rt v => Z (.rt v)
  | .exc c => Z (.exc c)
def rtn (P : D → Hd → Prop) : Fl → Sd → Hd → Prop
  | .nx => fun _ => P .non
  | .rt v => fun _ => P v
  | _ => fun _ _ => False
theorem thn_nx {k : Sd → Hd → Prop} {Z : Fl → Sd → Hd → Prop} : thn k Z .nx = k := rfl
theorem thn_bk {k : Sd → Hd → Prop} {Z : Fl → Sd → Hd → Prop} : thn k Z .bk = Z .bk := rfl
theorem thn_ct {k : Sd → Hd → Prop} {Z : Fl → Sd → Hd → Prop} : thn k Z .ct = Z .ct := rfl
theorem thn_rt {k : Sd → Hd → Prop} {Z : Fl → Sd → Hd → Prop} {v : D} : thn k Z (.rt v) = Z (.rt v) := rfl
theorem lpn_nx {k : Sd → Hd → Prop} {Z : Fl → Sd → Hd → Prop} : lpn k Z .nx = k := rfl
theorem lpn_bk {k : Sd → Hd → Prop} {Z : Fl → Sd → Hd → Prop} : lpn k Z .bk = Z .nx := rfl
theorem lpn_ct {k : Sd → Hd → Prop} {Z : Fl → Sd → Hd → Prop} : lpn k Z .ct = k := rfl
theorem lpn_rt {k : Sd → Hd → Prop} {Z : Fl → Sd → Hd → Prop} {v : D} : lpn k Z (.rt v) = Z (.rt v) := rfl
theorem rtn_nx {P : D → Hd → Prop} {σ : Sd} {G : Hd} : rtn P .nx σ G = P .non G := rfl
theorem rtn_rt {P : D → Hd → Prop} {σ : Sd} {G : Hd} {v : D} : rtn P (.rt v) σ G = P v G := rfl
section
variable {α β : Type} {Q : α → Hd → Prop} {P : D → Hd → Prop} {PB : Bool → Hd → Prop} {PL : List D → Hd → Prop} {PI : ItD → Hd → Prop} {PO : Option Int → Hd → Prop} {Z : Fl → Sd → Hd → Prop} {σ : Sd} {G : Hd}
theorem Ok.ex {x : Option (R α × Hd)} (h : Ok x Q) : ∃ a G', x = some (.ok a, G') ∧ Q a G' := by
  unfold Ok at h
  split at h
  · exact ⟨_, _, rfl, h⟩
  · exact h.elim
theorem Ok.mono {x : Option (R α × Hd)} {Q' : α → Hd → Prop} (h : Ok x Q) (hq : ∀ a G', Q a G' → Q' a G') : Ok x Q' := by
  obtain ⟨a, G', rfl, h⟩ := h.ex
  exact hq _ _ h
theorem Sk.ex {x : SR} (h : Sk x Z) : ∃ f σ' G', x = some (f, σ', G') ∧ (∀ c, f ≠ .exc c) ∧ Z f σ' G' := by
  unfold Sk at h
  split at h
  · exact h.elim
  · rename_i f σ' G' ne
    exact ⟨_, _, _, rfl, fun c e => ne c e, h⟩
  · exact h.elim
theorem Sk.of {f : Fl} {σ : Sd} {G : Hd} (ne : ∀ c, f ≠ .exc c) (h : Z f σ G) : Sk (some (f, σ, G)) Z := by
  cases f with
  | exc c => exact (ne c rfl).elim
  | _ => exact h
theorem Sk.mono {x : SR} {Z' : Fl → Sd → Hd → Prop} (h : Sk x Z) (hq : ∀ f σ' G', Z f σ' G' → Z' f σ' G') : Sk x Z' := by
  obtain ⟨f, σ', G', rfl, ne, h⟩ := h.ex
  exact Sk.of ne (hq _ _ _ h)
theorem ok_some {a : α} : Ok (some (.ok a, G)) Q = Q a G := rfl
theorem ok_ret {a : α} : Ok (ret a G) Q = Q a G := rfl
theorem ok_bnd {x : Option (R α × Hd)} {f : α → M β} {Q : β → Hd → Prop} : Ok (bnd x f) Q = Ok x fun a G1 => Ok (f a G1) Q := by
  match x with
  | none => rfl
  | some (.exc _, _) => rfl
  | some (.ok _, _) => rfl
theorem ok_if {c : Prop} [Decidable c] {x y : Option (R α × Hd)} : Ok (if c then x else y) Q = if c then Ok x Q else Ok y Q := by split <;> rfl
theorem ok_guard {c : Prop} [Decidable c] {x : Option (R α × Hd)} (h : c) : Ok (if c then x else none) Q = Ok x Q := by rw [if_pos h]
theorem ok_c {d : D} : Ok (eC d σ G) P = P d G := rfl
theorem ok_op1 {f : D → M D} {a : E} : Ok (eOp1 f a σ G) P = Ok (a σ G) fun x G1 => Ok (f x G1) P := ok_bnd
theorem ok_op2 {f : D → D → M D} {a b : E} : Ok (eOp2 f a b σ G) P = Ok (a σ G) fun x G1 => Ok (b σ G1) fun y G2 => Ok (f x y G2) P := by
  unfold eOp2
  rw [ok_bnd]
  simp only [ok_bnd]
theorem ok_nil : Ok (aNil σ G) PL = PL [] G := rfl
theorem ok_cons {a : E} {r : As} : Ok (aCons a r σ G) PL = Ok (a σ G) fun x G1 => Ok (r σ G1) fun xs G2 => PL (x :: xs) G2 := by
  unfold aCons
  rw [ok_bnd]
  simp only [ok_bnd, ok_ret]
theorem ok_tup {a : As} : Ok (eTup a σ G) P = Ok (a σ G) fun xs G1 => Ok (mkT xs G1) P := ok_bnd
theorem ok_lst {a : As} : Ok (eLst a σ G) P = Ok (a σ G) fun xs G1 => Ok (newL xs G1) P := ok_bnd
theorem ok_call {f : Fn} {a : As} : Ok (eCall f a σ G) P = Ok (a σ G) fun xs G1 => Ok (f xs G1) P := ok_bnd
theorem ok_onone : Ok (oNone σ G) PO = PO none G := rfl
def oInt (x : D) : M (Option Int) := match x with
  | .int i => ret (some i)
  | _ => fun _ => none
theorem ok_osome {a : E} : Ok (oSome a σ G) PO = Ok (a σ G) fun x G1 => Ok (oInt x G1) PO := by
  unfold oSome
  rw [ok_bnd]
  rfl
theorem ok_oint {i : Int} : Ok (oInt (.int i) G) PO = PO (some i) G := rfl
theorem ok_sl {a : E} {lo hi : Sd → M (Option Int)} : Ok (eSl a lo hi σ G) P = Ok (a σ G) fun x G1 => Ok (lo σ G1) fun l G2 => Ok (hi σ G2) fun h G3 => Ok (slD x l h G3) P := by
  unfold eSl
  rw [ok_bnd]
  simp only [ok_bnd]
theorem ok_if2 {t : T} {a b : E} : Ok (eIf t a b σ G) P = Ok (t σ G) fun k G1 => if k = true then Ok (a σ G1) P else Ok (b σ G1) P := by
  unfold eIf
  rw [ok_bnd]
  simp only [ok_if]
theorem ok_and {a b : E} : Ok (eAnd a b σ G) P = Ok (a σ G) fun x G1 => match tru G1 x with
    | some true => Ok (b σ G1) P
    | some false => P x G1
    | none => False := by
  unfold eAnd
  rw [ok_bnd]
  congr 1
  funext x G1
  cases tru G1 x with
  | none => rfl
  | some k => cases k <;> rfl
theorem ok_or {a b : E} : Ok (eOr a b σ G) P = Ok (a σ G) fun x G1 => match tru G1 x with
    | some false => Ok (b σ G1) P
    | some true => P x G1
    | none => False := by
  unfold eOr
  rw [ok_bnd]
  congr 1
  funext x G1
  cases tru G1 x with
  | none => rfl
  | some k => cases k <;> rfl
theorem ok_not {a : E} : Ok (eNot a σ G) P = Ok (a σ G) fun x G1 => match tru G1 x with
    | some k => P (.bl (!k)) G1
    | none => False := by
  unfold eNot
  rw [ok_bnd]
  congr 1
  funext x G1
  cases tru G1 x <;> rfl
theorem ok_tru {a : E} : Ok (tTru a σ G) PB = Ok (a σ G) fun x G1 => match tru G1 x with
    | some k => PB k G1
    | none => False := by
  unfold tTru
  rw [ok_bnd]
  congr 1
  funext x G1
  cases tru G1 x <;> rfl
theorem ok_tbl {a : E} : Ok (tBl a σ G) PB = Ok (a σ G) fun x G1 => Ok (asB x G1) PB := ok_bnd
theorem ok_asb {b : Bool} : Ok (asB (.bl b) G) PB = PB b G := rfl
theorem ok_tand {a b : T} : Ok (tAnd a b σ G) PB = Ok (a σ G) fun k G1 => if k = true then Ok (b σ G1) PB else PB false G1 := by
  unfold tAnd
  rw [ok_bnd]
  simp only [ok_if, ok_some]
theorem ok_tor {a b : T} : Ok (tOr a b σ G) PB = Ok (a σ G) fun k G1 => if k = true then PB true G1 else Ok (b σ G1) PB := by
  unfold tOr
  rw [ok_bnd]
  simp only [ok_if, ok_some]
theorem ok_tnot {a : T} : Ok (tNot a σ G) PB = Ok (a σ G) fun k G1 => PB (!k) G1 := by
  unfold tNot
  rw [ok_bnd]
  simp only [ok_ret]
theorem ok_tyes : Ok (tYes σ G) PB = PB true G := rfl
theorem ok_ml {f : D → D → M D} {o a : E} : Ok (eMl f o a σ G) P = Ok (o σ G) fun x G1 => if isL G1 x = true then Ok (a σ G1) fun y G2 => Ok (f x y G2) P else False := by
  unfold eMl
  rw [ok_bnd]
  congr 1
  funext x G1
  split
  · rw [ok_bnd]
  · rfl
theorem ok_ms {f : D → D → M D} {o a : E} : Ok (eMs f o a σ G) P = Ok (o σ G) fun x G1 => if isS x = true then Ok (a σ G1) fun y G2 => Ok (f x y G2) P else False := by
  unfold eMs
  rw [ok_bnd]
  congr 1
  funext x G1
  split
  · rw [ok_bnd]
  · rfl
theorem ok_iof {a : E} : Ok (iOf a σ G) PI = Ok (a σ G) fun x G1 => Ok (itOf x G1) PI := ok_bnd
theorem ok_ienum {a : E} : Ok (iEnum a σ G) PI = Ok (a σ G) fun x G1 => Ok (itEn x G1) PI := ok_bnd
theorem ok_irev {a : E} : Ok (iRev a σ G) PI = Ok (a σ G) fun x G1 => Ok (itRev x G1) PI := ok_bnd
def itR1 (x : D) : M ItD := fun G1 => match x with
  | .int n => if -(2 ^ 62) ≤ n ∧ n < 2 ^ 62 then some (.ok (jRng 0 n.toNat), G1) else none
  | _ => none
theorem ok_irng1 {a : E} : Ok (iRng1 a σ G) PI = Ok (a σ G) fun x G1 => Ok (itR1 x G1) PI := ok_bnd
theorem ok_itr1 {n : Int} (h : -(2 ^ 62) ≤ n ∧ n < 2 ^ 62) : Ok (itR1 (.int n) G) PI = PI (jRng 0 n.toNat) G := by
  unfold itR1
  dsimp only
  rw [if_pos h] <;> rfl
theorem ok_itr1n {n : Nat} (h : n < 2 ^ 62) : Ok (itR1 (.int n) G) PI = PI (jRng 0 n) G := by
  rw [ok_itr1 (by omega), Int.toNat_natCast]
theorem ok_itof_tup {xs : List D} : Ok (itOf (.tup xs) G) PI = PI (jSeq xs) G := rfl
theorem ok_itof_rol {xs : List D} : Ok (itOf (.rol xs) G) PI = PI (jSeq xs) G := rfl
theorem ok_itof_ref {r : Nat} {xs : List D} (h : G[r]? = some (.lst xs)) : Ok (itOf (.ref r) G) PI = PI (jList r) G := by
  unfold itOf listOf
  dsimp only
  rw [h] <;> rfl
theorem ok_iten_tup {xs : List D} : Ok (itEn (.tup xs) G) PI = PI (enumT xs) G := rfl
theorem ok_itrev_tup {xs : List D} : Ok (itRev (.tup xs) G) PI = PI (jRevT xs) G := rfl
def tR1 (x : D) : M D := fun G1 => match x with
  | .int n => if n ≤ 16777216 ∧ 0 ≤ n then some (.ok (.tup (rng 0 n.toNat)), G1) else none
  | _ => none
theorem ok_frng {a : E} : Ok (fTupRng a σ G) P = Ok (a σ G) fun x G1 => Ok (tR1 x G1) P := ok_bnd
theorem sk_bndS {x : Option (R α × Hd)} {k : α → Hd → SR} : Sk (bndS σ x k) Z = Ok x fun a G1 => Sk (k a G1) Z := by
  match x with
  | none => rfl
  | some (.exc _, _) => rfl
  | some (.ok _, _) => rfl
theorem sk_nx : Sk (some (.nx, σ, G)) Z = Z .nx σ G := rfl
theorem sk_bk : Sk (some (.bk, σ, G)) Z = Z .bk σ G := rfl
theorem sk_ct : Sk (some (.ct, σ, G)) Z = Z .ct σ G := rfl
theorem sk_rt {v : D} : Sk (some (.rt v, σ, G)) Z = Z (.rt v) σ G := rfl
theorem sk_ite {c : Prop} [Decidable c] {x y : SR} : Sk (if c then x else y) Z = if c then Sk x Z else Sk y Z := by split <;> rfl
theorem sk_seq {a b : S} : Sk (sSeq a b σ G) Z = Sk (a σ G) (thn (fun σ1 G1 => Sk (b σ1 G1) Z) Z) := by
  unfold sSeq
  match a σ G with
  | none => rfl
  | some (.nx, _, _) => rfl
  | some (.bk, _, _) => rfl
  | some (.ct, _, _) => rfl
  | some (.rt _, _, _) => rfl
  | some (.exc _, _, _) => rfl
theorem sk_cut {a b : S} (X : Sd → Hd → Prop) (h1 : Sk (a σ G) (thn X Z)) (h2 : ∀ σ G, X σ G → Sk (b σ G) Z) : Sk (sSeq a b σ G) Z := by
  rw [sk_seq]
  refine h1.mono fun f σ' G' h => ?_
  cases f with
  | nx => exact h2 _ _ h
  | _ => exact h
theorem sk_nil : Sk (sNil σ G) Z = Z .nx σ G := rfl
theorem sk_break : Sk (sBreak σ G) Z = Z .bk σ G := rfl
theorem sk_cont : Sk (sCont σ G) Z = Z .ct σ G := rfl
def Tk (x : Option (Sd × Hd)) (Z : Sd → Hd → Prop) : Prop := match x with
  | some (σ, G) => Z σ G
  | none => False
theorem Tk.ex {x : Option (Sd × Hd)} {Z : Sd → Hd → Prop} (h : Tk x Z) : ∃ σ G, x = some (σ, G) ∧ Z σ G := by
  unfold Tk at h
  split at h
  · exact ⟨_, _, rfl, h⟩
  · exact h.elim
theorem tk_nil {Z : Sd → Hd → Prop} : Tk (gNil [] σ G) Z = Z σ G := rfl
theorem tk_cons {t : Tg} {u : Tgs} {v : D} {vs : List D} {Z : Sd → Hd → Prop} : Tk (gCons t u (v :: vs) σ G) Z = Tk (t v σ G) fun σ1 G1 => Tk (u vs σ1 G1) Z := by
  unfold gCons
  dsimp only
  match t v σ G with
  | none => rfl
  | some _ => rfl
theorem tk_tup2 {t : Tgs} {a b : D} {Z : Sd → Hd → Prop} : Tk (gTup 2 t (.tup [a, b]) σ G) Z = Tk (t [a, b] σ G) Z := rfl
theorem tk_tup3 {t : Tgs} {a b c : D} {Z : Sd → Hd → Prop} : Tk (gTup 3 t (.tup [a, b, c]) σ G) Z = Tk (t [a, b, c] σ G) Z := rfl
theorem tk_tup4 {t : Tgs} {a b c d : D} {Z : Sd → Hd → Prop} : Tk (gTup 4 t (.tup [a, b, c, d]) σ G) Z = Tk (t [a, b, c, d] σ G) Z := rfl
theorem tk_tup5 {t : Tgs} {a b c d e : D} {Z : Sd → Hd → Prop} : Tk (gTup 5 t (.tup [a, b, c, d, e]) σ G) Z = Tk (t [a, b, c, d, e] σ G) Z := rfl
theorem sk_asg {a : E} {g : Tg} : Sk (sAsg a g σ G) Z = Ok (a σ G) fun v G1 => Tk (g v σ G1) fun σ2 G2 => Z .nx σ2 G2 := by
  unfold sAsg
  rw [sk_bndS]
  congr 1
  funext v G1
  match g v σ G1 with
  | none => rfl
  | some (_, _) => rfl
theorem sk_set {i : Nat} {a : E} : Sk (sSet i a σ G) Z = Ok (a σ G) fun v G1 => Z .nx (σ.set i (some v)) G1 := sk_asg
theorem sk_expr {a : E} : Sk (sExpr a σ G) Z = Ok (a σ G) fun _ G1 => Z .nx σ G1 := sk_bndS
theorem sk_ret {a : E} : Sk (sRet a σ G) Z = Ok (a σ G) fun v G1 => Z (.rt v) σ G1 := sk_bndS
theorem sk_retn : Sk (sRetN σ G) Z = Z (.rt .non) σ G := rfl
theorem sk_if {t : T} {a b : S} : Sk (sIf t a b σ G) Z = Ok (t σ G) fun k G1 => if k = true then Sk (a σ G1) Z else Sk (b σ G1) Z := by
  unfold sIf
  rw [sk_bndS]
  simp only [sk_ite]
theorem sk_put {o i a : E} : Sk (sPut o i a σ G) Z = Ok (a σ G) fun v G1 => Ok (o σ G1) fun x G2 => Ok (i σ G2) fun k G3 => Ok (putD x k v G3) fun _ G4 => Z .nx σ G4 := by
  unfold sPut
  simp only [sk_bndS, sk_nx]
theorem sk_putA {o i a : E} : Sk (sPutA o i a σ G) Z = Ok (a σ G) fun v G1 => Ok (o σ G1) fun x G2 => Ok (i σ G2) fun k G3 => Ok (putA x k v G3) fun _ G4 => Z .nx σ G4 := by
  unfold sPutA
  simp only [sk_bndS, sk_nx]
theorem sk_aug {i : Nat} {f : D → D → M D} {a : E} {v : D} (hv : σ[i]? = some (some v)) : Sk (sAug i f a σ G) Z = Ok (a σ G) fun w G1 => Ok (f v w G1) fun z G2 => Z .nx (σ.set i (some z)) G2 := by
  unfold sAug
  rw [hv]
  dsimp only
  simp only [sk_bndS, sk_nx]
theorem ok_run {n k : Nat} {b : S} {vs : List D} (hn : vs.length = k) (h : Sk (b (vs.map some ++ List.replicate (n - k) none) G) (rtn P)) : Ok (runFn n k b vs G) P := by
  obtain ⟨f, σ', G', e, ne, h⟩ := h.ex
  unfold runFn
  rw [if_pos hn, e]
  cases f <;> first | exact h | exact h.elim
theorem sk_for {it : IE} {g : Tg} {b : S} : Sk (sFor it g b σ G) Z = Ok (it σ G) fun j G1 => Sk (loopF j g b 0 σ G1) Z := sk_bndS
theorem sk_while {t : T} {b : S} : Sk (sWhile t b σ G) Z = Sk (loopW t b σ G) Z := rfl
theorem loop_inv {j : ItD} {g : Tg} {b : S} {n : Nat} (I : Nat → Sd → Hd → Prop)
    (end_ : ∀ σ G, I n σ G → j n G = some none ∧ Z .nx σ G)
    (step : ∀ i σ G, i < n → I i σ G → ∃ v, j i G = some (some v) ∧ Tk (g v σ G) fun σ1 G1 => Sk (b σ1 G1) (lpn (I (i + 1)) Z)) :
    ∀ (m i : Nat) (σ : Sd) (G : Hd), m + i = n → I i σ G → Sk (loopF j g b i σ G) Z
  | 0, i, σ, G, e, h => by
    have : i = n := by omega
    subst this
    obtain ⟨e1, h1⟩ := end_ _ _ h
    rw [loopF, e1]
    exact h1
  | m + 1, i, σ, G, e, h => by
    obtain ⟨v, e1, h1⟩ := step i σ G (by omega) h
    obtain ⟨σ1, G1, e2, h1⟩ := h1.ex
    obtain ⟨f, σ2, G2, e3, ne, h2⟩ := h1.ex
    rw [loopF, e1]
    dsimp only
    rw [e2]
    dsimp only
    rw [e3]
    cases f with
    | nx => exact loop_inv I end_ step m (i + 1) σ2 G2 (by omega) h2
    | ct => exact loop_inv I end_ step m (i + 1) σ2 G2 (by omega) h2
    | bk => exact h2
    | rt v => exact h2
    | exc c => exact (ne c rfl).elim
theorem loop_inv0 {j : ItD} {g : Tg} {b : S} (n : Nat) (I : Nat → Sd → Hd → Prop) (h0 : I 0 σ G)
    (end_ : ∀ σ G, I n σ G → j n G = some none ∧ Z .nx σ G)
    (step : ∀ i σ G, i < n → I i σ G → ∃ v, j i G = some (some v) ∧ Tk (g v σ G) fun σ1 G1 => Sk (b σ1 G1) (lpn (I (i + 1)) Z)) : Sk (loopF j g b 0 σ G) Z := loop_inv I end_ step n 0 σ G (by omega) h0
theorem while_inv {t : T} {b : S} (I : Nat → Sd → Hd → Prop)
    (step : ∀ n σ G, I n σ G → Ok (t σ G) fun k G1 => if k = true then Sk (b σ G1) (lpn (fun σ2 G2 => ∃ m, m < n ∧ I m σ2 G2) Z) else Z .nx σ G1) (n : Nat) : ∀ (σ : Sd) (G : Hd), I n σ G → Sk (loopW t b σ G) Z := by
  induction n using Nat.strongRecOn with
  | ind n ih =>
    intro σ G h
    obtain ⟨k, G1, e, h1⟩ := (step n σ G h).ex
    rw [loopW, e]
    cases k with
    | false => exact h1
    | true =>
      dsimp only
      rw [if_pos rfl] at h1
      obtain ⟨f, σ2, G2, e3, ne, h2⟩ := h1.ex
      rw [e3]
      cases f with
      | nx => obtain ⟨m, hm, h2⟩ := h2; exact ih m hm _ _ h2
      | ct => obtain ⟨m, hm, h2⟩ := h2; exact ih m hm _ _ h2
      | bk => exact h2
      | rt v => exact h2
      | exc c => exact (ne c rfl).elim
end
end D2
end
section
set_option linter.all false
set_option autoImplicit false
namespace D2
open PySem L2

theorem strOk_lit (s : String) : PyData.strOk (Str.ofString s) = true := by
  rw [Str.ofString_eq_toList]
  unfold PyData.strOk
  rw [Array.all_eq_true']
  intro x hx
  simp at hx
  obtain ⟨c, _, rfl⟩ := hx
  have := c.valid
  simp
  have h : c.toNat < 0x110000 := by
    rcases this with h | ⟨_, h⟩
    · exact Nat.lt_trans h (by decide)
    · exact h
  exact h
theorem ofString_inj {a b : String} : (Str.ofString a = Str.ofString b) = (a = b) := by
  apply propext
  constructor
  · intro h
    rw [Str.ofString_eq_toList, Str.ofString_eq_toList] at h
    injection h with h
    have h2 : a.toList.map Char.toNat = b.toList.map Char.toNat := by
      have := congrArg Array.toList h
      simpa using this
    have inj : ∀ x y : Char, x.toNat = y.toNat → x = y := fun x y e => Char.toNat_inj.mp e
    have : a.toList = b.toList := by
      revert h2
      generalize a.toList = l
      generalize b.toList = m
      intro h2
      induction l generalizing m with
      | nil => cases m with
        | nil => rfl
        | cons _ _ => simp at h2
      | cons x xs ih => cases m with
        | nil => simp at h2
        | cons y ys =>
          simp only [List.map_cons, List.cons.injEq] at h2
          rw [inj _ _ h2.1, ih _ h2.2]
    exact String.toList_inj.mp this
  · rintro rfl
    rfl
section
variable {P : D → Hd → Prop} {G : Hd}
theorem sizeLine_val : sizeLine = 2 ^ 24 := by decide
theorem ok_mk {xs : List D} (h : xs.length ≤ sizeLine) : Ok (mkT xs G) P = P (.tup xs) G := ok_guard h
theorem ok_mk0 : Ok (mkT [] G) P = P (.tup []) G := ok_mk (Nat.zero_le _)
theorem ok_mk1 {a : D} : Ok (mkT [a] G) P = P (.tup [a]) G := ok_mk (by decide : 1 ≤ sizeLine)
theorem ok_mk2 {a b : D} : Ok (mkT [a, b] G) P = P (.tup [a, b]) G := ok_mk (by decide : 2 ≤ sizeLine)
theorem ok_mk3 {a b c : D} : Ok (mkT [a, b, c] G) P = P (.tup [a, b, c]) G := ok_mk (by decide : 3 ≤ sizeLine)
theorem ok_mk4 {a b c d : D} : Ok (mkT [a, b, c, d] G) P = P (.tup [a, b, c, d]) G := ok_mk (by decide : 4 ≤ sizeLine)
theorem ok_mk5 {a b c d e : D} : Ok (mkT [a, b, c, d, e] G) P = P (.tup [a, b, c, d, e]) G := ok_mk (by decide : 5 ≤ sizeLine)
theorem ok_new {xs : List D} (h : xs.length ≤ sizeLine) : Ok (newL xs G) P = P (.ref G.length) (G ++ [.lst xs]) := ok_guard h
theorem ok_new0 : Ok (newL [] G) P = P (.ref G.length) (G ++ [.lst []]) := ok_new (Nat.zero_le _)
theorem ok_new1 {a : D} : Ok (newL [a] G) P = P (.ref G.length) (G ++ [.lst [a]]) := ok_new (by decide : 1 ≤ sizeLine)
theorem ok_new2 {a b : D} : Ok (newL [a, b] G) P = P (.ref G.length) (G ++ [.lst [a, b]]) := ok_new (by decide : 2 ≤ sizeLine)
theorem ok_new3 {a b c : D} : Ok (newL [a, b, c] G) P = P (.ref G.length) (G ++ [.lst [a, b, c]]) := ok_new (by decide : 3 ≤ sizeLine)
theorem ok_new4 {a b c d : D} : Ok (newL [a, b, c, d] G) P = P (.ref G.length) (G ++ [.lst [a, b, c, d]]) := ok_new (by decide : 4 ≤ sizeLine)
theorem ok_new5 {a b c d e : D} : Ok (newL [a, b, c, d, e] G) P = P (.ref G.length) (G ++ [.lst [a, b, c, d, e]]) := ok_new (by decide : 5 ≤ sizeLine)
theorem ok_new6 {a b c d e f : D} : Ok (newL [a, b, c, d, e, f] G) P = P (.ref G.length) (G ++ [.lst [a, b, c, d, e, f]]) := ok_new (by decide : 6 ≤ sizeLine)
theorem ok_new7 {a b c d e f g : D} : Ok (newL [a, b, c, d, e, f, g] G) P = P (.ref G.length) (G ++ [.lst [a, b, c, d, e, f, g]]) := ok_new (by decide : 7 ≤ sizeLine)
theorem ok_atT {xs : List D} {k : Int} {v : D} (h : atI xs k = some v) : Ok (atD (.tup xs) (.int k) G) P = P v G := by
  unfold atD seqOf
  dsimp only
  rw [h] <;> rfl
theorem ok_atL {r : Nat} {xs : List D} {k : Int} {v : D} (hr : G[r]? = some (.lst xs)) (h : atI xs k = some v) : Ok (atD (.ref r) (.int k) G) P = P v G := by
  unfold atD seqOf listOf
  dsimp only
  rw [hr]
  dsimp only
  rw [h] <;> rfl
theorem atI_nat {α : Type} {xs : List α} {n : Nat} {v : α} (h : xs[n]? = some v) : atI xs (n : Int) = some v := by
  have := (List.getElem?_eq_some_iff.mp h).1
  unfold atI ixN
  rw [if_pos (by omega), if_pos (by omega)]
  simpa using h
theorem atI_lt {α : Type} {xs : List α} {k : Int} (h0 : 0 ≤ k) (h1 : k < xs.length) : ∃ v, atI xs k = some v ∧ xs[k.toNat]? = some v := by
  obtain ⟨n, rfl⟩ := Int.eq_ofNat_of_zero_le h0
  have : n < xs.length := by omega
  refine ⟨xs[n], atI_nat (List.getElem?_eq_getElem this), ?_⟩
  rw [Int.toNat_natCast]
  exact List.getElem?_eq_getElem this
theorem ok_at0 {a : D} {xs : List D} : Ok (atD (.tup (a :: xs)) (.int 0) G) P = P a G := ok_atT (atI_nat (n := 0) rfl)
theorem ok_at1 {a b : D} {xs : List D} : Ok (atD (.tup (a :: b :: xs)) (.int 1) G) P = P b G := ok_atT (atI_nat (n := 1) rfl)
theorem ok_at2 {a b c : D} {xs : List D} : Ok (atD (.tup (a :: b :: c :: xs)) (.int 2) G) P = P c G := ok_atT (atI_nat (n := 2) rfl)
theorem ok_at3 {a b c d : D} {xs : List D} : Ok (atD (.tup (a :: b :: c :: d :: xs)) (.int 3) G) P = P d G := ok_atT (atI_nat (n := 3) rfl)
theorem ok_at4 {a b c d e : D} {xs : List D} : Ok (atD (.tup (a :: b :: c :: d :: e :: xs)) (.int 4) G) P = P e G := ok_atT (atI_nat (n := 4) rfl)
theorem ok_atL0 {r : Nat} {a : D} {xs : List D} (hr : G[r]? = some (.lst (a :: xs))) : Ok (atD (.ref r) (.int 0) G) P = P a G := ok_atL hr (atI_nat (n := 0) rfl)
theorem ok_atL1 {r : Nat} {a b : D} {xs : List D} (hr : G[r]? = some (.lst (a :: b :: xs))) : Ok (atD (.ref r) (.int 1) G) P = P b G := ok_atL hr (atI_nat (n := 1) rfl)
theorem ok_atL2 {r : Nat} {a b c : D} {xs : List D} (hr : G[r]? = some (.lst (a :: b :: c :: xs))) : Ok (atD (.ref r) (.int 2) G) P = P c G := ok_atL hr (atI_nat (n := 2) rfl)
theorem ok_atL3 {r : Nat} {a b c d : D} {xs : List D} (hr : G[r]? = some (.lst (a :: b :: c :: d :: xs))) : Ok (atD (.ref r) (.int 3) G) P = P d G := ok_atL hr (atI_nat (n := 3) rfl)
theorem ok_putL {Pu : Unit → Hd → Prop} {r : Nat} {xs : List D} {k : Int} {j : Nat} {v : D} (hr : G[r]? = some (.lst xs)) (h : ixN xs.length k = some j) : Ok (putD (.ref r) (.int k) v G) Pu = Pu () (G.set r (.lst (xs.set j v))) := by
  unfold putD mlist
  dsimp only
  rw [hr]
  dsimp only
  rw [h] <;> rfl
theorem ok_putL1 {Pu : Unit → Hd → Prop} {r : Nat} {a b v : D} {xs : List D} (hr : G[r]? = some (.lst (a :: b :: xs))) : Ok (putD (.ref r) (.int 1) v G) Pu = Pu () (G.set r (.lst (a :: v :: xs))) := by
  have e : ixN (a :: b :: xs).length 1 = some 1 := by
    unfold ixN
    rw [if_pos (by omega), if_pos (by simp only [List.length_cons]; omega)]
    rfl
  rw [ok_putL hr e]
  rfl
theorem ok_putL2 {Pu : Unit → Hd → Prop} {r : Nat} {a b c v : D} {xs : List D} (hr : G[r]? = some (.lst (a :: b :: c :: xs))) : Ok (putD (.ref r) (.int 2) v G) Pu = Pu () (G.set r (.lst (a :: b :: v :: xs))) := by
  have e : ixN (a :: b :: c :: xs).length 2 = some 2 := by
    unfold ixN
    rw [if_pos (by omega), if_pos (by simp only [List.length_cons]; omega)]
    rfl
  rw [ok_putL hr e]
  rfl
theorem ok_putL3 {Pu : Unit → Hd → Prop} {r : Nat} {a b c d v : D} {xs : List D} (hr : G[r]? = some (.lst (a :: b :: c :: d :: xs))) : Ok (putD (.ref r) (.int 3) v G) Pu = Pu () (G.set r (.lst (a :: b :: c :: v :: xs))) := by
  have e : ixN (a :: b :: c :: d :: xs).length 3 = some 3 := by
    unfold ixN
    rw [if_pos (by omega), if_pos (by simp only [List.length_cons]; omega)]
    rfl
  rw [ok_putL hr e]
  rfl
theorem ok_eqP {x y : D} {a b : PyData} (hx : pyD 64 G x = some a) (hy : pyD 64 G y = some b) : Ok (cEq x y G) P = P (.bl (PyData.eqv a b)) G := by
  unfold cEq
  rw [hx, hy] <;> rfl
theorem ok_neP {x y : D} {a b : PyData} (hx : pyD 64 G x = some a) (hy : pyD 64 G y = some b) : Ok (cNe x y G) P = P (.bl (!PyData.eqv a b)) G := by
  unfold cNe
  rw [hx, hy] <;> rfl
theorem py_int {i : Int} : pyD 64 G (.int i) = some (.int i) := rfl
theorem py_bl {b : Bool} : pyD 64 G (.bl b) = some (.bool b) := rfl
theorem py_str {x : Str} (h : PyData.strOk x = true) : pyD 64 G (.str x) = some (.str x) := by
  show (if PyData.strOk x = true then some (PyData.str x) else none) = some (.str x)
  rw [if_pos h]
theorem ok_eq_int {i j : Int} : Ok (cEq (.int i) (.int j) G) P = P (.bl (decide (i = j))) G := by
  rw [ok_eqP py_int py_int]
  unfold PyData.eqv
  rfl
theorem ok_ne_int {i j : Int} : Ok (cNe (.int i) (.int j) G) P = P (.bl (!decide (i = j))) G := by
  rw [ok_neP py_int py_int]
  unfold PyData.eqv
  rfl
theorem ok_eq_bl {i j : Bool} : Ok (cEq (.bl i) (.bl j) G) P = P (.bl (i == j)) G := by
  rw [ok_eqP py_bl py_bl]
  unfold PyData.eqv
  rfl
theorem ok_ne_bl {i j : Bool} : Ok (cNe (.bl i) (.bl j) G) P = P (.bl (!(i == j))) G := by
  rw [ok_neP py_bl py_bl]
  unfold PyData.eqv
  rfl
theorem ok_eq_str {x y : Str} (hx : PyData.strOk x = true) (hy : PyData.strOk y = true) : Ok (cEq (.str x) (.str y) G) P = P (.bl (decide (x = y))) G := by
  rw [ok_eqP (py_str hx) (py_str hy)]
  unfold PyData.eqv
  rfl
theorem ok_ne_str {x y : Str} (hx : PyData.strOk x = true) (hy : PyData.strOk y = true) : Ok (cNe (.str x) (.str y) G) P = P (.bl (!decide (x = y))) G := by
  rw [ok_neP (py_str hx) (py_str hy)]
  unfold PyData.eqv
  rfl
theorem ok_eq_lit {a b : String} : Ok (cEq (.str (Str.ofString a)) (.str (Str.ofString b)) G) P = P (.bl (decide (a = b))) G := by
  rw [ok_eq_str (strOk_lit a) (strOk_lit b)]
  simp only [ofString_inj]
theorem ok_ne_lit {a b : String} : Ok (cNe (.str (Str.ofString a)) (.str (Str.ofString b)) G) P = P (.bl (!decide (a = b))) G := by
  rw [ok_ne_str (strOk_lit a) (strOk_lit b)]
  simp only [ofString_inj]
theorem ok_lt_int {i j : Int} : Ok (cLt (.int i) (.int j) G) P = P (.bl (decide (i < j))) G := rfl
theorem ok_le_int {i j : Int} : Ok (cLe (.int i) (.int j) G) P = P (.bl (decide (i ≤ j))) G := rfl
theorem ok_gt_int {i j : Int} : Ok (cGt (.int i) (.int j) G) P = P (.bl (decide (j < i))) G := rfl
theorem ok_ge_int {i j : Int} : Ok (cGe (.int i) (.int j) G) P = P (.bl (decide (j ≤ i))) G := rfl
theorem ok_is_non {x : D} : Ok (cIs x .non G) P = P (.bl (isNon x)) G := rfl
theorem ok_isnot_non {x : D} : Ok (cIsNot x .non G) P = P (.bl (!isNon x)) G := rfl
theorem ok_in_lit2 {a b c : String} : Ok (cIn (.str (Str.ofString a)) (.tup [.str (Str.ofString b), .str (Str.ofString c)]) G) P = P (.bl (decide (a = b) || decide (a = c))) G := by
  have e : inV (.str (Str.ofString a)) [.str (Str.ofString b), .str (Str.ofString c)] = (decide (a = b) || decide (a = c)) := by
    unfold inV
    simp only [List.any_cons, List.any_nil, eqV, Bool.or_false]
    have h : ∀ x : String, (Str.ofString x == Str.ofString a) = decide (a = x) := fun x => by
      rw [Bool.eq_iff_iff]
      simp only [beq_iff_eq, decide_eq_true_eq, ofString_inj]
      exact eq_comm
    rw [h, h]
  show P (.bl (inV (.str (Str.ofString a)) [.str (Str.ofString b), .str (Str.ofString c)])) G = _
  rw [e]
theorem ok_in_lit3 {a b c d : String} : Ok (cIn (.str (Str.ofString a)) (.tup [.str (Str.ofString b), .str (Str.ofString c), .str (Str.ofString d)]) G) P = P (.bl (decide (a = b) || (decide (a = c) || decide (a = d)))) G := by
  have e : inV (.str (Str.ofString a)) [.str (Str.ofString b), .str (Str.ofString c), .str (Str.ofString d)] = (decide (a = b) || (decide (a = c) || decide (a = d))) := by
    unfold inV
    simp only [List.any_cons, List.any_nil, eqV, Bool.or_false]
    have h : ∀ x : String, (Str.ofString x == Str.ofString a) = decide (a = x) := fun x => by
      rw [Bool.eq_iff_iff]
      simp only [beq_iff_eq, decide_eq_true_eq, ofString_inj]
      exact eq_comm
    rw [h, h, h]
  show P (.bl (inV (.str (Str.ofString a)) [.str (Str.ofString b), .str (Str.ofString c), .str (Str.ofString d)])) G = _
  rw [e]
theorem ok_add_int {i j : Int} : Ok (opAdd (.int i) (.int j) G) P = P (.int (i + j)) G := rfl
theorem ok_sub_int {i j : Int} : Ok (opSub (.int i) (.int j) G) P = P (.int (i - j)) G := rfl
theorem ok_iadd_int {i j : Int} : Ok (opIAdd (.int i) (.int j) G) P = P (.int (i + j)) G := rfl
theorem ok_mul_int {i j : Int} (h : CMul i j) : Ok (opMul (.int i) (.int j) G) P = P (.int (i * j)) G := by
  unfold opMul
  dsimp only
  rw [if_pos h] <;> rfl
theorem ok_mod_int {i j : Int} (h : 0 < j) : Ok (opMod (.int i) (.int j) G) P = P (.int (i % j)) G := by
  unfold opMod opInt
  dsimp only
  rw [if_pos (by simpa using h)] <;> rfl
theorem ok_fdiv_int {i j : Int} (h : CDivW i j) : Ok (opFdiv (.int i) (.int j) G) P = P (.int (i / j)) G := by
  unfold opFdiv opInt
  dsimp only
  rw [if_pos (by simpa using h)] <;> rfl
theorem cdivw_of {i j : Int} (h : 0 < j) (h2 : j < 2 ^ 200) : CDivW i j := by
  refine ⟨h, ?_⟩
  by_cases hz : j.natAbs = 0
  · omega
  · rw [Nat.log2_lt hz]
    have : j.natAbs < 2 ^ 200 := by omega
    exact Nat.lt_trans this (Nat.pow_lt_pow_right (by decide) (by decide))
theorem ok_add_str {a b : Str} (h : a.length + b.length ≤ sizeLine) : Ok (opAdd (.str a) (.str b) G) P = P (.str (a ++ b)) G := by
  unfold opAdd
  dsimp only
  rw [if_pos h] <;> rfl
theorem ok_int_int {i : Int} : Ok (fInt (.int i) G) P = P (.int i) G := rfl
theorem ok_int_bl {b : Bool} : Ok (fInt (.bl b) G) P = P (.int (if b then 1 else 0)) G := rfl
theorem ok_abs {i : Int} : Ok (fAbs (.int i) G) P = P (.int (if i < 0 then -i else i)) G := rfl
theorem ok_max {i j : Int} : Ok (fMax (.int i) (.int j) G) P = P (.int (if j > i then j else i)) G := rfl
theorem ok_min {i j : Int} : Ok (fMin (.int i) (.int j) G) P = P (.int (if j < i then j else i)) G := rfl
theorem ok_len_tup {xs : List D} : Ok (fLen (.tup xs) G) P = P (.int xs.length) G := rfl
theorem ok_len_ref {r : Nat} {xs : List D} (h : G[r]? = some (.lst xs)) : Ok (fLen (.ref r) G) P = P (.int xs.length) G := by
  unfold fLen seqOf listOf
  dsimp only
  rw [h] <;> rfl
theorem ok_len_str {z : Str} (h : z.length ≤ sizeLine) : Ok (fLen (.str z) G) P = P (.int z.length) G := by
  unfold fLen
  dsimp only
  rw [if_pos h] <;> rfl
theorem ok_list_rol {xs : List D} : Ok (fList (.rol xs) G) P = P (.ref G.length) (G ++ [.lst xs]) := rfl
theorem ok_list_tup {xs : List D} : Ok (fList (.tup xs) G) P = P (.ref G.length) (G ++ [.lst xs]) := rfl
theorem ok_tuple_ref {r : Nat} {xs : List D} (h : G[r]? = some (.lst xs)) : Ok (fTuple (.ref r) G) P = P (.tup xs) G := by
  unfold fTuple seqOf listOf
  dsimp only
  rw [h] <;> rfl
theorem ok_append {r : Nat} {xs : List D} {x : D} (h : G[r]? = some (.lst xs)) (hl : xs.length < sizeLine) : Ok (mAppend (.ref r) x G) P = P .non (G.set r (.lst (xs ++ [x]))) := by
  unfold mAppend mlist
  dsimp only
  rw [h]
  dsimp only
  rw [if_pos hl] <;> rfl
theorem ok_extend {r s : Nat} {xs ys : List D} (h : G[r]? = some (.lst xs)) (h2 : G[s]? = some (.lst ys)) (hl : xs.length + ys.length ≤ sizeLine) : Ok (mExtend (.ref r) (.ref s) G) P = P .non (G.set r (.lst (xs ++ ys))) := by
  unfold mExtend mlist
  dsimp only
  rw [h, h2]
  dsimp only
  rw [if_pos hl] <;> rfl
theorem ok_pop {r : Nat} {xs : List D} {y : D} (h : G[r]? = some (.lst (xs ++ [y]))) : Ok (mPop (.ref r) G) P = P y (G.set r (.lst xs)) := by
  unfold mPop mlist
  dsimp only
  rw [h]
  dsimp only
  have : (xs ++ [y])[(xs ++ [y]).length - 1]? = some y := by simp
  rw [this]
  dsimp only
  rw [List.dropLast_concat] <;> rfl
theorem isL_ref {r : Nat} {xs : List D} (h : G[r]? = some (.lst xs)) : isL G (.ref r) = true := by
  unfold isL listOf
  dsimp only
  rw [h] <;> rfl
theorem isS_str {x : Str} : isS (.str x) = true := rfl
theorem tru_bl {b : Bool} : tru G (.bl b) = some b := rfl
theorem tru_int {i : Int} : tru G (.int i) = some (i != 0) := rfl
theorem tru_non : tru G .non = some false := rfl
theorem tru_tup {xs : List D} : tru G (.tup xs) = some (!xs.isEmpty) := rfl
theorem tru_ref {r : Nat} {xs : List D} (h : G[r]? = some (.lst xs)) : tru G (.ref r) = some (!xs.isEmpty) := by
  unfold tru
  dsimp only
  rw [h] <;> rfl
end
structure Fr (W : List Nat) (G G' : Hd) : Prop where
  len : G.length ≤ G'.length
  get : ∀ i, i < G.length → i ∉ W → G'[i]? = G[i]?
section
variable {W : List Nat} {G G1 G2 G' : Hd}
theorem Fr.refl : Fr W G G := ⟨Nat.le_refl _, fun _ _ _ => rfl⟩
theorem Fr.trans (a : Fr W G G1) (b : Fr W G1 G2) : Fr W G G2 := ⟨Nat.le_trans a.len b.len, fun i h hw => (b.get i (Nat.lt_of_lt_of_le h a.len) hw).trans (a.get i h hw)⟩
theorem Fr.at (a : Fr W G G1) {i : Nat} {o : O} (h : G[i]? = some o) (hw : i ∉ W) : G1[i]? = some o := by
  rw [a.get i (List.getElem?_eq_some_iff.mp h).1 hw]
  exact h
theorem Fr.more {o : O} : Fr W G (G ++ [o]) := ⟨by simp, fun i h _ => List.getElem?_append_left h⟩
theorem Fr.app (a : Fr W G G1) {o : O} : Fr W G (G1 ++ [o]) := a.trans .more
theorem Fr.set (a : Fr W G G1) {i : Nat} {o : O} (h : G.length ≤ i ∨ i ∈ W) : Fr W G (G1.set i o) :=
  ⟨by rw [List.length_set]; exact a.len, fun j hj hw => by
    have : i ≠ j := by rintro rfl; rcases h with h | h; omega; exact hw h
    rw [List.getElem?_set_ne this]
    exact a.get j hj hw⟩
theorem get_new {G : Hd} {o : O} : (G ++ [o])[G.length]? = some o := by simp
theorem get_app {G : Hd} {o u : O} {i : Nat} (h : G[i]? = some u) : (G ++ [o])[i]? = some u := by
  rw [List.getElem?_append_left (List.getElem?_eq_some_iff.mp h).1]
  exact h
theorem get_set {G : Hd} {o : O} {i : Nat} {u : O} (h : G[i]? = some u) : (G.set i o)[i]? = some o := by
  rw [List.getElem?_set_self (List.getElem?_eq_some_iff.mp h).1]
theorem get_set_ne {G : Hd} {o u : O} {i j : Nat} (h : G[j]? = some u) (hn : i ≠ j) : (G.set i o)[j]? = some u := by
  rw [List.getElem?_set_ne hn]
  exact h
end
end D2
end
section
set_option linter.all false
set_option autoImplicit false
namespace D2
open PySem L2
section
variable {P : D → Hd → Prop} {G : Hd} {Z : Fl → Sd → Hd → Prop} {Y : Sd → Hd → Prop} {a : E} {f : D → D → M D} {v w : D}
theorem ok_var0 {σ : Sd} : Ok (eVar 0 (some v :: σ) G) P = P v G := rfl
theorem sk_set0 {σ : Sd} {y : Option D} : Sk (sSet 0 a (y :: σ) G) Z = Ok (a (y :: σ) G) fun v G1 => Z .nx (some v :: σ) G1 := sk_set
theorem tk_name0 {σ : Sd} {y : Option D} : Tk (gName 0 v (y :: σ) G) Y = Y (some v :: σ) G := rfl
theorem sk_aug0 {σ : Sd} : Sk (sAug 0 f a (some v :: σ) G) Z = Ok (a (some v :: σ) G) fun w G1 => Ok (f v w G1) fun z G2 => Z .nx (some z :: σ) G2 := sk_aug rfl
theorem ok_var1 {x0 : Option D} {σ : Sd} : Ok (eVar 1 (x0 :: some v :: σ) G) P = P v G := rfl
theorem sk_set1 {x0 : Option D} {σ : Sd} {y : Option D} : Sk (sSet 1 a (x0 :: y :: σ) G) Z = Ok (a (x0 :: y :: σ) G) fun v G1 => Z .nx (x0 :: some v :: σ) G1 := sk_set
theorem tk_name1 {x0 : Option D} {σ : Sd} {y : Option D} : Tk (gName 1 v (x0 :: y :: σ) G) Y = Y (x0 :: some v :: σ) G := rfl
theorem sk_aug1 {x0 : Option D} {σ : Sd} : Sk (sAug 1 f a (x0 :: some v :: σ) G) Z = Ok (a (x0 :: some v :: σ) G) fun w G1 => Ok (f v w G1) fun z G2 => Z .nx (x0 :: some z :: σ) G2 := sk_aug rfl
theorem ok_var2 {x0 x1 : Option D} {σ : Sd} : Ok (eVar 2 (x0 :: x1 :: some v :: σ) G) P = P v G := rfl
theorem sk_set2 {x0 x1 : Option D} {σ : Sd} {y : Option D} : Sk (sSet 2 a (x0 :: x1 :: y :: σ) G) Z = Ok (a (x0 :: x1 :: y :: σ) G) fun v G1 => Z .nx (x0 :: x1 :: some v :: σ) G1 := sk_set
theorem tk_name2 {x0 x1 : Option D} {σ : Sd} {y : Option D} : Tk (gName 2 v (x0 :: x1 :: y :: σ) G) Y = Y (x0 :: x1 :: some v :: σ) G := rfl
theorem sk_aug2 {x0 x1 : Option D} {σ : Sd} : Sk (sAug 2 f a (x0 :: x1 :: some v :: σ) G) Z = Ok (a (x0 :: x1 :: some v :: σ) G) fun w G1 => Ok (f v w G1) fun z G2 => Z .nx (x0 :: x1 :: some z :: σ) G2 := sk_aug rfl
theorem ok_var3 {x0 x1 x2 : Option D} {σ : Sd} : Ok (eVar 3 (x0 :: x1 :: x2 :: some v :: σ) G) P = P v G := rfl
theorem sk_set3 {x0 x1 x2 : Option D} {σ : Sd} {y : Option D} : Sk (sSet 3 a (x0 :: x1 :: x2 :: y :: σ) G) Z = Ok (a (x0 :: x1 :: x2 :: y :: σ) G) fun v G1 => Z .nx (x0 :: x1 :: x2 :: some v :: σ) G1 := sk_set
theorem tk_name3 {x0 x1 x2 : Option D} {σ : Sd} {y : Option D} : Tk (gName 3 v (x0 :: x1 :: x2 :: y :: σ) G) Y = Y (x0 :: x1 :: x2 :: some v :: σ) G := rfl
theorem sk_aug3 {x0 x1 x2 : Option D} {σ : Sd} : Sk (sAug 3 f a (x0 :: x1 :: x2 :: some v :: σ) G) Z = Ok (a (x0 :: x1 :: x2 :: some v :: σ) G) fun w G1 => Ok (f v w G1) fun z G2 => Z .nx (x0 :: x1 :: x2 :: some z :: σ) G2 := sk_aug rfl
theorem ok_var4 {x0 x1 x2 x3 : Option D} {σ : Sd} : Ok (eVar 4 (x0 :: x1 :: x2 :: x3 :: some v :: σ) G) P = P v G := rfl
theorem sk_set4 {x0 x1 x2 x3 : Option D} {σ : Sd} {y : Option D} : Sk (sSet 4 a (x0 :: x1 :: x2 :: x3 :: y :: σ) G) Z = Ok (a (x0 :: x1 :: x2 :: x3 :: y :: σ) G) fun v G1 => Z .nx (x0 :: x1 :: x2 :: x3 :: some v :: σ) G1 := sk_set
theorem tk_name4 {x0 x1 x2 x3 : Option D} {σ : Sd} {y : Option D} : Tk (gName 4 v (x0 :: x1 :: x2 :: x3 :: y :: σ) G) Y = Y (x0 :: x1 :: x2 :: x3 :: some v :: σ) G := rfl
theorem sk_aug4 {x0 x1 x2 x3 : Option D} {σ : Sd} : Sk (sAug 4 f a (x0 :: x1 :: x2 :: x3 :: some v :: σ) G) Z = Ok (a (x0 :: x1 :: x2 :: x3 :: some v :: σ) G) fun w G1 => Ok (f v w G1) fun z G2 => Z .nx (x0 :: x1 :: x2 :: x3 :: some z :: σ) G2 := sk_aug rfl
theorem ok_var5 {x0 x1 x2 x3 x4 : Option D} {σ : Sd} : Ok (eVar 5 (x0 :: x1 :: x2 :: x3 :: x4 :: some v :: σ) G) P = P v G := rfl
theorem sk_set5 {x0 x1 x2 x3 x4 : Option D} {σ : Sd} {y : Option D} : Sk (sSet 5 a (x0 :: x1 :: x2 :: x3 :: x4 :: y :: σ) G) Z = Ok (a (x0 :: x1 :: x2 :: x3 :: x4 :: y :: σ) G) fun v G1 => Z .nx (x0 :: x1 :: x2 :: x3 :: x4 :: some v :: σ) G1 := sk_set
theorem tk_name5 {x0 x1 x2 x3 x4 : Option D} {σ : Sd} {y : Option D} : Tk (gName 5 v (x0 :: x1 :: x2 :: x3 :: x4 :: y :: σ) G) Y = Y (x0 :: x1 :: x2 :: x3 :: x4 :: some v :: σ) G := rfl
theorem sk_aug5 {x0 x1 x2 x3 x4 : Option D} {σ : Sd} : Sk (sAug 5 f a (x0 :: x1 :: x2 :: x3 :: x4 :: some v :: σ) G) Z = Ok (a (x0 :: x1 :: x2 :: x3 :: x4 :: some v :: σ) G) fun w G1 => Ok (f v w G1) fun z G2 => Z .nx (x0 :: x1 :: x2 :: x3 :: x4 :: some z :: σ) G2 := sk_aug rfl
theorem ok_var6 {x0 x1 x2 x3 x4 x5 : Option D} {σ : Sd} : Ok (eVar 6 (x0 :: x1 :: x2 :: x3 :: x4 :: x5 :: some v :: σ) G) P = P v G := rfl
theorem sk_set6 {x0 x1 x2 x3 x4 x5 : Option D} {σ : Sd} {y : Option D} : Sk (sSet 6 a (x0 :: x1 :: x2 :: x3 :: x4 :: x5 :: y :: σ) G) Z = Ok (a (x0 :: x1 :: x2 :: x3 :: x4 :: x5 :: y :: σ) G) fun v G1 => Z .nx (x0 :: x1 :: x2 :: x3 :: x4 :: x5 :: some v :: σ) G1 := sk_set
theorem tk_name6 {x0 x1 x2 x3 x4 x5 : Option D} {σ : Sd} {y : Option D} : Tk (gName 6 v (x0 :: x1 :: x2 :: x3 :: x4 :: x5 :: y :: σ) G) Y = Y (x0 :: x1 :: x2 :: x3 :: x4 :: x5 :: some v :: σ) G := rfl
theorem sk_aug6 {x0 x1 x2 x3 x4 x5 : Option D} {σ : Sd} : Sk (sAug 6 f a (x0 :: x1 :: x2 :: x3 :: x4 :: x5 :: some v :: σ) G) Z = Ok (a (x0 :: x1 :: x2 :: x3 :: x4 :: x5 :: some v :: σ) G) fun w G1 => Ok (f v w G1) fun z G2 => Z .nx (x0 :: x1 :: x2 :: x3 :: x4 :: x5 :: some z :: σ) G2 := sk_aug rfl
theorem ok_var7 {x0 x1 x2 x3 x4 x5 x6 : Option D} {σ : Sd} : Ok (eVar 7 (x0 :: x1 :: x2 :: x3 :: x4 :: x5 :: x6 :: some v :: σ) G) P = P v G := rfl
theorem sk_set7 {x0 x1 x2 x3 x4 x5 x6 : Option D} {σ : Sd} {y : Option D} : Sk (sSet 7 a (x0 :: x1 :: x2 :: x3 :: x4 :: x5 :: x6 :: y :: σ) G) Z = Ok (a (x0 :: x1 :: x2 :: x3 :: x4 :: x5 :: x6 :: y :: σ) G) fun v G1 => Z .nx (x0 :: x1 :: x2 :: x3 :: x4 :: x5 :: x6 :: some v :: σ) G1 := sk_set
theorem tk_name7 {x0 x1 x2 x3 x4 x5 x6 : Option D} {σ : Sd} {y : Option D} : Tk (gName 7 v (x0 :: x1 :: x2 :: x3 :: x4 :: x5 :: x6 :: y :: σ) G) Y = Y (x0 :: x1 :: x2 :: x3 :: x4 :: x5 :: x6 :: some v :: σ) G := rfl
theorem sk_aug7 {x0 x1 x2 x3 x4 x5 x6 : Option D} {σ : Sd} : Sk (sAug 7 f a (x0 :: x1 :: x2 :: x3 :: x4 :: x5 :: x6 :: some v :: σ) G) Z = Ok (a (x0 :: x1 :: x2 :: x3 :: x4 :: x5 :: x6 :: some v :: σ) G) fun w G1 => Ok (f v w G1) fun z G2 => Z .nx (x0 :: x1 :: x2 :: x3 :: x4 :: x5 :: x6 :: some z :: σ) G2 := sk_aug rfl
theorem ok_var8 {x0 x1 x2 x3 x4 x5 x6 x7 : Option D} {σ : Sd} : Ok (eVar 8 (x0 :: x1 :: x2 :: x3 :: x4 :: x5 :: x6 :: x7 :: some v :: σ) G) P = P v G := rfl
theorem sk_set8 {x0 x1 x2 x3 x4 x5 x6 x7 : Option D} {σ : Sd} {y : Option D} : Sk (sSet 8 a (x0 :: x1 :: x2 :: x3 :: x4 :: x5 :: x6 :: x7 :: y :: σ) G) Z = Ok (a (x0 :: x1 :: x2 :: x3 :: x4 :: x5 :: x6 :: x7 :: y :: σ) G) fun v G1 => Z .nx (x0 :: x1 :: x2 :: x3 :: x4 :: x5 :: x6 :: x7 :: some v :: σ) G1 := sk_set
theorem tk_name8 {x0 x1 x2 x3 x4 x5 x6 x7 : Option D} {σ : Sd} {y : Option D} : Tk (gName 8 v (x0 :: x1 :: x2 :: x3 :: x4 :: x5 :: x6 :: x7 :: y :: σ) G) Y = Y (x0 :: x1 :: x2 :: x3 :: x4 :: x5 :: x6 :: x7 :: some v :: σ) G := rfl
theorem sk_aug8 {x0 x1 x2 x3 x4 x5 x6 x7 : Option D} {σ : Sd} : Sk (sAug 8 f a (x0 :: x1 :: x2 :: x3 :: x4 :: x5 :: x6 :: x7 :: some v :: σ) G) Z = Ok (a (x0 :: x1 :: x2 :: x3 :: x4 :: x5 :: x6 :: x7 :: some v :: σ) G) fun w G1 => Ok (f v w G1) fun z G2 => Z .nx (x0 :: x1 :: x2 :: x3 :: x4 :: x5 :: x6 :: x7 :: some z :: σ) G2 := sk_aug rfl
theorem ok_var9 {x0 x1 x2 x3 x4 x5 x6 x7 x8 : Option D} {σ : Sd} : Ok (eVar 9 (x0 :: x1 :: x2 :: x3 :: x4 :: x5 :: x6 :: x7 :: x8 :: some v :: σ) G) P = P v G := rfl
theorem sk_set9 {x0 x1 x2 x3 x4 x5 x6 x7 x8 : Option D} {σ : Sd} {y : Option D} : Sk (sSet 9 a (x0 :: x1 :: x2 :: x3 :: x4 :: x5 :: x6 :: x7 :: x8 :: y :: σ) G) Z = Ok (a (x0 :: x1 :: x2 :: x3 :: x4 :: x5 :: x6 :: x7 :: x8 :: y :: σ) G) fun v G1 => Z .nx (x0 :: x1 :: x2 :: x3 :: x4 :: x5 :: x6 :: x7 :: x8 :: some v :: σ) G1 := sk_set
theorem tk_name9 {x0 x1 x2 x3 x4 x5 x6 x7 x8 : Option D} {σ : Sd} {y : Option D} : Tk (gName 9 v (x0 :: x1 :: x2 :: x3 :: x4 :: x5 :: x6 :: x7 :: x8 :: y :: σ) G) Y = Y (x0 :: x1 :: x2 :: x3 :: x4 :: x5 :: x6 :: x7 :: x8 :: some v :: σ) G := rfl
theorem sk_aug9 {x0 x1 x2 x3 x4 x5 x6 x7 x8 : Option D} {σ : Sd} : Sk (sAug 9 f a (x0 :: x1 :: x2 :: x3 :: x4 :: x5 :: x6 :: x7 :: x8 :: some v :: σ) G) Z = Ok (a (x0 :: x1 :: x2 :: x3 :: x4 :: x5 :: x6 :: x7 :: x8 :: some v :: σ) G) fun w G1 => Ok (f v w G1) fun z G2 => Z .nx (x0 :: x1 :: x2 :: x3 :: x4 :: x5 :: x6 :: x7 :: x8 :: some z :: σ) G2 := sk_aug rfl
theorem ok_var10 {x0 x1 x2 x3 x4 x5 x6 x7 x8 x9 : Option D} {σ : Sd} : Ok (eVar 10 (x0 :: x1 :: x2 :: x3 :: x4 :: x5 :: x6 :: x7 :: x8 :: x9 :: some v :: σ) G) P = P v G := rfl
theorem sk_set10 {x0 x1 x2 x3 x4 x5 x6 x7 x8 x9 : Option D} {σ : Sd} {y : Option D} : Sk (sSet 10 a (x0 :: x1 :: x2 :: x3 :: x4 :: x5 :: x6 :: x7 :: x8 :: x9 :: y :: σ) G) Z = Ok (a (x0 :: x1 :: x2 :: x3 :: x4 :: x5 :: x6 :: x7 :: x8 :: x9 :: y :: σ) G) fun v G1 => Z .nx (x0 :: x1 :: x2 :: x3 :: x4 :: x5 :: x6 :: x7 :: x8 :: x9 :: some v :: σ) G1 := sk_set
theorem tk_name10 {x0 x1 x2 x3 x4 x5 x6 x7 x8 x9 : Option D} {σ : Sd} {y : Option D} : Tk (gName 10 v (x0 :: x1 :: x2 :: x3 :: x4 :: x5 :: x6 :: x7 :: x8 :: x9 :: y :: σ) G) Y = Y (x0 :: x1 :: x2 :: x3 :: x4 :: x5 :: x6 :: x7 :: x8 :: x9 :: some v :: σ) G := rfl
theorem sk_aug10 {x0 x1 x2 x3 x4 x5 x6 x7 x8 x9 : Option D} {σ : Sd} : Sk (sAug 10 f a (x0 :: x1 :: x2 :: x3 :: x4 :: x5 :: x6 :: x7 :: x8 :: x9 :: some v :: σ) G) Z = Ok (a (x0 :: x1 :: x2 :: x3 :: x4 :: x5 :: x6 :: x7 :: x8 :: x9 :: some v :: σ) G) fun w G1 => Ok (f v w G1) fun z G2 => Z .nx (x0 :: x1 :: x2 :: x3 :: x4 :: x5 :: x6 :: x7 :: x8 :: x9 :: some z :: σ) G2 := sk_aug rfl
theorem ok_var11 {x0 x1 x2 x3 x4 x5 x6 x7 x8 x9 x10 : Option D} {σ : Sd} : Ok (eVar 11 (x0 :: x1 :: x2 :: x3 :: x4 :: x5 :: x6 :: x7 :: x8 :: x9 :: x10 :: some v :: σ) G) P = P v G := rfl
theorem sk_set11 {x0 x1 x2 x3 x4 x5 x6 x7 x8 x9 x10 : Option D} {σ : Sd} {y : Option D} : Sk (sSet 11 a (x0 :: x1 :: x2 :: x3 :: x4 :: x5 :: x6 :: x7 :: x8 :: x9 :: x10 :: y :: σ) G) Z = Ok (a (x0 :: x1 :: x2 :: x3 :: x4 :: x5 :: x6 :: x7 :: x8 :: x9 :: x10 :: y :: σ) G) fun v G1 => Z .nx (x0 :: x1 :: x2 :: x3 :: x4 :: x5 :: x6 :: x7 :: x8 :: x9 :: x10 :: some v :: σ) G1 := sk_set
theorem tk_name11 {x0 x1 x2 x3 x4 x5 x6 x7 x8 x9 x10 : Option D} {σ : Sd} {y : Option D} : Tk (gName 11 v (x0 :: x1 :: x2 :: x3 :: x4 :: x5 :: x6 :: x7 :: x8 :: x9 :: x10 :: y :: σ) G) Y = Y (x0 :: x1 :: x2 :: x3 :: x4 :: x5 :: x6 :: x7 :: x8 :: x9 :: x10 :: some v :: σ) G := rfl
theorem sk_aug11 {x0 x1 x2 x3 x4 x5 x6 x7 x8 x9 x10 : Option D} {σ : Sd} : Sk (sAug 11 f a (x0 :: x1 :: x2 :: x3 :: x4 :: x5 :: x6 :: x7 :: x8 :: x9 :: x10 :: some v :: σ) G) Z = Ok (a (x0 :: x1 :: x2 :: x3 :: x4 :: x5 :: x6 :: x7 :: x8 :: x9 :: x10 :: some v :: σ) G) fun w G1 => Ok (f v w G1) fun z G2 => Z .nx (x0 :: x1 :: x2 :: x3 :: x4 :: x5 :: x6 :: x7 :: x8 :: x9 :: x10 :: some z :: σ) G2 := sk_aug rfl
theorem ok_var12 {x0 x1 x2 x3 x4 x5 x6 x7 x8 x9 x10 x11 : Option D} {σ : Sd} : Ok (eVar 12 (x0 :: x1 :: x2 :: x3 :: x4 :: x5 :: x6 :: x7 :: x8 :: x9 :: x10 :: x11 :: some v :: σ) G) P = P v G := rfl
theorem sk_set12 {x0 x1 x2 x3 x4 x5 x6 x7 x8 x9 x10 x11 : Option D} {σ : Sd} {y : Option D} : Sk (sSet 12 a (x0 :: x1 :: x2 :: x3 :: x4 :: x5 :: x6 :: x7 :: x8 :: x9 :: x10 :: x11 :: y :: σ) G) Z = Ok (a (x0 :: x1 :: x2 :: x3 :: x4 :: x5 :: x6 :: x7 :: x8 :: x9 :: x10 :: x11 :: y :: σ) G) fun v G1 => Z .nx (x0 :: x1 :: x2 :: x3 :: x4 :: x5 :: x6 :: x7 :: x8 :: x9 :: x10 :: x11 :: some v :: σ) G1 := sk_set
theorem tk_name12 {x0 x1 x2 x3 x4 x5 x6 x7 x8 x9 x10 x11 : Option D} {σ : Sd} {y : Option D} : Tk (gName 12 v (x0 :: x1 :: x2 :: x3 :: x4 :: x5 :: x6 :: x7 :: x8 :: x9 :: x10 :: x11 :: y :: σ) G) Y = Y (x0 :: x1 :: x2 :: x3 :: x4 :: x5 :: x6 :: x7 :: x8 :: x9 :: x10 :: x11 :: some v :: σ) G := rfl
theorem sk_aug12 {x0 x1 x2 x3 x4 x5 x6 x7 x8 x9 x10 x11 : Option D} {σ : Sd} : Sk (sAug 12 f a (x0 :: x1 :: x2 :: x3 :: x4 :: x5 :: x6 :: x7 :: x8 :: x9 :: x10 :: x11 :: some v :: σ) G) Z = Ok (a (x0 :: x1 :: x2 :: x3 :: x4 :: x5 :: x6 :: x7 :: x8 :: x9 :: x10 :: x11 :: some v :: σ) G) fun w G1 => Ok (f v w G1) fun z G2 => Z .nx (x0 :: x1 :: x2 :: x3 :: x4 :: x5 :: x6 :: x7 :: x8 :: x9 :: x10 :: x11 :: some z :: σ) G2 := sk_aug rfl
theorem ok_var13 {x0 x1 x2 x3 x4 x5 x6 x7 x8 x9 x10 x11 x12 : Option D} {σ : Sd} : Ok (eVar 13 (x0 :: x1 :: x2 :: x3 :: x4 :: x5 :: x6 :: x7 :: x8 :: x9 :: x10 :: x11 :: x12 :: some v :: σ) G) P = P v G := rfl
theorem sk_set13 {x0 x1 x2 x3 x4 x5 x6 x7 x8 x9 x10 x11 x12 : Option D} {σ : Sd} {y : Option D} : Sk (sSet 13 a (x0 :: x1 :: x2 :: x3 :: x4 :: x5 :: x6 :: x7 :: x8 :: x9 :: x10 :: x11 :: x12 :: y :: σ) G) Z = Ok (a (x0 :: x1 :: x2 :: x3 :: x4 :: x5 :: x6 :: x7 :: x8 :: x9 :: x10 :: x11 :: x12 :: y :: σ) G) fun v G1 => Z .nx (x0 :: x1 :: x2 :: x3 :: x4 :: x5 :: x6 :: x7 :: x8 :: x9 :: x10 :: x11 :: x12 :: some v :: σ) G1 := sk_set
theorem tk_name13 {x0 x1 x2 x3 x4 x5 x6 x7 x8 x9 x10 x11 x12 : Option D} {σ : Sd} {y : Option D} : Tk (gName 13 v (x0 :: x1 :: x2 :: x3 :: x4 :: x5 :: x6 :: x7 :: x8 :: x9 :: x10 :: x11 :: x12 :: y :: σ) G) Y = Y (x0 :: x1 :: x2 :: x3 :: x4 :: x5 :: x6 :: x7 :: x8 :: x9 :: x10 :: x11 :: x12 :: some v :: σ) G := rfl
theorem sk_aug13 {x0 x1 x2 x3 x4 x5 x6 x7 x8 x9 x10 x11 x12 : Option D} {σ : Sd} : Sk (sAug 13 f a (x0 :: x1 :: x2 :: x3 :: x4 :: x5 :: x6 :: x7 :: x8 :: x9 :: x10 :: x11 :: x12 :: some v :: σ) G) Z = Ok (a (x0 :: x1 :: x2 :: x3 :: x4 :: x5 :: x6 :: x7 :: x8 :: x9 :: x10 :: x11 :: x12 :: some v :: σ) G) fun w G1 => Ok (f v w G1) fun z G2 => Z .nx (x0 :: x1 :: x2 :: x3 :: x4 :: x5 :: x6 :: x7 :: x8 :: x9 :: x10 :: x11 :: x12 :: some z :: σ) G2 := sk_aug rfl
theorem ok_var14 {x0 x1 x2 x3 x4 x5 x6 x7 x8 x9 x10 x11 x12 x13 : Option D} {σ : Sd} : Ok (eVar 14 (x0 :: x1 :: x2 :: x3 :: x4 :: x5 :: x6 :: x7 :: x8 :: x9 :: x10 :: x11 :: x12 :: x13 :: some v :: σ) G) P = P v G := rfl
theorem sk_set14 {x0 x1 x2 x3 x4 x5 x6 x7 x8 x9 x10 x11 x12 x13 : Option D} {σ : Sd} {y : Option D} : Sk (sSet 14 a (x0 :: x1 :: x2 :: x3 :: x4 :: x5 :: x6 :: x7 :: x8 :: x9 :: x10 :: x11 :: x12 :: x13 :: y :: σ) G) Z = Ok (a (x0 :: x1 :: x2 :: x3 :: x4 :: x5 :: x6 :: x7 :: x8 :: x9 :: x10 :: x11 :: x12 :: x13 :: y :: σ) G) fun v G1 => Z .nx (x0 :: x1 :: x2 :: x3 :: x4 :: x5 :: x6 :: x7 :: x8 :: x9 :: x10 :: x11 :: x12 :: x13 :: some v :: σ) G1 := sk_set
theorem tk_name14 {x0 x1 x2 x3 x4 x5 x6 x7 x8 x9 x10 x11 x12 x13 : Option D} {σ : Sd} {y : Option D} : Tk (gName 14 v (x0 :: x1 :: x2 :: x3 :: x4 :: x5 :: x6 :: x7 :: x8 :: x9 :: x10 :: x11 :: x12 :: x13 :: y :: σ) G) Y = Y (x0 :: x1 :: x2 :: x3 :: x4 :: x5 :: x6 :: x7 :: x8 :: x9 :: x10 :: x11 :: x12 :: x13 :: some v :: σ) G := rfl
theorem sk_aug14 {x0 x1 x2 x3 x4 x5 x6 x7 x8 x9 x10 x11 x12 x13 : Option D} {σ : Sd} : Sk (sAug 14 f a (x0 :: x1 :: x2 :: x3 :: x4 :: x5 :: x6 :: x7 :: x8 :: x9 :: x10 :: x11 :: x12 :: x13 :: some v :: σ) G) Z = Ok (a (x0 :: x1 :: x2 :: x3 :: x4 :: x5 :: x6 :: x7 :: x8 :: x9 :: x10 :: x11 :: x12 :: x13 :: some v :: σ) G) fun w G1 => Ok (f v w G1) fun z G2 => Z .nx (x0 :: x1 :: x2 :: x3 :: x4 :: x5 :: x6 :: x7 :: x8 :: x9 :: x10 :: x11 :: x12 :: x13 :: some z :: σ) G2 := sk_aug rfl
theorem ok_var15 {x0 x1 x2 x3 x4 x5 x6 x7 x8 x9 x10 x11 x12 x13 x14 : Option D} {σ : Sd} : Ok (eVar 15 (x0 :: x1 :: x2 :: x3 :: x4 :: x5 :: x6 :: x7 :: x8 :: x9 :: x10 :: x11 :: x12 :: x13 :: x14 :: some v :: σ) G) P = P v G := rfl
theorem sk_set15 {x0 x1 x2 x3 x4 x5 x6 x7 x8 x9 x10 x11 x12 x13 x14 : Option D} {σ : Sd} {y : Option D} : Sk (sSet 15 a (x0 :: x1 :: x2 :: x3 :: x4 :: x5 :: x6 :: x7 :: x8 :: x9 :: x10 :: x11 :: x12 :: x13 :: x14 :: y :: σ) G) Z = Ok (a (x0 :: x1 :: x2 :: x3 :: x4 :: x5 :: x6 :: x7 :: x8 :: x9 :: x10 :: x11 :: x12 :: x13 :: x14 :: y :: σ) G) fun v G1 => Z .nx (x0 :: x1 :: x2 :: x3 :: x4 :: x5 :: x6 :: x7 :: x8 :: x9 :: x10 :: x11 :: x12 :: x13 :: x14 :: some v :: σ) G1 := sk_set
theorem tk_name15 {x0 x1 x2 x3 x4 x5 x6 x7 x8 x9 x10 x11 x12 x13 x14 : Option D} {σ : Sd} {y : Option D} : Tk (gName 15 v (x0 :: x1 :: x2 :: x3 :: x4 :: x5 :: x6 :: x7 :: x8 :: x9 :: x10 :: x11 :: x12 :: x13 :: x14 :: y :: σ) G) Y = Y (x0 :: x1 :: x2 :: x3 :: x4 :: x5 :: x6 :: x7 :: x8 :: x9 :: x10 :: x11 :: x12 :: x13 :: x14 :: some v :: σ) G := rfl
theorem sk_aug15 {x0 x1 x2 x3 x4 x5 x6 x7 x8 x9 x10 x11 x12 x13 x14 : Option D} {σ : Sd} : Sk (sAug 15 f a (x0 :: x1 :: x2 :: x3 :: x4 :: x5 :: x6 :: x7 :: x8 :: x9 :: x10 :: x11 :: x12 :: x13 :: x14 :: some v :: σ) G) Z = Ok (a (x0 :: x1 :: x2 :: x3 :: x4 :: x5 :: x6 :: x7 :: x8 :: x9 :: x10 :: x11 :: x12 :: x13 :: x14 :: some v :: σ) G) fun w G1 => Ok (f v w G1) fun z G2 => Z .nx (x0 :: x1 :: x2 :: x3 :: x4 :: x5 :: x6 :: x7 :: x8 :: x9 :: x10 :: x11 :: x12 :: x13 :: x14 :: some z :: σ) G2 := sk_aug rfl
end
end D2
end
section
set_option linter.all false
set_option autoImplicit false
namespace D2
open PySem L2
structure StAt (G : Hd) (s l : Nat) : Prop where
  ne : l ≠ s
  ex : ∃ (ns : List Int) (a i c : Int), G[s]? = some (.lst [.ref l, .int a, .int i, .int c]) ∧ G[l]? = some (.lst (ns.map .int)) ∧ 0 ≤ a ∧ 0 ≤ i ∧ 0 ≤ c
theorem StAt.fr {G G' : Hd} {s l : Nat} (h : StAt G s l) (f : Fr [] G G') : StAt G' s l := by
  obtain ⟨ne, ns, a, i, c, h1, h2, h3⟩ := h
  exact ⟨ne, ns, a, i, c, f.at h1 (by simp), f.at h2 (by simp), h3⟩
theorem StAt.app {G : Hd} {s l : Nat} {o : O} (h : StAt G s l) : StAt (G ++ [o]) s l := h.fr Fr.refl.app
theorem StAt.lt {G : Hd} {s l : Nat} (h : StAt G s l) : s < G.length ∧ l < G.length := by
  obtain ⟨ne, ns, a, i, c, h1, h2, h3⟩ := h
  exact ⟨(List.getElem?_eq_some_iff.mp h1).1, (List.getElem?_eq_some_iff.mp h2).1⟩
theorem StAt.set {G : Hd} {s l d : Nat} {o : O} (h : StAt G s l) (h1 : d ≠ s) (h2 : d ≠ l) : StAt (G.set d o) s l := by
  obtain ⟨ne, ns, a, i, c, e1, e2, h3⟩ := h
  exact ⟨ne, ns, a, i, c, get_set_ne e1 h1, get_set_ne e2 h2, h3⟩
def g_draw : S :=
  (sSeq (sIf (tAnd (tBl (eOp2 cEq (eOp2 atD (eVar 0) (eC (.int 1))) (eC (.int 0)))) (tBl (eOp2 cLt (eOp2 atD (eVar 0) (eC (.int 2))) (eOp1 fLen (eOp2 atD (eVar 0) (eC (.int 0)))))))
    (sSeq (sPut (eVar 0) (eC (.int 1)) (eOp1 fAbs (eOp1 fInt (eOp2 atD (eOp2 atD (eVar 0) (eC (.int 0))) (eOp2 atD (eVar 0) (eC (.int 2)))))))
    (sPut (eVar 0) (eC (.int 2)) (eOp2 opAdd (eOp2 atD (eVar 0) (eC (.int 2))) (eC (.int 1)))))
    sNil)
  (sSeq (sIf (tBl (eOp2 cEq (eOp2 atD (eVar 0) (eC (.int 1))) (eC (.int 0))))
    (sSeq (sPut (eVar 0) (eC (.int 3)) (eOp2 opMod (eOp1 fInt (eOp2 opAdd (eOp2 opMul (eOp2 atD (eVar 0) (eC (.int 3))) (eC (.int 48271))) (eC (.int 11)))) (eC (.int 2147483647))))
    (sRet (eOp2 opMod (eOp1 fInt (eOp2 opFdiv (eOp2 atD (eVar 0) (eC (.int 3))) (eC (.int 97)))) (eVar 1))))
    sNil)
  (sSeq (sSet 2 (eOp2 opMod (eOp1 fInt (eOp2 atD (eVar 0) (eC (.int 1)))) (eVar 1)))
  (sSeq (sPut (eVar 0) (eC (.int 1)) (eOp2 opFdiv (eOp2 atD (eVar 0) (eC (.int 1))) (eVar 1)))
  (sRet (eVar 2))))))
theorem draw_tail {s l : Nat} {m : Int} {G0 G : Hd} {P : D → Hd → Prop} (h : StAt G s l) (hf : Fr [s] G0 G) (hm : 0 < m ∧ m < 2 ^ 200)
    (hq : ∀ (v : Int) (G' : Hd), 0 ≤ v → v < m → StAt G' s l → Fr [s] G0 G' → P (.int v) G') :
    Sk (sSeq (sIf (tBl (eOp2 cEq (eOp2 atD (eVar 0) (eC (.int 1))) (eC (.int 0))))
    (sSeq (sPut (eVar 0) (eC (.int 3)) (eOp2 opMod (eOp1 fInt (eOp2 opAdd (eOp2 opMul (eOp2 atD (eVar 0) (eC (.int 3))) (eC (.int 48271))) (eC (.int 11)))) (eC (.int 2147483647))))
    (sRet (eOp2 opMod (eOp1 fInt (eOp2 opFdiv (eOp2 atD (eVar 0) (eC (.int 3))) (eC (.int 97)))) (eVar 1))))
    sNil)
  (sSeq (sSet 2 (eOp2 opMod (eOp1 fInt (eOp2 atD (eVar 0) (eC (.int 1)))) (eVar 1)))
  (sSeq (sPut (eVar 0) (eC (.int 1)) (eOp2 opFdiv (eOp2 atD (eVar 0) (eC (.int 1))) (eVar 1)))
  (sRet (eVar 2)))) [some (.ref s), some (.int m), none] G) (rtn P) := by
  obtain ⟨ne, ns, a, i, c, h1, h2, ha, hi, hc⟩ := h
  have c1 : CMul c 48271 := .inr (by decide)
  have c2 : ∀ x, CDivW x 97 := fun x => cdivw_of (by decide) (by decide)
  have c3 : ∀ x, CDivW x m := fun x => cdivw_of hm.1 hm.2
  have b1 : (0 : Int) < 2147483647 := by decide
  have g1 : ∀ {x : D}, (G.set s (.lst [.ref l, .int a, .int i, x]))[s]? = some (.lst [.ref l, .int a, .int i, x]) := get_set h1
  simp -implicitDefEqProofs only [↓sk_seq, ↓sk_if, ↓sk_nil, ↓sk_break, ↓sk_cont, ↓sk_asg, ↓sk_expr, ↓sk_ret, ↓sk_retn, ↓sk_put, ↓sk_putA, ↓sk_for, ↓sk_while, ↓sk_nx, ↓sk_bk, ↓sk_ct, ↓sk_rt, ↓thn_nx, ↓thn_bk, ↓thn_ct, ↓thn_rt, ↓lpn_nx, ↓lpn_bk, ↓lpn_ct, ↓lpn_rt, ↓rtn_nx, ↓rtn_rt, ↓tk_nil, ↓tk_cons, ↓tk_tup2, ↓tk_tup3, ↓tk_tup4, ↓tk_tup5, ↓ok_some, ↓ok_ret, ↓ok_bnd, ↓ok_c, ↓ok_op1, ↓ok_op2, ↓ok_nil, ↓ok_cons, ↓ok_tup, ↓ok_lst, ↓ok_call, ↓ok_onone, ↓ok_osome, ↓ok_oint, ↓ok_sl, ↓ok_if2, ↓ok_and, ↓ok_or, ↓ok_not, ↓ok_tru, ↓ok_tbl, ↓ok_asb, ↓ok_tand, ↓ok_tor, ↓ok_tnot, ↓ok_tyes, ↓ok_ml, ↓ok_ms, ↓ok_iof, ↓ok_ienum, ↓ok_irev, ↓ok_irng1, ↓ok_itof_tup, ↓ok_itof_rol, ↓ok_iten_tup, ↓ok_itrev_tup, ↓ok_frng, ↓ok_mk0, ↓ok_mk1, ↓ok_mk2, ↓ok_mk3, ↓ok_mk4, ↓ok_mk5, ↓ok_new0, ↓ok_new1, ↓ok_new2, ↓ok_new3, ↓ok_new4, ↓ok_new5, ↓ok_new6, ↓ok_new7, ↓ok_at0, ↓ok_at1, ↓ok_at2, ↓ok_at3, ↓ok_at4, ↓ok_eq_int, ↓ok_ne_int, ↓ok_eq_bl, ↓ok_ne_bl, ↓ok_eq_lit, ↓ok_ne_lit, ↓ok_lt_int, ↓ok_le_int, ↓ok_gt_int, ↓ok_ge_int, ↓ok_is_non, ↓ok_isnot_non, ↓ok_in_lit2, ↓ok_in_lit3, ↓ok_add_int, ↓ok_sub_int, ↓ok_iadd_int, ↓ok_int_int, ↓ok_int_bl, ↓ok_abs, ↓ok_max, ↓ok_min, ↓ok_len_tup, ↓ok_list_rol, ↓ok_list_tup, ↓isS_str, ↓tru_bl, ↓tru_int, ↓tru_non, ↓tru_tup, ↓ok_var0, ↓sk_set0, ↓tk_name0, ↓sk_aug0, ↓ok_var1, ↓sk_set1, ↓tk_name1, ↓sk_aug1, ↓ok_var2, ↓sk_set2, ↓tk_name2, ↓sk_aug2, ↓ok_var3, ↓sk_set3, ↓tk_name3, ↓sk_aug3, ↓ok_var4, ↓sk_set4, ↓tk_name4, ↓sk_aug4, ↓ok_var5, ↓sk_set5, ↓tk_name5, ↓sk_aug5, ↓ok_var6, ↓sk_set6, ↓tk_name6, ↓sk_aug6, ↓ok_var7, ↓sk_set7, ↓tk_name7, ↓sk_aug7, ↓ok_var8, ↓sk_set8, ↓tk_name8, ↓sk_aug8, ↓ok_var9, ↓sk_set9, ↓tk_name9, ↓sk_aug9, ↓ok_var10, ↓sk_set10, ↓tk_name10, ↓sk_aug10, ↓ok_var11, ↓sk_set11, ↓tk_name11, ↓sk_aug11, ↓ok_var12, ↓sk_set12, ↓tk_name12, ↓sk_aug12, ↓ok_var13, ↓sk_set13, ↓tk_name13, ↓sk_aug13, ↓ok_var14, ↓sk_set14, ↓tk_name14, ↓sk_aug14, ↓ok_var15, ↓sk_set15, ↓tk_name15, ↓sk_aug15, ↓ok_atL1 h1, ↓ok_atL3 h1, ↓ok_mul_int c1, ↓ok_mod_int b1, ↓ok_putL3 h1, ↓ok_fdiv_int (c2 _), ↓ok_fdiv_int (c3 _), ↓ok_mod_int hm.1, ↓ok_putL1 h1, ↓ok_atL3 g1]
  have k : ∀ x : Int, 0 ≤ x % m ∧ x % m < m := fun x => ⟨Int.emod_nonneg _ (by omega), Int.emod_lt_of_pos _ hm.1⟩
  have st : ∀ {p q r : Int}, 0 ≤ p → 0 ≤ q → 0 ≤ r → StAt (G.set s (.lst [.ref l, .int p, .int q, .int r])) s l := fun x y z => ⟨ne, ns, _, _, _, get_set h1, get_set_ne h2 (Ne.symm ne), x, y, z⟩
  split
  · exact hq _ _ (k _).1 (k _).2 (st ha hi (Int.emod_nonneg _ (by decide))) (hf.set (.inr (by simp)))
  · exact hq _ _ (k _).1 (k _).2 (st (Int.ediv_nonneg ha (by omega)) hi hc) (hf.set (.inr (by simp)))
theorem draw_ok {s l : Nat} {m : Int} {G : Hd} {P : D → Hd → Prop} (h : StAt G s l) (hm : 0 < m ∧ m < 2 ^ 200)
    (hq : ∀ (v : Int) (G' : Hd), 0 ≤ v → v < m → StAt G' s l → Fr [s] G G' → P (.int v) G') : Ok (runFn 3 2 g_draw [.ref s, .int m] G) P := by
  refine ok_run rfl ?_
  have h0 := h
  obtain ⟨ne, ns, a, i, c, h1, h2, ha, hi, hc⟩ := h
  show Sk (g_draw [some (.ref s), some (.int m), none] G) (rtn P)
  unfold g_draw
  refine sk_cut (fun σ G1 => σ = [some (.ref s), some (.int m), none] ∧ StAt G1 s l ∧ Fr [s] G G1) ?_ fun σ G1 ⟨e, h', f⟩ => by subst e; exact draw_tail h' f hm hq
  simp -implicitDefEqProofs only [↓sk_seq, ↓sk_if, ↓sk_nil, ↓sk_break, ↓sk_cont, ↓sk_asg, ↓sk_expr, ↓sk_ret, ↓sk_retn, ↓sk_put, ↓sk_putA, ↓sk_for, ↓sk_while, ↓sk_nx, ↓sk_bk, ↓sk_ct, ↓sk_rt, ↓thn_nx, ↓thn_bk, ↓thn_ct, ↓thn_rt, ↓lpn_nx, ↓lpn_bk, ↓lpn_ct, ↓lpn_rt, ↓rtn_nx, ↓rtn_rt, ↓tk_nil, ↓tk_cons, ↓tk_tup2, ↓tk_tup3, ↓tk_tup4, ↓tk_tup5, ↓ok_some, ↓ok_ret, ↓ok_bnd, ↓ok_c, ↓ok_op1, ↓ok_op2, ↓ok_nil, ↓ok_cons, ↓ok_tup, ↓ok_lst, ↓ok_call, ↓ok_onone, ↓ok_osome, ↓ok_oint, ↓ok_sl, ↓ok_if2, ↓ok_and, ↓ok_or, ↓ok_not, ↓ok_tru, ↓ok_tbl, ↓ok_asb, ↓ok_tand, ↓ok_tor, ↓ok_tnot, ↓ok_tyes, ↓ok_ml, ↓ok_ms, ↓ok_iof, ↓ok_ienum, ↓ok_irev, ↓ok_irng1, ↓ok_itof_tup, ↓ok_itof_rol, ↓ok_iten_tup, ↓ok_itrev_tup, ↓ok_frng, ↓ok_mk0, ↓ok_mk1, ↓ok_mk2, ↓ok_mk3, ↓ok_mk4, ↓ok_mk5, ↓ok_new0, ↓ok_new1, ↓ok_new2, ↓ok_new3, ↓ok_new4, ↓ok_new5, ↓ok_new6, ↓ok_new7, ↓ok_at0, ↓ok_at1, ↓ok_at2, ↓ok_at3, ↓ok_at4, ↓ok_eq_int, ↓ok_ne_int, ↓ok_eq_bl, ↓ok_ne_bl, ↓ok_eq_lit, ↓ok_ne_lit, ↓ok_lt_int, ↓ok_le_int, ↓ok_gt_int, ↓ok_ge_int, ↓ok_is_non, ↓ok_isnot_non, ↓ok_in_lit2, ↓ok_in_lit3, ↓ok_add_int, ↓ok_sub_int, ↓ok_iadd_int, ↓ok_int_int, ↓ok_int_bl, ↓ok_abs, ↓ok_max, ↓ok_min, ↓ok_len_tup, ↓ok_list_rol, ↓ok_list_tup, ↓isS_str, ↓tru_bl, ↓tru_int, ↓tru_non, ↓tru_tup, ↓ok_var0, ↓sk_set0, ↓tk_name0, ↓sk_aug0, ↓ok_var1, ↓sk_set1, ↓tk_name1, ↓sk_aug1, ↓ok_var2, ↓sk_set2, ↓tk_name2, ↓sk_aug2, ↓ok_var3, ↓sk_set3, ↓tk_name3, ↓sk_aug3, ↓ok_var4, ↓sk_set4, ↓tk_name4, ↓sk_aug4, ↓ok_var5, ↓sk_set5, ↓tk_name5, ↓sk_aug5, ↓ok_var6, ↓sk_set6, ↓tk_name6, ↓sk_aug6, ↓ok_var7, ↓sk_set7, ↓tk_name7, ↓sk_aug7, ↓ok_var8, ↓sk_set8, ↓tk_name8, ↓sk_aug8, ↓ok_var9, ↓sk_set9, ↓tk_name9, ↓sk_aug9, ↓ok_var10, ↓sk_set10, ↓tk_name10, ↓sk_aug10, ↓ok_var11, ↓sk_set11, ↓tk_name11, ↓sk_aug11, ↓ok_var12, ↓sk_set12, ↓tk_name12, ↓sk_aug12, ↓ok_var13, ↓sk_set13, ↓tk_name13, ↓sk_aug13, ↓ok_var14, ↓sk_set14, ↓tk_name14, ↓sk_aug14, ↓ok_var15, ↓sk_set15, ↓tk_name15, ↓sk_aug15, ↓ok_atL0 h1, ↓ok_atL1 h1, ↓ok_atL2 h1, ↓ok_len_ref h2, List.length_map]
  by_cases e : a = 0
  · rw [if_pos (by simp [e])]
    by_cases e2 : i < ns.length
    · rw [if_pos (by simpa using e2)]
      obtain ⟨v, hv, hv2⟩ := atI_lt (xs := ns.map D.int) hi (by simpa using e2)
      have hv' : ∃ z, v = .int z := by
        rw [List.getElem?_map] at hv2
        obtain ⟨z, _, hz⟩ := Option.map_eq_some_iff.mp hv2
        exact ⟨z, hz.symm⟩
      obtain ⟨z, rfl⟩ := hv'
      have g1 : ∀ {x : D}, (G.set s (.lst [.ref l, x, .int i, .int c]))[s]? = some (.lst [.ref l, x, .int i, .int c]) := get_set h1
      simp -implicitDefEqProofs only [↓ok_atL h2 hv, ↓sk_seq, ↓sk_if, ↓sk_nil, ↓sk_break, ↓sk_cont, ↓sk_asg, ↓sk_expr, ↓sk_ret, ↓sk_retn, ↓sk_put, ↓sk_putA, ↓sk_for, ↓sk_while, ↓sk_nx, ↓sk_bk, ↓sk_ct, ↓sk_rt, ↓thn_nx, ↓thn_bk, ↓thn_ct, ↓thn_rt, ↓lpn_nx, ↓lpn_bk, ↓lpn_ct, ↓lpn_rt, ↓rtn_nx, ↓rtn_rt, ↓tk_nil, ↓tk_cons, ↓tk_tup2, ↓tk_tup3, ↓tk_tup4, ↓tk_tup5, ↓ok_some, ↓ok_ret, ↓ok_bnd, ↓ok_c, ↓ok_op1, ↓ok_op2, ↓ok_nil, ↓ok_cons, ↓ok_tup, ↓ok_lst, ↓ok_call, ↓ok_onone, ↓ok_osome, ↓ok_oint, ↓ok_sl, ↓ok_if2, ↓ok_and, ↓ok_or, ↓ok_not, ↓ok_tru, ↓ok_tbl, ↓ok_asb, ↓ok_tand, ↓ok_tor, ↓ok_tnot, ↓ok_tyes, ↓ok_ml, ↓ok_ms, ↓ok_iof, ↓ok_ienum, ↓ok_irev, ↓ok_irng1, ↓ok_itof_tup, ↓ok_itof_rol, ↓ok_iten_tup, ↓ok_itrev_tup, ↓ok_frng, ↓ok_mk0, ↓ok_mk1, ↓ok_mk2, ↓ok_mk3, ↓ok_mk4, ↓ok_mk5, ↓ok_new0, ↓ok_new1, ↓ok_new2, ↓ok_new3, ↓ok_new4, ↓ok_new5, ↓ok_new6, ↓ok_new7, ↓ok_at0, ↓ok_at1, ↓ok_at2, ↓ok_at3, ↓ok_at4, ↓ok_eq_int, ↓ok_ne_int, ↓ok_eq_bl, ↓ok_ne_bl, ↓ok_eq_lit, ↓ok_ne_lit, ↓ok_lt_int, ↓ok_le_int, ↓ok_gt_int, ↓ok_ge_int, ↓ok_is_non, ↓ok_isnot_non, ↓ok_in_lit2, ↓ok_in_lit3, ↓ok_add_int, ↓ok_sub_int, ↓ok_iadd_int, ↓ok_int_int, ↓ok_int_bl, ↓ok_abs, ↓ok_max, ↓ok_min, ↓ok_len_tup, ↓ok_list_rol, ↓ok_list_tup, ↓isS_str, ↓tru_bl, ↓tru_int, ↓tru_non, ↓tru_tup, ↓ok_var0, ↓sk_set0, ↓tk_name0, ↓sk_aug0, ↓ok_var1, ↓sk_set1, ↓tk_name1, ↓sk_aug1, ↓ok_var2, ↓sk_set2, ↓tk_name2, ↓sk_aug2, ↓ok_var3, ↓sk_set3, ↓tk_name3, ↓sk_aug3, ↓ok_var4, ↓sk_set4, ↓tk_name4, ↓sk_aug4, ↓ok_var5, ↓sk_set5, ↓tk_name5, ↓sk_aug5, ↓ok_var6, ↓sk_set6, ↓tk_name6, ↓sk_aug6, ↓ok_var7, ↓sk_set7, ↓tk_name7, ↓sk_aug7, ↓ok_var8, ↓sk_set8, ↓tk_name8, ↓sk_aug8, ↓ok_var9, ↓sk_set9, ↓tk_name9, ↓sk_aug9, ↓ok_var10, ↓sk_set10, ↓tk_name10, ↓sk_aug10, ↓ok_var11, ↓sk_set11, ↓tk_name11, ↓sk_aug11, ↓ok_var12, ↓sk_set12, ↓tk_name12, ↓sk_aug12, ↓ok_var13, ↓sk_set13, ↓tk_name13, ↓sk_aug13, ↓ok_var14, ↓sk_set14, ↓tk_name14, ↓sk_aug14, ↓ok_var15, ↓sk_set15, ↓tk_name15, ↓sk_aug15, ↓ok_putL1 h1, ↓ok_atL2 g1, ↓ok_putL2 g1]
      have st : ∀ {p q r : Int}, 0 ≤ p → 0 ≤ q → 0 ≤ r → StAt (G.set s (.lst [.ref l, .int p, .int q, .int r])) s l := fun x y z => ⟨ne, ns, _, _, _, get_set h1, get_set_ne h2 (Ne.symm ne), x, y, z⟩
      rw [List.set_set]
      exact ⟨trivial, st (by split <;> omega) (by omega) hc, Fr.refl.set (.inr (by simp))⟩
    · rw [if_neg (by simpa using e2)]
      exact ⟨trivial, h0, .refl⟩
  · rw [if_neg (by simp [e])]
    exact ⟨trivial, h0, .refl⟩
end D2
end
section
set_option linter.all false
set_option autoImplicit false
namespace D2
open PySem L2
section
variable {P : D → Hd → Prop} {Z : Fl → Sd → Hd → Prop} {σ : Sd} {G : Hd}
def LcOk (own : List Nat) (g : Tg) (t : T) (e : E) (σ : Sd) (j : ItD) (G1 : Hd) (P : D → Hd → Prop) : Prop :=
  Ok (loopC j g t e (wipeD σ own) G1.length 0 (G1 ++ [.lst []])) fun _ G' => P (.ref G1.length) G'
theorem ok_lc {own : List Nat} {it : IE} {g : Tg} {t : T} {e : E} : Ok (eLc own it g t e σ G) P = Ok (it σ G) fun j G1 => LcOk own g t e σ j G1 P := by
  unfold eLc
  simp only [ok_bnd, ok_ret]
  rfl
theorem lc_go {g : Tg} {t : T} {e : E} {σ0 : Sd} {j : ItD} {d n : Nat} (I : Nat → List D → Hd → Prop) {Q : Unit → Hd → Prop}
    (hl : ∀ i ys G, I i ys G → G[d]? = some (.lst ys))
    (he : ∀ ys G, I n ys G → j n G = some none ∧ Q () G)
    (hs : ∀ i ys G, i < n → I i ys G → ∃ v, j i G = some (some v) ∧ Tk (g v σ0 G) fun σ1 G2 => Ok (t σ1 G2) fun k G3 => if k = true then Ok (e σ1 G3) fun y G4 =>
        G4[d]? = some (.lst ys) ∧ ys.length < sizeLine ∧ I (i + 1) (ys ++ [y]) (G4.set d (.lst (ys ++ [y]))) else I (i + 1) ys G3) :
    ∀ (m i : Nat) (ys : List D) (G : Hd), m + i = n → I i ys G → Ok (loopC j g t e σ0 d i G) Q := by
  intro m
  induction m with
  | zero =>
    intro i ys G em h
    have : i = n := by omega
    subst this
    obtain ⟨e1, h1⟩ := he _ _ h
    rw [loopC, e1]
    exact h1
  | succ m ih =>
    intro i ys G em h
    obtain ⟨v, e1, h1⟩ := hs i ys G (by omega) h
    obtain ⟨σ1, G2, e2, h1⟩ := h1.ex
    obtain ⟨k, G3, e3, h2⟩ := h1.ex
    rw [loopC, e1]
    dsimp only
    rw [e2]
    dsimp only
    rw [e3]
    cases k with
    | false =>
      rw [if_neg Bool.false_ne_true] at h2
      exact ih (i + 1) ys G3 (by omega) h2
    | true =>
      rw [if_pos rfl] at h2
      obtain ⟨y, G4, e4, h3, h4, h5⟩ := h2.ex
      dsimp only
      rw [e4]
      dsimp only
      unfold mlist
      rw [h3]
      dsimp only
      rw [if_pos h4]
      exact ih (i + 1) _ _ (by omega) h5
theorem lc_vals {own : List Nat} {g : Tg} {e : E} {j : ItD} {G1 : Hd} (n : Nat) (W : List Nat) (R : Nat → D → Prop) (J : Hd → Prop)
    (hn : n ≤ sizeLine) (hW : ∀ i ∈ W, i < G1.length) (h0 : J G1) (ha : ∀ o, J G1 → J (G1 ++ [o])) (hJ : ∀ G o, J G → J (G.set G1.length o))
    (end_ : ∀ G, J G → Fr W G1 G → j n G = some none)
    (step : ∀ i G, i < n → J G → Fr W G1 G → ∃ v, j i G = some (some v) ∧ Tk (g v (wipeD σ own) G) fun σ1 G2 => Ok (e σ1 G2) fun y G3 => R i y ∧ J G3 ∧ Fr W G G3)
    (hq : ∀ ys G', ys.length = n → (∀ i y, ys[i]? = some y → R i y) → G'[G1.length]? = some (.lst ys) → J G' → Fr W G1 G' → P (.ref G1.length) G') : LcOk own g tYes e σ j G1 P := by
  have hd : G1.length ∉ W := fun q => by have := hW _ q; omega
  refine lc_go (d := G1.length) (n := n) (I := fun i ys G => i ≤ n ∧ ys.length = i ∧ (∀ i y, ys[i]? = some y → R i y) ∧ G[G1.length]? = some (.lst ys) ∧ J G ∧ Fr W G1 G) (fun i ys G h => h.2.2.2.1) ?_ ?_ n 0 [] _ (by omega) ?_
  · rintro ys G ⟨_, h1, h2, h3, h4, h5⟩
    exact ⟨end_ G h4 h5, hq ys G h1 h2 h3 h4 h5⟩
  · rintro i ys G hi ⟨_, h1, h2, h3, h4, h5⟩
    obtain ⟨v, e1, h6⟩ := step i G hi h4 h5
    refine ⟨v, e1, ?_⟩
    obtain ⟨σ1, G2, e2, h6⟩ := h6.ex
    rw [e2]
    obtain ⟨y, G3, e3, h7, h8, h9⟩ := h6.ex
    show Ok (e σ1 G2) _
    rw [e3]
    refine ⟨h9.at h3 hd, by omega, by omega, by simp [h1], fun k z hz => ?_, get_set (h9.at h3 hd), hJ _ _ h8, (h5.trans h9).set (.inl (Nat.le_refl _))⟩
    by_cases hk : k < ys.length
    · rw [List.getElem?_append_left hk] at hz
      exact h2 k z hz
    · have : k = ys.length := by
        have := (List.getElem?_eq_some_iff.mp hz).1
        rw [List.length_append, List.length_singleton] at this
        omega
      subst this
      rw [List.getElem?_append_right (Nat.le_refl _)] at hz
      simp at hz
      subst hz
      rw [h1]
      exact h7
  · exact ⟨Nat.zero_le _, rfl, fun i y h => by simp at h, get_new, ha _ h0, Fr.refl.app⟩
theorem it_seq {xs : List D} {i : Nat} : jSeq xs i G = some xs[i]? := rfl
theorem it_list {r : Nat} {xs : List D} {i : Nat} (h : G[r]? = some (.lst xs)) : jList r i G = some xs[i]? := by
  unfold jList listOf
  dsimp only
  rw [h]
theorem it_rng {lo : Int} {n i : Nat} (h : i < n) : jRng lo n i G = some (some (.int (lo + (i : Nat)))) := by
  unfold jRng
  rw [if_pos h]
theorem it_rng_end {lo : Int} {n : Nat} : jRng lo n n G = some none := by
  unfold jRng
  rw [if_neg (Nat.lt_irrefl _)]
theorem ok_atAny {r : Nat} {xs : List D} {k : Int} (h : G[r]? = some (.lst xs)) (h0 : 0 ≤ k) (h1 : k < xs.length) (hq : ∀ v ∈ xs, P v G) : Ok (atD (.ref r) (.int k) G) P := by
  obtain ⟨v, e, e2⟩ := atI_lt h0 h1
  rw [ok_atL h e]
  exact hq v (List.mem_of_getElem? e2)
end
def DrawOk (f : Fn) : Prop := ∀ {s l : Nat} {m : Int} {G : Hd} {P : D → Hd → Prop}, StAt G s l → 0 < m ∧ m < 2 ^ 200 →
    (∀ (v : Int) (G' : Hd), 0 ≤ v → v < m → StAt G' s l → Fr [s] G G' → P (.int v) G') → Ok (f [.ref s, .int m] G) P
theorem drawOk : DrawOk (runFn 3 2 g_draw) := fun h hm hq => draw_ok h hm hq
def PickOk (f : Fn) : Prop := ∀ {s l r : Nat} {xs : List D} {G : Hd} {P : D → Hd → Prop}, StAt G s l → G[r]? = some (.lst xs) → r ≠ s → xs ≠ [] → xs.length < 2 ^ 199 →
    (∀ (v : D) (G' : Hd), v ∈ xs → StAt G' s l → Fr [s] G G' → P v G') → Ok (f [.ref s, .ref r] G) P
def g_law_pick (f_law_draw : Fn) : S :=
  (sRet (eOp2 atD (eVar 1) (eCall f_law_draw (aCons (eVar 0) (aCons (eOp1 fLen (eVar 1)) aNil)))))
theorem pickOk {f : Fn} (hd : DrawOk f) : PickOk (runFn 2 2 (g_law_pick f)) := by
  intro s l r xs G P h hr ne hx hl hq
  refine ok_run rfl ?_
  show Sk (g_law_pick f [some (.ref s), some (.ref r)] G) (rtn P)
  unfold g_law_pick
  simp -implicitDefEqProofs only [↓sk_seq, ↓sk_if, ↓sk_nil, ↓sk_break, ↓sk_cont, ↓sk_asg, ↓sk_expr, ↓sk_ret, ↓sk_retn, ↓sk_put, ↓sk_putA, ↓sk_for, ↓sk_while, ↓sk_nx, ↓sk_bk, ↓sk_ct, ↓sk_rt, ↓thn_nx, ↓thn_bk, ↓thn_ct, ↓thn_rt, ↓lpn_nx, ↓lpn_bk, ↓lpn_ct, ↓lpn_rt, ↓rtn_nx, ↓rtn_rt, ↓tk_nil, ↓tk_cons, ↓tk_tup2, ↓tk_tup3, ↓tk_tup4, ↓tk_tup5, ↓ok_some, ↓ok_ret, ↓ok_bnd, ↓ok_c, ↓ok_op1, ↓ok_op2, ↓ok_nil, ↓ok_cons, ↓ok_tup, ↓ok_lst, ↓ok_call, ↓ok_onone, ↓ok_osome, ↓ok_oint, ↓ok_sl, ↓ok_if2, ↓ok_and, ↓ok_or, ↓ok_not, ↓ok_tru, ↓ok_tbl, ↓ok_asb, ↓ok_tand, ↓ok_tor, ↓ok_tnot, ↓ok_tyes, ↓ok_ml, ↓ok_ms, ↓ok_iof, ↓ok_ienum, ↓ok_irev, ↓ok_irng1, ↓ok_itof_tup, ↓ok_itof_rol, ↓ok_iten_tup, ↓ok_itrev_tup, ↓ok_frng, ↓ok_mk0, ↓ok_mk1, ↓ok_mk2, ↓ok_mk3, ↓ok_mk4, ↓ok_mk5, ↓ok_new0, ↓ok_new1, ↓ok_new2, ↓ok_new3, ↓ok_new4, ↓ok_new5, ↓ok_new6, ↓ok_new7, ↓ok_at0, ↓ok_at1, ↓ok_at2, ↓ok_at3, ↓ok_at4, ↓ok_eq_int, ↓ok_ne_int, ↓ok_eq_bl, ↓ok_ne_bl, ↓ok_eq_lit, ↓ok_ne_lit, ↓ok_lt_int, ↓ok_le_int, ↓ok_gt_int, ↓ok_ge_int, ↓ok_is_non, ↓ok_isnot_non, ↓ok_in_lit2, ↓ok_in_lit3, ↓ok_add_int, ↓ok_sub_int, ↓ok_iadd_int, ↓ok_int_int, ↓ok_int_bl, ↓ok_abs, ↓ok_max, ↓ok_min, ↓ok_len_tup, ↓ok_list_rol, ↓ok_list_tup, ↓isS_str, ↓tru_bl, ↓tru_int, ↓tru_non, ↓tru_tup, ↓ok_lc, ↓ok_var0, ↓sk_set0, ↓tk_name0, ↓sk_aug0, ↓ok_var1, ↓sk_set1, ↓tk_name1, ↓sk_aug1, ↓ok_var2, ↓sk_set2, ↓tk_name2, ↓sk_aug2, ↓ok_var3, ↓sk_set3, ↓tk_name3, ↓sk_aug3, ↓ok_var4, ↓sk_set4, ↓tk_name4, ↓sk_aug4, ↓ok_var5, ↓sk_set5, ↓tk_name5, ↓sk_aug5, ↓ok_var6, ↓sk_set6, ↓tk_name6, ↓sk_aug6, ↓ok_var7, ↓sk_set7, ↓tk_name7, ↓sk_aug7, ↓ok_var8, ↓sk_set8, ↓tk_name8, ↓sk_aug8, ↓ok_var9, ↓sk_set9, ↓tk_name9, ↓sk_aug9, ↓ok_var10, ↓sk_set10, ↓tk_name10, ↓sk_aug10, ↓ok_var11, ↓sk_set11, ↓tk_name11, ↓sk_aug11, ↓ok_var12, ↓sk_set12, ↓tk_name12, ↓sk_aug12, ↓ok_var13, ↓sk_set13, ↓tk_name13, ↓sk_aug13, ↓ok_var14, ↓sk_set14, ↓tk_name14, ↓sk_aug14, ↓ok_var15, ↓sk_set15, ↓tk_name15, ↓sk_aug15, ↓ok_len_ref hr]
  have : 0 < xs.length := List.length_pos_iff.mpr hx
  refine hd h ⟨by omega, by omega⟩ fun v G1 h0 h1 h2 f1 => ?_
  exact ok_atAny (f1.at hr (by simpa using ne)) h0 h1 fun v hv => hq v G1 hv h2 f1
end D2
end
section
set_option linter.all false
set_option autoImplicit false
namespace D2
open PySem L2
theorem mirs : type_of% (And.intro @sk_seq (And.intro @sk_if (And.intro @sk_nil (And.intro @sk_break (And.intro @sk_cont (And.intro @sk_asg (And.intro @sk_expr (And.intro @sk_ret (And.intro @sk_retn (And.intro @sk_put (And.intro @sk_putA (And.intro @sk_for (And.intro @sk_while (And.intro @sk_nx (And.intro @sk_bk (And.intro @sk_ct (And.intro @sk_rt (And.intro @thn_nx (And.intro @thn_bk (And.intro @thn_ct (And.intro @thn_rt (And.intro @lpn_nx (And.intro @lpn_bk (And.intro @lpn_ct (And.intro @lpn_rt (And.intro @rtn_nx (And.intro @rtn_rt (And.intro @tk_nil (And.intro @tk_cons (And.intro @tk_tup2 (And.intro @tk_tup3 (And.intro @tk_tup4 (And.intro @tk_tup5 (And.intro @ok_some (And.intro @ok_ret (And.intro @ok_bnd (And.intro @ok_c (And.intro @ok_op1 (And.intro @ok_op2 (And.intro @ok_nil (And.intro @ok_cons (And.intro @ok_tup (And.intro @ok_lst (And.intro @ok_call (And.intro @ok_onone (And.intro @ok_osome (And.intro @ok_oint (And.intro @ok_sl (And.intro @ok_if2 (And.intro @ok_and (And.intro @ok_or (And.intro @ok_not (And.intro @ok_tru (And.intro @ok_tbl (And.intro @ok_asb (And.intro @ok_tand (And.intro @ok_tor (And.intro @ok_tnot (And.intro @ok_tyes (And.intro @ok_ml (And.intro @ok_ms (And.intro @ok_iof (And.intro @ok_ienum (And.intro @ok_irev (And.intro @ok_irng1 (And.intro @ok_itof_tup (And.intro @ok_itof_rol (And.intro @ok_iten_tup (And.intro @ok_itrev_tup (And.intro @ok_frng (And.intro @ok_mk0 (And.intro @ok_mk1 (And.intro @ok_mk2 (And.intro @ok_mk3 (And.intro @ok_mk4 (And.intro @ok_mk5 (And.intro @ok_new0 (And.intro @ok_new1 (And.intro @ok_new2 (And.intro @ok_new3 (And.intro @ok_new4 (And.intro @ok_new5 (And.intro @ok_new6 (And.intro @ok_new7 (And.intro @ok_at0 (And.intro @ok_at1 (And.intro @ok_at2 (And.intro @ok_at3 (And.intro @ok_at4 (And.intro @ok_eq_int (And.intro @ok_ne_int (And.intro @ok_eq_bl (And.intro @ok_ne_bl (And.intro @ok_eq_lit (And.intro @ok_ne_lit (And.intro @ok_lt_int (And.intro @ok_le_int (And.intro @ok_gt_int (And.intro @ok_ge_int (And.intro @ok_is_non (And.intro @ok_isnot_non (And.intro @ok_in_lit2 (And.intro @ok_in_lit3 (And.intro @ok_add_int (And.intro @ok_sub_int (And.intro @ok_iadd_int (And.intro @ok_int_int (And.intro @ok_int_bl (And.intro @ok_abs (And.intro @ok_max (And.intro @ok_min (And.intro @ok_len_tup (And.intro @ok_list_rol (And.intro @ok_list_tup (And.intro @isS_str (And.intro @tru_bl (And.intro @tru_int (And.intro @tru_non (And.intro @tru_tup (And.intro @ok_lc (And.intro @ok_var0 (And.intro @sk_set0 (And.intro @tk_name0 (And.intro @sk_aug0 (And.intro @ok_var1 (And.intro @sk_set1 (And.intro @tk_name1 (And.intro @sk_aug1 (And.intro @ok_var2 (And.intro @sk_set2 (And.intro @tk_name2 (And.intro @sk_aug2 (And.intro @ok_var3 (And.intro @sk_set3 (And.intro @tk_name3 (And.intro @sk_aug3 (And.intro @ok_var4 (And.intro @sk_set4 (And.intro @tk_name4 (And.intro @sk_aug4 (And.intro @ok_var5 (And.intro @sk_set5 (And.intro @tk_name5 (And.intro @sk_aug5 (And.intro @ok_var6 (And.intro @sk_set6 (And.intro @tk_name6 (And.intro @sk_aug6 (And.intro @ok_var7 (And.intro @sk_set7 (And.intro @tk_name7 (And.intro @sk_aug7 (And.intro @ok_var8 (And.intro @sk_set8 (And.intro @tk_name8 (And.intro @sk_aug8 (And.intro @ok_var9 (And.intro @sk_set9 (And.intro @tk_name9 (And.intro @sk_aug9 (And.intro @ok_var10 (And.intro @sk_set10 (And.intro @tk_name10 (And.intro @sk_aug10 (And.intro @ok_var11 (And.intro @sk_set11 (And.intro @tk_name11 (And.intro @sk_aug11 (And.intro @ok_var12 (And.intro @sk_set12 (And.intro @tk_name12 (And.intro @sk_aug12 (And.intro @ok_var13 (And.intro @sk_set13 (And.intro @tk_name13 (And.intro @sk_aug13 (And.intro @ok_var14 (And.intro @sk_set14 (And.intro @tk_name14 (And.intro @sk_aug14 (And.intro @ok_var15 (And.intro @sk_set15 (And.intro @tk_name15 (@sk_aug15)))))))))))))))))))))))))))))))))))))))))))))))))))))))))))))))))))))))))))))))))))))))))))))))))))))))))))))))))))))))))))))))))))))))))))))))))))))))))))))))))))))))))))))))))))))))) := And.intro @sk_seq (And.intro @sk_if (And.intro @sk_nil (And.intro @sk_break (And.intro @sk_cont (And.intro @sk_asg (And.intro @sk_expr (And.intro @sk_ret (And.intro @sk_retn (And.intro @sk_put (And.intro @sk_putA (And.intro @sk_for (And.intro @sk_while (And.intro @sk_nx (And.intro @sk_bk (And.intro @sk_ct (And.intro @sk_rt (And.intro @thn_nx (And.intro @thn_bk (And.intro @thn_ct (And.intro @thn_rt (And.intro @lpn_nx (And.intro @lpn_bk (And.intro @lpn_ct (And.intro @lpn_rt (And.intro @rtn_nx (And.intro @rtn_rt (And.intro @tk_nil (And.intro @tk_cons (And.intro @tk_tup2 (And.intro @tk_tup3 (And.intro @tk_tup4 (And.intro @tk_tup5 (And.intro @ok_some (And.intro @ok_ret (And.intro @ok_bnd (And.intro @ok_c (And.intro @ok_op1 (And.intro @ok_op2 (And.intro @ok_nil (And.intro @ok_cons (And.intro @ok_tup (And.intro @ok_lst (And.intro @ok_call (And.intro @ok_onone (And.intro @ok_osome (And.intro @ok_oint (And.intro @ok_sl (And.intro @ok_if2 (And.intro @ok_and (And.intro @ok_or (And.intro @ok_not (And.intro @ok_tru (And.intro @ok_tbl (And.intro @ok_asb (And.intro @ok_tand (And.intro @ok_tor (And.intro @ok_tnot (And.intro @ok_tyes (And.intro @ok_ml (And.intro @ok_ms (And.intro @ok_iof (And.intro @ok_ienum (And.intro @ok_irev (And.intro @ok_irng1 (And.intro @ok_itof_tup (And.intro @ok_itof_rol (And.intro @ok_iten_tup (And.intro @ok_itrev_tup (And.intro @ok_frng (And.intro @ok_mk0 (And.intro @ok_mk1 (And.intro @ok_mk2 (And.intro @ok_mk3 (And.intro @ok_mk4 (And.intro @ok_mk5 (And.intro @ok_new0 (And.intro @ok_new1 (And.intro @ok_new2 (And.intro @ok_new3 (And.intro @ok_new4 (And.intro @ok_new5 (And.intro @ok_new6 (And.intro @ok_new7 (And.intro @ok_at0 (And.intro @ok_at1 (And.intro @ok_at2 (And.intro @ok_at3 (And.intro @ok_at4 (And.intro @ok_eq_int (And.intro @ok_ne_int (And.intro @ok_eq_bl (And.intro @ok_ne_bl (And.intro @ok_eq_lit (And.intro @ok_ne_lit (And.intro @ok_lt_int (And.intro @ok_le_int (And.intro @ok_gt_int (And.intro @ok_ge_int (And.intro @ok_is_non (And.intro @ok_isnot_non (And.intro @ok_in_lit2 (And.intro @ok_in_lit3 (And.intro @ok_add_int (And.intro @ok_sub_int (And.intro @ok_iadd_int (And.intro @ok_int_int (And.intro @ok_int_bl (And.intro @ok_abs (And.intro @ok_max (And.intro @ok_min (And.intro @ok_len_tup (And.intro @ok_list_rol (And.intro @ok_list_tup (And.intro @isS_str (And.intro @tru_bl (And.intro @tru_int (And.intro @tru_non (And.intro @tru_tup (And.intro @ok_lc (And.intro @ok_var0 (And.intro @sk_set0 (And.intro @tk_name0 (And.intro @sk_aug0 (And.intro @ok_var1 (And.intro @sk_set1 (And.intro @tk_name1 (And.intro @sk_aug1 (And.intro @ok_var2 (And.intro @sk_set2 (And.intro @tk_name2 (And.intro @sk_aug2 (And.intro @ok_var3 (And.intro @sk_set3 (And.intro @tk_name3 (And.intro @sk_aug3 (And.intro @ok_var4 (And.intro @sk_set4 (And.intro @tk_name4 (And.intro @sk_aug4 (And.intro @ok_var5 (And.intro @sk_set5 (And.intro @tk_name5 (And.intro @sk_aug5 (And.intro @ok_var6 (And.intro @sk_set6 (And.intro @tk_name6 (And.intro @sk_aug6 (And.intro @ok_var7 (And.intro @sk_set7 (And.intro @tk_name7 (And.intro @sk_aug7 (And.intro @ok_var8 (And.intro @sk_set8 (And.intro @tk_name8 (And.intro @sk_aug8 (And.intro @ok_var9 (And.intro @sk_set9 (And.intro @tk_name9 (And.intro @sk_aug9 (And.intro @ok_var10 (And.intro @sk_set10 (And.intro @tk_name10 (And.intro @sk_aug10 (And.intro @ok_var11 (And.intro @sk_set11 (And.intro @tk_name11 (And.intro @sk_aug11 (And.intro @ok_var12 (And.intro @sk_set12 (And.intro @tk_name12 (And.intro @sk_aug12 (And.intro @ok_var13 (And.intro @sk_set13 (And.intro @tk_name13 (And.intro @sk_aug13 (And.intro @ok_var14 (And.intro @sk_set14 (And.intro @tk_name14 (And.intro @sk_aug14 (And.intro @ok_var15 (And.intro @sk_set15 (And.intro @tk_name15 (@sk_aug15)))))))))))))))))))))))))))))))))))))))))))))))))))))))))))))))))))))))))))))))))))))))))))))))))))))))))))))))))))))))))))))))))))))))))))))))))))))))))))))))))))))))))))))))))))))))
theorem minrs : type_of% (And.intro @sk_seq (And.intro @sk_nil (And.intro @sk_break (And.intro @sk_cont (And.intro @sk_asg (And.intro @sk_expr (And.intro @sk_ret (And.intro @sk_retn (And.intro @sk_put (And.intro @sk_putA (And.intro @sk_for (And.intro @sk_while (And.intro @sk_nx (And.intro @sk_bk (And.intro @sk_ct (And.intro @sk_rt (And.intro @thn_nx (And.intro @thn_bk (And.intro @thn_ct (And.intro @thn_rt (And.intro @lpn_nx (And.intro @lpn_bk (And.intro @lpn_ct (And.intro @lpn_rt (And.intro @rtn_nx (And.intro @rtn_rt (And.intro @tk_nil (And.intro @tk_cons (And.intro @tk_tup2 (And.intro @tk_tup3 (And.intro @tk_tup4 (And.intro @tk_tup5 (And.intro @ok_some (And.intro @ok_ret (And.intro @ok_bnd (And.intro @ok_c (And.intro @ok_op1 (And.intro @ok_op2 (And.intro @ok_nil (And.intro @ok_cons (And.intro @ok_tup (And.intro @ok_lst (And.intro @ok_call (And.intro @ok_onone (And.intro @ok_osome (And.intro @ok_oint (And.intro @ok_sl (And.intro @ok_and (And.intro @ok_or (And.intro @ok_not (And.intro @ok_tru (And.intro @ok_tbl (And.intro @ok_asb (And.intro @ok_tand (And.intro @ok_tor (And.intro @ok_tnot (And.intro @ok_tyes (And.intro @ok_ml (And.intro @ok_ms (And.intro @ok_iof (And.intro @ok_ienum (And.intro @ok_irev (And.intro @ok_irng1 (And.intro @ok_itof_tup (And.intro @ok_itof_rol (And.intro @ok_iten_tup (And.intro @ok_itrev_tup (And.intro @ok_frng (And.intro @ok_mk0 (And.intro @ok_mk1 (And.intro @ok_mk2 (And.intro @ok_mk3 (And.intro @ok_mk4 (And.intro @ok_mk5 (And.intro @ok_new0 (And.intro @ok_new1 (And.intro @ok_new2 (And.intro @ok_new3 (And.intro @ok_new4 (And.intro @ok_new5 (And.intro @ok_new6 (And.intro @ok_new7 (And.intro @ok_at0 (And.intro @ok_at1 (And.intro @ok_at2 (And.intro @ok_at3 (And.intro @ok_at4 (And.intro @ok_eq_int (And.intro @ok_ne_int (And.intro @ok_eq_bl (And.intro @ok_ne_bl (And.intro @ok_eq_lit (And.intro @ok_ne_lit (And.intro @ok_lt_int (And.intro @ok_le_int (And.intro @ok_gt_int (And.intro @ok_ge_int (And.intro @ok_is_non (And.intro @ok_isnot_non (And.intro @ok_in_lit2 (And.intro @ok_in_lit3 (And.intro @ok_add_int (And.intro @ok_sub_int (And.intro @ok_iadd_int (And.intro @ok_int_int (And.intro @ok_int_bl (And.intro @ok_abs (And.intro @ok_max (And.intro @ok_min (And.intro @ok_len_tup (And.intro @ok_list_rol (And.intro @ok_list_tup (And.intro @isS_str (And.intro @tru_bl (And.intro @tru_int (And.intro @tru_non (And.intro @tru_tup (And.intro @ok_lc (And.intro @ok_var0 (And.intro @sk_set0 (And.intro @tk_name0 (And.intro @sk_aug0 (And.intro @ok_var1 (And.intro @sk_set1 (And.intro @tk_name1 (And.intro @sk_aug1 (And.intro @ok_var2 (And.intro @sk_set2 (And.intro @tk_name2 (And.intro @sk_aug2 (And.intro @ok_var3 (And.intro @sk_set3 (And.intro @tk_name3 (And.intro @sk_aug3 (And.intro @ok_var4 (And.intro @sk_set4 (And.intro @tk_name4 (And.intro @sk_aug4 (And.intro @ok_var5 (And.intro @sk_set5 (And.intro @tk_name5 (And.intro @sk_aug5 (And.intro @ok_var6 (And.intro @sk_set6 (And.intro @tk_name6 (And.intro @sk_aug6 (And.intro @ok_var7 (And.intro @sk_set7 (And.intro @tk_name7 (And.intro @sk_aug7 (And.intro @ok_var8 (And.intro @sk_set8 (And.intro @tk_name8 (And.intro @sk_aug8 (And.intro @ok_var9 (And.intro @sk_set9 (And.intro @tk_name9 (And.intro @sk_aug9 (And.intro @ok_var10 (And.intro @sk_set10 (And.intro @tk_name10 (And.intro @sk_aug10 (And.intro @ok_var11 (And.intro @sk_set11 (And.intro @tk_name11 (And.intro @sk_aug11 (And.intro @ok_var12 (And.intro @sk_set12 (And.intro @tk_name12 (And.intro @sk_aug12 (And.intro @ok_var13 (And.intro @sk_set13 (And.intro @tk_name13 (And.intro @sk_aug13 (And.intro @ok_var14 (And.intro @sk_set14 (And.intro @tk_name14 (And.intro @sk_aug14 (And.intro @ok_var15 (And.intro @sk_set15 (And.intro @tk_name15 (@sk_aug15)))))))))))))))))))))))))))))))))))))))))))))))))))))))))))))))))))))))))))))))))))))))))))))))))))))))))))))))))))))))))))))))))))))))))))))))))))))))))))))))))))))))))))))))))))))) := And.intro @sk_seq (And.intro @sk_nil (And.intro @sk_break (And.intro @sk_cont (And.intro @sk_asg (And.intro @sk_expr (And.intro @sk_ret (And.intro @sk_retn (And.intro @sk_put (And.intro @sk_putA (And.intro @sk_for (And.intro @sk_while (And.intro @sk_nx (And.intro @sk_bk (And.intro @sk_ct (And.intro @sk_rt (And.intro @thn_nx (And.intro @thn_bk (And.intro @thn_ct (And.intro @thn_rt (And.intro @lpn_nx (And.intro @lpn_bk (And.intro @lpn_ct (And.intro @lpn_rt (And.intro @rtn_nx (And.intro @rtn_rt (And.intro @tk_nil (And.intro @tk_cons (And.intro @tk_tup2 (And.intro @tk_tup3 (And.intro @tk_tup4 (And.intro @tk_tup5 (And.intro @ok_some (And.intro @ok_ret (And.intro @ok_bnd (And.intro @ok_c (And.intro @ok_op1 (And.intro @ok_op2 (And.intro @ok_nil (And.intro @ok_cons (And.intro @ok_tup (And.intro @ok_lst (And.intro @ok_call (And.intro @ok_onone (And.intro @ok_osome (And.intro @ok_oint (And.intro @ok_sl (And.intro @ok_and (And.intro @ok_or (And.intro @ok_not (And.intro @ok_tru (And.intro @ok_tbl (And.intro @ok_asb (And.intro @ok_tand (And.intro @ok_tor (And.intro @ok_tnot (And.intro @ok_tyes (And.intro @ok_ml (And.intro @ok_ms (And.intro @ok_iof (And.intro @ok_ienum (And.intro @ok_irev (And.intro @ok_irng1 (And.intro @ok_itof_tup (And.intro @ok_itof_rol (And.intro @ok_iten_tup (And.intro @ok_itrev_tup (And.intro @ok_frng (And.intro @ok_mk0 (And.intro @ok_mk1 (And.intro @ok_mk2 (And.intro @ok_mk3 (And.intro @ok_mk4 (And.intro @ok_mk5 (And.intro @ok_new0 (And.intro @ok_new1 (And.intro @ok_new2 (And.intro @ok_new3 (And.intro @ok_new4 (And.intro @ok_new5 (And.intro @ok_new6 (And.intro @ok_new7 (And.intro @ok_at0 (And.intro @ok_at1 (And.intro @ok_at2 (And.intro @ok_at3 (And.intro @ok_at4 (And.intro @ok_eq_int (And.intro @ok_ne_int (And.intro @ok_eq_bl (And.intro @ok_ne_bl (And.intro @ok_eq_lit (And.intro @ok_ne_lit (And.intro @ok_lt_int (And.intro @ok_le_int (And.intro @ok_gt_int (And.intro @ok_ge_int (And.intro @ok_is_non (And.intro @ok_isnot_non (And.intro @ok_in_lit2 (And.intro @ok_in_lit3 (And.intro @ok_add_int (And.intro @ok_sub_int (And.intro @ok_iadd_int (And.intro @ok_int_int (And.intro @ok_int_bl (And.intro @ok_abs (And.intro @ok_max (And.intro @ok_min (And.intro @ok_len_tup (And.intro @ok_list_rol (And.intro @ok_list_tup (And.intro @isS_str (And.intro @tru_bl (And.intro @tru_int (And.intro @tru_non (And.intro @tru_tup (And.intro @ok_lc (And.intro @ok_var0 (And.intro @sk_set0 (And.intro @tk_name0 (And.intro @sk_aug0 (And.intro @ok_var1 (And.intro @sk_set1 (And.intro @tk_name1 (And.intro @sk_aug1 (And.intro @ok_var2 (And.intro @sk_set2 (And.intro @tk_name2 (And.intro @sk_aug2 (And.intro @ok_var3 (And.intro @sk_set3 (And.intro @tk_name3 (And.intro @sk_aug3 (And.intro @ok_var4 (And.intro @sk_set4 (And.intro @tk_name4 (And.intro @sk_aug4 (And.intro @ok_var5 (And.intro @sk_set5 (And.intro @tk_name5 (And.intro @sk_aug5 (And.intro @ok_var6 (And.intro @sk_set6 (And.intro @tk_name6 (And.intro @sk_aug6 (And.intro @ok_var7 (And.intro @sk_set7 (And.intro @tk_name7 (And.intro @sk_aug7 (And.intro @ok_var8 (And.intro @sk_set8 (And.intro @tk_name8 (And.intro @sk_aug8 (And.intro @ok_var9 (And.intro @sk_set9 (And.intro @tk_name9 (And.intro @sk_aug9 (And.intro @ok_var10 (And.intro @sk_set10 (And.intro @tk_name10 (And.intro @sk_aug10 (And.intro @ok_var11 (And.intro @sk_set11 (And.intro @tk_name11 (And.intro @sk_aug11 (And.intro @ok_var12 (And.intro @sk_set12 (And.intro @tk_name12 (And.intro @sk_aug12 (And.intro @ok_var13 (And.intro @sk_set13 (And.intro @tk_name13 (And.intro @sk_aug13 (And.intro @ok_var14 (And.intro @sk_set14 (And.intro @tk_name14 (And.intro @sk_aug14 (And.intro @ok_var15 (And.intro @sk_set15 (And.intro @tk_name15 (@sk_aug15)))))))))))))))))))))))))))))))))))))))))))))))))))))))))))))))))))))))))))))))))))))))))))))))))))))))))))))))))))))))))))))))))))))))))))))))))))))))))))))))))))))))))))))))))))))
end D2
end
section
set_option linter.all false
set_option autoImplicit false
namespace D2
open PySem L2
abbrev sl (s : String) : D := .str (Str.ofString s)
inductive Kd where
  | int | text | bool
  deriving DecidableEq
def Kd.s : Kd → String
  | .int => "int"
  | .text => "text"
  | .bool => "bool"
mutual
inductive Ty2 where
  | leaf (k : Kd) | rcd (f : Fs) | lst (t : Ty2) | opt (t : Ty2)
inductive Fs where
  | nil | cons (n : String) (t : Ty2) (r : Fs)
end
mutual
def Ty2.enc : Ty2 → D
  | .leaf k => .tup [sl k.s]
  | .rcd f => .tup [sl "rec", .tup f.enc]
  | .lst t => .tup [sl "list", t.enc]
  | .opt t => .tup [sl "opt", t.enc]
def Fs.enc : Fs → List D
  | .nil => []
  | .cons n t r => .tup [sl n, t.enc] :: r.enc
end
mutual
def Ty2.dep : Ty2 → Nat
  | .leaf _ => 1
  | .rcd f => f.dep + 1
  | .lst t => t.dep + 1
  | .opt t => t.dep + 1
def Fs.dep : Fs → Nat
  | .nil => 0
  | .cons _ t r => max t.dep r.dep
end
def Fs.names : Fs → List String
  | .nil => []
  | .cons n _ r => n :: r.names
mutual
def Ty2.good : Ty2 → Prop
  | .leaf _ => True
  | .rcd f => f.good ∧ f.names.Nodup ∧ f.names.length ≤ 4 ∧ f.names ≠ []
  | .lst t => t.good
  | .opt t => t.good
def Fs.good : Fs → Prop
  | .nil => True
  | .cons _ t r => t.good ∧ r.good
end
def Fs.of : List (String × Ty2) → Fs
  | [] => .nil
  | p :: r => .cons p.1 p.2 (Fs.of r)
theorem Fs.of_enc : ∀ l : List (String × Ty2), (Fs.of l).enc = l.map fun p => D.tup [sl p.1, p.2.enc]
  | [] => rfl
  | p :: r => by rw [Fs.of, Fs.enc, Fs.of_enc r, List.map_cons]
theorem Fs.of_names : ∀ l : List (String × Ty2), (Fs.of l).names = l.map (·.1)
  | [] => rfl
  | p :: r => by rw [Fs.of, Fs.names, Fs.of_names r, List.map_cons]
theorem Fs.of_dep {n : Nat} : ∀ l : List (String × Ty2), (∀ p ∈ l, p.2.dep ≤ n) → (Fs.of l).dep ≤ n
  | [], _ => Nat.zero_le _
  | p :: r, h => Nat.max_le.mpr ⟨h p (List.mem_cons_self ..), Fs.of_dep r fun q hq => h q (List.mem_cons_of_mem _ hq)⟩
theorem Fs.length_enc : ∀ f : Fs, f.enc.length = f.names.length
  | .nil => rfl
  | .cons n t r => by rw [Fs.enc, Fs.names, List.length_cons, List.length_cons, Fs.length_enc r]
def TxOk (x : Str) : Prop := PyData.strOk x = true ∧ x.length ≤ 1000
def Kd.has : Kd → D → Prop
  | .int, d => ∃ i : Int, d = .int i
  | .text, d => ∃ x : Str, d = .str x ∧ TxOk x
  | .bool, d => ∃ b : Bool, d = .bl b
mutual
def Ty2.has : Ty2 → D → Prop
  | .leaf k, d => k.has d
  | .rcd f, d => ∃ vs : List D, d = .tup vs ∧ f.has vs
  | .lst t, d => ∃ vs : List D, d = .tup vs ∧ vs.length ≤ 4 ∧ ∀ v ∈ vs, t.has v
  | .opt t, d => d = .non ∨ t.has d
def Fs.has : Fs → List D → Prop
  | .nil, vs => vs = []
  | .cons _ t r, vs => ∃ (v : D) (ws : List D), vs = v :: ws ∧ t.has v ∧ r.has ws
end
theorem strOk_app {a b : Str} (ha : PyData.strOk a = true) (hb : PyData.strOk b = true) : PyData.strOk (a ++ b) = true := by
  unfold PyData.strOk at *
  show (a.cps ++ b.cps).all _ = true
  rw [Array.all_append, ha, hb]
  rfl
end D2
end
section
set_option linter.all false
set_option autoImplicit false
namespace D2
open PySem L2
end D2
end
section
set_option linter.all false
set_option autoImplicit false
namespace D2
open PySem L2
structure Lf where
  path : List String
  steps : List String
  kd : Kd
def Lf.enc (x : Lf) : D := .tup [.tup (x.path.map sl), .tup (x.steps.map sl), sl x.kd.s]
mutual
def Ty2.lvs : Ty2 → List String → List String → List Lf
  | .leaf k, p, s => [⟨p, s, k⟩]
  | .rcd f, p, s => f.lvs p s
  | .lst t, p, s => t.lvs p (s ++ ["list"])
  | .opt t, p, s => t.lvs p (s ++ ["opt"])
def Fs.lvs : Fs → List String → List String → List Lf
  | .nil, _, _ => []
  | .cons n t r, p, s => t.lvs (p ++ [n]) s ++ r.lvs p s
end
mutual
def Ty2.nl : Ty2 → Nat
  | .leaf _ => 1
  | .rcd f => f.nl
  | .lst t => t.nl
  | .opt t => t.nl
def Fs.nl : Fs → Nat
  | .nil => 0
  | .cons _ t r => t.nl + r.nl
end
mutual
theorem Ty2.lvs_length : ∀ (t : Ty2) (p s : List String), (t.lvs p s).length = t.nl
  | .leaf _, _, _ => rfl
  | .rcd f, p, s => by rw [Ty2.lvs, Ty2.nl]; exact Fs.lvs_length f p s
  | .lst t, p, s => by rw [Ty2.lvs, Ty2.nl]; exact Ty2.lvs_length t _ _
  | .opt t, p, s => by rw [Ty2.lvs, Ty2.nl]; exact Ty2.lvs_length t _ _
theorem Fs.lvs_length : ∀ (f : Fs) (p s : List String), (f.lvs p s).length = f.nl
  | .nil, _, _ => rfl
  | .cons _ t r, p, s => by rw [Fs.lvs, Fs.nl, List.length_append, Ty2.lvs_length t, Fs.lvs_length r]
end
def Fs.l : Fs → List (String × Ty2)
  | .nil => []
  | .cons n t r => (n, t) :: r.l
theorem Fs.enc_l : ∀ f : Fs, f.enc = f.l.map fun p => D.tup [sl p.1, p.2.enc]
  | .nil => rfl
  | .cons n t r => by rw [Fs.enc, Fs.l, List.map_cons, Fs.enc_l r]
theorem Fs.names_l : ∀ f : Fs, f.names = f.l.map (·.1)
  | .nil => rfl
  | .cons n t r => by rw [Fs.names, Fs.l, List.map_cons, Fs.names_l r]
theorem Fs.nl_l : ∀ f : Fs, f.nl = (f.l.map fun q => q.2.nl).sum
  | .nil => rfl
  | .cons n t r => by rw [Fs.nl, Fs.l, List.map_cons, List.sum_cons, Fs.nl_l r]
theorem Fs.mem_dep : ∀ {f : Fs} {q : String × Ty2}, q ∈ f.l → q.2.dep ≤ f.dep
  | .nil, _, h => by simp [Fs.l] at h
  | .cons n t r, q, h => by
    rw [Fs.l] at h
    rw [Fs.dep]
    rcases List.mem_cons.mp h with rfl | h
    · exact Nat.le_max_left ..
    · exact Nat.le_trans (Fs.mem_dep h) (Nat.le_max_right ..)
theorem Ty2.dep_pos : ∀ t : Ty2, 1 ≤ t.dep
  | .leaf _ => Nat.le_refl _
  | .rcd _ => Nat.le_add_left ..
  | .lst _ => Nat.le_add_left ..
  | .opt _ => Nat.le_add_left ..
mutual
theorem Ty2.nl_le : ∀ t : Ty2, t.good → t.nl ≤ 4 ^ (t.dep - 1)
  | .leaf _, _ => Nat.le_refl _
  | .rcd f, g => by
    rw [Ty2.nl, Ty2.dep, Nat.add_sub_cancel]
    have h1 := Fs.nl_le f f.dep (Nat.le_refl _) g.1
    have h2 : f.names.length ≤ 4 := g.2.2.1
    have h3 : f.names.length * 4 ^ (f.dep - 1) ≤ 4 * 4 ^ (f.dep - 1) := Nat.mul_le_mul_right _ h2
    have h4 : 1 ≤ f.dep := by
      cases f with
      | nil => exact absurd rfl g.2.2.2
      | cons n t r => rw [Fs.dep]; have := t.dep_pos; omega
    have h5 : 4 * 4 ^ (f.dep - 1) = 4 ^ f.dep := by
      rw [Nat.mul_comm, ← Nat.pow_succ]
      congr 1
      omega
    omega
  | .lst t, g => by
    rw [Ty2.nl, Ty2.dep]
    exact Nat.le_trans (Ty2.nl_le t g) (Nat.pow_le_pow_right (by decide) (by omega))
  | .opt t, g => by
    rw [Ty2.nl, Ty2.dep]
    exact Nat.le_trans (Ty2.nl_le t g) (Nat.pow_le_pow_right (by decide) (by omega))
theorem Fs.nl_le : ∀ (f : Fs) (n : Nat), f.dep ≤ n → f.good → f.nl ≤ f.names.length * 4 ^ (n - 1)
  | .nil, _, _, _ => Nat.zero_le _
  | .cons _ t r, n, h, g => by
    rw [Fs.dep] at h
    have h1 := Ty2.nl_le t g.1
    have h2 := Fs.nl_le r n (by omega) g.2
    have h3 : 4 ^ (t.dep - 1) ≤ 4 ^ (n - 1) := Nat.pow_le_pow_right (by decide) (by omega)
    rw [Fs.nl, Fs.names, List.length_cons, Nat.add_mul, Nat.one_mul]
    omega
end
end D2
end
section
set_option linter.all false
set_option autoImplicit false
namespace D2
open PySem L2
end D2
end
section
set_option linter.all false
set_option autoImplicit false
set_option maxRecDepth 100000
namespace D2
open PySem L2
abbrev ent (a b : Int) (v : D) : D := .tup [.int a, .int b, v]
mutual
def Ty2.ents : Ty2 → Nat → D → Int → Int → Int → List D
  | .leaf _, _, v, a, b, _ => [ent a b v]
  | .rcd f, c, v, a, b, s => match v with
    | .tup vs => f.ents c vs a b s
    | _ => []
  | .opt t, c, v, a, b, s => if isNon v = true then [ent a b .non] else t.ents c v a (b + 1) s
  | .lst t, c, v, a, b, s => match v with
    | .tup vs => if vs.isEmpty = true then [ent a b .non] else vs.zipIdx.flatMap fun p => t.ents c p.1 (if p.2 = 0 then a else s + 1) (b + 1) (s + 1)
    | _ => []
def Fs.ents : Fs → Nat → List D → Int → Int → Int → List D
  | .nil, _, _, _, _, _ => []
  | .cons _ t r, c, vs, a, b, s => match vs with
    | v :: ws => if c < t.nl then t.ents c v a b s else r.ents (c - t.nl) ws a b s
    | [] => []
end
theorem len_flatMap_le {α β : Type} {f : α → List β} {n : Nat} : ∀ (xs : List α), (∀ x ∈ xs, (f x).length ≤ n) → (xs.flatMap f).length ≤ xs.length * n
  | [], _ => Nat.zero_le _
  | x :: xs, h => by
    rw [List.flatMap_cons, List.length_append, List.length_cons, Nat.add_mul, Nat.one_mul]
    have h1 := h x (by simp)
    have h2 := len_flatMap_le (f := f) xs fun y hy => h y (List.mem_cons_of_mem _ hy)
    omega
mutual
theorem Ty2.ents_le : ∀ (t : Ty2) (c : Nat) (v : D) (a b s : Int), t.has v → (t.ents c v a b s).length ≤ 4 ^ (t.dep - 1)
  | .leaf _, _, _, _, _, _, _ => Nat.le_refl _
  | .rcd f, c, v, a, b, s, h => by
    obtain ⟨vs, rfl, h⟩ := h
    rw [Ty2.ents, Ty2.dep, Nat.add_sub_cancel]
    exact Nat.le_trans (Fs.ents_le f c vs a b s h) (Nat.pow_le_pow_right (by decide) (by omega))
  | .opt t, c, v, a, b, s, h => by
    rw [Ty2.ents, Ty2.dep]
    split
    · exact Nat.pos_of_ne_zero (by simp)
    · rename_i hv
      rcases h with rfl | h
      · exact absurd rfl hv
      · exact Nat.le_trans (Ty2.ents_le t c v a (b + 1) s h) (Nat.pow_le_pow_right (by decide) (by omega))
  | .lst t, c, v, a, b, s, h => by
    obtain ⟨vs, rfl, hl, h⟩ := h
    rw [Ty2.ents, Ty2.dep, Nat.add_sub_cancel]
    split
    · exact Nat.pos_of_ne_zero (by simp)
    · refine Nat.le_trans (len_flatMap_le (n := 4 ^ (t.dep - 1)) _ fun p hp => Ty2.ents_le t _ _ _ _ _ (h _ (List.fst_mem_of_mem_zipIdx hp))) ?_
      rw [List.length_zipIdx]
      have := t.dep_pos
      have e : 4 ^ t.dep = 4 * 4 ^ (t.dep - 1) := by
        rw [Nat.mul_comm, ← Nat.pow_succ]
        congr 1
        omega
      rw [e]
      exact Nat.mul_le_mul_right _ hl
theorem Fs.ents_le : ∀ (f : Fs) (c : Nat) (vs : List D) (a b s : Int), f.has vs → (f.ents c vs a b s).length ≤ 4 ^ (f.dep - 1)
  | .nil, _, _, _, _, _, _ => Nat.zero_le _
  | .cons _ t r, c, vs, a, b, s, h => by
    obtain ⟨v, ws, rfl, h1, h2⟩ := h
    rw [Fs.ents, Fs.dep]
    split
    · exact Nat.le_trans (Ty2.ents_le t c v a b s h1) (Nat.pow_le_pow_right (by decide) (by omega))
    · exact Nat.le_trans (Fs.ents_le r _ ws a b s h2) (Nat.pow_le_pow_right (by decide) (by omega))
end
def Lf.pre (p s : List String) (x : Lf) : Lf := ⟨p ++ x.path, s ++ x.steps, x.kd⟩
mutual
theorem Ty2.lvs_pre : ∀ (t : Ty2) (p s : List String), t.lvs p s = (t.lvs [] []).map (Lf.pre p s)
  | .leaf k, p, s => by simp [Ty2.lvs, Lf.pre]
  | .rcd f, p, s => by rw [Ty2.lvs, Ty2.lvs]; exact Fs.lvs_pre f p s
  | .lst t, p, s => by
    rw [Ty2.lvs, Ty2.lvs, Ty2.lvs_pre t p (s ++ ["list"]), Ty2.lvs_pre t [] ([] ++ ["list"]), List.map_map]
    apply List.map_congr_left
    intro x _
    simp [Lf.pre]
  | .opt t, p, s => by
    rw [Ty2.lvs, Ty2.lvs, Ty2.lvs_pre t p (s ++ ["opt"]), Ty2.lvs_pre t [] ([] ++ ["opt"]), List.map_map]
    apply List.map_congr_left
    intro x _
    simp [Lf.pre]
theorem Fs.lvs_pre : ∀ (f : Fs) (p s : List String), f.lvs p s = (f.lvs [] []).map (Lf.pre p s)
  | .nil, _, _ => rfl
  | .cons n t r, p, s => by
    rw [Fs.lvs, Fs.lvs, List.map_append, Fs.lvs_pre r p s, Ty2.lvs_pre t (p ++ [n]) s, Ty2.lvs_pre t ([] ++ [n]) [], List.map_map]
    congr 1
    apply List.map_congr_left
    intro x _
    simp [Lf.pre]
end
def Ty2.lf (t : Ty2) (c : Nat) : Lf := (t.lvs [] []).getD c ⟨[], [], .int⟩
theorem Ty2.lf_get {t : Ty2} {c : Nat} (h : c < t.nl) : (t.lvs [] [])[c]? = some (t.lf c) := by
  rw [← Ty2.lvs_length t [] []] at h
  unfold Ty2.lf
  rw [List.getD_eq_getElem?_getD, List.getElem?_eq_getElem h]
  rfl
theorem Fs.find : ∀ (f : Fs) (c : Nat), c < f.nl → ∃ (j : Nat) (q : String × Ty2) (c' : Nat), f.l[j]? = some q ∧ c' < q.2.nl ∧ (f.lvs [] [])[c]? = some ((q.2.lf c').pre [q.1] []) ∧
    ∀ (vs : List D), f.has vs → ∃ v, vs[j]? = some v ∧ q.2.has v ∧ ∀ a b s, f.ents c vs a b s = q.2.ents c' v a b s
  | .nil, c, h => by simp [Fs.nl] at h
  | .cons n t r, c, h => by
    rw [Fs.nl] at h
    by_cases hc : c < t.nl
    · refine ⟨0, (n, t), c, rfl, hc, ?_, fun vs hv => ?_⟩
      · rw [Fs.lvs, List.getElem?_append_left (by rw [Ty2.lvs_length]; exact hc), Ty2.lvs_pre, List.getElem?_map, Ty2.lf_get hc]
        rfl
      · obtain ⟨v, ws, rfl, h1, h2⟩ := hv
        exact ⟨v, rfl, h1, fun a b s => by rw [Fs.ents, if_pos hc]⟩
    · obtain ⟨j, q, c', h1, h2, h3, h4⟩ := Fs.find r (c - t.nl) (by omega)
      refine ⟨j + 1, q, c', by simpa [Fs.l] using h1, h2, ?_, fun vs hv => ?_⟩
      · rw [Fs.lvs, List.getElem?_append_right (by rw [Ty2.lvs_length]; omega), Ty2.lvs_length]
        exact h3
      · obtain ⟨v, ws, rfl, g1, g2⟩ := hv
        obtain ⟨w, e1, e2, e3⟩ := h4 ws g2
        exact ⟨w, by simpa using e1, e2, fun a b s => by rw [Fs.ents, if_neg hc]; exact e3 a b s⟩
theorem flDs_str : ∀ ns : List String, flDs (ns.map sl) = some (ns.map fun n => V.str (Str.ofString n))
  | [] => rfl
  | n :: ns => by
    show (match flD (sl n), flDs (ns.map sl) with | some v, some vs => some (v :: vs) | _, _ => none) = _
    rw [flDs_str ns]
    rfl
theorem pyL_some {f : D → Option PyData} : ∀ (vs : List D), (∀ v ∈ vs, ∃ p, f v = some p) → ∃ ps, pyL f vs = some ps ∧ ps.length = vs.length
  | [], _ => ⟨[], rfl, rfl⟩
  | v :: vs, h => by
    obtain ⟨p, e1⟩ := h v (by simp)
    obtain ⟨ps, e2, e3⟩ := pyL_some vs fun w hw => h w (List.mem_cons_of_mem _ hw)
    refine ⟨p :: ps, ?_, by simp [e3]⟩
    unfold pyL
    rw [e1, e2]
mutual
theorem Ty2.py : ∀ (t : Ty2) (n : Nat) (G : Hd) (v : D), t.dep ≤ n → t.has v → ∃ p, pyD n G v = some p
  | .leaf k, n, G, v, hn, h => by
    rw [Ty2.dep] at hn
    obtain ⟨n, rfl⟩ : ∃ m, n = m + 1 := ⟨n - 1, by omega⟩
    cases k with
    | int => obtain ⟨i, rfl⟩ := h; exact ⟨_, rfl⟩
    | text =>
      obtain ⟨x, rfl, hx, _⟩ := h
      refine ⟨.str x, ?_⟩
      show (if PyData.strOk x = true then some (PyData.str x) else none) = some (.str x)
      rw [if_pos hx]
    | bool => obtain ⟨i, rfl⟩ := h; exact ⟨_, rfl⟩
  | .rcd f, n, G, v, hn, h => by
    obtain ⟨vs, rfl, h⟩ := h
    rw [Ty2.dep] at hn
    obtain ⟨n, rfl⟩ : ∃ m, n = m + 1 := ⟨n - 1, by omega⟩
    obtain ⟨ps, e, _⟩ := pyL_some vs (Fs.py f n G vs (by omega) h)
    exact ⟨.tuple ps, by show (pyL (pyD n G) vs).map PyData.tuple = _; rw [e]; rfl⟩
  | .lst t, n, G, v, hn, h => by
    obtain ⟨vs, rfl, _, h⟩ := h
    rw [Ty2.dep] at hn
    obtain ⟨n, rfl⟩ : ∃ m, n = m + 1 := ⟨n - 1, by omega⟩
    obtain ⟨ps, e, _⟩ := pyL_some vs fun w hw => Ty2.py t n G w (by omega) (h w hw)
    exact ⟨.tuple ps, by show (pyL (pyD n G) vs).map PyData.tuple = _; rw [e]; rfl⟩
  | .opt t, n, G, v, hn, h => by
    rw [Ty2.dep] at hn
    rcases h with rfl | h
    · obtain ⟨n, rfl⟩ : ∃ m, n = m + 1 := ⟨n - 1, by omega⟩
      exact ⟨.none, rfl⟩
    · exact Ty2.py t n G v (by omega) h
theorem Fs.py : ∀ (f : Fs) (n : Nat) (G : Hd) (vs : List D), f.dep ≤ n → f.has vs → ∀ v ∈ vs, ∃ p, pyD n G v = some p
  | .nil, _, _, vs, _, h, v, hv => by rw [show vs = [] from h] at hv; simp at hv
  | .cons _ t r, n, G, vs, hn, h, v, hv => by
    obtain ⟨w, ws, rfl, h1, h2⟩ := h
    rw [Fs.dep] at hn
    rcases List.mem_cons.mp hv with rfl | hv
    · exact Ty2.py t n G v (by omega) h1
    · exact Fs.py r n G ws (by omega) h2 v hv
end
def hd1 (d : D) : Option D := match d with
  | .tup (x :: _) => some x
  | _ => none
end D2
end
section
set_option linter.all false
set_option autoImplicit false
set_option maxRecDepth 100000
namespace D2
open PySem L2
def c_LEAVES : D := (.tup [(.str (Str.ofString "int")), (.str (Str.ofString "text")), (.str (Str.ofString "bool"))])
mutual
def Ty2.sz : Ty2 → Nat
  | .leaf _ => 1
  | .rcd f => f.sz + 1
  | .lst t => t.sz + 1
  | .opt t => t.sz + 1
def Fs.sz : Fs → Nat
  | .nil => 0
  | .cons _ t r => t.sz + r.sz
end
theorem Fs.sz_l : ∀ f : Fs, f.sz = (f.l.map fun q => q.2.sz).sum
  | .nil => rfl
  | .cons n t r => by rw [Fs.sz, Fs.l, List.map_cons, List.sum_cons, Fs.sz_l r]
mutual
theorem Ty2.nl_pos : ∀ t : Ty2, t.good → 1 ≤ t.nl
  | .leaf _, _ => Nat.le_refl _
  | .rcd f, g => Fs.nl_pos f g.1 g.2.2.2
  | .lst t, g => Ty2.nl_pos t g
  | .opt t, g => Ty2.nl_pos t g
theorem Fs.nl_pos : ∀ f : Fs, f.good → f.names ≠ [] → 1 ≤ f.nl
  | .nil, _, h => absurd rfl h
  | .cons _ t r, g, _ => by
    rw [Fs.nl]
    have := Ty2.nl_pos t g.1
    omega
end
structure Wt where
  path : List String
  steps : List String
  ty : Ty2
def Wt.enc (w : Wt) : D := .tup [.tup (w.path.map sl), .tup (w.steps.map sl), w.ty.enc]
def Wt.lvs (w : Wt) : List Lf := w.ty.lvs w.path w.steps
structure Wt.ok (w : Wt) : Prop where
  good : w.ty.good
  p : w.path.length + w.ty.dep ≤ 100
  s : w.steps.length + w.ty.dep ≤ 100
end D2
end
section
set_option linter.all false
set_option autoImplicit false
namespace D2
open PySem L2
def NmOk (n : String) : Prop := 1 ≤ n.toList.length ∧ n.toList.length ≤ 12 ∧ ∀ c ∈ n.toList, 97 ≤ c.toNat ∧ c.toNat ≤ 122
def Ty2.hd : Ty2 → String
  | .leaf k => k.s
  | .rcd _ => "rec"
  | .lst _ => "list"
  | .opt _ => "opt"
def Ty2.isLst : Ty2 → Bool
  | .lst _ => true
  | _ => false
def Ty2.isOpt : Ty2 → Bool
  | .opt _ => true
  | _ => false
def Ty2.isOL : Ty2 → Bool
  | .lst _ => true
  | .opt _ => true
  | _ => false
def Ty2.bare : Ty2 → D
  | .opt _ => .non
  | _ => .tup []
mutual
def Ty2.gd : Ty2 → Prop
  | .leaf _ => True
  | .rcd f => f.gd ∧ f.names.Nodup ∧ f.names.length ≤ 8 ∧ f.names ≠ []
  | .lst t => t.gd
  | .opt t => t.gd ∧ t.isOpt = false
def Fs.gd : Fs → Prop
  | .nil => True
  | .cons n t r => NmOk n ∧ t.gd ∧ r.gd
end
def Kd.hl : Kd → D → Prop
  | .int, d => ∃ i : Int, d = .int i ∧ -(2 ^ 63) ≤ i ∧ i < 2 ^ 63
  | .text, d => ∃ cs : List Nat, d = .str ⟨cs.toArray⟩ ∧ cs.length ≤ 200 ∧ ∀ c ∈ cs, 48 ≤ c ∧ c ≤ 122
  | .bool, d => ∃ b : Bool, d = .bl b
mutual
def Ty2.hvb (b : Nat) : Ty2 → D → Prop
  | .leaf k, d => k.hl d
  | .rcd f, d => ∃ vs : List D, d = .tup vs ∧ f.hvb b vs
  | .lst t, d => ∃ vs : List D, d = .tup vs ∧ vs.length ≤ b ∧ ∀ v ∈ vs, t.hvb b v
  | .opt t, d => d = .non ∨ t.hvb b d
def Fs.hvb (b : Nat) : Fs → List D → Prop
  | .nil, vs => vs = []
  | .cons _ t r, vs => ∃ (v : D) (ws : List D), vs = v :: ws ∧ t.hvb b v ∧ r.hvb b ws
end
abbrev Ty2.hv (t : Ty2) (d : D) : Prop := t.hvb 20 d
abbrev Fs.hv (f : Fs) (vs : List D) : Prop := f.hvb 20 vs
mutual
theorem Ty2.hvb_mono {b c : Nat} (h : b ≤ c) : ∀ (t : Ty2) (v : D), t.hvb b v → t.hvb c v
  | .leaf _, _, hv => hv
  | .rcd f, _, ⟨vs, e, hv⟩ => ⟨vs, e, Fs.hvb_mono h f vs hv⟩
  | .lst t, _, ⟨vs, e, hl, hv⟩ => ⟨vs, e, Nat.le_trans hl h, fun v hm => Ty2.hvb_mono h t v (hv v hm)⟩
  | .opt t, v, hv => hv.imp id (Ty2.hvb_mono h t v)
theorem Fs.hvb_mono {b c : Nat} (h : b ≤ c) : ∀ (f : Fs) (vs : List D), f.hvb b vs → f.hvb c vs
  | .nil, _, hv => hv
  | .cons _ t r, _, ⟨v, ws, e, h1, h2⟩ => ⟨v, ws, e, Ty2.hvb_mono h t v h1, Fs.hvb_mono h r ws h2⟩
end
def Fs.get (n : String) : Fs → Option Ty2
  | .nil => none
  | .cons m t r => if m = n then some t else r.get n
def Fs.getV (n : String) : Fs → List D → Option (Ty2 × D)
  | .nil, _ => none
  | .cons m t r, vs => if m = n then vs.head?.map fun v => (t, v) else r.getV n vs.tail
mutual
def Ty2.fit : Ty2 → Ty2 → Bool
  | .leaf k, t => match t with
    | .leaf k' => decide (k' = k)
    | _ => false
  | .opt u, t => match t with
    | .opt t => u.fit t
    | t => u.fit t
  | .lst u, t => match t with
    | .lst t => u.fit t
    | .opt t => !t.isLst && u.fit t
    | t => u.fit t
  | .rcd g, t => match t with
    | .rcd f => g.fit f
    | _ => false
def Fs.fit : Fs → Fs → Bool
  | .nil, _ => true
  | .cons n p r, f => (match f.get n with
    | some t => p.fit t
    | none => p.isOL) && r.fit f
end
mutual
def Ty2.mv : Ty2 → Ty2 → D → D
  | .leaf _, _, v => v
  | .opt u, t, v => match t with
    | .opt t => if isNon v = true then .non else u.mv t v
    | t => u.mv t v
  | .lst u, t, v => match t with
    | .lst t => match v with
      | .tup vs => .tup (vs.map fun v => u.mv t v)
      | _ => .non
    | .opt t => if isNon v = true then .tup [] else .tup [u.mv t v]
    | t => .tup [u.mv t v]
  | .rcd g, t, v => match t, v with
    | .rcd f, .tup vs => .tup (g.mv f vs)
    | _, _ => .non
def Fs.mv : Fs → Fs → List D → List D
  | .nil, _, _ => []
  | .cons n p r, f, vs => (match f.getV n vs with
    | some q => p.mv q.1 q.2
    | none => p.bare) :: r.mv f vs
end
theorem Fs.getV_get (n : String) : ∀ (f : Fs) (vs : List D), f.hv vs → match f.get n with
    | some t => ∃ v, f.getV n vs = some (t, v) ∧ t.hv v
    | none => f.getV n vs = none
  | .nil, vs, h => rfl
  | .cons m t r, vs, h => by
    obtain ⟨v, ws, rfl, h1, h2⟩ := h
    unfold Fs.get Fs.getV
    by_cases e : m = n
    · rw [if_pos e, if_pos e]
      exact ⟨v, rfl, h1⟩
    · rw [if_neg e, if_neg e]
      exact Fs.getV_get n r ws h2
theorem Fs.hv_length : ∀ (f : Fs) (vs : List D), f.hv vs → vs.length = f.names.length
  | .nil, vs, h => by rw [show vs = [] from h]; rfl
  | .cons m t r, vs, h => by
    obtain ⟨v, ws, rfl, h1, h2⟩ := h
    rw [List.length_cons, Fs.names, List.length_cons, Fs.hv_length r ws h2]
theorem Ty2.bare_hvb {b : Nat} : ∀ p : Ty2, p.isOL = true → p.hvb b p.bare
  | .lst t, _ => ⟨[], rfl, Nat.zero_le _, fun v h => by simp at h⟩
  | .opt t, _ => .inl rfl
theorem Fs.getV_getb {b : Nat} (n : String) : ∀ (f : Fs) (vs : List D), f.hvb b vs → match f.get n with
    | some t => ∃ v, f.getV n vs = some (t, v) ∧ t.hvb b v
    | none => f.getV n vs = none
  | .nil, vs, h => rfl
  | .cons m t r, vs, h => by
    obtain ⟨v, ws, rfl, h1, h2⟩ := h
    unfold Fs.get Fs.getV
    by_cases e : m = n
    · rw [if_pos e, if_pos e]
      exact ⟨v, rfl, h1⟩
    · rw [if_neg e, if_neg e]
      exact Fs.getV_getb n r ws h2
mutual
theorem Ty2.mv_hvb {b : Nat} (hb : 1 ≤ b) : ∀ (u t : Ty2) (v : D), u.fit t = true → t.hvb b v → u.hvb b (u.mv t v)
  | .leaf k, t, v, f, h => by
    unfold Ty2.fit at f
    cases t <;> first | exact absurd f Bool.false_ne_true | skip
    rename_i k'
    have e : k' = k := of_decide_eq_true f
    subst e
    exact h
  | .opt u, t, v, f, h => by
    unfold Ty2.fit at f
    unfold Ty2.mv
    cases t with
    | opt t =>
      dsimp only at f ⊢
      by_cases hn : isNon v = true
      · rw [if_pos hn]
        exact .inl rfl
      · rw [if_neg hn]
        refine .inr (Ty2.mv_hvb hb u t v f ?_)
        rcases h with rfl | h
        · exact absurd rfl hn
        · exact h
    | leaf k => exact .inr (Ty2.mv_hvb hb u _ v f h)
    | rcd k => exact .inr (Ty2.mv_hvb hb u _ v f h)
    | lst k => exact .inr (Ty2.mv_hvb hb u _ v f h)
  | .lst u, t, v, f, h => by
    unfold Ty2.fit at f
    unfold Ty2.mv
    have one : ∀ t' : Ty2, u.fit t' = true → t'.hvb b v → (Ty2.lst u).hvb b (.tup [u.mv t' v]) := fun t' f' h' => ⟨_, rfl, by simpa using hb, fun w hw => by
      simp at hw
      subst hw
      exact Ty2.mv_hvb hb u t' v f' h'⟩
    cases t with
    | opt t =>
      dsimp only at f ⊢
      by_cases hn : isNon v = true
      · rw [if_pos hn]
        exact ⟨[], rfl, Nat.zero_le _, fun v h => by simp at h⟩
      · rw [if_neg hn]
        refine one t (Bool.and_eq_true_iff.mp f).2 ?_
        rcases h with rfl | h
        · exact absurd rfl hn
        · exact h
    | leaf k => exact one _ f h
    | rcd k => exact one _ f h
    | lst t =>
      obtain ⟨vs, rfl, hl, h⟩ := h
      refine ⟨_, rfl, by rw [List.length_map]; exact hl, fun w hw => ?_⟩
      obtain ⟨x, hx, rfl⟩ := List.mem_map.mp hw
      exact Ty2.mv_hvb hb u t x f (h x hx)
  | .rcd g, t, v, f, h => by
    unfold Ty2.fit at f
    cases t with
    | rcd f' =>
      obtain ⟨vs, rfl, h⟩ := h
      exact ⟨_, rfl, Fs.mv_hvb hb g f' vs f h⟩
    | _ => exact absurd f Bool.false_ne_true
theorem Fs.mv_hvb {b : Nat} (hb : 1 ≤ b) : ∀ (g f : Fs) (vs : List D), g.fit f = true → f.hvb b vs → g.hvb b (g.mv f vs)
  | .nil, _, _, _, _ => rfl
  | .cons n p r, f, vs, h, hv => by
    unfold Fs.fit at h
    obtain ⟨h1, h2⟩ := Bool.and_eq_true_iff.mp h
    refine ⟨_, _, rfl, ?_, Fs.mv_hvb hb r f vs h2 hv⟩
    have := Fs.getV_getb n f vs hv
    cases e : f.get n with
    | some t =>
      rw [e] at this h1
      obtain ⟨v, e2, h3⟩ := this
      rw [e2]
      exact Ty2.mv_hvb hb p t v h1 h3
    | none =>
      rw [e] at this h1
      dsimp only at this
      rw [this]
      exact p.bare_hvb h1
end
theorem Ty2.mv_hv (u t : Ty2) (v : D) (f : u.fit t = true) (h : t.hv v) : u.hv (u.mv t v) := Ty2.mv_hvb (by decide) u t v f h
theorem Fs.mv_hv (g f : Fs) (vs : List D) (h : g.fit f = true) (hv : f.hv vs) : g.hv (g.mv f vs) := Fs.mv_hvb (by decide) g f vs h hv
theorem Fs.get_mem : ∀ (f : Fs) (n : String) (t : Ty2), f.names.Nodup → (n, t) ∈ f.l → f.get n = some t
  | .nil, _, _, _, h => by simp [Fs.l] at h
  | .cons m s r, n, t, nd, h => by
    rw [Fs.names, List.nodup_cons] at nd
    rw [Fs.l] at h
    unfold Fs.get
    rcases List.mem_cons.mp h with e | h
    · cases e
      rw [if_pos rfl]
    · have : m ≠ n := by
        rintro rfl
        refine nd.1 ?_
        rw [Fs.names_l]
        exact List.mem_map.mpr ⟨_, h, rfl⟩
      rw [if_neg this]
      exact Fs.get_mem r n t nd.2 h
mutual
theorem Ty2.fit_self : ∀ t : Ty2, t.gd → t.fit t = true
  | .leaf k, _ => by unfold Ty2.fit; simp
  | .opt t, g => by unfold Ty2.fit; exact Ty2.fit_self t g.1
  | .lst t, g => by unfold Ty2.fit; exact Ty2.fit_self t g
  | .rcd f, g => by
    unfold Ty2.fit
    exact Fs.fit_of f f g.1 fun n t h => f.get_mem n t g.2.1 h
theorem Fs.fit_of : ∀ (g f : Fs), g.gd → (∀ n t, (n, t) ∈ g.l → f.get n = some t) → g.fit f = true
  | .nil, _, _, _ => by unfold Fs.fit; rfl
  | .cons n t r, f, g, h => by
    unfold Fs.fit
    rw [h n t (by simp [Fs.l])]
    dsimp only
    rw [Ty2.fit_self t g.2.1, Fs.fit_of r f g.2.2 fun m s hm => h m s (by rw [Fs.l]; exact List.mem_cons_of_mem _ hm)]
    rfl
end
theorem Fs.mem_gd : ∀ {f : Fs} {q : String × Ty2}, f.gd → q ∈ f.l → NmOk q.1 ∧ q.2.gd
  | .nil, _, _, h => by simp [Fs.l] at h
  | .cons n t r, q, g, h => by
    rw [Fs.l] at h
    rcases List.mem_cons.mp h with rfl | h
    · exact ⟨g.1, g.2.1⟩
    · exact Fs.mem_gd g.2.2 h
theorem Fs.get_gd : ∀ {f : Fs} {n : String} {t : Ty2}, f.gd → f.get n = some t → t.gd ∧ t.dep ≤ f.dep
  | .nil, _, _, _, h => by cases h
  | .cons m s r, n, t, g, h => by
    unfold Fs.get at h
    split at h
    · cases h
      exact ⟨g.2.1, by rw [Fs.dep]; exact Nat.le_max_left ..⟩
    · have := Fs.get_gd g.2.2 h
      exact ⟨this.1, Nat.le_trans this.2 (by rw [Fs.dep]; exact Nat.le_max_right ..)⟩
theorem strOk_sl (s : String) : PyData.strOk (Str.ofString s) = true := strOk_lit s
mutual
theorem Ty2.py_enc : ∀ (t : Ty2) (n : Nat) (G : Hd), 4 * t.dep ≤ n → ∃ p, pyD n G t.enc = some p
  | .leaf k, n, G, h => by
    rw [Ty2.dep] at h
    obtain ⟨n, rfl⟩ : ∃ m, n = m + 2 := ⟨n - 2, by omega⟩
    refine ⟨.tuple [.str (Str.ofString k.s)], ?_⟩
    show (pyL (pyD (n + 1) G) [sl k.s]).map PyData.tuple = _
    have : pyD (n + 1) G (sl k.s) = some (.str (Str.ofString k.s)) := by
      show (if PyData.strOk (Str.ofString k.s) = true then some (PyData.str (Str.ofString k.s)) else none) = _
      rw [if_pos (strOk_sl _)]
    unfold pyL
    rw [this]
    rfl
  | .lst t, n, G, h => by
    rw [Ty2.dep] at h
    obtain ⟨n, rfl⟩ : ∃ m, n = m + 2 := ⟨n - 2, by omega⟩
    obtain ⟨p, e⟩ := Ty2.py_enc t (n + 1) G (by omega)
    refine ⟨.tuple [.str (Str.ofString "list"), p], ?_⟩
    show (pyL (pyD (n + 1) G) [sl "list", t.enc]).map PyData.tuple = _
    have : pyD (n + 1) G (sl "list") = some (.str (Str.ofString "list")) := by
      show (if PyData.strOk (Str.ofString "list") = true then some (PyData.str (Str.ofString "list")) else none) = _
      rw [if_pos (strOk_sl _)]
    unfold pyL
    rw [this]
    unfold pyL
    rw [e]
    rfl
  | .opt t, n, G, h => by
    rw [Ty2.dep] at h
    obtain ⟨n, rfl⟩ : ∃ m, n = m + 2 := ⟨n - 2, by omega⟩
    obtain ⟨p, e⟩ := Ty2.py_enc t (n + 1) G (by omega)
    refine ⟨.tuple [.str (Str.ofString "opt"), p], ?_⟩
    show (pyL (pyD (n + 1) G) [sl "opt", t.enc]).map PyData.tuple = _
    have : pyD (n + 1) G (sl "opt") = some (.str (Str.ofString "opt")) := by
      show (if PyData.strOk (Str.ofString "opt") = true then some (PyData.str (Str.ofString "opt")) else none) = _
      rw [if_pos (strOk_sl _)]
    unfold pyL
    rw [this]
    unfold pyL
    rw [e]
    rfl
  | .rcd f, n, G, h => by
    rw [Ty2.dep] at h
    obtain ⟨n, rfl⟩ : ∃ m, n = m + 4 := ⟨n - 4, by omega⟩
    obtain ⟨ps, e⟩ := Fs.py_enc f (n + 2) G (by omega)
    refine ⟨.tuple [.str (Str.ofString "rec"), .tuple ps], ?_⟩
    show (pyL (pyD (n + 3) G) [sl "rec", .tup f.enc]).map PyData.tuple = _
    have : pyD (n + 3) G (sl "rec") = some (.str (Str.ofString "rec")) := by
      show (if PyData.strOk (Str.ofString "rec") = true then some (PyData.str (Str.ofString "rec")) else none) = _
      rw [if_pos (strOk_sl _)]
    have e2 : pyD (n + 3) G (.tup f.enc) = some (.tuple ps) := by
      show (pyL (pyD (n + 2) G) f.enc).map PyData.tuple = _
      rw [e]
      rfl
    unfold pyL
    rw [this]
    unfold pyL
    rw [e2]
    rfl
theorem Fs.py_enc : ∀ (f : Fs) (n : Nat) (G : Hd), 4 * f.dep + 1 ≤ n → ∃ ps, pyL (pyD n G) f.enc = some ps
  | .nil, _, _, _ => ⟨[], rfl⟩
  | .cons m t r, n, G, h => by
    rw [Fs.dep] at h
    have h1 := t.dep_pos
    obtain ⟨ps, e⟩ := Fs.py_enc r n G (by omega)
    obtain ⟨n, rfl⟩ : ∃ m, n = m + 2 := ⟨n - 2, by omega⟩
    obtain ⟨p, e2⟩ := Ty2.py_enc t (n + 1) G (by omega)
    refine ⟨.tuple [.str (Str.ofString m), p] :: ps, ?_⟩
    have : pyD (n + 1) G (sl m) = some (.str (Str.ofString m)) := by
      show (if PyData.strOk (Str.ofString m) = true then some (PyData.str (Str.ofString m)) else none) = _
      rw [if_pos (strOk_sl _)]
    have e3 : pyD (n + 2) G (.tup [sl m, t.enc]) = some (.tuple [.str (Str.ofString m), p]) := by
      show (pyL (pyD (n + 1) G) [sl m, t.enc]).map PyData.tuple = _
      unfold pyL
      rw [this]
      unfold pyL
      rw [e2]
      rfl
    rw [Fs.enc]
    unfold pyL
    rw [e3, e]
end
end D2
end
section
set_option linter.all false
set_option autoImplicit false
set_option maxRecDepth 100000
namespace D2
open PySem L2
section
variable {P : D → Hd → Prop} {Z : Fl → Sd → Hd → Prop} {σ : Sd} {G : Hd}
theorem lc_fun {own : List Nat} {g : Tg} {e : E} {j : ItD} {G1 : Hd} (zs : List D) (hn : zs.length ≤ sizeLine) (end_ : ∀ G, Fr [] G1 G → j zs.length G = some none)
    (step : ∀ (i : Nat) (z : D) (G : Hd), zs[i]? = some z → Fr [] G1 G → ∃ v, j i G = some (some v) ∧ Tk (g v (wipeD σ own) G) fun σ1 G2 => Ok (e σ1 G2) fun y G3 => y = z ∧ Fr [] G G3)
    (hq : ∀ G', G'[G1.length]? = some (.lst zs) → Fr [] G1 G' → P (.ref G1.length) G') : LcOk own g tYes e σ j G1 P := by
  refine lc_vals zs.length [] (fun i y => zs[i]? = some y) (fun _ => True) hn (fun i h => by simp at h) trivial (fun _ _ => trivial) (fun _ _ _ => trivial) (fun G _ f => end_ G f) (fun i G hi _ f => ?_) fun ys G' hy hr e3 _ f3 => ?_
  · have ez : zs[i]? = some zs[i] := List.getElem?_eq_getElem hi
    obtain ⟨v, h1, h2⟩ := step i _ G ez f
    refine ⟨v, h1, ?_⟩
    obtain ⟨σ1, G2, e2, h2⟩ := h2.ex
    rw [e2]
    refine h2.mono fun y G3 ⟨e4, f4⟩ => ?_
    subst e4
    exact ⟨ez, trivial, f4⟩
  · have : ys = zs := by
      apply List.ext_getElem?
      intro i
      by_cases hi : i < ys.length
      · rw [List.getElem?_eq_getElem hi]
        exact (hr i _ (List.getElem?_eq_getElem hi)).symm
      · rw [List.getElem?_eq_none (by omega), List.getElem?_eq_none (by omega)]
    subst this
    exact hq G' e3 f3
theorem ok_all {r : Nat} {ds : List D} {bs : List Bool} (h : G[r]? = some (.lst ds)) (e : bls ds = some bs) : Ok (fAll (.ref r) G) P = P (.bl (bs.all id)) G := by
  unfold fAll listOf
  dsimp only
  rw [h]
  dsimp only
  rw [Option.bind_some, e] <;> rfl
theorem bls_bl : ∀ bs : List Bool, bls (bs.map D.bl) = some bs
  | [] => rfl
  | b :: bs => by
    rw [List.map_cons]
    unfold bls
    rw [bls_bl bs] <;> rfl
theorem notIn_of {x y : D} {b : Bool} (h : ∀ P : D → Hd → Prop, Ok (cIn x y G) P = P (.bl b) G) : Ok (cNotIn x y G) P = P (.bl (!b)) G := by
  have h1 := h fun d G' => d = .bl b ∧ G' = G
  unfold cIn at h1
  unfold cNotIn
  cases e : cInB x y G with
  | none => rw [e] at h1; exact (h1.mpr ⟨rfl, rfl⟩ : False).elim
  | some k =>
    rw [e] at h1
    have : k = b := by
      have := (h1.mpr ⟨rfl, rfl⟩ : (D.bl k = D.bl b ∧ G = G)).1
      cases this
      rfl
    subst this
    rfl
theorem ok_notIn_lit2 {a b c : String} : Ok (cNotIn (sl a) (.tup [sl b, sl c]) G) P = P (.bl (!(decide (a = b) || decide (a = c)))) G := notIn_of fun _ => ok_in_lit2
theorem ok_notIn_lit3 {a b c d : String} : Ok (cNotIn (sl a) (.tup [sl b, sl c, sl d]) G) P = P (.bl (!(decide (a = b) || (decide (a = c) || decide (a = d))))) G := notIn_of fun _ => ok_in_lit3
theorem ok_hd {t : Ty2} : Ok (atD t.enc (.int 0) G) P = P (sl t.hd) G := by
  cases t <;> exact ok_at0
theorem ks_ne {k : Kd} {s : String} (h : s ≠ "int" ∧ s ≠ "text" ∧ s ≠ "bool") : k.s ≠ s := by
  cases k
  · exact Ne.symm h.1
  · exact Ne.symm h.2.1
  · exact Ne.symm h.2.2
theorem hd_lst {t : Ty2} : decide (t.hd = "list") = t.isLst := by
  cases t with
  | leaf k => exact decide_eq_false (ks_ne (by decide))
  | _ => rfl
theorem hd_opt {t : Ty2} : decide (t.hd = "opt") = t.isOpt := by
  cases t with
  | leaf k => exact decide_eq_false (ks_ne (by decide))
  | _ => rfl
def Ty2.isRcd : Ty2 → Bool
  | .rcd _ => true
  | _ => false
def Ty2.isLeaf : Ty2 → Bool
  | .leaf _ => true
  | _ => false
theorem io_leaf {k : Kd} : (Ty2.leaf k).isOpt = false := rfl
theorem io_rcd {f : Fs} : (Ty2.rcd f).isOpt = false := rfl
theorem io_lst {t : Ty2} : (Ty2.lst t).isOpt = false := rfl
theorem io_opt {t : Ty2} : (Ty2.opt t).isOpt = true := rfl
theorem il_leaf {k : Kd} : (Ty2.leaf k).isLst = false := rfl
theorem il_rcd {f : Fs} : (Ty2.rcd f).isLst = false := rfl
theorem il_lst {t : Ty2} : (Ty2.lst t).isLst = true := rfl
theorem il_opt {t : Ty2} : (Ty2.opt t).isLst = false := rfl
theorem ir_leaf {k : Kd} : (Ty2.leaf k).isRcd = false := rfl
theorem ir_rcd {f : Fs} : (Ty2.rcd f).isRcd = true := rfl
theorem ir_lst {t : Ty2} : (Ty2.lst t).isRcd = false := rfl
theorem ir_opt {t : Ty2} : (Ty2.opt t).isRcd = false := rfl
theorem iv_leaf {k : Kd} : (Ty2.leaf k).isLeaf = true := rfl
theorem iv_rcd {f : Fs} : (Ty2.rcd f).isLeaf = false := rfl
theorem iv_lst {t : Ty2} : (Ty2.lst t).isLeaf = false := rfl
theorem iv_opt {t : Ty2} : (Ty2.opt t).isLeaf = false := rfl
theorem ib_leaf {k : Kd} : (Ty2.leaf k).isOL = false := rfl
theorem ib_rcd {f : Fs} : (Ty2.rcd f).isOL = false := rfl
theorem ib_lst {t : Ty2} : (Ty2.lst t).isOL = true := rfl
theorem ib_opt {t : Ty2} : (Ty2.opt t).isOL = true := rfl
theorem hd_rcd {t : Ty2} : decide (t.hd = "rec") = t.isRcd := by
  cases t with
  | leaf k => exact decide_eq_false (ks_ne (by decide))
  | _ => rfl
theorem hd_leaves {t : Ty2} : (decide (t.hd = "int") || (decide (t.hd = "text") || decide (t.hd = "bool"))) = t.isLeaf := by
  cases t with
  | leaf k => cases k <;> rfl
  | _ => rfl
theorem ob_or {t : Ty2} : (t.isOpt || t.isLst) = t.isOL := by cases t <;> rfl
theorem ob_or' {t : Ty2} : (t.isLst || t.isOpt) = t.isOL := by cases t <;> rfl
end
theorem Fs.fit_all (f : Fs) : ∀ g : Fs, g.fit f = (g.l.map fun q => match f.get q.1 with | some t => q.2.fit t | none => q.2.isOL).all id
  | .nil => rfl
  | .cons n p r => by
    unfold Fs.fit
    rw [Fs.l, List.map_cons, List.all_cons, ← Fs.fit_all f r]
    rfl
end D2
end
section
set_option linter.all false
set_option autoImplicit false
set_option maxRecDepth 100000
namespace D2
open PySem L2
section
variable {P : D → Hd → Prop} {PI : ItD → Hd → Prop} {Z : Fl → Sd → Hd → Prop} {σ : Sd} {G : Hd}
theorem inV_strs (n : String) : ∀ ns : List String, inV (.str (Str.ofString n)) (ns.map fun m => V.str (Str.ofString m)) = decide (n ∈ ns)
  | [] => rfl
  | m :: ns => by
    show ((Str.ofString m == Str.ofString n) || inV (.str (Str.ofString n)) (ns.map fun m => V.str (Str.ofString m))) = _
    rw [inV_strs n ns, Bool.eq_iff_iff]
    simp only [Bool.or_eq_true, decide_eq_true_eq, List.mem_cons, beq_iff_eq, ofString_inj]
    exact or_congr_left eq_comm
theorem ok_in_strs {r : Nat} {ns : List String} {n : String} (h : G[r]? = some (.lst (ns.map sl))) : Ok (cIn (sl n) (.ref r) G) P = P (.bl (decide (n ∈ ns))) G := by
  have e : cInB (sl n) (.ref r) G = some (decide (n ∈ ns)) := by
    unfold cInB seqOf listOf
    dsimp only
    rw [h]
    dsimp only
    rw [flDs_str]
    show some (inV (.str (Str.ofString n)) _) = _
    rw [inV_strs]
  unfold cIn
  rw [e] <;> rfl
theorem ok_notIn_strs {r : Nat} {ns : List String} {n : String} (h : G[r]? = some (.lst (ns.map sl))) : Ok (cNotIn (sl n) (.ref r) G) P = P (.bl (!decide (n ∈ ns))) G := by
  have e : cInB (sl n) (.ref r) G = some (decide (n ∈ ns)) := by
    unfold cInB seqOf listOf
    dsimp only
    rw [h]
    dsimp only
    rw [flDs_str]
    show some (inV (.str (Str.ofString n)) _) = _
    rw [inV_strs]
  unfold cNotIn
  rw [e] <;> rfl
theorem ok_ma {f : D → D → M D} {o a : E} : Ok (eMa f o a σ G) P = Ok (o σ G) fun x G1 => if (isL G1 x || isS x) = true then Ok (a σ G1) fun y G2 => Ok (f x y G2) P else False := by
  unfold eMa
  rw [ok_bnd]
  congr 1
  funext x G1
  split
  · rw [ok_bnd]
  · rfl
end
theorem Fs.mem_names {f : Fs} {q : String × Ty2} (h : q ∈ f.l) : q.1 ∈ f.names := by
  rw [Fs.names_l]
  exact List.mem_map.mpr ⟨q, h, rfl⟩
theorem Fs.names_at {f : Fs} {j : Nat} {q : String × Ty2} (h : f.l[j]? = some q) : f.names[j]? = some q.1 := by
  rw [Fs.names_l, List.getElem?_map, h]
  rfl
theorem Fs.enc_at {f : Fs} {j : Nat} {q : String × Ty2} (h : f.l[j]? = some q) : f.enc[j]? = some (.tup [sl q.1, q.2.enc]) := by
  rw [Fs.enc_l, List.getElem?_map, h]
  rfl
theorem Fs.l_length (f : Fs) : f.l.length = f.names.length := by rw [Fs.names_l, List.length_map]
theorem fit_get {f : Fs} {g : Fs} (h : g.fit f = true) {q : String × Ty2} (hq : q ∈ g.l) : match f.get q.1 with | some t => q.2.fit t = true | none => q.2.isOL = true := by
  rw [Fs.fit_all, List.all_eq_true] at h
  have := h _ (List.mem_map.mpr ⟨q, hq, rfl⟩)
  cases e : f.get q.1 with
  | some t => rw [e] at this; exact this
  | none => rw [e] at this; exact this
end D2
end
section
set_option linter.all false
set_option autoImplicit false
set_option maxRecDepth 100000
namespace D2
open PySem L2
end D2
end
section
set_option linter.all false
set_option autoImplicit false
set_option maxRecDepth 100000
namespace D2
open PySem L2
section
variable {σ : Sd} {G : Hd}
end
end D2
end
section
set_option linter.all false
set_option autoImplicit false
set_option maxRecDepth 100000
namespace D2
open PySem L2
abbrev Sg (cs : List Nat) : Str := ⟨cs.toArray⟩
theorem sg_len (cs : List Nat) : (Sg cs).length = cs.length := by show cs.toArray.size = cs.length; simp
theorem sg_app (a b : List Nat) : Sg a ++ Sg b = Sg (a ++ b) := by
  show (⟨a.toArray ++ b.toArray⟩ : Str) = _
  simp [Sg]
theorem sg_cut (cs : List Nat) (lo hi : Option Int) : cutS (Sg cs) lo hi = Sg ((cs.drop (HT.sIx cs.length 0 lo)).take (HT.sIx cs.length cs.length hi - HT.sIx cs.length 0 lo)) := by
  unfold cutS
  rw [sg_len]
theorem sg_nil : Str.ofString "" = Sg [] := by decide +kernel
theorem sg_join : ∀ ys : List (List Nat), Str.join (Sg []) (ys.map Sg) = Sg ys.flatten
  | [] => rfl
  | [x] => by simp [Str.join]
  | x :: y :: r => by
    rw [List.map_cons, List.map_cons]
    unfold Str.join
    rw [← List.map_cons (f := Sg), sg_join (y :: r), sg_app, sg_app, List.flatten_cons]
    simp
theorem strOk_sg {cs : List Nat} (h : ∀ c ∈ cs, c < 0x110000) : PyData.strOk (Sg cs) = true := by
  unfold PyData.strOk
  simpa [Sg] using h
def toS (cs : List Nat) : String := String.ofList (cs.map Char.ofNat)
theorem ofNat_toNat {c : Nat} (h : c < 0xd800) : (Char.ofNat c).toNat = c := by
  have : c.isValidChar := .inl h
  simp [Char.ofNat, this, Char.toNat, Char.ofNatAux]
theorem toS_list (cs : List Nat) : (toS cs).toList = cs.map Char.ofNat := by simp [toS]
theorem toS_of {cs : List Nat} (h : ∀ c ∈ cs, c < 0xd800) : Str.ofString (toS cs) = Sg cs := by
  rw [Str.ofString_eq_toList, toS_list, List.map_map]
  congr 2
  conv => rhs; rw [← List.map_id cs]
  apply List.map_congr_left
  intro c hc
  exact ofNat_toNat (h c hc)
def Low (cs : List Nat) : Prop := 1 ≤ cs.length ∧ cs.length ≤ 12 ∧ ∀ c ∈ cs, 97 ≤ c ∧ c ≤ 122
theorem Low.nm {cs : List Nat} (h : Low cs) : NmOk (toS cs) := by
  refine ⟨by rw [toS_list, List.length_map]; exact h.1, by rw [toS_list, List.length_map]; exact h.2.1, fun c hc => ?_⟩
  rw [toS_list] at hc
  obtain ⟨k, hk, rfl⟩ := List.mem_map.mp hc
  have := h.2.2 k hk
  rw [ofNat_toNat (by omega)]
  exact this
theorem Low.sl {cs : List Nat} (h : Low cs) : D.str (Sg cs) = sl (toS cs) := by
  show D.str (Sg cs) = D.str (Str.ofString (toS cs))
  rw [toS_of fun c hc => by have := h.2.2 c hc; omega]
theorem NmOk.low {n : String} (h : NmOk n) : ∃ cs, Low cs ∧ n = toS cs ∧ Str.ofString n = Sg cs := by
  refine ⟨n.toList.map Char.toNat, ⟨by rw [List.length_map]; exact h.1, by rw [List.length_map]; exact h.2.1, fun c hc => ?_⟩, ?_, by rw [Str.ofString_eq_toList]⟩
  · obtain ⟨k, hk, rfl⟩ := List.mem_map.mp hc
    exact h.2.2 k hk
  · unfold toS
    rw [List.map_map]
    have : n.toList.map (Char.ofNat ∘ Char.toNat) = n.toList := by
      conv => rhs; rw [← List.map_id n.toList]
      apply List.map_congr_left
      intro c _
      simp
    rw [this]
    simp
theorem toS_inj {a b : List Nat} (ha : ∀ c ∈ a, c < 0xd800) (hb : ∀ c ∈ b, c < 0xd800) (h : toS a = toS b) : a = b := by
  have := congrArg Str.ofString h
  rw [toS_of ha, toS_of hb] at this
  injection this with this
  simpa using this
theorem nodup_len {α : Type} [DecidableEq α] : ∀ (l m : List α), l.Nodup → (∀ x ∈ l, x ∈ m) → l.length ≤ m.length
  | [], m, _, _ => Nat.zero_le _
  | x :: l, m, nd, h => by
    rw [List.nodup_cons] at nd
    have hx := h x (List.mem_cons_self ..)
    have := nodup_len l (m.erase x) nd.2 fun y hy => (List.mem_erase_of_ne (by rintro rfl; exact nd.1 hy)).mpr (h y (List.mem_cons_of_mem _ hy))
    rw [List.length_erase_of_mem hx] at this
    have := List.length_pos_of_mem hx
    rw [List.length_cons]
    omega
theorem sk_part {x : SR} {k : Sd → Hd → Prop} {Z : Fl → Sd → Hd → Prop} (X : Sd → Hd → Prop) (h1 : Sk x (thn X Z)) (h2 : ∀ σ G, X σ G → k σ G) : Sk x (thn k Z) := h1.mono fun f σ G h => by
  cases f <;> first | exact h2 _ _ h | exact h
section
variable {P : D → Hd → Prop} {G : Hd}
theorem ok_atS {cs : List Nat} {k : Nat} {c : Nat} (hl : cs.length ≤ sizeLine) (h : cs[k]? = some c) : Ok (atD (.str (Sg cs)) (.int (k : Nat)) G) P = P (.str (Sg [c])) G := by
  unfold atD
  dsimp only
  rw [if_pos (by rw [sg_len]; exact hl)]
  have : atI cs.toArray.toList (k : Int) = some c := by simpa using atI_nat h
  rw [this] <;> rfl
theorem ok_slS {z : Str} {lo hi : Option Int} (h : z.length ≤ sizeLine) : Ok (slD (.str z) lo hi G) P = P (.str (cutS z lo hi)) G := by
  unfold slD
  dsimp only
  rw [if_pos h] <;> rfl
theorem cut_to {cs : List Nat} {k : Nat} (h : k ≤ cs.length) : cutS (Sg cs) none (some (k : Int)) = Sg (cs.take k) := by
  rw [sg_cut, HT.sIx_none, HT.sIx_nat, Nat.min_eq_left h]
  simp
theorem cut_from {cs : List Nat} {k : Nat} (h : k ≤ cs.length) : cutS (Sg cs) (some (k : Int)) none = Sg (cs.drop k) := by
  rw [sg_cut, HT.sIx_none, HT.sIx_nat, Nat.min_eq_left h]
  congr 2
  rw [List.take_of_length_le (by simp)]
theorem ones_flat : ∀ cs : List Nat, (cs.map fun c => [c]).flatten = cs
  | [] => rfl
  | c :: cs => by rw [List.map_cons, List.flatten_cons, ones_flat cs]; rfl
theorem ones_sum : ∀ cs : List Nat, (((cs.map fun c => [c]).map Sg).map (·.length)).sum = cs.length
  | [] => rfl
  | c :: cs => by
    rw [List.map_cons, List.map_cons, List.map_cons, List.sum_cons, ones_sum cs, List.length_cons]
    have : (Sg [c]).length = 1 := sg_len [c]
    omega
theorem ok_joinS {r : Nat} {cs : List Nat} (h : G[r]? = some (.lst (cs.map fun c => D.str (Sg [c])))) (hl : cs.length ≤ 16777216) : Ok (mJoin (.str (Str.ofString "")) (.ref r) G) P = P (.str (Sg cs)) G := by
  have e : ∀ cs : List Nat, strsD (cs.map fun c => D.str (Sg [c])) = some ((cs.map fun c => [c]).map Sg) := by
    intro cs
    induction cs with
    | nil => rfl
    | cons c cs ih =>
      rw [List.map_cons]
      unfold strsD
      rw [ih]
      rfl
  unfold mJoin seqOf listOf
  dsimp only
  rw [h]
  dsimp only
  rw [Option.bind_some, e]
  dsimp only
  have z0 : (Str.ofString "").length = 0 := by decide +kernel
  have sum := ones_sum cs
  rw [if_pos (by rw [sum, z0]; omega)]
  show P (.str (Txt.join (Str.ofString "") _)) G = _
  rw [show Txt.join (Str.ofString "") ((cs.map fun c => [c]).map Sg) = Str.join (Str.ofString "") ((cs.map fun c => [c]).map Sg) from StrLaws.glued_eq_join _ _, sg_nil, sg_join]
  rw [ones_flat]
end
def abc : String := "abcdefghijklmnopqrstuvwxyz"
def abcL : List Nat := (List.range 26).map (97 + ·)
theorem abc_sg : Str.ofString abc = Sg abcL := by decide +kernel
theorem abc_at {k : Nat} (h : k < 26) : abcL[k]? = some (97 + k) := by
  unfold abcL
  rw [List.getElem?_map, List.getElem?_range h]
  rfl
theorem abc_occ {k : Nat} (h : k < 26) : Builtin.Str.occurrences (Sg abcL) (Sg [97 + k]) 0 26 1 = [k] := by
  have : (List.range 26).all (fun k => decide (Builtin.Str.occurrences (Sg abcL) (Sg [97 + k]) 0 26 1 = [k])) = true := by decide +kernel
  exact of_decide_eq_true (List.all_eq_true.mp this k (List.mem_range.mpr h))
def turnN (cs : List Nat) (a c0 i : Nat) : List Nat := cs.set a (97 + (c0 + i) % 26)
theorem turnN_low {cs : List Nat} {a c0 i : Nat} (h : Low cs) : Low (turnN cs a c0 i) := by
  refine ⟨by unfold turnN; rw [List.length_set]; exact h.1, by unfold turnN; rw [List.length_set]; exact h.2.1, fun c hc => ?_⟩
  have := Nat.mod_lt (c0 + i) (show 26 > 0 by decide)
  rcases List.mem_or_eq_of_mem_set hc with hc | rfl
  · exact h.2.2 c hc
  · omega
theorem turnN_inj {cs : List Nat} {a c0 i j : Nat} (ha : a < cs.length) (hi : i < 26) (hj : j < 26) (h : turnN cs a c0 i = turnN cs a c0 j) : i = j := by
  have := congrArg (fun l => l[a]?) h
  simp only [turnN] at this
  rw [List.getElem?_set_self ha, List.getElem?_set_self ha] at this
  have := Option.some.inj this
  omega
def NameOk (fn : Fn) : Prop := ∀ {s l U : Nat} {ns : List String} {G : Hd} {P : D → Hd → Prop}, StAt G s l → G[U]? = some (.lst (ns.map sl)) → U ≠ s → (∀ n ∈ ns, NmOk n) → ns.length ≤ 25 →
    (∀ (n : String) (G' : Hd), NmOk n → n ∉ ns → StAt G' s l → Fr [s] G G' → P (sl n) G') → Ok (fn [.ref s, .ref U] G) P
def g_law_name_f1 : S :=
  (sSeq (sIf (tBl (eOp2 cNotIn (eVar 4) (eVar 1)))
    (sRet (eVar 4))
    sNil)
  (sSet 4 (eOp2 opAdd (eOp2 opAdd (eSl (eVar 4) oNone (oSome (eVar 6))) (eOp2 atD (eVar 2) (eOp2 opMod (eOp2 opAdd (eMa mIndexA (eVar 2) (eOp2 atD (eVar 4) (eVar 6))) (eC (.int 1))) (eC (.int 26))))) (eSl (eVar 4) (oSome (eOp2 opAdd (eVar 6) (eC (.int 1)))) oNone))))
def g_law_name (f_law_draw : Fn) : S :=
  (sSeq (sSet 2 (eC (.str (Str.ofString "abcdefghijklmnopqrstuvwxyz"))))
  (sSeq (sSet 3 (eOp2 atD (eLst (aCons (eC (.int 1)) (aCons (eC (.int 1)) (aCons (eC (.int 2)) (aCons (eC (.int 3)) (aCons (eC (.int 5)) (aCons (eC (.int 11)) (aCons (eC (.int 12)) aNil)))))))) (eCall f_law_draw (aCons (eVar 0) (aCons (eC (.int 7)) aNil)))))
  (sSeq (sSet 4 (eMs mJoin (eC (.str (Str.ofString ""))) (eLc [5] (iRng1 (eVar 3)) (gName 5) tYes (eOp2 atD (eVar 2) (eCall f_law_draw (aCons (eVar 0) (aCons (eC (.int 26)) aNil)))))))
  (sSeq (sIf (tAnd (tTru (eVar 1)) (tBl (eOp2 cEq (eCall f_law_draw (aCons (eVar 0) (aCons (eC (.int 2)) aNil))) (eC (.int 0)))))
    (sSet 4 (eOp2 atD (eVar 1) (eCall f_law_draw (aCons (eVar 0) (aCons (eOp1 fLen (eVar 1)) aNil)))))
    sNil)
  (sSeq (sSet 6 (eCall f_law_draw (aCons (eVar 0) (aCons (eOp1 fLen (eVar 4)) aNil))))
  (sSeq (sFor (iRng1 (eC (.int 26))) (gName 5) g_law_name_f1)
  (sRet (eVar 4))))))))
theorem abc_eq : Str.ofString "abcdefghijklmnopqrstuvwxyz" = Sg abcL := abc_sg
theorem nameOk {fd : Fn} (hd : DrawOk fd) : NameOk (runFn 7 2 (g_law_name fd)) := by
  intro s l U ns G P h hU us hns hlen hq
  refine ok_run rfl ?_
  show Sk (g_law_name fd [some (.ref s), some (.ref U), none, none, none, none, none] G) (rtn P)
  unfold g_law_name
  have lts := h.lt
  have ltU := (List.getElem?_eq_some_iff.mp hU).1
  have nU : U ∉ [s] := by simpa using us
  have l26 : abcL.length = 26 := by simp [abcL]
  simp -implicitDefEqProofs only [↓minrs, abc_eq, if_true]
  have nG : G.length ∉ [s] := by simp; omega
  refine hd h.app (by decide) fun v G1 v0 v1 h1 f1 => ?_
  refine ok_atAny (f1.at get_new nG) v0 (by simpa using v1) fun x hx => ?_
  have hx' : ∃ m : Nat, x = .int m ∧ 1 ≤ m ∧ m ≤ 12 := by
    simp only [List.mem_cons, List.not_mem_nil, or_false] at hx
    rcases hx with rfl | rfl | rfl | rfl | rfl | rfl | rfl
    · exact ⟨1, rfl, by decide, by decide⟩
    · exact ⟨1, rfl, by decide, by decide⟩
    · exact ⟨2, rfl, by decide, by decide⟩
    · exact ⟨3, rfl, by decide, by decide⟩
    · exact ⟨5, rfl, by decide, by decide⟩
    · exact ⟨11, rfl, by decide, by decide⟩
    · exact ⟨12, rfl, by decide, by decide⟩
  obtain ⟨m, hxm, m1, m12⟩ := hx'
  subst hxm
  have hU1 := f1.at (get_app hU) nU
  have f01 : Fr [s] G G1 := Fr.refl.app.trans f1
  rw [ok_itr1n (by omega)]
  refine lc_vals m [s] (fun _ y => ∃ k : Nat, k < 26 ∧ y = .str (Sg [97 + k])) (fun G => StAt G s l) (by rw [sizeLine_val]; omega) (fun i hi => by simp at hi; subst hi; exact h1.lt.1) h1 (fun o h => h.app)
    (fun G o h => h.set (by have := h1.lt.1; omega) (by have := h1.lt.2; omega)) (fun G _ _ => it_rng_end) (fun i G hi hG fG => ⟨_, it_rng hi, ?_⟩) fun ys G2 hy hr e2 h2 f2 => ?_
  · simp -implicitDefEqProofs only [wipeD, List.set_cons_zero, List.set_cons_succ, ↓mirs]
    refine hd hG (by decide) fun v G3 v0 v1 h3 f3 => ?_
    obtain ⟨k, rfl⟩ := Int.eq_ofNat_of_zero_le v0
    rw [ok_atS (by rw [l26, sizeLine_val]; omega) (abc_at (by omega : k < 26))]
    exact ⟨⟨k, by omega, rfl⟩, h3, f3⟩
  · have hU2 := f2.at hU1 nU
    obtain ⟨cs, ecs, lcs⟩ : ∃ cs : List Nat, ys = cs.map (fun c => D.str (Sg [c])) ∧ ∀ c ∈ cs, 97 ≤ c ∧ c ≤ 122 := by
      have all : ∀ y ∈ ys, ∃ k : Nat, k < 26 ∧ y = .str (Sg [97 + k]) := fun y hy => by
        obtain ⟨i, hi, rfl⟩ := List.getElem_of_mem hy
        exact hr i _ (List.getElem?_eq_getElem hi)
      clear hr e2 hy
      induction ys with
      | nil => exact ⟨[], rfl, fun c h => by simp at h⟩
      | cons y ys ih =>
        obtain ⟨cs, e, hc⟩ := ih fun z hz => all z (List.mem_cons_of_mem _ hz)
        obtain ⟨k, hk, rfl⟩ := all y (List.mem_cons_self ..)
        refine ⟨(97 + k) :: cs, by rw [e, List.map_cons], fun c h => ?_⟩
        rcases List.mem_cons.mp h with rfl | h
        · omega
        · exact hc c h
    subst ecs
    rw [List.length_map] at hy
    have low : Low cs := ⟨by omega, by omega, lcs⟩
    simp -implicitDefEqProofs only [↓minrs, ↓ok_joinS e2 (show cs.length ≤ 16777216 by omega)]
    have f02 : Fr [s] G G2 := f01.trans f2
    -- a used one, now and then
    refine sk_part (fun σ G3 => ∃ ds, Low ds ∧ σ = [some (.ref s), some (.ref U), some (.str (Sg abcL)), some (.int m), some (.str (Sg ds)), none, none] ∧ StAt G3 s l ∧ Fr [s] G G3) ?_ ?_
    · simp -implicitDefEqProofs only [↓mirs, ↓tru_ref hU2]
      cases ns with
      | nil =>
        simp only [List.map_nil, List.isEmpty_nil, Bool.not_true, Bool.false_eq_true, if_false]
        exact ⟨cs, low, rfl, h2, f02⟩
      | cons n0 ns =>
        simp only [List.map_cons, List.isEmpty_cons, Bool.not_false, if_true]
        refine hd h2 (by decide) fun v G3 v0 v1 h3 f3 => ?_
        have hU3 := f3.at hU2 nU
        simp -implicitDefEqProofs only [↓mirs]
        by_cases c0 : v = 0
        · simp -implicitDefEqProofs only [c0, decide_true, if_true, ↓mirs, ↓ok_len_ref hU3]
          refine hd h3 ⟨by simp, by rw [List.length_map, List.length_cons]; simp only [List.length_cons] at hlen; omega⟩ fun w G4 w0 w1 h4 f4 => ?_
          refine ok_atAny (f4.at hU3 nU) w0 w1 fun x hx => ?_
          obtain ⟨n, hn, rfl⟩ := List.mem_map.mp hx
          obtain ⟨ds, ld, _, e⟩ := (hns n hn).low
          refine ⟨ds, ld, ?_, h4, (f02.trans f3).trans f4⟩
          rw [← e]
        · simp only [c0, decide_false, if_false, Bool.false_eq_true]
          exact ⟨cs, low, rfl, h3, f02.trans f3⟩
    · rintro σ G3 ⟨ds, ld, rfl, h3, f3⟩
      simp -implicitDefEqProofs only [↓mirs, ↓ok_len_str (show (Sg ds).length ≤ sizeLine by rw [sg_len, sizeLine_val]; have := ld.2.1; omega), sg_len]
      refine hd h3 ⟨by have := ld.1; omega, by have := ld.2.1; omega⟩ fun v G4 v0 v1 h4 f4 => ?_
      obtain ⟨a, rfl⟩ := Int.eq_ofNat_of_zero_le v0
      have ha : a < ds.length := by have := v1; omega
      have f04 : Fr [s] G G4 := f3.trans f4
      have hU4 := f04.at hU nU
      rw [ok_itr1 (by decide)]
      obtain ⟨c0, hc0, ec0⟩ : ∃ c0, c0 < 26 ∧ ds[a]? = some (97 + c0) := by
        have := ld.2.2 ds[a] (List.getElem_mem ha)
        exact ⟨ds[a] - 97, by omega, by rw [List.getElem?_eq_getElem ha]; congr 1; omega⟩
      have start : turnN ds a c0 0 = ds := by
        unfold turnN
        rw [Nat.add_zero, Nat.mod_eq_of_lt hc0]
        apply List.ext_getElem?
        intro i
        by_cases hi : i = a
        · subst hi
          rw [List.getElem?_set_self ha, ec0]
        · rw [List.getElem?_set_ne (Ne.symm hi)]
      refine loop_inv0 26 (fun i σ G5 => ∃ y, σ = [some (.ref s), some (.ref U), some (.str (Sg abcL)), some (.int m), some (.str (Sg (turnN ds a c0 i))), y, some (.int (a : Nat))] ∧ G5 = G4 ∧ ∀ j, j < i → toS (turnN ds a c0 j) ∈ ns) ⟨_, by rw [start], rfl, fun j h => by omega⟩ ?_ ?_
      · rintro σ G5 ⟨y, rfl, rfl, hn⟩
        refine ⟨it_rng_end, ?_⟩
        exfalso
        have nd : ((List.range 26).map fun j => toS (turnN ds a c0 j)).Nodup := by
          rw [List.nodup_iff_pairwise_ne, List.pairwise_map]
          refine List.Pairwise.imp_of_mem ?_ (List.nodup_iff_pairwise_ne.mp List.nodup_range)
          intro i j hi hj ne e
          rw [List.mem_range] at hi hj
          refine ne (turnN_inj ha hi hj (toS_inj (fun c hc => ?_) (fun c hc => ?_) e))
          · have := (turnN_low (a := a) (c0 := c0) (i := i) ld).2.2 c hc; omega
          · have := (turnN_low (a := a) (c0 := c0) (i := j) ld).2.2 c hc; omega
        have := nodup_len _ ns nd fun x hx => by
          obtain ⟨j, hj, rfl⟩ := List.mem_map.mp hx
          exact hn j (List.mem_range.mp hj)
        simp at this
        omega
      · rintro i σ G5 hi ⟨y, rfl, rfl, hn⟩
        refine ⟨_, it_rng hi, ?_⟩
        simp only [↓tk_name5]
        unfold g_law_name_f1
        have lw := turnN_low (a := a) (c0 := c0) (i := i) ld
        simp -implicitDefEqProofs only [↓mirs, lw.sl, ↓ok_notIn_strs hU4]
        by_cases hm : toS (turnN ds a c0 i) ∈ ns
        · simp -implicitDefEqProofs only [hm, decide_true, Bool.not_true, Bool.false_eq_true, if_false, ↓mirs]
          rw [← lw.sl]
          have lt : (turnN ds a c0 i).length ≤ sizeLine := by have := lw.2.1; rw [sizeLine_val]; omega
          have lt' : (Sg (turnN ds a c0 i)).length ≤ sizeLine := by rw [sg_len]; exact lt
          have el : (turnN ds a c0 i).length = ds.length := by unfold turnN; rw [List.length_set]
          have at_ : (turnN ds a c0 i)[a]? = some (97 + (c0 + i) % 26) := by unfold turnN; rw [List.getElem?_set_self ha]
          have md := Nat.mod_lt (c0 + i) (show 26 > 0 by decide)
          have occ : ∀ (P : D → Hd → Prop) (G : Hd), Ok (mIndexA (.str (Sg abcL)) (.str (Sg [97 + (c0 + i) % 26])) G) P = P (.int (((c0 + i) % 26 : Nat) : Int)) G := fun P G => by
            unfold mIndexA
            dsimp only
            rw [sg_len, l26, abc_occ md] <;> rfl
          have b26 : (0 : Int) < 26 := by decide
          have nx : ((((c0 + i) % 26 : Nat) : Int) + 1) % 26 = (((c0 + (i + 1)) % 26 : Nat) : Int) := by omega
          have lt1 : ∀ k, ((turnN ds a c0 i).take k).length ≤ 12 := fun k => by rw [List.length_take]; have := lw.2.1; omega
          have lt2 : ∀ k, ((turnN ds a c0 i).drop k).length ≤ 12 := fun k => by rw [List.length_drop]; have := lw.2.1; omega
          have e1 : ((a : Nat) : Int) + 1 = ((a + 1 : Nat) : Int) := by omega
          have sg1 : (isL G5 (.str (Sg abcL)) || isS (.str (Sg abcL))) = true := rfl
          simp -implicitDefEqProofs only [↓ok_slS lt', cut_to (show a ≤ (turnN ds a c0 i).length by omega), ↓mirs, ↓ok_ma, ↓sg1, if_true, ↓ok_atS lt at_, ↓occ, ↓ok_mod_int b26, nx,
            ↓ok_atS (show abcL.length ≤ sizeLine by rw [l26, sizeLine_val]; omega) (abc_at (Nat.mod_lt (c0 + (i + 1)) (show 26 > 0 by decide))), e1, cut_from (show a + 1 ≤ (turnN ds a c0 i).length by omega)]
          rw [ok_add_str (by rw [sg_len, sg_len, sizeLine_val]; have := lt1 a; simp only [List.length_singleton]; omega), sg_app, ok_add_str (by rw [sg_len, sg_len, sizeLine_val, List.length_append]; have := lt1 a; have := lt2 (a + 1); simp only [List.length_singleton]; omega), sg_app]
          refine ⟨some (.int (0 + (i : Nat))), ?_, rfl, fun j hj => ?_⟩
          · have : (turnN ds a c0 i).take a ++ [97 + (c0 + (i + 1)) % 26] ++ (turnN ds a c0 i).drop (a + 1) = turnN ds a c0 (i + 1) := by
              have e := List.set_eq_take_append_cons_drop (l := turnN ds a c0 i) (i := a) (a := 97 + (c0 + (i + 1)) % 26)
              rw [if_pos (by omega)] at e
              rw [List.append_assoc]
              show (turnN ds a c0 i).take a ++ (97 + (c0 + (i + 1)) % 26) :: (turnN ds a c0 i).drop (a + 1) = _
              rw [← e]
              unfold turnN
              rw [List.set_set]
            rw [this]
          · by_cases hji : j = i
            · subst hji
              exact hm
            · exact hn j (by omega)
        · simp -implicitDefEqProofs only [hm, decide_false, Bool.not_false, if_true, ↓mirs]
          exact hq _ G5 lw.nm hm h4 f04
end D2
end
section
set_option linter.all false
set_option autoImplicit false
set_option maxRecDepth 100000
namespace D2
open PySem L2
section
variable {P : D → Hd → Prop} {G : Hd}
theorem ty_int_non : Ok (fIsTy .int .non G) P = P (.bl false) G := rfl
theorem ty_int_bl {b : Bool} : Ok (fIsTy .int (.bl b) G) P = P (.bl true) G := rfl
theorem ty_int_int {i : Int} : Ok (fIsTy .int (.int i) G) P = P (.bl true) G := rfl
theorem ty_int_str {x : Str} : Ok (fIsTy .int (.str x) G) P = P (.bl false) G := rfl
theorem ty_int_tup {xs : List D} : Ok (fIsTy .int (.tup xs) G) P = P (.bl false) G := rfl
theorem ty_bool_non : Ok (fIsTy .bool .non G) P = P (.bl false) G := rfl
theorem ty_bool_bl {b : Bool} : Ok (fIsTy .bool (.bl b) G) P = P (.bl true) G := rfl
theorem ty_bool_int {i : Int} : Ok (fIsTy .bool (.int i) G) P = P (.bl false) G := rfl
theorem ty_bool_str {x : Str} : Ok (fIsTy .bool (.str x) G) P = P (.bl false) G := rfl
theorem ty_bool_tup {xs : List D} : Ok (fIsTy .bool (.tup xs) G) P = P (.bl false) G := rfl
theorem ty_str_non : Ok (fIsTy .str .non G) P = P (.bl false) G := rfl
theorem ty_str_bl {b : Bool} : Ok (fIsTy .str (.bl b) G) P = P (.bl false) G := rfl
theorem ty_str_int {i : Int} : Ok (fIsTy .str (.int i) G) P = P (.bl false) G := rfl
theorem ty_str_str {x : Str} : Ok (fIsTy .str (.str x) G) P = P (.bl true) G := rfl
theorem ty_str_tup {xs : List D} : Ok (fIsTy .str (.tup xs) G) P = P (.bl false) G := rfl
theorem ty_tuple_non : Ok (fIsTy .tuple .non G) P = P (.bl false) G := rfl
theorem ty_tuple_bl {b : Bool} : Ok (fIsTy .tuple (.bl b) G) P = P (.bl false) G := rfl
theorem ty_tuple_int {i : Int} : Ok (fIsTy .tuple (.int i) G) P = P (.bl false) G := rfl
theorem ty_tuple_str {x : Str} : Ok (fIsTy .tuple (.str x) G) P = P (.bl false) G := rfl
theorem ty_tuple_tup {xs : List D} : Ok (fIsTy .tuple (.tup xs) G) P = P (.bl true) G := rfl
theorem ty_list_non : Ok (fIsTy .list .non G) P = P (.bl false) G := rfl
theorem ty_list_bl {b : Bool} : Ok (fIsTy .list (.bl b) G) P = P (.bl false) G := rfl
theorem ty_list_int {i : Int} : Ok (fIsTy .list (.int i) G) P = P (.bl false) G := rfl
theorem ty_list_str {x : Str} : Ok (fIsTy .list (.str x) G) P = P (.bl false) G := rfl
theorem ty_list_tup {xs : List D} : Ok (fIsTy .list (.tup xs) G) P = P (.bl false) G := rfl
theorem ty_dict_non : Ok (fIsTy .dict .non G) P = P (.bl false) G := rfl
theorem ty_dict_bl {b : Bool} : Ok (fIsTy .dict (.bl b) G) P = P (.bl false) G := rfl
theorem ty_dict_int {i : Int} : Ok (fIsTy .dict (.int i) G) P = P (.bl false) G := rfl
theorem ty_dict_str {x : Str} : Ok (fIsTy .dict (.str x) G) P = P (.bl false) G := rfl
theorem ty_dict_tup {xs : List D} : Ok (fIsTy .dict (.tup xs) G) P = P (.bl false) G := rfl
theorem ok_neg {i : Int} : Ok (opNeg (.int i) G) P = P (.int (-i)) G := rfl
end
namespace C3
end C3
end D2
end
section
set_option linter.all false
set_option autoImplicit false
set_option maxRecDepth 100000
namespace D2
open PySem L2
def pl : Nat → D → Prop
  | 0, _ => False
  | n + 1, d => match d with
    | .non => True
    | .bl _ => True
    | .int _ => True
    | .str x => PyData.strOk x = true
    | .tup xs => xs.length ≤ 1000 ∧ ∀ x ∈ xs, pl n x
    | _ => False
theorem pl_mono : ∀ (n : Nat) (d : D), pl n d → pl (n + 1) d
  | 0, _, h => h.elim
  | n + 1, d, h => by
    cases d with
    | tup xs => exact ⟨h.1, fun x hx => pl_mono n x (h.2 x hx)⟩
    | _ => exact h
theorem pl_le {n m : Nat} (h : n ≤ m) {d : D} (hd : pl n d) : pl m d := by
  induction m with
  | zero => obtain rfl : n = 0 := by omega
            exact hd
  | succ m ih =>
    by_cases e : n = m + 1
    · subst e; exact hd
    · exact pl_mono m d (ih (by omega))
mutual
theorem Ty2.hv_pl : ∀ (t : Ty2) (v : D), t.gd → t.hv v → pl t.dep v
  | .leaf k, v, _, h => by
    cases k with
    | int => obtain ⟨i, rfl, _⟩ := h; exact trivial
    | text => obtain ⟨cs, rfl, _, hc⟩ := h; exact strOk_sg fun c hcs => by have := hc c hcs; omega
    | bool => obtain ⟨b, rfl⟩ := h; exact trivial
  | .opt t, v, g, h => by
    rcases h with rfl | h
    · exact trivial
    · exact pl_mono _ _ (Ty2.hv_pl t v g.1 h)
  | .lst t, v, g, h => by
    obtain ⟨vs, rfl, hl, h⟩ := h
    exact ⟨by omega, fun x hx => Ty2.hv_pl t x g (h x hx)⟩
  | .rcd f, v, g, h => by
    obtain ⟨vs, rfl, h⟩ := h
    refine ⟨?_, Fs.hv_pl f vs g.1 h⟩
    have := f.hv_length vs h
    have := g.2.2.1
    omega
theorem Fs.hv_pl : ∀ (f : Fs) (vs : List D), f.gd → f.hv vs → ∀ v ∈ vs, pl f.dep v
  | .nil, vs, _, h, v, hv => by rw [show vs = [] from h] at hv; simp at hv
  | .cons n t r, vs, g, h, v, hv => by
    obtain ⟨w, ws, rfl, h1, h2⟩ := h
    rw [Fs.dep]
    rcases List.mem_cons.mp hv with rfl | hv
    · exact pl_le (Nat.le_max_left ..) (Ty2.hv_pl t v g.2.1 h1)
    · exact pl_le (Nat.le_max_right ..) (Fs.hv_pl r ws g.2.2 h2 v hv)
end
def g_law_same (f_law_same : Fn) : S :=
  (sSeq (sIf (tTru (eOp1 (fIsTy .list) (eVar 1)))
    (sSeq (sIf (tOr (tNot (tTru (eOp1 (fIsTy .list) (eVar 0)))) (tBl (eOp2 cNe (eOp1 fLen (eVar 0)) (eOp1 fLen (eVar 1)))))
    (sRet (eC (.bl false)))
    sNil)
  (sRet (eOp1 fAll (eLc [2] (iRng1 (eOp1 fLen (eVar 1))) (gName 2) tYes (eCall f_law_same (aCons (eOp2 atD (eVar 0) (eVar 2)) (aCons (eOp2 atD (eVar 1) (eVar 2)) aNil)))))))
    sNil)
  (sSeq (sIf (tTru (eOp1 (fIsTy .tuple) (eVar 1)))
    (sSeq (sIf (tOr (tNot (tTru (eOp1 (fIsTy .tuple) (eVar 0)))) (tBl (eOp2 cNe (eOp1 fLen (eVar 0)) (eOp1 fLen (eVar 1)))))
    (sRet (eC (.bl false)))
    sNil)
  (sRet (eOp1 fAll (eLc [2] (iRng1 (eOp1 fLen (eVar 1))) (gName 2) tYes (eCall f_law_same (aCons (eOp2 atD (eVar 0) (eVar 2)) (aCons (eOp2 atD (eVar 1) (eVar 2)) aNil)))))))
    sNil)
  (sSeq (sIf (tBl (eOp2 cIs (eVar 1) (eC .non)))
    (sRet (eOp2 cIs (eVar 0) (eC .non)))
    sNil)
  (sSeq (sIf (tTru (eOp1 (fIsTy .bool) (eVar 1)))
    (sRet (eAnd (eOp1 (fIsTy .bool) (eVar 0)) (eOp2 cEq (eVar 0) (eVar 1))))
    sNil)
  (sSeq (sIf (tTru (eOp1 (fIsTy .str) (eVar 1)))
    (sRet (eAnd (eOp1 (fIsTy .str) (eVar 0)) (eOp2 cEq (eVar 0) (eVar 1))))
    sNil)
  (sRet (eAnd (eOp1 (fIsTy .int) (eVar 0)) (eAnd (eNot (eOp1 (fIsTy .bool) (eVar 0))) (eOp2 cEq (eVar 0) (eVar 1))))))))))
mutual
def Ty2.pd : Ty2 → PyData
  | .leaf k => .tuple [.str (Str.ofString k.s)]
  | .rcd f => .tuple [.str (Str.ofString "rec"), .tuple f.pd]
  | .lst t => .tuple [.str (Str.ofString "list"), t.pd]
  | .opt t => .tuple [.str (Str.ofString "opt"), t.pd]
def Fs.pd : Fs → List PyData
  | .nil => []
  | .cons n t r => .tuple [.str (Str.ofString n), t.pd] :: r.pd
end
theorem pyD_sl {n : Nat} {G : Hd} {s : String} : pyD (n + 1) G (sl s) = some (.str (Str.ofString s)) := by
  show (if PyData.strOk (Str.ofString s) = true then some (PyData.str (Str.ofString s)) else none) = _
  rw [if_pos (strOk_sl _)]
theorem pyD_pair {n : Nat} {G : Hd} {s : String} {d : D} {p : PyData} (h : pyD (n + 1) G d = some p) : pyD (n + 2) G (.tup [sl s, d]) = some (.tuple [.str (Str.ofString s), p]) := by
  show (pyL (pyD (n + 1) G) [sl s, d]).map PyData.tuple = _
  unfold pyL
  rw [pyD_sl]
  unfold pyL
  rw [h]
  rfl
mutual
theorem Ty2.pyD_pd : ∀ (t : Ty2) (n : Nat) (G : Hd), 4 * t.dep ≤ n → pyD n G t.enc = some t.pd
  | .leaf k, n, G, h => by
    rw [Ty2.dep] at h
    obtain ⟨n, rfl⟩ : ∃ m, n = m + 2 := ⟨n - 2, by omega⟩
    show (pyL (pyD (n + 1) G) [sl k.s]).map PyData.tuple = _
    unfold pyL
    rw [pyD_sl]
    rfl
  | .lst t, n, G, h => by
    rw [Ty2.dep] at h
    obtain ⟨n, rfl⟩ : ∃ m, n = m + 2 := ⟨n - 2, by omega⟩
    exact pyD_pair (Ty2.pyD_pd t (n + 1) G (by omega))
  | .opt t, n, G, h => by
    rw [Ty2.dep] at h
    obtain ⟨n, rfl⟩ : ∃ m, n = m + 2 := ⟨n - 2, by omega⟩
    exact pyD_pair (Ty2.pyD_pd t (n + 1) G (by omega))
  | .rcd f, n, G, h => by
    rw [Ty2.dep] at h
    obtain ⟨n, rfl⟩ : ∃ m, n = m + 4 := ⟨n - 4, by omega⟩
    refine pyD_pair (n := n + 2) (p := .tuple f.pd) ?_
    show (pyL (pyD (n + 2) G) f.enc).map PyData.tuple = _
    rw [Fs.pyD_pd f (n + 2) G (by omega)]
    rfl
theorem Fs.pyD_pd : ∀ (f : Fs) (n : Nat) (G : Hd), 4 * f.dep + 1 ≤ n → pyL (pyD n G) f.enc = some f.pd
  | .nil, _, _, _ => rfl
  | .cons m t r, n, G, h => by
    rw [Fs.dep] at h
    have h1 := t.dep_pos
    have e := Fs.pyD_pd r n G (by omega)
    obtain ⟨n, rfl⟩ : ∃ m, n = m + 2 := ⟨n - 2, by omega⟩
    rw [Fs.enc, Fs.pd]
    unfold pyL
    rw [pyD_pair (Ty2.pyD_pd t (n + 1) G (by omega)), e]
end
def LoW (s : String) : Prop := s.toList.length ≤ 12 ∧ ∀ c ∈ s.toList, 97 ≤ c.toNat ∧ c.toNat ≤ 122
theorem NmOk.lw {n : String} (h : NmOk n) : LoW n := ⟨h.2.1, h.2.2⟩
theorem kd_lw (k : Kd) : LoW k.s := by cases k <;> (unfold LoW; decide)
theorem rec_lw : LoW "rec" := by unfold LoW; decide
theorem list_lw : LoW "list" := by unfold LoW; decide
theorem opt_lw : LoW "opt" := by unfold LoW; decide
open PySem.Builtin.Str in
theorem repr_low {q c : Nat} (hq : q = 34 ∨ q = 39) (h : 97 ≤ c ∧ c ≤ 122) : reprChar q c = [c] := by
  have all : (List.range 26).all (fun k => decide (reprChar 34 (97 + k) = [97 + k]) && decide (reprChar 39 (97 + k) = [97 + k])) = true := by decide +kernel
  have := List.all_eq_true.mp all (c - 97) (List.mem_range.mpr (by omega))
  obtain ⟨h1, h2⟩ := Bool.and_eq_true_iff.mp this
  have e : 97 + (c - 97) = c := by omega
  rw [e] at h1 h2
  rcases hq with rfl | rfl
  · exact of_decide_eq_true h1
  · exact of_decide_eq_true h2
open PySem.Builtin.Str in
theorem foldl_low {q : Nat} (hq : q = 34 ∨ q = 39) : ∀ (l : List Nat) (acc : Array Nat), (∀ c ∈ l, 97 ≤ c ∧ c ≤ 122) → l.foldl (fun out c => out ++ (reprChar q c).toArray) acc = acc ++ l.toArray
  | [], acc, _ => by simp
  | c :: r, acc, h => by
    rw [List.foldl_cons, foldl_low hq r _ fun d hd => h d (List.mem_cons_of_mem _ hd), repr_low hq (h c (List.mem_cons_self ..))]
    simp
def Tx (n : Nat) (x : Str) : Prop := PyData.strOk x = true ∧ x.length ≤ n
theorem Tx.app {n m : Nat} {a b : Str} (ha : Tx n a) (hb : Tx m b) : Tx (n + m) (a ++ b) := ⟨strOk_app ha.1 hb.1, by rw [PySem.strLen_append]; have := ha.2; have := hb.2; omega⟩
theorem Tx.mono {n m : Nat} {a : Str} (ha : Tx n a) (h : n ≤ m) : Tx m a := ⟨ha.1, Nat.le_trans ha.2 h⟩
open PySem.Builtin.Str in
theorem repr_tx {s : String} (h : LoW s) : Tx 14 (reprText (Str.ofString s)) := by
  have e : Str.ofString s = Sg (s.toList.map Char.toNat) := Str.ofString_eq_toList s
  have lo : ∀ c ∈ s.toList.map Char.toNat, 97 ≤ c ∧ c ≤ 122 := fun c hc => by
    obtain ⟨k, hk, rfl⟩ := List.mem_map.mp hc
    exact h.2 k hk
  have l12 : (s.toList.map Char.toNat).length ≤ 12 := by rw [List.length_map]; exact h.1
  rw [e]
  generalize s.toList.map Char.toNat = cs at lo l12
  obtain ⟨q, hq, eq⟩ : ∃ q, (q = 34 ∨ q = 39) ∧ reprText (Sg cs) = Sg (q :: cs ++ [q]) := by
    refine ⟨reprQuote (Sg cs), ?_, ?_⟩
    · unfold reprQuote
      split
      · exact .inl rfl
      · exact .inr rfl
    · have hq : reprQuote (Sg cs) = 34 ∨ reprQuote (Sg cs) = 39 := by
        unfold reprQuote
        split
        · exact .inl rfl
        · exact .inr rfl
      unfold reprText
      generalize reprQuote (Sg cs) = q at hq
      show (⟨((cs.toArray).foldl (fun out c => out ++ (reprChar q c).toArray) #[q]).push q⟩ : Str) = _
      rw [← Array.foldl_toList]
      show (⟨((cs).foldl (fun out c => out ++ (reprChar q c).toArray) #[q]).push q⟩ : Str) = _
      rw [foldl_low hq cs _ lo]
      simp [Sg]
  rw [eq]
  refine ⟨strOk_sg fun c hc => ?_, by rw [sg_len]; simp; omega⟩
  simp at hc
  rcases hc with rfl | hc | rfl
  · omega
  · have := lo c hc; omega
  · omega
theorem join_tx {n : Nat} {s : Str} (hs : Tx 2 s) : ∀ ts : List Str, (∀ t ∈ ts, Tx n t) → Tx (ts.length * (n + 2)) (Str.join s ts)
  | [], _ => ⟨show PyData.strOk Str.empty = true by decide +kernel, Nat.zero_le _⟩
  | [x], h => (h x (by simp)).mono (by simp only [List.length_singleton]; omega)
  | x :: y :: r, h => by
    unfold Str.join
    refine (((h x (by simp)).app hs).app (join_tx hs (y :: r) fun t ht => h t (List.mem_cons_of_mem _ ht))).mono ?_
    simp only [List.length_cons, Nat.add_mul]
    omega
theorem lit_tx {s : String} {n : Nat} (h : (Str.ofString s).length ≤ n) : Tx n (Str.ofString s) := ⟨strOk_lit s, h⟩
theorem tup_tx {n : Nat} {ts : List Str} (h : ∀ t ∈ ts, Tx n t) : Tx (ts.length * (n + 2) + 3) (tupleText ts) := by
  unfold tupleText
  refine (((lit_tx (s := "(") (n := 1) (by decide +kernel)).app (join_tx (lit_tx (s := ", ") (by decide +kernel)) ts h)).app (m := 2) ?_).mono (by omega)
  split
  · exact lit_tx (by decide +kernel)
  · exact lit_tx (by decide +kernel)
mutual
def Ty2.tl : Ty2 → Nat
  | .leaf _ => 40
  | .rcd f => f.tl + 80
  | .lst t => t.tl + 80
  | .opt t => t.tl + 80
def Fs.tl : Fs → Nat
  | .nil => 0
  | .cons _ t r => t.tl + 80 + r.tl
end
theorem one_tx {s : String} (h : LoW s) : Tx 40 (PyData.tuple [.str (Str.ofString s)]).shown := by
  simp only [PyData.shown, PyData.shownAll]
  exact (tup_tx (n := 14) fun t ht => by simp at ht; subst ht; exact repr_tx h).mono (by simp only [List.length_singleton]; omega)
theorem join2_tx {n m : Nat} {s a b : Str} (hs : Tx 2 s) (ha : Tx n a) (hb : Tx m b) : Tx (n + 2 + m) (Str.join s [a, b]) := by
  unfold Str.join
  exact (ha.app hs).app hb
theorem two_tx {s : String} {p : PyData} {n : Nat} (h : LoW s) (hp : Tx n p.shown) : Tx (n + 40) (PyData.tuple [.str (Str.ofString s), p]).shown := by
  simp only [PyData.shown, PyData.shownAll]
  unfold tupleText
  refine (((lit_tx (s := "(") (n := 1) (by decide +kernel)).app (join2_tx (lit_tx (s := ", ") (by decide +kernel)) (repr_tx h) hp)).app (m := 2) ?_).mono (by omega)
  split
  · exact lit_tx (by decide +kernel)
  · exact lit_tx (by decide +kernel)
theorem joins_tx {s : Str} (hs : Tx 2 s) : ∀ (ts : List Str) (ns : List Nat), ts.length = ns.length → (∀ (i : Nat) (t : Str) (n : Nat), ts[i]? = some t → ns[i]? = some n → Tx n t) → Tx (ns.sum + 2 * ns.length) (Str.join s ts)
  | [], _, _, _ => ⟨show PyData.strOk Str.empty = true by decide +kernel, Nat.zero_le _⟩
  | [x], [], h, _ => by cases h
  | [x], n :: ns, _, h => (h 0 x n rfl rfl).mono (by simp only [List.sum_cons]; omega)
  | x :: y :: r, [], h, _ => by cases h
  | x :: y :: r, n :: ns, hl, h => by
    unfold Str.join
    refine (((h 0 x n rfl rfl).app hs).app (joins_tx hs (y :: r) ns (by simpa using hl) fun i t m h1 h2 => h (i + 1) t m (by simpa using h1) (by simpa using h2))).mono ?_
    simp only [List.length_cons, List.sum_cons]
    omega
def Fs.tls : Fs → List Nat
  | .nil => []
  | .cons _ t r => (t.tl + 40) :: r.tls
theorem Fs.tls_sum : ∀ f : Fs, f.tls.sum + 40 * f.tls.length = f.tl
  | .nil => rfl
  | .cons _ t r => by rw [Fs.tls, Fs.tl, List.sum_cons, List.length_cons, ← Fs.tls_sum r]; omega
mutual
theorem Ty2.tx : ∀ t : Ty2, t.gd → Tx t.tl t.pd.shown
  | .leaf k, _ => by rw [Ty2.pd, Ty2.tl]; exact one_tx (kd_lw k)
  | .lst t, g => by rw [Ty2.pd, Ty2.tl]; exact (two_tx list_lw (Ty2.tx t g)).mono (by omega)
  | .opt t, g => by rw [Ty2.pd, Ty2.tl]; exact (two_tx opt_lw (Ty2.tx t g.1)).mono (by omega)
  | .rcd f, g => by
    rw [Ty2.pd, Ty2.tl]
    have : Tx (f.tl + 5) (PyData.tuple f.pd).shown := by
      simp only [PyData.shown]
      unfold tupleText
      have hl := Fs.tx_len f
      have e := f.tls_sum
      refine (((lit_tx (s := "(") (n := 1) (by decide +kernel)).app (joins_tx (lit_tx (s := ", ") (by decide +kernel)) (PyData.shownAll f.pd) f.tls hl (Fs.tx f g.1))).app (m := 2) ?_).mono (by omega)
      split
      · exact lit_tx (by decide +kernel)
      · exact lit_tx (by decide +kernel)
    exact (two_tx rec_lw this).mono (by omega)
theorem Fs.tx_len : ∀ f : Fs, (PyData.shownAll f.pd).length = f.tls.length
  | .nil => rfl
  | .cons n t r => by rw [Fs.pd, Fs.tls]; simp only [PyData.shownAll, List.length_cons, Fs.tx_len r]
theorem Fs.tx : ∀ f : Fs, f.gd → ∀ (i : Nat) (t : Str) (n : Nat), (PyData.shownAll f.pd)[i]? = some t → f.tls[i]? = some n → Tx n t
  | .nil, _, i, t, n, h, _ => by simp [Fs.pd, PyData.shownAll] at h
  | .cons m t r, g, i, x, n, h1, h2 => by
    rw [Fs.pd] at h1
    rw [Fs.tls] at h2
    rw [PyData.shownAll] at h1
    cases i with
    | zero =>
      simp at h1 h2
      subst h1 h2
      exact two_tx g.1.lw (Ty2.tx t g.2.1)
    | succ i => exact Fs.tx r g.2.2 i x n (by simpa using h1) (by simpa using h2)
end
mutual
theorem Ty2.nl_pos' : ∀ t : Ty2, t.gd → 1 ≤ t.nl
  | .leaf _, _ => Nat.le_refl _
  | .lst t, g => Ty2.nl_pos' t g
  | .opt t, g => Ty2.nl_pos' t g.1
  | .rcd f, g => Fs.nl_pos' f g.1 g.2.2.2
theorem Fs.nl_pos' : ∀ f : Fs, f.gd → f.names ≠ [] → 1 ≤ f.nl
  | .nil, _, h => absurd rfl h
  | .cons _ t r, g, _ => by
    have := Ty2.nl_pos' t g.2.1
    rw [Fs.nl]
    omega
end
mutual
theorem Ty2.tl_le : ∀ t : Ty2, t.gd → t.tl ≤ 200 * t.dep * t.nl
  | .leaf _, _ => by rw [Ty2.tl, Ty2.dep, Ty2.nl]; omega
  | .lst t, g => by
    have := Ty2.tl_le t g
    have := Ty2.nl_pos' t g
    rw [Ty2.tl, Ty2.dep, Ty2.nl, Nat.mul_add, Nat.add_mul]
    generalize 200 * t.dep * t.nl = z at *
    omega
  | .opt t, g => by
    have := Ty2.tl_le t g.1
    have := Ty2.nl_pos' t g.1
    rw [Ty2.tl, Ty2.dep, Ty2.nl, Nat.mul_add, Nat.add_mul]
    generalize 200 * t.dep * t.nl = z at *
    omega
  | .rcd f, g => by
    have := Fs.tl_le f f.dep (Nat.le_refl _) g.1
    have := Fs.nl_pos' f g.1 g.2.2.2
    rw [Ty2.tl, Ty2.dep, Ty2.nl, Nat.mul_add, Nat.add_mul]
    generalize 200 * f.dep * f.nl = z at *
    omega
theorem Fs.tl_le : ∀ (f : Fs) (n : Nat), f.dep ≤ n → f.gd → f.tl ≤ 200 * n * f.nl + 80 * f.nl
  | .nil, n, _, _ => by rw [Fs.tl]; exact Nat.zero_le _
  | .cons _ t r, n, h, g => by
    rw [Fs.dep] at h
    have h1 := Fs.tl_le r n (by omega) g.2.2
    have h2 := Ty2.tl_le t g.2.1
    have h3 : 200 * t.dep * t.nl ≤ 200 * n * t.nl := Nat.mul_le_mul_right _ (Nat.mul_le_mul_left _ (by omega))
    have h4 := Ty2.nl_pos' t g.2.1
    rw [Fs.tl, Fs.nl, Nat.mul_add, Nat.mul_add]
    generalize 200 * t.dep * t.nl = z1 at *
    generalize 200 * n * t.nl = z2 at *
    generalize 200 * n * r.nl = z3 at *
    omega
end
mutual
theorem Ty2.pd_show : ∀ t : Ty2, t.pd.showable = true ∧ t.pd.hasDict = false ∧ t.pd.depth ≤ 3 * t.dep
  | .leaf k => ⟨rfl, rfl, by rw [Ty2.pd, Ty2.dep]; simp [PyData.depth, PyData.depthAll]⟩
  | .lst t => by
    obtain ⟨h1, h2, h3⟩ := Ty2.pd_show t
    rw [Ty2.pd, Ty2.dep]
    refine ⟨?_, ?_, ?_⟩
    · simp only [PyData.showable, PyData.showableAll, h1, Bool.and_true]
    · simp only [PyData.hasDict, PyData.hasDictAll, h2, Bool.or_false]
    · simp only [PyData.depth, PyData.depthAll]; omega
  | .opt t => by
    obtain ⟨h1, h2, h3⟩ := Ty2.pd_show t
    rw [Ty2.pd, Ty2.dep]
    refine ⟨?_, ?_, ?_⟩
    · simp only [PyData.showable, PyData.showableAll, h1, Bool.and_true]
    · simp only [PyData.hasDict, PyData.hasDictAll, h2, Bool.or_false]
    · simp only [PyData.depth, PyData.depthAll]; omega
  | .rcd f => by
    obtain ⟨h1, h2, h3⟩ := Fs.pd_show f
    rw [Ty2.pd, Ty2.dep]
    refine ⟨?_, ?_, ?_⟩
    · simp only [PyData.showable, PyData.showableAll, h1, Bool.and_true]
    · simp only [PyData.hasDict, PyData.hasDictAll, h2, Bool.or_false]
    · simp only [PyData.depth, PyData.depthAll]; omega
theorem Fs.pd_show : ∀ f : Fs, PyData.showableAll f.pd = true ∧ PyData.hasDictAll f.pd = false ∧ PyData.depthAll f.pd ≤ 3 * f.dep + 1
  | .nil => ⟨rfl, rfl, Nat.zero_le _⟩
  | .cons n t r => by
    obtain ⟨h1, h2, h3⟩ := Ty2.pd_show t
    obtain ⟨g1, g2, g3⟩ := Fs.pd_show r
    rw [Fs.pd, Fs.dep]
    refine ⟨?_, ?_, ?_⟩
    · simp only [PyData.showable, PyData.showableAll, h1, g1, Bool.and_true]
    · simp only [PyData.hasDict, PyData.hasDictAll, h2, g2, Bool.or_false]
    · simp only [PyData.depth, PyData.depthAll]; omega
end
end D2
end
section
set_option linter.all false
set_option autoImplicit false
set_option maxRecDepth 100000
namespace D2
open PySem L2
mutual
def Ty2.nm : Ty2 → Prop
  | .leaf _ => True
  | .rcd f => f.nm
  | .lst t => t.nm
  | .opt t => t.nm
def Fs.nm : Fs → Prop
  | .nil => True
  | .cons n t r => NmOk n ∧ t.nm ∧ r.nm
end
mutual
def Ty2.cnt : Ty2 → Int → Int
  | .leaf _, d => if 8 < d then 1000 else 1
  | .opt t, d => if 8 < d then 1000 else if t.isOpt = true then 1000 else t.cnt (d + 1)
  | .lst t, d => if 8 < d then 1000 else t.cnt (d + 1)
  | .rcd f, d => if 8 < d then 1000 else if 1 ≤ f.names.length ∧ f.names.length ≤ 8 then (if f.names.Nodup then f.cnt (d + 1) else 1000) else 1000
def Fs.cnt : Fs → Int → Int
  | .nil, _ => 0
  | .cons _ t r, d => t.cnt d + r.cnt d
end
mutual
theorem Ty2.cnt_pos : ∀ (t : Ty2) (d : Int), t.gd ∨ True → 0 ≤ t.cnt d
  | .leaf _, d, _ => by unfold Ty2.cnt; split <;> omega
  | .opt t, d, _ => by
    have := Ty2.cnt_pos t (d + 1) (.inr trivial)
    unfold Ty2.cnt
    split
    · omega
    · split <;> omega
  | .lst t, d, _ => by
    have := Ty2.cnt_pos t (d + 1) (.inr trivial)
    unfold Ty2.cnt
    split <;> omega
  | .rcd f, d, _ => by
    have := Fs.cnt_pos f (d + 1)
    unfold Ty2.cnt
    split
    · omega
    · split
      · split <;> omega
      · omega
theorem Fs.cnt_pos : ∀ (f : Fs) (d : Int), 0 ≤ f.cnt d
  | .nil, _ => Int.le_refl _
  | .cons _ t r, d => by
    have := Ty2.cnt_pos t d (.inr trivial)
    have := Fs.cnt_pos r d
    rw [Fs.cnt]
    omega
end
mutual
theorem Ty2.cnt_gd : ∀ (t : Ty2) (d : Int), t.nm → t.cnt d ≤ 24 → t.gd ∧ (t.dep : Int) + d ≤ 9 ∧ t.cnt d = t.nl
  | .leaf _, d, _, h => by
    unfold Ty2.cnt at h ⊢
    split at h
    · omega
    · rename_i h8
      rw [if_neg h8]
      exact ⟨trivial, by rw [Ty2.dep]; omega, rfl⟩
  | .opt t, d, n, h => by
    unfold Ty2.cnt at h ⊢
    split at h
    · omega
    · rename_i h8
      split at h
      · omega
      · rename_i ho
        obtain ⟨h1, h2, h3⟩ := Ty2.cnt_gd t (d + 1) n h
        rw [if_neg h8, if_neg ho]
        exact ⟨⟨h1, by simpa using ho⟩, by rw [Ty2.dep]; omega, h3⟩
  | .lst t, d, n, h => by
    unfold Ty2.cnt at h ⊢
    split at h
    · omega
    · rename_i h8
      obtain ⟨h1, h2, h3⟩ := Ty2.cnt_gd t (d + 1) n h
      rw [if_neg h8]
      exact ⟨h1, by rw [Ty2.dep]; omega, h3⟩
  | .rcd f, d, n, h => by
    unfold Ty2.cnt at h ⊢
    split at h
    · omega
    · rename_i h8
      split at h
      · rename_i hl
        split at h
        · rename_i nd
          obtain ⟨h1, h2, h3⟩ := Fs.cnt_gd f (d + 1) n h
          rw [if_neg h8, if_pos hl, if_pos nd]
          have ne : f.names ≠ [] := fun e => by rw [e] at hl; simp at hl
          exact ⟨⟨h1, nd, hl.2, ne⟩, by rw [Ty2.dep]; have := h2 ne; omega, h3⟩
        · omega
      · omega
theorem Fs.cnt_gd : ∀ (f : Fs) (d : Int), f.nm → f.cnt d ≤ 24 → f.gd ∧ (f.names ≠ [] → (f.dep : Int) + d ≤ 9) ∧ f.cnt d = f.nl
  | .nil, d, _, _ => ⟨trivial, fun h => absurd rfl h, rfl⟩
  | .cons m t r, d, n, h => by
    rw [Fs.cnt] at h
    have p1 := Ty2.cnt_pos t d (.inr trivial)
    have p2 := Fs.cnt_pos r d
    obtain ⟨h1, h2, h3⟩ := Ty2.cnt_gd t d n.2.1 (by omega)
    obtain ⟨g1, g2, g3⟩ := Fs.cnt_gd r d n.2.2 (by omega)
    refine ⟨⟨n.1, h1, g1⟩, fun _ => ?_, by rw [Fs.cnt, Fs.nl, h3, g3]; omega⟩
    rw [Fs.dep]
    cases r with
    | nil => have : Fs.dep .nil = 0 := rfl; rw [this]; omega
    | cons m' t' r' => have := g2 (by simp [Fs.names]); omega
end
section
variable {P : D → Hd → Prop} {PI : ItD → Hd → Prop} {σ : Sd} {G : Hd}
theorem ok_chain {f g : D → D → M D} {a b c : E} : Ok (eChain f g a b c σ G) P = Ok (a σ G) fun x G1 => Ok (b σ G1) fun y G2 => Ok (f x y G2) fun z G3 => match z with
    | .bl true => Ok (c σ G3) fun w G4 => Ok (g y w G4) P
    | .bl false => P (.bl false) G3
    | _ => False := by
  unfold eChain
  rw [ok_bnd]
  congr 1
  funext x G1
  rw [ok_bnd]
  congr 1
  funext y G2
  rw [ok_bnd]
  congr 1
  funext z G3
  cases z with
  | bl b => cases b <;> first | rfl | rw [ok_bnd]
  | _ => rfl
theorem ok_chain_le {lo hi : Int} {n : Int} {b : E} (hb : ∀ Q : D → Hd → Prop, Ok (b σ G) Q = Q (.int n) G) : Ok (eChain cLe cLe (eC (.int lo)) b (eC (.int hi)) σ G) P = P (.bl (decide (lo ≤ n ∧ n ≤ hi))) G := by
  rw [ok_chain, ok_c, hb, ok_le_int]
  by_cases h : lo ≤ n
  · rw [decide_eq_true h]
    show P (.bl (decide (n ≤ hi))) G = _
    simp [h]
  · rw [decide_eq_false h]
    show P (.bl false) G = _
    simp [h]
theorem ok_itof_str {x : Str} : Ok (itOf (.str x) G) PI = PI (jSeq (strSeq x)) G := rfl
theorem len_1 {α : Type} {a : α} : (([a].length : Nat) : Int) = 1 := rfl
theorem len_2 {α : Type} {a b : α} : (([a, b].length : Nat) : Int) = 2 := rfl
theorem strSeq_sg (cs : List Nat) : strSeq (Sg cs) = cs.map fun c => D.str (Sg [c]) := rfl
end
def g_law_is_name : S :=
  (sSeq (sIf (tOr (tNot (tTru (eOp1 (fIsTy .str) (eVar 0)))) (tNot (tBl (eChain cLe cLe (eC (.int 1)) (eOp1 fLen (eVar 0)) (eC (.int 12))))))
    (sRet (eC (.bl false)))
    sNil)
  (sRet (eOp1 fAll (eLc [1] (iOf (eVar 0)) (gName 1) tYes (eOp2 cIn (eVar 1) (eC (.str (Str.ofString "abcdefghijklmnopqrstuvwxyz"))))))))
def g_law_count_f1 (f_law_is_name f_law_count : Fn) : S :=
  (sSeq (sIf (tOr (tNot (tTru (eOp1 (fIsTy .tuple) (eVar 4)))) (tOr (tBl (eOp2 cNe (eOp1 fLen (eVar 4)) (eC (.int 2)))) (tOr (tNot (tTru (eCall f_law_is_name (aCons (eOp2 atD (eVar 4) (eC (.int 0))) aNil)))) (tBl (eOp2 cIn (eOp2 atD (eVar 4) (eC (.int 0))) (eVar 3))))))
    (sRet (eC (.int 1000)))
    sNil)
  (sSeq (sExpr (eMl mAppend (eVar 3) (eOp2 atD (eVar 4) (eC (.int 0)))))
  (sSet 2 (eOp2 opAdd (eVar 2) (eCall f_law_count (aCons (eOp2 atD (eVar 4) (eC (.int 1))) (aCons (eOp2 opAdd (eVar 1) (eC (.int 1))) aNil)))))))
def g_law_count (f_law_count f_law_is_name : Fn) : S :=
  (sSeq (sIf (tOr (tNot (tTru (eOp1 (fIsTy .tuple) (eVar 0)))) (tOr (tBl (eOp2 cLt (eOp1 fLen (eVar 0)) (eC (.int 1)))) (tOr (tNot (tTru (eOp1 (fIsTy .str) (eOp2 atD (eVar 0) (eC (.int 0)))))) (tBl (eOp2 cGt (eVar 1) (eC (.int 8)))))))
    (sRet (eC (.int 1000)))
    sNil)
  (sSeq (sIf (tBl (eOp2 cIn (eOp2 atD (eVar 0) (eC (.int 0))) (eTup (aCons (eC (.str (Str.ofString "int"))) (aCons (eC (.str (Str.ofString "text"))) (aCons (eC (.str (Str.ofString "bool"))) aNil))))))
    (sSeq (sIf (tBl (eOp2 cEq (eOp1 fLen (eVar 0)) (eC (.int 1))))
    (sRet (eC (.int 1)))
    sNil)
  (sRet (eC (.int 1000))))
    sNil)
  (sSeq (sIf (tOr (tBl (eOp2 cNe (eOp1 fLen (eVar 0)) (eC (.int 2)))) (tBl (eOp2 cNotIn (eOp2 atD (eVar 0) (eC (.int 0))) (eTup (aCons (eC (.str (Str.ofString "rec"))) (aCons (eC (.str (Str.ofString "opt"))) (aCons (eC (.str (Str.ofString "list"))) aNil)))))))
    (sRet (eC (.int 1000)))
    sNil)
  (sSeq (sIf (tBl (eOp2 cNe (eOp2 atD (eVar 0) (eC (.int 0))) (eC (.str (Str.ofString "rec")))))
    (sSeq (sIf (tAnd (tBl (eOp2 cEq (eOp2 atD (eVar 0) (eC (.int 0))) (eC (.str (Str.ofString "opt"))))) (tAnd (tTru (eOp1 (fIsTy .tuple) (eOp2 atD (eVar 0) (eC (.int 1))))) (tAnd (tBl (eOp2 cGt (eOp1 fLen (eOp2 atD (eVar 0) (eC (.int 1)))) (eC (.int 0)))) (tBl (eOp2 cEq (eOp2 atD (eOp2 atD (eVar 0) (eC (.int 1))) (eC (.int 0))) (eC (.str (Str.ofString "opt"))))))))
    (sRet (eC (.int 1000)))
    sNil)
  (sRet (eCall f_law_count (aCons (eOp2 atD (eVar 0) (eC (.int 1))) (aCons (eOp2 opAdd (eVar 1) (eC (.int 1))) aNil)))))
    sNil)
  (sSeq (sIf (tOr (tNot (tTru (eOp1 (fIsTy .tuple) (eOp2 atD (eVar 0) (eC (.int 1)))))) (tNot (tBl (eChain cLe cLe (eC (.int 1)) (eOp1 fLen (eOp2 atD (eVar 0) (eC (.int 1)))) (eC (.int 8))))))
    (sRet (eC (.int 1000)))
    sNil)
  (sSeq (sSet 2 (eC (.int 0)))
  (sSeq (sSet 3 (eLst aNil))
  (sSeq (sFor (iOf (eOp2 atD (eVar 0) (eC (.int 1)))) (gName 4) (g_law_count_f1 f_law_is_name f_law_count))
  (sRet (eVar 2))))))))))
def g_law_is_schema (f_law_count : Fn) : S :=
  (sSeq (sIf (tOr (tNot (tTru (eOp1 (fIsTy .tuple) (eVar 0)))) (tOr (tBl (eOp2 cNe (eOp1 fLen (eVar 0)) (eC (.int 2)))) (tBl (eOp2 cNe (eOp2 atD (eVar 0) (eC (.int 0))) (eC (.str (Str.ofString "rec")))))))
    (sRet (eC (.bl false)))
    sNil)
  (sRet (eOp2 cLe (eCall f_law_count (aCons (eVar 0) (aCons (eC (.int 1)) aNil))) (eC (.int 24)))))
structure Sc (t : Ty2) : Prop where
  gd : t.gd
  dep : t.dep ≤ 8
  nl : t.nl ≤ 24
  rcd : t.isRcd = true
theorem Sc.of {t : Ty2} (n : t.nm) (h : (t.isRcd && decide (t.cnt 1 ≤ 24)) = true) : Sc t := by
  obtain ⟨h1, h2⟩ := Bool.and_eq_true_iff.mp h
  obtain ⟨g, d, e⟩ := t.cnt_gd 1 n (of_decide_eq_true h2)
  have := of_decide_eq_true h2
  exact ⟨g, by omega, by omega, h1⟩
end D2
end
section
set_option linter.all false
set_option autoImplicit false
set_option maxRecDepth 100000
namespace D2
open PySem L2
theorem Fs.of_gd : ∀ l : List (String × Ty2), (∀ p ∈ l, NmOk p.1 ∧ p.2.gd) → (Fs.of l).gd
  | [], _ => trivial
  | p :: r, h => ⟨(h p (List.mem_cons_self ..)).1, (h p (List.mem_cons_self ..)).2, Fs.of_gd r fun q hq => h q (List.mem_cons_of_mem _ hq)⟩
theorem Fs.of_nl {q : Nat} : ∀ l : List (String × Ty2), (∀ p ∈ l, p.2.nl ≤ q) → (Fs.of l).nl ≤ l.length * q
  | [], _ => Nat.zero_le _
  | p :: r, h => by
    have h1 := h p (List.mem_cons_self ..)
    have h2 := Fs.of_nl r fun x hx => h x (List.mem_cons_of_mem _ hx)
    rw [Fs.of, Fs.nl, List.length_cons, Nat.add_mul, Nat.one_mul]
    omega
mutual
theorem Ty2.gd_nm : ∀ t : Ty2, t.gd → t.nm
  | .leaf _, _ => trivial
  | .lst t, g => Ty2.gd_nm t g
  | .opt t, g => Ty2.gd_nm t g.1
  | .rcd f, g => Fs.gd_nm f g.1
theorem Fs.gd_nm : ∀ f : Fs, f.gd → f.nm
  | .nil, _ => trivial
  | .cons _ t r, g => ⟨g.1, Ty2.gd_nm t g.2.1, Fs.gd_nm r g.2.2⟩
end
abbrev fe (p : String × Ty2) : D := .tup [sl p.1, p.2.enc]
def KiOk (n : Nat) (fn : Fn) : Prop := ∀ {s l : Nat} {depth : Int} {most : Nat} {G : Hd} {P : D → Hd → Prop}, depth ≤ n → 1 ≤ most → most ≤ 1000 → StAt G s l →
    (∀ (t : Ty2) (G' : Hd), t.gd → t.dep ≤ n → t.nl ≤ most → StAt G' s l → Fr [s] G G' → P t.enc G') → Ok (fn [.ref s, .int depth, .int most] G) P
def ReOk (n : Nat) (fn : Fn) : Prop := ∀ {s l : Nat} {depth : Int} {most : Nat} {G : Hd} {P : D → Hd → Prop}, depth ≤ n → 1 ≤ most → most ≤ 1000 → StAt G s l →
    (∀ (f : Fs) (G' : Hd), (Ty2.rcd f).gd → (Ty2.rcd f).dep ≤ n → f.nl ≤ most → StAt G' s l → Fr [s] G G' → P (Ty2.rcd f).enc G') → Ok (fn [.ref s, .int depth, .int most] G) P
def g_law_kind (f_law_draw f_law_pick f_law_kind f_law_record : Fn) : S :=
  (sSeq (sSet 3 (eCall f_law_draw (aCons (eVar 0) (aCons (eC (.int 7)) aNil))))
  (sSeq (sIf (tOr (tBl (eOp2 cLt (eVar 1) (eC (.int 2)))) (tBl (eOp2 cLt (eVar 3) (eC (.int 2)))))
    (sRet (eTup (aCons (eCall f_law_pick (aCons (eVar 0) (aCons (eLst (aCons (eC (.str (Str.ofString "int"))) (aCons (eC (.str (Str.ofString "text"))) (aCons (eC (.str (Str.ofString "bool"))) aNil)))) aNil))) aNil)))
    sNil)
  (sSeq (sIf (tBl (eOp2 cLt (eVar 3) (eC (.int 4))))
    (sSeq (sSet 4 (eCall f_law_kind (aCons (eVar 0) (aCons (eOp2 opSub (eVar 1) (eC (.int 1))) (aCons (eVar 2) aNil)))))
  (sSeq (sIf (tBl (eOp2 cEq (eOp2 atD (eVar 4) (eC (.int 0))) (eC (.str (Str.ofString "opt")))))
    (sRet (eVar 4))
    sNil)
  (sRet (eTup (aCons (eC (.str (Str.ofString "opt"))) (aCons (eVar 4) aNil))))))
    sNil)
  (sSeq (sIf (tBl (eOp2 cLt (eVar 3) (eC (.int 6))))
    (sRet (eTup (aCons (eC (.str (Str.ofString "list"))) (aCons (eCall f_law_kind (aCons (eVar 0) (aCons (eOp2 opSub (eVar 1) (eC (.int 1))) (aCons (eVar 2) aNil)))) aNil))))
    sNil)
  (sRet (eCall f_law_record (aCons (eVar 0) (aCons (eVar 1) (aCons (eVar 2) aNil)))))))))
theorem pickLeaf {fp : Fn} (hp : PickOk fp) {s l : Nat} {G : Hd} {P : D → Hd → Prop} (h : StAt G s l) (hq : ∀ (k : Kd) (G' : Hd), StAt G' s l → Fr [s] G G' → P (sl k.s) G') : Ok (fp [.ref s, .ref G.length] (G ++ [.lst [sl "int", sl "text", sl "bool"]])) P := by
  refine hp h.app get_new (by have := h.lt.1; omega) (by simp) (show 3 < 2 ^ 199 by decide) fun x G' hx h1 f1 => ?_
  simp only [List.mem_cons, List.not_mem_nil, or_false] at hx
  rcases hx with rfl | rfl | rfl
  · exact hq .int G' h1 (Fr.refl.app.trans f1)
  · exact hq .text G' h1 (Fr.refl.app.trans f1)
  · exact hq .bool G' h1 (Fr.refl.app.trans f1)
theorem kindOk {n : Nat} {fd fp fk fr : Fn} (hd : DrawOk fd) (hp : PickOk fp) (hk : ∀ m, n = m + 1 → 1 ≤ m → KiOk m fk) (hr : 2 ≤ n → ReOk n fr) (hn : 1 ≤ n) : KiOk n (runFn 5 3 (g_law_kind fd fp fk fr)) := by
  intro s l depth most G P hdp m1 m2 h hq
  refine ok_run rfl ?_
  show Sk (g_law_kind fd fp fk fr [some (.ref s), some (.int depth), some (.int most), none, none] G) (rtn P)
  unfold g_law_kind
  simp -implicitDefEqProofs only [↓minrs]
  refine hd h (by decide) fun pick G1 p0 p1 h1 f1 => ?_
  have leaf : Ok (fp [.ref s, .ref G1.length] (G1 ++ [.lst [sl "int", sl "text", sl "bool"]])) fun x G3 => P (.tup [x]) G3 :=
    pickLeaf hp h1 fun k G' h2 f2 => hq (.leaf k) G' trivial hn m1 h2 (f1.trans f2)
  simp -implicitDefEqProofs only [↓mirs]
  by_cases c1 : depth < 2
  · simp only [c1, decide_true, if_true]
    exact leaf
  simp only [c1, decide_false, if_false, Bool.false_eq_true]
  by_cases c2 : pick < 2
  · simp only [c2, decide_true, if_true]
    exact leaf
  simp only [c2, decide_false, if_false, Bool.false_eq_true]
  obtain ⟨m, rfl⟩ : ∃ m, n = m + 1 := ⟨n - 1, by omega⟩
  have hm : 1 ≤ m := by omega
  by_cases c3 : pick < 4
  · simp only [c3, decide_true, if_true]
    refine hk m rfl hm (by omega) m1 m2 h1 fun t G2 g1 g2 g3 h2 f2 => ?_
    simp -implicitDefEqProofs only [↓mirs, ↓ok_hd, ↓ok_notIn_lit2, ↓ok_notIn_lit3, hd_opt, hd_lst, hd_rcd, hd_leaves, ob_or, ob_or', io_leaf, io_rcd, io_lst, io_opt, il_leaf, il_rcd, il_lst, il_opt, ir_leaf, ir_rcd, ir_lst, ir_opt, iv_leaf, iv_rcd, iv_lst, iv_opt, ib_leaf, ib_rcd, ib_lst, ib_opt]
    cases eo : t.isOpt with
    | true =>
      simp only [if_true]
      exact hq t G2 g1 (by omega) g3 h2 (f1.trans f2)
    | false =>
      simp only [Bool.false_eq_true, if_false]
      exact hq (.opt t) G2 ⟨g1, eo⟩ (Nat.succ_le_succ g2) g3 h2 (f1.trans f2)
  simp only [c3, decide_false, if_false, Bool.false_eq_true]
  by_cases c4 : pick < 6
  · simp only [c4, decide_true, if_true]
    exact hk m rfl hm (by omega) m1 m2 h1 fun t G2 g1 g2 g3 h2 f2 => hq (.lst t) G2 g1 (Nat.succ_le_succ g2) g3 h2 (f1.trans f2)
  simp only [c4, decide_false, if_false, Bool.false_eq_true]
  exact hr (by omega) hdp m1 m2 h1 fun f G2 g1 g2 g3 h2 f2 => hq (.rcd f) G2 g1 g2 g3 h2 (f1.trans f2)
def g_law_record_f1 (f_law_name f_law_kind : Fn) : S :=
  (sSeq (sSet 7 (eCall f_law_name (aCons (eVar 0) (aCons (eVar 4) aNil))))
  (sSeq (sExpr (eMl mAppend (eVar 4) (eVar 7)))
  (sExpr (eMl mAppend (eVar 5) (eTup (aCons (eVar 7) (aCons (eCall f_law_kind (aCons (eVar 0) (aCons (eOp2 opSub (eVar 1) (eC (.int 1))) (aCons (eOp2 opFdiv (eVar 2) (eVar 3)) aNil)))) aNil)))))))
def g_law_record (f_law_draw f_law_name f_law_kind : Fn) : S :=
  (sSeq (sSet 3 (eOp2 opAdd (eC (.int 1)) (eCall f_law_draw (aCons (eVar 0) (aCons (eOp2 fMin (eVar 2) (eOp2 atD (eLst (aCons (eC (.int 1)) (aCons (eC (.int 2)) (aCons (eC (.int 4)) (aCons (eC (.int 8)) aNil))))) (eCall f_law_draw (aCons (eVar 0) (aCons (eC (.int 4)) aNil))))) aNil)))))
  (sSeq (sSet 4 (eLst aNil))
  (sSeq (sSet 5 (eLst aNil))
  (sSeq (sFor (iRng1 (eVar 3)) (gName 6) (g_law_record_f1 f_law_name f_law_kind))
  (sRet (eTup (aCons (eC (.str (Str.ofString "rec"))) (aCons (eOp1 fTuple (eVar 5)) aNil))))))))
theorem recordOk {n : Nat} {fd fn fk : Fn} (hd : DrawOk fd) (hn : NameOk fn) (hk : KiOk n fk) : ReOk (n + 1) (runFn 8 3 (g_law_record fd fn fk)) := by
  intro s l depth most G P hdp m1 m2 h hq
  refine ok_run rfl ?_
  show Sk (g_law_record fd fn fk [some (.ref s), some (.int depth), some (.int most), none, none, none, none, none] G) (rtn P)
  unfold g_law_record
  have lts := h.lt
  have nG : G.length ∉ [s] := by simp; omega
  simp -implicitDefEqProofs only [↓minrs]
  refine hd h.app (by decide) fun v G1 v0 v1 h1 f1 => ?_
  refine ok_atAny (f1.at get_new nG) v0 (by simpa using v1) fun x hx => ?_
  have hx' : ∃ m : Nat, x = .int m ∧ 1 ≤ m ∧ m ≤ 8 := by
    simp only [List.mem_cons, List.not_mem_nil, or_false] at hx
    rcases hx with rfl | rfl | rfl | rfl
    · exact ⟨1, rfl, by decide, by decide⟩
    · exact ⟨2, rfl, by decide, by decide⟩
    · exact ⟨4, rfl, by decide, by decide⟩
    · exact ⟨8, rfl, by decide, by decide⟩
  obtain ⟨a, ha, a1, a8⟩ := hx'
  subst ha
  obtain ⟨b, hb, b1, b8, bm⟩ : ∃ b : Nat, (if (a : Int) < (most : Int) then (a : Int) else most) = b ∧ 1 ≤ b ∧ b ≤ 8 ∧ b ≤ most := by
    split
    · exact ⟨a, rfl, a1, a8, by omega⟩
    · exact ⟨most, rfl, m1, by omega, Nat.le_refl _⟩
  simp -implicitDefEqProofs only [↓minrs, hb]
  refine hd h1 ⟨by omega, by omega⟩ fun w G2 w0 w1 h2 f2 => ?_
  obtain ⟨c, rfl⟩ := Int.eq_ofNat_of_zero_le w0
  have em : (1 : Int) + ((c : Nat) : Int) = ((c + 1 : Nat) : Int) := by omega
  simp -implicitDefEqProofs only [↓minrs, em]
  have f02 : Fr [s] G G2 := Fr.refl.app.trans (f1.trans f2)
  generalize hmany : c + 1 = many at em
  have many1 : 1 ≤ many := by omega
  have many8 : many ≤ 8 := by omega
  have mm : many ≤ most := by omega
  rw [ok_itr1n (by omega)]
  have ln : (G2 ++ [O.lst []]).length = G2.length + 1 := by simp
  simp only [ln]
  have l2 := h2.lt
  refine loop_inv0 many (fun i σ G3 => ∃ (fs : List (String × Ty2)) (y z : Option D), σ = [some (.ref s), some (.int depth), some (.int most), some (.int many), some (.ref G2.length), some (.ref (G2.length + 1)), y, z] ∧
    G3[G2.length]? = some (.lst ((fs.map (·.1)).map sl)) ∧ G3[G2.length + 1]? = some (.lst (fs.map fe)) ∧ fs.length = i ∧ (fs.map (·.1)).Nodup ∧ (∀ p ∈ fs, (NmOk p.1 ∧ p.2.gd) ∧ p.2.dep ≤ n ∧ p.2.nl ≤ most / many) ∧ StAt G3 s l ∧ Fr [s] G2 G3) ?_ ?_ ?_
  · refine ⟨[], _, _, rfl, get_app get_new, ?_, rfl, List.nodup_nil, fun p hp => by simp at hp, h2.app.app, Fr.refl.app.app⟩
    rw [← ln]
    exact get_new
  · rintro σ G3 ⟨fs, y, z, rfl, e1, e2, e3, nd, gd, h3, f3⟩
    refine ⟨it_rng_end, ?_⟩
    simp -implicitDefEqProofs only [↓mirs, ↓ok_tuple_ref e2]
    have ne0 : (Fs.of fs).names ≠ [] := by
      rw [Fs.of_names]
      intro q
      have : (fs.map (·.1)).length = 0 := by rw [q]; rfl
      rw [List.length_map] at this
      omega
    have := hq (Fs.of fs) G3 ⟨Fs.of_gd fs fun p hp => (gd p hp).1, by rw [Fs.of_names]; exact nd, by rw [Fs.of_names, List.length_map]; omega, ne0⟩ (Nat.succ_le_succ (Fs.of_dep fs fun p hp => (gd p hp).2.1))
      (Nat.le_trans (Fs.of_nl fs fun p hp => (gd p hp).2.2) (by rw [e3]; exact Nat.mul_div_le most many)) h3 (f02.trans f3)
    rw [Ty2.enc, Fs.of_enc] at this
    exact this
  · rintro i σ G3 hi ⟨fs, y, z, rfl, e1, e2, e3, nd, gd, h3, f3⟩
    refine ⟨_, it_rng hi, ?_⟩
    unfold g_law_record_f1
    simp -implicitDefEqProofs only [↓mirs]
    have k1 : G2.length ∉ [s] := by simp; omega
    have k2 : G2.length + 1 ∉ [s] := by simp; omega
    have l3 := h3.lt
    refine hn h3 e1 (by omega) (fun n hn => ?_) (by rw [List.length_map]; omega) fun nm G4 hnm hnin h4 f4 => ?_
    · obtain ⟨p, hp, rfl⟩ := List.mem_map.mp hn
      exact (gd p hp).1.1
    have e1' := f4.at e1 k1
    have e2' := f4.at e2 k2
    have cd : CDivW (most : Int) (many : Int) := cdivw_of (by omega) (by omega)
    have dv : (most : Int) / (many : Int) = ((most / many : Nat) : Int) := by norm_cast
    simp -implicitDefEqProofs only [↓mirs, ↓isL_ref e1', if_true]
    rw [ok_append e1' (by rw [List.length_map, List.length_map, sizeLine_val]; omega)]
    have e2'' : (G4.set G2.length (.lst ((fs.map (·.1)).map sl ++ [sl nm])))[G2.length + 1]? = some (.lst (fs.map fe)) := get_set_ne e2' (by omega)
    simp -implicitDefEqProofs only [↓mirs, ↓isL_ref e2'', if_true, ↓ok_fdiv_int cd, dv]
    refine hk (by omega) (Nat.div_pos mm (by omega)) (Nat.le_trans (Nat.div_le_self _ _) m2) (h4.set (by omega) (by omega)) fun t G5 g1 g2 g3 h5 f5 => ?_
    have e5 := f5.at e2'' k2
    have e6 := f5.at (get_set e1' (o := .lst ((fs.map (·.1)).map sl ++ [sl nm]))) k1
    rw [ok_append e5 (by rw [List.length_map, sizeLine_val]; omega)]
    refine ⟨fs ++ [(nm, t)], _, _, rfl, ?_, ?_, by simp [e3], ?_, ?_, h5.set (by omega) (by omega), ?_⟩
    · rw [List.map_append, List.map_append]
      exact get_set_ne e6 (by omega)
    · rw [List.map_append]
      exact get_set e5
    · rw [List.map_append, List.nodup_append]
      refine ⟨nd, by simp, fun a ha b hb => ?_⟩
      simp at hb
      subst hb
      rintro rfl
      exact hnin ha
    · intro p hp
      rcases List.mem_append.mp hp with hp | hp
      · exact gd p hp
      · simp at hp
        subst hp
        exact ⟨⟨hnm, g1⟩, g2, g3⟩
    · exact (((f3.trans f4).set (.inl (Nat.le_refl _))).trans f5).set (.inl (by omega))
end D2
end
section
set_option linter.all false
set_option autoImplicit false
set_option maxRecDepth 100000
namespace D2
open PySem L2
abbrev Cs : Type := List Nat
def nmL (n : String) : Cs := n.toList.map Char.toNat
theorem sl_nm (n : String) : sl n = .str (Sg (nmL n)) := by
  show D.str (Str.ofString n) = _
  rw [Str.ofString_eq_toList]
  rfl
theorem nmL_toS {w : Cs} (h : ∀ c ∈ w, c < 0xd800) : nmL (toS w) = w := by
  unfold nmL
  rw [toS_list, List.map_map]
  conv => rhs; rw [← List.map_id w]
  exact List.map_congr_left fun c hc => ofNat_toNat (h c hc)
theorem ofNat_char (c : Char) : Char.ofNat c.toNat = c := by simp
theorem toS_nmL (n : String) : toS (nmL n) = n := by
  unfold toS nmL
  rw [List.map_map]
  have : (Char.ofNat ∘ Char.toNat) = id := funext fun c => ofNat_char c
  rw [this, List.map_id]
  simp
mutual
def Ty2.sh : Ty2 → Cs
  | .leaf k => nmL k.s
  | .lst t => 91 :: (t.sh ++ [93])
  | .opt t => t.sh ++ [63]
  | .rcd f => 123 :: (f.fsh.drop 2 ++ [125])
def Fs.fsh : Fs → Cs
  | .nil => []
  | .cons n t r => 44 :: 32 :: (nmL n ++ 58 :: 32 :: (t.sh ++ r.fsh))
end
def isLo (c : Nat) : Bool := decide (97 ≤ c) && decide (c ≤ 122)
theorem isLo_iff {c : Nat} : isLo c = true ↔ 97 ≤ c ∧ c ≤ 122 := by simp [isLo]
mutual
def Ty2.sml : Ty2 → Prop
  | .leaf _ => True
  | .rcd f => f.sml ∧ f.names ≠ []
  | .lst t => t.sml
  | .opt t => t.sml ∧ t.isOpt = false
def Fs.sml : Fs → Prop
  | .nil => True
  | .cons n t r => (∀ c ∈ nmL n, isLo c = true) ∧ t.sml ∧ r.sml
end
mutual
theorem Ty2.gd_sml : ∀ t : Ty2, t.gd → t.sml
  | .leaf _, _ => trivial
  | .lst t, g => Ty2.gd_sml t g
  | .opt t, g => ⟨Ty2.gd_sml t g.1, g.2⟩
  | .rcd f, g => ⟨Fs.gd_sml f g.1, g.2.2.2⟩
theorem Fs.gd_sml : ∀ f : Fs, f.gd → f.sml
  | .nil, _ => trivial
  | .cons n t r, g => ⟨fun c hc => by
      obtain ⟨k, hk, rfl⟩ := List.mem_map.mp hc
      exact isLo_iff.mpr (g.1.2.2 k hk), Ty2.gd_sml t g.2.1, Fs.gd_sml r g.2.2⟩
end
def strip (p t : Cs) : Option Cs := if t.take p.length = p then some (t.drop p.length) else none
theorem strip_iff {p t r : Cs} : strip p t = some r ↔ t = p ++ r := by
  unfold strip
  constructor
  · intro h
    split at h
    · rename_i e
      cases h
      conv => lhs; rw [← List.take_append_drop p.length t, e]
    · cases h
  · rintro rfl
    simp
theorem strip_app {p r : Cs} : strip p (p ++ r) = some r := strip_iff.mpr rfl
theorem strip_c {c : Nat} {r : Cs} : strip [c] (c :: r) = some r := strip_iff.mpr rfl
theorem strip_ne {c b : Nat} {r q : Cs} (h : b ≠ c) : strip (c :: q) (b :: r) = none := by
  cases e : strip (c :: q) (b :: r) with
  | none => rfl
  | some x =>
    have := strip_iff.mp e
    rw [List.cons_append] at this
    exact absurd (List.cons.inj this).1 h
theorem strip_nil {c : Nat} {q : Cs} : strip (c :: q) [] = none := rfl
def leafOf (w : Cs) : Option Kd := if w = nmL "int" then some .int else if w = nmL "text" then some .text else if w = nmL "bool" then some .bool else none
theorem leafOf_eq {w : Cs} {k : Kd} (h : leafOf w = some k) : w = nmL k.s := by
  unfold leafOf at h
  split at h
  · cases h; assumption
  · split at h
    · cases h; assumption
    · split at h
      · cases h; assumption
      · cases h
theorem leafOf_k (k : Kd) : leafOf (nmL k.s) = some k := by cases k <;> decide
theorem kd_lo (k : Kd) : ∀ c ∈ nmL k.s, isLo c = true := by cases k <;> decide
abbrev Rk : Type := Cs → Option (Ty2 × Cs)
def fldR (rk : Rk) (t : Cs) : Option ((String × Ty2) × Cs) := (strip [58, 32] (t.dropWhile isLo)).bind fun r => (rk r).map fun q => ((toS (t.takeWhile isLo), q.1), q.2)
def fldsR (rk : Rk) : Nat → List (String × Ty2) → Cs → Option (List (String × Ty2) × Cs)
  | 0, _, _ => none
  | n + 1, acc, t => match strip [44, 32] t with
    | some r => (fldR rk r).bind fun q => fldsR rk n (acc ++ [q.1]) q.2
    | none => some (acc, t)
def bareR (rk : Rk) : Rk := fun t => match strip [91] t with
  | some r => (rk r).bind fun q => (strip [93] q.2).map fun r' => (.lst q.1, r')
  | none => match strip [123] t with
    | some r => (fldR rk r).bind fun q => (fldsR rk (q.2.length + 1) [q.1] q.2).bind fun z => (strip [125] z.2).map fun r' => (.rcd (Fs.of z.1), r')
    | none => (leafOf (t.takeWhile isLo)).map fun k => (.leaf k, t.dropWhile isLo)
def optR (q : Ty2 × Cs) : Ty2 × Cs := match strip [63] q.2 with
  | some r => (.opt q.1, r)
  | none => q
def kindR (rk : Rk) : Rk := fun t => (bareR rk t).map optR
def rdK : Nat → Rk
  | 0 => kindR fun _ => none
  | d + 1 => kindR (rdK d)
def SoundR (rk : Rk) : Prop := ∀ t K r, rk t = some (K, r) → t = K.sh ++ r ∧ K.sml
theorem take_lo (t : Cs) : ∀ c ∈ t.takeWhile isLo, isLo c = true := fun c h => by
  have := List.all_takeWhile (p := isLo) (l := t)
  exact List.all_eq_true.mp this c h
theorem nm_take (t : Cs) : nmL (toS (t.takeWhile isLo)) = t.takeWhile isLo := nmL_toS fun c hc => by
  have := isLo_iff.mp (take_lo t c hc)
  omega
theorem fldR_sound {rk : Rk} (h : SoundR rk) {t r : Cs} {p : String × Ty2} (e : fldR rk t = some (p, r)) : t = nmL p.1 ++ 58 :: 32 :: (p.2.sh ++ r) ∧ (∀ c ∈ nmL p.1, isLo c = true) ∧ p.2.sml := by
  unfold fldR at e
  obtain ⟨r1, e1, e⟩ := Option.bind_eq_some_iff.mp e
  obtain ⟨⟨K, r2⟩, e2, e⟩ := Option.map_eq_some_iff.mp e
  cases e
  obtain ⟨h1, h2⟩ := h _ _ _ e2
  have e1 := strip_iff.mp e1
  refine ⟨?_, ?_, h2⟩
  · dsimp only
    rw [nm_take, ← h1]
    conv => lhs; rw [← List.takeWhile_append_dropWhile (p := isLo) (l := t), e1]
    rfl
  · dsimp only
    rw [nm_take]
    exact take_lo t
theorem fldsR_sound {rk : Rk} (h : SoundR rk) : ∀ (n : Nat) (acc : List (String × Ty2)) (t : Cs) (fs : List (String × Ty2)) (r : Cs), fldsR rk n acc t = some (fs, r) →
    ∃ more, fs = acc ++ more ∧ t = (Fs.of more).fsh ++ r ∧ (Fs.of more).sml
  | 0, _, _, _, _, e => by cases e
  | n + 1, acc, t, fs, r, e => by
    unfold fldsR at e
    split at e
    · rename_i r1 e1
      obtain ⟨⟨p, r2⟩, e2, e⟩ := Option.bind_eq_some_iff.mp e
      obtain ⟨more, h1, h2, h3⟩ := fldsR_sound h n _ _ _ _ e
      obtain ⟨h4, h5, h6⟩ := fldR_sound h e2
      refine ⟨p :: more, by rw [h1]; simp, ?_, h5, h6, h3⟩
      rw [strip_iff.mp e1, h4, Fs.of, Fs.fsh]
      dsimp only at h2
      rw [h2]
      simp
    · cases e
      exact ⟨[], by simp, by simp [Fs.of, Fs.fsh], trivial⟩
theorem bareR_sound {rk : Rk} (h : SoundR rk) {t r : Cs} {K : Ty2} (e : bareR rk t = some (K, r)) : t = K.sh ++ r ∧ K.sml ∧ K.isOpt = false := by
  unfold bareR at e
  split at e
  · rename_i r1 e1
    obtain ⟨⟨K1, r2⟩, e2, e⟩ := Option.bind_eq_some_iff.mp e
    obtain ⟨r3, e3, e⟩ := Option.map_eq_some_iff.mp e
    cases e
    obtain ⟨h1, h2⟩ := h _ _ _ e2
    have e3 := strip_iff.mp e3
    dsimp only at e3
    refine ⟨?_, h2, rfl⟩
    rw [strip_iff.mp e1, h1, e3, Ty2.sh]
    simp
  · split at e
    · rename_i r1 e1
      obtain ⟨⟨p, r2⟩, e2, e⟩ := Option.bind_eq_some_iff.mp e
      obtain ⟨⟨fs, r3⟩, e3, e⟩ := Option.bind_eq_some_iff.mp e
      obtain ⟨r4, e4, e⟩ := Option.map_eq_some_iff.mp e
      cases e
      obtain ⟨h1, h2, h3⟩ := fldR_sound h e2
      obtain ⟨more, h4, h5, h6⟩ := fldsR_sound h _ _ _ _ _ e3
      have e4' : r3 = [125] ++ r := strip_iff.mp e4
      dsimp only at h5 h4
      subst h4
      refine ⟨?_, ⟨⟨h2, h3, h6⟩, by simp [Fs.of, Fs.names]⟩, rfl⟩
      rw [strip_iff.mp e1, h1, h5, e4', Ty2.sh]
      simp [Fs.of, Fs.fsh]
    · obtain ⟨k, e1, e⟩ := Option.map_eq_some_iff.mp e
      cases e
      refine ⟨?_, trivial, rfl⟩
      rw [Ty2.sh, ← leafOf_eq e1, List.takeWhile_append_dropWhile]
theorem kindR_sound {rk : Rk} (h : SoundR rk) : SoundR (kindR rk) := fun t K r e => by
  unfold kindR at e
  obtain ⟨⟨K1, r1⟩, e1, e⟩ := Option.map_eq_some_iff.mp e
  obtain ⟨h1, h2, h3⟩ := bareR_sound h e1
  unfold optR at e
  split at e
  · rename_i r2 e2
    cases e
    refine ⟨?_, h2, h3⟩
    have e2 := strip_iff.mp e2
    dsimp only at e2
    rw [h1, e2, Ty2.sh]
    simp
  · cases e
    exact ⟨h1, h2⟩
theorem none_sound : SoundR fun _ => none := fun t K r e => by cases e
theorem rdK_sound : ∀ d, SoundR (rdK d)
  | 0 => kindR_sound none_sound
  | d + 1 => kindR_sound (rdK_sound d)
theorem tw_app {x r : Cs} (h : ∀ c ∈ x, isLo c = true) (hr : ∀ c, r.head? = some c → isLo c = false) : (x ++ r).takeWhile isLo = x ∧ (x ++ r).dropWhile isLo = r := by
  induction x with
  | nil =>
    cases r with
    | nil => exact ⟨rfl, rfl⟩
    | cons c r =>
      have := hr c rfl
      simp [this]
  | cons c x ih =>
    have hc := h c (List.mem_cons_self ..)
    have := ih fun d hd => h d (List.mem_cons_of_mem _ hd)
    simp [hc, this.1, this.2]
def hd0 (r : Cs) (p : Nat → Prop) : Prop := ∀ c, r.head? = some c → p c
def CompR (d : Nat) (rk : Rk) : Prop := ∀ K r, K.sml → K.dep ≤ d → hd0 r (fun c => isLo c = false ∧ c ≠ 63) → rk (K.sh ++ r) = some (K, r)
theorem strip_no {c : Nat} {r : Cs} (h : hd0 r (fun b => b ≠ c)) {q : Cs} : strip (c :: q) r = none := by
  cases r with
  | nil => exact strip_nil
  | cons b r => exact strip_ne (h b rfl)
theorem fldR_comp {rk : Rk} {d : Nat} (h : CompR d rk) {n : String} {t : Ty2} {r : Cs} (hn : ∀ c ∈ nmL n, isLo c = true) (ht : t.sml) (hd : t.dep ≤ d) (hr : hd0 r (fun c => isLo c = false ∧ c ≠ 63)) :
    fldR rk (nmL n ++ 58 :: 32 :: (t.sh ++ r)) = some ((n, t), r) := by
  obtain ⟨e1, e2⟩ := tw_app (r := 58 :: 32 :: (t.sh ++ r)) hn fun c hc => by cases hc; rfl
  unfold fldR
  rw [e1, e2, show (58 :: 32 :: (t.sh ++ r)) = [58, 32] ++ (t.sh ++ r) from rfl, strip_app, Option.bind_some, h t r ht hd hr, toS_nmL]
  rfl
theorem tl_head {f : Fs} {r : Cs} : hd0 (f.fsh ++ 125 :: r) (fun c => isLo c = false ∧ c ≠ 63) := by
  cases f with
  | nil => intro c hc; cases hc; exact ⟨rfl, by decide⟩
  | cons n t g => intro c hc; rw [Fs.fsh] at hc; cases hc; exact ⟨rfl, by decide⟩
theorem fldsR_comp {rk : Rk} {d : Nat} (h : CompR d rk) : ∀ (f : Fs) (n : Nat) (acc : List (String × Ty2)) (r : Cs), f.sml → f.dep ≤ d → f.names.length < n → fldsR rk n acc (f.fsh ++ 125 :: r) = some (acc ++ f.l, 125 :: r)
  | .nil, n + 1, acc, r, _, _, _ => by
    unfold fldsR
    rw [Fs.fsh, List.nil_append, strip_ne (by decide), Fs.l, List.append_nil]
  | .cons nm t g, n + 1, acc, r, hs, hd, hn => by
    rw [Fs.dep] at hd
    unfold fldsR
    have e : (Fs.cons nm t g).fsh ++ 125 :: r = [44, 32] ++ (nmL nm ++ 58 :: 32 :: (t.sh ++ (g.fsh ++ 125 :: r))) := by rw [Fs.fsh]; simp
    rw [e, strip_app]
    dsimp only
    rw [fldR_comp h hs.1 hs.2.1 (by omega) tl_head, Option.bind_some]
    dsimp only
    rw [fldsR_comp h g n _ r hs.2.2 (by omega) (by rw [Fs.names, List.length_cons] at hn; omega), Fs.l]
    simp
  | .nil, 0, _, _, _, _, hn => by omega
  | .cons _ _ _, 0, _, _, _, _, hn => by omega
theorem tl_len : ∀ f : Fs, f.names.length ≤ f.fsh.length
  | .nil => Nat.le_refl _
  | .cons n t r => by
    rw [Fs.names, Fs.fsh]
    have := tl_len r
    simp only [List.length_cons, List.length_append]
    omega
theorem Fs.of_l' : ∀ f : Fs, Fs.of f.l = f
  | .nil => rfl
  | .cons n t r => by rw [Fs.l, Fs.of, Fs.of_l' r]
theorem bareR_comp {rk : Rk} {d : Nat} (h : CompR d rk) {K : Ty2} {r : Cs} (hs : K.sml) (hd : K.dep ≤ d + 1) (ho : K.isOpt = false) (hr : hd0 r (fun c => isLo c = false)) : bareR rk (K.sh ++ r) = some (K, r) := by
  cases K with
  | opt t => cases ho
  | leaf k =>
    obtain ⟨e1, e2⟩ := tw_app (r := r) (kd_lo k) hr
    have n1 : strip [91] (nmL k.s ++ r) = none := by cases k <;> exact strip_ne (by decide)
    have n2 : strip [123] (nmL k.s ++ r) = none := by cases k <;> exact strip_ne (by decide)
    unfold bareR
    rw [Ty2.sh, n1]
    dsimp only
    rw [n2]
    dsimp only
    rw [e1, e2, leafOf_k]
    rfl
  | lst t =>
    rw [Ty2.dep] at hd
    unfold bareR
    have e : (Ty2.lst t).sh ++ r = 91 :: (t.sh ++ 93 :: r) := by rw [Ty2.sh]; simp
    rw [e, strip_c]
    dsimp only
    rw [h t _ hs (by omega) fun c hc => by cases hc; exact ⟨rfl, by decide⟩, Option.bind_some]
    dsimp only
    rw [strip_c]
    rfl
  | rcd f =>
    rw [Ty2.dep] at hd
    obtain ⟨hs, hne⟩ := hs
    cases f with
    | nil => exact (hne rfl).elim
    | cons nm t g =>
      rw [Fs.dep] at hd
      unfold bareR
      have e : (Ty2.rcd (.cons nm t g)).sh ++ r = 123 :: (nmL nm ++ 58 :: 32 :: (t.sh ++ (g.fsh ++ 125 :: r))) := by rw [Ty2.sh, Fs.fsh]; simp
      rw [e, strip_ne (by decide)]
      dsimp only
      rw [strip_c]
      dsimp only
      rw [fldR_comp h hs.1 hs.2.1 (by omega) tl_head, Option.bind_some]
      dsimp only
      rw [fldsR_comp h g _ _ r hs.2.2 (by omega) (by have := tl_len g; simp only [List.length_append, List.length_cons]; omega), Option.bind_some]
      dsimp only
      rw [strip_c]
      simp only [Option.map_some, List.singleton_append, Fs.of, Fs.of_l']
theorem kindR_comp {rk : Rk} {d : Nat} (h : CompR d rk) : CompR (d + 1) (kindR rk) := fun K r hs hd hr => by
  unfold kindR
  cases ho : K.isOpt with
  | false =>
    rw [bareR_comp h hs hd ho fun c hc => (hr c hc).1, Option.map_some]
    unfold optR
    dsimp only
    rw [strip_no fun c hc => (hr c hc).2]
  | true =>
    cases K with
    | opt t =>
      rw [Ty2.dep] at hd
      rw [Ty2.sh, List.append_assoc, bareR_comp h hs.1 (by omega) hs.2 fun c hc => by cases hc; rfl, Option.map_some]
      unfold optR
      dsimp only
      rw [List.singleton_append, strip_c]
    | _ => cases ho
theorem none_comp : CompR 0 fun _ => none := fun K r _ hd _ => by
  cases K <;> rw [Ty2.dep] at hd <;> omega
theorem rdK_comp : ∀ d, CompR (d + 1) (rdK d)
  | 0 => kindR_comp none_comp
  | d + 1 => kindR_comp (rdK_comp d)
end D2
end
section
set_option linter.all false
set_option autoImplicit false
set_option maxRecDepth 100000
namespace D2
open PySem L2
def wt (c : Nat) : Int := if c = 91 ∨ c = 123 then 1 else if c = 93 ∨ c = 125 then -1 else 0
def ds (x : Cs) : Int := (x.map wt).sum
def Pd (d : Int) : Cs → Prop
  | [] => True
  | c :: r => wt c ≤ d ∧ Pd (d - wt c) r
instance Pd.dec : ∀ (d : Int) (x : Cs), Decidable (Pd d x)
  | _, [] => .isTrue trivial
  | d, c :: r => by
    unfold Pd
    have := Pd.dec (d - wt c) r
    infer_instance
theorem ds_app {x y : Cs} : ds (x ++ y) = ds x + ds y := by simp [ds]
theorem ds_cons {c : Nat} {x : Cs} : ds (c :: x) = wt c + ds x := by simp [ds]
theorem pd_app : ∀ {d : Int} {x y : Cs}, Pd d (x ++ y) ↔ Pd d x ∧ Pd (d - ds x) y
  | d, [], y => by simp [Pd, ds]
  | d, c :: x, y => by
    rw [List.cons_append, Pd, Pd, pd_app, ds_cons, and_assoc]
    have : d - wt c - ds x = d - (wt c + ds x) := by omega
    rw [this]
theorem ds_zero {x : Cs} (h : ∀ c ∈ x, wt c = 0) : ds x = 0 := by
  induction x with
  | nil => rfl
  | cons c x ih => rw [ds_cons, h c (List.mem_cons_self ..), ih fun b hb => h b (List.mem_cons_of_mem _ hb)]; rfl
theorem pd_zero {x : Cs} {d : Int} (hd : 0 ≤ d) (h : ∀ c ∈ x, wt c = 0) : Pd d x := by
  induction x with
  | nil => trivial
  | cons c x ih =>
    have := h c (List.mem_cons_self ..)
    unfold Pd
    rw [this]
    exact ⟨hd, by simpa using ih fun b hb => h b (List.mem_cons_of_mem _ hb)⟩
theorem wt_lo {c : Nat} (h : isLo c = true) : wt c = 0 := by
  have := isLo_iff.mp h
  unfold wt
  rw [if_neg (by omega), if_neg (by omega)]
mutual
theorem Ty2.ds_sh : ∀ t : Ty2, t.sml → ds t.sh = 0
  | .leaf k, _ => ds_zero fun c hc => wt_lo (kd_lo k c hc)
  | .lst t, h => by
    rw [Ty2.sh, ds_cons, ds_app, Ty2.ds_sh t h]
    decide
  | .opt t, h => by
    rw [Ty2.sh, ds_app, Ty2.ds_sh t h.1]
    decide
  | .rcd f, h => by
    have := Fs.ds_sh f h.1
    rw [Ty2.sh, ds_cons, ds_app]
    cases f with
    | nil => exact (h.2 rfl).elim
    | cons n t r =>
      rw [Fs.fsh, ds_cons, ds_cons] at this
      rw [Fs.fsh, List.drop_succ_cons, List.drop_succ_cons, List.drop_zero]
      have e1 : wt 44 = 0 := by decide
      have e2 : wt 32 = 0 := by decide
      have e3 : wt 123 = 1 := by decide
      have e4 : ds [125] = -1 := by decide
      omega
theorem Fs.ds_sh : ∀ f : Fs, f.sml → ds f.fsh = 0
  | .nil, _ => rfl
  | .cons n t r, h => by
    rw [Fs.fsh, ds_cons, ds_cons, ds_app, ds_cons, ds_cons, ds_app, Ty2.ds_sh t h.2.1, Fs.ds_sh r h.2.2, ds_zero fun c hc => wt_lo (h.1 c hc)]
    decide
end
mutual
theorem Ty2.pd_sh : ∀ (t : Ty2) (d : Int), t.sml → (t.dep : Int) ≤ d + 1 → Pd d t.sh
  | .leaf k, d, _, hd => pd_zero (by rw [Ty2.dep] at hd; omega) fun c hc => wt_lo (kd_lo k c hc)
  | .lst t, d, h, hd => by
    rw [Ty2.dep] at hd
    have hp : 1 ≤ t.dep := by cases t <;> simp [Ty2.dep]
    rw [Ty2.sh]
    refine ⟨by show (1 : Int) ≤ d; omega, ?_⟩
    refine pd_app.mpr ⟨Ty2.pd_sh t _ h (by show (t.dep : Int) ≤ d - 1 + 1; omega), ?_, trivial⟩
    rw [Ty2.ds_sh t h]
    show (-1 : Int) ≤ d - 1 - 0
    omega
  | .opt t, d, h, hd => by
    rw [Ty2.dep] at hd
    have hp : 1 ≤ t.dep := by cases t <;> simp [Ty2.dep]
    rw [Ty2.sh]
    refine pd_app.mpr ⟨Ty2.pd_sh t d h.1 (by omega), ?_, trivial⟩
    rw [Ty2.ds_sh t h.1]
    show (0 : Int) ≤ d - 0
    omega
  | .rcd f, d, h, hd => by
    rw [Ty2.dep] at hd
    rw [Ty2.sh]
    cases f with
    | nil => exact (h.2 rfl).elim
    | cons n t r =>
      have hp : 1 ≤ t.dep := by cases t <;> simp [Ty2.dep]
      have hdd : (Fs.cons n t r).dep = max t.dep r.dep := rfl
      have q := Fs.pd_sh (.cons n t r) (d - 1) h.1 (by omega) (by omega)
      have e := Fs.ds_sh (.cons n t r) h.1
      rw [Fs.fsh] at q
      rw [Fs.fsh, ds_cons, ds_cons] at e
      have e1 : wt 44 = 0 := by decide
      have e2 : wt 32 = 0 := by decide
      have q2 := q.2.2
      rw [e1, e2, Int.sub_zero, Int.sub_zero] at q2
      refine ⟨by show (1 : Int) ≤ d; omega, ?_⟩
      rw [Fs.fsh, List.drop_succ_cons, List.drop_succ_cons, List.drop_zero]
      refine pd_app.mpr ⟨q2, ?_, trivial⟩
      show (-1 : Int) ≤ d - 1 - _
      omega
theorem Fs.pd_sh : ∀ (f : Fs) (d : Int), f.sml → (f.dep : Int) ≤ d + 1 → 0 ≤ d → Pd d f.fsh
  | .nil, _, _, _, _ => trivial
  | .cons n t r, d, h, hd, h0 => by
    rw [Fs.dep] at hd
    have z : ∀ {c : Nat} {x : Cs}, wt c = 0 → Pd d x → Pd d (c :: x) := fun e hx => ⟨by rw [e]; exact h0, by rw [e, Int.sub_zero]; exact hx⟩
    rw [Fs.fsh]
    refine z (by decide) (z (by decide) (pd_app.mpr ⟨pd_zero h0 fun c hc => wt_lo (h.1 c hc), ?_⟩))
    rw [ds_zero fun c hc => wt_lo (h.1 c hc), Int.sub_zero]
    refine z (by decide) (z (by decide) (pd_app.mpr ⟨Ty2.pd_sh t d h.2.1 (by omega), ?_⟩))
    rw [Ty2.ds_sh t h.2.1, Int.sub_zero]
    exact Fs.pd_sh r d h.2.2 (by omega) h0
end
def cutF : Int → Cs → Cs → List Cs
  | _, cur, [] => [cur]
  | d, cur, 44 :: 32 :: r => if d = 0 then cur :: cutF 0 [] r else cutF d (cur ++ [44]) (32 :: r)
  | d, cur, c :: r => cutF (d + wt c) (cur ++ [c]) r
def glue (ps : List Cs) : Cs := ps.flatMap fun p => 44 :: 32 :: p
theorem glue_cutF (d : Int) (cur t : Cs) : glue (cutF d cur t) = 44 :: 32 :: (cur ++ t) := by
  fun_induction cutF d cur t with
  | case1 => simp [glue]
  | case2 cur r ih => 
    rw [show glue (cur :: cutF 0 [] r) = (44 :: 32 :: cur) ++ glue (cutF 0 [] r) from rfl, ih]
    simp
  | case3 d cur r hd ih => rw [ih]; simp
  | case4 d cur c r h ih => rw [ih]; simp
def Cl : Int → Cs → Prop
  | _, [] => True
  | d, c :: r => ¬(d = 0 ∧ c = 44) ∧ Cl (d + wt c) r
theorem cutF_go {d : Int} {cur : Cs} {c : Nat} {r : Cs} (h : ¬(d = 0 ∧ c = 44)) : cutF d cur (c :: r) = cutF (d + wt c) (cur ++ [c]) r := by
  by_cases e : c = 44
  · subst e
    have hd : d ≠ 0 := fun e => h ⟨e, rfl⟩
    have w0 : wt 44 = 0 := by decide
    match r with
    | [] => simp [cutF, w0]
    | 32 :: r => rw [cutF, if_neg hd, w0, Int.add_zero]
    | c :: r => 
      by_cases e2 : c = 32
      · subst e2
        rw [cutF, if_neg hd, w0, Int.add_zero]
      · rw [cutF]
        intro r' _ e3
        exact e2 (List.cons.inj e3).1
  · rw [cutF]
    intro r' e3
    cases e3
    exact (e rfl).elim
theorem cl_app : ∀ {x y : Cs} {d : Int}, Cl d (x ++ y) ↔ Cl d x ∧ Cl (d + ds x) y
  | [], y, d => by simp [Cl, ds]
  | c :: x, y, d => by rw [List.cons_append, Cl, Cl, cl_app, ds_cons, and_assoc, Int.add_assoc]
theorem cutF_app : ∀ {x : Cs} {d : Int} {cur r : Cs}, Cl d x → cutF d cur (x ++ r) = cutF (d + ds x) (cur ++ x) r
  | [], d, cur, r, _ => by simp [ds]
  | c :: x, d, cur, r, h => by
    rw [List.cons_append, cutF_go h.1, cutF_app h.2, ds_cons, Int.add_assoc, List.append_assoc]
    rfl
theorem cl_zero {x : Cs} {d : Int} (h : ∀ c ∈ x, wt c = 0 ∧ (d = 0 → c ≠ 44)) : Cl d x := by
  induction x with
  | nil => trivial
  | cons c x ih =>
    have := h c (List.mem_cons_self ..)
    exact ⟨fun e => this.2 e.1 e.2, by rw [this.1, Int.add_zero]; exact ih fun b hb => h b (List.mem_cons_of_mem _ hb)⟩
theorem lo_cl {x : Cs} {d : Int} (h : ∀ c ∈ x, isLo c = true) : Cl d x := cl_zero fun c hc => ⟨wt_lo (h c hc), fun _ e => by subst e; have := h _ hc; cases this⟩
mutual
theorem Ty2.cl_sh : ∀ (t : Ty2) (d : Int), t.sml → 0 ≤ d → Cl d t.sh
  | .leaf k, d, _, hd => lo_cl (kd_lo k)
  | .lst t, d, h, hd => by
    rw [Ty2.sh]
    refine ⟨fun e => by omega, ?_⟩
    rw [show wt 91 = 1 by decide]
    exact cl_app.mpr ⟨Ty2.cl_sh t _ h (by omega), fun e => by omega, trivial⟩
  | .opt t, d, h, hd => by
    rw [Ty2.sh]
    exact cl_app.mpr ⟨Ty2.cl_sh t d h.1 hd, fun e => by omega, trivial⟩
  | .rcd f, d, h, hd => by
    rw [Ty2.sh]
    refine ⟨fun e => by omega, ?_⟩
    rw [show wt 123 = 1 by decide]
    refine cl_app.mpr ⟨?_, fun e => by omega, trivial⟩
    have := Fs.cl_sh f (d + 1) h.1 (by omega)
    cases f with
    | nil => trivial
    | cons n t r =>
      rw [Fs.fsh] at this ⊢
      have q := this.2.2
      rwa [show wt 44 = 0 by decide, show wt 32 = 0 by decide, Int.add_zero, Int.add_zero] at q
theorem Fs.cl_sh : ∀ (f : Fs) (d : Int), f.sml → 1 ≤ d → Cl d f.fsh
  | .nil, _, _, _ => trivial
  | .cons n t r, d, h, h0 => by
    have z : ∀ {c : Nat} {x : Cs}, wt c = 0 → Cl d x → Cl d (c :: x) := fun e hx => ⟨fun e => by omega, by rw [e, Int.add_zero]; exact hx⟩
    rw [Fs.fsh]
    refine z (by decide) (z (by decide) (cl_app.mpr ⟨lo_cl h.1, ?_⟩))
    rw [ds_zero fun c hc => wt_lo (h.1 c hc), Int.add_zero]
    refine z (by decide) (z (by decide) (cl_app.mpr ⟨Ty2.cl_sh t d h.2.1 (by omega), ?_⟩))
    rw [Ty2.ds_sh t h.2.1, Int.add_zero]
    exact Fs.cl_sh r d h.2.2 h0
end
def fieldT (p : String × Ty2) : Cs := nmL p.1 ++ 58 :: 32 :: p.2.sh
theorem cl_field {n : String} {t : Ty2} (hn : ∀ c ∈ nmL n, isLo c = true) (ht : t.sml) : Cl 0 (fieldT (n, t)) ∧ ds (fieldT (n, t)) = 0 := by
  unfold fieldT
  have e1 := ds_zero fun c hc => wt_lo (hn c hc)
  constructor
  · refine cl_app.mpr ⟨lo_cl hn, ?_⟩
    rw [e1]
    exact ⟨by decide, by decide, Ty2.cl_sh t _ ht (by decide)⟩
  · dsimp only
    rw [ds_app, e1, ds_cons, ds_cons, Ty2.ds_sh t ht]
    decide
theorem cutF_rec : ∀ (r : Fs) (n : String) (t : Ty2) (cur : Cs), (Fs.cons n t r).sml → cutF 0 cur (fieldT (n, t) ++ r.fsh) = (cur ++ fieldT (n, t)) :: r.l.map fieldT
  | .nil, n, t, cur, h => by
    obtain ⟨h1, h2⟩ := cl_field h.1 h.2.1
    rw [cutF_app h1, h2, Fs.fsh, Int.add_zero, cutF, Fs.l, List.map_nil]
  | .cons m u r, n, t, cur, h => by
    obtain ⟨h1, h2⟩ := cl_field h.1 h.2.1
    have e : (Fs.cons m u r).fsh = 44 :: 32 :: (fieldT (m, u) ++ r.fsh) := by rw [Fs.fsh, fieldT]; simp
    rw [cutF_app h1, h2, e, Int.add_zero, cutF, if_pos rfl, cutF_rec r m u [] h.2.2, Fs.l, List.map_cons]
    rfl
def fnd : Cs → Option Nat
  | [] => none
  | c :: r => if (strip [58, 32] (c :: r)).isSome then some 0 else (fnd r).map (· + 1)
theorem fnd_some : ∀ {p : Cs} {i : Nat}, fnd p = some i → p = p.take i ++ 58 :: 32 :: p.drop (i + 2) ∧ i + 2 ≤ p.length
  | [], i, h => by cases h
  | c :: r, i, h => by
    unfold fnd at h
    split at h
    · rename_i e
      cases h
      obtain ⟨x, hx⟩ := Option.isSome_iff_exists.mp e
      have := strip_iff.mp hx
      rw [this]
      exact ⟨rfl, by simp⟩
    · obtain ⟨j, hj, rfl⟩ := Option.map_eq_some_iff.mp h
      obtain ⟨h1, h2⟩ := fnd_some hj
      refine ⟨?_, by rw [List.length_cons]; omega⟩
      rw [List.take_succ_cons, show j + 1 + 2 = (j + 2) + 1 from rfl, List.drop_succ_cons, List.cons_append, ← h1]
theorem fnd_field : ∀ {x r : Cs}, (∀ c ∈ x, isLo c = true) → fnd (x ++ 58 :: 32 :: r) = some x.length
  | [], r, _ => rfl
  | c :: x, r, h => by
    have hc := h c (List.mem_cons_self ..)
    rw [List.cons_append, fnd, strip_ne (by rintro rfl; cases hc)]
    simp only [Option.isSome_none, Bool.false_eq_true, if_false]
    rw [fnd_field fun b hb => h b (List.mem_cons_of_mem _ hb)]
    rfl
def lkF (lk : Cs → Option Ty2) : List (String × Ty2) → List Cs → Option (List (String × Ty2))
  | acc, [] => some acc
  | acc, p :: ps => match fnd p with
    | none => none
    | some i => match lk (p.drop (i + 2)) with
      | none => none
      | some K => lkF lk (acc ++ [(toS (p.take i), K)]) ps
def lkS (lk : Cs → Option Ty2) (t : Cs) : Option Ty2 := match leafOf t with
  | some k => some (.leaf k)
  | none => if t.length < 2 then none else
    if t.getLast? = some 63 then (match lk t.dropLast with
      | none => none
      | some K => if K.isOpt = true then none else some (.opt K))
    else if t.head? = some 91 ∧ t.getLast? = some 93 then (match lk (t.drop 1).dropLast with
      | none => none
      | some K => some (.lst K))
    else if t.head? = some 123 ∧ t.getLast? = some 125 then (match lkF lk [] (cutF 0 [] (t.drop 1).dropLast) with
      | none => none
      | some fs => some (.rcd (Fs.of fs)))
    else none
def lk : Nat → Cs → Option Ty2
  | 0 => fun _ => none
  | n + 1 => lkS (lk n)
def SoundL (lk : Cs → Option Ty2) : Prop := ∀ t K, (∀ c ∈ t, c < 0xd800) → lk t = some K → t = K.sh
theorem ends_of {t : Cs} {a b : Nat} (h : t.head? = some a) (h2 : t.getLast? = some b) (hl : 2 ≤ t.length) : t = a :: ((t.drop 1).dropLast ++ [b]) := by
  cases t with
  | nil => cases h
  | cons c r =>
    cases h
    have hr : r ≠ [] := by rintro rfl; simp at hl
    rw [List.drop_succ_cons, List.drop_zero]
    congr 1
    have : r.getLast? = some b := by
      rw [List.getLast?_cons] at h2
      cases e : r.getLast? with
      | none => exact (hr (List.getLast?_eq_none_iff.mp e)).elim
      | some x => rw [e] at h2; exact h2
    obtain ⟨ys, hy⟩ := List.getLast?_eq_some_iff.mp this
    rw [hy]
    simp
theorem lkF_sound {f : Cs → Option Ty2} (h : SoundL f) : ∀ (ps : List Cs) (acc fs : List (String × Ty2)), (∀ p ∈ ps, ∀ c ∈ p, c < 0xd800) → lkF f acc ps = some fs → ∃ more, fs = acc ++ more ∧ (Fs.of more).fsh = glue ps ∧ more.length = ps.length
  | [], acc, fs, _, e => by cases e; exact ⟨[], by simp, rfl, rfl⟩
  | p :: ps, acc, fs, hc, e => by
    unfold lkF at e
    split at e
    · cases e
    · rename_i i ei
      split at e
      · cases e
      · rename_i K eK
        obtain ⟨more, h1, h2, h3⟩ := lkF_sound h ps _ _ (fun q hq => hc q (List.mem_cons_of_mem _ hq)) e
        have hp := hc p (List.mem_cons_self ..)
        have hs := h _ _ (fun c hc => hp c (List.mem_of_mem_drop hc)) eK
        obtain ⟨h4, h5⟩ := fnd_some ei
        refine ⟨(toS (p.take i), K) :: more, by rw [h1]; simp, ?_, by simp [h3]⟩
        rw [Fs.of, Fs.fsh, h2, show glue (p :: ps) = (44 :: 32 :: p) ++ glue ps from rfl, ← hs, nmL_toS fun c hc => hp c (List.mem_of_mem_take hc)]
        conv => rhs; rw [h4]
        simp
theorem mem_cutF {d : Int} {cur t : Cs} {N : Nat} (h : ∀ c ∈ cur ++ t, c < N) : ∀ p ∈ cutF d cur t, ∀ c ∈ p, c < N := fun p hp c hc => by
  revert p
  fun_induction cutF d cur t with
  | case1 => intro p hp hc; simp at hp; subst hp; exact h c (by simpa using hc)
  | case2 cur r ih =>
    intro p hp hc
    rcases List.mem_cons.mp hp with rfl | hp
    · exact h c (List.mem_append_left _ hc)
    · exact ih (fun b hb => h b (by simp at hb ⊢; simp [hb])) p hp hc
  | case3 d cur r hd ih => 
    intro p hp hc
    exact ih (fun b hb => h b (by simp at hb ⊢; rcases hb with h | h | h | h <;> simp [h])) p hp hc
  | case4 d cur b r hh ih => 
    intro p hp hc
    exact ih (fun b hb => h b (by simp at hb ⊢; rcases hb with h | h | h <;> simp [h])) p hp hc
theorem lkS_sound {f : Cs → Option Ty2} (h : SoundL f) : SoundL (lkS f) := fun t K hc e => by
  unfold lkS at e
  split at e
  · rename_i k ek
    cases e
    exact leafOf_eq ek
  · split at e
    · cases e
    · rename_i hl
      have hl : 2 ≤ t.length := by omega
      split at e
      · rename_i h63
        split at e
        · cases e
        · rename_i K1 e1
          split at e
          · cases e
          · cases e
            obtain ⟨ys, rfl⟩ := List.getLast?_eq_some_iff.mp h63
            rw [List.dropLast_concat] at e1
            rw [Ty2.sh, ← h _ _ (fun c hcc => hc c (List.mem_append_left _ hcc)) e1]
      · split at e
        · rename_i _ hh
          split at e
          · cases e
          · rename_i K1 e1
            cases e
            have et := ends_of hh.1 hh.2 hl
            rw [Ty2.sh, ← h _ _ (fun c hcc => hc c (List.mem_of_mem_drop (List.dropLast_subset _ hcc))) e1]
            exact et
        · split at e
          · rename_i _ _ hh
            split at e
            · cases e
            · rename_i fs e1
              cases e
              have et := ends_of hh.1 hh.2 hl
              obtain ⟨more, h1, h2, h3⟩ := lkF_sound h _ _ _ (mem_cutF fun c hcc => hc c (List.mem_of_mem_drop (i := 1) (List.dropLast_subset _ (by rw [List.nil_append] at hcc; exact hcc)))) e1
              rw [List.nil_append] at h1
              subst h1
              rw [Ty2.sh, h2, glue_cutF]
              exact et
          · cases e
theorem lk_sound : ∀ n, SoundL (lk n)
  | 0 => fun t K _ e => by cases e
  | n + 1 => lkS_sound (lk_sound n)
def CompL (d : Nat) (f : Cs → Option Ty2) : Prop := ∀ K : Ty2, K.sml → K.dep ≤ d → f K.sh = some K
theorem leafOf_none {t : Cs} {c : Nat} (h : t.getLast? = some c) (hc : isLo c = false) : leafOf t = none := by
  cases e : leafOf t with
  | none => rfl
  | some k =>
    rw [leafOf_eq e] at h
    have := kd_lo k c (List.mem_of_getLast? h)
    rw [this] at hc
    cases hc
theorem lkF_comp {d : Nat} {f : Cs → Option Ty2} (h : CompL d f) : ∀ (g : Fs) (acc : List (String × Ty2)), g.sml → g.dep ≤ d → lkF f acc (g.l.map fieldT) = some (acc ++ g.l)
  | .nil, acc, _, _ => by rw [Fs.l, List.map_nil, lkF, List.append_nil]
  | .cons n t r, acc, hs, hd => by
    rw [Fs.dep] at hd
    rw [Fs.l, List.map_cons, lkF]
    have e : fnd (fieldT (n, t)) = some (nmL n).length := fnd_field hs.1
    rw [e]
    dsimp only
    have e2 : (fieldT (n, t)).drop ((nmL n).length + 2) = t.sh := by
      unfold fieldT
      rw [← List.drop_drop, List.drop_left]
      rfl
    have e3 : (fieldT (n, t)).take (nmL n).length = nmL n := by
      unfold fieldT
      exact List.take_left
    rw [e2, h t hs.2.1 (by omega), e3, toS_nmL]
    dsimp only
    rw [lkF_comp h r _ hs.2.2 (by omega)]
    simp
theorem lkS_comp {d : Nat} {f : Cs → Option Ty2} (h : CompL d f) : CompL (d + 1) (lkS f) := fun K hs hd => by
  cases K with
  | leaf k =>
    unfold lkS
    rw [Ty2.sh, leafOf_k]
  | lst t =>
    rw [Ty2.dep] at hd
    have e1 : (Ty2.lst t).sh.getLast? = some 93 := by rw [Ty2.sh, ← List.cons_append]; exact List.getLast?_concat ..
    have e2 : (Ty2.lst t).sh.head? = some 91 := by rw [Ty2.sh]; rfl
    have e3 : ((Ty2.lst t).sh.drop 1).dropLast = t.sh := by rw [Ty2.sh]; simp
    have e4 : ¬ (Ty2.lst t).sh.length < 2 := by rw [Ty2.sh]; simp
    unfold lkS
    rw [leafOf_none e1 rfl]
    dsimp only
    rw [if_neg e4, e1, if_neg (by simp), e2, if_pos ⟨rfl, rfl⟩, e3, h t hs (by omega)]
  | opt t =>
    rw [Ty2.dep] at hd
    have e1 : (Ty2.opt t).sh.getLast? = some 63 := by rw [Ty2.sh]; simp
    have e3 : (Ty2.opt t).sh.dropLast = t.sh := by rw [Ty2.sh]; simp
    have e4 : ¬ (Ty2.opt t).sh.length < 2 := by
      have : t.sh ≠ [] := by
        cases t with
        | leaf k => cases k <;> decide
        | _ => rw [Ty2.sh]; simp
      rw [Ty2.sh, List.length_append]
      have := List.length_pos_iff.mpr this
      simp
      omega
    unfold lkS
    rw [leafOf_none e1 rfl]
    dsimp only
    rw [if_neg e4, e1, if_pos rfl, e3, h t hs.1 (by omega)]
    dsimp only
    rw [hs.2]
    rfl
  | rcd g =>
    rw [Ty2.dep] at hd
    have e1 : (Ty2.rcd g).sh.getLast? = some 125 := by rw [Ty2.sh, ← List.cons_append]; exact List.getLast?_concat ..
    have e2 : (Ty2.rcd g).sh.head? = some 123 := by rw [Ty2.sh]; rfl
    have e3 : ((Ty2.rcd g).sh.drop 1).dropLast = g.fsh.drop 2 := by rw [Ty2.sh]; simp
    have e4 : ¬ (Ty2.rcd g).sh.length < 2 := by rw [Ty2.sh]; simp
    unfold lkS
    rw [leafOf_none e1 rfl]
    dsimp only
    rw [if_neg e4, e1, if_neg (by simp), e2, if_neg (by simp), if_pos ⟨rfl, rfl⟩, e3]
    obtain ⟨hs, hne⟩ := hs
    cases g with
    | nil => exact (hne rfl).elim
    | cons n t r =>
      have e5 : (Fs.cons n t r).fsh.drop 2 = fieldT (n, t) ++ r.fsh := by rw [Fs.fsh, fieldT]; simp
      have e6 := cutF_rec r n t [] hs
      rw [List.nil_append] at e6
      have e7 : fieldT (n, t) :: r.l.map fieldT = (Fs.cons n t r).l.map fieldT := rfl
      rw [e5, e6, e7, lkF_comp h _ [] hs (by omega)]
      dsimp only
      rw [List.nil_append, Fs.of_l']
theorem lk_comp : ∀ d, CompL d (lk d)
  | 0 => fun K _ hd => by cases K <;> rw [Ty2.dep] at hd <;> omega
  | d + 1 => lkS_comp (lk_comp d)
end D2
end
section
set_option linter.all false
set_option autoImplicit false
set_option maxRecDepth 100000
namespace D2
open PySem L2

def isMk (c : Nat) : Bool := decide (c = 63) || (decide (c = 91) || decide (c = 123))
def marks (t : Cs) : Nat := t.countP isMk
theorem marks_app {x y : Cs} : marks (x ++ y) = marks x + marks y := List.countP_append
theorem marks_cons {c : Nat} {x : Cs} : marks (c :: x) = marks x + if isMk c = true then 1 else 0 := List.countP_cons
mutual
theorem Ty2.dep_marks : ∀ t : Ty2, t.dep ≤ marks t.sh + 1
  | .leaf k => by rw [Ty2.dep]; omega
  | .lst t => by
    have := Ty2.dep_marks t
    rw [Ty2.dep, Ty2.sh, marks_cons, marks_app, show isMk 91 = true from rfl, if_pos rfl]
    omega
  | .opt t => by
    have := Ty2.dep_marks t
    rw [Ty2.dep, Ty2.sh, marks_app, show marks [63] = 1 from rfl]
    omega
  | .rcd f => by
    have := Fs.dep_marks f
    rw [Ty2.dep, Ty2.sh, marks_cons, marks_app, show isMk 123 = true from rfl, if_pos rfl]
    cases f with
    | nil => rw [Fs.dep]; omega
    | cons n t r =>
      rw [Fs.fsh, marks_cons, marks_cons, if_neg (by decide), if_neg (by decide)] at this
      rw [Fs.fsh, List.drop_succ_cons, List.drop_succ_cons, List.drop_zero]
      omega
theorem Fs.dep_marks : ∀ f : Fs, f.dep ≤ marks f.fsh + 1
  | .nil => by rw [Fs.dep]; omega
  | .cons n t r => by
    have h1 := Ty2.dep_marks t
    have h2 := Fs.dep_marks r
    rw [Fs.dep, Fs.fsh, marks_cons, marks_cons, marks_app, marks_cons, marks_cons, marks_app]
    omega
end
theorem agree {t : Cs} (hc : ∀ c ∈ t, c < 0xd800) {n : Nat} (hn : marks t < n) {K : Ty2} (hs : Sc K) : rdK 8 t = some (K, []) ↔ lk n t = some K := by
  obtain ⟨g, hd, _, _⟩ := hs
  have sm := Ty2.gd_sml K g
  constructor
  · intro h
    have e := (rdK_sound 8 _ _ _ h).1
    rw [List.append_nil] at e
    subst e
    have := Ty2.dep_marks K
    exact lk_comp n K sm (by omega)
  · intro h
    have e := lk_sound n t K hc h
    subst e
    have := rdK_comp 8 K [] sm (by omega) (fun c h => by cases h)
    rwa [List.append_nil] at this
theorem lk_pd {t : Cs} (hc : ∀ c ∈ t, c < 0xd800) {n : Nat} {K : Ty2} (hs : Sc K) (h : lk n t = some K) : Pd 8 t := by
  have e := lk_sound n t K hc h
  subst e
  exact Ty2.pd_sh K 8 (Ty2.gd_sml K hs.gd) (by have := hs.dep; omega)
theorem marks_drop {x : Cs} {n : Nat} : marks (x.drop n) ≤ marks x := (List.drop_sublist n x).countP_le
theorem marks_dropLast {x : Cs} : marks x.dropLast ≤ marks x := (List.dropLast_sublist x).countP_le
theorem marks_glue {ps : List Cs} {p : Cs} (h : p ∈ ps) : marks p ≤ marks (glue ps) := by
  induction ps with
  | nil => cases h
  | cons q ps ih =>
    rw [show glue (q :: ps) = (44 :: 32 :: q) ++ glue ps from rfl, marks_app, marks_cons, marks_cons, if_neg (by decide), if_neg (by decide)]
    rcases List.mem_cons.mp h with rfl | h
    · omega
    · have := ih h
      omega
theorem marks_cutF {d : Int} {cur t p : Cs} (h : p ∈ cutF d cur t) : marks p ≤ marks (cur ++ t) := by
  have := marks_glue h
  rw [glue_cutF, marks_cons, marks_cons, if_neg (by decide), if_neg (by decide)] at this
  omega
theorem len_glue {ps : List Cs} {p : Cs} (h : p ∈ ps) : p.length ≤ (glue ps).length := by
  induction ps with
  | nil => cases h
  | cons q ps ih =>
    rw [show glue (q :: ps) = (44 :: 32 :: q) ++ glue ps from rfl, List.length_append, List.length_cons, List.length_cons]
    rcases List.mem_cons.mp h with rfl | h
    · omega
    · have := ih h
      omega
theorem len_cutF {d : Int} {cur t p : Cs} (h : p ∈ cutF d cur t) : p.length ≤ cur.length + t.length := by
  have := len_glue h
  rw [glue_cutF, List.length_cons, List.length_cons, List.length_append] at this
  have h2 : 44 :: 32 :: p <:+: glue (cutF d cur t) := by
    obtain ⟨a, b, e⟩ := List.append_of_mem h
    rw [e, glue, List.flatMap_append, List.flatMap_cons]
    exact ⟨_, _, by rw [List.append_assoc]⟩
  have := h2.length_le
  rw [glue_cutF, List.length_cons, List.length_cons, List.length_cons, List.length_cons, List.length_append] at this
  omega
theorem cut_count (d : Int) (cur t : Cs) : (cutF d cur t).length ≤ t.length + 1 := by
  fun_induction cutF d cur t with
  | case1 => simp
  | case2 cur r ih => simp only [List.length_cons]; omega
  | case3 d cur r hd ih => simp only [List.length_cons] at ih ⊢; omega
  | case4 d cur c r h ih => simp only [List.length_cons]; omega
end D2
end
section
set_option linter.all false
set_option autoImplicit false
namespace D2
open PySem L2
def Kd.plain : Kd → D
  | .int => .int 0
  | .text => .str ⟨#[]⟩
  | .bool => .bl false
mutual
def Ty2.plain : Ty2 → D
  | .leaf k => k.plain
  | .rcd f => .tup f.plain
  | .lst _ => .tup []
  | .opt _ => .non
def Fs.plain : Fs → List D
  | .nil => []
  | .cons _ t r => t.plain :: r.plain
end
def Ty2.full : Ty2 → D
  | .opt t => t.plain
  | .lst t => .tup [t.plain]
  | t => t.plain
def put1 (n : String) (w : D) (q : String × Ty2) : D := if q.1 = n then w else q.2.plain
mutual
def Ty2.part : Ty2 → Ty2 → Ty2 → Option D
  | .leaf _, _, _ => none
  | .rcd g, t, u => match t, u with
    | .rcd f, .rcd h => g.part f h
    | _, _ => none
  | .opt v, t, u => match u with
    | .lst u' => match t with
      | .opt _ => some .non
      | t => v.part t (.lst u')
    | .opt u' => match t with
      | .opt t' => v.part t' u'
      | t => v.part t u'
    | u => v.part t u
  | .lst v, t, u => match u with
    | .lst u' => match t with
      | .lst t' => (v.part t' u').map fun x => .tup [x]
      | .opt t' => v.part t' u'
      | t => v.part t u'
    | .opt u' => match t with
      | .opt t' => v.part t' u'
      | t => v.part t u'
    | u => v.part t u
def Fs.part : Fs → Fs → Fs → Option D
  | .nil, _, _ => none
  | .cons n p r, f, h => match (match f.get n, h.get n with
      | some a, some b => (p.part a b).map fun w => .tup (f.l.map (put1 n w))
      | some a, none => some (.tup (f.l.map (put1 n a.full)))
      | none, some b => if (b.isLst && p.isOpt) = true then some (.tup f.plain) else none
      | none, none => none) with
    | some w => some w
    | none => r.part f h
end
mutual
def Ty2.wv : Ty2 → D → Prop
  | .leaf k, d => d = k.plain
  | .rcd f, d => ∃ vs : List D, d = .tup vs ∧ f.wv vs
  | .lst t, d => ∃ vs : List D, d = .tup vs ∧ vs.length ≤ 1 ∧ ∀ v ∈ vs, t.wv v
  | .opt t, d => d = .non ∨ t.wv d
def Fs.wv : Fs → List D → Prop
  | .nil, vs => vs = []
  | .cons _ t r, vs => ∃ (v : D) (ws : List D), vs = v :: ws ∧ t.wv v ∧ r.wv ws
end
mutual
theorem Ty2.wv_hv : ∀ (t : Ty2) (v : D), t.wv v → t.hv v
  | .leaf k, v, h => by
    obtain rfl := (show v = k.plain from h)
    cases k with
    | int => exact ⟨0, rfl, by decide, by decide⟩
    | text => exact ⟨[], rfl, by decide, fun c h => by simp at h⟩
    | bool => exact ⟨false, rfl⟩
  | .rcd f, v, ⟨vs, e, h⟩ => ⟨vs, e, Fs.wv_hv f vs h⟩
  | .lst t, v, ⟨vs, e, hl, h⟩ => ⟨vs, e, by omega, fun w hw => Ty2.wv_hv t w (h w hw)⟩
  | .opt t, v, h => h.imp id (Ty2.wv_hv t v)
theorem Fs.wv_hv : ∀ (f : Fs) (vs : List D), f.wv vs → f.hv vs
  | .nil, _, h => h
  | .cons _ t r, _, ⟨v, ws, e, h1, h2⟩ => ⟨v, ws, e, Ty2.wv_hv t v h1, Fs.wv_hv r ws h2⟩
end
mutual
theorem Ty2.plain_wv : ∀ t : Ty2, t.wv t.plain
  | .leaf k => rfl
  | .rcd f => ⟨_, rfl, Fs.plain_wv f⟩
  | .lst t => ⟨[], rfl, by decide, fun v h => by simp at h⟩
  | .opt t => .inl rfl
theorem Fs.plain_wv : ∀ f : Fs, f.wv f.plain
  | .nil => rfl
  | .cons _ t r => ⟨_, _, rfl, Ty2.plain_wv t, Fs.plain_wv r⟩
end
theorem Ty2.full_wv (t : Ty2) : t.wv t.full := by
  cases t with
  | opt t => exact .inr t.plain_wv
  | lst t => exact ⟨_, rfl, by simp, fun v h => by simp at h; subst h; exact t.plain_wv⟩
  | leaf k => exact Ty2.plain_wv _
  | rcd k => exact Ty2.plain_wv _
theorem Fs.plain_l : ∀ f : Fs, f.plain = f.l.map fun q => q.2.plain
  | .nil => rfl
  | .cons n t r => by rw [Fs.plain, Fs.l, List.map_cons, Fs.plain_l r]
theorem Fs.put_none (n : String) (w : D) (f : Fs) (h : n ∉ f.names) : f.l.map (put1 n w) = f.plain := by
  rw [Fs.plain_l]
  refine List.map_congr_left fun q hq => ?_
  unfold put1
  rw [if_neg]
  rintro rfl
  exact h (Fs.mem_names hq)
theorem Fs.put_wv {n : String} {w : D} {a : Ty2} (hw : a.wv w) : ∀ f : Fs, f.names.Nodup → f.get n = some a → f.wv (f.l.map (put1 n w))
  | .nil, _, h => by cases h
  | .cons m t r, nd, h => by
    rw [Fs.names, List.nodup_cons] at nd
    unfold Fs.get at h
    rw [Fs.l, List.map_cons]
    by_cases e : m = n
    · rw [if_pos e] at h
      cases h
      subst e
      refine ⟨_, _, rfl, ?_, ?_⟩
      · unfold put1
        rw [if_pos rfl]
        exact hw
      · rw [Fs.put_none _ _ _ nd.1]
        exact Fs.plain_wv r
    · rw [if_neg e] at h
      refine ⟨_, _, rfl, ?_, Fs.put_wv hw r nd.2 h⟩
      unfold put1
      rw [if_neg e]
      exact Ty2.plain_wv t
theorem Fs.put_get {n : String} {w : D} {a : Ty2} : ∀ f : Fs, f.get n = some a → f.getV n (f.l.map (put1 n w)) = some (a, w)
  | .nil, h => by cases h
  | .cons m t r, h => by
    unfold Fs.get at h
    unfold Fs.getV
    rw [Fs.l, List.map_cons]
    by_cases e : m = n
    · rw [if_pos e] at h ⊢
      cases h
      simp only [List.head?_cons, Option.map_some, put1, if_pos e]
    · rw [if_neg e] at h ⊢
      exact Fs.put_get r h
theorem Fs.getV_mv (n : String) : ∀ (h f : Fs) (vs : List D), h.getV n (h.mv f vs) = (h.get n).map fun b => (b, match f.getV n vs with | some q => b.mv q.1 q.2 | none => b.bare)
  | .nil, _, _ => rfl
  | .cons m b r, f, vs => by
    rw [Fs.getV, Fs.get, Fs.mv]
    by_cases e : m = n
    · rw [if_pos e, if_pos e]
      subst e
      rfl
    · rw [if_neg e, if_neg e]
      exact Fs.getV_mv n r f vs
theorem Fs.fit_get {n : String} {b : Ty2} : ∀ {h f : Fs}, h.fit f = true → h.get n = some b → (match f.get n with | some a => b.fit a | none => b.isOL) = true
  | .nil, _, _, e => by cases e
  | .cons m c r, f, h, e => by
    unfold Fs.fit at h
    unfold Fs.get at e
    obtain ⟨h1, h2⟩ := Bool.and_eq_true_iff.mp h
    by_cases em : m = n
    · rw [if_pos em] at e
      cases e
      subst em
      exact h1
    · rw [if_neg em] at e
      exact Fs.fit_get h2 e
theorem Ty2.hv_non {t : Ty2} {v : D} (o : t.isOpt = false) (h : t.hv v) : isNon v = false := by
  cases t with
  | opt t => cases o
  | leaf k => cases k with
    | int => obtain ⟨i, rfl, _⟩ := h; rfl
    | text => obtain ⟨i, rfl, _⟩ := h; rfl
    | bool => obtain ⟨i, rfl⟩ := h; rfl
  | rcd f => obtain ⟨i, rfl, _⟩ := h; rfl
  | lst f => obtain ⟨i, rfl, _⟩ := h; rfl
theorem Ty2.mv_non {t u : Ty2} {v : D} (o : u.isOpt = false) (f : u.fit t = true) (h : t.hv v) : isNon (u.mv t v) = false := Ty2.hv_non o (Ty2.mv_hv u t v f h)
theorem non_ne {x : D} (h : isNon x = false) : x ≠ .non := by
  rintro rfl
  cases h
theorem mv_opt_opt {u t : Ty2} {v : D} (h : isNon v = false) : (Ty2.opt u).mv (.opt t) v = u.mv t v := by
  rw [Ty2.mv]
  simp only [h, Bool.false_eq_true, if_false]
theorem mv_opt {u t : Ty2} {v : D} (h : t.isOpt = false) : (Ty2.opt u).mv t v = u.mv t v := by
  cases t with
  | opt t => cases h
  | _ => rw [Ty2.mv] <;> (intro t e; cases e)
theorem mv_lst {u t : Ty2} {v : D} (h : t.isOL = false) : (Ty2.lst u).mv t v = .tup [u.mv t v] := by
  cases t with
  | opt t => cases h
  | lst t => cases h
  | _ => rw [Ty2.mv] <;> (intro t e; cases e)
theorem mv_lst_opt {u t : Ty2} {v : D} (h : isNon v = false) : (Ty2.lst u).mv (.opt t) v = .tup [u.mv t v] := by
  rw [Ty2.mv]
  simp only [h, Bool.false_eq_true, if_false]
theorem mv_lst_lst {u t : Ty2} {vs : List D} : (Ty2.lst u).mv (.lst t) (.tup vs) = .tup (vs.map fun v => u.mv t v) := by rw [Ty2.mv]
theorem fit_opt {u t : Ty2} (h : t.isOpt = false) : (Ty2.opt u).fit t = u.fit t := by
  cases t with
  | opt t => cases h
  | _ => rw [Ty2.fit] <;> (intro t e; cases e)
theorem fit_lst {u t : Ty2} (h : t.isOL = false) : (Ty2.lst u).fit t = u.fit t := by
  cases t with
  | opt t => cases h
  | lst t => cases h
  | _ => rw [Ty2.fit] <;> (intro t e; cases e)
theorem isOL_opt {t : Ty2} (h : t.isOL = false) : t.isOpt = false := by cases t <;> first | rfl | cases h
theorem OL_of {t : Ty2} (h : t.isOpt = false) (g : t.isLst = false) : t.isOL = false := by cases t <;> simp_all [Ty2.isOpt, Ty2.isLst, Ty2.isOL]
theorem fit_from {u t : Ty2} (h : u.isOL = false) (f : u.fit t = true) : t.isOL = false := by
  cases u with
  | opt u => cases h
  | lst u => cases h
  | leaf k => unfold Ty2.fit at f; cases t <;> first | rfl | cases f
  | rcd k => unfold Ty2.fit at f; cases t <;> first | rfl | cases f
theorem fit_from_lst {u t : Ty2} (h : u.isOpt = false) (f : u.fit (.lst t) = true) : ∃ u', u = .lst u' := by
  cases u with
  | opt u => cases h
  | lst u => exact ⟨_, rfl⟩
  | leaf k => unfold Ty2.fit at f; cases f
  | rcd k => unfold Ty2.fit at f; cases f
theorem part_opt_lst {v t u : Ty2} (h : t.isOpt = false) : (Ty2.opt v).part t (.lst u) = v.part t (.lst u) := by
  cases t with
  | opt t => cases h
  | _ => rw [Ty2.part] <;> (intro t e; cases e)
theorem part_opt_opt {v t u : Ty2} (h : t.isOpt = false) : (Ty2.opt v).part t (.opt u) = v.part t u := by
  cases t with
  | opt t => cases h
  | _ => rw [Ty2.part] <;> (intro t e; cases e)
theorem part_opt {v t u : Ty2} (h : u.isOL = false) : (Ty2.opt v).part t u = v.part t u := by
  cases u with
  | opt t => cases h
  | lst t => cases h
  | _ => cases t <;> rw [Ty2.part] <;> (intro t e; cases e)
theorem part_lst_lst {v t u : Ty2} (h : t.isOL = false) : (Ty2.lst v).part t (.lst u) = v.part t u := by
  cases t with
  | opt t => cases h
  | lst t => cases h
  | _ => rw [Ty2.part] <;> (intro t e; cases e)
theorem part_lst_opt {v t u : Ty2} (h : t.isOpt = false) : (Ty2.lst v).part t (.opt u) = v.part t u := by
  cases t with
  | opt t => cases h
  | _ => rw [Ty2.part] <;> (intro t e; cases e)
theorem part_lst {v t u : Ty2} (h : u.isOL = false) : (Ty2.lst v).part t u = v.part t u := by
  cases u with
  | opt t => cases h
  | lst t => cases h
  | _ => cases t <;> rw [Ty2.part] <;> (intro t e; cases e)
end D2
end
section
set_option linter.all false
set_option autoImplicit false
namespace D2
open PySem L2
theorem non_cases (v : D) : v = .non ∨ isNon v = false := by cases v <;> simp [isNon]
mutual
theorem Ty2.one : ∀ (v t u : Ty2) (x : D), v.gd → t.gd → u.gd → u.fit t = true → v.fit u = true → v.fit t = true → v.part t u = none → t.hv x → v.mv u (u.mv t x) = v.mv t x
  | .leaf k, t, u, x, _, _, _, f1, f2, f3, p, h => by
    unfold Ty2.fit at f2
    cases u <;> first | cases f2 | skip
    rfl
  | .rcd g, t, u, x, gv, gt, gu, f1, f2, f3, p, h => by
    unfold Ty2.fit at f2 f3
    cases u <;> first | cases f2 | skip
    rename_i hh
    cases t <;> first | cases f3 | skip
    rename_i ff
    unfold Ty2.fit at f1
    unfold Ty2.part at p
    obtain ⟨vs, rfl, hv⟩ := h
    show D.tup (g.mv hh (hh.mv ff vs)) = .tup (g.mv ff vs)
    rw [Fs.one g ff hh vs gv.1 gt.1 gu.1 f1 f2 f3 p hv]
  | .opt v, t, u, x, gv, gt, gu, f1, f2, f3, p, h => by
    cases u with
    | lst u =>
      by_cases o : t.isOpt = true
      · cases t <;> first | cases o | skip
        rw [Ty2.part] at p
        cases p
      · have o : t.isOpt = false := by simpa using o
        rw [mv_opt rfl, mv_opt o]
        rw [part_opt_lst o] at p
        rw [fit_opt rfl] at f2
        rw [fit_opt o] at f3
        exact Ty2.one v t _ x gv.1 gt gu f1 f2 f3 p h
    | opt u =>
      have hu := gu.2
      by_cases o : t.isOpt = true
      · cases t <;> first | cases o | skip
        rename_i t
        rw [Ty2.part] at p
        unfold Ty2.fit at f1 f2 f3
        dsimp only at f1 f2 f3
        rcases non_cases x with rfl | nx
        · rfl
        · have hx : t.hv x := h.resolve_left (non_ne nx)
          have ny := Ty2.mv_non hu f1 hx
          rw [mv_opt_opt nx, mv_opt_opt nx, mv_opt_opt ny]
          exact Ty2.one v t u x gv.1 gt.1 gu.1 f1 f2 f3 p hx
      · have o : t.isOpt = false := by simpa using o
        rw [fit_opt o] at f1 f3
        rw [part_opt_opt o] at p
        unfold Ty2.fit at f2
        dsimp only at f2
        have ny := Ty2.mv_non hu f1 h
        rw [mv_opt o, mv_opt o, mv_opt_opt ny]
        exact Ty2.one v t u x gv.1 gt gu.1 f1 f2 f3 p h
    | leaf k =>
      have o := isOL_opt (fit_from rfl f1)
      rw [part_opt rfl] at p
      rw [fit_opt rfl] at f2
      rw [fit_opt o] at f3
      rw [mv_opt rfl, mv_opt o]
      exact Ty2.one v t _ x gv.1 gt gu f1 f2 f3 p h
    | rcd k =>
      have o := isOL_opt (fit_from rfl f1)
      rw [part_opt rfl] at p
      rw [fit_opt rfl] at f2
      rw [fit_opt o] at f3
      rw [mv_opt rfl, mv_opt o]
      exact Ty2.one v t _ x gv.1 gt gu f1 f2 f3 p h
  | .lst v, t, u, x, gv, gt, gu, f1, f2, f3, p, h => by
    have plain : u.isOL = false → (Ty2.lst v).mv u (u.mv t x) = (Ty2.lst v).mv t x := fun o => by
      have ot := fit_from o f1
      rw [part_lst o] at p
      rw [fit_lst o] at f2
      rw [fit_lst ot] at f3
      rw [mv_lst o, mv_lst ot, Ty2.one v t u x gv gt gu f1 f2 f3 p h]
    cases u with
    | leaf k => exact plain rfl
    | rcd k => exact plain rfl
    | lst u =>
      cases t with
      | lst t =>
        unfold Ty2.fit at f1 f2 f3
        dsimp only at f1 f2 f3
        rw [Ty2.part] at p
        have p := Option.map_eq_none_iff.mp p
        obtain ⟨vs, rfl, _, hv⟩ := h
        rw [mv_lst_lst, mv_lst_lst, mv_lst_lst, List.map_map]
        congr 1
        refine List.map_congr_left fun y hy => ?_
        exact Ty2.one v t u y gv gt gu f1 f2 f3 p (hv y hy)
      | opt t =>
        unfold Ty2.fit at f1 f2 f3
        dsimp only at f1 f2 f3
        have f1 := (Bool.and_eq_true_iff.mp f1).2
        have f3 := (Bool.and_eq_true_iff.mp f3).2
        rw [Ty2.part] at p
        rcases non_cases x with rfl | nx
        · rfl
        · have hx : t.hv x := h.resolve_left (non_ne nx)
          rw [mv_lst_opt nx, mv_lst_opt nx, mv_lst_lst, List.map_cons, List.map_nil, Ty2.one v t u x gv gt.1 gu f1 f2 f3 p hx]
      | leaf k =>
        rw [fit_lst rfl] at f1 f3
        rw [part_lst_lst rfl] at p
        unfold Ty2.fit at f2
        dsimp only at f2
        rw [mv_lst (t := .leaf k) rfl, mv_lst (t := .leaf k) rfl, mv_lst_lst, List.map_cons, List.map_nil, Ty2.one v _ u x gv gt gu f1 f2 f3 p h]
      | rcd k =>
        rw [fit_lst rfl] at f1 f3
        rw [part_lst_lst rfl] at p
        unfold Ty2.fit at f2
        dsimp only at f2
        rw [mv_lst (t := .rcd k) rfl, mv_lst (t := .rcd k) rfl, mv_lst_lst, List.map_cons, List.map_nil, Ty2.one v _ u x gv gt gu f1 f2 f3 p h]
    | opt u =>
      have hu := gu.2
      unfold Ty2.fit at f2
      dsimp only at f2
      obtain ⟨nl, f2⟩ := Bool.and_eq_true_iff.mp f2
      have nl : u.isLst = false := by simpa using nl
      have uo := OL_of hu nl
      cases t with
      | opt t =>
        unfold Ty2.fit at f1 f3
        dsimp only at f1 f3
        have f3 := (Bool.and_eq_true_iff.mp f3).2
        rw [Ty2.part] at p
        rcases non_cases x with rfl | nx
        · rfl
        · have hx : t.hv x := h.resolve_left (non_ne nx)
          have ny := Ty2.mv_non hu f1 hx
          rw [mv_opt_opt nx, mv_lst_opt nx, mv_lst_opt ny, Ty2.one v t u x gv gt.1 gu.1 f1 f2 f3 p hx]
      | lst t =>
        rw [fit_opt rfl] at f1
        exact absurd (fit_from uo f1) (by simp [Ty2.isOL])
      | leaf k =>
        rw [fit_opt rfl] at f1
        rw [fit_lst rfl] at f3
        rw [part_lst_opt rfl] at p
        have ny := Ty2.mv_non hu f1 h
        rw [mv_opt (t := .leaf k) rfl, mv_lst (t := .leaf k) rfl, mv_lst_opt ny, Ty2.one v _ u x gv gt gu.1 f1 f2 f3 p h]
      | rcd k =>
        rw [fit_opt rfl] at f1
        rw [fit_lst rfl] at f3
        rw [part_lst_opt rfl] at p
        have ny := Ty2.mv_non hu f1 h
        rw [mv_opt (t := .rcd k) rfl, mv_lst (t := .rcd k) rfl, mv_lst_opt ny, Ty2.one v _ u x gv gt gu.1 f1 f2 f3 p h]
theorem Fs.one : ∀ (g f h : Fs) (vs : List D), g.gd → f.gd → h.gd → h.fit f = true → g.fit h = true → g.fit f = true → g.part f h = none → f.hv vs → g.mv h (h.mv f vs) = g.mv f vs
  | .nil, _, _, _, _, _, _, _, _, _, _, _ => rfl
  | .cons n p r, f, h, vs, gg, gf, gh, f1, f2, f3, q, hv => by
    unfold Fs.fit at f2 f3
    obtain ⟨a2, b2⟩ := Bool.and_eq_true_iff.mp f2
    obtain ⟨a3, b3⟩ := Bool.and_eq_true_iff.mp f3
    unfold Fs.part at q
    split at q
    · cases q
    rename_i q1
    rw [Fs.mv, Fs.mv, Fs.one r f h vs gg.2.2 gf gh f1 b2 b3 q hv, Fs.getV_mv]
    congr 1
    have gv := Fs.getV_get n f vs hv
    cases ef : f.get n with
    | some a =>
      rw [ef] at gv a3
      obtain ⟨x, e1, hx⟩ := gv
      cases eh : h.get n with
      | none => rw [ef, eh] at q1; cases q1
      | some b =>
        rw [ef, eh] at q1
        rw [eh] at a2
        have ab := Fs.fit_get f1 eh
        rw [ef] at ab
        dsimp only at q1 a2 a3 ab
        rw [e1]
        exact Ty2.one p a b x gg.2.1 (Fs.get_gd gf ef).1 (Fs.get_gd gh eh).1 ab a2 a3 (Option.map_eq_none_iff.mp q1) hx
    | none =>
      rw [ef] at gv a3
      dsimp only at gv a3
      rw [gv]
      cases eh : h.get n with
      | none => rfl
      | some b =>
        rw [ef, eh] at q1
        rw [eh] at a2
        have ab := Fs.fit_get f1 eh
        rw [ef] at ab
        dsimp only at q1 a2 ab ⊢
        have nn : (b.isLst && p.isOpt) = false := by
          cases e : (b.isLst && p.isOpt) with
          | false => rfl
          | true => rw [e] at q1; cases q1
        show p.mv b b.bare = p.bare
        cases b with
        | leaf k => cases ab
        | rcd k => cases ab
        | opt b =>
          cases p with
          | leaf k => cases a3
          | rcd k => cases a3
          | opt p => rfl
          | lst p => rfl
        | lst b =>
          cases p with
          | leaf k => cases a3
          | rcd k => cases a3
          | opt p => cases nn
          | lst p => rfl
end
end D2
end
section
set_option linter.all false
set_option autoImplicit false
namespace D2
open PySem L2
theorem tup_ne {x y : D} (h : x ≠ y) : D.tup [x] ≠ .tup [y] := fun e => h (by simpa using e)
theorem Ty2.hv_ne {t : Ty2} {v : D} (o : t.isOpt = false) (h : t.hv v) : v ≠ .non := non_ne (Ty2.hv_non o h)
theorem full_ne : ∀ {p a : Ty2}, p.gd → a.gd → p.isOL = true → p.fit a = true → p.mv a a.full ≠ p.bare
  | .leaf _, _, _, _, h, _ => by cases h
  | .rcd _, _, _, _, h, _ => by cases h
  | .opt p, a, gp, ga, _, f => by
    show _ ≠ D.non
    cases a with
    | opt a =>
      unfold Ty2.fit at f
      dsimp only at f
      have hx : a.hv a.plain := a.wv_hv _ a.plain_wv
      show (Ty2.opt p).mv (.opt a) a.plain ≠ _
      rw [mv_opt_opt (Ty2.hv_non ga.2 hx)]
      exact Ty2.hv_ne gp.2 (Ty2.mv_hv p a _ f hx)
    | lst a =>
      rw [fit_opt rfl] at f
      rw [mv_opt rfl]
      exact Ty2.hv_ne gp.2 (Ty2.mv_hv p _ _ f (Ty2.wv_hv _ _ (Ty2.full_wv _)))
    | leaf a =>
      rw [fit_opt rfl] at f
      rw [mv_opt rfl]
      exact Ty2.hv_ne gp.2 (Ty2.mv_hv p _ _ f (Ty2.wv_hv _ _ (Ty2.full_wv _)))
    | rcd a =>
      rw [fit_opt rfl] at f
      rw [mv_opt rfl]
      exact Ty2.hv_ne gp.2 (Ty2.mv_hv p _ _ f (Ty2.wv_hv _ _ (Ty2.full_wv _)))
  | .lst p, a, gp, ga, _, f => by
    show _ ≠ D.tup []
    cases a with
    | opt a =>
      have hx : a.hv a.plain := a.wv_hv _ a.plain_wv
      show (Ty2.lst p).mv (.opt a) a.plain ≠ _
      rw [mv_lst_opt (Ty2.hv_non ga.2 hx)]
      exact fun e => by cases e
    | lst a =>
      show (Ty2.lst p).mv (.lst a) (.tup [a.plain]) ≠ _
      rw [mv_lst_lst]
      exact fun e => by cases e
    | leaf a =>
      rw [mv_lst rfl]
      exact fun e => by cases e
    | rcd a =>
      rw [mv_lst rfl]
      exact fun e => by cases e
theorem cons_ne {x y : D} {xs ys : List D} (h : x ≠ y ∨ xs ≠ ys) : x :: xs ≠ y :: ys := fun e => by
  obtain ⟨e1, e2⟩ := List.cons.inj e
  exact h.elim (fun h => h e1) fun h => h e2
mutual
theorem Ty2.two : ∀ (v t u : Ty2) (w : D), v.gd → t.gd → u.gd → u.fit t = true → v.fit u = true → v.fit t = true → v.part t u = some w → t.wv w ∧ v.mv u (u.mv t w) ≠ v.mv t w
  | .leaf k, t, u, w, _, _, _, f1, f2, f3, p => by
    unfold Ty2.part at p
    cases p
  | .rcd g, t, u, w, gv, gt, gu, f1, f2, f3, p => by
    unfold Ty2.fit at f2 f3
    cases u <;> first | cases f2 | skip
    rename_i hh
    cases t <;> first | cases f3 | skip
    rename_i ff
    unfold Ty2.fit at f1
    unfold Ty2.part at p
    obtain ⟨ws, rfl, hw, ne⟩ := Fs.two g ff hh w gv.1 ⟨gt.1, gt.2.1⟩ gu.1 f1 f2 f3 p
    exact ⟨⟨ws, rfl, hw⟩, fun e => ne (by injection e)⟩
  | .opt v, t, u, w, gv, gt, gu, f1, f2, f3, p => by
    cases u with
    | lst u =>
      by_cases o : t.isOpt = true
      · cases t <;> first | cases o | skip
        rw [Ty2.part] at p
        cases p
        rw [fit_opt rfl] at f2
        obtain ⟨v', rfl⟩ := fit_from_lst gv.2 f2
        exact ⟨.inl rfl, fun e => by cases e⟩
      · have o : t.isOpt = false := by simpa using o
        rw [part_opt_lst o] at p
        rw [fit_opt rfl] at f2
        rw [fit_opt o] at f3
        obtain ⟨h1, h2⟩ := Ty2.two v t _ w gv.1 gt gu f1 f2 f3 p
        refine ⟨h1, ?_⟩
        rw [mv_opt rfl, mv_opt o]
        exact h2
    | opt u =>
      have hu := gu.2
      by_cases o : t.isOpt = true
      · cases t <;> first | cases o | skip
        rename_i t
        rw [Ty2.part] at p
        unfold Ty2.fit at f1 f2 f3
        dsimp only at f1 f2 f3
        obtain ⟨h1, h2⟩ := Ty2.two v t u w gv.1 gt.1 gu.1 f1 f2 f3 p
        have hx := t.wv_hv _ h1
        have nx := Ty2.hv_non gt.2 hx
        have ny := Ty2.mv_non hu f1 hx
        refine ⟨.inr h1, ?_⟩
        rw [mv_opt_opt nx, mv_opt_opt nx, mv_opt_opt ny]
        exact h2
      · have o : t.isOpt = false := by simpa using o
        rw [fit_opt o] at f1 f3
        rw [part_opt_opt o] at p
        unfold Ty2.fit at f2
        dsimp only at f2
        obtain ⟨h1, h2⟩ := Ty2.two v t u w gv.1 gt gu.1 f1 f2 f3 p
        have ny := Ty2.mv_non hu f1 (t.wv_hv _ h1)
        refine ⟨h1, ?_⟩
        rw [mv_opt o, mv_opt o, mv_opt_opt ny]
        exact h2
    | leaf k =>
      have o := isOL_opt (fit_from rfl f1)
      rw [part_opt rfl] at p
      rw [fit_opt rfl] at f2
      rw [fit_opt o] at f3
      rw [mv_opt rfl, mv_opt o]
      exact Ty2.two v t _ w gv.1 gt gu f1 f2 f3 p
    | rcd k =>
      have o := isOL_opt (fit_from rfl f1)
      rw [part_opt rfl] at p
      rw [fit_opt rfl] at f2
      rw [fit_opt o] at f3
      rw [mv_opt rfl, mv_opt o]
      exact Ty2.two v t _ w gv.1 gt gu f1 f2 f3 p
  | .lst v, t, u, w, gv, gt, gu, f1, f2, f3, p => by
    have plain : u.isOL = false → t.wv w ∧ (Ty2.lst v).mv u (u.mv t w) ≠ (Ty2.lst v).mv t w := fun o => by
      have ot := fit_from o f1
      rw [part_lst o] at p
      rw [fit_lst o] at f2
      rw [fit_lst ot] at f3
      obtain ⟨h1, h2⟩ := Ty2.two v t u w gv gt gu f1 f2 f3 p
      rw [mv_lst o, mv_lst ot]
      exact ⟨h1, tup_ne h2⟩
    cases u with
    | leaf k => exact plain rfl
    | rcd k => exact plain rfl
    | lst u =>
      cases t with
      | lst t =>
        unfold Ty2.fit at f1 f2 f3
        dsimp only at f1 f2 f3
        rw [Ty2.part] at p
        obtain ⟨w, p1, rfl⟩ := Option.map_eq_some_iff.mp p
        obtain ⟨h1, h2⟩ := Ty2.two v t u w gv gt gu f1 f2 f3 p1
        refine ⟨⟨_, rfl, by simp, fun v hv => by simp at hv; subst hv; exact h1⟩, ?_⟩
        rw [mv_lst_lst, mv_lst_lst, mv_lst_lst]
        exact tup_ne h2
      | opt t =>
        unfold Ty2.fit at f1 f2 f3
        dsimp only at f1 f2 f3
        have f1 := (Bool.and_eq_true_iff.mp f1).2
        have f3 := (Bool.and_eq_true_iff.mp f3).2
        rw [Ty2.part] at p
        obtain ⟨h1, h2⟩ := Ty2.two v t u w gv gt.1 gu f1 f2 f3 p
        have nx := Ty2.hv_non gt.2 (t.wv_hv _ h1)
        refine ⟨.inr h1, ?_⟩
        rw [mv_lst_opt nx, mv_lst_opt nx, mv_lst_lst]
        exact tup_ne h2
      | leaf k =>
        rw [fit_lst rfl] at f1 f3
        rw [part_lst_lst rfl] at p
        unfold Ty2.fit at f2
        dsimp only at f2
        obtain ⟨h1, h2⟩ := Ty2.two v _ u w gv gt gu f1 f2 f3 p
        refine ⟨h1, ?_⟩
        rw [mv_lst (t := .leaf k) rfl, mv_lst (t := .leaf k) rfl, mv_lst_lst]
        exact tup_ne h2
      | rcd k =>
        rw [fit_lst rfl] at f1 f3
        rw [part_lst_lst rfl] at p
        unfold Ty2.fit at f2
        dsimp only at f2
        obtain ⟨h1, h2⟩ := Ty2.two v _ u w gv gt gu f1 f2 f3 p
        refine ⟨h1, ?_⟩
        rw [mv_lst (t := .rcd k) rfl, mv_lst (t := .rcd k) rfl, mv_lst_lst]
        exact tup_ne h2
    | opt u =>
      have hu := gu.2
      unfold Ty2.fit at f2
      dsimp only at f2
      obtain ⟨nl, f2⟩ := Bool.and_eq_true_iff.mp f2
      have nl : u.isLst = false := by simpa using nl
      have uo := OL_of hu nl
      cases t with
      | opt t =>
        unfold Ty2.fit at f1 f3
        dsimp only at f1 f3
        have f3 := (Bool.and_eq_true_iff.mp f3).2
        rw [Ty2.part] at p
        obtain ⟨h1, h2⟩ := Ty2.two v t u w gv gt.1 gu.1 f1 f2 f3 p
        have hx := t.wv_hv _ h1
        have nx := Ty2.hv_non gt.2 hx
        have ny := Ty2.mv_non hu f1 hx
        refine ⟨.inr h1, ?_⟩
        rw [mv_opt_opt nx, mv_lst_opt nx, mv_lst_opt ny]
        exact tup_ne h2
      | lst t =>
        rw [fit_opt rfl] at f1
        exact absurd (fit_from uo f1) (by simp [Ty2.isOL])
      | leaf k =>
        rw [fit_opt rfl] at f1
        rw [fit_lst rfl] at f3
        rw [part_lst_opt rfl] at p
        obtain ⟨h1, h2⟩ := Ty2.two v _ u w gv gt gu.1 f1 f2 f3 p
        have ny := Ty2.mv_non hu f1 (Ty2.wv_hv _ _ h1)
        refine ⟨h1, ?_⟩
        rw [mv_opt (t := .leaf k) rfl, mv_lst (t := .leaf k) rfl, mv_lst_opt ny]
        exact tup_ne h2
      | rcd k =>
        rw [fit_opt rfl] at f1
        rw [fit_lst rfl] at f3
        rw [part_lst_opt rfl] at p
        obtain ⟨h1, h2⟩ := Ty2.two v _ u w gv gt gu.1 f1 f2 f3 p
        have ny := Ty2.mv_non hu f1 (Ty2.wv_hv _ _ h1)
        refine ⟨h1, ?_⟩
        rw [mv_opt (t := .rcd k) rfl, mv_lst (t := .rcd k) rfl, mv_lst_opt ny]
        exact tup_ne h2
theorem Fs.two : ∀ (g f h : Fs) (w : D), g.gd → f.gd ∧ f.names.Nodup → h.gd → h.fit f = true → g.fit h = true → g.fit f = true → g.part f h = some w → ∃ ws, w = .tup ws ∧ f.wv ws ∧ g.mv h (h.mv f ws) ≠ g.mv f ws
  | .nil, _, _, _, _, _, _, _, _, _, q => by
    unfold Fs.part at q
    cases q
  | .cons n p r, f, h, w, gg, gf, gh, f1, f2, f3, q => by
    unfold Fs.fit at f2 f3
    obtain ⟨a2, b2⟩ := Bool.and_eq_true_iff.mp f2
    obtain ⟨a3, b3⟩ := Bool.and_eq_true_iff.mp f3
    unfold Fs.part at q
    split at q
    · rename_i w' q1
      obtain rfl := Option.some.inj q
      cases ef : f.get n with
      | some a =>
        rw [ef] at a3
        cases eh : h.get n with
        | none =>
          rw [ef, eh] at q1
          rw [eh] at a2
          cases q1
          refine ⟨_, rfl, Fs.put_wv a.full_wv f gf.2 ef, ?_⟩
          rw [Fs.mv, Fs.mv, Fs.getV_mv, eh, Fs.put_get f ef]
          exact cons_ne (.inl (Ne.symm (full_ne gg.2.1 (Fs.get_gd gf.1 ef).1 a2 a3)))
        | some b =>
          rw [ef, eh] at q1
          rw [eh] at a2
          have ab := Fs.fit_get f1 eh
          rw [ef] at ab
          dsimp only at q1 a2 a3 ab
          obtain ⟨x, q2, rfl⟩ := Option.map_eq_some_iff.mp q1
          obtain ⟨h1, h2⟩ := Ty2.two p a b x gg.2.1 (Fs.get_gd gf.1 ef).1 (Fs.get_gd gh eh).1 ab a2 a3 q2
          refine ⟨_, rfl, Fs.put_wv h1 f gf.2 ef, ?_⟩
          rw [Fs.mv, Fs.mv, Fs.getV_mv, eh, Fs.put_get f ef]
          exact cons_ne (.inl h2)
      | none =>
        rw [ef] at a3
        cases eh : h.get n with
        | none => rw [ef, eh] at q1; cases q1
        | some b =>
          rw [ef, eh] at q1
          rw [eh] at a2
          dsimp only at q1 a2 a3
          split at q1
          · rename_i bl
            cases q1
            obtain ⟨b1, b4⟩ := Bool.and_eq_true_iff.mp bl
            refine ⟨_, rfl, Fs.plain_wv f, ?_⟩
            have gv := Fs.getV_get n f f.plain (Fs.wv_hv f _ (Fs.plain_wv f))
            rw [ef] at gv
            dsimp only at gv
            rw [Fs.mv, Fs.mv, Fs.getV_mv, eh, gv]
            refine cons_ne (.inl ?_)
            cases b <;> first | cases b1 | skip
            cases p <;> first | cases b4 | skip
            rename_i b p
            rw [fit_opt rfl] at a2
            obtain ⟨p', rfl⟩ := fit_from_lst gg.2.1.2 a2
            exact fun e => by cases e
          · cases q1
    · obtain ⟨ws, e, h1, h2⟩ := Fs.two r f h w gg.2.2 gf gh f1 b2 b3 q
      refine ⟨ws, e, h1, ?_⟩
      rw [Fs.mv, Fs.mv]
      exact cons_ne (.inr h2)
end
end D2
end
section
set_option linter.all false
set_option autoImplicit false
set_option maxRecDepth 100000
namespace D2
open PySem L2
section
variable {P : D → Hd → Prop} {G : Hd}
end
end D2
end
section
set_option linter.all false
set_option autoImplicit false
set_option maxRecDepth 100000
namespace D2
open PySem L2
end D2
end
section
set_option linter.all false
set_option autoImplicit false
set_option maxRecDepth 100000
namespace D2
open PySem L2
end D2
end
section
set_option linter.all false
set_option autoImplicit false
set_option maxRecDepth 100000
namespace D2
open PySem L2
section
variable {σ : Sd} {G : Hd} {P : D → Hd → Prop} {PI : ItD → Hd → Prop}
end
end D2
end
section
set_option linter.all false
set_option autoImplicit false
set_option maxRecDepth 100000
namespace D2
open PySem L2
end D2
end
section
set_option linter.all false
set_option autoImplicit false
set_option maxRecDepth 100000
namespace D2
open PySem L2
def Same2 (n : Nat) (fn : Fn) : Prop := ∀ {x y : D} {G : Hd} {P : D → Hd → Prop}, pl n x → pl n y → (∀ (b : Bool) (G' : Hd), (b = true ↔ x = y) → Fr [] G G' → P (.bl b) G') → Ok (fn [x, y] G) P
theorem tup_iff {xs ys : List D} (h : xs.length = ys.length) : (((List.range ys.length).map fun i => @decide (xs[i]? = ys[i]?) (Classical.propDecidable _)).all id = true) ↔ D.tup xs = .tup ys := by
  rw [List.all_map, List.all_eq_true]
  constructor
  · intro hh
    have : xs = ys := by
      refine List.ext_getElem? fun i => ?_
      by_cases hi : i < ys.length
      · exact @of_decide_eq_true _ (Classical.propDecidable _) (hh i (List.mem_range.mpr hi))
      · rw [List.getElem?_eq_none (by omega), List.getElem?_eq_none (by omega)]
    rw [this]
  · intro e i _
    have e : xs = ys := by injection e
    rw [e]
    exact @decide_eq_true _ (Classical.propDecidable _) rfl
theorem same2Ok {n : Nat} {fs : Fn} (ih : Same2 n fs) : Same2 (n + 1) (runFn 3 2 (g_law_same fs)) := by
  intro x y G P hx hy hq
  refine ok_run rfl ?_
  show Sk (g_law_same fs [some x, some y, none] G) (rtn P)
  unfold g_law_same
  have no : x ≠ y → P (.bl false) G := fun h => hq false G ⟨fun e => absurd e Bool.false_ne_true, fun e => absurd e h⟩ .refl
  have yes : x = y → P (.bl true) G := fun h => hq true G ⟨fun _ => h, fun _ => rfl⟩ .refl
  cases y with
  | non =>
    cases x with
    | rol _ => exact hx.elim
    | ref _ => exact hx.elim
    | _ =>
      simp -implicitDefEqProofs only [↓mirs, ↓ty_int_non, ↓ty_int_bl, ↓ty_int_int, ↓ty_int_str, ↓ty_int_tup, ↓ty_bool_non, ↓ty_bool_bl, ↓ty_bool_int, ↓ty_bool_str, ↓ty_bool_tup, ↓ty_str_non, ↓ty_str_bl, ↓ty_str_int, ↓ty_str_str, ↓ty_str_tup, ↓ty_tuple_non, ↓ty_tuple_bl, ↓ty_tuple_int, ↓ty_tuple_str, ↓ty_tuple_tup, ↓ty_list_non, ↓ty_list_bl, ↓ty_list_int, ↓ty_list_str, ↓ty_list_tup, ↓ty_dict_non, ↓ty_dict_bl, ↓ty_dict_int, ↓ty_dict_str, ↓ty_dict_tup, Bool.false_eq_true, if_false, isNon, if_true]
      first | exact yes rfl | exact no (by intro e; cases e)
  | bl b =>
    cases x with
    | rol _ => exact hx.elim
    | ref _ => exact hx.elim
    | bl a =>
      simp -implicitDefEqProofs only [↓mirs, ↓ty_int_non, ↓ty_int_bl, ↓ty_int_int, ↓ty_int_str, ↓ty_int_tup, ↓ty_bool_non, ↓ty_bool_bl, ↓ty_bool_int, ↓ty_bool_str, ↓ty_bool_tup, ↓ty_str_non, ↓ty_str_bl, ↓ty_str_int, ↓ty_str_str, ↓ty_str_tup, ↓ty_tuple_non, ↓ty_tuple_bl, ↓ty_tuple_int, ↓ty_tuple_str, ↓ty_tuple_tup, ↓ty_list_non, ↓ty_list_bl, ↓ty_list_int, ↓ty_list_str, ↓ty_list_tup, ↓ty_dict_non, ↓ty_dict_bl, ↓ty_dict_int, ↓ty_dict_str, ↓ty_dict_tup, Bool.false_eq_true, if_false, isNon, if_true]
      refine hq _ G ?_ .refl
      simp
    | _ =>
      simp -implicitDefEqProofs only [↓mirs, ↓ty_int_non, ↓ty_int_bl, ↓ty_int_int, ↓ty_int_str, ↓ty_int_tup, ↓ty_bool_non, ↓ty_bool_bl, ↓ty_bool_int, ↓ty_bool_str, ↓ty_bool_tup, ↓ty_str_non, ↓ty_str_bl, ↓ty_str_int, ↓ty_str_str, ↓ty_str_tup, ↓ty_tuple_non, ↓ty_tuple_bl, ↓ty_tuple_int, ↓ty_tuple_str, ↓ty_tuple_tup, ↓ty_list_non, ↓ty_list_bl, ↓ty_list_int, ↓ty_list_str, ↓ty_list_tup, ↓ty_dict_non, ↓ty_dict_bl, ↓ty_dict_int, ↓ty_dict_str, ↓ty_dict_tup, Bool.false_eq_true, if_false, isNon, if_true]
      exact no (by intro e; cases e)
  | int j =>
    cases x with
    | rol _ => exact hx.elim
    | ref _ => exact hx.elim
    | int a =>
      simp -implicitDefEqProofs only [↓mirs, ↓ty_int_non, ↓ty_int_bl, ↓ty_int_int, ↓ty_int_str, ↓ty_int_tup, ↓ty_bool_non, ↓ty_bool_bl, ↓ty_bool_int, ↓ty_bool_str, ↓ty_bool_tup, ↓ty_str_non, ↓ty_str_bl, ↓ty_str_int, ↓ty_str_str, ↓ty_str_tup, ↓ty_tuple_non, ↓ty_tuple_bl, ↓ty_tuple_int, ↓ty_tuple_str, ↓ty_tuple_tup, ↓ty_list_non, ↓ty_list_bl, ↓ty_list_int, ↓ty_list_str, ↓ty_list_tup, ↓ty_dict_non, ↓ty_dict_bl, ↓ty_dict_int, ↓ty_dict_str, ↓ty_dict_tup, Bool.false_eq_true, if_false, isNon, if_true, Bool.not_false]
      refine hq _ G ?_ .refl
      simp
    | _ =>
      simp -implicitDefEqProofs only [↓mirs, ↓ty_int_non, ↓ty_int_bl, ↓ty_int_int, ↓ty_int_str, ↓ty_int_tup, ↓ty_bool_non, ↓ty_bool_bl, ↓ty_bool_int, ↓ty_bool_str, ↓ty_bool_tup, ↓ty_str_non, ↓ty_str_bl, ↓ty_str_int, ↓ty_str_str, ↓ty_str_tup, ↓ty_tuple_non, ↓ty_tuple_bl, ↓ty_tuple_int, ↓ty_tuple_str, ↓ty_tuple_tup, ↓ty_list_non, ↓ty_list_bl, ↓ty_list_int, ↓ty_list_str, ↓ty_list_tup, ↓ty_dict_non, ↓ty_dict_bl, ↓ty_dict_int, ↓ty_dict_str, ↓ty_dict_tup, Bool.false_eq_true, if_false, isNon, if_true, Bool.not_true]
      exact no (by intro e; cases e)
  | str z =>
    cases x with
    | rol _ => exact hx.elim
    | ref _ => exact hx.elim
    | str a =>
      have e : ∀ (P : D → Hd → Prop) (G : Hd), Ok (cEq (.str a) (.str z) G) P = P (.bl (decide (a = z))) G := fun P G => ok_eq_str hx hy
      simp -implicitDefEqProofs only [↓mirs, ↓ty_int_non, ↓ty_int_bl, ↓ty_int_int, ↓ty_int_str, ↓ty_int_tup, ↓ty_bool_non, ↓ty_bool_bl, ↓ty_bool_int, ↓ty_bool_str, ↓ty_bool_tup, ↓ty_str_non, ↓ty_str_bl, ↓ty_str_int, ↓ty_str_str, ↓ty_str_tup, ↓ty_tuple_non, ↓ty_tuple_bl, ↓ty_tuple_int, ↓ty_tuple_str, ↓ty_tuple_tup, ↓ty_list_non, ↓ty_list_bl, ↓ty_list_int, ↓ty_list_str, ↓ty_list_tup, ↓ty_dict_non, ↓ty_dict_bl, ↓ty_dict_int, ↓ty_dict_str, ↓ty_dict_tup, Bool.false_eq_true, if_false, isNon, if_true, ↓e]
      refine hq _ G ?_ .refl
      simp
    | _ =>
      simp -implicitDefEqProofs only [↓mirs, ↓ty_int_non, ↓ty_int_bl, ↓ty_int_int, ↓ty_int_str, ↓ty_int_tup, ↓ty_bool_non, ↓ty_bool_bl, ↓ty_bool_int, ↓ty_bool_str, ↓ty_bool_tup, ↓ty_str_non, ↓ty_str_bl, ↓ty_str_int, ↓ty_str_str, ↓ty_str_tup, ↓ty_tuple_non, ↓ty_tuple_bl, ↓ty_tuple_int, ↓ty_tuple_str, ↓ty_tuple_tup, ↓ty_list_non, ↓ty_list_bl, ↓ty_list_int, ↓ty_list_str, ↓ty_list_tup, ↓ty_dict_non, ↓ty_dict_bl, ↓ty_dict_int, ↓ty_dict_str, ↓ty_dict_tup, Bool.false_eq_true, if_false, isNon, if_true]
      exact no (by intro e; cases e)
  | tup ys =>
    have hl : ys.length ≤ 1000 := hy.1
    cases x with
    | rol _ => exact hx.elim
    | ref _ => exact hx.elim
    | tup xs =>
      simp -implicitDefEqProofs only [↓minrs, ↓sk_if, ↓ty_int_non, ↓ty_int_bl, ↓ty_int_int, ↓ty_int_str, ↓ty_int_tup, ↓ty_bool_non, ↓ty_bool_bl, ↓ty_bool_int, ↓ty_bool_str, ↓ty_bool_tup, ↓ty_str_non, ↓ty_str_bl, ↓ty_str_int, ↓ty_str_str, ↓ty_str_tup, ↓ty_tuple_non, ↓ty_tuple_bl, ↓ty_tuple_int, ↓ty_tuple_str, ↓ty_tuple_tup, ↓ty_list_non, ↓ty_list_bl, ↓ty_list_int, ↓ty_list_str, ↓ty_list_tup, ↓ty_dict_non, ↓ty_dict_bl, ↓ty_dict_int, ↓ty_dict_str, ↓ty_dict_tup, Bool.false_eq_true, if_false, if_true, Bool.not_true]
      by_cases el : xs.length = ys.length
      · have : decide ((xs.length : Int) = (ys.length : Int)) = true := decide_eq_true (by omega)
        simp only [this, Bool.not_true, Bool.false_eq_true, if_false, ↓sk_nil, ↓thn_nx, ↓sk_ret, ↓ok_op1, ↓ok_lc, ↓ok_irng1, ↓ok_var1, ↓ok_len_tup]
        rw [ok_itr1n (by omega)]
        let bs : List Bool := (List.range ys.length).map fun i => @decide (xs[i]? = ys[i]?) (Classical.propDecidable _)
        have bl : bs.length = ys.length := by simp [bs]
        refine lc_fun (bs.map D.bl) (by rw [List.length_map, bl, sizeLine_val]; omega) (fun G1 _ => by rw [List.length_map, bl]; exact it_rng_end) (fun i z G1 hz f1 => ?_) fun G1 e1 f1 => ?_
        · have hi : i < ys.length := by have := (List.getElem?_eq_some_iff.mp hz).1; rwa [List.length_map, bl] at this
          have ey : ys[i]? = some ys[i] := List.getElem?_eq_getElem hi
          have ex : xs[i]? = some xs[i] := List.getElem?_eq_getElem (by omega)
          have ez : z = .bl (@decide (xs[i]? = ys[i]?) (Classical.propDecidable _)) := by
            rw [List.getElem?_map, List.getElem?_map, List.getElem?_range hi] at hz
            exact (Option.some.inj hz).symm
          refine ⟨_, it_rng hi, ?_⟩
          simp -implicitDefEqProofs only [wipeD, List.set_cons_zero, List.set_cons_succ, ↓mirs, Int.zero_add, ↓ok_atT (atI_nat ex), ↓ok_atT (atI_nat ey)]
          refine ih (hx.2 _ (List.getElem_mem (by omega))) (hy.2 _ (List.getElem_mem hi)) fun b G2 hb f2 => ⟨?_, f2⟩
          rw [ez]
          congr 1
          rw [Bool.eq_iff_iff, hb, @decide_eq_true_iff _ (Classical.propDecidable _), ex, ey, Option.some_inj]
        · rw [ok_all e1 (bls_bl _)]
          exact hq _ G1 (tup_iff el) f1
      · have : decide ((xs.length : Int) = (ys.length : Int)) = false := decide_eq_false (by omega)
        simp only [this, Bool.not_false, if_true, ↓sk_ret, ↓ok_c, ↓thn_rt, ↓rtn_rt]
        exact no (by intro e; injection e with e; exact el (by rw [e]))
    | _ =>
      simp -implicitDefEqProofs only [↓mirs, ↓ty_int_non, ↓ty_int_bl, ↓ty_int_int, ↓ty_int_str, ↓ty_int_tup, ↓ty_bool_non, ↓ty_bool_bl, ↓ty_bool_int, ↓ty_bool_str, ↓ty_bool_tup, ↓ty_str_non, ↓ty_str_bl, ↓ty_str_int, ↓ty_str_str, ↓ty_str_tup, ↓ty_tuple_non, ↓ty_tuple_bl, ↓ty_tuple_int, ↓ty_tuple_str, ↓ty_tuple_tup, ↓ty_list_non, ↓ty_list_bl, ↓ty_list_int, ↓ty_list_str, ↓ty_list_tup, ↓ty_dict_non, ↓ty_dict_bl, ↓ty_dict_int, ↓ty_dict_str, ↓ty_dict_tup, Bool.false_eq_true, if_false, isNon, if_true, Bool.not_false]
      exact no (by intro e; cases e)
  | _ => exact hy.elim
end D2
end
section
set_option linter.all false
set_option autoImplicit false
set_option maxRecDepth 100000
namespace D2
open PySem L2
section
variable {P : D → Hd → Prop} {G : Hd} {σ : Sd}
theorem inS_one (c : Nat) (xs : Cs) : inS (Sg [c]) (Sg xs) = decide (c ∈ xs) := by
  unfold inS
  exact (StrLaws.found_one (Sg xs) c).trans (by simp [Sg])
theorem ok_in_sg {c : Nat} {xs : Cs} : Ok (cIn (.str (Sg [c])) (.str (Sg xs)) G) P = P (.bl (decide (c ∈ xs))) G := by
  unfold cIn cInB
  dsimp only
  rw [inS_one]
  rfl
theorem mem_abc {c : Nat} : c ∈ abcL ↔ isLo c = true := by
  rw [isLo_iff]
  unfold abcL
  rw [List.mem_map]
  constructor
  · rintro ⟨k, hk, rfl⟩
    have := List.mem_range.mp hk
    omega
  · intro h
    exact ⟨c - 97, List.mem_range.mpr (by omega), by omega⟩
theorem ok_in_abc {c : Nat} : Ok (cIn (.str (Sg [c])) (.str (Sg abcL)) G) P = P (.bl (isLo c)) G := by
  rw [ok_in_sg]
  congr 2
  rw [show isLo c = decide (isLo c = true) by simp, decide_eq_decide]
  exact mem_abc
end
def IsN (fn : Fn) : Prop := ∀ {cs : Cs} {G : Hd} {P : D → Hd → Prop}, cs.length ≤ sizeLine → (∀ (b : Bool) (G' : Hd), (b = true ↔ Low cs) → Fr [] G G' → P (.bl b) G') → Ok (fn [.str (Sg cs)] G) P
def c_SMALL : D := .str (Str.ofString "abcdefghijklmnopqrstuvwxyz")
def c_MOST_FIELDS : D := .int 8
def c_MOST_NESTED : D := .int 8
def c_MOST_LEAVES : D := .int 24
theorem bls_map {α : Type} (f : α → Bool) (xs : List α) : bls (xs.map fun x => D.bl (f x)) = some (xs.map f) := by
  have := bls_bl (xs.map f)
  rwa [List.map_map] at this
theorem isN : IsN (runFn 2 1 g_law_is_name) := by
  intro cs G P hs hq
  refine ok_run rfl ?_
  show Sk (g_law_is_name [some (.str (Sg cs)), none] G) (rtn P)
  unfold g_law_is_name
  have hl : (Sg cs).length ≤ sizeLine := by rw [sg_len]; exact hs
  have ch : ∀ (P : D → Hd → Prop), Ok (eChain cLe cLe (eC (.int 1)) (eOp1 fLen (eVar 0)) (eC (.int 12)) [some (.str (Sg cs)), none] G) P = P (.bl (decide (1 ≤ cs.length ∧ cs.length ≤ 12))) G := fun P => by
    rw [ok_chain_le (n := cs.length) fun Q => by rw [ok_op1, ok_var0, ok_len_str hl, sg_len]]
    congr 2
    rw [decide_eq_decide]
    omega
  simp -implicitDefEqProofs only [↓mirs, ↓ty_int_non, ↓ty_int_bl, ↓ty_int_int, ↓ty_int_str, ↓ty_int_tup, ↓ty_bool_non, ↓ty_bool_bl, ↓ty_bool_int, ↓ty_bool_str, ↓ty_bool_tup, ↓ty_str_non, ↓ty_str_bl, ↓ty_str_int, ↓ty_str_str, ↓ty_str_tup, ↓ty_tuple_non, ↓ty_tuple_bl, ↓ty_tuple_int, ↓ty_tuple_str, ↓ty_tuple_tup, ↓ty_list_non, ↓ty_list_bl, ↓ty_list_int, ↓ty_list_str, ↓ty_list_tup, ↓ty_dict_non, ↓ty_dict_bl, ↓ty_dict_int, ↓ty_dict_str, ↓ty_dict_tup, ↓ch, abc_eq, Bool.not_true, Bool.false_eq_true, if_false]
  by_cases c : 1 ≤ cs.length ∧ cs.length ≤ 12
  · simp -implicitDefEqProofs only [c, and_self, decide_true, Bool.not_true, Bool.false_eq_true, if_false, ↓mirs, ↓ok_itof_str, strSeq_sg]
    refine lc_fun (cs.map fun c => .bl (isLo c)) (by rw [List.length_map]; exact hs) (fun G1 _ => by rw [it_seq, List.getElem?_eq_none (by rw [List.length_map, List.length_map]; exact Nat.le_refl _)]) (fun i z G1 hz f1 => ?_) fun G1 e1 f1 => ?_
    · rw [List.getElem?_map] at hz
      obtain ⟨b, hb, rfl⟩ := Option.map_eq_some_iff.mp hz
      refine ⟨.str (Sg [b]), by rw [it_seq, List.getElem?_map, hb]; rfl, ?_⟩
      simp -implicitDefEqProofs only [wipeD, List.set_cons_zero, List.set_cons_succ, ↓mirs, ↓ok_in_abc]
      exact ⟨trivial, .refl⟩
    · rw [ok_all e1 (bls_map isLo cs)]
      refine hq _ G1 ?_ f1
      unfold Low
      simp only [List.all_map, List.all_eq_true, Function.comp, id, isLo_iff]
      exact ⟨fun h => ⟨c.1, c.2, h⟩, fun h => h.2.2⟩
  · rw [decide_eq_false c]
    simp only [Bool.not_false, if_true]
    exact hq false G ⟨fun h => (by cases h), fun h => (c ⟨h.1, h.2.1⟩).elim⟩ .refl
theorem nmOk_low {n : String} : NmOk n ↔ Low (nmL n) := by
  constructor
  · intro h
    refine ⟨by unfold nmL; rw [List.length_map]; exact h.1, by unfold nmL; rw [List.length_map]; exact h.2.1, fun c hc => ?_⟩
    obtain ⟨k, hk, rfl⟩ := List.mem_map.mp hc
    exact h.2.2 k hk
  · intro h
    have := h.nm
    rwa [toS_nmL] at this
theorem Fs.sh_mem : ∀ {f : Fs} {q : String × Ty2}, q ∈ f.l → (nmL q.1).length ≤ f.fsh.length ∧ q.2.sh.length ≤ f.fsh.length
  | .nil, q, h => by rw [Fs.l] at h; cases h
  | .cons n t r, q, h => by
    rw [Fs.fsh]
    simp only [List.length_cons, List.length_append]
    rw [Fs.l] at h
    rcases List.mem_cons.mp h with rfl | h
    · dsimp only
      omega
    · have := Fs.sh_mem h
      omega
theorem rcd_sh (f : Fs) : f.fsh.length ≤ (Ty2.rcd f).sh.length := by
  rw [Ty2.sh, List.length_cons, List.length_append, List.length_drop, List.length_singleton]
  omega
def Cn (t : Ty2) (d m : Int) : Prop := 0 ≤ m ∧ (m ≤ 24 → t.gd ∧ (t.dep : Int) + d ≤ 9 ∧ m = t.nl) ∧ (t.gd → (t.dep : Int) + d ≤ 9 → m = t.nl)
def CnOk (n : Nat) (fn : Fn) : Prop := ∀ {t : Ty2} {d : Int} {G : Hd} {P : D → Hd → Prop}, 9 ≤ d + n → t.sh.length ≤ sizeLine → (∀ (m : Int) (G' : Hd), Cn t d m → Fr [] G G' → P (.int m) G') → Ok (fn [t.enc, .int d] G) P
theorem cn_bad {t : Ty2} {d : Int} (h : t.gd → (t.dep : Int) + d ≤ 9 → False) : Cn t d 1000 := ⟨by decide, fun h => by omega, fun g h2 => (h g h2).elim⟩
theorem cnOk {n : Nat} {fc fn : Fn} (ih : ∀ m, n = m + 1 → CnOk m fc) (hn : IsN fn) : CnOk n (runFn 5 2 (g_law_count fc fn)) := by
  intro t d G P hdn hs hq
  refine ok_run rfl ?_
  show Sk (g_law_count fc fn [some t.enc, some (.int d), none, none, none] G) (rtn P)
  unfold g_law_count
  have tp := Ty2.dep_pos t
  by_cases h8 : 8 < d
  · have q := hq 1000 G (cn_bad fun _ h => by omega) .refl
    cases t <;> (simp -implicitDefEqProofs only [Ty2.enc, ↓mirs, ↓ty_int_non, ↓ty_int_bl, ↓ty_int_int, ↓ty_int_str, ↓ty_int_tup, ↓ty_bool_non, ↓ty_bool_bl, ↓ty_bool_int, ↓ty_bool_str, ↓ty_bool_tup, ↓ty_str_non, ↓ty_str_bl, ↓ty_str_int, ↓ty_str_str, ↓ty_str_tup, ↓ty_tuple_non, ↓ty_tuple_bl, ↓ty_tuple_int, ↓ty_tuple_str, ↓ty_tuple_tup, ↓ty_list_non, ↓ty_list_bl, ↓ty_list_int, ↓ty_list_str, ↓ty_list_tup, ↓ty_dict_non, ↓ty_dict_bl, ↓ty_dict_int, ↓ty_dict_str, ↓ty_dict_tup, len_1, len_2, h8, decide_true, Bool.not_true, Bool.false_eq_true, if_false, if_true, Int.reduceLT, decide_false]; exact q)
  · obtain ⟨m, rfl⟩ : ∃ m, n = m + 1 := ⟨n - 1, by omega⟩
    have ih := @ih m rfl
    cases t with
    | leaf k =>
      have e1 : ∀ (P : D → Hd → Prop) (G : Hd), Ok (cIn (sl k.s) (.tup [sl "int", sl "text", sl "bool"]) G) P = P (.bl true) G := fun P G => by
        rw [ok_in_lit3]
        cases k <;> rfl
      simp -implicitDefEqProofs only [Ty2.enc, ↓mirs, ↓ty_int_non, ↓ty_int_bl, ↓ty_int_int, ↓ty_int_str, ↓ty_int_tup, ↓ty_bool_non, ↓ty_bool_bl, ↓ty_bool_int, ↓ty_bool_str, ↓ty_bool_tup, ↓ty_str_non, ↓ty_str_bl, ↓ty_str_int, ↓ty_str_str, ↓ty_str_tup, ↓ty_tuple_non, ↓ty_tuple_bl, ↓ty_tuple_int, ↓ty_tuple_str, ↓ty_tuple_tup, ↓ty_list_non, ↓ty_list_bl, ↓ty_list_int, ↓ty_list_str, ↓ty_list_tup, ↓ty_dict_non, ↓ty_dict_bl, ↓ty_dict_int, ↓ty_dict_str, ↓ty_dict_tup, ↓e1, len_1, h8, decide_false, Bool.not_true, Bool.false_eq_true, if_false, if_true, Int.reduceLT, decide_true]
      exact hq 1 G ⟨by decide, fun _ => ⟨trivial, by rw [Ty2.dep]; omega, rfl⟩, fun _ _ => rfl⟩ .refl
    | opt t =>
      have hd0 : ∀ (P : D → Hd → Prop) (G : Hd), Ok (fIsTy .tuple t.enc G) P = P (.bl true) G := fun P G => by cases t <;> rfl
      have hl0 : ∀ (P : D → Hd → Prop) (G : Hd), Ok (fLen t.enc G) P = P (.int (if t.isLeaf = true then 1 else 2)) G := fun P G => by cases t <;> rfl
      have hp : decide ((0 : Int) < if t.isLeaf = true then 1 else 2) = true := by split <;> rfl
      simp -implicitDefEqProofs only [Ty2.enc, ↓mirs, ↓ty_int_non, ↓ty_int_bl, ↓ty_int_int, ↓ty_int_str, ↓ty_int_tup, ↓ty_bool_non, ↓ty_bool_bl, ↓ty_bool_int, ↓ty_bool_str, ↓ty_bool_tup, ↓ty_str_non, ↓ty_str_bl, ↓ty_str_int, ↓ty_str_str, ↓ty_str_tup, ↓ty_tuple_non, ↓ty_tuple_bl, ↓ty_tuple_int, ↓ty_tuple_str, ↓ty_tuple_tup, ↓ty_list_non, ↓ty_list_bl, ↓ty_list_int, ↓ty_list_str, ↓ty_list_tup, ↓ty_dict_non, ↓ty_dict_bl, ↓ty_dict_int, ↓ty_dict_str, ↓ty_dict_tup, ↓ok_hd, ↓ok_notIn_lit2, ↓ok_notIn_lit3, hd_opt, hd_lst, hd_rcd, hd_leaves, ob_or, ob_or', io_leaf, io_rcd, io_lst, io_opt, il_leaf, il_rcd, il_lst, il_opt, ir_leaf, ir_rcd, ir_lst, ir_opt, iv_leaf, iv_rcd, iv_lst, iv_opt, ib_leaf, ib_rcd, ib_lst, ib_opt, ↓hd0, ↓hl0, hp, len_2, h8, decide_false, Bool.not_true, Bool.false_eq_true, if_false, if_true, Int.reduceLT, decide_true, String.reduceEq, Bool.or_false, Bool.or_true, Bool.true_or, Bool.not_false]
      cases eo : t.isOpt with
      | true =>
        simp only [if_true]
        exact hq 1000 G (cn_bad fun g _ => by rw [g.2] at eo; cases eo) .refl
      | false =>
        simp only [Bool.false_eq_true, if_false]
        refine ih (by omega) (by rw [Ty2.sh, List.length_append] at hs; omega) fun m G' c f' => hq m G' ⟨c.1, fun h => ?_, fun g h => c.2.2 g.1 (by rw [Ty2.dep] at h; omega)⟩ f'
        obtain ⟨c1, c2, c3⟩ := c.2.1 h
        exact ⟨⟨c1, eo⟩, by rw [Ty2.dep]; omega, c3⟩
    | lst t =>
      simp -implicitDefEqProofs only [Ty2.enc, ↓mirs, ↓ty_int_non, ↓ty_int_bl, ↓ty_int_int, ↓ty_int_str, ↓ty_int_tup, ↓ty_bool_non, ↓ty_bool_bl, ↓ty_bool_int, ↓ty_bool_str, ↓ty_bool_tup, ↓ty_str_non, ↓ty_str_bl, ↓ty_str_int, ↓ty_str_str, ↓ty_str_tup, ↓ty_tuple_non, ↓ty_tuple_bl, ↓ty_tuple_int, ↓ty_tuple_str, ↓ty_tuple_tup, ↓ty_list_non, ↓ty_list_bl, ↓ty_list_int, ↓ty_list_str, ↓ty_list_tup, ↓ty_dict_non, ↓ty_dict_bl, ↓ty_dict_int, ↓ty_dict_str, ↓ty_dict_tup, ↓ok_hd, ↓ok_notIn_lit2, ↓ok_notIn_lit3, hd_opt, hd_lst, hd_rcd, hd_leaves, ob_or, ob_or', io_leaf, io_rcd, io_lst, io_opt, il_leaf, il_rcd, il_lst, il_opt, ir_leaf, ir_rcd, ir_lst, ir_opt, iv_leaf, iv_rcd, iv_lst, iv_opt, ib_leaf, ib_rcd, ib_lst, ib_opt, len_2, h8, decide_false, Bool.not_true, Bool.false_eq_true, if_false, if_true, Int.reduceLT, decide_true, String.reduceEq, Bool.or_false, Bool.or_true, Bool.true_or, Bool.not_false]
      refine ih (by omega) (by rw [Ty2.sh, List.length_cons, List.length_append] at hs; omega) fun m G' c f' => hq m G' ⟨c.1, fun h => ?_, fun g h => c.2.2 g (by rw [Ty2.dep] at h; omega)⟩ f'
      obtain ⟨c1, c2, c3⟩ := c.2.1 h
      exact ⟨c1, by rw [Ty2.dep]; omega, c3⟩
    | rcd f =>
      have ch : ∀ (y : Option D) (P : D → Hd → Prop), Ok (eChain cLe cLe (eC (.int 1)) (eOp1 fLen (eOp2 atD (eVar 0) (eC (.int 1)))) (eC (.int 8)) [some (.tup [sl "rec", .tup f.enc]), some (.int d), none, none, none] G) P = P (.bl (decide (1 ≤ f.names.length ∧ f.names.length ≤ 8))) G := fun y P => by
        rw [ok_chain_le (n := f.names.length) fun Q => by rw [ok_op1, ok_op2, ok_var0, ok_c, ok_at1, ok_len_tup, Fs.length_enc]]
        congr 2
        rw [decide_eq_decide]
        omega
      have ch := ch none
      have fs := rcd_sh f
      simp -implicitDefEqProofs only [Ty2.enc, ↓mirs, ↓ty_int_non, ↓ty_int_bl, ↓ty_int_int, ↓ty_int_str, ↓ty_int_tup, ↓ty_bool_non, ↓ty_bool_bl, ↓ty_bool_int, ↓ty_bool_str, ↓ty_bool_tup, ↓ty_str_non, ↓ty_str_bl, ↓ty_str_int, ↓ty_str_str, ↓ty_str_tup, ↓ty_tuple_non, ↓ty_tuple_bl, ↓ty_tuple_int, ↓ty_tuple_str, ↓ty_tuple_tup, ↓ty_list_non, ↓ty_list_bl, ↓ty_list_int, ↓ty_list_str, ↓ty_list_tup, ↓ty_dict_non, ↓ty_dict_bl, ↓ty_dict_int, ↓ty_dict_str, ↓ty_dict_tup, ↓ok_hd, ↓ok_notIn_lit2, ↓ok_notIn_lit3, hd_opt, hd_lst, hd_rcd, hd_leaves, ob_or, ob_or', io_leaf, io_rcd, io_lst, io_opt, il_leaf, il_rcd, il_lst, il_opt, ir_leaf, ir_rcd, ir_lst, ir_opt, iv_leaf, iv_rcd, iv_lst, iv_opt, ib_leaf, ib_rcd, ib_lst, ib_opt, ↓ch, len_2, h8, decide_false, Bool.not_true, Bool.false_eq_true, if_false, if_true, Int.reduceLT, decide_true, String.reduceEq, Bool.or_false, Bool.or_true, Bool.true_or, Bool.not_false]
      by_cases hl : 1 ≤ f.names.length ∧ f.names.length ≤ 8
      · rw [decide_eq_true hl]
        simp only [Bool.not_true, Bool.false_eq_true, if_false]
        have l8 : f.l.length ≤ 8 := by rw [Fs.l_length]; exact hl.2
        refine loop_inv0 f.l.length (fun i σ G1 => ∃ (S : Int) (y : Option D), σ = [some (.tup [sl "rec", .tup f.enc]), some (.int d), some (.int S), some (.ref G.length), y] ∧ G1[G.length]? = some (.lst ((f.names.take i).map sl)) ∧ (f.names.take i).Nodup ∧ (∀ q ∈ f.l.take i, NmOk q.1) ∧
          (0 ≤ S ∧ (S ≤ 24 → ∀ q ∈ f.l.take i, q.2.gd ∧ (q.2.dep : Int) + (d + 1) ≤ 9) ∧ ((∀ q ∈ f.l.take i, q.2.gd ∧ (q.2.dep : Int) + (d + 1) ≤ 9) → S = (((f.l.take i).map fun q => q.2.nl).sum : Nat))) ∧ Fr [] G G1) ⟨0, _, rfl, get_new, List.nodup_nil, fun q h => (by cases h), ⟨by decide, fun _ q h => (by cases h), fun _ => rfl⟩, Fr.refl.app⟩ ?_ ?_
        · rintro σ G1 ⟨S, y, rfl, e1, nd, nmk, ⟨s0, s1, s2⟩, f1⟩
          refine ⟨by rw [it_seq, List.getElem?_eq_none (by rw [Fs.enc_l, List.length_map]; exact Nat.le_refl _)], ?_⟩
          simp -implicitDefEqProofs only [↓mirs]
          rw [List.take_length] at nmk s1 s2
          rw [List.take_of_length_le (by rw [Fs.l_length]; exact Nat.le_refl _)] at nd
          have ne : f.names ≠ [] := by intro e; rw [e] at hl; simp at hl
          have dd : ∀ (D : Int), (∀ q ∈ f.l, (q.2.dep : Int) ≤ D) → 0 ≤ D → (f.dep : Int) ≤ D := fun D h h0 => by
            have : f.dep ≤ D.toNat := by
              have := Fs.of_dep (n := D.toNat) f.l fun p hp => by have := h p hp; omega
              rwa [Fs.of_l'] at this
            omega
          have gg : (∀ q ∈ f.l, q.2.gd) → f.gd := fun h => by
            have := Fs.of_gd f.l fun p hp => ⟨nmk p hp, h p hp⟩
            rwa [Fs.of_l'] at this
          refine hq S G1 ⟨s0, fun h => ?_, fun g h => ?_⟩ f1
          · have s1 := s1 h
            refine ⟨⟨gg fun q hq => (s1 q hq).1, nd, hl.2, ne⟩, ?_, ?_⟩
            · rw [Ty2.dep]
              have := dd (8 - d) (fun q hq => by have := (s1 q hq).2; omega) (by omega)
              omega
            · rw [s2 s1, Ty2.nl, Fs.nl_l]
          · rw [Ty2.dep] at h
            rw [s2 fun q hq => ⟨(Fs.mem_gd g.1 hq).2, by have := Fs.mem_dep hq; omega⟩, Ty2.nl, Fs.nl_l]
        · rintro i σ G1 hi ⟨S, y, rfl, e1, nd, nmk, ⟨s0, s1, s2⟩, f1⟩
          have ex : f.l[i]? = some f.l[i] := List.getElem?_eq_getElem hi
          have mem := List.mem_of_getElem? ex
          generalize f.l[i] = q at ex mem
          refine ⟨.tup [sl q.1, q.2.enc], by rw [it_seq, Fs.enc_at ex], ?_⟩
          unfold g_law_count_f1
          have dq := Fs.sh_mem mem
          simp -implicitDefEqProofs only [↓mirs, ↓ty_int_non, ↓ty_int_bl, ↓ty_int_int, ↓ty_int_str, ↓ty_int_tup, ↓ty_bool_non, ↓ty_bool_bl, ↓ty_bool_int, ↓ty_bool_str, ↓ty_bool_tup, ↓ty_str_non, ↓ty_str_bl, ↓ty_str_int, ↓ty_str_str, ↓ty_str_tup, ↓ty_tuple_non, ↓ty_tuple_bl, ↓ty_tuple_int, ↓ty_tuple_str, ↓ty_tuple_tup, ↓ty_list_non, ↓ty_list_bl, ↓ty_list_int, ↓ty_list_str, ↓ty_list_tup, ↓ty_dict_non, ↓ty_dict_bl, ↓ty_dict_int, ↓ty_dict_str, ↓ty_dict_tup, len_2, decide_true, Bool.not_true, Bool.false_eq_true, if_false]
          rw [sl_nm q.1]
          refine hn (by omega) fun b G2 hb f2 => ?_
          rw [← nmOk_low] at hb
          rw [← sl_nm q.1]
          have e2 := f2.at e1 (by simp)
          cases b with
          | false =>
            simp -implicitDefEqProofs only [↓mirs, Bool.not_false, if_true]
            exact hq 1000 G2 (cn_bad fun g _ => Bool.false_ne_true (hb.mpr (Fs.mem_gd g.1 mem).1)) (f1.trans f2)
          | true =>
          simp -implicitDefEqProofs only [↓mirs, ↓ok_in_strs e2, Bool.not_true, Bool.false_eq_true, if_false]
          have nt : f.names.take (i + 1) = f.names.take i ++ [q.1] := by rw [List.take_succ, Fs.names_at ex]; rfl
          have lt : f.l.take (i + 1) = f.l.take i ++ [q] := by rw [List.take_succ, ex]; rfl
          by_cases hm : q.1 ∈ f.names.take i
          · simp -implicitDefEqProofs only [hm, decide_true, if_true, ↓mirs]
            have : ¬ f.names.Nodup := fun h => by
              have h2 : (f.names.take (i + 1)).Nodup := h.sublist (List.take_sublist _ _)
              rw [nt, List.nodup_append] at h2
              exact h2.2.2 _ hm _ (by simp) rfl
            exact hq 1000 G2 (cn_bad fun g _ => this g.2.1) (f1.trans f2)
          · simp -implicitDefEqProofs only [hm, decide_false, Bool.false_eq_true, if_false, ↓mirs, ↓isL_ref e2, if_true]
            rw [ok_append e2 (by rw [List.length_map, List.length_take, sizeLine_val]; omega)]
            refine ih (by omega) (by omega) fun m G3 c f3 => ?_
            simp -implicitDefEqProofs only [↓mirs]
            refine ⟨S + m, _, rfl, ?_, ?_, ?_, ⟨by have := c.1; omega, fun h => ?_, fun h => ?_⟩, ((f1.trans f2).set (.inl (Nat.le_refl _))).trans f3⟩
            · rw [nt, List.map_append]
              exact f3.at (get_set e2) (by simp)
            · rw [nt, List.nodup_append]
              refine ⟨nd, by simp, fun a ha b hb => ?_⟩
              simp at hb
              subst hb
              rintro rfl
              exact hm ha
            · rw [lt]
              intro p hp
              rcases List.mem_append.mp hp with hp | hp
              · exact nmk p hp
              · simp at hp
                subst hp
                exact hb.mp rfl
            · have c0 := c.1
              rw [lt]
              intro p hp
              rcases List.mem_append.mp hp with hp | hp
              · exact s1 (by omega) p hp
              · simp at hp
                subst hp
                have := c.2.1 (by omega)
                exact ⟨this.1, this.2.1⟩
            · rw [lt] at h
              have hq := h q (by simp)
              rw [s2 fun p hp => h p (List.mem_append_left _ hp), c.2.2 hq.1 hq.2, lt, List.map_append, List.sum_append]
              simp
      · rw [decide_eq_false hl]
        simp only [Bool.not_false, if_true]
        refine hq 1000 G (cn_bad fun g _ => hl ⟨?_, g.2.2.1⟩) .refl
        have := g.2.2.2
        cases h : f.names with
        | nil => exact (this h).elim
        | cons => simp
def IsSc (fn : Fn) : Prop := ∀ {t : Ty2} {G : Hd} {P : D → Hd → Prop}, t.sh.length ≤ sizeLine → (∀ (b : Bool) (G' : Hd), (b = true ↔ Sc t) → Fr [] G G' → P (.bl b) G') → Ok (fn [t.enc] G) P
theorem isSc {n : Nat} {fc : Fn} (h8 : 8 ≤ n) (hc : CnOk n fc) : IsSc (runFn 1 1 (g_law_is_schema fc)) := by
  intro t G P hs hq
  refine ok_run rfl ?_
  show Sk (g_law_is_schema fc [some t.enc] G) (rtn P)
  unfold g_law_is_schema
  have no : t.isRcd = false → P (.bl false) G := fun h => hq false G ⟨fun e => (by cases e), fun e => by rw [e.rcd] at h; cases h⟩ .refl
  cases t with
  | rcd f =>
    have := @hc (.rcd f) 1 G (fun v G' => Ok (cLe v (.int 24) G') P) (by omega) hs fun m G' c f' => by
      rw [ok_le_int]
      refine hq _ G' ?_ f'
      rw [decide_eq_true_eq]
      constructor
      · intro h
        obtain ⟨h1, h2, h3⟩ := c.2.1 h
        exact ⟨h1, by omega, by omega, rfl⟩
      · intro h
        rw [c.2.2 h.gd (by have := h.dep; omega)]
        have := h.nl
        omega
    simp -implicitDefEqProofs only [Ty2.enc, ↓mirs, ↓ty_int_non, ↓ty_int_bl, ↓ty_int_int, ↓ty_int_str, ↓ty_int_tup, ↓ty_bool_non, ↓ty_bool_bl, ↓ty_bool_int, ↓ty_bool_str, ↓ty_bool_tup, ↓ty_str_non, ↓ty_str_bl, ↓ty_str_int, ↓ty_str_str, ↓ty_str_tup, ↓ty_tuple_non, ↓ty_tuple_bl, ↓ty_tuple_int, ↓ty_tuple_str, ↓ty_tuple_tup, ↓ty_list_non, ↓ty_list_bl, ↓ty_list_int, ↓ty_list_str, ↓ty_list_tup, ↓ty_dict_non, ↓ty_dict_bl, ↓ty_dict_int, ↓ty_dict_str, ↓ty_dict_tup, len_2, decide_true, Bool.not_true, Bool.false_eq_true, if_false]
    exact this
  | leaf k =>
    simp -implicitDefEqProofs only [Ty2.enc, ↓mirs, ↓ty_int_non, ↓ty_int_bl, ↓ty_int_int, ↓ty_int_str, ↓ty_int_tup, ↓ty_bool_non, ↓ty_bool_bl, ↓ty_bool_int, ↓ty_bool_str, ↓ty_bool_tup, ↓ty_str_non, ↓ty_str_bl, ↓ty_str_int, ↓ty_str_str, ↓ty_str_tup, ↓ty_tuple_non, ↓ty_tuple_bl, ↓ty_tuple_int, ↓ty_tuple_str, ↓ty_tuple_tup, ↓ty_list_non, ↓ty_list_bl, ↓ty_list_int, ↓ty_list_str, ↓ty_list_tup, ↓ty_dict_non, ↓ty_dict_bl, ↓ty_dict_int, ↓ty_dict_str, ↓ty_dict_tup, len_1, Int.reduceEq, decide_false, Bool.not_true, Bool.not_false, Bool.false_eq_true, if_false, if_true]
    exact no rfl
  | opt t =>
    simp -implicitDefEqProofs only [Ty2.enc, ↓mirs, ↓ty_int_non, ↓ty_int_bl, ↓ty_int_int, ↓ty_int_str, ↓ty_int_tup, ↓ty_bool_non, ↓ty_bool_bl, ↓ty_bool_int, ↓ty_bool_str, ↓ty_bool_tup, ↓ty_str_non, ↓ty_str_bl, ↓ty_str_int, ↓ty_str_str, ↓ty_str_tup, ↓ty_tuple_non, ↓ty_tuple_bl, ↓ty_tuple_int, ↓ty_tuple_str, ↓ty_tuple_tup, ↓ty_list_non, ↓ty_list_bl, ↓ty_list_int, ↓ty_list_str, ↓ty_list_tup, ↓ty_dict_non, ↓ty_dict_bl, ↓ty_dict_int, ↓ty_dict_str, ↓ty_dict_tup, len_2, String.reduceEq, decide_true, decide_false, Bool.not_true, Bool.not_false, Bool.false_eq_true, if_false, if_true]
    exact no rfl
  | lst t =>
    simp -implicitDefEqProofs only [Ty2.enc, ↓mirs, ↓ty_int_non, ↓ty_int_bl, ↓ty_int_int, ↓ty_int_str, ↓ty_int_tup, ↓ty_bool_non, ↓ty_bool_bl, ↓ty_bool_int, ↓ty_bool_str, ↓ty_bool_tup, ↓ty_str_non, ↓ty_str_bl, ↓ty_str_int, ↓ty_str_str, ↓ty_str_tup, ↓ty_tuple_non, ↓ty_tuple_bl, ↓ty_tuple_int, ↓ty_tuple_str, ↓ty_tuple_tup, ↓ty_list_non, ↓ty_list_bl, ↓ty_list_int, ↓ty_list_str, ↓ty_list_tup, ↓ty_dict_non, ↓ty_dict_bl, ↓ty_dict_int, ↓ty_dict_str, ↓ty_dict_tup, len_2, String.reduceEq, decide_true, decide_false, Bool.not_true, Bool.not_false, Bool.false_eq_true, if_false, if_true]
    exact no rfl
end D2
end
section
set_option linter.all false
set_option autoImplicit false
set_option maxRecDepth 100000
namespace D2
open PySem L2
structure TO (cs : Cs) : Prop where
  len : cs.length ≤ 200000
  chr : ∀ c ∈ cs, c < 0xd800
theorem TO.sub {a b : Cs} (h : TO b) (s : a.Sublist b) : TO a := ⟨Nat.le_trans s.length_le h.len, fun c hc => h.chr c (s.subset hc)⟩
theorem TO.drop {b : Cs} (h : TO b) (n : Nat) : TO (b.drop n) := h.sub (List.drop_sublist ..)
theorem TO.take {b : Cs} (h : TO b) (n : Nat) : TO (b.take n) := h.sub (List.take_sublist ..)
theorem TO.size {b : Cs} (h : TO b) : (Sg b).length ≤ sizeLine := by rw [sg_len, sizeLine_val]; have := h.len; omega
theorem TO.ok {b : Cs} (h : TO b) : PyData.strOk (Sg b) = true := strOk_sg fun c hc => by have := h.chr c hc; omega
theorem sg_inj {a b : Cs} : Sg a = Sg b ↔ a = b := ⟨fun h => by simpa using congrArg (fun s : Str => s.cps.toList) h, fun h => by rw [h]⟩
section
variable {P : D → Hd → Prop} {Pu : Unit → Hd → Prop} {G : Hd} {σ : Sd}
theorem ok_eqSg {a b : Cs} (ha : TO a) (hb : TO b) : Ok (cEq (.str (Sg a)) (.str (Sg b)) G) P = P (.bl (decide (a = b))) G := by
  rw [ok_eq_str ha.ok hb.ok]
  congr 2
  rw [decide_eq_decide]
  exact sg_inj
theorem ok_neSg {a b : Cs} (ha : TO a) (hb : TO b) : Ok (cNe (.str (Sg a)) (.str (Sg b)) G) P = P (.bl (!decide (a = b))) G := by
  rw [ok_ne_str ha.ok hb.ok]
  congr 3
  rw [decide_eq_decide]
  exact sg_inj
theorem ok_addSg {a b : Cs} (ha : a.length ≤ 1000000) (hb : b.length ≤ 1000000) : Ok (opAdd (.str (Sg a)) (.str (Sg b)) G) P = P (.str (Sg (a ++ b))) G := by
  rw [ok_add_str (by rw [sg_len, sg_len, sizeLine_val]; omega), sg_app]
theorem ok_lenSg {a : Cs} (ha : TO a) : Ok (fLen (.str (Sg a)) G) P = P (.int (a.length : Nat)) G := by
  rw [ok_len_str ha.size, sg_len]
theorem sIx_min {n d k : Nat} : HT.sIx n d (some (k : Int)) = min k n := HT.sIx_nat ..
theorem cut_mid {cs : Cs} {a b : Nat} : cutS (Sg cs) (some (a : Int)) (some (b : Int)) = Sg ((cs.drop a).take (b - a)) := by
  rw [sg_cut, sIx_min, sIx_min]
  congr 1
  by_cases h : a ≤ cs.length
  · rw [Nat.min_eq_left h]
    by_cases h2 : b ≤ cs.length
    · rw [Nat.min_eq_left h2]
    · have hb : min b cs.length = cs.length := Nat.min_eq_right (by omega)
      rw [hb, List.take_of_length_le (by simp), List.take_of_length_le (by simp; omega)]
  · have ha : min a cs.length = cs.length := Nat.min_eq_right (by omega)
    rw [ha, List.drop_of_length_le (Nat.le_refl _), List.drop_of_length_le (i := a) (by omega)]
    simp
theorem cut_toG {cs : Cs} {b : Nat} : cutS (Sg cs) none (some (b : Int)) = Sg (cs.take b) := by
  rw [sg_cut, HT.sIx_none, sIx_min]
  congr 1
  rw [List.drop_zero, Nat.sub_zero]
  by_cases h : b ≤ cs.length
  · rw [Nat.min_eq_left h]
  · rw [Nat.min_eq_right (by omega), List.take_of_length_le (Nat.le_refl _), List.take_of_length_le (by omega)]
theorem cut_fromG {cs : Cs} {a : Nat} : cutS (Sg cs) (some (a : Int)) none = Sg (cs.drop a) := by
  rw [sg_cut, HT.sIx_none, sIx_min]
  congr 1
  by_cases h : a ≤ cs.length
  · rw [Nat.min_eq_left h, List.take_of_length_le (by simp)]
  · rw [Nat.min_eq_right (by omega), List.drop_of_length_le (Nat.le_refl _), List.drop_of_length_le (by omega)]
    simp
theorem ok_slSg {cs : Cs} (h : TO cs) {lo hi : Option Int} : Ok (slD (.str (Sg cs)) lo hi G) P = P (.str (cutS (Sg cs) lo hi)) G := ok_slS h.size
theorem lit_comma : Str.ofString ", " = Sg [44, 32] := by decide +kernel
theorem lit_colon : Str.ofString ": " = Sg [58, 32] := by decide +kernel
theorem lit_open : Str.ofString "[{" = Sg [91, 123] := by decide +kernel
theorem lit_shut : Str.ofString "]}" = Sg [93, 125] := by decide +kernel
theorem to_lit {a : Cs} (h : a.length ≤ 1000 ∧ ∀ c ∈ a, c < 0xd800) : TO a := ⟨by omega, h.2⟩
theorem to_comma : TO [44, 32] := to_lit (by decide)
end
theorem ixN_at {n j : Nat} (hj : j < n) : ixN n (j : Int) = some j := by
  unfold ixN
  rw [if_pos (by omega), if_pos (by omega)]
  simp
theorem cutF_go2 {d : Int} {cur : Cs} {c : Nat} {r : Cs} (h : ¬(d = 0 ∧ c = 44 ∧ r.head? = some 32)) : cutF d cur (c :: r) = cutF (d + wt c) (cur ++ [c]) r := by
  by_cases e : d = 0 ∧ c = 44
  · obtain ⟨rfl, rfl⟩ := e
    have w0 : wt 44 = 0 := by decide
    match r with
    | [] => simp [cutF, w0]
    | b :: r =>
      have hb : b ≠ 32 := fun e => h ⟨rfl, rfl, by rw [e]; rfl⟩
      rw [cutF]
      intro r' _ e3
      exact hb (List.cons.inj e3).1
  · exact cutF_go e
def g_law_fields_of_f1 : S :=
  (sSeq (sIf (tBl (eOp2 cIn (eOp2 atD (eVar 0) (eVar 3)) (eC (.str (Str.ofString "[{")))))
    (sSet 2 (eOp2 opAdd (eVar 2) (eC (.int 1))))
    sNil)
  (sSeq (sIf (tBl (eOp2 cIn (eOp2 atD (eVar 0) (eVar 3)) (eC (.str (Str.ofString "]}")))))
    (sSet 2 (eOp2 opSub (eVar 2) (eC (.int 1))))
    sNil)
  (sIf (tAnd (tBl (eOp2 cEq (eVar 2) (eC (.int 0)))) (tBl (eOp2 cEq (eSl (eVar 0) (oSome (eVar 3)) (oSome (eOp2 opAdd (eVar 3) (eC (.int 2))))) (eC (.str (Str.ofString ", "))))))
    (sExpr (eMl mAppend (eVar 1) (eC (.str (Str.ofString "")))))
    (sIf (tOr (tBl (eOp2 cNe (eVar 2) (eC (.int 0)))) (tOr (tBl (eOp2 cEq (eVar 3) (eC (.int 0)))) (tBl (eOp2 cNe (eSl (eVar 0) (oSome (eOp2 opSub (eVar 3) (eC (.int 1)))) (oSome (eOp2 opAdd (eVar 3) (eC (.int 1))))) (eC (.str (Str.ofString ", ")))))))
    (sPut (eVar 1) (eOp2 opSub (eOp1 fLen (eVar 1)) (eC (.int 1))) (eOp2 opAdd (eOp2 atD (eVar 1) (eOp2 opSub (eOp1 fLen (eVar 1)) (eC (.int 1)))) (eOp2 atD (eVar 0) (eVar 3))))
    sNil))))
def g_law_fields_of : S :=
  (sSeq (sSet 1 (eLst (aCons (eC (.str (Str.ofString ""))) aNil)))
  (sSeq (sSet 2 (eC (.int 0)))
  (sSeq (sFor (iRng1 (eOp1 fLen (eVar 0))) (gName 3) g_law_fields_of_f1)
  (sRet (eVar 1)))))
abbrev sg (cs : Cs) : D := .str (Sg cs)
def FoOk (fn : Fn) : Prop := ∀ {cs : Cs} {G : Hd} {P : D → Hd → Prop}, TO cs → (∀ (r : Nat) (G' : Hd), G'[r]? = some (.lst ((cutF 0 [] cs).map sg)) → G.length ≤ r → Fr [] G G' → P (.ref r) G') → Ok (fn [sg cs] G) P
def FoI (cs : Cs) (k : Nat) (acc : List Cs) (cur : Cs) (d : Int) : Prop :=
  (cutF 0 [] cs = acc ++ cutF d cur (cs.drop k) ∧ ¬(d = 0 ∧ 1 ≤ k ∧ cs[k - 1]? = some 44 ∧ cs[k]? = some 32)) ∨
  (d = 0 ∧ cur = [] ∧ 1 ≤ k ∧ cs[k - 1]? = some 44 ∧ cs[k]? = some 32 ∧ cutF 0 [] cs = acc ++ cutF 0 [] (cs.drop (k + 1)))
theorem two_iff {cs : Cs} {k a b : Nat} : (cs.drop k).take 2 = [a, b] ↔ cs[k]? = some a ∧ cs[k + 1]? = some b := by
  have h0 : (cs.drop k)[0]? = cs[k]? := by rw [List.getElem?_drop, Nat.add_zero]
  have h1 : (cs.drop k)[1]? = cs[k + 1]? := by rw [List.getElem?_drop]
  rw [← h0, ← h1]
  match cs.drop k with
  | [] => simp
  | [x] => simp
  | x :: y :: r => simp
theorem mem2 {c a b : Nat} : (c ∈ [a, b]) ↔ c = a ∨ c = b := by simp
theorem fieldsOf_ok : FoOk (runFn 4 1 g_law_fields_of) := by
  intro cs G P ht hq
  refine ok_run rfl ?_
  show Sk (g_law_fields_of [some (sg cs), none, none, none] G) (rtn P)
  unfold g_law_fields_of
  have hlen := ht.len
  simp -implicitDefEqProofs only [↓minrs, ↓ok_lenSg ht]
  rw [ok_itr1n (by omega)]
  refine loop_inv0 cs.length (fun k σ G1 => ∃ (acc : List Cs) (cur : Cs) (d : Int) (y : Option D), σ = [some (sg cs), some (.ref G.length), some (.int d), y] ∧ FoI cs k acc cur d ∧ cur.length ≤ k ∧ G1[G.length]? = some (.lst ((acc ++ [cur]).map sg)) ∧ acc.length ≤ k ∧ Fr [] G G1) ?_ ?_ ?_
  · refine ⟨[], [], 0, _, rfl, .inl ⟨rfl, by omega⟩, Nat.le_refl _, ?_, Nat.le_refl _, Fr.refl.app⟩
    rw [show ([] ++ [[]] : List Cs).map sg = [.str (Str.ofString "")] by rw [sg_nil]; rfl]
    exact get_new
  · rintro σ G1 ⟨acc, cur, d, y, rfl, hI, hc, e1, ha, f1⟩
    refine ⟨it_rng_end, ?_⟩
    simp -implicitDefEqProofs only [↓mirs]
    refine hq _ G1 ?_ (Nat.le_refl _) f1
    rcases hI with ⟨h, _⟩ | ⟨_, _, _, _, h, _⟩
    · rw [h, List.drop_length, cutF]
      exact e1
    · rw [List.getElem?_eq_none (Nat.le_refl _)] at h
      cases h
  · rintro k σ G1 hk ⟨acc, cur, d, y, rfl, hI, hcl, e1, hal, f1⟩
    refine ⟨_, it_rng hk, ?_⟩
    obtain ⟨c, hc⟩ : ∃ c, cs[k]? = some c := ⟨cs[k], List.getElem?_eq_getElem hk⟩
    have hdk : cs.drop k = c :: cs.drop (k + 1) := by
      rw [List.drop_eq_getElem_cons hk]
      congr 1
      rw [List.getElem?_eq_getElem hk] at hc
      exact Option.some.inj hc
    have atc : ∀ (P : D → Hd → Prop) (G : Hd), Ok (atD (sg cs) (.int ((k : Nat) : Int)) G) P = P (sg [c]) G := fun P G => ok_atS (by rw [sizeLine_val]; omega) hc
    have tc : TO [c] := ⟨by simp, fun b hb => by simp at hb; subst hb; exact ht.chr _ (List.mem_of_getElem? hc)⟩
    have a2 : ((k : Nat) : Int) + 2 = ((k + 2 : Nat) : Int) := by omega
    have a1 : ((k : Nat) : Int) + 1 = ((k + 1 : Nat) : Int) := by omega
    unfold g_law_fields_of_f1
    generalize hS : (sPut (eVar 1) (eOp2 opSub (eOp1 fLen (eVar 1)) (eC (.int 1))) (eOp2 opAdd (eOp2 atD (eVar 1) (eOp2 opSub (eOp1 fLen (eVar 1)) (eC (.int 1)))) (eOp2 atD (eVar 0) (eVar 3)))) = S
    have put : ∀ (d : Int) (Z : Fl → Sd → Hd → Prop), Z .nx [some (sg cs), some (.ref G.length), some (.int d), some (.int (k : Nat))] (G1.set G.length (.lst ((acc ++ [cur ++ [c]]).map sg))) → Sk (S [some (sg cs), some (.ref G.length), some (.int d), some (.int (k : Nat))] G1) Z := fun d Z hz => by
      have ll : (((List.map sg (acc ++ [cur])).length : Nat) : Int) - 1 = ((acc.length : Nat) : Int) := by rw [List.length_map, List.length_append, List.length_singleton]; omega
      have el : ((acc ++ [cur]).map sg)[acc.length]? = some (sg cur) := by simp
      subst hS
      simp -implicitDefEqProofs only [↓mirs, ↓ok_len_ref e1, ll, ↓ok_atL e1 (atI_nat el), ↓atc, ↓ok_addSg (show cur.length ≤ 1000000 by omega) (show [c].length ≤ 1000000 by simp)]
      rw [ok_putL e1 (ixN_at (by simp))]
      have : ((acc ++ [cur]).map sg).set acc.length (sg (cur ++ [c])) = (acc ++ [cur ++ [c]]).map sg := by
        rw [List.map_append, List.map_append, List.set_append_right _ _ (by simp)]
        simp
      rw [this]
      exact hz
    have step : FoI cs (k + 1) acc (cur ++ [c]) (d + wt c) → ∃ (acc' : List Cs) (cur' : Cs) (d' : Int) (y : Option D), [some (sg cs), some (.ref G.length), some (.int (d + wt c)), some (.int (k : Nat))] = [some (sg cs), some (.ref G.length), some (.int d'), y] ∧ FoI cs (k + 1) acc' cur' d' ∧ cur'.length ≤ k + 1 ∧ (G1.set G.length (.lst ((acc ++ [cur ++ [c]]).map sg)))[G.length]? = some (.lst ((acc' ++ [cur']).map sg)) ∧ acc'.length ≤ k + 1 ∧ Fr [] G (G1.set G.length (.lst ((acc ++ [cur ++ [c]]).map sg))) := fun h =>
      ⟨acc, cur ++ [c], _, _, rfl, h, by simp; omega, get_set e1, by omega, f1.set (.inl (Nat.le_refl _))⟩
    simp -implicitDefEqProofs only [↓minrs, Int.zero_add]
    -- the depth
    refine sk_part (fun σ G2 => σ = [some (sg cs), some (.ref G.length), some (.int (if c = 91 ∨ c = 123 then d + 1 else d)), some (.int (k : Nat))] ∧ G2 = G1) ?_ ?_
    · simp -implicitDefEqProofs only [↓mirs, ↓atc, lit_open, ↓ok_in_sg, mem2]
      by_cases h : c = 91 ∨ c = 123
      · simp -implicitDefEqProofs only [h, decide_true, if_true, ↓mirs, and_self]
      · simp only [h, decide_false, Bool.false_eq_true, if_false, and_self]
    rintro σ G2 ⟨rfl, rfl⟩
    refine sk_part (fun σ G3 => σ = [some (sg cs), some (.ref G.length), some (.int (d + wt c)), some (.int (k : Nat))] ∧ G3 = G2) ?_ ?_
    · simp -implicitDefEqProofs only [↓mirs, ↓atc, lit_shut, ↓ok_in_sg, mem2]
      by_cases h : c = 93 ∨ c = 125
      · have h2 : ¬(c = 91 ∨ c = 123) := by omega
        have w : d + wt c = d - 1 := by unfold wt; rw [if_neg h2, if_pos h]; omega
        simp -implicitDefEqProofs only [h, h2, w, decide_true, if_true, if_false, ↓mirs, and_self]
      · by_cases h2 : c = 91 ∨ c = 123
        · have w : d + wt c = d + 1 := by unfold wt; rw [if_pos h2]
          simp only [h, h2, w, decide_false, Bool.false_eq_true, if_false, if_true, and_self]
        · have w : d + wt c = d := by unfold wt; rw [if_neg h2, if_neg h]; omega
          simp only [h, h2, w, decide_false, Bool.false_eq_true, if_false, and_self]
    rintro σ G3 ⟨rfl, rfl⟩
    have ts : TO ((cs.drop k).take 2) := (ht.drop _).take _
    have ts2 : TO ((cs.drop (k - 1)).take 2) := (ht.drop _).take _
    simp -implicitDefEqProofs only [↓mirs, a2, ↓ok_slSg ht, cut_mid, show k + 2 - k = 2 by omega, lit_comma, ↓ok_eqSg ts to_comma, two_iff, hc, Option.some.injEq]
    by_cases hsep : d + wt c = 0 ∧ c = 44 ∧ cs[k + 1]? = some 32
    · -- a new part
      obtain ⟨h1, h2, h3⟩ := hsep
      subst h2
      have d0 : d = 0 := by have : wt 44 = 0 := by decide
                            omega
      subst d0
      have w0 : (0 : Int) + wt 44 = 0 := by decide
      simp -implicitDefEqProofs only [w0, h3, decide_true, and_self, if_true, ↓mirs, ↓isL_ref e1]
      rw [ok_append e1 (by rw [List.length_map, List.length_append, sizeLine_val]; simp; omega)]
      refine ⟨acc ++ [cur], [], 0, _, rfl, .inr ⟨rfl, rfl, by omega, by rw [Nat.add_sub_cancel]; exact hc, h3, ?_⟩, by simp, ?_, by simp; omega, f1.set (.inl (Nat.le_refl _))⟩
      · rcases hI with ⟨h, _⟩ | ⟨_, _, _, _, h, _⟩
        · have hk1 : k + 1 < cs.length := (List.getElem?_eq_some_iff.mp h3).1
          have : cs.drop (k + 1) = 32 :: cs.drop (k + 1 + 1) := by
            rw [List.drop_eq_getElem_cons hk1]
            congr 1
            rw [List.getElem?_eq_getElem hk1] at h3
            exact Option.some.inj h3
          rw [h, hdk, this, cutF, if_pos rfl]
          simp
        · rw [hc] at h
          cases h
      · rw [List.map_append (l₂ := [[]]), List.map_singleton]
        rw [show sg [] = .str (Str.ofString "") by rw [sg_nil]]
        exact get_set e1
    · have go : ¬(d = 0 ∧ c = 44 ∧ cs[k + 1]? = some 32) := fun h => hsep ⟨by rw [h.1, h.2.1]; decide, h.2⟩
      have hd1 : (cs.drop (k + 1)).head? = cs[k + 1]? := by rw [List.head?_drop]
      have next : ∀ (hh : cutF 0 [] cs = acc ++ cutF d cur (cs.drop k)), FoI cs (k + 1) acc (cur ++ [c]) (d + wt c) := fun hh => by
        refine .inl ⟨by rw [hh, hdk, cutF_go2 (by rw [hd1]; exact go)], fun h => hsep ⟨h.1, ?_, h.2.2.2⟩⟩
        have := h.2.2.1
        rw [Nat.add_sub_cancel, hc] at this
        exact Option.some.inj this
      by_cases h0 : d + wt c = 0
      · have nc : decide (c = 44 ∧ cs[k + 1]? = some 32) = false := decide_eq_false fun h => hsep ⟨h0, h⟩
        simp -implicitDefEqProofs only [h0, decide_true, if_true, nc, Bool.false_eq_true, if_false, ↓mirs, Bool.not_true]
        by_cases hk0 : k = 0
        · have : (((k : Nat) : Int) = 0) = True := eq_true (by omega)
          simp only [this, decide_true, if_true]
          refine put _ _ ?_
          have hh : cutF 0 [] cs = acc ++ cutF d cur (cs.drop k) := by
            rcases hI with ⟨h, _⟩ | ⟨_, _, h, _⟩
            · exact h
            · omega
          have := step (next hh)
          rw [h0] at this
          exact this
        · have nk : (((k : Nat) : Int) = 0) = False := eq_false (by omega)
          have a3 : ((k : Nat) : Int) - 1 = ((k - 1 : Nat) : Int) := by omega
          simp -implicitDefEqProofs only [nk, decide_false, Bool.false_eq_true, if_false, ↓mirs, a3, a1, ↓ok_slSg ht, cut_mid, show k + 1 - (k - 1) = 2 by omega, ↓ok_neSg ts2 to_comma, two_iff, show k - 1 + 1 = k by omega, hc, Option.some.injEq]
          by_cases hskip : cs[k - 1]? = some 44 ∧ c = 32
          · simp only [hskip, and_self, decide_true, Bool.not_true, Bool.false_eq_true, if_false]
            rcases hI with ⟨_, h⟩ | ⟨d0, c0, _, _, h32, h⟩
            · refine (h ⟨?_, by omega, hskip.1, by rw [hc, hskip.2]⟩).elim
              have : wt c = 0 := by rw [hskip.2]; decide
              omega
            · subst c0
              rw [← h0]
              refine ⟨acc, [], _, _, rfl, .inl ⟨by rw [h0, h], fun h => ?_⟩, by simp, e1, by omega, f1⟩
              have := h.2.2.1
              rw [Nat.add_sub_cancel, hc, hskip.2] at this
              cases this
          · simp only [decide_eq_false hskip, Bool.not_false, if_true]
            refine put _ _ ?_
            have hh : cutF 0 [] cs = acc ++ cutF d cur (cs.drop k) := by
              rcases hI with ⟨h, _⟩ | ⟨_, _, _, h1, h2, _⟩
              · exact h
              · rw [hc] at h2
                exact (hskip ⟨h1, Option.some.inj h2⟩).elim
            have := step (next hh)
            rw [h0] at this
            exact this
      · simp -implicitDefEqProofs only [h0, decide_false, Bool.false_eq_true, if_false, ↓mirs, Bool.not_false, if_true]
        refine put _ _ ?_
        have hh : cutF 0 [] cs = acc ++ cutF d cur (cs.drop k) := by
          rcases hI with ⟨h, _⟩ | ⟨h1, _, _, _, h2, _⟩
          · exact h
          · rw [hc] at h2
            have : wt c = 0 := by rw [Option.some.inj h2]; decide
            omega
        exact step (next hh)
end D2
end
section
set_option linter.all false
set_option autoImplicit false
set_option maxRecDepth 100000
namespace D2
open PySem L2
theorem fnd_iff : ∀ {p : Cs} {i : Nat}, fnd p = some i ↔ (p.drop i).take 2 = [58, 32] ∧ ∀ k, k < i → (p.drop k).take 2 ≠ [58, 32]
  | [], i => by simp [fnd]
  | c :: r, i => by
    have e : (strip [58, 32] (c :: r)).isSome = true ↔ (c :: r).take 2 = [58, 32] := by
      unfold strip
      rw [show ([58, 32] : Cs).length = 2 from rfl]
      split <;> simp_all
    unfold fnd
    by_cases h : (c :: r).take 2 = [58, 32]
    · rw [if_pos (e.mpr h)]
      constructor
      · intro h2
        cases h2
        exact ⟨h, fun k hk => by omega⟩
      · rintro ⟨h1, h2⟩
        cases i with
        | zero => rfl
        | succ i => exact (h2 0 (by omega) h).elim
    · rw [if_neg (fun h2 => h (e.mp h2))]
      constructor
      · intro h2
        obtain ⟨j, hj, rfl⟩ := Option.map_eq_some_iff.mp h2
        obtain ⟨h3, h4⟩ := fnd_iff.mp hj
        refine ⟨h3, fun k hk => ?_⟩
        cases k with
        | zero => exact h
        | succ k => exact h4 k (by omega)
      · rintro ⟨h1, h2⟩
        cases i with
        | zero => exact (h h1).elim
        | succ i =>
          have := (fnd_iff (p := r) (i := i)).mpr ⟨h1, fun k hk => h2 (k + 1) (by omega)⟩
          rw [this]
          rfl
theorem at_iff {p : Cs} {i : Nat} : StrLaws.At (Sg p) (Sg [58, 32]) (Sg p).length i ↔ (p.drop i).take 2 = [58, 32] := by
  unfold StrLaws.At
  rw [StrLaws.subAt_eq, sg_len, sg_len]
  show (i + 2 ≤ p.length ∧ ((p.drop i).take 2 == [58, 32]) = true) ↔ _
  rw [beq_iff_eq]
  refine ⟨fun h => h.2, fun h => ⟨?_, h⟩⟩
  have := congrArg List.length h
  rw [List.length_take, List.length_drop] at this
  simp at this
  omega
theorem find_eq {p : Cs} : Txt.find (Sg p) (Sg [58, 32]) = match fnd p with | some i => (i : Int) | none => -1 := by
  rcases PyProof.Rows.find_whole (Sg p) (Sg [58, 32]) with ⟨h1, h2⟩ | ⟨i, h1, h2, h3⟩
  · rw [h1]
    cases e : fnd p with
    | none => rfl
    | some i => exact (h2 i (at_iff.mpr (fnd_iff.mp e).1)).elim
  · rw [h1, fnd_iff.mpr ⟨at_iff.mp h2, fun k hk h => h3 k hk (at_iff.mpr h)⟩]
def encO : Option Ty2 → D
  | none => .non
  | some K => K.enc
theorem isNon_enc {K : Ty2} : isNon K.enc = false := by cases K <;> rfl
section
variable {P : D → Hd → Prop} {G : Hd}
theorem ok_findSg {p : Cs} : Ok (mFind (.str (Sg p)) (.str (Sg [58, 32])) G) P = P (.int (match fnd p with | some i => (i : Int) | none => -1)) G := by
  show P (.int (Txt.find (Sg p) (Sg [58, 32]))) G = _
  rw [find_eq]
theorem sg_toS {cs : Cs} (h : TO cs) : sg cs = sl (toS cs) := by
  show D.str (Sg cs) = D.str (Str.ofString (toS cs))
  rw [toS_of h.chr]
theorem toS_eq {cs : Cs} (h : TO cs) {s : String} : toS cs = s ↔ cs = nmL s := by
  constructor
  · rintro rfl
    exact (nmL_toS h.chr).symm
  · rintro rfl
    exact toS_nmL s
theorem ok_in_leaves {cs : Cs} (h : TO cs) : Ok (cIn (sg cs) (.tup [sl "int", sl "text", sl "bool"]) G) P = P (.bl (leafOf cs).isSome) G := by
  rw [sg_toS h, ok_in_lit3]
  congr 2
  unfold leafOf
  simp only [toS_eq h]
  by_cases h1 : cs = nmL "int"
  · simp [h1]
  · by_cases h2 : cs = nmL "text"
    · simp [h1, h2, show nmL "text" ≠ nmL "int" by decide]
    · by_cases h3 : cs = nmL "bool"
      · simp [h3, show nmL "bool" ≠ nmL "int" by decide, show nmL "bool" ≠ nmL "text" by decide]
      · simp [h1, h2, h3]
theorem ok_last {cs : Cs} {b : Nat} (ht : TO cs) (h : cs.getLast? = some b) : Ok (atD (sg cs) (.int (-1)) G) P = P (sg [b]) G := by
  unfold atD
  dsimp only
  rw [if_pos ht.size]
  have ne : 1 ≤ cs.length := by
    cases cs with
    | nil => cases h
    | cons => simp
  have : atI (Sg cs).cps.toList (-1) = some b := by
    unfold atI ixN
    rw [if_neg (by decide), if_pos (by simp; omega)]
    show cs[((-1 : Int) + (cs.length : Int)).toNat]? = some b
    rw [List.getLast?_eq_getElem?] at h
    rw [← h]
    congr 1
    omega
  rw [this] <;> rfl
theorem ok_first {cs : Cs} {a : Nat} (ht : TO cs) (h : cs.head? = some a) : Ok (atD (sg cs) (.int 0) G) P = P (sg [a]) G :=
  ok_atS (k := 0) (by have := ht.size; rwa [sg_len] at this) (by rw [← h, List.head?_eq_getElem?])
theorem cut_last {cs : Cs} : cutS (Sg cs) none (some (-1)) = Sg cs.dropLast := by
  rw [sg_cut, HT.sIx_none]
  congr 1
  rw [List.drop_zero, List.dropLast_eq_take]
  congr 1
  have : HT.sIx cs.length cs.length (some (-1)) = ((-1 : Int) + (cs.length : Int)).toNat := rfl
  rw [this]
  omega
theorem cut_in {cs : Cs} (h : 1 ≤ cs.length) : cutS (Sg cs) (some 1) (some (-1)) = Sg (cs.drop 1).dropLast := by
  have e1 : HT.sIx cs.length 0 (some 1) = 1 := by
    have := HT.sIx_nat cs.length 0 1
    rw [Nat.min_eq_left h] at this
    exact this
  have e2 : HT.sIx cs.length cs.length (some (-1)) = cs.length - 1 := by
    have : HT.sIx cs.length cs.length (some (-1)) = ((-1 : Int) + (cs.length : Int)).toNat := rfl
    rw [this]
    omega
  rw [sg_cut, e1, e2, List.dropLast_eq_take, List.length_drop]
end
theorem lit_q : Str.ofString "?" = Sg [63] := by decide +kernel
theorem lit_sq : Str.ofString "[]" = Sg [91, 93] := by decide +kernel
theorem lit_cu : Str.ofString "{}" = Sg [123, 125] := by decide +kernel
def g_law_kind_of_f1 (f_law_kind_of : Fn) : S :=
  (sSeq (sSet 5 (eMs mFind (eVar 4) (eC (.str (Str.ofString ": ")))))
  (sSeq (sIf (tBl (eOp2 cLt (eVar 5) (eC (.int 0))))
    (sRet (eC .non))
    sNil)
  (sSeq (sSet 2 (eCall f_law_kind_of (aCons (eSl (eVar 4) (oSome (eOp2 opAdd (eVar 5) (eC (.int 2)))) oNone) aNil)))
  (sSeq (sIf (tBl (eOp2 cIs (eVar 2) (eC .non)))
    (sRet (eC .non))
    sNil)
  (sExpr (eMl mAppend (eVar 3) (eTup (aCons (eSl (eVar 4) oNone (oSome (eVar 5))) (aCons (eVar 2) aNil)))))))))
def g_law_kind_of (f_law_kind_of f_law_fields_of : Fn) : S :=
  (sSeq (sIf (tBl (eOp2 cIn (eVar 0) (eTup (aCons (eC (.str (Str.ofString "int"))) (aCons (eC (.str (Str.ofString "text"))) (aCons (eC (.str (Str.ofString "bool"))) aNil))))))
    (sRet (eTup (aCons (eVar 0) aNil)))
    sNil)
  (sSeq (sIf (tBl (eOp2 cLt (eOp1 fLen (eVar 0)) (eC (.int 2))))
    (sRet (eC .non))
    sNil)
  (sSeq (sSet 1 (eOp2 opAdd (eOp2 atD (eVar 0) (eC (.int 0))) (eOp2 atD (eVar 0) (eOp1 opNeg (eC (.int 1))))))
  (sSeq (sIf (tBl (eOp2 cEq (eOp2 atD (eVar 0) (eOp1 opNeg (eC (.int 1)))) (eC (.str (Str.ofString "?")))))
    (sSeq (sSet 2 (eCall f_law_kind_of (aCons (eSl (eVar 0) oNone (oSome (eOp1 opNeg (eC (.int 1))))) aNil)))
  (sSeq (sIf (tOr (tBl (eOp2 cIs (eVar 2) (eC .non))) (tBl (eOp2 cEq (eOp2 atD (eVar 2) (eC (.int 0))) (eC (.str (Str.ofString "opt"))))))
    (sRet (eC .non))
    sNil)
  (sRet (eTup (aCons (eC (.str (Str.ofString "opt"))) (aCons (eVar 2) aNil))))))
    sNil)
  (sSeq (sIf (tBl (eOp2 cEq (eVar 1) (eC (.str (Str.ofString "[]")))))
    (sSeq (sSet 2 (eCall f_law_kind_of (aCons (eSl (eVar 0) (oSome (eC (.int 1))) (oSome (eOp1 opNeg (eC (.int 1))))) aNil)))
  (sSeq (sIf (tBl (eOp2 cIs (eVar 2) (eC .non)))
    (sRet (eC .non))
    sNil)
  (sRet (eTup (aCons (eC (.str (Str.ofString "list"))) (aCons (eVar 2) aNil))))))
    sNil)
  (sSeq (sIf (tBl (eOp2 cNe (eVar 1) (eC (.str (Str.ofString "{}")))))
    (sRet (eC .non))
    sNil)
  (sSeq (sSet 3 (eLst aNil))
  (sSeq (sFor (iOf (eCall f_law_fields_of (aCons (eSl (eVar 0) (oSome (eC (.int 1))) (oSome (eOp1 opNeg (eC (.int 1))))) aNil))) (gName 4) (g_law_kind_of_f1 f_law_kind_of))
  (sRet (eTup (aCons (eC (.str (Str.ofString "rec"))) (aCons (eOp1 fTuple (eVar 3)) aNil))))))))))))
def KoOk (n : Nat) (fn : Fn) : Prop := ∀ {cs : Cs} {G : Hd} {P : D → Hd → Prop}, TO cs → marks cs < n → (∀ G', Fr [] G G' → P (encO (lk n cs)) G') → Ok (fn [sg cs] G) P
theorem kindOf_ok {n : Nat} {fk ff : Fn} (ih : KoOk n fk) (hf : FoOk ff) : KoOk (n + 1) (runFn 6 1 (g_law_kind_of fk ff)) := by
  intro cs G P ht hm hq
  refine ok_run rfl ?_
  show Sk (g_law_kind_of fk ff [some (sg cs), none, none, none, none, none] G) (rtn P)
  unfold g_law_kind_of
  have hlen := ht.len
  rw [lk] at hq
  have inl : ∀ (P : D → Hd → Prop) (G : Hd), Ok (cIn (sg cs) (.tup [.str (Str.ofString "int"), .str (Str.ofString "text"), .str (Str.ofString "bool")]) G) P = P (.bl (leafOf cs).isSome) G := fun P G => ok_in_leaves ht
  simp -implicitDefEqProofs only [↓minrs]
  rw [sk_if]
  simp -implicitDefEqProofs only [↓minrs, ↓inl]
  cases el : leafOf cs with
  | some k =>
    simp -implicitDefEqProofs only [Option.isSome_some, if_true, ↓minrs]
    have := hq G .refl
    rw [lkS, el] at this
    dsimp only at this
    rw [leafOf_eq el]
    rw [show sg (nmL k.s) = sl k.s from (sl_nm _).symm]
    exact this
  | none =>
  rw [lkS, el] at hq
  dsimp only at hq
  simp -implicitDefEqProofs only [Option.isSome_none, Bool.false_eq_true, if_false, ↓minrs]
  rw [sk_if]
  simp -implicitDefEqProofs only [↓minrs, ↓ok_lenSg ht]
  by_cases h2 : cs.length < 2
  · have : ((cs.length : Nat) : Int) < 2 := by omega
    rw [if_pos h2] at hq
    simp -implicitDefEqProofs only [this, decide_true, if_true, ↓minrs]
    exact hq G .refl
  have h2' : ¬ ((cs.length : Nat) : Int) < 2 := by omega
  rw [if_neg h2] at hq
  obtain ⟨a, ha⟩ : ∃ a, cs.head? = some a := by
    cases cs with
    | nil => simp at h2
    | cons a r => exact ⟨a, rfl⟩
  obtain ⟨b, hb⟩ : ∃ b, cs.getLast? = some b := by
    cases e : cs.getLast? with
    | none => rw [List.getLast?_eq_none_iff.mp e] at h2; simp at h2
    | some b => exact ⟨b, rfl⟩
  have fa : ∀ (P : D → Hd → Prop) (G : Hd), Ok (atD (sg cs) (.int 0) G) P = P (sg [a]) G := fun P G => ok_first ht ha
  have fb : ∀ (P : D → Hd → Prop) (G : Hd), Ok (atD (sg cs) (.int (-1)) G) P = P (sg [b]) G := fun P G => ok_last ht hb
  have ta : a < 0xd800 := ht.chr a (List.mem_of_head? ha)
  have tb : b < 0xd800 := ht.chr b (List.mem_of_getLast? hb)
  have tB : TO [b] := to_lit ⟨by simp, by simpa using tb⟩
  have tAB : TO [a, b] := to_lit ⟨by simp, by simpa using ⟨ta, tb⟩⟩
  have tq : TO [63] := to_lit (by decide)
  have tsq : TO [91, 93] := to_lit (by decide)
  have tcu : TO [123, 125] := to_lit (by decide)
  simp -implicitDefEqProofs only [h2', decide_false, Bool.false_eq_true, if_false, ↓minrs, ok_neg, ↓fa, ↓fb, ↓ok_addSg (show [a].length ≤ 1000000 by simp) (show [b].length ≤ 1000000 by simp), List.singleton_append]
  rw [sk_if]
  simp -implicitDefEqProofs only [↓minrs, ok_neg, ↓fb, lit_q, ↓ok_eqSg tB tq]
  rw [ha, hb] at hq
  by_cases h63 : b = 63
  · subst h63
    rw [if_pos rfl] at hq
    simp -implicitDefEqProofs only [decide_true, if_true, ↓minrs, ok_neg, ↓ok_slSg ht, cut_last]
    have mk : marks cs.dropLast < n := by
      obtain ⟨ys, rfl⟩ := List.getLast?_eq_some_iff.mp hb
      rw [marks_app, show marks [63] = 1 from rfl] at hm
      rw [List.dropLast_concat]
      omega
    refine ih (ht.sub (List.dropLast_sublist _)) mk fun G1 f1 => ?_
    cases e : lk n cs.dropLast with
    | none =>
      rw [e] at hq
      simp -implicitDefEqProofs only [encO, ↓mirs, isNon, if_true]
      exact hq G1 f1
    | some K =>
      rw [e] at hq
      simp -implicitDefEqProofs only [encO, ↓mirs, isNon_enc, ↓ok_hd, ↓ok_notIn_lit2, ↓ok_notIn_lit3, hd_opt, hd_lst, hd_rcd, hd_leaves, ob_or, ob_or', io_leaf, io_rcd, io_lst, io_opt, il_leaf, il_rcd, il_lst, il_opt, ir_leaf, ir_rcd, ir_lst, ir_opt, iv_leaf, iv_rcd, iv_lst, iv_opt, ib_leaf, ib_rcd, ib_lst, ib_opt, Bool.false_eq_true, if_false]
      dsimp only at hq
      cases eo : K.isOpt with
      | true =>
        rw [eo] at hq
        simp only [if_true]
        exact hq G1 f1
      | false =>
        rw [eo] at hq
        simp only [Bool.false_eq_true, if_false]
        exact hq G1 f1
  · have n63 : ¬ ([b] = [63]) := by simpa using h63
    rw [if_neg (by simpa using h63)] at hq
    simp -implicitDefEqProofs only [n63, decide_false, Bool.false_eq_true, if_false, ↓minrs]
    rw [sk_if]
    simp -implicitDefEqProofs only [↓minrs, lit_sq, ↓ok_eqSg tAB tsq]
    have inn : marks (cs.drop 1).dropLast + 1 ≤ marks cs ∨ isMk a = false := by
      cases hh : isMk a with
      | false => exact .inr rfl
      | true =>
        refine .inl ?_
        cases cs with
        | nil => cases ha
        | cons c r =>
          cases ha
          rw [marks_cons, if_pos hh, List.drop_succ_cons, List.drop_zero]
          have := marks_dropLast (x := r)
          omega
    have ti : TO (cs.drop 1).dropLast := (ht.drop 1).sub (List.dropLast_sublist _)
    by_cases hsq : a = 91 ∧ b = 93
    · obtain ⟨rfl, rfl⟩ := hsq
      rw [if_pos ⟨rfl, rfl⟩] at hq
      simp -implicitDefEqProofs only [decide_true, if_true, ↓minrs, ok_neg, ↓ok_slSg ht, cut_in (show 1 ≤ cs.length by omega)]
      have mk : marks (cs.drop 1).dropLast < n := by
        rcases inn with h | h
        · omega
        · cases h
      refine ih ti mk fun G1 f1 => ?_
      cases e : lk n (cs.drop 1).dropLast with
      | none =>
        rw [e] at hq
        simp -implicitDefEqProofs only [encO, ↓mirs, isNon, if_true]
        exact hq G1 f1
      | some K =>
        rw [e] at hq
        simp -implicitDefEqProofs only [encO, ↓mirs, isNon_enc, Bool.false_eq_true, if_false]
        exact hq G1 f1
    · have nsq : ¬ ([a, b] = [91, 93]) := by simpa using hsq
      rw [if_neg (by simpa using hsq)] at hq
      simp -implicitDefEqProofs only [nsq, decide_false, Bool.false_eq_true, if_false, ↓minrs]
      rw [sk_if]
      simp -implicitDefEqProofs only [↓minrs, lit_cu, ↓ok_neSg tAB tcu]
      by_cases hcu : a = 123 ∧ b = 125
      · obtain ⟨rfl, rfl⟩ := hcu
        rw [if_pos ⟨rfl, rfl⟩] at hq
        simp -implicitDefEqProofs only [decide_true, Bool.not_true, Bool.false_eq_true, if_false, ↓minrs, ok_neg, ↓ok_slSg ht, cut_in (show 1 ≤ cs.length by omega)]
        have mk : marks (cs.drop 1).dropLast < n := by
          rcases inn with h | h
          · omega
          · cases h
        refine hf ti fun r G1 e1 hr f1 => ?_
        rw [List.length_append, List.length_singleton] at hr
        have F1 : G1[G.length]? = some (.lst []) := f1.at get_new (by simp)
        have f01 : Fr [] G G1 := Fr.refl.app.trans f1
        generalize hps : cutF 0 [] (cs.drop 1).dropLast = ps at hq e1
        have pm : ∀ p ∈ ps, marks p < n ∧ TO p := fun p hp => by
          rw [← hps] at hp
          have h1 := marks_cutF hp
          rw [List.nil_append] at h1
          refine ⟨by omega, ?_, mem_cutF (fun c hc => ti.chr c (by simpa using hc)) p hp⟩
          have h2 := len_cutF hp
          have h3 := ti.len
          rw [List.length_nil] at h2
          omega
        have pl : ps.length ≤ 200001 := by
          rw [← hps]
          have h1 := cut_count 0 [] (cs.drop 1).dropLast
          have h3 := ti.len
          omega
        rw [ok_itof_ref e1]
        have rG : r ≠ G.length := by omega
        refine loop_inv0 ps.length (fun i σ G2 => ∃ (acc : List (String × Ty2)) (y z w : Option D), σ = [some (sg cs), some (sg [123, 125]), y, some (.ref G.length), z, w] ∧ lkF (lk n) [] ps = lkF (lk n) acc (ps.drop i) ∧ acc.length = i ∧ G2[G.length]? = some (.lst (acc.map fe)) ∧ G2[r]? = some (.lst (ps.map sg)) ∧ Fr [] G G2) ⟨[], _, _, _, rfl, rfl, rfl, F1, e1, f01⟩ ?_ ?_
        · rintro σ G2 ⟨acc, y, z, w, rfl, hl, ha, F2, e2, f2⟩
          refine ⟨by rw [it_list e2, List.getElem?_eq_none (by rw [List.length_map]; exact Nat.le_refl _)], ?_⟩
          simp -implicitDefEqProofs only [↓mirs, ↓ok_tuple_ref F2]
          rw [List.drop_length, lkF] at hl
          rw [hl] at hq
          have := hq G2 f2
          rw [encO, Ty2.enc, Fs.of_enc] at this
          exact this
        · rintro i σ G2 hi ⟨acc, y, z, w, rfl, hl, hal, F2, e2, f2⟩
          have ep : ps[i]? = some ps[i] := List.getElem?_eq_getElem hi
          have hd : ps.drop i = ps[i] :: ps.drop (i + 1) := List.drop_eq_getElem_cons hi
          have mem := List.mem_of_getElem? ep
          rw [hd] at hl
          generalize ps[i] = p at ep mem hl
          obtain ⟨pm1, pm2⟩ := pm p mem
          refine ⟨sg p, by rw [it_list e2, List.getElem?_map, ep]; rfl, ?_⟩
          unfold g_law_kind_of_f1
          simp -implicitDefEqProofs only [↓minrs, lit_colon, ↓ok_findSg]
          rw [sk_if]
          cases ef : fnd p with
          | none =>
            simp -implicitDefEqProofs only [↓minrs, show ((-1 : Int) < 0) = True by decide, decide_true, if_true]
            rw [lkF, ef] at hl
            rw [hl] at hq
            exact hq G2 f2
          | some k =>
            have nk : ¬ ((k : Nat) : Int) < 0 := by omega
            have k2 : ((k : Nat) : Int) + 2 = ((k + 2 : Nat) : Int) := by omega
            rw [lkF, ef] at hl
            dsimp only at hl
            simp -implicitDefEqProofs only [↓minrs, nk, decide_false, Bool.false_eq_true, if_false, k2, ↓ok_slSg pm2, cut_fromG]
            refine ih (pm2.drop _) (Nat.lt_of_le_of_lt marks_drop pm1) fun G3 f3 => ?_
            have F3 := f3.at F2 (by simp)
            have e3 := f3.at e2 (by simp)
            rw [sk_if]
            cases eK : lk n (p.drop (k + 2)) with
            | none =>
              simp -implicitDefEqProofs only [↓minrs, encO, isNon, if_true]
              rw [eK] at hl
              rw [hl] at hq
              exact hq G3 (f2.trans f3)
            | some K =>
              rw [eK] at hl
              simp -implicitDefEqProofs only [↓minrs, encO, isNon_enc, Bool.false_eq_true, if_false, ↓isL_ref F3, if_true, ↓ok_slSg pm2, cut_toG]
              rw [ok_append F3 (by rw [List.length_map, sizeLine_val]; omega)]
              refine ⟨acc ++ [(toS (p.take k), K)], _, _, _, rfl, hl, by rw [List.length_append, hal]; rfl, ?_, get_set_ne e3 rG.symm, (f2.trans f3).set (.inl (Nat.le_refl _))⟩
              rw [show D.str (Sg (p.take k)) = sl (toS (p.take k)) from sg_toS (pm2.take k), List.map_append]
              exact get_set F3
      · have ncu : ¬ ([a, b] = [123, 125]) := by simpa using hcu
        rw [if_neg (by simpa using hcu)] at hq
        simp -implicitDefEqProofs only [ncu, decide_false, Bool.not_false, if_true, ↓mirs]
        exact hq G .refl
end D2
end
section
set_option linter.all false
set_option autoImplicit false
namespace D2
open PySem L2
def OkX {α : Type} (x : Option (R α × Hd)) (Q : α → Hd → Prop) (E : Nat → Hd → Prop) : Prop := match x with
  | some (.ok a, G) => Q a G
  | some (.exc c, G) => E c G
  | none => False
def SkX (x : SR) (Z : Fl → Sd → Hd → Prop) : Prop := match x with
  | some (f, σ, G) => Z f σ G
  | none => False
def rtnX (P : D → Hd → Prop) (E : Nat → Hd → Prop) : Fl → Sd → Hd → Prop
  | .nx => fun _ => P .non
  | .rt v => fun _ => P v
  | .exc c => fun _ => E c
  | _ => fun _ _ => False
section
variable {α β : Type} {Q : α → Hd → Prop} {P : D → Hd → Prop} {PL : List D → Hd → Prop} {E : Nat → Hd → Prop} {Z : Fl → Sd → Hd → Prop} {σ : Sd} {G : Hd}
theorem okx_of {x : Option (R α × Hd)} (h : Ok x Q) : OkX x Q E := by
  obtain ⟨a, G', rfl, h⟩ := h.ex
  exact h
theorem skx_of {x : SR} (h : Sk x Z) : SkX x Z := by
  obtain ⟨f, σ', G', rfl, _, h⟩ := h.ex
  exact h
theorem OkX.mono {x : Option (R α × Hd)} {Q' : α → Hd → Prop} {E' : Nat → Hd → Prop} (h : OkX x Q E) (hq : ∀ a G', Q a G' → Q' a G') (he : ∀ c G', E c G' → E' c G') : OkX x Q' E' := by
  unfold OkX at h ⊢
  split at h
  · exact hq _ _ h
  · exact he _ _ h
  · exact h.elim
theorem OkX.ok {x : Option (R α × Hd)} (h : OkX x Q fun _ _ => False) : Ok x Q := by
  unfold OkX at h
  split at h
  · exact h
  · exact h.elim
  · exact h.elim
theorem SkX.mono {x : SR} {Z' : Fl → Sd → Hd → Prop} (h : SkX x Z) (hq : ∀ f σ' G', Z f σ' G' → Z' f σ' G') : SkX x Z' := by
  unfold SkX at h ⊢
  split at h
  · exact hq _ _ _ h
  · exact h.elim
theorem SkX.ex {x : SR} (h : SkX x Z) : ∃ f σ' G', x = some (f, σ', G') ∧ Z f σ' G' := by
  unfold SkX at h
  split at h
  · exact ⟨_, _, _, rfl, h⟩
  · exact h.elim
theorem okx_bnd {x : Option (R α × Hd)} {f : α → M β} {Q : β → Hd → Prop} : OkX (bnd x f) Q E = OkX x (fun a G1 => OkX (f a G1) Q E) E := by
  match x with
  | none => rfl
  | some (.exc _, _) => rfl
  | some (.ok _, _) => rfl
theorem okx_call {f : Fn} {a : As} : OkX (eCall f a σ G) P E = OkX (a σ G) (fun xs G1 => OkX (f xs G1) P E) E := okx_bnd
theorem okx_tup {a : As} : OkX (eTup a σ G) P E = OkX (a σ G) (fun xs G1 => OkX (mkT xs G1) P E) E := okx_bnd
theorem okx_nil : OkX (aNil σ G) PL E = PL [] G := rfl
theorem okx_cons {a : D2.E} {r : As} : OkX (aCons a r σ G) PL E = OkX (a σ G) (fun x G1 => OkX (r σ G1) (fun xs G2 => PL (x :: xs) G2) E) E := by
  unfold aCons
  rw [okx_bnd]
  congr 1
  funext x G1
  rw [okx_bnd]
  rfl
theorem okx_ml {f : D → D → M D} {o a : D2.E} : OkX (eMl f o a σ G) P E = OkX (o σ G) (fun x G1 => if isL G1 x = true then OkX (a σ G1) (fun y G2 => OkX (f x y G2) P E) E else False) E := by
  unfold eMl
  rw [okx_bnd]
  congr 1
  funext x G1
  split
  · rw [okx_bnd]
  · rfl
theorem skx_bndS {x : Option (R α × Hd)} {k : α → Hd → SR} : SkX (bndS σ x k) Z = OkX x (fun a G1 => SkX (k a G1) Z) (fun c G1 => Z (.exc c) σ G1) := by
  match x with
  | none => rfl
  | some (.exc _, _) => rfl
  | some (.ok _, _) => rfl
theorem skx_seq {a b : S} : SkX (sSeq a b σ G) Z = SkX (a σ G) (thn (fun σ1 G1 => SkX (b σ1 G1) Z) Z) := by
  unfold sSeq
  match a σ G with
  | none => rfl
  | some (.nx, _, _) => rfl
  | some (.bk, _, _) => rfl
  | some (.ct, _, _) => rfl
  | some (.rt _, _, _) => rfl
  | some (.exc _, _, _) => rfl
theorem skx_if {t : T} {a b : S} : SkX (sIf t a b σ G) Z = OkX (t σ G) (fun k G1 => if k = true then SkX (a σ G1) Z else SkX (b σ G1) Z) (fun c G1 => Z (.exc c) σ G1) := by
  unfold sIf
  rw [skx_bndS]
  congr 1
  funext k G1
  split <;> rfl
theorem skx_ifo {t : T} {a b : S} (h : Ok (t σ G) fun k G1 => if k = true then SkX (a σ G1) Z else SkX (b σ G1) Z) : SkX (sIf t a b σ G) Z := by
  rw [skx_if]
  exact okx_of h
theorem skx_nil : SkX (sNil σ G) Z = Z .nx σ G := rfl
theorem skx_raise {c : Nat} : SkX (sRaise c σ G) Z = Z (.exc c) σ G := rfl
theorem skx_ret {a : D2.E} : SkX (sRet a σ G) Z = OkX (a σ G) (fun v G1 => Z (.rt v) σ G1) (fun c G1 => Z (.exc c) σ G1) := skx_bndS
theorem skx_set {i : Nat} {a : D2.E} : SkX (sSet i a σ G) Z = OkX (a σ G) (fun v G1 => Z .nx (σ.set i (some v)) G1) (fun c G1 => Z (.exc c) σ G1) := skx_bndS
theorem skx_expr {a : D2.E} : SkX (sExpr a σ G) Z = OkX (a σ G) (fun _ G1 => Z .nx σ G1) (fun c G1 => Z (.exc c) σ G1) := skx_bndS
theorem skx_for {it : IE} {g : Tg} {b : S} : SkX (sFor it g b σ G) Z = OkX (it σ G) (fun j G1 => SkX (loopF j g b 0 σ G1) Z) (fun c G1 => Z (.exc c) σ G1) := skx_bndS
theorem okx_run {n k : Nat} {b : S} {vs : List D} (hn : vs.length = k) (h : SkX (b (vs.map some ++ List.replicate (n - k) none) G) (rtnX P E)) : OkX (runFn n k b vs G) P E := by
  obtain ⟨f, σ', G', e, h⟩ := h.ex
  unfold runFn
  rw [if_pos hn, e]
  cases f <;> first | exact h | exact h.elim
theorem thn_exc {k : Sd → Hd → Prop} {c : Nat} : thn k Z (.exc c) = Z (.exc c) := rfl
theorem rtnX_nx : rtnX P E .nx σ G = P .non G := rfl
theorem rtnX_rt {v : D} : rtnX P E (.rt v) σ G = P v G := rfl
theorem rtnX_exc {c : Nat} : rtnX P E (.exc c) σ G = E c G := rfl
theorem loopx_inv {j : ItD} {g : Tg} {b : S} {n : Nat} (I : Nat → Sd → Hd → Prop)
    (end_ : ∀ σ G, I n σ G → j n G = some none ∧ Z .nx σ G)
    (step : ∀ i σ G, i < n → I i σ G → ∃ v, j i G = some (some v) ∧ Tk (g v σ G) fun σ1 G1 => SkX (b σ1 G1) (lpn (I (i + 1)) Z)) :
    ∀ (m i : Nat) (σ : Sd) (G : Hd), m + i = n → I i σ G → SkX (loopF j g b i σ G) Z
  | 0, i, σ, G, e, h => by
    have : i = n := by omega
    subst this
    obtain ⟨e1, h1⟩ := end_ _ _ h
    rw [loopF, e1]
    exact h1
  | m + 1, i, σ, G, e, h => by
    obtain ⟨v, e1, h1⟩ := step i σ G (by omega) h
    obtain ⟨σ1, G1, e2, h1⟩ := h1.ex
    obtain ⟨f, σ2, G2, e3, h2⟩ := h1.ex
    rw [loopF, e1]
    dsimp only
    rw [e2]
    dsimp only
    rw [e3]
    cases f with
    | nx => exact loopx_inv I end_ step m (i + 1) σ2 G2 (by omega) h2
    | ct => exact loopx_inv I end_ step m (i + 1) σ2 G2 (by omega) h2
    | bk => exact h2
    | rt v => exact h2
    | exc c => exact h2
theorem loopx_inv0 {j : ItD} {g : Tg} {b : S} (n : Nat) (I : Nat → Sd → Hd → Prop) (h0 : I 0 σ G)
    (end_ : ∀ σ G, I n σ G → j n G = some none ∧ Z .nx σ G)
    (step : ∀ i σ G, i < n → I i σ G → ∃ v, j i G = some (some v) ∧ Tk (g v σ G) fun σ1 G1 => SkX (b σ1 G1) (lpn (I (i + 1)) Z)) : SkX (loopF j g b 0 σ G) Z := loopx_inv I end_ step n 0 σ G (by omega) h0
theorem sk_tryas {b : S} {is : Nat → Option Bool} {i : Nat} {h : Nat → S} (hb : SkX (b σ G) fun f σ1 G1 => match f with
    | .exc c => is c = some true ∧ i < σ1.length ∧ Sk (wipeS i (h c (σ1.set i none) G1)) Z
    | f => Z f σ1 G1) : Sk (sTryAs b is i h σ G) Z := by
  obtain ⟨f, σ1, G1, e, hb⟩ := hb.ex
  unfold sTryAs
  rw [e]
  cases f with
  | exc c =>
    obtain ⟨h1, h2, h3⟩ := hb
    dsimp only
    rw [h1]
    dsimp only
    rw [if_pos h2]
    exact h3
  | _ => exact hb
theorem sk_wipe {x : SR} {i : Nat} (h : Sk x fun f σ' G' => Z f (σ'.set i none) G') : Sk (wipeS i x) Z := by
  obtain ⟨f, σ', G', rfl, ne, h⟩ := h.ex
  cases f with
  | exc c => exact (ne c rfl).elim
  | _ => exact h
end
end D2
end
section
set_option linter.all false
set_option autoImplicit false
set_option maxRecDepth 100000
namespace D2
open PySem L2
theorem whilex_inv {Z : Fl → Sd → Hd → Prop} {t : T} {b : S} (I : Nat → Sd → Hd → Prop)
    (step : ∀ n σ G, I n σ G → Ok (t σ G) fun k G1 => if k = true then SkX (b σ G1) (lpn (fun σ2 G2 => ∃ m, m < n ∧ I m σ2 G2) Z) else Z .nx σ G1) (n : Nat) : ∀ (σ : Sd) (G : Hd), I n σ G → SkX (loopW t b σ G) Z := by
  induction n using Nat.strongRecOn with
  | ind n ih =>
    intro σ G h
    obtain ⟨k, G1, e, h1⟩ := (step n σ G h).ex
    rw [loopW, e]
    cases k with
    | false => exact h1
    | true =>
      dsimp only
      rw [if_pos rfl] at h1
      obtain ⟨f, σ2, G2, e3, h2⟩ := h1.ex
      rw [e3]
      cases f with
      | nx => obtain ⟨m, hm, h2⟩ := h2; exact ih m hm _ _ h2
      | ct => obtain ⟨m, hm, h2⟩ := h2; exact ih m hm _ _ h2
      | bk => exact h2
      | rt v => exact h2
      | exc c => exact h2
theorem skx_while {Z : Fl → Sd → Hd → Prop} {t : T} {b : S} {σ : Sd} {G : Hd} : SkX (sWhile t b σ G) Z = SkX (loopW t b σ G) Z := rfl
abbrev kT : Str := Str.ofString "text"
abbrev kA : Str := Str.ofString "at"
def ro (cs : Cs) (p : Nat) : O := .ins 3 [(kT, sg cs), (kA, .int (p : Nat))]
def st (cs t : Cs) : O := ro cs (cs.length - t.length)
theorem ta_ne : (kA == kT) = false := by decide +kernel
section
variable {P : D → Hd → Prop} {Pu : Unit → Hd → Prop} {E : Nat → Hd → Prop} {Z : Fl → Sd → Hd → Prop} {G : Hd} {σ τ : Sd} {R p : Nat} {cs t : Cs}
theorem ok_fld {c : Nat} {o : D2.E} {f : Str} : Ok (eFld c o f σ G) P = Ok (o σ G) fun x G1 => Ok (fldD c f x G1) P := ok_bnd
theorem insOf_ro (h : G[R]? = some (ro cs p)) : insOf 3 G (.ref R) = some (R, [(kT, sg cs), (kA, .int (p : Nat))]) := by
  unfold insOf
  dsimp only
  rw [h]
  rfl
theorem ok_fldT (h : G[R]? = some (ro cs p)) : Ok (fldD 3 (Str.ofString "text") (.ref R) G) P = P (sg cs) G := by
  unfold fldD
  rw [insOf_ro h]
  dsimp only
  rw [show List.lookup (Str.ofString "text") [(kT, sg cs), (kA, D.int (p : Nat))] = some (sg cs) from by rw [List.lookup_cons_self]]
  rfl
theorem ok_fldA (h : G[R]? = some (ro cs p)) : Ok (fldD 3 (Str.ofString "at") (.ref R) G) P = P (.int (p : Nat)) G := by
  unfold fldD
  rw [insOf_ro h]
  dsimp only
  rw [show List.lookup (Str.ofString "at") [(kT, sg cs), (kA, D.int (p : Nat))] = some (.int (p : Nat)) from by
    rw [List.lookup, show (Str.ofString "at" == kT) = false from ta_ne]
    dsimp only
    rw [List.lookup_cons_self]]
  rfl
theorem ok_setA {q : Nat} (h : G[R]? = some (ro cs p)) : Ok (setFD 3 (Str.ofString "at") (.int (q : Nat)) (.ref R) G) Pu = Pu () (G.set R (ro cs q)) := by
  unfold setFD
  rw [insOf_ro h]
  dsimp only
  rw [if_pos (by simp)]
  have : putFD (Str.ofString "at") (.int (q : Nat)) [(kT, sg cs), (kA, .int (p : Nat))] = [(kT, sg cs), (kA, .int (q : Nat))] := by
    unfold putFD
    rw [if_neg (by decide +kernel)]
    unfold putFD
    rw [if_pos rfl]
  rw [this]
  rfl
theorem sk_fldaug {c : Nat} {o a : D2.E} {f : Str} {op : D → D → M D} : Sk (sFldAugD c o f op a σ G) Z = Ok (o σ G) fun x G1 => Ok (fldD c f x G1) fun v G2 => Ok (a σ G2) fun w G3 => Ok (op v w G3) fun z G4 => Ok (setFD c f z x G4) fun _ G5 => Z .nx σ G5 := by
  unfold sFldAugD
  simp only [sk_bndS, sk_nx]
theorem sk_fldD {c : Nat} {o a : D2.E} {f : Str} : Sk (sFldD c o f a σ G) Z = Ok (a σ G) fun v G1 => Ok (o σ G1) fun x G2 => Ok (setFD c f v x G2) fun _ G3 => Z .nx σ G3 := by
  unfold sFldD
  simp only [sk_bndS, sk_nx]
theorem ok_meth {m : Str} {f : Fn} {a : As} (h : G[R]? = some (ro cs p)) (hm : (m == kT) = false ∧ (m == kA) = false) : Ok (eMethD 3 m f (eVar 0) a (some (.ref R) :: τ) G) P = Ok (a (some (.ref R) :: τ) G) fun vs G1 => Ok (f (.ref R :: vs) G1) P := by
  unfold eMethD
  rw [ok_bnd, ok_var0]
  rw [insOf_ro h]
  dsimp only
  rw [if_pos (by rw [List.lookup, hm.1]; dsimp only; rw [List.lookup, hm.2]; rfl), ok_bnd]
theorem okx_meth {m : Str} {f : Fn} {a : As} (h : G[R]? = some (ro cs p)) (hm : (m == kT) = false ∧ (m == kA) = false) : OkX (eMethD 3 m f (eVar 0) a (some (.ref R) :: τ) G) P E = OkX (a (some (.ref R) :: τ) G) (fun vs G1 => OkX (f (.ref R :: vs) G1) P E) E := by
  unfold eMethD
  rw [okx_bnd]
  show OkX (match insOf 3 G (.ref R) with | some (_, fs) => _ | none => none) P E = _
  rw [insOf_ro h]
  dsimp only
  rw [if_pos (by rw [List.lookup, hm.1]; dsimp only; rw [List.lookup, hm.2]; rfl), okx_bnd]
end
theorem m_has : (Str.ofString "has" == kT) = false ∧ (Str.ofString "has" == kA) = false := by decide +kernel
theorem m_take : (Str.ofString "take" == kT) = false ∧ (Str.ofString "take" == kA) = false := by decide +kernel
theorem m_name : (Str.ofString "name" == kT) = false ∧ (Str.ofString "name" == kA) = false := by decide +kernel
theorem m_field : (Str.ofString "field" == kT) = false ∧ (Str.ofString "field" == kA) = false := by decide +kernel
theorem m_bare : (Str.ofString "bare" == kT) = false ∧ (Str.ofString "bare" == kA) = false := by decide +kernel
theorem m_kind : (Str.ofString "kind" == kT) = false ∧ (Str.ofString "kind" == kA) = false := by decide +kernel
def g_TextReader__has : S :=
  (sSeq (sIf (tBl (eOp2 cNe (eSl (eFld 3 (eVar 0) (Str.ofString "text")) (oSome (eFld 3 (eVar 0) (Str.ofString "at"))) (oSome (eOp2 opAdd (eFld 3 (eVar 0) (Str.ofString "at")) (eOp1 fLen (eVar 1))))) (eVar 1)))
    (sRet (eC (.bl false)))
    sNil)
  (sSeq (sFldAugD 3 (eVar 0) (Str.ofString "at") opIAdd (eOp1 fLen (eVar 1)))
  (sRet (eC (.bl true)))))
def g_TextReader__take (fTextReader__has : Fn) : S :=
  (sIf (tNot (tTru (eMethD 3 (Str.ofString "has") fTextReader__has (eVar 0) (aCons (eVar 1) aNil))))
    (sRaise 2)
    sNil)
def g_TextReader__name_f1 : S :=
  (sFldAugD 3 (eVar 0) (Str.ofString "at") opIAdd (eC (.int 1)))
def g_TextReader__name : S :=
  (sSeq (sSet 1 (eFld 3 (eVar 0) (Str.ofString "at")))
  (sSeq (sWhile (tAnd (tBl (eOp2 cLt (eFld 3 (eVar 0) (Str.ofString "at")) (eOp1 fLen (eFld 3 (eVar 0) (Str.ofString "text"))))) (tBl (eOp2 cIn (eOp2 atD (eFld 3 (eVar 0) (Str.ofString "text")) (eFld 3 (eVar 0) (Str.ofString "at"))) (eC c_SMALL)))) g_TextReader__name_f1)
  (sRet (eSl (eFld 3 (eVar 0) (Str.ofString "text")) (oSome (eVar 1)) (oSome (eFld 3 (eVar 0) (Str.ofString "at")))))))
def g_TextReader__field (fTextReader__name fTextReader__take fTextReader__kind : Fn) : S :=
  (sSeq (sSet 1 (eMethD 3 (Str.ofString "name") fTextReader__name (eVar 0) aNil))
  (sSeq (sExpr (eMethD 3 (Str.ofString "take") fTextReader__take (eVar 0) (aCons (eC (.str (Str.ofString ": "))) aNil)))
  (sRet (eTup (aCons (eVar 1) (aCons (eMethD 3 (Str.ofString "kind") fTextReader__kind (eVar 0) aNil) aNil))))))
def g_TextReader__bare_f1 (fTextReader__field : Fn) : S :=
  (sExpr (eMl mAppend (eVar 2) (eMethD 3 (Str.ofString "field") fTextReader__field (eVar 0) aNil)))
def g_TextReader__bare (fTextReader__has fTextReader__kind fTextReader__take fTextReader__field fTextReader__name : Fn) : S :=
  (sSeq (sIf (tTru (eMethD 3 (Str.ofString "has") fTextReader__has (eVar 0) (aCons (eC (.str (Str.ofString "["))) aNil)))
    (sSeq (sSet 1 (eTup (aCons (eC (.str (Str.ofString "list"))) (aCons (eMethD 3 (Str.ofString "kind") fTextReader__kind (eVar 0) aNil) aNil))))
  (sSeq (sExpr (eMethD 3 (Str.ofString "take") fTextReader__take (eVar 0) (aCons (eC (.str (Str.ofString "]"))) aNil)))
  (sRet (eVar 1))))
    sNil)
  (sSeq (sIf (tTru (eMethD 3 (Str.ofString "has") fTextReader__has (eVar 0) (aCons (eC (.str (Str.ofString "{"))) aNil)))
    (sSeq (sSet 2 (eLst (aCons (eMethD 3 (Str.ofString "field") fTextReader__field (eVar 0) aNil) aNil)))
  (sSeq (sWhile (tTru (eMethD 3 (Str.ofString "has") fTextReader__has (eVar 0) (aCons (eC (.str (Str.ofString ", "))) aNil))) (g_TextReader__bare_f1 fTextReader__field))
  (sSeq (sExpr (eMethD 3 (Str.ofString "take") fTextReader__take (eVar 0) (aCons (eC (.str (Str.ofString "}"))) aNil)))
  (sRet (eTup (aCons (eC (.str (Str.ofString "rec"))) (aCons (eOp1 fTuple (eVar 2)) aNil)))))))
    sNil)
  (sSeq (sSet 3 (eMethD 3 (Str.ofString "name") fTextReader__name (eVar 0) aNil))
  (sSeq (sIf (tBl (eOp2 cNotIn (eVar 3) (eC c_LEAVES)))
    (sRaise 2)
    sNil)
  (sRet (eTup (aCons (eVar 3) aNil)))))))
def g_TextReader__kind (fTextReader__bare fTextReader__has : Fn) : S :=
  (sSeq (sSet 1 (eMethD 3 (Str.ofString "bare") fTextReader__bare (eVar 0) aNil))
  (sRet (eIf (tTru (eMethD 3 (Str.ofString "has") fTextReader__has (eVar 0) (aCons (eC (.str (Str.ofString "?"))) aNil))) (eTup (aCons (eC (.str (Str.ofString "opt"))) (aCons (eVar 1) aNil))) (eVar 1))))
def HasOk (fn : Fn) : Prop := ∀ {R : Nat} {cs t w : Cs} {G : Hd} {P : D → Hd → Prop}, G[R]? = some (st cs t) → TO cs → t <:+ cs → TO w → (∀ r, strip w t = some r → P (.bl true) (G.set R (st cs r))) → (strip w t = none → P (.bl false) G) → Ok (fn [.ref R, sg w] G) P
theorem sfx_drop {cs t : Cs} (h : t <:+ cs) : cs.drop (cs.length - t.length) = t := (List.suffix_iff_eq_drop.mp h).symm
theorem sfx_cons {cs x t : Cs} (h : x ++ t <:+ cs) : t <:+ cs := (List.suffix_append x t).trans h
theorem hasOk : HasOk (runFn 2 2 g_TextReader__has) := by
  intro R cs t w G P h ht hs hw hy hn
  refine ok_run rfl ?_
  show Sk (g_TextReader__has [some (.ref R), some (sg w)] G) (rtn P)
  unfold g_TextReader__has
  unfold st at h
  have hle := hs.length_le
  have e1 : ((cs.length - t.length : Nat) : Int) + ((w.length : Nat) : Int) = ((cs.length - t.length + w.length : Nat) : Int) := by omega
  have tt : TO t := ht.sub hs.sublist
  simp -implicitDefEqProofs only [↓minrs]
  rw [sk_if]
  simp -implicitDefEqProofs only [↓minrs, ok_fld, ↓ok_fldT h, ↓ok_fldA h, ↓ok_lenSg hw, e1, ↓ok_slSg ht, cut_mid, sfx_drop hs, show cs.length - t.length + w.length - (cs.length - t.length) = w.length by omega, ↓ok_neSg (tt.take _) hw]
  by_cases hh : t.take w.length = w
  · have es : strip w t = some (t.drop w.length) := by unfold strip; rw [if_pos hh]
    have := hy _ es
    have el : cs.length - (t.drop w.length).length = cs.length - t.length + w.length := by
      have := congrArg List.length hh
      rw [List.length_take] at this
      rw [List.length_drop]
      omega
    unfold st at this
    rw [el] at this
    simp -implicitDefEqProofs only [hh, decide_true, Bool.not_true, Bool.false_eq_true, if_false, ↓minrs, sk_fldaug, ↓ok_fldA h, ↓ok_lenSg hw, e1, ↓ok_setA h]
    exact this
  · have es : strip w t = none := by unfold strip; rw [if_neg hh]
    simp -implicitDefEqProofs only [decide_eq_false hh, Bool.not_false, if_true, ↓minrs]
    exact hn es
def TakeOk (fn : Fn) : Prop := ∀ {R : Nat} {cs t w : Cs} {G : Hd} {P : D → Hd → Prop} {E : Nat → Hd → Prop}, G[R]? = some (st cs t) → TO cs → t <:+ cs → TO w → (∀ r, strip w t = some r → P .non (G.set R (st cs r))) → (strip w t = none → E 2 G) → OkX (fn [.ref R, sg w] G) P E
theorem takeOk {fh : Fn} (hh : HasOk fh) : TakeOk (runFn 2 2 (g_TextReader__take fh)) := by
  intro R cs t w G P E h ht hs hw hy hn
  refine okx_run rfl ?_
  show SkX (g_TextReader__take fh [some (.ref R), some (sg w)] G) (rtnX P E)
  unfold g_TextReader__take
  refine skx_ifo ?_
  simp -implicitDefEqProofs only [↓minrs]
  rw [ok_meth h m_has]
  simp -implicitDefEqProofs only [↓minrs]
  refine hh h ht hs hw (fun r e => ?_) fun e => ?_
  · simp -implicitDefEqProofs only [↓minrs, Bool.not_true, Bool.false_eq_true, if_false, skx_nil, rtnX_nx]
    exact hy r e
  · simp -implicitDefEqProofs only [↓minrs, Bool.not_false, if_true, skx_raise, rtnX_exc]
    exact hn e
def NmR (fn : Fn) : Prop := ∀ {R : Nat} {cs t : Cs} {G : Hd} {P : D → Hd → Prop}, G[R]? = some (st cs t) → TO cs → t <:+ cs → (∀ G', G'[R]? = some (st cs (t.dropWhile isLo)) → Fr [R] G G' → P (sg (t.takeWhile isLo)) G') → Ok (fn [.ref R] G) P
theorem nmR : NmR (runFn 2 1 g_TextReader__name) := by
  intro R cs t G P h ht hs hq
  refine ok_run rfl ?_
  show Sk (g_TextReader__name [some (.ref R), none] G) (rtn P)
  unfold g_TextReader__name
  have hle := hs.length_le
  have h0 := h
  unfold st at h
  simp -implicitDefEqProofs only [↓minrs, ok_fld, ↓ok_fldA h]
  refine while_inv (fun n σ G1 => ∃ x u : Cs, n = u.length ∧ σ = [some (.ref R), some (.int ((cs.length - t.length : Nat) : Int))] ∧ t = x ++ u ∧ (∀ c ∈ x, isLo c = true) ∧ G1[R]? = some (st cs u) ∧ Fr [R] G G1) ?_ t.length _ _ ⟨[], t, rfl, rfl, rfl, fun c h => (by cases h), h0, .refl⟩
  rintro n σ G1 ⟨x, u, rfl, rfl, rfl, hx, e1, f1⟩
  have su : u <:+ cs := sfx_cons hs
  have lu := su.length_le
  have e1' := e1
  unfold st at e1
  have len : (x ++ u).length = x.length + u.length := List.length_append
  simp -implicitDefEqProofs only [↓minrs, ok_fld, ↓ok_fldT e1, ↓ok_fldA e1, ↓ok_lenSg ht]
  have fin : (∀ c, u.head? = some c → isLo c = false) → Ok (slD (sg cs) (some ((cs.length - (x ++ u).length : Nat) : Int)) (some ((cs.length - u.length : Nat) : Int)) G1) P := fun hu => by
    obtain ⟨w1, w2⟩ := tw_app hx hu
    rw [ok_slSg ht, cut_mid, sfx_drop hs, show cs.length - u.length - (cs.length - (x ++ u).length) = x.length by rw [len] at hle ⊢; omega, List.take_left]
    have := hq G1 (by rw [w2]; exact e1') f1
    rwa [w1] at this
  cases u with
  | nil =>
    have : ¬ ((cs.length - ([] : Cs).length : Nat) : Int) < ((cs.length : Nat) : Int) := by simp
    simp -implicitDefEqProofs only [this, decide_false, Bool.false_eq_true, if_false, ↓minrs, ok_fld, ↓ok_fldT e1, ↓ok_fldA e1]
    exact fin fun c hc => by cases hc
  | cons c u =>
    have lt : ((cs.length - (c :: u).length : Nat) : Int) < ((cs.length : Nat) : Int) := by
      rw [List.length_cons] at lu ⊢
      omega
    have hc : cs[cs.length - (c :: u).length]? = some c := by
      have := sfx_drop su
      have h2 := congrArg (fun l => l[0]?) this
      simp only [List.getElem?_drop, Nat.add_zero] at h2
      exact h2
    have atc : ∀ (P : D → Hd → Prop), Ok (atD (sg cs) (.int ((cs.length - (c :: u).length : Nat) : Int)) G1) P = P (sg [c]) G1 := fun P => ok_atS (by have := ht.size; rwa [sg_len] at this) hc
    simp -implicitDefEqProofs only [lt, decide_true, if_true, ↓minrs, ↓atc, c_SMALL, abc_eq, ↓ok_in_abc]
    cases hl : isLo c with
    | true =>
      unfold g_TextReader__name_f1
      have en : ((cs.length - (c :: u).length : Nat) : Int) + 1 = ((cs.length - u.length : Nat) : Int) := by rw [List.length_cons] at lu ⊢; omega
      simp -implicitDefEqProofs only [if_true, sk_fldaug, ↓minrs, ↓ok_fldA e1, en, ↓ok_setA e1]
      refine ⟨u.length, by simp, x ++ [c], u, rfl, trivial, by simp, fun b hb => ?_, get_set e1, f1.set (.inr (by simp))⟩
      rcases List.mem_append.mp hb with hb | hb
      · exact hx b hb
      · simp at hb
        subst hb
        exact hl
    | false =>
      simp -implicitDefEqProofs only [Bool.false_eq_true, if_false, ↓minrs, ok_fld, ↓ok_fldT e1, ↓ok_fldA e1]
      exact fin fun b hb => by cases hb; exact hl
end D2
end
section
set_option linter.all false
set_option autoImplicit false
set_option maxRecDepth 100000
namespace D2
open PySem L2
def rkP : Nat → Rk
  | 0 => fun _ => none
  | m + 1 => rdK m
theorem rdK_kind (d : Nat) : rdK d = kindR (rkP d) := by cases d <;> rfl
theorem rkP_sound (d : Nat) : SoundR (rkP d) := by
  cases d with
  | zero => exact none_sound
  | succ m => exact rdK_sound m
def RdS (d : Nat) (fn : Fn) : Prop := ∀ {R : Nat} {cs t : Cs} {G : Hd} {Q : D → Hd → Prop} {E : Nat → Hd → Prop}, G[R]? = some (st cs t) → TO cs → t <:+ cs → Pd d t →
    (∀ K r G', rdK d t = some (K, r) → G'[R]? = some (st cs r) → Fr [R] G G' → Q K.enc G') → (∀ G', rdK d t = none → Fr [R] G G' → E 2 G') → OkX (fn [.ref R] G) Q E
def FdS (d : Nat) (fn : Fn) : Prop := ∀ {R : Nat} {cs t : Cs} {G : Hd} {Q : D → Hd → Prop} {E : Nat → Hd → Prop}, G[R]? = some (st cs t) → TO cs → t <:+ cs → Pd d t →
    (∀ q r G', fldR (rdK d) t = some (q, r) → G'[R]? = some (st cs r) → Fr [R] G G' → Q (fe q) G') → (∀ G', fldR (rdK d) t = none → Fr [R] G G' → E 2 G') → OkX (fn [.ref R] G) Q E
def BrS (d : Nat) (fn : Fn) : Prop := ∀ {R : Nat} {cs t : Cs} {G : Hd} {Q : D → Hd → Prop} {E : Nat → Hd → Prop}, G[R]? = some (st cs t) → TO cs → t <:+ cs → Pd d t →
    (∀ K r G', bareR (rkP d) t = some (K, r) → G'[R]? = some (st cs r) → Fr [R] G G' → Q K.enc G') → (∀ G', bareR (rkP d) t = none → Fr [R] G G' → E 2 G') → OkX (fn [.ref R] G) Q E
section
variable {P : D → Hd → Prop} {E : Nat → Hd → Prop} {G : Hd} {τ : Sd}
theorem okx_c {v : D} : OkX (eC v τ G) P E = P v G := rfl
theorem okx_var1 {y : Option D} {x : D} : OkX (eVar 1 (y :: some x :: τ) G) P E = P x G := rfl
theorem okx_mk2 {x y : D} : OkX (mkT [x, y] G) P E = P (.tup [x, y]) G := rfl
theorem okx_new1 {x : D} : OkX (newL [x] G) P E = P (.ref G.length) (G ++ [.lst [x]]) := rfl
theorem okx_lst {a : As} : OkX (eLst a τ G) P E = OkX (a τ G) (fun xs G1 => OkX (newL xs G1) P E) E := okx_bnd
end
theorem lit_ob : Str.ofString "[" = Sg [91] := by decide +kernel
theorem lit_cb : Str.ofString "]" = Sg [93] := by decide +kernel
theorem lit_oc : Str.ofString "{" = Sg [123] := by decide +kernel
theorem lit_cc : Str.ofString "}" = Sg [125] := by decide +kernel
theorem to1 {c : Nat} (h : c < 0xd800) : TO [c] := to_lit ⟨by simp, by simpa using h⟩
theorem to_colon : TO [58, 32] := to_lit (by decide)
theorem pd_lo {d : Int} {x t : Cs} (hx : ∀ c ∈ x, wt c = 0) (h : Pd d (x ++ t)) : Pd d t := by
  have := (pd_app.mp h).2
  rwa [ds_zero hx, Int.sub_zero] at this
theorem strip_sfx {w t r cs : Cs} (e : strip w t = some r) (h : t <:+ cs) : r <:+ cs := by
  rw [strip_iff.mp e] at h
  exact sfx_cons h
theorem fieldR_ok {d : Nat} {fn ft fk : Fn} (hn : NmR fn) (hta : TakeOk ft) (hk : RdS d fk) : FdS d (runFn 2 1 (g_TextReader__field fn ft fk)) := by
  intro R cs t G Q E h ht hs hp hy hno
  refine okx_run rfl ?_
  show SkX (g_TextReader__field fn ft fk [some (.ref R), none] G) (rtnX Q E)
  unfold g_TextReader__field
  rw [skx_seq, skx_set, okx_meth h m_name, okx_nil]
  have sp : t.takeWhile isLo ++ t.dropWhile isLo = t := List.takeWhile_append_dropWhile
  have s1 : t.dropWhile isLo <:+ cs := by
    rw [← sp] at hs
    exact sfx_cons hs
  have p1 : Pd d (t.dropWhile isLo) := pd_lo (fun c hc => wt_lo (take_lo t c hc)) (by rw [sp]; exact hp)
  refine okx_of (hn h ht hs fun G1 e1 f1 => ?_)
  simp only [List.set_cons_succ, List.set_cons_zero]
  rw [thn_nx]
  rw [skx_seq, skx_expr, okx_meth e1 m_take, okx_cons, okx_c, okx_nil, lit_colon]
  refine hta e1 ht s1 to_colon (fun r er => ?_) fun er => ?_
  · rw [thn_nx]
    have lt : R < G1.length := (List.getElem?_eq_some_iff.mp e1).1
    have e2 : (G1.set R (st cs r))[R]? = some (st cs r) := get_set e1
    have s2 := strip_sfx er s1
    have p2 : Pd d r := pd_lo (x := [58, 32]) (by decide) (by rw [← strip_iff.mp er]; exact p1)
    have f2 : Fr [R] G (G1.set R (st cs r)) := f1.set (.inr (by simp))
    rw [skx_ret, okx_tup, okx_cons, okx_var1, okx_cons, okx_meth e2 m_kind, okx_nil]
    refine hk e2 ht s2 p2 (fun K r2 G3 eK e3 f3 => ?_) fun G3 eK f3 => ?_
    · rw [okx_nil, okx_mk2, rtnX_rt]
      have er2 : fldR (rdK d) t = some ((toS (t.takeWhile isLo), K), r2) := by
        unfold fldR
        rw [er, Option.bind_some, eK]
        rfl
      have := hy _ _ G3 er2 e3 (f2.trans f3)
      rw [show sg (t.takeWhile isLo) = sl (toS (t.takeWhile isLo)) from sg_toS ((ht.sub hs.sublist).sub (List.takeWhile_sublist _))]
      exact this
    · rw [rtnX_exc]
      refine hno G3 ?_ (f2.trans f3)
      unfold fldR
      rw [er, Option.bind_some, eK]
      rfl
  · rw [thn_exc, rtnX_exc]
    refine hno G1 ?_ f1
    unfold fldR
    rw [er]
    rfl
theorem kindR_ok {d : Nat} {fb fh : Fn} (hb : BrS d fb) (hh : HasOk fh) : RdS d (runFn 2 1 (g_TextReader__kind fb fh)) := by
  intro R cs t G Q E h ht hs hp hy hno
  refine okx_run rfl ?_
  show SkX (g_TextReader__kind fb fh [some (.ref R), none] G) (rtnX Q E)
  unfold g_TextReader__kind
  rw [rdK_kind] at hy hno
  rw [skx_seq, skx_set, okx_meth h m_bare, okx_nil]
  refine hb h ht hs hp (fun K r G1 eK e1 f1 => ?_) fun G1 eK f1 => ?_
  · simp only [List.set_cons_succ, List.set_cons_zero]
    rw [thn_nx]
    have s1 : r <:+ cs := by
      rw [(bareR_sound (rkP_sound d) eK).1] at hs
      exact sfx_cons hs
    rw [skx_ret]
    refine okx_of ?_
    rw [ok_if2]
    simp -implicitDefEqProofs only [↓minrs]
    rw [ok_meth e1 m_has]
    simp -implicitDefEqProofs only [↓minrs, lit_q]
    refine hh e1 ht s1 (to1 (by decide)) (fun r2 er => ?_) fun er => ?_
    · simp -implicitDefEqProofs only [↓minrs, if_true, rtnX_rt]
      refine hy (.opt K) r2 _ ?_ (get_set e1) (f1.set (.inr (by simp)))
      unfold kindR
      rw [eK, Option.map_some]
      unfold optR
      dsimp only
      rw [er]
    · simp -implicitDefEqProofs only [↓minrs, Bool.false_eq_true, if_false, rtnX_rt]
      refine hy K r _ ?_ e1 f1
      unfold kindR
      rw [eK, Option.map_some]
      unfold optR
      dsimp only
      rw [er]
  · rw [thn_exc, rtnX_exc]
    refine hno G1 ?_ f1
    unfold kindR
    rw [eK]
    rfl
theorem pd_open {d : Nat} {c : Nat} {r : Cs} (hc : wt c = 1) (h : Pd d (c :: r)) : ∃ m, d = m + 1 ∧ Pd m r := by
  obtain ⟨h1, h2⟩ := h
  rw [hc] at h1 h2
  refine ⟨d - 1, by omega, ?_⟩
  have : ((d : Nat) : Int) - 1 = ((d - 1 : Nat) : Int) := by omega
  rwa [this] at h2
theorem bareR_ok {d : Nat} {fh fk ft ff fn : Fn} (hh : HasOk fh) (hk : ∀ m, d = m + 1 → RdS m fk) (hta : TakeOk ft) (hf : ∀ m, d = m + 1 → FdS m ff) (hn : NmR fn) : BrS d (runFn 4 1 (g_TextReader__bare fh fk ft ff fn)) := by
  intro R cs t G Q E h ht hs hp hy hno
  refine okx_run rfl ?_
  show SkX (g_TextReader__bare fh fk ft ff fn [some (.ref R), none, none, none] G) (rtnX Q E)
  unfold g_TextReader__bare
  have lR : R < G.length := (List.getElem?_eq_some_iff.mp h).1
  rw [skx_seq]
  refine skx_ifo ?_
  simp -implicitDefEqProofs only [↓minrs]
  rw [ok_meth h m_has]
  simp -implicitDefEqProofs only [↓minrs, lit_ob]
  refine hh h ht hs (to1 (by decide)) (fun r er => ?_) fun er => ?_
  · -- a list
    simp -implicitDefEqProofs only [↓minrs, if_true]
    have s1 := strip_sfx er hs
    have et := strip_iff.mp er
    rw [et] at hp
    obtain ⟨m, rfl, p1⟩ := pd_open (by decide) hp
    have e1 : (G.set R (st cs r))[R]? = some (st cs r) := get_set h
    have f1 : Fr [R] G (G.set R (st cs r)) := Fr.refl.set (.inr (by simp))
    rw [skx_seq, skx_set, okx_tup, okx_cons, okx_c, okx_cons, okx_meth e1 m_kind, okx_nil]
    refine hk m rfl e1 ht s1 p1 (fun K r2 G2 eK e2 f2 => ?_) fun G2 eK f2 => ?_
    · rw [okx_nil, okx_mk2]
      simp only [List.set_cons_succ, List.set_cons_zero]
      rw [thn_nx]
      have s2 : r2 <:+ cs := by
        rw [(rdK_sound m _ _ _ eK).1] at s1
        exact sfx_cons s1
      rw [skx_seq, skx_expr, okx_meth e2 m_take, okx_cons, okx_c, okx_nil, lit_cb]
      refine hta e2 ht s2 (to1 (by decide)) (fun r3 e3 => ?_) fun e3 => ?_
      · rw [thn_nx]
        rw [skx_ret, okx_var1]
        refine hy (.lst K) r3 _ ?_ (get_set e2) ((f1.trans f2).set (.inr (by simp)))
        unfold bareR
        rw [er]
        dsimp only
        rw [show rkP (m + 1) = rdK m from rfl, eK, Option.bind_some]
        dsimp only
        rw [e3]
        rfl
      · refine hno G2 ?_ (f1.trans f2)
        unfold bareR
        rw [er]
        dsimp only
        rw [show rkP (m + 1) = rdK m from rfl, eK, Option.bind_some]
        dsimp only
        rw [e3]
        rfl
    · refine hno G2 ?_ (f1.trans f2)
      unfold bareR
      rw [er]
      dsimp only
      rw [show rkP (m + 1) = rdK m from rfl, eK]
      rfl
  · simp -implicitDefEqProofs only [↓minrs, Bool.false_eq_true, if_false, skx_nil]
    rw [skx_seq]
    refine skx_ifo ?_
    simp -implicitDefEqProofs only [↓minrs]
    rw [ok_meth h m_has]
    simp -implicitDefEqProofs only [↓minrs, lit_oc]
    refine hh h ht hs (to1 (by decide)) (fun r er2 => ?_) fun er2 => ?_
    · -- a record
      simp -implicitDefEqProofs only [↓minrs, if_true]
      have s1 := strip_sfx er2 hs
      have et := strip_iff.mp er2
      rw [et] at hp
      obtain ⟨m, rfl, p1⟩ := pd_open (by decide) hp
      have e1 : (G.set R (st cs r))[R]? = some (st cs r) := get_set h
      have f1 : Fr [R] G (G.set R (st cs r)) := Fr.refl.set (.inr (by simp))
      have br : bareR (rkP (m + 1)) t = (fldR (rdK m) r).bind fun q => (fldsR (rdK m) (q.2.length + 1) [q.1] q.2).bind fun z => (strip [125] z.2).map fun r' => (.rcd (Fs.of z.1), r') := by
        unfold bareR
        rw [er]
        dsimp only
        rw [er2]
        rfl
      rw [br] at hy hno
      rw [skx_seq, skx_set, okx_lst, okx_cons, okx_meth e1 m_field, okx_nil]
      have pdf : ∀ {u r' : Cs} {q : String × Ty2}, Pd m u → fldR (rdK m) u = some (q, r') → Pd m r' ∧ (u <:+ cs → r' <:+ cs) ∧ r'.length ≤ u.length := fun {u r' q} hu e => by
        obtain ⟨h1, h2, h3⟩ := fldR_sound (rdK_sound m) e
        have : u = (nmL q.1 ++ 58 :: 32 :: q.2.sh) ++ r' := by rw [h1]; simp
        refine ⟨?_, fun hs => ?_, ?_⟩
        · rw [this] at hu
          have h4 := (pd_app.mp hu).2
          have : ds (nmL q.1 ++ 58 :: 32 :: q.2.sh) = 0 := by
            rw [ds_app, ds_zero fun c hc => wt_lo (h2 c hc), ds_cons, ds_cons, Ty2.ds_sh _ h3]
            decide
          rwa [this, Int.sub_zero] at h4
        · rw [this] at hs
          exact sfx_cons hs
        · rw [this, List.length_append]
          omega
      refine hf m rfl e1 ht s1 p1 (fun q r2 G2 eq e2 f2 => ?_) fun G2 eq f2 => ?_
      · obtain ⟨p2, s2, l2⟩ := pdf p1 eq
        have s2 := s2 s1
        rw [eq, Option.bind_some] at hy hno
        dsimp only at hy hno
        rw [okx_nil, okx_new1, thn_nx]
        simp only [List.set_cons_succ, List.set_cons_zero]
        have f02 : Fr [R] G G2 := f1.trans f2
        have lR2 : R < G2.length := (List.getElem?_eq_some_iff.mp e2).1
        have nR : G2.length ≠ R := by omega
        rw [skx_seq, skx_while]
        refine whilex_inv (fun n σ G3 => ∃ (fs : List (String × Ty2)) (u : Cs) (k : Nat), n = u.length ∧ σ = [some (.ref R), none, some (.ref G2.length), none] ∧ fldsR (rdK m) (r2.length + 1) [q] r2 = fldsR (rdK m) k fs u ∧ u.length < k ∧ fs.length + u.length ≤ r2.length + 1 ∧ u <:+ cs ∧ Pd m u ∧
          G3[R]? = some (st cs u) ∧ G3[G2.length]? = some (.lst (fs.map fe)) ∧ Fr [R] G2 G3) ?_ r2.length _ _ ⟨[q], r2, r2.length + 1, rfl, rfl, rfl, by omega, by rw [List.length_singleton]; omega, s2, p2, get_app e2, get_new, Fr.refl.app⟩
        rintro n σ G3 ⟨fs, u, k, rfl, rfl, ef, hk1, hfl, su, pu, e3, l3, f3⟩
        obtain ⟨k, rfl⟩ : ∃ k', k = k' + 1 := ⟨k - 1, by omega⟩
        simp -implicitDefEqProofs only [↓minrs]
        rw [ok_meth e3 m_has]
        simp -implicitDefEqProofs only [↓minrs, lit_comma]
        refine hh e3 ht su to_comma (fun r4 e4 => ?_) fun e4 => ?_
        · simp -implicitDefEqProofs only [↓minrs, if_true]
          unfold g_TextReader__bare_f1
          have s4 := strip_sfx e4 su
          have eu := strip_iff.mp e4
          have p4 : Pd m r4 := pd_lo (x := [44, 32]) (by decide) (by rw [← eu]; exact pu)
          have e4' : (G3.set R (st cs r4))[R]? = some (st cs r4) := get_set e3
          have l4 : (G3.set R (st cs r4))[G2.length]? = some (.lst (fs.map fe)) := get_set_ne l3 nR.symm
          have f4 : Fr [R] G2 (G3.set R (st cs r4)) := f3.set (.inr (by simp))
          have ef2 : fldsR (rdK m) (k + 1) fs u = (fldR (rdK m) r4).bind fun q => fldsR (rdK m) k (fs ++ [q.1]) q.2 := by
            rw [fldsR, e4]
          rw [ef2] at ef
          have lu : u.length = r4.length + 2 := by rw [eu]; simp
          rw [skx_expr, okx_ml]
          show (if isL (G3.set R (st cs r4)) (.ref G2.length) = true then _ else False)
          rw [isL_ref l4, if_pos rfl, okx_meth e4' m_field, okx_nil]
          refine hf m rfl e4' ht s4 p4 (fun q5 r5 G5 e5 e5' f5 => ?_) fun G5 e5 f5 => ?_
          · obtain ⟨p6, s6, l6⟩ := pdf p4 e5
            rw [e5, Option.bind_some] at ef
            have l5 := f5.at l4 (by simpa using nR)
            refine okx_of ?_
            rw [ok_append l5 (by rw [List.length_map, sizeLine_val]; have := su.length_le; have := ht.len; have := s2.length_le; omega)]
            refine ⟨r5.length, by omega, fs ++ [q5], r5, k, rfl, rfl, ef, by omega, by simp; omega, s6 s4, p6, get_set_ne e5' nR, ?_, (f4.trans f5).set (.inl (Nat.le_refl _))⟩
            rw [List.map_append]
            exact get_set l5
          · rw [e5] at ef
            show E 2 G5
            refine hno G5 ?_ (f02.trans (f4.trans f5))
            rw [ef]
            rfl
        · simp -implicitDefEqProofs only [↓minrs, Bool.false_eq_true, if_false]
          have ef2 : fldsR (rdK m) (k + 1) fs u = some (fs, u) := by rw [fldsR, e4]
          rw [ef2] at ef
          rw [ef, Option.bind_some] at hy hno
          dsimp only at hy hno
          rw [skx_seq, skx_expr, okx_meth e3 m_take, okx_cons, okx_c, okx_nil, lit_cc]
          refine hta e3 ht su (to1 (by decide)) (fun r5 e5 => ?_) fun e5 => ?_
          · rw [thn_nx]
            have l5 : (G3.set R (st cs r5))[G2.length]? = some (.lst (fs.map fe)) := get_set_ne l3 nR.symm
            rw [skx_ret]
            refine okx_of ?_
            simp -implicitDefEqProofs only [↓minrs, ↓ok_tuple_ref l5, rtnX_rt]
            have := hy (.rcd (Fs.of fs)) r5 _ (by rw [e5]; rfl) (get_set e3) ((f02.trans f3).set (.inr (by simp)))
            rw [Ty2.enc, Fs.of_enc] at this
            exact this
          · refine hno G3 ?_ (f02.trans f3)
            rw [e5]
            rfl
      · refine hno G2 ?_ (f1.trans f2)
        rw [eq]
        rfl
    · -- a leaf
      simp -implicitDefEqProofs only [↓minrs, Bool.false_eq_true, if_false, skx_nil]
      have br : bareR (rkP d) t = (leafOf (t.takeWhile isLo)).map fun k => (.leaf k, t.dropWhile isLo) := by
        unfold bareR
        rw [er]
        dsimp only
        rw [er2]
      rw [br] at hy hno
      rw [skx_seq, skx_set, okx_meth h m_name, okx_nil]
      refine okx_of (hn h ht hs fun G1 e1 f1 => ?_)
      simp only [List.set_cons_succ, List.set_cons_zero]
      rw [thn_nx]
      have tw : TO (t.takeWhile isLo) := (ht.sub hs.sublist).sub (List.takeWhile_sublist _)
      have inl : ∀ (P : D → Hd → Prop) (G : Hd), Ok (cNotIn (sg (t.takeWhile isLo)) c_LEAVES G) P = P (.bl (!(leafOf (t.takeWhile isLo)).isSome)) G := fun P G => notIn_of fun P => ok_in_leaves tw
      rw [skx_seq]
      refine skx_ifo ?_
      simp -implicitDefEqProofs only [↓minrs, ↓inl]
      cases el : leafOf (t.takeWhile isLo) with
      | none =>
        simp only [Option.isSome_none, Bool.not_false, if_true, skx_raise]
        refine hno G1 ?_ f1
        rw [el]
        rfl
      | some k =>
        simp only [Option.isSome_some, Bool.not_true, Bool.false_eq_true, if_false, skx_nil]
        rw [thn_nx]
        rw [skx_ret]
        refine okx_of ?_
        simp -implicitDefEqProofs only [↓minrs, rtnX_rt]
        have := hy (.leaf k) _ G1 (by rw [el]; rfl) e1 f1
        rw [leafOf_eq el]
        rw [show sg (nmL k.s) = sl k.s from (sl_nm _).symm]
        exact this
end D2
end
section
set_option linter.all false
set_option autoImplicit false
set_option maxRecDepth 100000
namespace D2
open PySem L2
theorem Fs.enc_fe (f : Fs) : f.enc = f.l.map fe := Fs.enc_l f
def addN (ns : List Str) (x : Str) : List Str := if x ∈ ns then ns else ns ++ [x]
theorem addN_nodup {ns : List Str} {x : Str} (h : ns.Nodup) : (addN ns x).Nodup := by
  unfold addN
  split
  · exact h
  · rename_i hx
    rw [List.nodup_append]
    exact ⟨h, by simp, fun a ha b hb => by simp at hb; subst hb; rintro rfl; exact hx ha⟩
theorem addN_len : ∀ (xs ns : List Str), ns.Nodup → (xs.foldl addN ns).length ≤ ns.length + xs.length ∧ ((xs.foldl addN ns).length = ns.length + xs.length ↔ (ns ++ xs).Nodup)
  | [], ns, h => by simpa using h
  | x :: xs, ns, h => by
    obtain ⟨h1, h2⟩ := addN_len xs (addN ns x) (addN_nodup h)
    rw [List.foldl_cons]
    unfold addN at h1 h2 ⊢
    by_cases hx : x ∈ ns
    · rw [if_pos hx] at h1 h2 ⊢
      refine ⟨by rw [List.length_cons]; omega, ⟨fun e => by rw [List.length_cons] at e; omega, fun e => ?_⟩⟩
      rw [List.nodup_append] at e
      exact (e.2.2 x hx x (List.mem_cons_self ..) rfl).elim
    · rw [if_neg hx] at h1 h2 ⊢
      rw [List.length_append, List.length_singleton] at h1 h2
      rw [List.length_cons]
      refine ⟨by omega, ?_⟩
      rw [show ns.length + (xs.length + 1) = ns.length + 1 + xs.length by omega, h2, List.append_assoc]
      rfl
theorem dput_keys {kvs : List (D × D)} {ns : List Str} {x : Str} {v : D} (h : kvs.map (·.1) = ns.map D.str) : (dput kvs (.inr x) (.str x) v).map (·.1) = (addN ns x).map D.str ∧ (dput kvs (.inr x) (.str x) v).length = (addN ns x).length := by
  have hl : kvs.length = ns.length := by have := congrArg List.length h; simpa using this
  have ha : (kvs.any fun kv => decide (dkey kv.1 = some (.inr x))) = true ↔ x ∈ ns := by
    have : (kvs.any fun kv => decide (dkey kv.1 = some (.inr x))) = ((kvs.map (·.1)).any fun d => decide (dkey d = some (.inr x))) := by rw [List.any_map]; rfl
    rw [this, h, List.any_map, List.any_eq_true]
    constructor
    · rintro ⟨y, hy, e⟩
      have : dkey (.str y) = some (.inr x) := of_decide_eq_true e
      cases this
      exact hy
    · intro hx
      exact ⟨x, hx, decide_eq_true rfl⟩
  have hm : ∀ (kvs : List (D × D)), (kvs.map fun kv => if dkey kv.1 = some (.inr x) then (kv.1, v) else kv).map (·.1) = kvs.map (·.1) := fun kvs => by
    rw [List.map_map]
    apply List.map_congr_left
    intro kv _
    dsimp only [Function.comp]
    split <;> rfl
  unfold dput addN
  by_cases hx : x ∈ ns
  · rw [if_pos (ha.mpr hx), if_pos hx]
    exact ⟨by rw [hm, h], by rw [List.length_map, hl]⟩
  · rw [if_neg (fun e => hx (ha.mp e)), if_neg hx]
    exact ⟨by rw [List.map_append, List.map_append, h]; rfl, by rw [List.length_append, List.length_append, hl]; rfl⟩
theorem dc_go {σ0 : Sd} {A : Nat} {Pu : Unit → Hd → Prop} (h2 : 2 ≤ σ0.length) : ∀ (qs : List (String × Ty2)) (kvs : List (D × D)) (ns : List Str) (G : Hd), kvs.map (·.1) = ns.map D.str → ns.length + qs.length ≤ 1000 → G[A]? = some (.dic kvs) →
    (∀ kvs' G', kvs'.length = ((qs.map fun q => Str.ofString q.1).foldl addN ns).length → G'[A]? = some (.dic kvs') → Fr [A] G G' → Pu () G') →
    Ok (dcGo (D2.gName 1) (eOp2 atD (eVar 1) (eC (.int 0))) (eC (.bl true)) σ0 A (qs.map fe) G) Pu
  | [], kvs, ns, G, hk, hl, e, hq => by
    have hlen : kvs.length = ns.length := by have := congrArg List.length hk; simpa using this
    exact hq kvs G hlen e .refl
  | q :: qs, kvs, ns, G, hk, hl, e, hq => by
    have hlen : kvs.length = ns.length := by have := congrArg List.length hk; simpa using this
    obtain ⟨y0, y1, τ, rfl⟩ : ∃ y0 y1 τ, σ0 = y0 :: y1 :: τ := by
      match σ0, h2 with
      | y0 :: y1 :: τ, _ => exact ⟨y0, y1, τ, rfl⟩
    rw [List.length_cons] at hl
    have e1 : (eOp2 atD (eVar 1) (eC (.int 0))) (y0 :: some (fe q) :: τ) G = some (.ok (sl q.1), G) := rfl
    obtain ⟨hk2, hl2⟩ := dput_keys (x := Str.ofString q.1) (v := .bl true) hk
    have key : Ok (dcGo (D2.gName 1) (eOp2 atD (eVar 1) (eC (.int 0))) (eC (.bl true)) (y0 :: y1 :: τ) A (qs.map fe) (G.set A (.dic (dput kvs (.inr (Str.ofString q.1)) (sl q.1) (.bl true))))) Pu := by
      refine dc_go h2 qs _ (addN ns (Str.ofString q.1)) _ hk2 ?_ (get_set e) fun kvs' G' h3 h4 h5 => hq kvs' G' h3 h4 ((Fr.refl.set (.inr (by simp))).trans h5)
      unfold addN
      split
      · omega
      · rw [List.length_append, List.length_singleton]
        omega
    have : dcGo (D2.gName 1) (eOp2 atD (eVar 1) (eC (.int 0))) (eC (.bl true)) (y0 :: y1 :: τ) A ((q :: qs).map fe) G = dcGo (D2.gName 1) (eOp2 atD (eVar 1) (eC (.int 0))) (eC (.bl true)) (y0 :: y1 :: τ) A (qs.map fe) (G.set A (.dic (dput kvs (.inr (Str.ofString q.1)) (sl q.1) (.bl true)))) := by
      rw [List.map_cons, dcGo]
      show (match (eOp2 atD (eVar 1) (eC (.int 0))) (y0 :: some (fe q) :: τ) G with
        | some (.ok d, G2) => match dkey d with
          | some k => match (eC (.bl true)) (y0 :: some (fe q) :: τ) G2 with
            | some (.ok v, G3) => match G3[A]? with
              | some (.dic kvs) => if kvs.length < sizeLine then dcGo (D2.gName 1) (eOp2 atD (eVar 1) (eC (.int 0))) (eC (.bl true)) (y0 :: y1 :: τ) A (qs.map fe) (G3.set A (.dic (dput kvs k d v))) else none
              | _ => none
            | _ => none
          | none => none
        | _ => none) = _
      rw [e1]
      dsimp only [dkey]
      show (match G[A]? with
              | some (.dic kvs) => if kvs.length < sizeLine then dcGo (D2.gName 1) (eOp2 atD (eVar 1) (eC (.int 0))) (eC (.bl true)) (y0 :: y1 :: τ) A (qs.map fe) (G.set A (.dic (dput kvs (.inr (Str.ofString q.1)) (sl q.1) (.bl true)))) else none
              | _ => none) = _
      rw [e]
      dsimp only
      rw [if_pos (by rw [sizeLine_val]; omega)]
    rw [this]
    exact key
section
variable {P : D → Hd → Prop} {G : Hd}
theorem ok_dc {f : Fs} {y : Option D} (hl : f.l.length ≤ 1000) (hq : ∀ kvs G', kvs.length = ((f.l.map fun q => Str.ofString q.1).foldl addN []).length → G'[G.length]? = some (.dic kvs) → Fr [] G G' → P (.ref G.length) G') :
    Ok (eDc [1] (eVar 0) (D2.gName 1) (eOp2 atD (eVar 1) (eC (.int 0))) (eC (.bl true)) [some (.tup f.enc), y] G) P := by
  unfold eDc
  rw [ok_bnd, ok_var0]
  unfold dcOf
  dsimp only
  rw [ok_bnd, Fs.enc_fe]
  refine dc_go (by simp [wipeD]) f.l [] [] _ rfl (by simpa using hl) get_new fun kvs G' h1 h2 h3 => ?_
  refine hq kvs G' h1 h2 ⟨Nat.le_trans (by simp) h3.len, fun i hi _ => ?_⟩
  rw [h3.get i (by simp; omega) (by simp; omega), List.getElem?_append_left hi]
theorem ok_lenK {A : Nat} {kvs : List (D × D)} (h : G[A]? = some (.dic kvs)) : Ok (fLenK (.ref A) G) P = P (.int kvs.length) G := by
  unfold fLenK
  dsimp only
  rw [h] <;> rfl
end
theorem ofStr_inj {a b : String} (h : Str.ofString a = Str.ofString b) : a = b := ofString_inj.mp h
theorem nodup_ofS {xs : List String} : (xs.map Str.ofString).Nodup ↔ xs.Nodup := by
  induction xs with
  | nil => simp
  | cons x xs ih =>
    rw [List.map_cons, List.nodup_cons, List.nodup_cons, ih]
    refine and_congr_left fun _ => not_congr ?_
    constructor
    · intro h
      obtain ⟨y, hy, e⟩ := List.mem_map.mp h
      rwa [ofStr_inj e] at hy
    · exact fun h => List.mem_map.mpr ⟨x, h, rfl⟩
def FsGood (f : Fs) : Prop := (1 ≤ f.names.length ∧ f.names.length ≤ 8) ∧ (∀ q ∈ f.l, NmOk q.1) ∧ f.names.Nodup
def AfOk (fn : Fn) : Prop := ∀ {f : Fs} {G : Hd} {P : D → Hd → Prop}, f.fsh.length ≤ sizeLine → (∀ (b : Bool) (G' : Hd), (b = true ↔ FsGood f) → Fr [] G G' → P (.bl b) G') → Ok (fn [.tup f.enc] G) P
def g_are_fields (fis_name : Fn) : S :=
  (sSeq (sIf (tOr (tNot (tTru (eOp1 (fIsTy .tuple) (eVar 0)))) (tNot (tBl (eChain cLe cLe (eC (.int 1)) (eOp1 fLen (eVar 0)) (eC c_MOST_FIELDS)))))
    (sRet (eC (.bl false)))
    sNil)
  (sSeq (sIf (tNot (tTru (eOp1 fAll (eLc [1] (iOf (eVar 0)) (gName 1) tYes (eAnd (eOp1 (fIsTy .tuple) (eVar 1)) (eAnd (eOp2 cEq (eOp1 fLen (eVar 1)) (eC (.int 2))) (eCall fis_name (aCons (eOp2 atD (eVar 1) (eC (.int 0))) aNil))))))))
    (sRet (eC (.bl false)))
    sNil)
  (sRet (eOp2 cEq (eOp1 fLenK (eDc [1] (eVar 0) (gName 1) (eOp2 atD (eVar 1) (eC (.int 0))) (eC (.bl true)))) (eOp1 fLen (eVar 0))))))
theorem areFields_ok {fi : Fn} (hi : IsN fi) : AfOk (runFn 2 1 (g_are_fields fi)) := by
  intro f G P hs hq
  refine ok_run rfl ?_
  show Sk (g_are_fields fi [some (.tup f.enc), none] G) (rtn P)
  unfold g_are_fields c_MOST_FIELDS
  have ch : ∀ (P : D → Hd → Prop), Ok (eChain cLe cLe (eC (.int 1)) (eOp1 fLen (eVar 0)) (eC (.int 8)) [some (.tup f.enc), none] G) P = P (.bl (decide (1 ≤ f.names.length ∧ f.names.length ≤ 8))) G := fun P => by
    rw [ok_chain_le (n := f.names.length) fun Q => by rw [ok_op1, ok_var0, ok_len_tup, Fs.length_enc]]
    congr 2
    rw [decide_eq_decide]
    omega
  have no : ∀ G', ¬ FsGood f → Fr [] G G' → P (.bl false) G' := fun G' h f' => hq false G' ⟨fun e => (by cases e), fun e => (h e).elim⟩ f'
  simp -implicitDefEqProofs only [↓minrs]
  rw [sk_if]
  simp -implicitDefEqProofs only [↓minrs, ↓ty_int_non, ↓ty_int_bl, ↓ty_int_int, ↓ty_int_str, ↓ty_int_tup, ↓ty_bool_non, ↓ty_bool_bl, ↓ty_bool_int, ↓ty_bool_str, ↓ty_bool_tup, ↓ty_str_non, ↓ty_str_bl, ↓ty_str_int, ↓ty_str_str, ↓ty_str_tup, ↓ty_tuple_non, ↓ty_tuple_bl, ↓ty_tuple_int, ↓ty_tuple_str, ↓ty_tuple_tup, ↓ty_list_non, ↓ty_list_bl, ↓ty_list_int, ↓ty_list_str, ↓ty_list_tup, ↓ty_dict_non, ↓ty_dict_bl, ↓ty_dict_int, ↓ty_dict_str, ↓ty_dict_tup, ↓ch, Bool.not_true, Bool.false_eq_true, if_false]
  by_cases c : 1 ≤ f.names.length ∧ f.names.length ≤ 8
  · have l8 : f.l.length ≤ 8 := by rw [Fs.l_length]; exact c.2
    simp -implicitDefEqProofs only [decide_eq_true c, Bool.not_true, Bool.false_eq_true, if_false, ↓minrs]
    rw [sk_if]
    simp -implicitDefEqProofs only [↓minrs]
    refine lc_fun (f.l.map fun q => .bl (@decide (NmOk q.1) (Classical.propDecidable _))) (by rw [List.length_map, sizeLine_val]; omega) (fun G1 _ => by rw [it_seq, Fs.enc_fe, List.getElem?_eq_none (by rw [List.length_map, List.length_map]; exact Nat.le_refl _)]) (fun i z G1 hz f1 => ?_) fun G1 e1 f1 => ?_
    · rw [List.getElem?_map] at hz
      obtain ⟨q, hb, rfl⟩ := Option.map_eq_some_iff.mp hz
      refine ⟨fe q, by rw [it_seq, Fs.enc_fe, List.getElem?_map, hb]; rfl, ?_⟩
      have dq := Fs.sh_mem (List.mem_of_getElem? hb)
      simp -implicitDefEqProofs only [wipeD, List.set_cons_zero, List.set_cons_succ, ↓mirs, ↓ty_int_non, ↓ty_int_bl, ↓ty_int_int, ↓ty_int_str, ↓ty_int_tup, ↓ty_bool_non, ↓ty_bool_bl, ↓ty_bool_int, ↓ty_bool_str, ↓ty_bool_tup, ↓ty_str_non, ↓ty_str_bl, ↓ty_str_int, ↓ty_str_str, ↓ty_str_tup, ↓ty_tuple_non, ↓ty_tuple_bl, ↓ty_tuple_int, ↓ty_tuple_str, ↓ty_tuple_tup, ↓ty_list_non, ↓ty_list_bl, ↓ty_list_int, ↓ty_list_str, ↓ty_list_tup, ↓ty_dict_non, ↓ty_dict_bl, ↓ty_dict_int, ↓ty_dict_str, ↓ty_dict_tup, len_2, decide_true, if_true]
      rw [sl_nm q.1]
      refine hi (by omega) fun b G2 hb f2 => ?_
      rw [← nmOk_low] at hb
      refine ⟨?_, f2⟩
      congr 1
      rw [Bool.eq_iff_iff, hb, @decide_eq_true_iff _ (Classical.propDecidable _)]
    · have bls := bls_map (fun q : String × Ty2 => @decide (NmOk q.1) (Classical.propDecidable _)) f.l
      simp -implicitDefEqProofs only [↓minrs, ↓ok_all e1 bls]
      cases ha : (f.l.map fun q : String × Ty2 => @decide (NmOk q.1) (Classical.propDecidable _)).all id with
      | false =>
        simp -implicitDefEqProofs only [Bool.not_false, if_true, ↓minrs]
        refine no G1 (fun h => ?_) f1
        rw [Bool.eq_false_iff] at ha
        refine ha ?_
        rw [List.all_map, List.all_eq_true]
        intro q hq
        exact @decide_eq_true _ (Classical.propDecidable _) (h.2.1 q hq)
      | true =>
        have nms : ∀ q ∈ f.l, NmOk q.1 := fun q hq => by
          rw [List.all_map, List.all_eq_true] at ha
          exact @of_decide_eq_true _ (Classical.propDecidable _) (ha q hq)
        simp -implicitDefEqProofs only [Bool.not_true, Bool.false_eq_true, if_false, ↓minrs]
        refine ok_dc (by omega) fun kvs G2 hk e2 f2 => ?_
        simp -implicitDefEqProofs only [↓minrs, ↓ok_lenK e2]
        refine hq _ G2 ?_ (f1.trans f2)
        rw [decide_eq_true_eq, Fs.length_enc]
        have hadd := (addN_len (f.l.map fun q => Str.ofString q.1) [] List.nodup_nil).2
        have en : (f.l.map fun q => Str.ofString q.1) = f.names.map Str.ofString := by rw [Fs.names_l, List.map_map]; rfl
        rw [en] at hk hadd
        rw [List.nil_append, List.length_map, List.length_nil, Nat.zero_add, nodup_ofS] at hadd
        rw [hk]
        constructor
        · intro h
          exact ⟨c, nms, hadd.mp (by omega)⟩
        · intro h
          have := hadd.mpr h.2.2
          omega
  · simp -implicitDefEqProofs only [decide_eq_false c, Bool.not_false, if_true, ↓minrs]
    exact no G (fun h => c h.1) .refl
end D2
end
section
set_option linter.all false
set_option autoImplicit false
set_option maxRecDepth 100000
namespace D2
open PySem L2
section
variable {P : D → Hd → Prop} {G : Hd}
theorem cutD_to {xs : List D} {k : Nat} : cutD xs none (some (k : Int)) = xs.take k := by
  unfold cutD
  rw [HT.sIx_none, HT.sIx_nat, List.drop_zero, Nat.sub_zero]
  by_cases h : k ≤ xs.length
  · rw [Nat.min_eq_left h]
  · rw [Nat.min_eq_right (by omega), List.take_length, List.take_of_length_le (by omega)]
end
end D2
end
section
set_option linter.all false
set_option autoImplicit false
set_option maxRecDepth 100000
namespace D2
open PySem L2
section
variable {P : D → Hd → Prop} {G : Hd}
theorem py_one (s : String) : pyD 64 G (.tup [sl s]) = some (.tuple [.str (Str.ofString s)]) := by
  show (pyL (pyD 63 G) [sl s]).map PyData.tuple = _
  have : pyD 63 G (sl s) = some (.str (Str.ofString s)) := by
    show (if PyData.strOk (Str.ofString s) = true then some (PyData.str (Str.ofString s)) else none) = _
    rw [if_pos (strOk_sl _)]
  unfold pyL
  rw [this]
  rfl
theorem ok_ne_one {a b : String} : Ok (cNe (.tup [sl a]) (.tup [sl b]) G) P = P (.bl (!decide (a = b))) G := by
  unfold cNe
  rw [py_one, py_one]
  show P (.bl (!PyData.eqv _ _)) G = _
  congr 3
  simp only [PyData.eqv, PyData.eqvAll, Bool.and_true]
  rw [Bool.eq_iff_iff]
  simp only [beq_iff_eq, decide_eq_true_eq, ofString_inj]
theorem ok_slH {t : Ty2} : Ok (slD t.enc none (some 1) G) P = P (.tup [sl t.hd]) G := by
  have : ∀ xs : List D, cutD xs none (some 1) = xs.take 1 := fun xs => cutD_to (k := 1)
  cases t <;> (unfold Ty2.enc; show P (.tup (cutD _ none (some 1))) G = _; rw [this]; rfl)
end
def Pts (t : Ty2) (ts : List Ty2) : Prop := match t with
  | .leaf _ => ts = []
  | .lst u => ts = [u]
  | .opt u => ts = [u]
  | .rcd f => FsGood f ∧ ts = f.l.map (·.2)
def PtsOk (fn : Fn) : Prop := ∀ {t : Ty2} {G : Hd} {P : D → Hd → Prop}, t.sml → t.sh.length ≤ sizeLine → (∀ (ts : List Ty2) (r : Nat) (G' : Hd), Pts t ts → G'[r]? = some (.lst (ts.map Ty2.enc)) → G.length ≤ r → Fr [] G G' → P (.ref r) G') →
    (∀ G', (∀ ts, ¬ Pts t ts) → Fr [] G G' → P .non G') → Ok (fn [t.enc] G) P
def g_parts_of (fare_fields : Fn) : S :=
  (sSeq (sIf (tOr (tNot (tTru (eOp1 (fIsTy .tuple) (eVar 0)))) (tOr (tNot (tTru (eVar 0))) (tNot (tTru (eOp1 (fIsTy .str) (eOp2 atD (eVar 0) (eC (.int 0))))))))
    (sRet (eC .non))
    sNil)
  (sSeq (sIf (tAnd (tBl (eOp2 cIn (eOp2 atD (eVar 0) (eC (.int 0))) (eC c_LEAVES))) (tBl (eOp2 cEq (eOp1 fLen (eVar 0)) (eC (.int 1)))))
    (sRet (eLst aNil))
    sNil)
  (sSeq (sIf (tBl (eOp2 cNe (eOp1 fLen (eVar 0)) (eC (.int 2))))
    (sRet (eC .non))
    sNil)
  (sSeq (sIf (tAnd (tBl (eOp2 cEq (eOp2 atD (eVar 0) (eC (.int 0))) (eC (.str (Str.ofString "rec"))))) (tTru (eCall fare_fields (aCons (eOp2 atD (eVar 0) (eC (.int 1))) aNil))))
    (sRet (eLc [1] (iOf (eOp2 atD (eVar 0) (eC (.int 1)))) (gName 1) tYes (eOp2 atD (eVar 1) (eC (.int 1)))))
    sNil)
  (sSeq (sIf (tBl (eOp2 cEq (eOp2 atD (eVar 0) (eC (.int 0))) (eC (.str (Str.ofString "list")))))
    (sRet (eLst (aCons (eOp2 atD (eVar 0) (eC (.int 1))) aNil)))
    sNil)
  (sSeq (sIf (tAnd (tBl (eOp2 cEq (eOp2 atD (eVar 0) (eC (.int 0))) (eC (.str (Str.ofString "opt"))))) (tAnd (tTru (eOp1 (fIsTy .tuple) (eOp2 atD (eVar 0) (eC (.int 1))))) (tBl (eOp2 cNe (eSl (eOp2 atD (eVar 0) (eC (.int 1))) oNone (oSome (eC (.int 1)))) (eTup (aCons (eC (.str (Str.ofString "opt"))) aNil))))))
    (sRet (eLst (aCons (eOp2 atD (eVar 0) (eC (.int 1))) aNil)))
    sNil)
  (sRet (eC .non))))))))
theorem partsOf_ok {fa : Fn} (ha : AfOk fa) : PtsOk (runFn 2 1 (g_parts_of fa)) := by
  intro t G P hs hl hy hno
  refine ok_run rfl ?_
  show Sk (g_parts_of fa [some t.enc, none] G) (rtn P)
  unfold g_parts_of c_LEAVES
  cases t with
  | leaf k =>
    have e1 : ∀ (P : D → Hd → Prop) (G : Hd), Ok (cIn (sl k.s) (.tup [.str (Str.ofString "int"), .str (Str.ofString "text"), .str (Str.ofString "bool")]) G) P = P (.bl true) G := fun P G => by
      show Ok (cIn (sl k.s) (.tup [sl "int", sl "text", sl "bool"]) G) P = _
      rw [ok_in_lit3]
      cases k <;> rfl
    simp -implicitDefEqProofs only [Ty2.enc, ↓mirs, ↓ty_int_non, ↓ty_int_bl, ↓ty_int_int, ↓ty_int_str, ↓ty_int_tup, ↓ty_bool_non, ↓ty_bool_bl, ↓ty_bool_int, ↓ty_bool_str, ↓ty_bool_tup, ↓ty_str_non, ↓ty_str_bl, ↓ty_str_int, ↓ty_str_str, ↓ty_str_tup, ↓ty_tuple_non, ↓ty_tuple_bl, ↓ty_tuple_int, ↓ty_tuple_str, ↓ty_tuple_tup, ↓ty_list_non, ↓ty_list_bl, ↓ty_list_int, ↓ty_list_str, ↓ty_list_tup, ↓ty_dict_non, ↓ty_dict_bl, ↓ty_dict_int, ↓ty_dict_str, ↓ty_dict_tup, ↓e1, len_1, List.isEmpty_cons, Bool.not_false, Bool.not_true, Bool.false_eq_true, if_false, if_true, decide_true]
    exact hy [] G.length _ rfl get_new (Nat.le_refl _) Fr.refl.app
  | lst t =>
    have e1 : ∀ (P : D → Hd → Prop) (G : Hd), Ok (cIn (sl "list") (.tup [.str (Str.ofString "int"), .str (Str.ofString "text"), .str (Str.ofString "bool")]) G) P = P (.bl false) G := fun P G => by
      show Ok (cIn (sl "list") (.tup [sl "int", sl "text", sl "bool"]) G) P = _
      rw [ok_in_lit3]
      rfl
    simp -implicitDefEqProofs only [Ty2.enc, ↓mirs, ↓ty_int_non, ↓ty_int_bl, ↓ty_int_int, ↓ty_int_str, ↓ty_int_tup, ↓ty_bool_non, ↓ty_bool_bl, ↓ty_bool_int, ↓ty_bool_str, ↓ty_bool_tup, ↓ty_str_non, ↓ty_str_bl, ↓ty_str_int, ↓ty_str_str, ↓ty_str_tup, ↓ty_tuple_non, ↓ty_tuple_bl, ↓ty_tuple_int, ↓ty_tuple_str, ↓ty_tuple_tup, ↓ty_list_non, ↓ty_list_bl, ↓ty_list_int, ↓ty_list_str, ↓ty_list_tup, ↓ty_dict_non, ↓ty_dict_bl, ↓ty_dict_int, ↓ty_dict_str, ↓ty_dict_tup, ↓e1, len_2, List.isEmpty_cons, Bool.not_false, Bool.not_true, Bool.false_eq_true, if_false, if_true, decide_true, decide_false, String.reduceEq]
    exact hy [t] G.length _ rfl get_new (Nat.le_refl _) Fr.refl.app
  | opt t =>
    have e1 : ∀ (P : D → Hd → Prop) (G : Hd), Ok (cIn (sl "opt") (.tup [.str (Str.ofString "int"), .str (Str.ofString "text"), .str (Str.ofString "bool")]) G) P = P (.bl false) G := fun P G => by
      show Ok (cIn (sl "opt") (.tup [sl "int", sl "text", sl "bool"]) G) P = _
      rw [ok_in_lit3]
      rfl
    have hd0 : ∀ (P : D → Hd → Prop) (G : Hd), Ok (fIsTy .tuple t.enc G) P = P (.bl true) G := fun P G => by cases t <;> rfl
    have no : ∀ (P : D → Hd → Prop) (G : Hd), Ok (cNe (.tup [sl t.hd]) (.tup [.str (Str.ofString "opt")]) G) P = P (.bl true) G := fun P G => by
      show Ok (cNe (.tup [sl t.hd]) (.tup [sl "opt"]) G) P = _
      rw [ok_ne_one, hd_opt, hs.2]
      rfl
    simp -implicitDefEqProofs only [Ty2.enc, ↓mirs, ↓ty_int_non, ↓ty_int_bl, ↓ty_int_int, ↓ty_int_str, ↓ty_int_tup, ↓ty_bool_non, ↓ty_bool_bl, ↓ty_bool_int, ↓ty_bool_str, ↓ty_bool_tup, ↓ty_str_non, ↓ty_str_bl, ↓ty_str_int, ↓ty_str_str, ↓ty_str_tup, ↓ty_tuple_non, ↓ty_tuple_bl, ↓ty_tuple_int, ↓ty_tuple_str, ↓ty_tuple_tup, ↓ty_list_non, ↓ty_list_bl, ↓ty_list_int, ↓ty_list_str, ↓ty_list_tup, ↓ty_dict_non, ↓ty_dict_bl, ↓ty_dict_int, ↓ty_dict_str, ↓ty_dict_tup, ↓e1, ↓hd0, ↓ok_slH, ↓no, len_2, List.isEmpty_cons, Bool.not_false, Bool.not_true, Bool.false_eq_true, if_false, if_true, decide_true, decide_false, String.reduceEq]
    exact hy [t] G.length _ rfl get_new (Nat.le_refl _) Fr.refl.app
  | rcd f =>
    have e1 : ∀ (P : D → Hd → Prop) (G : Hd), Ok (cIn (sl "rec") (.tup [.str (Str.ofString "int"), .str (Str.ofString "text"), .str (Str.ofString "bool")]) G) P = P (.bl false) G := fun P G => by
      show Ok (cIn (sl "rec") (.tup [sl "int", sl "text", sl "bool"]) G) P = _
      rw [ok_in_lit3]
      rfl
    have fl := rcd_sh f
    simp -implicitDefEqProofs only [Ty2.enc, ↓mirs, ↓ty_int_non, ↓ty_int_bl, ↓ty_int_int, ↓ty_int_str, ↓ty_int_tup, ↓ty_bool_non, ↓ty_bool_bl, ↓ty_bool_int, ↓ty_bool_str, ↓ty_bool_tup, ↓ty_str_non, ↓ty_str_bl, ↓ty_str_int, ↓ty_str_str, ↓ty_str_tup, ↓ty_tuple_non, ↓ty_tuple_bl, ↓ty_tuple_int, ↓ty_tuple_str, ↓ty_tuple_tup, ↓ty_list_non, ↓ty_list_bl, ↓ty_list_int, ↓ty_list_str, ↓ty_list_tup, ↓ty_dict_non, ↓ty_dict_bl, ↓ty_dict_int, ↓ty_dict_str, ↓ty_dict_tup, ↓e1, len_2, List.isEmpty_cons, Bool.not_false, Bool.not_true, Bool.false_eq_true, if_false, if_true, decide_true, decide_false, String.reduceEq]
    refine ha (by omega) fun b G1 hb f1 => ?_
    cases b with
    | false =>
      simp -implicitDefEqProofs only [↓mirs, decide_false, String.reduceEq, Bool.false_eq_true, if_false]
      exact hno G1 (fun ts h => Bool.false_ne_true (hb.mpr h.1)) f1
    | true =>
      have g := hb.mp rfl
      have l8 : f.l.length ≤ 8 := by rw [Fs.l_length]; exact g.1.2
      simp -implicitDefEqProofs only [↓mirs, if_true]
      refine lc_fun ((f.l.map (·.2)).map Ty2.enc) (by rw [List.length_map, List.length_map, sizeLine_val]; omega) (fun G1 _ => by rw [it_seq, Fs.enc_fe, List.getElem?_eq_none (by rw [List.length_map, List.length_map, List.length_map]; exact Nat.le_refl _)]) (fun i z G1 hz f1 => ?_) fun G2 e2 f2 => ?_
      · rw [List.getElem?_map, List.getElem?_map] at hz
        obtain ⟨u, hu, rfl⟩ := Option.map_eq_some_iff.mp hz
        obtain ⟨q, hq, rfl⟩ := Option.map_eq_some_iff.mp hu
        refine ⟨fe q, by rw [it_seq, Fs.enc_fe, List.getElem?_map, hq]; rfl, ?_⟩
        simp -implicitDefEqProofs only [wipeD, List.set_cons_zero, List.set_cons_succ, ↓mirs]
        exact ⟨trivial, .refl⟩
      · exact hy _ _ G2 ⟨g, rfl⟩ e2 f1.len (f1.trans f2)
def wE (w : Ty2 × Int) : D := .tup [w.1.enc, .int w.2]
def wsz (ws : List (Ty2 × Int)) : Nat := (ws.map fun w => w.1.sz).sum
def wnl (ws : List (Ty2 × Int)) : Nat := (ws.map fun w => w.1.nl).sum
mutual
theorem Ty2.sz_sh : ∀ t : Ty2, t.sz ≤ t.sh.length
  | .leaf k => by rw [Ty2.sz, Ty2.sh]; cases k <;> decide
  | .lst t => by
    have := Ty2.sz_sh t
    rw [Ty2.sz, Ty2.sh]
    simp only [List.length_cons, List.length_append, List.length_nil]
    omega
  | .opt t => by
    have := Ty2.sz_sh t
    rw [Ty2.sz, Ty2.sh]
    simp only [List.length_cons, List.length_append, List.length_nil]
    omega
  | .rcd f => by
    have := Fs.sz_sh f
    rw [Ty2.sz, Ty2.sh]
    simp only [List.length_cons, List.length_append, List.length_nil, List.length_drop]
    omega
theorem Fs.sz_sh : ∀ f : Fs, f.sz ≤ f.fsh.length - 2
  | .nil => by rw [Fs.sz]; omega
  | .cons n t r => by
    have h1 := Ty2.sz_sh t
    have h2 := Fs.sz_sh r
    rw [Fs.sz, Fs.fsh]
    simp only [List.length_cons, List.length_append]
    omega
end
mutual
theorem Ty2.szp : ∀ t : Ty2, 1 ≤ t.sz
  | .leaf _ => by rw [Ty2.sz]; omega
  | .lst _ => by rw [Ty2.sz]; omega
  | .opt _ => by rw [Ty2.sz]; omega
  | .rcd _ => by rw [Ty2.sz]; omega
end
theorem ws_le : ∀ ws : List (Ty2 × Int), ws.length ≤ wsz ws
  | [] => Nat.le_refl _
  | w :: ws => by
    have := ws_le ws
    have h := w.1.szp
    unfold wsz at this ⊢
    rw [List.map_cons, List.sum_cons, List.length_cons]
    omega
theorem pts_facts {t : Ty2} {ts : List Ty2} (h : Pts t ts) : (ts.map Ty2.sz).sum < t.sz ∧ (t.sml → ∀ u ∈ ts, u.sml) ∧ (∀ u ∈ ts, u.sh.length ≤ t.sh.length) ∧ (ts = [] → t.nl = 1) ∧ ((ts.map Ty2.nl).sum = t.nl ∨ ts = []) ∧
    (∀ d : Int, d ≤ 8 → t.sml → ((t.gd ∧ (t.dep : Int) + d ≤ 9) ↔ ∀ u ∈ ts, u.gd ∧ (u.dep : Int) + (d + 1) ≤ 9)) := by
  cases t with
  | leaf k =>
    cases h
    refine ⟨by rw [Ty2.sz]; decide, fun _ u h => (by cases h), fun u h => (by cases h), fun _ => rfl, .inr rfl, fun d hd _ => ⟨fun _ u h => (by cases h), fun _ => ⟨trivial, by rw [Ty2.dep]; omega⟩⟩⟩
  | lst t =>
    cases h
    refine ⟨by rw [Ty2.sz]; simp, fun hs u h => (by simp at h; subst h; exact hs), fun u h => (by simp at h; subst h; rw [Ty2.sh]; simp; omega), fun h => (by cases h), .inl (by simp [Ty2.nl]), fun d hd _ => ⟨fun h u hu => ?_, fun h => ?_⟩⟩
    · simp at hu
      subst hu
      have := h.2
      rw [Ty2.dep] at this
      exact ⟨h.1, by omega⟩
    · have := h t (by simp)
      exact ⟨this.1, by rw [Ty2.dep]; omega⟩
  | opt t =>
    cases h
    refine ⟨by rw [Ty2.sz]; simp, fun hs u h => (by simp at h; subst h; exact hs.1), fun u h => (by simp at h; subst h; rw [Ty2.sh]; simp), fun h => (by cases h), .inl (by simp [Ty2.nl]), fun d hd hs => ⟨fun h u hu => ?_, fun h => ?_⟩⟩
    · simp at hu
      subst hu
      have := h.2
      rw [Ty2.dep] at this
      exact ⟨h.1.1, by omega⟩
    · have := h t (by simp)
      exact ⟨⟨this.1, hs.2⟩, by rw [Ty2.dep]; omega⟩
  | rcd f =>
    obtain ⟨g, rfl⟩ := h
    have ne : f.l ≠ [] := by
      intro e
      have := g.1.1
      rw [← Fs.l_length, e] at this
      simp at this
    refine ⟨?_, fun hs u h => ?_, fun u h => ?_, fun h => ?_, .inl ?_, fun d hd hs => ⟨fun h u hu => ?_, fun h => ?_⟩⟩
    · rw [Ty2.sz, Fs.sz_l, List.map_map]
      show (f.l.map fun q => q.2.sz).sum < _
      omega
    · obtain ⟨q, hq, rfl⟩ := List.mem_map.mp h
      have : ∀ (f : Fs), f.sml → ∀ q ∈ f.l, q.2.sml := by
        intro f
        induction f using Fs.rec (motive_1 := fun _ => True) with
        | leaf => trivial
        | rcd => trivial
        | lst => trivial
        | opt => trivial
        | nil => intro _ q h; cases h
        | cons n t r _ ih =>
          intro hs q h
          rcases List.mem_cons.mp h with rfl | h
          · exact hs.2.1
          · exact ih hs.2.2 q h
      exact this f hs.1 q hq
    · obtain ⟨q, hq, rfl⟩ := List.mem_map.mp h
      have := (Fs.sh_mem hq).2
      have := rcd_sh f
      omega
    · exact (ne (List.map_eq_nil_iff.mp h)).elim
    · rw [Ty2.nl, Fs.nl_l, List.map_map]
      rfl
    · obtain ⟨q, hq, rfl⟩ := List.mem_map.mp hu
      have h2 := h.2
      rw [Ty2.dep] at h2
      have := Fs.mem_dep hq
      exact ⟨(Fs.mem_gd h.1.1 hq).2, by omega⟩
    · have hh : ∀ q ∈ f.l, q.2.gd ∧ (q.2.dep : Int) + (d + 1) ≤ 9 := fun q hq => h q.2 (List.mem_map.mpr ⟨q, hq, rfl⟩)
      have gg : f.gd := by
        have := Fs.of_gd f.l fun p hp => ⟨g.2.1 p hp, (hh p hp).1⟩
        rwa [Fs.of_l'] at this
      have dd : f.dep ≤ (8 - d).toNat := by
        have := Fs.of_dep (n := (8 - d).toNat) f.l fun p hp => by have := (hh p hp).2; omega
        rwa [Fs.of_l'] at this
      refine ⟨⟨gg, g.2.2, g.1.2, by intro e; have := g.1.1; rw [e] at this; simp at this⟩, ?_⟩
      rw [Ty2.dep]
      omega
theorem pts_none {t : Ty2} (h : ∀ ts, ¬ Pts t ts) : ¬ t.gd := by
  cases t with
  | leaf k => exact (h [] rfl).elim
  | lst u => exact (h [u] rfl).elim
  | opt u => exact (h [u] rfl).elim
  | rcd f =>
    intro g
    refine h (f.l.map (·.2)) ⟨⟨⟨?_, g.2.2.1⟩, fun q hq => (Fs.mem_gd g.1 hq).1, g.2.1⟩, rfl⟩
    have := g.2.2.2
    cases e : f.names with
    | nil => exact (this e).elim
    | cons => simp
def ISch (fn : Fn) : Prop := ∀ {t : Ty2} {G : Hd} {P : D → Hd → Prop}, t.sml → t.sh.length ≤ 200000 → (∀ (b : Bool) (G' : Hd), (b = true ↔ Sc t) → Fr [] G G' → P (.bl b) G') → Ok (fn [t.enc] G) P
def g_is_schema_f1 (fparts_of : Fn) : S :=
  (sSeq (sAsg (eOp1 mPop (eVar 1)) (gTup 2 (gCons (gName 3) (gCons (gName 4) gNil))))
  (sSeq (sSet 5 (eCall fparts_of (aCons (eVar 3) aNil)))
  (sSeq (sIf (tOr (tBl (eOp2 cIs (eVar 5) (eC .non))) (tBl (eOp2 cGt (eVar 4) (eC c_MOST_NESTED))))
    (sRet (eC (.bl false)))
    sNil)
  (sSeq (sIf (tNot (tTru (eVar 5)))
    (sAug 2 opIAdd (eC (.int 1)))
    sNil)
  (sSeq (sIf (tBl (eOp2 cGt (eVar 2) (eC c_MOST_LEAVES)))
    (sRet (eC (.bl false)))
    sNil)
  (sExpr (eMl mExtend (eVar 1) (eLc [6] (iOf (eVar 5)) (gName 6) tYes (eTup (aCons (eVar 6) (aCons (eOp2 opAdd (eVar 4) (eC (.int 1))) aNil)))))))))))
def g_is_schema (fparts_of : Fn) : S :=
  (sSeq (sIf (tOr (tNot (tTru (eOp1 (fIsTy .tuple) (eVar 0)))) (tBl (eOp2 cNe (eSl (eVar 0) oNone (oSome (eC (.int 1)))) (eTup (aCons (eC (.str (Str.ofString "rec"))) aNil)))))
    (sRet (eC (.bl false)))
    sNil)
  (sSeq (sSet 1 (eLst (aCons (eTup (aCons (eVar 0) (aCons (eC (.int 1)) aNil))) aNil)))
  (sSeq (sSet 2 (eC (.int 0)))
  (sSeq (sWhile (tTru (eVar 1)) (g_is_schema_f1 fparts_of))
  (sRet (eC (.bl true)))))))
theorem iSch_ok {fp : Fn} (hp : PtsOk fp) : ISch (runFn 7 1 (g_is_schema fp)) := by
  intro t G P hs hl hq
  refine ok_run rfl ?_
  show Sk (g_is_schema fp [some t.enc, none, none, none, none, none, none] G) (rtn P)
  unfold g_is_schema
  have hd0 : ∀ (P : D → Hd → Prop) (G : Hd), Ok (fIsTy .tuple t.enc G) P = P (.bl true) G := fun P G => by cases t <;> rfl
  have ne : ∀ (P : D → Hd → Prop) (G : Hd), Ok (cNe (.tup [sl t.hd]) (.tup [.str (Str.ofString "rec")]) G) P = P (.bl (!t.isRcd)) G := fun P G => by
    show Ok (cNe (.tup [sl t.hd]) (.tup [sl "rec"]) G) P = _
    rw [ok_ne_one, hd_rcd]
  simp -implicitDefEqProofs only [↓minrs]
  rw [sk_if]
  simp -implicitDefEqProofs only [↓minrs, ↓hd0, ↓ok_slH, ↓ne, Bool.not_true, Bool.false_eq_true, if_false]
  cases hr : t.isRcd with
  | false =>
    simp -implicitDefEqProofs only [Bool.not_false, if_true, ↓minrs]
    exact hq false G ⟨fun e => (by cases e), fun h => by rw [h.rcd] at hr; cases hr⟩ .refl
  | true =>
  simp -implicitDefEqProofs only [Bool.not_true, Bool.false_eq_true, if_false, ↓minrs]
  have hsz := t.sz_sh
  refine while_inv (fun n σ G1 => ∃ (ws : List (Ty2 × Int)) (c : Nat) (y1 y2 y3 y4 : Option D), σ = [some t.enc, some (.ref G.length), some (.int (c : Nat)), y1, y2, y3, y4] ∧ n = wsz ws ∧ wsz ws ≤ 200000 ∧ c ≤ 24 ∧ G1[G.length]? = some (.lst (ws.map wE)) ∧ (∀ w ∈ ws, w.1.sml ∧ w.1.sh.length ≤ 200000) ∧
    (Sc t ↔ (∀ w ∈ ws, w.1.gd ∧ (w.1.dep : Int) + w.2 ≤ 9) ∧ c + wnl ws ≤ 24) ∧ Fr [] G G1) ?_ (wsz [(t, 1)]) _ _ ⟨[(t, 1)], 0, _, _, _, _, rfl, rfl, by simp [wsz]; omega, by omega, get_new, fun w hw => (by simp at hw; subst hw; exact ⟨hs, hl⟩), ?_, Fr.refl.app⟩
  · rintro n σ G1 ⟨ws, c, y1, y2, y3, y4, rfl, rfl, hw0, hc, e1, oks, hiff, f1⟩
    rcases List.eq_nil_or_concat ws with rfl | ⟨vs, w, rfl⟩
    · simp -implicitDefEqProofs only [↓minrs, List.map_nil, ↓tru_ref e1, List.isEmpty_nil, Bool.not_true, Bool.false_eq_true, if_false]
      refine hq true G1 ⟨fun _ => hiff.mpr ⟨fun w h => (by cases h), by simpa [wnl] using hc⟩, fun _ => rfl⟩ f1
    · have e1' : G1[G.length]? = some (.lst (vs.map wE ++ [wE w])) := by rw [e1]; simp
      have nee : (vs.map wE ++ [wE w]).isEmpty = false := by simp
      obtain ⟨u, d⟩ := w
      have ow := oks (u, d) (by simp)
      have okv : ∀ w ∈ vs, w.1.sml ∧ w.1.sh.length ≤ 200000 := fun w hw => oks w (by simp [hw])
      have wsv : wsz (vs.concat (u, d)) = wsz vs + u.sz := by simp [wsz]
      have wnv : wnl (vs.concat (u, d)) = wnl vs + u.nl := by simp [wnl]
      rw [wsv] at hw0
      rw [wnv] at hiff
      simp -implicitDefEqProofs only [↓minrs, ↓tru_ref e1', nee, Bool.not_false, if_true]
      unfold g_is_schema_f1 c_MOST_NESTED c_MOST_LEAVES
      simp -implicitDefEqProofs only [↓minrs, ↓ok_pop e1', wE]
      have e2 : ∀ {o : O}, (G1.set G.length o)[G.length]? = some o := get_set e1'
      have lG : G.length < G1.length := (List.getElem?_eq_some_iff.mp e1').1
      have f2 : ∀ {o : O}, Fr [] G (G1.set G.length o) := f1.set (.inl (Nat.le_refl _))
      have bad : ¬ (u.gd ∧ (u.dep : Int) + d ≤ 9) → ∀ G', Fr [] G G' → P (.bl false) G' := fun h G' f' => hq false G' ⟨fun e => (by cases e), fun sc => (h ((hiff.mp sc).1 (u, d) (by simp))).elim⟩ f'
      have ow2 : u.sh.length ≤ 200000 := ow.2
      have ow1 : u.sml := ow.1
      refine hp ow1 (by rw [sizeLine_val]; omega) (fun ts r G2 hts e3 hr3 f3 => ?_) fun G2 hts f3 => ?_
      · have l2 : G.length ≠ r := by rw [List.length_set] at hr3; omega
        have f12 : Fr [] G G2 := f2.trans f3
        have e4 := f3.at (e2 (o := .lst (vs.map wE))) (by simp)
        obtain ⟨p1, p2, p3, p4, p5, p6⟩ := pts_facts hts
        rw [sk_if]
        simp -implicitDefEqProofs only [↓minrs, isNon, Bool.false_eq_true, if_false]
        by_cases h8 : d > 8
        · simp -implicitDefEqProofs only [h8, decide_true, if_true, ↓minrs]
          refine bad (fun h => ?_) G2 f12
          have := u.dep_pos
          omega
        · have nd : ¬ (8 < d) := h8
          simp -implicitDefEqProofs only [nd, decide_false, Bool.false_eq_true, if_false, ↓minrs]
          refine sk_part (fun σ G3 => ∃ c' : Nat, σ = [some t.enc, some (.ref G.length), some (.int (c' : Nat)), some u.enc, some (.int d), some (.ref r), y4] ∧ G3 = G2 ∧ c' + (ts.map Ty2.nl).sum = c + u.nl ∧ (ts ≠ [] → c' = c)) ?_ ?_
          · cases ts with
            | nil =>
              have c1 : ((c : Nat) : Int) + 1 = ((c + 1 : Nat) : Int) := by omega
              simp -implicitDefEqProofs only [↓tru_ref e3, List.isEmpty_map, List.isEmpty_nil, Bool.not_true, Bool.not_false, if_true, ↓mirs, c1]
              exact ⟨c + 1, rfl, trivial, by rw [p4 rfl]; simp, fun h => (h rfl).elim⟩
            | cons v ts =>
              simp -implicitDefEqProofs only [↓tru_ref e3, List.isEmpty_map, List.isEmpty_cons, Bool.not_false, Bool.not_true, Bool.false_eq_true, if_false, ↓mirs]
              refine ⟨c, rfl, trivial, ?_, fun _ => rfl⟩
              rcases p5 with h | h
              · rw [h]
              · cases h
          rintro σ G3 ⟨c', rfl, rfl, hc1, hc2⟩
          rw [sk_if]
          simp -implicitDefEqProofs only [↓minrs]
          by_cases h24 : ((c' : Nat) : Int) > 24
          · have h24' : (24 : Int) < ((c' : Nat) : Int) := h24
            simp -implicitDefEqProofs only [h24', decide_true, if_true, ↓minrs]
            refine hq false G3 ⟨fun e => (by cases e), fun sc => ?_⟩ f12
            have := (hiff.mp sc).2
            omega
          · have h24' : ¬ (24 : Int) < ((c' : Nat) : Int) := h24
            simp -implicitDefEqProofs only [h24', decide_false, Bool.false_eq_true, if_false, ↓minrs, ↓isL_ref e4, if_true, ↓ok_itof_ref e3]
            have l8 : ts.length ≤ 200000 := by
              have : ∀ ts : List Ty2, ts.length ≤ (ts.map Ty2.sz).sum := fun ts => by
                induction ts with
                | nil => simp
                | cons a ts ih => rw [List.length_cons, List.map_cons, List.sum_cons]; have := a.szp; omega
              have := this ts
              omega
            refine lc_fun (ts.map fun v => wE (v, d + 1)) (by rw [List.length_map, sizeLine_val]; omega) (fun G4 f4 => by rw [it_list (f4.at e3 (by simp)), List.getElem?_eq_none (by rw [List.length_map, List.length_map]; exact Nat.le_refl _)]) (fun i z G4 hz f4 => ?_) fun G4 e5 f4 => ?_
            · rw [List.getElem?_map] at hz
              obtain ⟨v, hv, rfl⟩ := Option.map_eq_some_iff.mp hz
              refine ⟨v.enc, by rw [it_list (f4.at e3 (by simp)), List.getElem?_map, hv]; rfl, ?_⟩
              simp -implicitDefEqProofs only [wipeD, List.set_cons_zero, List.set_cons_succ, ↓mirs]
              exact ⟨rfl, .refl⟩
            · have e6 := f4.at e4 (by simp)
              have wl := ws_le vs
              rw [ok_extend e6 e5 (by rw [List.length_map, List.length_map, sizeLine_val]; omega)]
              have em : vs.map wE ++ (ts.map fun v => wE (v, d + 1)) = (vs ++ ts.map fun v => (v, d + 1)).map wE := by rw [List.map_append, List.map_map]; rfl
              have sm : wsz (vs ++ ts.map fun v => (v, d + 1)) = wsz vs + (ts.map Ty2.sz).sum := by
                unfold wsz
                rw [List.map_append, List.sum_append, List.map_map]
                rfl
              have nm : wnl (vs ++ ts.map fun v => (v, d + 1)) = wnl vs + (ts.map Ty2.nl).sum := by
                unfold wnl
                rw [List.map_append, List.sum_append, List.map_map]
                rfl
              refine ⟨wsz (vs ++ ts.map fun v => (v, d + 1)), by rw [sm, wsv]; omega, vs ++ ts.map fun v => (v, d + 1), c', _, _, _, _, rfl, rfl, by rw [sm]; omega, by omega, ?_, fun w hw => ?_, ?_, (f12.trans f4).set (.inl (Nat.le_refl _))⟩
              · rw [em]
                exact get_set e6
              · rcases List.mem_append.mp hw with hw | hw
                · exact okv w hw
                · obtain ⟨v, hv, rfl⟩ := List.mem_map.mp hw
                  exact ⟨p2 ow1 v hv, by have := p3 v hv; dsimp only; omega⟩
              · rw [hiff, nm]
                have p6 := p6 d (by omega) ow1
                have ew : (∀ w ∈ vs.concat (u, d), w.1.gd ∧ (w.1.dep : Int) + w.2 ≤ 9) ↔ (∀ w ∈ vs, w.1.gd ∧ (w.1.dep : Int) + w.2 ≤ 9) ∧ (u.gd ∧ (u.dep : Int) + d ≤ 9) := by
                  constructor
                  · exact fun h => ⟨fun w hw => h w (by simp [hw]), h (u, d) (by simp)⟩
                  · rintro ⟨h1, h2⟩ w hw
                    simp only [List.concat_eq_append, List.mem_append, List.mem_singleton] at hw
                    rcases hw with hw | rfl
                    · exact h1 w hw
                    · exact h2
                have ev : (∀ w ∈ vs ++ ts.map fun v => (v, d + 1), w.1.gd ∧ (w.1.dep : Int) + w.2 ≤ 9) ↔ (∀ w ∈ vs, w.1.gd ∧ (w.1.dep : Int) + w.2 ≤ 9) ∧ ∀ v ∈ ts, v.gd ∧ (v.dep : Int) + (d + 1) ≤ 9 := by
                  constructor
                  · exact fun h => ⟨fun w hw => h w (List.mem_append_left _ hw), fun v hv => h (v, d + 1) (List.mem_append_right _ (List.mem_map.mpr ⟨v, hv, rfl⟩))⟩
                  · rintro ⟨h1, h2⟩ w hw
                    rcases List.mem_append.mp hw with hw | hw
                    · exact h1 w hw
                    · obtain ⟨v, hv, rfl⟩ := List.mem_map.mp hw
                      exact h2 v hv
                rw [ew, ev, p6]
                have : c + (wnl vs + u.nl) ≤ 24 ↔ c' + (wnl vs + (ts.map Ty2.nl).sum) ≤ 24 := by omega
                rw [this]
      · rw [sk_if]
        simp -implicitDefEqProofs only [↓minrs, isNon, if_true]
        exact bad (fun h => pts_none hts h.1) G2 (f2.trans f3)
  · constructor
    · intro h
      refine ⟨fun w hw => ?_, ?_⟩
      · simp at hw
        subst hw
        exact ⟨h.gd, by have := h.dep; dsimp only; omega⟩
      · have := h.nl
        simpa [wnl] using this
    · rintro ⟨h1, h2⟩
      obtain ⟨h3, h4⟩ := h1 (t, 1) (by simp)
      exact ⟨h3, by dsimp only at h4; omega, by simpa [wnl] using h2, hr⟩
end D2
end
section
set_option linter.all false
set_option autoImplicit false
set_option maxRecDepth 100000
namespace D2
open PySem L2
theorem skx_part {x : SR} {k : Sd → Hd → Prop} {Z : Fl → Sd → Hd → Prop} (X : Sd → Hd → Prop) (h1 : SkX x (thn X Z)) (h2 : ∀ σ G, X σ G → k σ G) : SkX x (thn k Z) := h1.mono fun f σ G h => by
  cases f <;> first | exact h2 _ _ h | exact h
theorem pd_count : ∀ {d : Int} {cs : Cs}, ((cs.countP fun c => decide (c = 91 ∨ c = 123) : Nat) : Int) ≤ d → Pd d cs
  | _, [], _ => trivial
  | d, c :: r, h => by
    rw [List.countP_cons] at h
    unfold Pd
    by_cases hc : c = 91 ∨ c = 123
    · have w : wt c = 1 := by unfold wt; rw [if_pos hc]
      rw [if_pos (decide_eq_true hc)] at h
      rw [w]
      exact ⟨by omega, pd_count (by omega)⟩
    · rw [if_neg (by simpa using hc)] at h
      have w : wt c = 0 ∨ wt c = -1 := by
        unfold wt
        rw [if_neg hc]
        split
        · exact .inr rfl
        · exact .inl rfl
      rcases w with w | w <;> rw [w] <;> exact ⟨by omega, pd_count (by omega)⟩
theorem cnt_countP (c : Nat) : ∀ l : Cs, PyProof.Rows.cnt c l = ((l.countP fun b => decide (b = c) : Nat) : Int)
  | [] => rfl
  | b :: l => by
    rw [PyProof.Rows.cnt_cons, cnt_countP c l, List.countP_cons]
    by_cases h : b = c
    · rw [if_pos h, if_pos (decide_eq_true h)]
      omega
    · rw [if_neg h, if_neg (by simpa using h)]
      omega
theorem count_sg (c : Nat) (cs : Cs) : Txt.count (Sg cs) (Sg [c]) = ((cs.countP fun b => decide (b = c) : Nat) : Int) := by
  rw [← cnt_countP]
  exact (PyProof.Rows.count_cnt (Sg cs) c).trans (by simp [Sg])
theorem count_two (a b : Nat) (h : a ≠ b) : ∀ cs : Cs, (cs.countP fun c => decide (c = a)) + (cs.countP fun c => decide (c = b)) = cs.countP fun c => decide (c = a ∨ c = b)
  | [] => rfl
  | c :: cs => by
    rw [List.countP_cons, List.countP_cons, List.countP_cons, ← count_two a b h cs]
    by_cases ha : c = a
    · subst ha
      simp [h]
      omega
    · by_cases hb : c = b
      · subst hb
        simp [ha]
        omega
      · simp [ha, hb]
section
variable {P : D → Hd → Prop} {Pu : Unit → Hd → Prop} {E : Nat → Hd → Prop} {Z : Fl → Sd → Hd → Prop} {G : Hd} {σ τ : Sd} {R p : Nat} {cs t : Cs}
theorem ok_countSg {c : Nat} : Ok (mCountS (.str (Sg cs)) (.str (Sg [c])) G) P = P (.int ((cs.countP fun b => decide (b = c) : Nat) : Int)) G := by
  show P (.int (Txt.count (Sg cs) (Sg [c]))) G = _
  rw [count_sg]
theorem ok_setG {f : Str} {v : D} {fs : List (Str × D)} (h : G[R]? = some (.ins 3 fs)) (hl : fs.length < 1000) : Ok (setFD 3 f v (.ref R) G) Pu = Pu () (G.set R (.ins 3 (putFD f v fs))) := by
  have : insOf 3 G (.ref R) = some (R, fs) := by
    unfold insOf
    dsimp only
    rw [h]
    rfl
  unfold setFD
  rw [this]
  dsimp only
  rw [if_pos hl]
  rfl
theorem okx_meth3 {m : Str} {f : Fn} {a : As} {y0 y1 y2 : Option D} (h : G[R]? = some (ro cs p)) (hm : (m == kT) = false ∧ (m == kA) = false) : OkX (eMethD 3 m f (eVar 3) a (y0 :: y1 :: y2 :: some (.ref R) :: τ) G) P E = OkX (a (y0 :: y1 :: y2 :: some (.ref R) :: τ) G) (fun vs G1 => OkX (f (.ref R :: vs) G1) P E) E := by
  unfold eMethD
  rw [okx_bnd]
  show OkX (match insOf 3 G (.ref R) with | some (_, fs) => _ | none => none) P E = _
  rw [insOf_ro h]
  dsimp only
  rw [if_pos (by rw [List.lookup, hm.1]; dsimp only; rw [List.lookup, hm.2]; rfl), okx_bnd]
end
def g_TextReader____init__ : S :=
  (sSeq (sFldD 3 (eVar 0) (Str.ofString "text") (eVar 1))
  (sFldD 3 (eVar 0) (Str.ofString "at") (eC (.int 0))))
theorem init_run {cs : Cs} {G : Hd} : runFn 2 2 g_TextReader____init__ [.ref G.length, sg cs] (G ++ [.ins 3 []]) = some (.ok .non, G ++ [ro cs 0]) := by
  have h0 : (G ++ [O.ins 3 []])[G.length]? = some (.ins 3 []) := by simp
  have h : Ok (runFn 2 2 g_TextReader____init__ [.ref G.length, sg cs] (G ++ [.ins 3 []])) fun v G' => v = .non ∧ G' = G ++ [ro cs 0] := by
    refine ok_run rfl ?_
    show Sk (g_TextReader____init__ [some (.ref G.length), some (sg cs)] (G ++ [.ins 3 []])) (rtn _)
    unfold g_TextReader____init__
    simp -implicitDefEqProofs only [↓minrs, sk_fldD, ↓ok_setG h0 (by simp)]
    have h1 : ((G ++ [O.ins 3 []]).set G.length (.ins 3 (putFD (Str.ofString "text") (sg cs) [])))[G.length]? = some (.ins 3 [(kT, sg cs)]) := get_set h0
    simp only [↓ok_setG h1 (by simp)]
    refine ⟨trivial, ?_⟩
    have : putFD (Str.ofString "at") (.int 0) [(kT, sg cs)] = [(kT, sg cs), (kA, .int ((0 : Nat) : Int))] := by
      unfold putFD
      rw [if_neg (by decide +kernel)]
      rfl
    rw [this, List.set_set]
    simp [ro]
  obtain ⟨v, G', e, rfl, rfl⟩ := h.ex
  exact e
def b_TextReader____init__ (Γ : D2.Env) : S := g_TextReader____init__
def g_read_schema_f1 : S :=
  (sSeq (sAug 1 opIAdd (eOp2 opSub (eOp1 fInt (eOp2 cIn (eVar 2) (eC (.str (Str.ofString "[{"))))) (eOp1 fInt (eOp2 cIn (eVar 2) (eC (.str (Str.ofString "]}")))))))
  (sIf (tBl (eOp2 cGt (eVar 1) (eC c_MOST_NESTED)))
    (sRaise 2)
    sNil))
def g_read_schema (fTextReader__kind fis_schema : Fn) : S :=
  (sSeq (sIf (tBl (eOp2 cGt (eOp2 opAdd (eMs mCountS (eVar 0) (eC (.str (Str.ofString "[")))) (eMs mCountS (eVar 0) (eC (.str (Str.ofString "{"))))) (eC c_MOST_NESTED)))
    (sSeq (sSet 1 (eC (.int 0)))
  (sFor (iOf (eVar 0)) (gName 2) g_read_schema_f1))
    sNil)
  (sSeq (sSet 3 (eMake 3 (runFn 2 2 (b_TextReader____init__ (fun _ _ _ => none))) (aCons (eVar 0) aNil)))
  (sSeq (sSet 4 (eMethD 3 (Str.ofString "kind") fTextReader__kind (eVar 3) aNil))
  (sSeq (sIf (tOr (tBl (eOp2 cNe (eFld 3 (eVar 3) (Str.ofString "at")) (eOp1 fLen (eVar 0)))) (tNot (tTru (eCall fis_schema (aCons (eVar 4) aNil)))))
    (sRaise 2)
    sNil)
  (sRet (eVar 4))))))
def RsOk (fn : Fn) : Prop := ∀ {cs : Cs} {G : Hd} {Q : D → Hd → Prop} {E : Nat → Hd → Prop}, TO cs → (∀ K G', Sc K → Pd 8 cs → rdK 8 cs = some (K, []) → Fr [] G G' → Q K.enc G') →
    (∀ G', (∀ K, Sc K → Pd 8 cs → rdK 8 cs ≠ some (K, [])) → Fr [] G G' → E 2 G') → OkX (fn [sg cs] G) Q E
theorem readSchema_ok {fk fi : Fn} (hk : RdS 8 fk) (hi : ISch fi) : RsOk (runFn 5 1 (g_read_schema fk fi)) := by
  intro cs G Q E ht hy hno
  refine okx_run rfl ?_
  show SkX (g_read_schema fk fi [some (sg cs), none, none, none, none] G) (rtnX Q E)
  unfold g_read_schema c_MOST_NESTED
  have hlen := ht.len
  rw [skx_seq]
  refine skx_part (fun σ G1 => ∃ y1 y2, σ = [some (sg cs), y1, y2, none, none] ∧ G1 = G ∧ Pd 8 cs) ?_ ?_
  · refine skx_ifo ?_
    simp -implicitDefEqProofs only [↓minrs, isS_str, if_true, lit_ob, lit_oc, ↓ok_countSg]
    by_cases h8 : (8 : Int) < ((cs.countP fun b => decide (b = 91) : Nat) : Int) + ((cs.countP fun b => decide (b = 123) : Nat) : Int)
    · simp only [h8, decide_true, if_true]
      rw [skx_seq, skx_set, okx_c, thn_nx, skx_for]
      refine okx_of ?_
      simp -implicitDefEqProofs only [↓minrs, ↓ok_itof_str, strSeq_sg, List.set_cons_zero, List.set_cons_succ]
      refine loopx_inv0 cs.length (fun k σ G1 => ∃ y, σ = [some (sg cs), some (.int (ds (cs.take k))), y, none, none] ∧ G1 = G ∧ (Pd 8 cs ↔ Pd (8 - ds (cs.take k)) (cs.drop k))) ⟨_, rfl, rfl, by simp [ds]⟩ ?_ ?_
      · rintro σ G1 ⟨y, rfl, rfl, hp⟩
        refine ⟨by rw [it_seq, List.getElem?_eq_none (by rw [List.length_map]; exact Nat.le_refl _)], _, _, rfl, rfl, hp.mpr ?_⟩
        rw [List.drop_length]
        trivial
      · rintro k σ G1 hk1 ⟨y, rfl, rfl, hp⟩
        obtain ⟨c, hc⟩ : ∃ c, cs[k]? = some c := ⟨cs[k], List.getElem?_eq_getElem hk1⟩
        have hdk : cs.drop k = c :: cs.drop (k + 1) := by
          rw [List.drop_eq_getElem_cons hk1]
          congr 1
          rw [List.getElem?_eq_getElem hk1] at hc
          exact Option.some.inj hc
        have dk : ds (cs.take (k + 1)) = ds (cs.take k) + wt c := by
          rw [List.take_succ, hc, ds_app]
          show _ + ds [c] = _
          simp [ds]
        refine ⟨sg [c], by rw [it_seq, List.getElem?_map, hc]; rfl, ?_⟩
        rw [hdk, Pd] at hp
        unfold g_read_schema_f1 c_MOST_NESTED
        have wv : (if decide (c = 91 ∨ c = 123) = true then (1 : Int) else 0) - (if decide (c = 93 ∨ c = 125) = true then 1 else 0) = wt c := by
          unfold wt
          by_cases h1 : c = 91 ∨ c = 123
          · have h2 : ¬(c = 93 ∨ c = 125) := by omega
            simp [h1, h2]
          · by_cases h2 : c = 93 ∨ c = 125
            · simp [h1, h2]
            · simp [h1, h2]
        rw [show Tk (D2.gName 2 (sg [c]) [some (sg cs), some (.int (ds (cs.take k))), y, none, none] G1) = fun X => X [some (sg cs), some (.int (ds (cs.take k))), some (sg [c]), none, none] G1 from rfl]
        show SkX _ _
        rw [skx_seq]
        refine skx_part (fun σ G2 => σ = [some (sg cs), some (.int (ds (cs.take (k + 1)))), some (sg [c]), none, none] ∧ G2 = G1) (skx_of ?_) ?_
        · simp -implicitDefEqProofs only [↓minrs, lit_open, lit_shut, ↓ok_in_sg, mem2, wv]
          rw [dk]
          exact ⟨by first | rfl | trivial, by first | rfl | trivial⟩
        · rintro σ G2 ⟨rfl, rfl⟩
          refine skx_ifo ?_
          simp -implicitDefEqProofs only [↓minrs]
          by_cases hgt : (8 : Int) < ds (cs.take (k + 1))
          · simp only [hgt, decide_true, if_true, skx_raise]
            show E 2 G2
            refine hno G2 (fun K _ hpd => ?_) .refl
            have := (hp.mp hpd).1
            omega
          · simp only [hgt, decide_false, Bool.false_eq_true, if_false, skx_nil]
            show ∃ y, _
            refine ⟨_, rfl, rfl, ?_⟩
            rw [hp, dk]
            have : (8 : Int) - ds (cs.take k) - wt c = 8 - (ds (cs.take k) + wt c) := by omega
            rw [this]
            exact ⟨fun h => h.2, fun h => ⟨by omega, h⟩⟩
    · simp only [h8, decide_false, Bool.false_eq_true, if_false, skx_nil]
      show ∃ y1 y2, _
      refine ⟨_, _, rfl, rfl, pd_count ?_⟩
      have := count_two 91 123 (by decide) cs
      omega
  · rintro σ G1 ⟨y1, y2, rfl, rfl, hpd⟩
    rw [skx_seq, skx_set]
    have mk : eMake 3 (runFn 2 2 (b_TextReader____init__ fun _ _ _ => none)) (aCons (eVar 0) aNil) [some (sg cs), y1, y2, none, none] G1 = some (.ok (.ref G1.length), G1 ++ [ro cs 0]) := by
      show makeD 3 (runFn 2 2 g_TextReader____init__) [sg cs] G1 = _
      unfold makeD
      rw [init_run]
    rw [mk]
    show SkX _ _
    have e1 : (G1 ++ [ro cs 0])[G1.length]? = some (st cs cs) := by
      unfold st
      rw [Nat.sub_self]
      simp
    rw [skx_seq, skx_set]
    simp only [List.set_cons_zero, List.set_cons_succ]
    rw [okx_meth3 e1 m_kind, okx_nil]
    have fr : ∀ {G2 : Hd}, Fr [G1.length] (G1 ++ [ro cs 0]) G2 → Fr [] G1 G2 := fun {G2} f => ⟨Nat.le_trans (by simp) f.len, fun i hi _ => by
      rw [f.get i (by simp; omega) (by simp; omega), List.getElem?_append_left hi]⟩
    refine hk e1 ht (List.suffix_refl _) hpd (fun K r G2 eK e2 f2 => ?_) fun G2 eK f2 => ?_
    · rw [thn_nx]
      obtain ⟨hsh, hsml⟩ := rdK_sound 8 _ _ _ eK
      have lsh : K.sh.length + r.length = cs.length := by
        have := congrArg List.length hsh
        rw [List.length_append] at this
        exact this.symm
      unfold st at e2
      rw [skx_seq]
      refine skx_ifo ?_
      simp -implicitDefEqProofs only [↓minrs, ok_fld, ↓ok_fldA e2, ↓ok_lenSg ht]
      have no : (∀ K', Sc K' → rdK 8 cs ≠ some (K', [])) → ∀ G', Fr [] G1 G' → E 2 G' := fun h G' f' => hno G' (fun K' s _ => h K' s) f'
      cases r with
      | nil =>
        have e0 : (((cs.length - ([] : Cs).length : Nat) : Int) = ((cs.length : Nat) : Int)) = True := eq_true (by simp)
        simp only [e0, decide_true, Bool.not_true, Bool.false_eq_true, if_false]
        rw [List.length_nil] at lsh
        refine hi hsml (by omega) fun b G3 hb f3 => ?_
        have f13 : Fr [] G1 G3 := (fr f2).trans f3
        cases b with
        | true =>
          simp only [tru_bl, Bool.not_true, Bool.false_eq_true, if_false, skx_nil, thn_nx]
          rw [skx_ret]
          exact hy K G3 (hb.mp rfl) hpd eK f13
        | false =>
          simp only [tru_bl, Bool.not_false, if_true, skx_raise]
          refine no (fun K' s e => ?_) G3 f13
          rw [eK] at e
          cases e
          exact Bool.false_ne_true (hb.mpr s)
      | cons c r =>
        have e0 : (((cs.length - (c :: r).length : Nat) : Int) = ((cs.length : Nat) : Int)) = False := eq_false (by
          rw [List.length_cons] at lsh ⊢
          omega)
        simp only [e0, decide_false, Bool.not_false, if_true, skx_raise]
        refine no (fun K' s e => ?_) G2 (fr f2)
        rw [eK] at e
        cases e
    · rw [thn_exc]
      show E 2 G2
      refine hno G2 (fun K _ _ h => ?_) (fr f2)
      rw [eK] at h
      cases h
end D2
end
section
set_option linter.all false
set_option autoImplicit false
set_option maxRecDepth 100000
namespace D2
open PySem L2
mutual
theorem Ty2.pl_enc : ∀ t : Ty2, t.gd → pl (3 * t.dep + 1) t.enc
  | .leaf k, _ => by
    rw [Ty2.dep, Ty2.enc]
    refine ⟨by simp, fun x hx => ?_⟩
    simp at hx
    subst hx
    exact strOk_sl _
  | .lst t, g => by
    rw [Ty2.dep, Ty2.enc]
    refine ⟨by simp, fun x hx => ?_⟩
    simp at hx
    rcases hx with rfl | rfl
    · exact strOk_sl _
    · exact pl_le (by omega) (Ty2.pl_enc t g)
  | .opt t, g => by
    rw [Ty2.dep, Ty2.enc]
    refine ⟨by simp, fun x hx => ?_⟩
    simp at hx
    rcases hx with rfl | rfl
    · exact strOk_sl _
    · exact pl_le (by omega) (Ty2.pl_enc t g.1)
  | .rcd f, g => by
    rw [Ty2.dep, Ty2.enc]
    refine ⟨by simp, fun x hx => ?_⟩
    simp at hx
    rcases hx with rfl | rfl
    · exact strOk_sl _
    · show pl ((3 * f.dep + 2) + 1) (.tup f.enc)
      refine ⟨?_, Fs.pl_enc f g.1⟩
      have := g.2.2.1
      rw [Fs.length_enc]
      omega
theorem Fs.pl_enc : ∀ f : Fs, f.gd → ∀ x ∈ f.enc, pl (3 * f.dep + 2) x
  | .nil, _, x, h => by rw [Fs.enc] at h; cases h
  | .cons n t r, g, x, h => by
    rw [Fs.enc] at h
    rw [Fs.dep]
    rcases List.mem_cons.mp h with rfl | h
    · show pl ((3 * max t.dep r.dep + 1) + 1) _
      refine ⟨by simp, fun x hx => ?_⟩
      simp at hx
      rcases hx with rfl | rfl
      · exact strOk_sl _
      · exact pl_le (by omega) (Ty2.pl_enc t g.2.1)
    · exact pl_le (by omega) (Fs.pl_enc r g.2.2 x h)
end
def g_law_due (f_law_kind_of f_law_is_schema : Fn) : S :=
  (sSeq (sSet 1 (eCall f_law_kind_of (aCons (eVar 0) aNil)))
  (sSeq (sIf (tOr (tBl (eOp2 cIs (eVar 1) (eC .non))) (tNot (tTru (eCall f_law_is_schema (aCons (eVar 1) aNil)))))
    (sRet (eC .non))
    sNil)
  (sRet (eVar 1))))
def DuOk (n : Nat) (fn : Fn) : Prop := ∀ {cs : Cs} {G : Hd} {P : D → Hd → Prop}, TO cs → marks cs < n → (∀ K G', Sc K → lk n cs = some K → Fr [] G G' → P K.enc G') →
    (∀ G', (∀ K, Sc K → lk n cs ≠ some K) → Fr [] G G' → P .non G') → Ok (fn [sg cs] G) P
theorem due_ok {n : Nat} {fk fi : Fn} (hk : KoOk n fk) (hi : IsSc fi) : DuOk n (runFn 2 1 (g_law_due fk fi)) := by
  intro cs G P ht hm hy hno
  refine ok_run rfl ?_
  show Sk (g_law_due fk fi [some (sg cs), none] G) (rtn P)
  unfold g_law_due
  simp -implicitDefEqProofs only [↓minrs]
  refine hk ht hm fun G1 f1 => ?_
  rw [sk_if]
  cases e : lk n cs with
  | none =>
    simp -implicitDefEqProofs only [↓minrs, encO, isNon, if_true]
    exact hno G1 (fun K _ h => by rw [e] at h; cases h) f1
  | some K =>
    have esh := lk_sound n cs K ht.chr e
    simp -implicitDefEqProofs only [↓minrs, encO, isNon_enc, Bool.false_eq_true, if_false]
    refine hi (by rw [← esh]; have := ht.size; rwa [sg_len] at this) fun b G2 hb f2 => ?_
    cases b with
    | true =>
      simp -implicitDefEqProofs only [↓minrs, Bool.not_true, Bool.false_eq_true, if_false]
      exact hy K G2 (hb.mp rfl) e (f1.trans f2)
    | false =>
      simp -implicitDefEqProofs only [↓minrs, Bool.not_false, if_true]
      refine hno G2 (fun K' s h => ?_) (f1.trans f2)
      rw [e] at h
      cases h
      exact Bool.false_ne_true (hb.mpr s)
def g_law_read_as (fr fs : Fn) (is : Nat → Option Bool) (x1 x2 x3 : Nat → Bool) : S :=
  (sTryAs (sSeq (sSet 2 (eCall fr (aCons (eVar 0) aNil))) (sRet (eAnd (eOp2 cIsNot (eVar 1) (eC .non)) (eCall fs (aCons (eVar 2) (aCons (eVar 1) aNil)))))) is 3 (fun nn => (sRet (eAnd (eOp2 cIs (eVar 1) (eC .non)) (eAnd (eC (.bl (x1 nn))) (eAnd (eC (.bl (x2 nn))) (eNot (eC (.bl (x3 nn))))))))))
def Told (cs : Cs) (d : D) : Prop := (∃ K, d = K.enc ∧ Sc K ∧ Pd 8 cs ∧ rdK 8 cs = some (K, [])) ∨ (d = .non ∧ ∀ K, Sc K → Pd 8 cs → rdK 8 cs ≠ some (K, []))
def RaOk (fn : Fn) : Prop := ∀ {cs : Cs} {d : D} {G : Hd} {P : D → Hd → Prop}, TO cs → Told cs d → (∀ G', Fr [] G G' → P (.bl true) G') → Ok (fn [sg cs, d] G) P
theorem readAs_ok {fr fs : Fn} {is : Nat → Option Bool} {x1 x2 x3 : Nat → Bool} (h1 : is 2 = some true) (h2 : x1 2 = true) (h3 : x2 2 = true) (h4 : x3 2 = false) (hr : RsOk fr) (hs : Same2 30 fs) : RaOk (runFn 4 2 (g_law_read_as fr fs is x1 x2 x3)) := by
  intro cs d G P ht td hq
  refine ok_run rfl ?_
  show Sk (g_law_read_as fr fs is x1 x2 x3 [some (sg cs), some d, none, none] G) (rtn P)
  unfold g_law_read_as
  refine sk_tryas ?_
  rw [skx_seq, skx_set, okx_call]
  refine okx_of ?_
  simp -implicitDefEqProofs only [↓mirs]
  refine hr ht (fun K G1 s hp e f1 => ?_) fun G1 hno f1 => ?_
  · rw [skx_ret]
    refine okx_of ?_
    rcases td with ⟨K', rfl, s', hp', e'⟩ | ⟨rfl, hn⟩
    · rw [e] at e'
      cases e'
      simp -implicitDefEqProofs only [↓mirs, List.set_cons_zero, List.set_cons_succ, isNon_enc, Bool.not_false, if_true]
      have p : pl 30 K.enc := pl_le (by have := s.dep; omega) (Ty2.pl_enc K s.gd)
      refine hs p p fun b G2 hb f2 => ?_
      obtain rfl : b = true := hb.mpr rfl
      exact hq G2 (f1.trans f2)
    · exact (hn K s hp e).elim
  · rw [thn_exc]
    refine ⟨h1, (show 3 < 4 by decide), sk_wipe ?_⟩
    rcases td with ⟨K', rfl, s', hp', e'⟩ | ⟨rfl, hn⟩
    · exact (hno K' s' hp' e').elim
    · simp -implicitDefEqProofs only [↓mirs, ↓ok_and, ↓ok_not, h2, h3, h4, Bool.not_false, D2.isNon, List.set_cons_zero, List.set_cons_succ]
      exact hq G1 f1
theorem told_due {n : Nat} {cs : Cs} (ht : TO cs) (hm : marks cs < n) : (∀ K, Sc K → lk n cs = some K → Told cs K.enc) ∧ ((∀ K, Sc K → lk n cs ≠ some K) → Told cs .non) := by
  constructor
  · intro K s e
    exact .inl ⟨K, rfl, s, lk_pd ht.chr s e, (agree ht.chr hm s).mpr e⟩
  · intro h
    exact .inr ⟨rfl, fun K s _ e => h K s ((agree ht.chr hm s).mp e)⟩
theorem told_sh {K : Ty2} (s : Sc K) : Told K.sh K.enc := by
  refine .inl ⟨K, rfl, s, Ty2.pd_sh K 8 (Ty2.gd_sml K s.gd) (by have := s.dep; omega), ?_⟩
  have := rdK_comp 8 K [] (Ty2.gd_sml K s.gd) (by have := s.dep; omega) (fun c h => by cases h)
  rwa [List.append_nil] at this
theorem readDue {n : Nat} {fr fd : Fn} (hr : RaOk fr) (hd : DuOk n fd) {cs : Cs} (ht : TO cs) (hm : marks cs < n) {G : Hd} {P : D → Hd → Prop} (hq : ∀ G', Fr [] G G' → P (.bl true) G') : Ok (fd [sg cs] G) fun d G1 => Ok (fr [sg cs, d] G1) P :=
  hd ht hm (fun K G1 s e f1 => hr ht ((told_due ht hm).1 K s e) fun G2 f2 => hq G2 (f1.trans f2)) fun G1 h f1 => hr ht ((told_due ht hm).2 h) fun G2 f2 => hq G2 (f1.trans f2)
end D2
end
section
set_option linter.all false
set_option autoImplicit false
set_option maxRecDepth 100000
namespace D2
open PySem L2
theorem ofS (s : String) : Str.ofString s = Sg (nmL s) := by
  have := sl_nm s
  injection this
def rep (w : Cs) (m : Nat) : Cs := (List.replicate m w).flatten
section
variable {P : D → Hd → Prop} {G : Hd}
end
def wordy (cs : Cs) : Prop := cs.length ≤ 5 ∧ marks cs ≤ 1 ∧ ∀ c ∈ cs, c < 0xd800
instance (cs : Cs) : Decidable (wordy cs) := by unfold wordy; infer_instance
namespace C09
def g_law_f1 (f_law_read_as f_law_due : Fn) : S :=
  (sIf (tNot (tTru (eCall f_law_read_as (aCons (eVar 5) (aCons (eCall f_law_due (aCons (eVar 5) aNil)) aNil)))))
    (sRet (eC (.bl false)))
    sNil)
def g_law_f2 (f_law_words f_law_grown f_law_read_as f_law_due : Fn) : S :=
  (sFor (iOf (eLst (aCons (eCall f_law_words (aCons (eVar 1) aNil)) (aCons (eCall f_law_grown (aCons (eVar 1) aNil)) aNil)))) (gName 5) (g_law_f1 f_law_read_as f_law_due))
def g_law (f_law_stream f_law_draw f_law_read_as f_law_pick f_law_words f_law_grown f_law_due : Fn) : S :=
  (sSeq (sSet 1 (eCall f_law_stream (aCons (eVar 0) aNil)))
  (sSeq (sSet 2 (eOp2 atD (eLst (aCons (eC (.int 9)) (aCons (eC (.int 60)) (aCons (eC (.int 700)) (aCons (eC (.int 3000)) aNil))))) (eCall f_law_draw (aCons (eVar 1) (aCons (eC (.int 4)) aNil)))))
  (sSeq (sSet 3 (eLst (aCons (eOp2 opMul (eC (.str (Str.ofString "["))) (eVar 2)) (aCons (eOp2 opMul (eC (.str (Str.ofString "{a: "))) (eVar 2)) (aCons (eOp2 opAdd (eC (.str (Str.ofString "{a: "))) (eOp2 opMul (eC (.str (Str.ofString "["))) (eVar 2))) (aCons (eOp2 opAdd (eC (.str (Str.ofString "{a: int}"))) (eOp2 opMul (eC (.str (Str.ofString "}"))) (eVar 2))) (aCons (eOp2 opAdd (eOp2 opMul (eC (.str (Str.ofString "]"))) (eVar 2)) (eOp2 opMul (eC (.str (Str.ofString "["))) (eVar 2))) (aCons (eOp2 opAdd (eOp2 opAdd (eC (.str (Str.ofString "{a: int"))) (eOp2 opMul (eC (.str (Str.ofString "?"))) (eVar 2))) (eC (.str (Str.ofString "}")))) aNil))))))))
  (sSeq (sSet 3 (eOp2 opAdd (eVar 3) (eLst (aCons (eOp2 opAdd (eOp2 opAdd (eOp2 opAdd (eOp2 opAdd (eC (.str (Str.ofString "{a: "))) (eOp2 opMul (eC (.str (Str.ofString "["))) (eVar 2))) (eC (.str (Str.ofString "int")))) (eOp2 opMul (eC (.str (Str.ofString "]"))) (eVar 2))) (eC (.str (Str.ofString "}")))) (aCons (eOp2 opAdd (eOp2 opAdd (eOp2 opMul (eC (.str (Str.ofString "{a: "))) (eVar 2)) (eC (.str (Str.ofString "int")))) (eOp2 opMul (eC (.str (Str.ofString "}"))) (eVar 2))) aNil)))))
  (sSeq (sIf (tOr (tNot (tTru (eCall f_law_read_as (aCons (eCall f_law_pick (aCons (eVar 1) (aCons (eVar 3) aNil))) (aCons (eC .non) aNil))))) (tNot (tTru (eCall f_law_read_as (aCons (eC (.str (Str.ofString ""))) (aCons (eC .non) aNil))))))
    (sRet (eC (.bl false)))
    sNil)
  (sSeq (sFor (iRng1 (eC (.int 5))) (gName 4) (g_law_f2 f_law_words f_law_grown f_law_read_as f_law_due))
  (sRet (eC (.bl true)))))))))
end C09
end D2
end
section
set_option linter.all false
set_option autoImplicit false
set_option maxRecDepth 100000
namespace D2
open PySem L2
end D2
end
section
set_option linter.all false
set_option autoImplicit false
set_option maxRecDepth 100000
namespace D2
open PySem L2
theorem join_sg : ∀ ws : List Cs, Str.join (Sg [44, 32]) (ws.map Sg) = Sg ((glue ws).drop 2)
  | [] => rfl
  | [x] => by simp [Str.join, glue]
  | x :: y :: r => by
    rw [List.map_cons, List.map_cons]
    unfold Str.join
    rw [← List.map_cons (f := Sg), join_sg (y :: r), sg_app, sg_app]
    congr 1
    simp [glue]
theorem join_sep {r : Nat} {ws : List Cs} {G : Hd} {P : D → Hd → Prop} (h : G[r]? = some (.lst (ws.map sg))) (hl : (glue ws).length ≤ 1000000) : Ok (mJoin (.str (Str.ofString ", ")) (.ref r) G) P = P (sg ((glue ws).drop 2)) G := by
  have e : ∀ ws : List Cs, strsD (ws.map sg) = some (ws.map Sg) := by
    intro ws
    induction ws with
    | nil => rfl
    | cons c cs ih =>
      rw [List.map_cons]
      unfold strsD
      rw [ih]
      rfl
  have sum : ∀ ws : List Cs, ((ws.map Sg).map (·.length)).sum + ws.length * 2 = (glue ws).length := by
    intro ws
    induction ws with
    | nil => rfl
    | cons c cs ih =>
      rw [List.map_cons, List.map_cons, List.sum_cons, sg_len, show glue (c :: cs) = (44 :: 32 :: c) ++ glue cs from rfl, List.length_append, List.length_cons, List.length_cons, List.length_cons, ← ih]
      omega
  unfold mJoin seqOf listOf
  dsimp only
  rw [h]
  dsimp only
  rw [Option.bind_some, e]
  dsimp only
  have z0 : (Str.ofString ", ").length = 2 := by decide +kernel
  rw [if_pos (by rw [z0, List.length_map, sum]; omega)]
  show P (.str (Txt.join (Str.ofString ", ") _)) G = _
  rw [show Txt.join (Str.ofString ", ") (ws.map Sg) = Str.join (Str.ofString ", ") (ws.map Sg) from StrLaws.glued_eq_join _ _, lit_comma, join_sg]
theorem fsh_glue : ∀ f : Fs, f.fsh = glue (f.l.map fieldT)
  | .nil => rfl
  | .cons n t r => by
    rw [Fs.fsh, fsh_glue r, Fs.l, List.map_cons, show glue (fieldT (n, t) :: r.l.map fieldT) = (44 :: 32 :: fieldT (n, t)) ++ glue (r.l.map fieldT) from rfl, fieldT]
    simp
mutual
theorem Ty2.nlp : ∀ t : Ty2, t.gd → 1 ≤ t.nl
  | .leaf _, _ => by rw [Ty2.nl]; omega
  | .lst t, g => by rw [Ty2.nl]; exact Ty2.nlp t g
  | .opt t, g => by rw [Ty2.nl]; exact Ty2.nlp t g.1
  | .rcd f, g => by rw [Ty2.nl]; exact Fs.nlp f g.1 g.2.2.2
theorem Fs.nlp : ∀ f : Fs, f.gd → f.names ≠ [] → 1 ≤ f.nl
  | .nil, _, h => (h rfl).elim
  | .cons n t r, g, _ => by rw [Fs.nl]; have := Ty2.nlp t g.2.1; omega
end
theorem mul_up {a b c k : Nat} (h : a ≤ b) (hc : k ≤ c) : a * c + k ≤ (b + 1) * c := by
  have := Nat.mul_le_mul_right c h
  rw [Nat.add_mul, Nat.one_mul]
  omega
mutual
theorem Ty2.sh_le : ∀ t : Ty2, t.gd → t.sh.length ≤ 20 * (t.dep * t.nl) ∧ marks t.sh ≤ t.dep * t.nl
  | .leaf k, _ => by cases k <;> exact ⟨by decide, by decide⟩
  | .lst t, g => by
    have h := Ty2.sh_le t g
    have p := Ty2.nlp t g
    have u := mul_up (Nat.le_refl t.dep) p
    rw [Ty2.dep, Ty2.nl, Ty2.sh, marks_cons, marks_app, show isMk 91 = true from rfl, if_pos rfl, show marks [93] = 0 from rfl]
    simp only [List.length_cons, List.length_append, List.length_nil]
    omega
  | .opt t, g => by
    have h := Ty2.sh_le t g.1
    have p := Ty2.nlp t g.1
    have u := mul_up (Nat.le_refl t.dep) p
    rw [Ty2.dep, Ty2.nl, Ty2.sh, marks_app, show marks [63] = 1 from rfl]
    simp only [List.length_cons, List.length_append, List.length_nil]
    omega
  | .rcd f, g => by
    obtain ⟨h1, h2, h3⟩ := Fs.sh_le f f.dep (Nat.le_refl _) g.1
    have p := Fs.nlp f g.1 g.2.2.2
    have u := mul_up (Nat.le_refl f.dep) p
    have l2 : 2 ≤ f.fsh.length := by
      cases f with
      | nil => exact (g.2.2.2 rfl).elim
      | cons n t r => rw [Fs.fsh]; simp
    rw [Ty2.dep, Ty2.nl, Ty2.sh, marks_cons, marks_app, show isMk 123 = true from rfl, if_pos rfl, show marks [125] = 0 from rfl]
    have := marks_drop (x := f.fsh) (n := 2)
    simp only [List.length_cons, List.length_append, List.length_nil, List.length_drop]
    omega
theorem Fs.sh_le : ∀ (f : Fs) (d : Nat), f.dep ≤ d → f.gd → f.fsh.length ≤ 20 * ((d + 1) * f.nl) ∧ marks f.fsh ≤ d * f.nl ∧ True
  | .nil, d, _, _ => ⟨by rw [Fs.fsh, List.length_nil]; omega, by rw [Fs.fsh]; show 0 ≤ _; omega, trivial⟩
  | .cons n t r, d, hd, g => by
    rw [Fs.dep] at hd
    have h := Ty2.sh_le t g.2.1
    have p := Ty2.nlp t g.2.1
    obtain ⟨h1, h2, _⟩ := Fs.sh_le r d (by omega) g.2.2
    have ln : (nmL n).length ≤ 12 := by unfold nmL; rw [List.length_map]; exact g.1.2.1
    have mn : marks (nmL n) = 0 := by
      unfold marks
      rw [List.countP_eq_zero]
      intro c hc
      obtain ⟨k, hk, rfl⟩ := List.mem_map.mp hc
      have := g.1.2.2 k hk
      simp [isMk]
      omega
    have u1 := mul_up (a := t.dep) (b := d) (c := t.nl) (k := t.nl) (by omega) (Nat.le_refl _)
    have u2 := Nat.mul_le_mul_right t.nl (show t.dep ≤ d by omega)
    have e1 : (d + 1) * (t.nl + r.nl) = (d + 1) * t.nl + (d + 1) * r.nl := Nat.mul_add ..
    have e2 : d * (t.nl + r.nl) = d * t.nl + d * r.nl := Nat.mul_add ..
    rw [Fs.nl, Fs.fsh, e1, e2, marks_cons, marks_cons, marks_app, marks_cons, marks_cons, marks_app, mn]
    simp only [List.length_cons, List.length_append, show isMk 44 = false from rfl, show isMk 32 = false from rfl, show isMk 58 = false from rfl, Bool.false_eq_true, if_false]
    refine ⟨by omega, by omega, trivial⟩
end
mutual
theorem Ty2.sh_chr : ∀ t : Ty2, t.gd → ∀ c ∈ t.sh, c < 0xd800
  | .leaf k, _ => by cases k <;> decide
  | .lst t, g => fun c hc => by
    rw [Ty2.sh] at hc
    simp only [List.mem_cons, List.mem_append, List.not_mem_nil, or_false] at hc
    rcases hc with rfl | hc | rfl
    · decide
    · exact Ty2.sh_chr t g c hc
    · decide
  | .opt t, g => fun c hc => by
    rw [Ty2.sh] at hc
    simp only [List.mem_cons, List.mem_append, List.not_mem_nil, or_false] at hc
    rcases hc with hc | rfl
    · exact Ty2.sh_chr t g.1 c hc
    · decide
  | .rcd f, g => fun c hc => by
    rw [Ty2.sh] at hc
    simp only [List.mem_cons, List.mem_append, List.not_mem_nil, or_false] at hc
    rcases hc with rfl | hc | rfl
    · decide
    · exact Fs.sh_chr f g.1 c (List.mem_of_mem_drop hc)
    · decide
theorem Fs.sh_chr : ∀ f : Fs, f.gd → ∀ c ∈ f.fsh, c < 0xd800
  | .nil, _ => fun c hc => by rw [Fs.fsh] at hc; cases hc
  | .cons n t r, g => fun c hc => by
    rw [Fs.fsh] at hc
    simp only [List.mem_cons, List.mem_append] at hc
    rcases hc with rfl | rfl | hc | rfl | rfl | hc | hc
    · decide
    · decide
    · obtain ⟨k, hk, rfl⟩ := List.mem_map.mp hc
      have := g.1.2.2 k hk
      omega
    · decide
    · decide
    · exact Ty2.sh_chr t g.2.1 c hc
    · exact Fs.sh_chr r g.2.2 c hc
end
def g_law_shown (f_law_shown : Fn) : S :=
  (sSeq (sIf (tBl (eOp2 cEq (eOp2 atD (eVar 0) (eC (.int 0))) (eC (.str (Str.ofString "opt")))))
    (sRet (eOp2 opAdd (eCall f_law_shown (aCons (eOp2 atD (eVar 0) (eC (.int 1))) aNil)) (eC (.str (Str.ofString "?")))))
    sNil)
  (sSeq (sIf (tBl (eOp2 cEq (eOp2 atD (eVar 0) (eC (.int 0))) (eC (.str (Str.ofString "list")))))
    (sRet (eOp2 opAdd (eOp2 opAdd (eC (.str (Str.ofString "["))) (eCall f_law_shown (aCons (eOp2 atD (eVar 0) (eC (.int 1))) aNil))) (eC (.str (Str.ofString "]")))))
    sNil)
  (sSeq (sIf (tBl (eOp2 cNe (eOp2 atD (eVar 0) (eC (.int 0))) (eC (.str (Str.ofString "rec")))))
    (sRet (eOp2 atD (eVar 0) (eC (.int 0))))
    sNil)
  (sRet (eOp2 opAdd (eOp2 opAdd (eC (.str (Str.ofString "{"))) (eMs mJoin (eC (.str (Str.ofString ", "))) (eLc [1] (iOf (eOp2 atD (eVar 0) (eC (.int 1)))) (gName 1) tYes (eOp2 opAdd (eOp2 opAdd (eOp2 atD (eVar 1) (eC (.int 0))) (eC (.str (Str.ofString ": ")))) (eCall f_law_shown (aCons (eOp2 atD (eVar 1) (eC (.int 1))) aNil)))))) (eC (.str (Str.ofString "}"))))))))
def ShOk (t : Ty2) (fn : Fn) : Prop := ∀ {G : Hd} {P : D → Hd → Prop}, (∀ G', Fr [] G G' → P (sg t.sh) G') → Ok (fn [t.enc] G) P
theorem shown_ok {n : Nat} {fs : Fn} (ih : ∀ t : Ty2, t.dep ≤ n → t.gd → t.sh.length ≤ 200000 → ShOk t fs) : ∀ t : Ty2, t.dep ≤ n + 1 → t.gd → t.sh.length ≤ 200000 → ShOk t (runFn 2 1 (g_law_shown fs)) := by
  intro t ht g hl G P hq
  refine ok_run rfl ?_
  show Sk (g_law_shown fs [some t.enc, none] G) (rtn P)
  unfold g_law_shown
  have lo : Str.ofString "?" = Sg [63] := lit_q
  cases t with
  | leaf k =>
    have n1 : k.s ≠ "opt" := by cases k <;> decide
    have n2 : k.s ≠ "list" := by cases k <;> decide
    have n3 : k.s ≠ "rec" := by cases k <;> decide
    simp -implicitDefEqProofs only [Ty2.enc, ↓mirs, n1, n2, n3, decide_false, Bool.not_false, Bool.false_eq_true, if_false, if_true]
    have := hq G .refl
    rw [Ty2.sh] at this
    rw [show sl k.s = sg (nmL k.s) from sl_nm _]
    exact this
  | opt t =>
    rw [Ty2.dep] at ht
    rw [Ty2.sh] at hl hq
    have hl' : t.sh.length ≤ 200000 := by rw [List.length_append] at hl; omega
    simp -implicitDefEqProofs only [Ty2.enc, ↓mirs, decide_true, if_true]
    refine ih t (by omega) g.1 hl' fun G1 f1 => ?_
    rw [lit_q, ok_addSg (by omega) (by decide)]
    exact hq G1 f1
  | lst t =>
    rw [Ty2.dep] at ht
    rw [Ty2.sh] at hl hq
    have hl' : t.sh.length ≤ 200000 := by rw [List.length_cons, List.length_append] at hl; omega
    simp -implicitDefEqProofs only [Ty2.enc, ↓mirs, String.reduceEq, decide_true, decide_false, Bool.false_eq_true, if_false, if_true]
    refine ih t (by omega) g hl' fun G1 f1 => ?_
    rw [lit_ob, lit_cb, ok_addSg (by decide) (by omega), ok_addSg (by rw [List.length_append, List.length_singleton]; omega) (by decide)]
    exact hq G1 f1
  | rcd f =>
    rw [Ty2.dep] at ht
    have fl := rcd_sh f
    rw [Ty2.sh] at hq
    have l8 : f.l.length ≤ 8 := by rw [Fs.l_length]; exact g.2.2.1
    simp -implicitDefEqProofs only [Ty2.enc, ↓mirs, String.reduceEq, decide_true, decide_false, Bool.not_true, Bool.false_eq_true, if_false, if_true]
    refine lc_fun (f.l.map fun q => sg (fieldT q)) (by rw [List.length_map, sizeLine_val]; omega) (fun G1 _ => by rw [it_seq, Fs.enc_fe, List.getElem?_eq_none (by rw [List.length_map, List.length_map]; exact Nat.le_refl _)]) (fun i z G1 hz f1 => ?_) fun G1 e1 f1 => ?_
    · rw [List.getElem?_map] at hz
      obtain ⟨q, hb, rfl⟩ := Option.map_eq_some_iff.mp hz
      have mem := List.mem_of_getElem? hb
      refine ⟨fe q, by rw [it_seq, Fs.enc_fe, List.getElem?_map, hb]; rfl, ?_⟩
      have dq := Fs.sh_mem mem
      have dd := Fs.mem_dep mem
      simp -implicitDefEqProofs only [wipeD, List.set_cons_zero, List.set_cons_succ, ↓mirs]
      rw [sl_nm q.1, lit_colon, ok_addSg (by omega) (by decide)]
      refine ih q.2 (by omega) (Fs.mem_gd g.1 mem).2 (by omega) fun G2 f2 => ?_
      rw [ok_addSg (by rw [List.length_append, show ([58, 32] : Cs).length = 2 from rfl]; omega) (by omega)]
      refine ⟨?_, f2⟩
      show D.str (Sg _) = D.str (Sg (fieldT q))
      unfold fieldT
      simp
    · have e1' : G1[G.length]? = some (.lst ((f.l.map fieldT).map sg)) := by rw [e1, List.map_map]; rfl
      rw [join_sep e1' (by rw [← fsh_glue]; omega), ← fsh_glue, lit_oc, lit_cc, ok_addSg (by decide) (by rw [List.length_drop]; omega), ok_addSg (by rw [List.length_append, List.length_drop, List.length_singleton]; omega) (by decide)]
      exact hq G1 f1
end D2
end
section
set_option linter.all false
set_option autoImplicit false
set_option maxRecDepth 100000
namespace D2
open PySem L2
structure Tb (L M : Nat) (cs : Cs) : Prop where
  len : cs.length ≤ L
  mks : marks cs ≤ M
  chr : ∀ c ∈ cs, c < 0xd800
theorem Tb.to {L M : Nat} {cs : Cs} (h : Tb L M cs) (hl : L ≤ 200000) : TO cs := ⟨Nat.le_trans h.len hl, h.chr⟩
theorem marks_le (x : Cs) : marks x ≤ x.length := List.countP_le_length
theorem marks_split (cs : Cs) (a : Nat) : marks (cs.take a) + marks (cs.drop a) = marks cs := by rw [← marks_app, List.take_append_drop]
theorem Tb.parts {L M : Nat} {cs x : Cs} {a k : Nat} (h : Tb L M cs) (hk : a ≤ k) (hx : x.length ≤ 8 ∧ ∀ c ∈ x, c < 0xd800) : Tb (L + 8) (M + 8) (cs.take a ++ x ++ cs.drop k) := by
  have hd : (cs.drop k).length ≤ (cs.drop a).length := by rw [List.length_drop, List.length_drop]; omega
  have hs : cs.drop k = (cs.drop a).drop (k - a) := by rw [List.drop_drop]; congr 1; omega
  have hm : marks (cs.drop k) ≤ marks (cs.drop a) := by rw [hs]; exact marks_drop
  have l0 : (cs.take a).length + (cs.drop a).length = cs.length := by rw [← List.length_append, List.take_append_drop]
  have m0 := marks_split cs a
  have mx := marks_le x
  have := h.len
  have := h.mks
  refine ⟨by rw [List.length_append, List.length_append]; omega, by rw [marks_app, marks_app]; omega, fun c hc => ?_⟩
  rcases List.mem_append.mp hc with hc | hc
  · rcases List.mem_append.mp hc with hc | hc
    · exact h.chr c (List.mem_of_mem_take hc)
    · exact hx.2 c hc
  · exact h.chr c (List.mem_of_mem_drop hc)
namespace C08
def g_law_turned (f_law_draw : Fn) : S :=
  (sSeq (sSet 2 (eCall f_law_draw (aCons (eVar 0) (aCons (eOp2 opAdd (eOp1 fLen (eVar 1)) (eC (.int 1))) aNil))))
  (sSeq (sSet 3 (eOp2 fMin (eOp1 fLen (eVar 1)) (eOp2 opAdd (eVar 2) (eCall f_law_draw (aCons (eVar 0) (aCons (eC (.int 9)) aNil))))))
  (sSeq (sSet 4 (eCall f_law_draw (aCons (eVar 0) (aCons (eC (.int 6)) aNil))))
  (sSeq (sSet 5 (eC (.str (Str.ofString "{}[]?:, abint_A0"))))
  (sSeq (sSet 6 (eOp2 atD (eVar 5) (eCall f_law_draw (aCons (eVar 0) (aCons (eOp1 fLen (eVar 5)) aNil)))))
  (sSeq (sIf (tBl (eOp2 cEq (eVar 4) (eC (.int 0))))
    (sRet (eOp2 opAdd (eOp2 opAdd (eSl (eVar 1) oNone (oSome (eVar 2))) (eVar 6)) (eSl (eVar 1) (oSome (eVar 2)) oNone)))
    sNil)
  (sSeq (sIf (tBl (eOp2 cEq (eVar 4) (eC (.int 1))))
    (sRet (eOp2 opAdd (eSl (eVar 1) oNone (oSome (eVar 2))) (eSl (eVar 1) (oSome (eOp2 opAdd (eVar 2) (eC (.int 1)))) oNone)))
    sNil)
  (sSeq (sIf (tBl (eOp2 cEq (eVar 4) (eC (.int 2))))
    (sRet (eOp2 opAdd (eOp2 opAdd (eSl (eVar 1) oNone (oSome (eVar 2))) (eVar 6)) (eSl (eVar 1) (oSome (eOp2 opAdd (eVar 2) (eC (.int 1)))) oNone)))
    sNil)
  (sSeq (sIf (tBl (eOp2 cEq (eVar 4) (eC (.int 3))))
    (sRet (eOp2 opAdd (eSl (eVar 1) oNone (oSome (eVar 2))) (eSl (eVar 1) (oSome (eVar 3)) oNone)))
    sNil)
  (sSeq (sIf (tBl (eOp2 cEq (eVar 4) (eC (.int 4))))
    (sRet (eOp2 opAdd (eOp2 opAdd (eSl (eVar 1) oNone (oSome (eVar 3))) (eSl (eVar 1) (oSome (eVar 2)) (oSome (eVar 3)))) (eSl (eVar 1) (oSome (eVar 3)) oNone)))
    sNil)
  (sSeq (sSet 7 (eOp2 opAdd (eSl (eVar 1) oNone (oSome (eVar 2))) (eSl (eVar 1) (oSome (eVar 3)) oNone)))
  (sSeq (sSet 8 (eCall f_law_draw (aCons (eVar 0) (aCons (eOp2 opAdd (eOp1 fLen (eVar 7)) (eC (.int 1))) aNil))))
  (sRet (eOp2 opAdd (eOp2 opAdd (eSl (eVar 7) oNone (oSome (eVar 8))) (eSl (eVar 1) (oSome (eVar 2)) (oSome (eVar 3)))) (eSl (eVar 7) (oSome (eVar 8)) oNone)))))))))))))))
def g_law_f1 (f_law_turned f_law_draw f_law_read_as f_law_due : Fn) : S :=
  (sSeq (sSet 5 (eCall f_law_turned (aCons (eVar 1) (aCons (eVar 3) aNil))))
  (sSeq (sIf (tBl (eOp2 cEq (eCall f_law_draw (aCons (eVar 1) (aCons (eC (.int 3)) aNil))) (eC (.int 0))))
    (sSet 5 (eCall f_law_turned (aCons (eVar 1) (aCons (eVar 5) aNil))))
    sNil)
  (sIf (tNot (tTru (eCall f_law_read_as (aCons (eVar 5) (aCons (eCall f_law_due (aCons (eVar 5) aNil)) aNil)))))
    (sRet (eC (.bl false)))
    sNil)))
def g_law (f_law_stream f_law_record f_law_draw f_law_shown f_law_read_as f_law_turned f_law_due : Fn) : S :=
  (sSeq (sSet 1 (eCall f_law_stream (aCons (eVar 0) aNil)))
  (sSeq (sSet 2 (eCall f_law_record (aCons (eVar 1) (aCons (eOp2 atD (eLst (aCons (eC (.int 2)) (aCons (eC (.int 3)) (aCons (eC (.int 5)) aNil)))) (eCall f_law_draw (aCons (eVar 1) (aCons (eC (.int 3)) aNil)))) (aCons (eOp2 atD (eLst (aCons (eC (.int 1)) (aCons (eC (.int 2)) (aCons (eC (.int 4)) (aCons (eC (.int 9)) aNil))))) (eCall f_law_draw (aCons (eVar 1) (aCons (eC (.int 4)) aNil)))) aNil)))))
  (sSeq (sSet 3 (eCall f_law_shown (aCons (eVar 2) aNil)))
  (sSeq (sIf (tNot (tTru (eCall f_law_read_as (aCons (eVar 3) (aCons (eVar 2) aNil)))))
    (sRet (eC (.bl false)))
    sNil)
  (sSeq (sFor (iRng1 (eC (.int 6))) (gName 4) (g_law_f1 f_law_turned f_law_draw f_law_read_as f_law_due))
  (sRet (eC (.bl true))))))))
end C08
def TuR (fn : Fn) : Prop := ∀ {s l L M : Nat} {cs : Cs} {G : Hd} {P : D → Hd → Prop}, StAt G s l → Tb L M cs → L ≤ 100000 → (∀ (cs' : Cs) (G' : Hd), Tb (L + 8) (M + 8) cs' → StAt G' s l → Fr [s] G G' → P (sg cs') G') → Ok (fn [.ref s, sg cs] G) P
def sgn : Cs := nmL "{}[]?:, abint_A0"
theorem turned_ok {fd : Fn} (hd : DrawOk fd) : TuR (runFn 9 2 (C08.g_law_turned fd)) := by
  intro s l L M cs G P h tb hL hq
  refine ok_run rfl ?_
  show Sk (C08.g_law_turned fd [some (.ref s), some (sg cs), none, none, none, none, none, none, none] G) (rtn P)
  unfold C08.g_law_turned
  have ht : TO cs := tb.to (by omega)
  have hlen := tb.len
  have sl16 : sgn.length = 16 := by decide
  have ts : TO sgn := to_lit (by decide)
  have es : Str.ofString "{}[]?:, abint_A0" = Sg sgn := ofS _
  have ej : ∀ n : Nat, ((n : Nat) : Int) + 1 = ((n + 1 : Nat) : Int) := fun n => by omega
  simp -implicitDefEqProofs only [↓minrs, ↓ok_lenSg ht, ej]
  refine hd h ⟨by omega, by omega⟩ fun v G1 v0 v1 h1 f1 => ?_
  obtain ⟨a, rfl⟩ := Int.eq_ofNat_of_zero_le v0
  have ha : a ≤ cs.length := by omega
  refine hd h1 (by decide) fun v G2 v0 v1 h2 f2 => ?_
  obtain ⟨w, rfl⟩ := Int.eq_ofNat_of_zero_le v0
  obtain ⟨b, hb, ab, bl, b8⟩ : ∃ b : Nat, (if ((a : Nat) : Int) + ((w : Nat) : Int) < ((cs.length : Nat) : Int) then ((a : Nat) : Int) + ((w : Nat) : Int) else ((cs.length : Nat) : Int)) = ((b : Nat) : Int) ∧ a ≤ b ∧ b ≤ cs.length ∧ b - a ≤ 8 := by
    split
    · exact ⟨a + w, by omega, by omega, by omega, by omega⟩
    · exact ⟨cs.length, rfl, ha, Nat.le_refl _, by omega⟩
  simp -implicitDefEqProofs only [↓minrs, hb]
  refine hd h2 (by decide) fun pick G3 p0 p1 h3 f3 => ?_
  simp -implicitDefEqProofs only [↓minrs, es, ↓ok_lenSg ts, sl16]
  refine hd h3 (by decide) fun v G4 v0 v1 h4 f4 => ?_
  obtain ⟨j, rfl⟩ := Int.eq_ofNat_of_zero_le v0
  have hj : j < sgn.length := by omega
  obtain ⟨c, hc⟩ : ∃ c, sgn[j]? = some c := ⟨sgn[j], List.getElem?_eq_getElem hj⟩
  have cc : c < 0xd800 := ts.chr c (List.mem_of_getElem? hc)
  have f04 : Fr [s] G G4 := f1.trans (f2.trans (f3.trans f4))
  rw [ok_atS (by rw [sl16, sizeLine_val]; decide) hc]
  have mid : ((cs.drop a).take (b - a)).length ≤ 8 ∧ ∀ c ∈ (cs.drop a).take (b - a), c < 0xd800 := ⟨by rw [List.length_take]; omega, fun c hc => tb.chr c (List.mem_of_mem_drop (List.mem_of_mem_take hc))⟩
  have one : ([c] : Cs).length ≤ 8 ∧ ∀ b ∈ [c], b < 0xd800 := ⟨by simp, by simpa using cc⟩
  have nil : ([] : Cs).length ≤ 8 ∧ ∀ b ∈ ([] : Cs), b < 0xd800 := ⟨by simp, by simp⟩
  have lt : ∀ n : Nat, (cs.take n).length ≤ 200000 := fun n => by rw [List.length_take]; omega
  have ld : ∀ n : Nat, (cs.drop n).length ≤ 200000 := fun n => by rw [List.length_drop]; omega
  have a1 : (((a : Nat) : Int) + 1) = ((a + 1 : Nat) : Int) := by omega
  have two : ∀ (x y : Cs) (G : Hd) (Q : D → Hd → Prop), x.length ≤ 200000 → y.length ≤ 200000 → Ok (opAdd (.str (Sg x)) (.str (Sg y)) G) Q = Q (sg (x ++ y)) G := fun x y G Q hx hy => ok_addSg (by omega) (by omega)
  have step : ∀ (Q : D → Hd → Prop) (G : Hd), True := fun _ _ => trivial
  rw [sk_if]
  simp -implicitDefEqProofs only [↓minrs]
  by_cases c0 : pick = 0
  · simp -implicitDefEqProofs only [c0, decide_true, if_true, ↓minrs, ↓ok_slSg ht, cut_toG, cut_fromG, ↓ok_addSg (show (cs.take a).length ≤ 1000000 by have := lt a; omega) (show ([c] : Cs).length ≤ 1000000 by simp), ↓ok_addSg (show (cs.take a ++ [c]).length ≤ 1000000 by have := lt a; rw [List.length_append, List.length_singleton]; omega) (show (cs.drop a).length ≤ 1000000 by have := ld a; omega)]
    exact hq _ G4 (tb.parts (Nat.le_refl a) one) h4 f04
  simp -implicitDefEqProofs only [c0, decide_false, Bool.false_eq_true, if_false, ↓minrs]
  rw [sk_if]
  simp -implicitDefEqProofs only [↓minrs]
  by_cases c1 : pick = 1
  · simp -implicitDefEqProofs only [c1, decide_true, if_true, ↓minrs, a1, ↓ok_slSg ht, cut_toG, cut_fromG, ↓ok_addSg (show (cs.take a).length ≤ 1000000 by have := lt a; omega) (show (cs.drop (a + 1)).length ≤ 1000000 by have := ld (a + 1); omega)]
    have := tb.parts (x := []) (show a ≤ a + 1 by omega) nil
    rw [List.append_nil] at this
    exact hq _ G4 this h4 f04
  simp -implicitDefEqProofs only [c1, decide_false, Bool.false_eq_true, if_false, ↓minrs]
  rw [sk_if]
  simp -implicitDefEqProofs only [↓minrs]
  by_cases c2 : pick = 2
  · simp -implicitDefEqProofs only [c2, decide_true, if_true, ↓minrs, a1, ↓ok_slSg ht, cut_toG, cut_fromG, ↓ok_addSg (show (cs.take a).length ≤ 1000000 by have := lt a; omega) (show ([c] : Cs).length ≤ 1000000 by simp), ↓ok_addSg (show (cs.take a ++ [c]).length ≤ 1000000 by have := lt a; rw [List.length_append, List.length_singleton]; omega) (show (cs.drop (a + 1)).length ≤ 1000000 by have := ld (a + 1); omega)]
    exact hq _ G4 (tb.parts (show a ≤ a + 1 by omega) one) h4 f04
  simp -implicitDefEqProofs only [c2, decide_false, Bool.false_eq_true, if_false, ↓minrs]
  rw [sk_if]
  simp -implicitDefEqProofs only [↓minrs]
  by_cases c3 : pick = 3
  · simp -implicitDefEqProofs only [c3, decide_true, if_true, ↓minrs, ↓ok_slSg ht, cut_toG, cut_fromG, ↓ok_addSg (show (cs.take a).length ≤ 1000000 by have := lt a; omega) (show (cs.drop b).length ≤ 1000000 by have := ld b; omega)]
    have := tb.parts (x := []) ab nil
    rw [List.append_nil] at this
    exact hq _ G4 this h4 f04
  simp -implicitDefEqProofs only [c3, decide_false, Bool.false_eq_true, if_false, ↓minrs]
  rw [sk_if]
  simp -implicitDefEqProofs only [↓minrs]
  by_cases c4 : pick = 4
  · simp -implicitDefEqProofs only [c4, decide_true, if_true, ↓minrs, ↓ok_slSg ht, cut_toG, cut_fromG, cut_mid, ↓ok_addSg (show (cs.take b).length ≤ 1000000 by have := lt b; omega) (show ((cs.drop a).take (b - a)).length ≤ 1000000 by have := mid.1; omega), ↓ok_addSg (show (cs.take b ++ (cs.drop a).take (b - a)).length ≤ 1000000 by have := lt b; have := mid.1; rw [List.length_append]; omega) (show (cs.drop b).length ≤ 1000000 by have := ld b; omega)]
    exact hq _ G4 (tb.parts (Nat.le_refl b) mid) h4 f04
  simp -implicitDefEqProofs only [c4, decide_false, Bool.false_eq_true, if_false, ↓minrs, ↓ok_slSg ht, cut_toG, cut_fromG, ↓ok_addSg (show (cs.take a).length ≤ 1000000 by have := lt a; omega) (show (cs.drop b).length ≤ 1000000 by have := ld b; omega)]
  have tl : Tb L M (cs.take a ++ cs.drop b) := by
    have hs : cs.drop b = (cs.drop a).drop (b - a) := by rw [List.drop_drop]; congr 1; omega
    have hm : marks (cs.drop b) ≤ marks (cs.drop a) := by rw [hs]; exact marks_drop
    have m0 := marks_split cs a
    have := tb.mks
    refine ⟨by rw [List.length_append, List.length_take, List.length_drop]; omega, by rw [marks_app]; omega, fun c hc => ?_⟩
    rcases List.mem_append.mp hc with hc | hc
    · exact tb.chr c (List.mem_of_mem_take hc)
    · exact tb.chr c (List.mem_of_mem_drop hc)
  generalize cs.take a ++ cs.drop b = left at tl
  have ht2 : TO left := tl.to (by omega)
  have ll := tl.len
  have lt2 : ∀ n : Nat, (left.take n).length ≤ 200000 := fun n => by rw [List.length_take]; omega
  have ld2 : ∀ n : Nat, (left.drop n).length ≤ 200000 := fun n => by rw [List.length_drop]; omega
  simp -implicitDefEqProofs only [↓minrs, ↓ok_lenSg ht2, ej]
  refine hd h4 ⟨by omega, by omega⟩ fun v G5 v0 v1 h5 f5 => ?_
  obtain ⟨q, rfl⟩ := Int.eq_ofNat_of_zero_le v0
  simp -implicitDefEqProofs only [↓minrs, ↓ok_slSg ht, ↓ok_slSg ht2, cut_toG, cut_fromG, cut_mid, ↓ok_addSg (show (left.take q).length ≤ 1000000 by have := lt2 q; omega) (show ((cs.drop a).take (b - a)).length ≤ 1000000 by have := mid.1; omega), ↓ok_addSg (show (left.take q ++ (cs.drop a).take (b - a)).length ≤ 1000000 by have := lt2 q; have := mid.1; rw [List.length_append]; omega) (show (left.drop q).length ≤ 1000000 by have := ld2 q; omega)]
  exact hq _ G5 (tl.parts (Nat.le_refl q) mid) h5 (f04.trans f5)
theorem law08Ok {fst fr fd fs fra ft fdu : Fn} {n : Nat} (hn : 61 < n)
    (hst : ∀ {ns : List Int} {G : Hd} {P : D → Hd → Prop}, (∀ (s l : Nat) (G' : Hd), StAt G' s l → G.length ≤ s → G.length ≤ l → Fr [] G G' → P (.ref s) G') → Ok (fst [.rol (ns.map .int)] G) P)
    (hre : ReOk 5 fr) (hd : DrawOk fd) (hsh : ∀ t : Ty2, t.dep ≤ 5 → t.gd → t.sh.length ≤ 200000 → ShOk t fs) (hra : RaOk fra) (htu : TuR ft) (hdu : DuOk n fdu) (ns : List Int) : Ok (runFn 6 1 (C08.g_law fst fr fd fs fra ft fdu) [.rol (ns.map .int)] []) fun v _ => v = .bl true := by
  refine ok_run rfl ?_
  show Sk (C08.g_law fst fr fd fs fra ft fdu [some (.rol (ns.map .int)), none, none, none, none, none] []) (rtn _)
  unfold C08.g_law
  simp -implicitDefEqProofs only [↓minrs]
  refine hst fun s l G0 h0 _ _ _ => ?_
  have nG0 : G0.length ∉ [s] := by have := h0.lt.1; simp; omega
  refine hd h0.app (by decide) fun v G1 v0 v1 h1 f1 => ?_
  refine ok_atAny (f1.at get_new nG0) v0 (by simpa using v1) fun x hx => ?_
  obtain ⟨dp, rfl, d5⟩ : ∃ d : Int, x = .int d ∧ d ≤ 5 := by
    simp only [List.mem_cons, List.not_mem_nil, or_false] at hx
    rcases hx with rfl | rfl | rfl
    · exact ⟨2, rfl, by decide⟩
    · exact ⟨3, rfl, by decide⟩
    · exact ⟨5, rfl, by decide⟩
  have nG1 : G1.length ∉ [s] := by have := h1.lt.1; simp; omega
  refine hd h1.app (by decide) fun v G2 v0 v1 h2 f2 => ?_
  refine ok_atAny (f2.at get_new nG1) v0 (by simpa using v1) fun x hx => ?_
  obtain ⟨mo, rfl, m1, m9⟩ : ∃ m : Nat, x = .int (m : Nat) ∧ 1 ≤ m ∧ m ≤ 9 := by
    simp only [List.mem_cons, List.not_mem_nil, or_false] at hx
    rcases hx with rfl | rfl | rfl | rfl
    · exact ⟨1, rfl, by decide, by decide⟩
    · exact ⟨2, rfl, by decide, by decide⟩
    · exact ⟨4, rfl, by decide, by decide⟩
    · exact ⟨9, rfl, by decide, by decide⟩
  refine hre (by omega) m1 (by omega) h2 fun f G3 g1 g2 g3 h3 f3 => ?_
  obtain ⟨b1, b2⟩ := Ty2.sh_le (.rcd f) g1
  have bb : (Ty2.rcd f).dep * (Ty2.rcd f).nl ≤ 45 := Nat.le_trans (Nat.mul_le_mul g2 (show (Ty2.rcd f).nl ≤ 9 by rw [Ty2.nl]; omega)) (by decide)
  have sc : Sc (.rcd f) := ⟨g1, by omega, by rw [Ty2.nl]; omega, rfl⟩
  have tb : Tb 900 45 (Ty2.rcd f).sh := ⟨by omega, by omega, Ty2.sh_chr _ g1⟩
  generalize Ty2.rcd f = K at g1 g2 b1 b2 bb sc tb
  refine hsh K g2 g1 (by omega) fun G4 f4 => ?_
  have h4 := h3.fr f4
  rw [sk_if]
  simp -implicitDefEqProofs only [↓minrs]
  refine hra (tb.to (by decide)) (told_sh sc) fun G5 f5 => ?_
  have h5 := h4.fr f5
  simp -implicitDefEqProofs only [↓minrs, Bool.not_true, Bool.false_eq_true, if_false]
  rw [show ((6 : Int)) = ((6 : Nat) : Int) from rfl, ok_itr1n (by decide)]
  refine loop_inv0 6 (fun i σ G6 => ∃ (a b y z : Option D), σ = [a, some (.ref s), b, some (sg K.sh), y, z] ∧ StAt G6 s l) ⟨_, _, _, _, rfl, h5⟩ (fun σ G6 _ => ⟨it_rng_end, trivial⟩) ?_
  rintro i σ G6 hi ⟨a, b, y, z, rfl, h6⟩
  refine ⟨_, it_rng hi, ?_⟩
  unfold C08.g_law_f1
  simp -implicitDefEqProofs only [↓minrs]
  refine htu h6 tb (by decide) fun c1 G7 t1 h7 f7 => ?_
  refine sk_part (fun σ G9 => ∃ (a b y : Option D) (c2 : Cs), σ = [a, some (.ref s), b, some (sg K.sh), y, some (sg c2)] ∧ Tb 916 61 c2 ∧ StAt G9 s l) ?_ ?_
  · rw [sk_if]
    simp -implicitDefEqProofs only [↓minrs]
    refine hd h7 (by decide) fun v G8 v0 v1 h8 f8 => ?_
    simp -implicitDefEqProofs only [↓minrs]
    by_cases c0 : v = 0
    · simp -implicitDefEqProofs only [c0, decide_true, if_true, ↓minrs]
      refine htu h8 t1 (by decide) fun c2 G9 t2 h9 f9 => ?_
      exact ⟨_, _, _, c2, rfl, t2, h9⟩
    · simp -implicitDefEqProofs only [c0, decide_false, Bool.false_eq_true, if_false, ↓minrs]
      exact ⟨_, _, _, c1, rfl, ⟨by have := t1.len; omega, by have := t1.mks; omega, t1.chr⟩, h8⟩
  · rintro σ G9 ⟨a, b, y, c2, rfl, t2, h9⟩
    rw [sk_if]
    simp -implicitDefEqProofs only [↓minrs]
    refine readDue hra hdu (t2.to (by decide)) (by have := t2.mks; omega) fun G10 f10 => ?_
    simp -implicitDefEqProofs only [↓minrs, Bool.not_true, Bool.false_eq_true, if_false]
    exact ⟨_, _, _, _, rfl, h9.fr f10⟩
end D2
end
section
set_option linter.all false
set_option autoImplicit false
set_option maxRecDepth 100000
namespace D2
open PySem L2 PyProof.Rows
def g_law_stream_f1 : S :=
  (sSet 1 (eOp2 opMod (eOp1 fInt (eOp2 opAdd (eOp2 opAdd (eOp2 opMul (eVar 1) (eC (.int 48271))) (eOp2 opMod (eOp1 fInt (eVar 2)) (eC (.int 65521)))) (eC (.int 1)))) (eC (.int 2147483647))))
def g_law_stream : S :=
  (sSeq (sSet 1 (eC (.int 17)))
  (sSeq (sFor (iOf (eVar 0)) (gName 2) g_law_stream_f1)
  (sRet (eLst (aCons (eOp1 fList (eVar 0)) (aCons (eC (.int 0)) (aCons (eC (.int 0)) (aCons (eVar 1) aNil))))))))
theorem streamOk {ns : List Int} {G : Hd} {P : D → Hd → Prop} (hq : ∀ (s l : Nat) (G' : Hd), StAt G' s l → G.length ≤ s → G.length ≤ l → Fr [] G G' → P (.ref s) G') : Ok (runFn 3 1 g_law_stream [.rol (ns.map .int)] G) P := by
  refine ok_run rfl ?_
  show Sk (g_law_stream [some (.rol (ns.map .int)), none, none] G) (rtn P)
  unfold g_law_stream
  simp -implicitDefEqProofs only [↓mirs]
  refine loop_inv0 ns.length (fun i σ G1 => ∃ (m : Int) (y : Option D), 0 ≤ m ∧ σ = [some (.rol (ns.map .int)), some (.int m), y] ∧ G1 = G) ⟨17, _, by decide, rfl, rfl⟩ ?_ ?_
  · rintro σ G1 ⟨m, y, hm, rfl, rfl⟩
    refine ⟨by rw [it_seq, List.getElem?_eq_none (by simp)], ?_⟩
    simp -implicitDefEqProofs only [↓mirs]
    refine hq _ G1.length _ ⟨?_, ns, 0, 0, m, get_new, get_app get_new, by decide, by decide, hm⟩ (by simp) (Nat.le_refl _) Fr.refl.app.app
    simp
  · rintro i σ G1 hi ⟨m, y, hm, rfl, rfl⟩
    have ex : ns[i]? = some ns[i] := List.getElem?_eq_getElem hi
    generalize ns[i] = z at ex
    refine ⟨.int z, by rw [it_seq, List.getElem?_map, ex]; rfl, ?_⟩
    unfold g_law_stream_f1
    have c1 : CMul m 48271 := .inr (by decide)
    have b1 : (0 : Int) < 65521 := by decide
    have b2 : (0 : Int) < 2147483647 := by decide
    simp -implicitDefEqProofs only [↓mirs, ↓ok_mul_int c1, ↓ok_mod_int b1, ↓ok_mod_int b2]
    exact ⟨_, _, Int.emod_nonneg _ (by decide), rfl, trivial⟩
end D2
end
section
set_option linter.all false
set_option maxRecDepth 100000
namespace L08
open PySem D2
theorem dn {p : Fn → Prop} {i m : Nat} (h : 1 ≤ m) (q : ∀ k, m = k + 1 → p (fn (run k) i)) : p (run m i) := by
  obtain ⟨k, rfl⟩ : ∃ k, m = k + 1 := ⟨m - 1, by omega⟩
  exact q k rfl
theorem stream {m : Nat} (h : 1 ≤ m) {ns : List Int} {G : Hd} {P : D → Hd → Prop} (hq : ∀ (s l : Nat) (G' : Hd), StAt G' s l → G.length ≤ s → G.length ≤ l → Fr [] G G' → P (.ref s) G') : Ok (run m 12 [.rol (ns.map .int)] G) P :=
  dn (i := 12) (p := fun f => Ok (f [.rol (ns.map .int)] G) P) h fun _ _ => streamOk hq
theorem draw {m : Nat} (h : 1 ≤ m) : DrawOk (run m 13) := dn (p := DrawOk) h fun _ _ => drawOk
theorem pick {m : Nat} (h : 2 ≤ m) : PickOk (run m 14) := dn (p := PickOk) (by omega) fun _ _ => pickOk (draw (by omega))
theorem same (n : Nat) : ∀ m : Nat, n ≤ m → Same2 n (run m 15) := by
  induction n with
  | zero => intro m _ x y G P hx; exact hx.elim
  | succ n ih => exact fun m h => dn (p := Same2 (n + 1)) (by omega) fun k e => same2Ok (ih k (by omega))
theorem lisname {m : Nat} (h : 1 ≤ m) : IsN (run m 19) := dn (p := IsN) h fun _ _ => isN
theorem count (n : Nat) : ∀ m : Nat, n + 2 ≤ m → CnOk n (run m 20) := by
  induction n with
  | zero => exact fun m h => dn (p := CnOk 0) (by omega) fun k e => cnOk (fc := run k 20) (fn := run k 19) (fun _ h => by omega) (lisname (by omega))
  | succ n ih => exact fun m h => dn (p := CnOk (n + 1)) (by omega) fun k e => cnOk (fc := run k 20) (fn := run k 19) (fun j hj => by
      obtain rfl : n = j := by omega
      exact ih k (by omega)) (lisname (by omega))
theorem lisschema {m : Nat} (h : 12 ≤ m) : IsSc (run m 21) := dn (p := IsSc) (by omega) fun k e => isSc (n := 8) (fc := run k 20) (by omega) (count 8 k (by omega))
theorem fieldsof {m : Nat} (h : 1 ≤ m) : FoOk (run m 23) := dn (p := FoOk) h fun _ _ => fieldsOf_ok
theorem kindof (n : Nat) : ∀ m : Nat, n + 1 ≤ m → KoOk n (run m 24) := by
  induction n with
  | zero => intro m _ cs G P ht hm; omega
  | succ n ih => exact fun m h => dn (p := KoOk (n + 1)) (by omega) fun k e => kindOf_ok (fk := run k 24) (ff := run k 23) (ih k (by omega)) (fieldsof (by omega))
theorem due {m : Nat} (h : 80 ≤ m) : DuOk 70 (run m 25) := dn (p := DuOk 70) (by omega) fun k e => due_ok (fk := run k 24) (fi := run k 21) (kindof 70 k (by omega)) (lisschema (by omega))
theorem isname {m : Nat} (h : 1 ≤ m) : IsN (run m 0) := dn (p := IsN) h fun _ _ => isN
theorem arefields {m : Nat} (h : 2 ≤ m) : AfOk (run m 1) := dn (p := AfOk) (by omega) fun k e => areFields_ok (fi := run k 0) (isname (by omega))
theorem partsof {m : Nat} (h : 3 ≤ m) : PtsOk (run m 2) := dn (p := PtsOk) (by omega) fun k e => partsOf_ok (fa := run k 1) (arefields (by omega))
theorem isschema {m : Nat} (h : 4 ≤ m) : ISch (run m 3) := dn (p := ISch) (by omega) fun k e => iSch_ok (fp := run k 2) (partsof (by omega))
theorem has {m : Nat} (h : 1 ≤ m) : HasOk (run m 5) := dn (p := HasOk) h fun _ _ => hasOk
theorem take {m : Nat} (h : 2 ≤ m) : TakeOk (run m 6) := dn (p := TakeOk) (by omega) fun k e => takeOk (fh := run k 5) (has (by omega))
theorem name {m : Nat} (h : 1 ≤ m) : NmR (run m 7) := dn (p := NmR) h fun _ _ => nmR
theorem kind (d : Nat) : ∀ m : Nat, 3 * d + 6 ≤ m → RdS d (run m 10) := by
  induction d with
  | zero => exact fun m h => dn (p := RdS 0) (by omega) fun k e => kindR_ok (fb := run k 9) (fh := run k 5) (dn (p := BrS 0) (by omega) fun j ej =>
      bareR_ok (fh := run j 5) (fk := run j 10) (ft := run j 6) (ff := run j 8) (fn := run j 7) (has (by omega)) (fun _ h => by omega) (take (by omega)) (fun _ h => by omega) (name (by omega))) (has (by omega))
  | succ d ih => exact fun m h => dn (p := RdS (d + 1)) (by omega) fun k e => kindR_ok (fb := run k 9) (fh := run k 5) (dn (p := BrS (d + 1)) (by omega) fun j ej =>
      bareR_ok (fh := run j 5) (fk := run j 10) (ft := run j 6) (ff := run j 8) (fn := run j 7) (has (by omega)) (fun i h => by
        obtain rfl : d = i := by omega
        exact ih j (by omega)) (take (by omega)) (fun i h => by
        obtain rfl : d = i := by omega
        exact dn (p := FdS d) (by omega) fun q eq => fieldR_ok (fn := run q 7) (ft := run q 6) (fk := run q 10) (name (by omega)) (take (by omega)) (ih q (by omega))) (name (by omega))) (has (by omega))
theorem readschema {m : Nat} (h : 40 ≤ m) : RsOk (run m 11) := dn (p := RsOk) (by omega) fun k e => readSchema_ok (fk := run k 10) (fi := run k 3) (kind 8 k (by omega)) (isschema (by omega))
theorem readas {m : Nat} (h : 50 ≤ m) : RaOk (run m 26) := dn (p := RaOk) (by omega) fun k e => readAs_ok (fr := run k 11) (fs := run k 15) (is := is_BadText) (x1 := xs_StripehallError) (x2 := xs_ValueError) (x3 := xs_BadFile) (by decide) (by decide) (by decide) (by decide) (readschema (by omega)) (same 30 k (by omega))
theorem nname {m : Nat} (h : 2 ≤ m) : NameOk (run m 16) := dn (p := NameOk) (by omega) fun k e => nameOk (fd := run k 13) (draw (by omega))
theorem kinds (n : Nat) : ∀ m : Nat, 2 * n + 5 ≤ m → KiOk (n + 1) (run m 18) ∧ ReOk (n + 2) (run (m + 1) 17) := by
  have re : ∀ m : Nat, 2 * n + 5 ≤ m → KiOk (n + 1) (run m 18) → ReOk (n + 2) (run (m + 1) 17) := fun m h a => recordOk (fk := run m 18) (fd := run m 13) (fn := run m 16) (draw (by omega)) (nname (by omega)) a
  induction n with
  | zero =>
    intro m h
    have a : KiOk 1 (run m 18) := dn (p := KiOk 1) (by omega) fun k e => kindOk (fd := run k 13) (fp := run k 14) (fk := run k 18) (fr := run k 17) (draw (by omega)) (pick (by omega)) (fun _ _ _ => by omega) (fun _ => by omega) (by omega)
    exact ⟨a, re m h a⟩
  | succ n ih =>
    intro m h
    have ih := ih fun m h a => recordOk (fk := run m 18) (fd := run m 13) (fn := run m 16) (draw (by omega)) (nname (by omega)) a
    have a : KiOk (n + 1 + 1) (run m 18) := dn (p := KiOk (n + 1 + 1)) (by omega) fun k e => kindOk (fd := run k 13) (fp := run k 14) (fk := run k 18) (fr := run k 17) (draw (by omega)) (pick (by omega)) (fun j ej _ => by
        obtain rfl : n + 1 = j := by omega
        exact (ih k (by omega)).1) (fun _ => by
        obtain ⟨k', rfl⟩ : ∃ k', k = k' + 1 := ⟨k - 1, by omega⟩
        exact (ih k' (by omega)).2) (by omega)
    exact ⟨a, re m h a⟩
theorem record : ReOk 5 (run 90 17) := (kinds 3 89 (by omega)).2
theorem shown (n : Nat) : ∀ m : Nat, n ≤ m → ∀ t : Ty2, t.dep ≤ n → t.gd → t.sh.length ≤ 200000 → ShOk t (run m 22) := by
  induction n with
  | zero => intro m _ t h; have := t.dep_pos; omega
  | succ n ih => exact fun m h => dn (p := fun f => ∀ t : Ty2, t.dep ≤ n + 1 → t.gd → t.sh.length ≤ 200000 → ShOk t f) (by omega) fun k e => shown_ok (fs := run k 22) (ih k (by omega))
theorem turned {m : Nat} (h : 2 ≤ m) : TuR (run m 27) := dn (p := TuR) (by omega) fun k e => turned_ok (fd := run k 13) (draw (by omega))
theorem law (ns : List Int) : Ok (lawRun 90 [.rol (ns.map .int)] []) fun v _ => v = .bl true :=
  law08Ok (n := 70) (fst := run 90 12) (fr := run 90 17) (fd := run 90 13) (fs := run 90 22) (fra := run 90 26) (ft := run 90 27) (fdu := run 90 25) (by decide) (stream (by omega)) record (draw (by omega)) (shown 5 90 (by omega)) (readas (by omega)) (turned (by omega)) (due (by omega)) ns
end L08
end
set_option linter.all false
open PySem PyProof.Rows D2
namespace L08
theorem goal (ns : List Int) : ∃ G', lawRun 90 [.rol (ns.map D.int)] [] = some (.ok (.bl true), G') := by
  obtain ⟨a, G', e, h⟩ := (law ns).ex
  exact ⟨G', h ▸ e⟩
theorem whole : PySem.Challenge.rw_stripehall_k08_spoilt_texts.row.Holds := L08.ends 90 ⟨rfl, by decide, by decide⟩ fun ns _ _ => L08.goal ns
end L08
set_option maxRecDepth 100000 in
set_option maxHeartbeats 0 in
theorem PySem.Challenge.cw_stripehall_k08_spoilt_texts_holds : PySem.Challenge.rw_stripehall_k08_spoilt_texts.Holds := by
  o_law
  exact L08.whole
